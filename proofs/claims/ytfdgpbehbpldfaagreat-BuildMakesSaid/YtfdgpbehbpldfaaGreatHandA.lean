import Derived.Test.YtfdgpbehbpldfaaGreatAbsB6
/- Contracts that are given by hand: their plain functions. -/
set_option linter.unusedVariables false
namespace Tg
def in64 (x : Int) : Bool := decide (-9223372036854775808 ≤ x) && decide (x ≤ 9223372036854775807)
def dedupI : List (Int × Unit) → List Int → List Int
  | [], acc => acc
  | x :: l, acc => dedupI l (if acc.contains x.1 then acc else acc ++ [x.1])
def clauses_distinct_int_ (a0 : List (Int × Unit)) : Option (Int × Unit) := bif a0.all (fun x => in64 x.1) && decide (a0.length < 9223372036854775807) then some (Int.ofNat (dedupI a0 []).length, ()) else none
end Tg
