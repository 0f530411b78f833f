import Derived.Test.YtfdgpbehbpldfaaGreatAbsB6
/- Nothing is known of the package's variables; shapes' short names. -/
namespace Tg
instance globTriv : Go.Abs.Glob := ⟨0, fun _ => True, fun _ _ _ _ => trivial⟩
theorem globOk (B : Nat) (w : Go.World) : Go.Abs.GlobOk B w := ⟨Nat.zero_le _, trivial⟩
open Go.Abs
abbrev qi : List Sh := [.c (.p (.int .i64))]
abbrev qb : List Sh := [.c (.p (.bool))]
abbrev qn (n : Nat) : List Sh := List.replicate n (.c .any)
abbrev qc (l : List (List Sh)) : List Sh := l.flatten
end Tg
