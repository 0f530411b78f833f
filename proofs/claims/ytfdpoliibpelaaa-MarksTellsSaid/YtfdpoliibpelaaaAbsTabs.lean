/- Tables of contracts. -/
import Derived.Test.YtfdpoliibpelaaaAbsSeg
set_option linter.unusedVariables false
namespace Go.Abs

def tabL : List (Nat × TCon) → Tab
  | [], _ => none
  | (g, c) :: rest, f => if g = f then some c else tabL rest f
def TabOK (P : Program) : List (Nat × TCon) → Prop
  | [] => True
  | (g, c) :: rest => c.ok P g ∧ callable P g = true ∧ TabOK P rest
theorem tabL_ok {P : Program} : ∀ {l : List (Nat × TCon)}, TabOK P l → (tabL l).ok P
  | [], _, f, c, h => by cases h
  | (g, d) :: rest, hl, f, c, h => by
    simp only [tabL] at h
    split at h
    · rename_i e
      obtain rfl := Option.some.inj h
      subst e
      exact hl.1
    · exact tabL_ok hl.2.2 f c h
theorem tabL_cb {P : Program} : ∀ {l : List (Nat × TCon)}, TabOK P l → ∀ f c, tabL l f = some c → callable P f = true
  | [], _, f, c, h => by cases h
  | (g, d) :: rest, hl, f, c, h => by
    simp only [tabL] at h
    split at h
    · rename_i e
      subst e
      exact hl.2.1
    · exact tabL_cb hl.2.2 f c h
/-- rounds, more than there are -/
def afOf (P : Program) (f : FuncId) : AFun := (compFun P f).getD default
def fuel : Nat := 1152921504606846976
end Go.Abs
