/- slices.Clone, typed. -/
import Derived.Test.YtfdpoliibpelaaaAbsTabs
import Derived.Test.YtfdpoliibpelaaaAbsClone
set_option linter.unusedVariables false
namespace Go.Abs

def cloned {α : Type} (bytes : Nat) (l : List α) : Option (List α × Unit) := bif bigOk l.length bytes then some (l, ()) else none
def cloneCon (e size bytes : Nat) (ts : List CT) : TCon := ⟨[.c (.sl ts)], [.c (.s e size ts)], fun a => cloned (α := denL ts) bytes a.1⟩
theorem cloneCon_ok {P : Program} {f : FuncId} {e size bytes : Nat} {zero : List AV} {ts : List CT} (hf : compFun P f = some (cloneAF e size bytes zero)) (hz : zero.length = size) (h0 : 0 < size) (ht : ts.length = size) : (cloneCon e size bytes ts).ok P f := fun a r h => by
  have h : cloned (α := denL ts) bytes a.1 = some r := h
  unfold cloned at h
  obtain ⟨h1, h2⟩ := cond_t h
  obtain rfl := Option.some.inj h2
  have hb := bigOk_s h1
  exact Spec_clone (es := List.map (pvL ts) (show List (denL ts) from a.1)) hf hz h0 (sizesP ht _) (by rw [List.length_map]; exact hb.1) (by rw [List.length_map]; exact hb.2)
end Go.Abs
