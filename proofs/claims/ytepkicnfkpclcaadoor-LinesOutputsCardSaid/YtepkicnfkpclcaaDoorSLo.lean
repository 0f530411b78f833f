import Derived.Test.YtepkicnfkpclcaaDoorP
import Derived.Test.YtepkicnfkpclcaaDoorllB5
/- The law of LinesOutputs from the contracts of its functions. -/
set_option linter.unusedVariables false
set_option linter.unusedSimpArgs false
namespace Tg
open Go Go.Abs
theorem rows_in {rows : List Rw} (h : ∀ e ∈ rows, wfL [.int .i64, .int .i64, .int .i64, .int .i64, .int .i64] e) : rows.all rowIn = true := by
  rw [List.all_eq_true]
  intro r hr
  obtain ⟨h1, h2, h3, h4, h5, _⟩ := h r hr
  unfold rowIn
  rw [wf64 h1, wf64 h2, wf64 h3, wf64 h4, wf64 h5]
  rfl
theorem recs_in {recs : List Rc} (h : ∀ e ∈ recs, wfL [.int .i64, .int .i64, .int .i64] e) : recs.all recIn = true := by
  rw [List.all_eq_true]
  intro r hr
  obtain ⟨h1, h2, h3, _⟩ := h r hr
  unfold recIn
  rw [wf64 h1, wf64 h2, wf64 h3]
  rfl
theorem loSpec : ∀ pas, POKAs con3.args pas → Spec Go.Proofs.Tryd.prog 3 pas [.c (.c (.bool true))] := law_of ok3 fun a hw => by
  obtain ⟨⟨rows, recs, u⟩, s, u'⟩ := a
  obtain ⟨⟨h1, h2, _⟩, _⟩ := hw
  exact outputs_true (rows, recs, ()) s (rows_in h1.2) (recs_in h2.2)
end Tg
