import Derived.Test.YtodnlpaialbceaaGreatDoorPA
import Derived.Test.YtodnlpaialbceaaGreatDoorlpB5
/- The law of LinesApart from the contracts of its functions. -/
set_option linter.unusedVariables false
set_option linter.unusedSimpArgs false
namespace Tg
open Go Go.Abs
theorem wf64 {n : Int} (h : (Lit.int .i64 n).wf = true) : in64 n = true := by
 simp only [Lit.wf, Bool.and_eq_true, decide_eq_true_eq] at h
 exact in64_i h.1 h.2
theorem rows_in {rows : List Rw} (h : ∀ e ∈ rows, wfL [.int .i64, .int .i64, .int .i64, .int .i64, .int .i64] e) : rows.all rowIn = true := by
 rw [List.all_eq_true]
 intro r hr
 obtain ⟨h1, h2, h3, h4, h5, _⟩ := h r hr
 unfold rowIn
 rw [wf64 h1, wf64 h2, wf64 h3, wf64 h4, wf64 h5]
 rfl
theorem recs_in {recs : List Rc} (h : ∀ e ∈ recs, wfL [.int .i64, .int .i64, .int .i64] e) : recs.all recIn = true := by
 rw [List.all_eq_true]
 intro r hr
 obtain ⟨h1, h2, h3, _⟩ := h r hr
 unfold recIn
 rw [wf64 h1, wf64 h2, wf64 h3]
 rfl
theorem lpSpec : ∀ pas, POKAs con4.args pas → Spec Go.Proofs.Tryz.prog 4 pas [.c (.c (.bool true))] := law_of ok4 fun a hw => by
 obtain ⟨⟨rows, recs, u⟩, ⟨rows2, recs2, u2⟩, l, k, g, h, u'⟩ := a
 obtain ⟨⟨h1, h2, _⟩, ⟨h3, h4, _⟩, _⟩ := hw
 exact apart_true (rows, recs, ()) (rows2, recs2, ()) l k g h (rows_in h1.2) (recs_in h2.2) (rows_in h3.2) (recs_in h4.2)
end Tg
