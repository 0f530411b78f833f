/- The law MarksNames returns true: its one call is run by the kernel in a sound abstract machine. It has no arguments and no conditions. -/
import Derived.Test.YtfdpoliibpelaaaAbsLaw
import Derived.Test.YtfdpoliibpelaaaAbsClone
import Derived.Test.YtfdpoliibpelaaaRows
import Derived.ProofKit
set_option linter.unusedVariables false
namespace Go.Proofs.Ytfdpoliibpelaaa
open Go.ChangeShapes Go.WideShapes Go.ChangeAt Go.RowKit Go.Abs

theorem own14 : ownKnob Try.prog.godebug = none := by kernel_rfl
def tab14 : List (FuncId × Nat × Nat × Nat × List AV) := [(50, 2, 1, 8, [.p (.int .i64 0)])]
theorem run14 : runF (cloneK tab14) (compFun Try.prog) (callable Try.prog) 100 20 14 [] = some [.c (.c (.bool true))] := by kernel_rfl
theorem tabOK14 : ∀ q ∈ tab14, compFun Try.prog q.1 = some (cloneAF q.2.1 q.2.2.1 q.2.2.2.1 q.2.2.2.2) ∧ q.2.2.2.2.length = q.2.2.1 ∧ 0 < q.2.2.1 := by
  intro q hq
  simp only [tab14, List.mem_cons, List.not_mem_nil, or_false] at hq
  try rcases hq with rfl
  all_goals exact ⟨by kernel_rfl, rfl, by decide⟩
theorem spec14 : Go.Abs.Spec Try.prog 14 [] [.c (.c (.bool true))] := (run_sound (cloneK_sound tabOK14) (fun f af h => h) (fun f h => h) 100 20).1 14 [] _ run14

set_option maxRecDepth 100000 in
theorem lifted14 (os : Os) (started : os.Started) (H : Type) (enc : TypeId × Value → H) :
    ReturnsInHanded {} Try.checked os 14 .any (Rows.marksNamesSpec.pre6 enc Try.prog Try.f14 Rows.marksNamesRow.domain false) (Rows.marksNamesSpec.post enc Try.prog Try.f14 false true false false) := by
  refine returnsInHanded_of_change (C := Try.checked) own14 started (by kernel_rfl) Try.func14
    (ChangeSpec.witness6 (enc := enc) (C := Try.checked) false ⟨#[], #[], []⟩ 8 (by kernel_rfl) (by kernel_rfl) (by kernel_rfl) (by kernel_rfl)) ?_
  intro W base args ds gs before hval0 hW hcnd _
  have hW' := hW
  obtain ⟨p, q, hA0, hV, rfl, hfz, hnd⟩ := hW
  have hA : DataW.TrodAll enc Try.prog W 0 (fun _ => true) true Try.f14.params.toList args.toList ds p := hA0
  rw [Try.params14] at hA
  obtain ⟨rfl, rfl, rfl⟩ := trodAll_none hA
  obtain ⟨rfl, rfl⟩ := trodVars_none hV
  clear hA0 hval0
  simp only [List.append_nil] at hW'
  refine (law_walk spec14 W #[] ⟨rfl, fun i x v h => by simp at h⟩).mono fun e W' ⟨he, hg⟩ => ?_
  subst he
  exact ⟨_, rfl, post_below (pa := []) (pv := []) hW' (fun _ _ _ => trodAll_mk1 (shut_bool Try.underlying4 _)) (fun sp _ => rfl) (fun _ _ => rfl) rfl hg (ok_one (by kernel_rfl) rfl (okWide_bool_mk Try.underlying4 _))⟩

theorem marksNames_holds : Rows.MarksNamesSaid :=
  OpenClaim.holds_of_wide 14 Try.f14 rfl rfl rfl rfl rfl rfl rfl ⟨rfl, rfl, rfl, rfl, rfl⟩ rfl rfl rfl rfl rfl (by kernel_rfl) Try.func14 (by kernel_rfl)
    (of_decide_eq_true (by kernel_rfl)) (by unfold Func.isWrapper; first | (rw [if_pos (by decide +kernel)]; kernel_rfl) | (rw [if_neg (by decide +kernel)]; exact ⟨rfl, rfl⟩))
    (fun os started H enc _ => lifted14 os started H enc)
#print axioms marksNames_holds
end Go.Proofs.Ytfdpoliibpelaaa
