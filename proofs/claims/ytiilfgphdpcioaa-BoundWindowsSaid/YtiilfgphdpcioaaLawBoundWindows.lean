import Derived.Test.YtiilfgphdpcioaaAbsRead
import Derived.Test.YtiilfgphdpcioaaS3
import Derived.Test.YtiilfgphdpcioaaRows
import Derived.ProofKit
/- The law BoundWindows returns true for every input, from a contract of its function. No conditions. -/
set_option linter.unusedVariables false
namespace Go.Proofs.Ytiilfgphdpcioaa
open Go.ChangeShapes Go.WideShapes Go.ChangeAt Go.RowKit Go.Abs

theorem own3 : ownKnob Try.prog.godebug = none := by kernel_rfl
theorem laid3 : laidOutB Try.prog = true := by kernel_rfl
theorem ats3 : argTs Try.prog 20 Try.f3.params.toList = some Tg.con3.args := by kernel_rfl
theorem rec3 : (Try.f3.params.toList.all fun t => Try.prog.readableRec t && decide (t < Try.prog.types.size)) = true := by kernel_rfl
theorem len3 : Try.f3.params.toList.length = 2 := by kernel_rfl

set_option maxRecDepth 100000 in
theorem lifted3 (os : Os) (started : os.Started) (H : Type) (enc : TypeId × Value → H) :
    ReturnsInHanded {} Try.checked os 3 .any (Rows.boundWindowsSpec.pre6 enc Try.prog Try.f3 Rows.boundWindowsRow.domain false) (Rows.boundWindowsSpec.post enc Try.prog Try.f3 false true false false) := by
  refine returnsInHanded_of_change (C := Try.checked) own3 started (by kernel_rfl) Try.func3
    (ChangeSpec.witness6 (enc := enc) (C := Try.checked) false ⟨#[], #[.agg #[.int .u8 0, .slice none 0 0, .slice none 0 0, .bool false, .slice none 0 0, .int .u8 0, .int .i64 0, .int .i64 0, .bool false, .int .u8 0], .int .i64 0], []⟩ 8 (by kernel_rfl) (by kernel_rfl) (by kernel_rfl) (by kernel_rfl)) ?_
  intro W base args ds gs before hval0 hW hcnd _
  have hval : ∀ (j : Nat) t v, Try.f3.params.toList[j]? = some t → args.toList[j]? = some v → Value.okWide Try.prog W .any base t v := fun j t v h1 h2 => hval0 j t v (by simpa using h1) (by simpa using h2)
  have hW' := hW
  obtain ⟨p, q, hA0, hV, rfl, hfz, hnd⟩ := hW
  have hA : DataW.TrodAll enc Try.prog W 0 (fun _ => true) true Try.f3.params.toList args.toList ds p := hA0
  obtain ⟨rfl, rfl⟩ := trodVars_none hV
  clear hA0 hval0
  simp only [List.append_nil] at hW'
  have hlt : ∀ x ∈ p, x.block < W.heap.size := fun x hx => by simpa using hW'.lt x hx
  obtain ⟨pas, g1, g2, g3⟩ := args_pok ats3 hval hA
  have hdl := trodAll_len hA
  rw [len3] at hdl
  match ds, hdl, hW', hA with
  | [d0, d1], _, hW', hA =>
  refine (law_walk (Tg.law3 pas g1) W args ⟨by simpa using g2.symm, fun i x v h1 h2 => g3 i x v h1 (by simpa using h2)⟩).mono fun e W' ⟨he, hg⟩ => ?_
  subst he
  exact ⟨_, rfl, post_below (pa := p) (pv := []) hW' (fun _ _ _ => trodAll_mk1 (shut_bool Try.underlying4 _)) (fun sp hsp => trodAll_stays laid3 hg rec3 hA hlt (fun y hy => hsp y (by simpa using hy))) (fun _ _ => rfl) (by simp) hg (ok_one (by kernel_rfl) rfl (okWide_bool_mk Try.underlying4 _))⟩

theorem boundWindows_holds : Rows.BoundWindowsSaid :=
  OpenClaim.holds_of_wide 3 Try.f3 rfl rfl rfl rfl rfl rfl rfl ⟨rfl, rfl, rfl, rfl, rfl⟩ rfl rfl rfl rfl rfl (by kernel_rfl) Try.func3 (by kernel_rfl)
    (of_decide_eq_true (by kernel_rfl)) (by unfold Func.isWrapper; first | (rw [if_pos (by decide +kernel)]; kernel_rfl) | (rw [if_neg (by decide +kernel)]; exact ⟨rfl, rfl⟩))
    (fun os started H enc _ => lifted3 os started H enc)
#print axioms boundWindows_holds
end Go.Proofs.Ytiilfgphdpcioaa
