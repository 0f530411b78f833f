import Derived.Test.YtepkicnfkpclcaaDoorAbsRead
import Derived.Test.YtepkicnfkpclcaaDoorJLo
import Derived.Test.YtepkicnfkpclcaaDoorSLo
import Derived.Test.YtepkicnfkpclcaaDoorTie
import Derived.Test.YtepkicnfkpclcaaDoorCards
/- The law LinesOutputs returns true for every input, from a contract of its function, read off the code by a sound machine. The row lists the package's variables; no other conditions. -/
set_option linter.unusedVariables false
set_option linter.unusedSimpArgs false
namespace Go.Proofs.YtepkicnfkpclcaaDoor
open Go Go.ChangeShapes Go.WideShapes Go.ChangeAt Go.RowKit Go.Abs Tg

theorem ats3 : argTs Tryd.prog 20 Tryd.f3.params.toList = some Tg.con3.args := by kernel_rfl
theorem rec3 : (Tryd.f3.params.toList.all fun t => Tryd.prog.readableRec t && decide (t < Tryd.prog.types.size)) = true := by kernel_rfl
theorem len3 : Tryd.f3.params.toList.length = 2 := by kernel_rfl
set_option maxRecDepth 100000 in
theorem lifted3 (os : Os) (started : os.Started) (H : Type) (enc : TypeId × Value → H) :
    ReturnsInHanded {} Tryd.checked os 3 .any (fun w args => (Rows.linesOutputsSpec.pre enc Tryd.prog Tryd.f3 Rows.linesOutputsRow.domain false w args ∧ laidMetH Tryd.prog laidN w) ∧ sizedMet enc Tryd.prog Tryd.f3 (OpenSpec.ofChange Rows.linesOutputsSpec) false w args) (Rows.linesOutputsSpec.post enc Tryd.prog Tryd.f3 false true false false) := by
  refine wrapS (C := Tryd.checked) (X := fun w _ => laidMetH Tryd.prog laidN w) (fun _ _ _ hh h => h.of_heap hh) Tg.own started (by kernel_rfl) Tryd.func3
    (ChangeSpec.witness_shaped (enc := enc) (C := Tryd.checked) (os := os) (X := fun w _ => laidMetH Tryd.prog laidN w) false (laidWorld os) #[.agg #[.slice none 0 0, .slice none 0 0], .string ⟨#[]⟩] 8 rfl (laidShaped os _) (by kernel_rfl) (by kernel_rfl) (by kernel_rfl) (laidWorld_met os _)) ?_
  intro W base args ds gs before hval0 hW hL hsh
  have hval : ∀ (j : Nat) t v, Tryd.f3.params.toList[j]? = some t → args.toList[j]? = some v → Value.okWide Tryd.prog W .any base t v := fun j t v h1 h2 => hval0 j t v (by simpa using h1) (by simpa using h2)
  have hW' := hW
  obtain ⟨p, q, hA0, hV, rfl, hfz, hnd⟩ := hW
  have hA : DataW.TrodAll enc Tryd.prog W 0 (fun _ => true) true Tryd.f3.params.toList args.toList ds p := hA0
  obtain ⟨rfl, rfl⟩ := trodVars_none hV
  clear hA0 hval0
  simp only [List.append_nil] at hW'
  have hlt : ∀ x ∈ p, x.block < W.heap.size := fun x hx => by simpa using hW'.lt x hx
  obtain ⟨pas, g1, g2, g3⟩ := args_pok ats3 hval hA
  have hdl := trodAll_len hA
  rw [len3] at hdl
  match ds, hdl, hW', hA with
  | [d0, d1], _, hW', hA =>
  refine (law_walk (Tg.loSpec pas g1) W args (globOk_of hL hsh) ⟨by simpa using g2.symm, fun i x v h1 h2 => g3 i x v h1 (by simpa using h2)⟩).mono fun e W' ⟨he, hg⟩ => ?_
  subst he
  exact ⟨_, rfl, post_below (pa := p) (pv := []) hW' (fun _ _ _ => trodAll_mk1 (shut_bool Tryd.underlying4 _)) (fun sp hsp => trodAll_stays jLaid hg rec3 hA hlt (fun y hy => hsp y (by simpa using hy))) (fun _ _ => rfl) (by simp) hg (ok_one (by kernel_rfl) rfl (okWide_bool_mk Tryd.underlying4 _))⟩

theorem named3 : Tryd.pinned.checked.prog.funcNamed "tailwater/tailwaterlaw45.LinesOutputs" = some 3 := by kernel_rfl
theorem linesOutputs_holds : Rows.LinesOutputsSaid :=
  OpenClaim.holds_of_wide 3 Tryd.f3 rfl rfl rfl rfl rfl rfl rfl ⟨rfl, rfl, rfl, rfl, rfl⟩ rfl rfl rfl rfl rfl named3 Tryd.func3 joinedLo
    (of_decide_eq_true (by kernel_rfl)) (by unfold Func.isWrapper; first | (rw [if_pos (by decide +kernel)]; kernel_rfl) | (rw [if_neg (by decide +kernel)]; exact ⟨rfl, rfl⟩))
    (fun os started H enc _ => lifted3 os started H enc)

theorem wf3 : Rows.linesOutputsRow.wfByText (OpenSpec.ofChange Rows.linesOutputsSpec) = true := by kernel_rfl
theorem goes3 : false = Rows.linesOutputsRow.goesBy Tryd.pinned.checked.prog := by kernel_rfl
theorem stand3 : (Tryd.f3.params.toList.all fun t => !(Tryd.pinned.checked.prog.wantsStandIn t)) = true := by kernel_rfl
theorem linesOutputs_card : Rows.LinesOutputsCardSaid :=
  Claim7.holds_tied_plain_at .later [] [.data, .data, .data, .data, .sentinel, .sentinel, .pinned] true (true, "ccc7d6b389969b214ca4da95f0ccb5a437f0b4bc64fd87ab7156c342e5350795") true
    linesOutputs_holds (fun _ h => by cases h) wf3 (fun _ h => by cases h) linesOutputs_row_tie rfl ⟨rfl, rfl⟩ jMain rfl
    (fun f fn hf hfn => by
      obtain rfl : f = 3 := Option.some.inj (named3.symm.trans hf) |>.symm
      obtain rfl : fn = Tryd.f3 := (Option.some.inj (Tryd.func3.symm.trans hfn)).symm
      exact ⟨jLooks, fun j t ht => by
        have := List.all_eq_true.1 stand3 t (List.mem_of_getElem? (by simpa using ht))
        simpa using this⟩)
    goes3
#print axioms linesOutputs_card
end Go.Proofs.YtepkicnfkpclcaaDoor
