import Derived.Test.YtcignakdmepfmaaGreatDoorRJRu
import Derived.Test.YtcignakdmepfmaaGreatDoorRJP2
import Derived.Test.YtcignakdmepfmaaGreatDoorRRu5
import Derived.Test.YtcignakdmepfmaaGreatDoorTie
import Derived.Test.YtcignakdmepfmaaGreatDoorCards
/- The law RunNames returns true: its one call is run by the kernel in a sound abstract machine. It has no arguments; the row lists the package's variables. -/
set_option linter.unusedVariables false
namespace Go.Proofs.YtcignakdmepfmaaGreatDoor
open Go Go.ChangeShapes Go.WideShapes Go.ChangeAt Go.RowKit Go.Abs Tn

set_option maxRecDepth 100000 in
theorem lifted5 (os : Os) (started : os.Started) (H : Type) (enc : TypeId × Value → H) :
    ReturnsInHanded {} Tryz.checked os 5 .any (fun w args => (Rows.runNamesSpec.pre enc Tryz.prog Tryz.f5 Rows.runNamesRow.domain false w args ∧ laidMetH Tryz.prog laidN w) ∧ sizedMet enc Tryz.prog Tryz.f5 (OpenSpec.ofChange Rows.runNamesSpec) false w args) (Rows.runNamesSpec.post enc Tryz.prog Tryz.f5 false true false false) := by
  refine returnsInHanded_of_change_and (C := Tryz.checked) (X := fun w _ => laidMetH Tryz.prog laidN w) (fun _ _ _ hh h => h.of_heap hh) Tn.own started (by kernel_rfl) Tryz.func5
    (ChangeSpec.witness_shaped (enc := enc) (C := Tryz.checked) (os := os) (X := fun w _ => laidMetH Tryz.prog laidN w) false (laidWorld os) #[] 8 rfl (laidShaped os) (by kernel_rfl) (by kernel_rfl) (by kernel_rfl) (laidWorld_met os)) ?_
  intro W base args ds gs before hval0 hW hcnd _ hL _
  have hW' := hW
  obtain ⟨p, q, hA0, hV, rfl, hfz, hnd⟩ := hW
  have hA : DataW.TrodAll enc Tryz.prog W 0 (fun _ => true) true Tryz.f5.params.toList args.toList ds p := hA0
  rw [Tryz.params5] at hA
  obtain ⟨rfl, rfl, rfl⟩ := trodAll_none hA
  obtain ⟨rfl, rfl⟩ := trodVars_none hV
  clear hA0 hval0
  simp only [List.append_nil] at hW'
  refine (law_walk Tn.Ru.law W #[] (globOk_of hL) ⟨rfl, fun i x v h => by simp at h⟩).mono fun e W' ⟨he, hg⟩ => ?_
  subst he
  exact ⟨_, rfl, post_below (pa := []) (pv := []) hW' (fun _ _ _ => trodAll_mk1 (shut_bool Tryz.underlying4 _)) (fun sp _ => rfl) (fun _ _ => rfl) rfl hg (ok_one (by kernel_rfl) rfl (okWide_bool_mk Tryz.underlying4 _))⟩

theorem named5 : Tryz.pinned.checked.prog.funcNamed "tailwater/tailwaterlaw37.RunNames" = some 5 := by kernel_rfl
theorem runNames_holds : Rows.RunNamesSaid :=
  OpenClaim.holds_of_wide 5 Tryz.f5 rfl rfl rfl rfl rfl rfl rfl ⟨rfl, rfl, rfl, rfl, rfl⟩ rfl rfl rfl rfl rfl named5 Tryz.func5 joinedRu
    (of_decide_eq_true (by kernel_rfl)) (by unfold Func.isWrapper; first | (rw [if_pos (by decide +kernel)]; kernel_rfl) | (rw [if_neg (by decide +kernel)]; exact ⟨rfl, rfl⟩))
    (fun os started H enc _ => lifted5 os started H enc)

theorem wf5 : Rows.runNamesRow.wfByText (OpenSpec.ofChange Rows.runNamesSpec) = true := by kernel_rfl
theorem goes5 : false = Rows.runNamesRow.goesBy Tryz.pinned.checked.prog := by kernel_rfl
theorem runNames_card : Rows.RunNamesCardSaid :=
  Claim7.holds_tied_plain_at .later [] [.data, .data, .data, .data, .sentinel, .sentinel, .listed, .data, .pinned] true (true, "a626d5dfee934cf2d6fc92e1ef1e0a6358b4147dea123564d9cf70ac17e2b0bb") true
    runNames_holds (fun _ h => by cases h) wf5 (fun _ h => by cases h) runNames_row_tie rfl ⟨rfl, rfl⟩ jMain rfl
    (fun f fn hf hfn => by
      obtain rfl : f = 5 := Option.some.inj (named5.symm.trans hf) |>.symm
      obtain rfl : fn = Tryz.f5 := (Option.some.inj (Tryz.func5.symm.trans hfn)).symm
      exact ⟨jLooks, fun j t ht => by
        rw [Tryz.params5] at ht
        simp at ht⟩)
    goes5
#print axioms runNames_card
end Go.Proofs.YtcignakdmepfmaaGreatDoor
