import Derived.Test.YtdfikojbpojmfaaGreatDoorJLn
import Derived.Test.YtdfikojbpojmfaaGreatDoorJP2
import Derived.Test.YtdfikojbpojmfaaGreatDoorLn4
import Derived.Test.YtdfikojbpojmfaaGreatDoorTie
import Derived.Test.YtdfikojbpojmfaaGreatDoorCards
/- The law LinesNames returns true: its one call is run by the kernel in a sound abstract machine. It has no arguments; the row lists the package's variables. -/
set_option linter.unusedVariables false
namespace Go.Proofs.YtdfikojbpojmfaaGreatDoor
open Go Go.ChangeShapes Go.WideShapes Go.ChangeAt Go.RowKit Go.Abs Tn

set_option maxRecDepth 100000 in
theorem lifted3 (os : Os) (started : os.Started) (H : Type) (enc : TypeId × Value → H) :
    ReturnsInHanded {} Tryz.checked os 3 .any (fun w args => (Rows.linesNamesSpec.pre enc Tryz.prog Tryz.f3 Rows.linesNamesRow.domain false w args ∧ laidMetH Tryz.prog laidN w) ∧ sizedMet enc Tryz.prog Tryz.f3 (OpenSpec.ofChange Rows.linesNamesSpec) false w args) (Rows.linesNamesSpec.post enc Tryz.prog Tryz.f3 false true false false) := by
  refine returnsInHanded_of_change_and (C := Tryz.checked) (X := fun w _ => laidMetH Tryz.prog laidN w) (fun _ _ _ hh h => h.of_heap hh) Tn.own started (by kernel_rfl) Tryz.func3
    (ChangeSpec.witness_shaped (enc := enc) (C := Tryz.checked) (os := os) (X := fun w _ => laidMetH Tryz.prog laidN w) false (laidWorld os) #[] 8 rfl (laidShaped os) (by kernel_rfl) (by kernel_rfl) (by kernel_rfl) (laidWorld_met os)) ?_
  intro W base args ds gs before hval0 hW hcnd _ hL _
  have hW' := hW
  obtain ⟨p, q, hA0, hV, rfl, hfz, hnd⟩ := hW
  have hA : DataW.TrodAll enc Tryz.prog W 0 (fun _ => true) true Tryz.f3.params.toList args.toList ds p := hA0
  rw [Tryz.params3] at hA
  obtain ⟨rfl, rfl, rfl⟩ := trodAll_none hA
  obtain ⟨rfl, rfl⟩ := trodVars_none hV
  clear hA0 hval0
  simp only [List.append_nil] at hW'
  refine (law_walk Tn.Ln.law W #[] (globOk_of hL) ⟨rfl, fun i x v h => by simp at h⟩).mono fun e W' ⟨he, hg⟩ => ?_
  subst he
  exact ⟨_, rfl, post_below (pa := []) (pv := []) hW' (fun _ _ _ => trodAll_mk1 (shut_bool Tryz.underlying4 _)) (fun sp _ => rfl) (fun _ _ => rfl) rfl hg (ok_one (by kernel_rfl) rfl (okWide_bool_mk Tryz.underlying4 _))⟩

theorem named3 : Tryz.pinned.checked.prog.funcNamed "tailwater/tailwaterlaw45.LinesNames" = some 3 := by kernel_rfl
theorem linesNames_holds : Rows.LinesNamesSaid :=
  OpenClaim.holds_of_wide 3 Tryz.f3 rfl rfl rfl rfl rfl rfl rfl ⟨rfl, rfl, rfl, rfl, rfl⟩ rfl rfl rfl rfl rfl named3 Tryz.func3 joinedLn
    (of_decide_eq_true (by kernel_rfl)) (by unfold Func.isWrapper; first | (rw [if_pos (by decide +kernel)]; kernel_rfl) | (rw [if_neg (by decide +kernel)]; exact ⟨rfl, rfl⟩))
    (fun os started H enc _ => lifted3 os started H enc)

theorem wf3 : Rows.linesNamesRow.wfByText (OpenSpec.ofChange Rows.linesNamesSpec) = true := by kernel_rfl
theorem goes3 : false = Rows.linesNamesRow.goesBy Tryz.pinned.checked.prog := by kernel_rfl
theorem linesNames_card : Rows.LinesNamesCardSaid :=
  Claim7.holds_tied_plain_at .later [] [.data, .data, .data, .data, .sentinel, .sentinel, .listed, .data, .pinned] true (true, "689379462a21858a6f466d75d236bebb33b51e92de2915221d9ce4d82a993398") true
    linesNames_holds (fun _ h => by cases h) wf3 (fun _ h => by cases h) linesNames_row_tie rfl ⟨rfl, rfl⟩ jMain rfl
    (fun f fn hf hfn => by
      obtain rfl : f = 3 := Option.some.inj (named3.symm.trans hf) |>.symm
      obtain rfl : fn = Tryz.f3 := (Option.some.inj (Tryz.func3.symm.trans hfn)).symm
      exact ⟨jLooks, fun j t ht => by
        rw [Tryz.params3] at ht
        simp at ht⟩)
    goes3
#print axioms linesNames_card
end Go.Proofs.YtdfikojbpojmfaaGreatDoor
