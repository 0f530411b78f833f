import Derived.Test.YtodnlpaialbceaaGreatDoorJPt
import Derived.Test.YtodnlpaialbceaaGreatDoorSLp
import Derived.Test.YtodnlpaialbceaaGreatDoorTie
import Derived.Test.YtodnlpaialbceaaGreatDoorCards
/- The law LinesApart returns true for every input, from a contract of its function, read off the code by a sound machine. The row lists the package's variables; no other conditions. -/
set_option linter.unusedVariables false
set_option linter.unusedSimpArgs false
namespace Go.Proofs.YtodnlpaialbceaaGreatDoor
open Go Go.ChangeShapes Go.WideShapes Go.ChangeAt Go.RowKit Go.Abs Tg

theorem ats4 : argTs Tryz.prog 20 Tryz.f4.params.toList = some Tg.con4.args := by kernel_rfl
theorem rec4 : (Tryz.f4.params.toList.all fun t => Tryz.prog.readableRec t && decide (t < Tryz.prog.types.size)) = true := by kernel_rfl
theorem len4 : Tryz.f4.params.toList.length = 6 := by kernel_rfl
set_option maxRecDepth 100000 in
theorem lifted4 (os : Os) (started : os.Started) (H : Type) (enc : TypeId × Value → H) :
    ReturnsInHanded {} Tryz.checked os 4 .any (fun w args => (Rows.linesApartSpec.pre enc Tryz.prog Tryz.f4 Rows.linesApartRow.domain false w args ∧ laidMetH Tryz.prog laidN w) ∧ sizedMet enc Tryz.prog Tryz.f4 (OpenSpec.ofChange Rows.linesApartSpec) false w args) (Rows.linesApartSpec.post enc Tryz.prog Tryz.f4 false true false false) := by
  refine wrapS (C := Tryz.checked) (X := fun w _ => laidMetH Tryz.prog laidN w) (fun _ _ _ hh h => h.of_heap hh) Tg.own started (by kernel_rfl) Tryz.func4
   (ChangeSpec.witness_shaped (enc := enc) (C := Tryz.checked) (os := os) (X := fun w _ => laidMetH Tryz.prog laidN w) false (laidWorld os) #[.agg #[.slice none 0 0, .slice none 0 0], .agg #[.slice none 0 0, .slice none 0 0], .slice none 0 0, .slice none 0 0, .agg #[.slice none 0 0, .slice none 0 0], .agg #[.slice none 0 0, .slice none 0 0]] 8 rfl (laidShaped os _) (by kernel_rfl) (by kernel_rfl) (by kernel_rfl) (laidWorld_met os _)) ?_
  intro W base args ds gs before hval0 hW hL hsh
  have hval : ∀ (j : Nat) t v, Tryz.f4.params.toList[j]? = some t → args.toList[j]? = some v → Value.okWide Tryz.prog W .any base t v := fun j t v h1 h2 => hval0 j t v (by simpa using h1) (by simpa using h2)
  have hW' := hW
  obtain ⟨p, q, hA0, hV, rfl, hfz, hnd⟩ := hW
  have hA : DataW.TrodAll enc Tryz.prog W 0 (fun _ => true) true Tryz.f4.params.toList args.toList ds p := hA0
  obtain ⟨rfl, rfl⟩ := trodVars_none hV
  clear hA0 hval0
  simp only [List.append_nil] at hW'
  have hlt : ∀ x ∈ p, x.block < W.heap.size := fun x hx => by simpa using hW'.lt x hx
  obtain ⟨pas, g1, g2, g3⟩ := args_pok ats4 hval hA
  have hdl := trodAll_len hA
  rw [len4] at hdl
  match ds, hdl, hW', hA with
  | [d0, d1, d2, d3, d4, d5], _, hW', hA =>
  refine (law_walk (Tg.lpSpec pas g1) W args (globOk_of hL hsh) ⟨by simpa using g2.symm, fun i x v h1 h2 => g3 i x v h1 (by simpa using h2)⟩).mono fun e W' ⟨he, hg⟩ => ?_
  subst he
  exact ⟨_, rfl, post_below (pa := p) (pv := []) hW' (fun _ _ _ => trodAll_mk1 (shut_bool Tryz.underlying4 _)) (fun sp hsp => trodAll_stays jLaid hg rec4 hA hlt (fun y hy => hsp y (by simpa using hy))) (fun _ _ => rfl) (by simp) hg (ok_one (by kernel_rfl) rfl (okWide_bool_mk Tryz.underlying4 _))⟩

theorem named4 : Tryz.pinned.checked.prog.funcNamed "tailwater/tailwaterlaw45.LinesApart" = some 4 := by kernel_rfl
theorem linesApart_holds : Rows.LinesApartSaid :=
 OpenClaim.holds_of_wide 4 Tryz.f4 rfl rfl rfl rfl rfl rfl rfl ⟨rfl, rfl, rfl, rfl, rfl⟩ rfl rfl rfl rfl rfl named4 Tryz.func4 joinedLp
  (of_decide_eq_true (by kernel_rfl)) (by unfold Func.isWrapper; first | (rw [if_pos (by decide +kernel)]; kernel_rfl) | (rw [if_neg (by decide +kernel)]; exact ⟨rfl, rfl⟩))
  (fun os started H enc _ => lifted4 os started H enc)

theorem wf4 : Rows.linesApartRow.wfByText (OpenSpec.ofChange Rows.linesApartSpec) = true := by kernel_rfl
theorem goes4 : false = Rows.linesApartRow.goesBy Tryz.pinned.checked.prog := by kernel_rfl
theorem stand4 : (Tryz.f4.params.toList.all fun t => !(Tryz.pinned.checked.prog.wantsStandIn t)) = true := by kernel_rfl
theorem linesApart_card : Rows.LinesApartCardSaid :=
 Claim7.holds_tied_plain_at .later [] [.data, .data, .data, .data, .sentinel, .sentinel, .pinned] true (true, "6f2461f034624202f4ca38262ceb8eaeec3b8d64ccfc17a3e590ba366b3027ae") true
  linesApart_holds (fun _ h => by cases h) wf4 (fun _ h => by cases h) linesApart_row_tie rfl ⟨rfl, rfl⟩ jMain rfl
  (fun f fn hf hfn => by
   obtain rfl : f = 4 := Option.some.inj (named4.symm.trans hf) |>.symm
   obtain rfl : fn = Tryz.f4 := (Option.some.inj (Tryz.func4.symm.trans hfn)).symm
   exact ⟨jLooks, fun j t ht => by
    have := List.all_eq_true.1 stand4 t (List.mem_of_getElem? (by simpa using ht))
    simpa using this⟩)
  goes4
#print axioms linesApart_card
end Go.Proofs.YtodnlpaialbceaaGreatDoor
