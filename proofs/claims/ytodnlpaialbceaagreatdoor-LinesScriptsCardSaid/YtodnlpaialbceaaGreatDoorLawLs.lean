import Derived.Test.YtodnlpaialbceaaGreatDoorAbsRead
import Derived.Test.YtodnlpaialbceaaGreatDoorJLs
import Derived.Test.YtodnlpaialbceaaGreatDoorSLs
import Derived.Test.YtodnlpaialbceaaGreatDoorTie
import Derived.Test.YtodnlpaialbceaaGreatDoorCards
/- The law LinesScripts returns true for every input, from a contract of its function, read off the code by a sound machine. The row lists the package's variables; no other conditions. -/
set_option linter.unusedVariables false
set_option linter.unusedSimpArgs false
namespace Go.Proofs.YtodnlpaialbceaaGreatDoor
open Go Go.ChangeShapes Go.WideShapes Go.ChangeAt Go.RowKit Go.Abs Tg

theorem ats3 : argTs Tryz.prog 20 Tryz.f3.params.toList = some Tg.con3.args := by kernel_rfl
theorem rec3 : (Tryz.f3.params.toList.all fun t => Tryz.prog.readableRec t && decide (t < Tryz.prog.types.size)) = true := by kernel_rfl
theorem len3 : Tryz.f3.params.toList.length = 3 := by kernel_rfl
set_option maxRecDepth 100000 in
theorem lifted3 (os : Os) (started : os.Started) (H : Type) (enc : TypeId × Value → H) :
    ReturnsInHanded {} Tryz.checked os 3 .any (fun w args => (Rows.linesScriptsSpec.pre enc Tryz.prog Tryz.f3 Rows.linesScriptsRow.domain false w args ∧ laidMetH Tryz.prog laidN w) ∧ sizedMet enc Tryz.prog Tryz.f3 (OpenSpec.ofChange Rows.linesScriptsSpec) false w args) (Rows.linesScriptsSpec.post enc Tryz.prog Tryz.f3 false true false false) := by
  refine wrapS (C := Tryz.checked) (X := fun w _ => laidMetH Tryz.prog laidN w) (fun _ _ _ hh h => h.of_heap hh) Tg.own started (by kernel_rfl) Tryz.func3
    (ChangeSpec.witness_shaped (enc := enc) (C := Tryz.checked) (os := os) (X := fun w _ => laidMetH Tryz.prog laidN w) false (laidWorld os) #[.slice none 0 0, .string ⟨#[]⟩, .agg #[.slice none 0 0, .slice none 0 0]] 8 rfl (laidShaped os _) (by kernel_rfl) (by kernel_rfl) (by kernel_rfl) (laidWorld_met os _)) ?_
  intro W base args ds gs before hval0 hW hL hsh
  have hval : ∀ (j : Nat) t v, Tryz.f3.params.toList[j]? = some t → args.toList[j]? = some v → Value.okWide Tryz.prog W .any base t v := fun j t v h1 h2 => hval0 j t v (by simpa using h1) (by simpa using h2)
  have hW' := hW
  obtain ⟨p, q, hA0, hV, rfl, hfz, hnd⟩ := hW
  have hA : DataW.TrodAll enc Tryz.prog W 0 (fun _ => true) true Tryz.f3.params.toList args.toList ds p := hA0
  obtain ⟨rfl, rfl⟩ := trodVars_none hV
  clear hA0 hval0
  simp only [List.append_nil] at hW'
  have hlt : ∀ x ∈ p, x.block < W.heap.size := fun x hx => by simpa using hW'.lt x hx
  obtain ⟨pas, g1, g2, g3⟩ := args_pok ats3 hval hA
  have hdl := trodAll_len hA
  rw [len3] at hdl
  match ds, hdl, hW', hA with
  | [d0, d1, d2], _, hW', hA =>
  refine (law_walk (Tg.lsSpec pas g1) W args (globOk_of hL hsh) ⟨by simpa using g2.symm, fun i x v h1 h2 => g3 i x v h1 (by simpa using h2)⟩).mono fun e W' ⟨he, hg⟩ => ?_
  subst he
  exact ⟨_, rfl, post_below (pa := p) (pv := []) hW' (fun _ _ _ => trodAll_mk1 (shut_bool Tryz.underlying4 _)) (fun sp hsp => trodAll_stays jLaid hg rec3 hA hlt (fun y hy => hsp y (by simpa using hy))) (fun _ _ => rfl) (by simp) hg (ok_one (by kernel_rfl) rfl (okWide_bool_mk Tryz.underlying4 _))⟩

theorem named3 : Tryz.pinned.checked.prog.funcNamed "tailwater/tailwaterlaw45.LinesScripts" = some 3 := by kernel_rfl
theorem linesScripts_holds : Rows.LinesScriptsSaid :=
  OpenClaim.holds_of_wide 3 Tryz.f3 rfl rfl rfl rfl rfl rfl rfl ⟨rfl, rfl, rfl, rfl, rfl⟩ rfl rfl rfl rfl rfl named3 Tryz.func3 joinedLs
    (of_decide_eq_true (by kernel_rfl)) (by unfold Func.isWrapper; first | (rw [if_pos (by decide +kernel)]; kernel_rfl) | (rw [if_neg (by decide +kernel)]; exact ⟨rfl, rfl⟩))
    (fun os started H enc _ => lifted3 os started H enc)

theorem wf3 : Rows.linesScriptsRow.wfByText (OpenSpec.ofChange Rows.linesScriptsSpec) = true := by kernel_rfl
theorem goes3 : false = Rows.linesScriptsRow.goesBy Tryz.pinned.checked.prog := by kernel_rfl
theorem stand3 : (Tryz.f3.params.toList.all fun t => !(Tryz.pinned.checked.prog.wantsStandIn t)) = true := by kernel_rfl
theorem linesScripts_card : Rows.LinesScriptsCardSaid :=
  Claim7.holds_tied_plain_at .later [] [.data, .data, .data, .data, .sentinel, .sentinel, .pinned] true (true, "6f2461f034624202f4ca38262ceb8eaeec3b8d64ccfc17a3e590ba366b3027ae") true
    linesScripts_holds (fun _ h => by cases h) wf3 (fun _ h => by cases h) linesScripts_row_tie rfl ⟨rfl, rfl⟩ jMain rfl
    (fun f fn hf hfn => by
      obtain rfl : f = 3 := Option.some.inj (named3.symm.trans hf) |>.symm
      obtain rfl : fn = Tryz.f3 := (Option.some.inj (Tryz.func3.symm.trans hfn)).symm
      exact ⟨jLooks, fun j t ht => by
        have := List.all_eq_true.1 stand3 t (List.mem_of_getElem? (by simpa using ht))
        simpa using this⟩)
    goes3
#print axioms linesScripts_card
end Go.Proofs.YtodnlpaialbceaaGreatDoor
