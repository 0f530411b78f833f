import Derived.Test.YtenldcjkpgmpnaaGreatDoorTNL
import Derived.Test.YtenldcjkpgmpnaaGreatDoorTST
import Derived.Test.YtenldcjkpgmpnaaGreatDoorTie
import Derived.Test.YtenldcjkpgmpnaaGreatDoorCards
/- The closed facts of the row of BuildTwice. -/
set_option linter.unusedVariables false
set_option linter.unusedSimpArgs false
namespace Go.Proofs.YtenldcjkpgmpnaaGreatDoor
open Go Go.ChangeShapes Go.WideShapes Go.ChangeAt Go.RowKit Go.Abs Tg
theorem j1Tw:Rows.buildTwiceRow.wf (OpenSpec.ofChange Rows.buildTwiceSpec)=true:=by kernel_rfl
theorem j2Tw:(Rows.buildTwiceRow.inPlace==Tryz.pinned.checked.prog.inPlace 3)=true:=by kernel_rfl
theorem j3Tw:(Rows.buildTwiceRow.unfollowed==Tryz.pinned.checked.prog.unfollowed 3)=true:=by kernel_rfl
theorem j4Tw:(Rows.buildTwiceRow.recurses==Tryz.pinned.checked.prog.recurses 3)=true:=by kernel_rfl
theorem j5Tw:(Rows.buildTwiceRow.named==Tryz.pinned.checked.prog.varsNamed 3)=true:=by kernel_rfl
theorem Ykh:joinedFacts Tryz.pinned.checked.prog 3 Tryz.f3 Rows.buildTwiceSpec Rows.buildTwiceRow=true:=by unfold joinedFacts;rw [j1Tw,Yoc,Yun,j2Tw,j3Tw,j4Tw,j5Tw,Yrd,Yre,Yrf,Yuo];kernel_rfl
end Go.Proofs.YtenldcjkpgmpnaaGreatDoor

/- The law BuildTwice returns true for every input, from a contract of its function, read off the code by a sound machine. The row lists the package's variables; no other conditions. -/
namespace Go.Proofs.YtenldcjkpgmpnaaGreatDoor
open Go Go.ChangeShapes Go.WideShapes Go.ChangeAt Go.RowKit Go.Abs Tg

theorem ats3:Z4p Tryz.prog 20 Tryz.f3.params.toList=some Tg.con3.args:=by kernel_rfl
theorem rec3:(Tryz.f3.params.toList.all fun t=>Tryz.prog.readableRec t&&decide (t<Tryz.prog.types.size))=true:=by kernel_rfl
theorem len3:Tryz.f3.params.toList.length=5:=by kernel_rfl
set_option maxRecDepth 100000 in
theorem Ymy (os:Os)(started:os.Started)(H:Type)(enc:TypeId×Value->H) :
    ReturnsInHanded {} Tryz.checked os 3 .any (fun w args=>(Rows.buildTwiceSpec.pre enc Tryz.prog Tryz.f3 Rows.buildTwiceRow.domain false w args/\laidMetH Tryz.prog Zwz w)/\sizedMet enc Tryz.prog Tryz.f3 (OpenSpec.ofChange Rows.buildTwiceSpec) false w args) (Rows.buildTwiceSpec.post enc Tryz.prog Tryz.f3 false true false false):=by
  refine Yuq (C:=Tryz.checked) (X:=fun w _=>laidMetH Tryz.prog Zwz w) (fun _ _ _ hh h=>h.of_heap hh) Tg.own started (by kernel_rfl) Tryz.func3
   (ChangeSpec.witness_shaped (enc:=enc) (C:=Tryz.checked) (os:=os) (X:=fun w _=>laidMetH Tryz.prog Zwz w) false (Zrl os) #[.agg #[.int .u8 0,.slice none 0 0,.slice none 0 0,.bool false,.slice none 0 0,.int .u8 0,.int .i64 0,.int .i64 0,.bool false,.int .u8 0],.slice none 0 0,.int .i64 0,.int .i64 0,.int .i64 0] 8 rfl (Yag os _) (by kernel_rfl) (by kernel_rfl) (by kernel_rfl) (Zys os _)) ?_
  intro W base args ds gs before hval0 hW hL hsh;have hval:∀ (j:Nat) t v,Tryz.f3.params.toList[j]? = some t->args.toList[j]? = some v->Value.okWide Tryz.prog W .any base t v:=fun j t v h1 h2=>hval0 j t v (by simpa using h1) (by simpa using h2);have hW' := hW;obtain⟨p,q,hA0,hV,rfl,hfz,hnd⟩:=hW;have hA:DataW.TrodAll enc Tryz.prog W 0 (fun _=>true) true Tryz.f3.params.toList args.toList ds p:=hA0;obtain⟨rfl,rfl⟩:=trodVars_none hV;clear hA0 hval0;simp only [List.append_nil] at hW';have hlt:∀ x∈p,x.block<W.heap.size:=fun x hx=>by simpa using hW'.lt x hx
  obtain⟨pas,g1,g2,g3⟩:=Z4q ats3 hval hA;have hdl:=Zr0 hA;rw [len3] at hdl
  match ds,hdl,hW',hA with
  | [d0,d1,d2,d3,d4],_,hW',hA =>
  refine (Ye0 (Tg.Yrc pas g1) W args (Yee hL hsh) ⟨by simpa using g2.symm,fun i x v h1 h2=>g3 i x v h1 (by simpa using h2)⟩).mono fun e W' ⟨he,hg⟩=>?_;subst he;exact⟨_,rfl,Z7n (pa:=p) (pv:=[]) hW' (fun _ _ _=>trodAll_mk1 (shut_bool Tryz.underlying4 _)) (fun sp hsp=>Znb Yoc hg rec3 hA hlt (fun y hy=>hsp y (by simpa using hy))) (fun _ _=>rfl) (by simp) hg (ok_one (by kernel_rfl) rfl (okWide_bool_mk Tryz.underlying4 _))⟩

theorem Yki : Tryz.pinned.checked.prog.funcNamed "tailwater/tailwaterlaw36.BuildTwice" = some 3 := by kernel_rfl
theorem Zrm:Rows.BuildTwiceSaid :=
 OpenClaim.holds_of_wide 3 Tryz.f3 rfl rfl rfl rfl rfl rfl rfl ⟨rfl,rfl,rfl,rfl,rfl⟩ rfl rfl rfl rfl rfl Yki Tryz.func3 Ykh
  (of_decide_eq_true (by kernel_rfl)) (by unfold Func.isWrapper;first | (rw [if_pos (by decide +kernel)];kernel_rfl) | (rw [if_neg (by decide +kernel)];exact⟨rfl,rfl⟩))
  (fun os started H enc _=>Ymy os started H enc)

theorem wf3:Rows.buildTwiceRow.wfByText (OpenSpec.ofChange Rows.buildTwiceSpec)=true:=by kernel_rfl
theorem Yur:false=Rows.buildTwiceRow.goesBy Tryz.pinned.checked.prog:=by kernel_rfl
theorem Yrh:(Tryz.f3.params.toList.all fun t=>!(Tryz.pinned.checked.prog.wantsStandIn t))=true:=by kernel_rfl
theorem buildTwice_card:Rows.BuildTwiceCardSaid :=
 Claim7.holds_tied_plain_at .later [] [.data, .data, .data, .data, .sentinel, .sentinel, .listed, .data, .pinned] true (true, "e3f5836b4bfee733ae9b53450b9f901b45cd5aa1e73eb87823750533578d7a53") true
  Zrm (fun _ h=>by cases h) wf3 (fun _ h=>by cases h) buildTwice_row_tie rfl ⟨rfl,rfl⟩ Yup rfl
  (fun f fn hf hfn=>by obtain rfl:f=3:=J0a (Yki.symm.trans hf) |>.symm;obtain rfl:fn=Tryz.f3:=(J0a (Tryz.func3.symm.trans hfn)).symm;exact⟨Yrg,fun j t ht=>by have:=List.all_eq_true.1 Yrh t (J0j (by simpa using ht));simpa using this⟩)
  Yur
#print axioms buildTwice_card
end Go.Proofs.YtenldcjkpgmpnaaGreatDoor
