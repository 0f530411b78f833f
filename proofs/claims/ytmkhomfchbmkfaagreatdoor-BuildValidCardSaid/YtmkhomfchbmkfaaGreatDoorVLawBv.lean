import Derived.Test.YtmkhomfchbmkfaaGreatDoorVNL
import Derived.Test.YtmkhomfchbmkfaaGreatDoorVBF
import Derived.Test.YtmkhomfchbmkfaaGreatDoorTie
import Derived.Test.YtmkhomfchbmkfaaGreatDoorCards
/- The closed facts of the row of BuildValid. -/
set_option linter.unusedVariables false
set_option linter.unusedSimpArgs false
namespace Go.Proofs.YtmkhomfchbmkfaaGreatDoor
open Go Go.ChangeShapes Go.WideShapes Go.ChangeAt Go.RowKit Go.Abs Tg
theorem j1Bv:Rows.buildValidRow.wf (OpenSpec.ofChange Rows.buildValidSpec)=true:=by kernel_rfl
theorem j2Bv:(Rows.buildValidRow.inPlace==Tryz.pinned.checked.prog.inPlace 3)=true:=by kernel_rfl
theorem j3Bv:(Rows.buildValidRow.unfollowed==Tryz.pinned.checked.prog.unfollowed 3)=true:=by kernel_rfl
theorem j4Bv:(Rows.buildValidRow.recurses==Tryz.pinned.checked.prog.recurses 3)=true:=by kernel_rfl
theorem j5Bv:(Rows.buildValidRow.named==Tryz.pinned.checked.prog.varsNamed 3)=true:=by kernel_rfl
theorem Ymz:joinedFacts Tryz.pinned.checked.prog 3 Tryz.f3 Rows.buildValidSpec Rows.buildValidRow=true:=by unfold joinedFacts;rw [j1Bv,Yqo,Yw0,j2Bv,j3Bv,j4Bv,j5Bv,Ytn,Yto,Ytp,Yw1];kernel_rfl
end Go.Proofs.YtmkhomfchbmkfaaGreatDoor

/- The law BuildValid returns true for every input, from a contract of its function, read off the code by a sound machine. The row lists the package's variables; no other conditions. -/
namespace Go.Proofs.YtmkhomfchbmkfaaGreatDoor
open Go Go.ChangeShapes Go.WideShapes Go.ChangeAt Go.RowKit Go.Abs Tg

theorem ats3:Z6g Tryz.prog 20 Tryz.f3.params.toList=some Tg.con3.args:=by kernel_rfl
theorem rec3:(Tryz.f3.params.toList.all fun t=>Tryz.prog.readableRec t&&decide (t<Tryz.prog.types.size))=true:=by kernel_rfl
theorem len3:Tryz.f3.params.toList.length=4:=by kernel_rfl
set_option maxRecDepth 100000 in
theorem Ypd (os:Os)(started:os.Started)(H:Type)(enc:TypeId×Value->H) :
    ReturnsInHanded {} Tryz.checked os 3 .any (fun w args=>(Rows.buildValidSpec.pre enc Tryz.prog Tryz.f3 Rows.buildValidRow.domain false w args/\laidMetH Tryz.prog Zye w)/\sizedMet enc Tryz.prog Tryz.f3 (OpenSpec.ofChange Rows.buildValidSpec) false w args) (Rows.buildValidSpec.post enc Tryz.prog Tryz.f3 false true false false):=by
  refine Yw3 (C:=Tryz.checked) (X:=fun w _=>laidMetH Tryz.prog Zye w) (fun _ _ _ hh h=>h.of_heap hh) Tg.own started (by kernel_rfl) Tryz.func3
   (ChangeSpec.witness_shaped (enc:=enc) (C:=Tryz.checked) (os:=os) (X:=fun w _=>laidMetH Tryz.prog Zye w) false (Zsj os) #[.agg #[.int .u8 0,.slice none 0 0,.slice none 0 0,.bool false,.slice none 0 0,.int .u8 0,.int .i64 0,.int .i64 0,.bool false,.int .u8 0],.slice none 0 0,.int .i64 0,.int .i64 0] 8 rfl (Ycg os _) (by kernel_rfl) (by kernel_rfl) (by kernel_rfl) (Z0h os _)) ?_
  intro W base args ds gs before hval0 hW hL hsh;have hval:∀ (j:Nat) t v,Tryz.f3.params.toList[j]? = some t->args.toList[j]? = some v->Value.okWide Tryz.prog W .any base t v:=fun j t v h1 h2=>hval0 j t v (by simpa using h1) (by simpa using h2);have hW' := hW;obtain⟨p,q,hA0,hV,rfl,hfz,hnd⟩:=hW;have hA:DataW.TrodAll enc Tryz.prog W 0 (fun _=>true) true Tryz.f3.params.toList args.toList ds p:=hA0;obtain⟨rfl,rfl⟩:=trodVars_none hV;clear hA0 hval0;simp only [List.append_nil] at hW';have hlt:∀ x∈p,x.block<W.heap.size:=fun x hx=>by simpa using hW'.lt x hx
  obtain⟨pas,g1,g2,g3⟩:=Z6h ats3 hval hA;have hdl:=Zsy hA;rw [len3] at hdl
  match ds,hdl,hW',hA with
  | [d0,d1,d2,d3],_,hW',hA =>
  refine (Yg9 (Tg.Ytm pas g1) W args (Ygn hL hsh) ⟨by simpa using g2.symm,fun i x v h1 h2=>g3 i x v h1 (by simpa using h2)⟩).mono fun e W' ⟨he,hg⟩=>?_;subst he;exact⟨_,rfl,Z9d (pa:=p) (pv:=[]) hW' (fun _ _ _=>trodAll_mk1 (shut_bool Tryz.underlying4 _)) (fun sp hsp=>Zoo Yqo hg rec3 hA hlt (fun y hy=>hsp y (by simpa using hy))) (fun _ _=>rfl) (by simp) hg (ok_one (by kernel_rfl) rfl (okWide_bool_mk Tryz.underlying4 _))⟩

theorem Ym0 : Tryz.pinned.checked.prog.funcNamed "tailwater/tailwaterlaw36.BuildValid" = some 3 := by kernel_rfl
theorem Zsk:Rows.BuildValidSaid :=
 OpenClaim.holds_of_wide 3 Tryz.f3 rfl rfl rfl rfl rfl rfl rfl ⟨rfl,rfl,rfl,rfl,rfl⟩ rfl rfl rfl rfl rfl Ym0 Tryz.func3 Ymz
  (of_decide_eq_true (by kernel_rfl)) (by unfold Func.isWrapper;first | (rw [if_pos (by decide +kernel)];kernel_rfl) | (rw [if_neg (by decide +kernel)];exact⟨rfl,rfl⟩))
  (fun os started H enc _=>Ypd os started H enc)

theorem wf3:Rows.buildValidRow.wfByText (OpenSpec.ofChange Rows.buildValidSpec)=true:=by kernel_rfl
theorem Yw4:false=Rows.buildValidRow.goesBy Tryz.pinned.checked.prog:=by kernel_rfl
theorem Ytr:(Tryz.f3.params.toList.all fun t=>!(Tryz.pinned.checked.prog.wantsStandIn t))=true:=by kernel_rfl
theorem buildValid_card:Rows.BuildValidCardSaid :=
 Claim7.holds_tied_plain_at .later [] [.data, .data, .data, .data, .sentinel, .sentinel, .listed, .data, .pinned] true (true, "5267d813505cc4e12ca5c071992c7a5b488bdc188bbc18e9cf84f575aecc5c88") true
  Zsk (fun _ h=>by cases h) wf3 (fun _ h=>by cases h) buildValid_row_tie rfl ⟨rfl,rfl⟩ Yw2 rfl
  (fun f fn hf hfn=>by obtain rfl:f=3:=J0a (Ym0.symm.trans hf) |>.symm;obtain rfl:fn=Tryz.f3:=(J0a (Tryz.func3.symm.trans hfn)).symm;exact⟨Ytq,fun j t ht=>by have:=List.all_eq_true.1 Ytr t (J0j (by simpa using ht));simpa using this⟩)
  Yw4
#print axioms buildValid_card
end Go.Proofs.YtmkhomfchbmkfaaGreatDoor
