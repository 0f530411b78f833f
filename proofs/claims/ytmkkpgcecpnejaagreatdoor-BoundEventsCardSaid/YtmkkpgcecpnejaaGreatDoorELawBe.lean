import Derived.Test.YtmkkpgcecpnejaaGreatDoorENL
import Derived.Test.YtmkkpgcecpnejaaGreatDoorEBE
import Derived.Test.YtmkkpgcecpnejaaGreatDoorTie
import Derived.Test.YtmkkpgcecpnejaaGreatDoorCards
/- The closed facts of the row of BoundEvents. -/
set_option linter.unusedVariables false
set_option linter.unusedSimpArgs false
namespace Go.Proofs.YtmkkpgcecpnejaaGreatDoor
open Go Go.ChangeShapes Go.WideShapes Go.ChangeAt Go.RowKit Go.Abs Tg
theorem j1Be:Rows.boundEventsRow.wf (OpenSpec.ofChange Rows.boundEventsSpec)=true:=by kernel_rfl
theorem j2Be:(Rows.boundEventsRow.inPlace==Tryz.pinned.checked.prog.inPlace 3)=true:=by kernel_rfl
theorem j3Be:(Rows.boundEventsRow.unfollowed==Tryz.pinned.checked.prog.unfollowed 3)=true:=by kernel_rfl
theorem j4Be:(Rows.boundEventsRow.recurses==Tryz.pinned.checked.prog.recurses 3)=true:=by kernel_rfl
theorem j5Be:(Rows.boundEventsRow.named==Tryz.pinned.checked.prog.varsNamed 3)=true:=by kernel_rfl
theorem Yf2:joinedFacts Tryz.pinned.checked.prog 3 Tryz.f3 Rows.boundEventsSpec Rows.boundEventsRow=true:=by unfold joinedFacts;rw [j1Be,Yjb,Yob,j2Be,j3Be,j4Be,j5Be,Yle,Ylf,Ylg,Yoc];kernel_rfl
end Go.Proofs.YtmkkpgcecpnejaaGreatDoor

/- The law BoundEvents returns true for every input, from a contract of its function, read off the code by a sound machine. The row lists the package's variables; no other conditions. -/
namespace Go.Proofs.YtmkkpgcecpnejaaGreatDoor
open Go Go.ChangeShapes Go.WideShapes Go.ChangeAt Go.RowKit Go.Abs Tg

theorem ats3:Z1p Tryz.prog 20 Tryz.f3.params.toList=some Tg.con3.args:=by kernel_rfl
theorem rec3:(Tryz.f3.params.toList.all fun t=>Tryz.prog.readableRec t&&decide (t<Tryz.prog.types.size))=true:=by kernel_rfl
theorem len3:Tryz.f3.params.toList.length=6:=by kernel_rfl
set_option maxRecDepth 100000 in
theorem Yh9 (os:Os)(started:os.Started)(H:Type)(enc:TypeId×Value->H) :
    ReturnsInHanded {} Tryz.checked os 3 .any (fun w args=>(Rows.boundEventsSpec.pre enc Tryz.prog Tryz.f3 Rows.boundEventsRow.domain false w args/\laidMetH Tryz.prog Zur w)/\sizedMet enc Tryz.prog Tryz.f3 (OpenSpec.ofChange Rows.boundEventsSpec) false w args) (Rows.boundEventsSpec.post enc Tryz.prog Tryz.f3 false true false false):=by
  refine Yoe (C:=Tryz.checked) (X:=fun w _=>laidMetH Tryz.prog Zur w) (fun _ _ _ hh h=>h.of_heap hh) Tg.own started (by kernel_rfl) Tryz.func3
   (ChangeSpec.witness_shaped (enc:=enc) (C:=Tryz.checked) (os:=os) (X:=fun w _=>laidMetH Tryz.prog Zur w) false (Zpg os) #[.agg #[.int .u8 0,.slice none 0 0,.slice none 0 0,.bool false,.slice none 0 0,.int .u8 0,.int .i64 0,.int .i64 0,.bool false,.int .u8 0],.slice none 0 0,.int .i64 0,.int .i64 0,.int .i64 0,.agg #[.bool false,.int .i64 0,.int .i64 0,.int .i64 0,.int .i64 0]] 8 rfl (Z6r os _) (by kernel_rfl) (by kernel_rfl) (by kernel_rfl) (Zwb os _)) ?_
  intro W base args ds gs before hval0 hW hL hsh;have hval:∀ (j:Nat) t v,Tryz.f3.params.toList[j]? = some t->args.toList[j]? = some v->Value.okWide Tryz.prog W .any base t v:=fun j t v h1 h2=>hval0 j t v (by simpa using h1) (by simpa using h2);have hW' := hW;obtain⟨p,q,hA0,hV,rfl,hfz,hnd⟩:=hW;have hA:DataW.TrodAll enc Tryz.prog W 0 (fun _=>true) true Tryz.f3.params.toList args.toList ds p:=hA0;obtain⟨rfl,rfl⟩:=trodVars_none hV;clear hA0 hval0;simp only [List.append_nil] at hW';have hlt:∀ x∈p,x.block<W.heap.size:=fun x hx=>by simpa using hW'.lt x hx
  obtain⟨pas,g1,g2,g3⟩:=Z1q ats3 hval hA;have hdl:=Zpu hA;rw [len3] at hdl
  match ds,hdl,hW',hA with
  | [d0,d1,d2,d3,d4,d5],_,hW',hA =>
  refine (Ya7 (Tg.Yld pas g1) W args (Yal hL hsh) ⟨by simpa using g2.symm,fun i x v h1 h2=>g3 i x v h1 (by simpa using h2)⟩).mono fun e W' ⟨he,hg⟩=>?_;subst he;exact⟨_,rfl,Z4p (pa:=p) (pv:=[]) hW' (fun _ _ _=>trodAll_mk1 (shut_bool Tryz.underlying4 _)) (fun sp hsp=>Zln Yjb hg rec3 hA hlt (fun y hy=>hsp y (by simpa using hy))) (fun _ _=>rfl) (by simp) hg (ok_one (by kernel_rfl) rfl (okWide_bool_mk Tryz.underlying4 _))⟩

theorem Yf3 : Tryz.pinned.checked.prog.funcNamed "tailwater/tailwaterlaw39.BoundEvents" = some 3 := by kernel_rfl
theorem Zoc:Rows.BoundEventsSaid :=
 OpenClaim.holds_of_wide 3 Tryz.f3 rfl rfl rfl rfl rfl rfl rfl ⟨rfl,rfl,rfl,rfl,rfl⟩ rfl rfl rfl rfl rfl Yf3 Tryz.func3 Yf2
  (of_decide_eq_true (by kernel_rfl)) (by unfold Func.isWrapper;first | (rw [if_pos (by decide +kernel)];kernel_rfl) | (rw [if_neg (by decide +kernel)];exact⟨rfl,rfl⟩))
  (fun os started H enc _=>Yh9 os started H enc)

theorem wf3:Rows.boundEventsRow.wfByText (OpenSpec.ofChange Rows.boundEventsSpec)=true:=by kernel_rfl
theorem Yof:false=Rows.boundEventsRow.goesBy Tryz.pinned.checked.prog:=by kernel_rfl
theorem Yli:(Tryz.f3.params.toList.all fun t=>!(Tryz.pinned.checked.prog.wantsStandIn t))=true:=by kernel_rfl
theorem boundEvents_card:Rows.BoundEventsCardSaid :=
 Claim7.holds_tied_plain_at .later [] [.data, .data, .data, .data, .sentinel, .sentinel, .listed, .data, .pinned] true (true, "7daa0b8cad089e8188904a77cbcd1b0084ae778187460032c4e64e34a53f2033") true
  Zoc (fun _ h=>by cases h) wf3 (fun _ h=>by cases h) boundEvents_row_tie rfl ⟨rfl,rfl⟩ Yod rfl
  (fun f fn hf hfn=>by obtain rfl:f=3:=J0a (Yf3.symm.trans hf) |>.symm;obtain rfl:fn=Tryz.f3:=(J0a (Tryz.func3.symm.trans hfn)).symm;exact⟨Ylh,fun j t ht=>by have:=List.all_eq_true.1 Yli t (J0j (by simpa using ht));simpa using this⟩)
  Yof
#print axioms boundEvents_card
end Go.Proofs.YtmkkpgcecpnejaaGreatDoor
