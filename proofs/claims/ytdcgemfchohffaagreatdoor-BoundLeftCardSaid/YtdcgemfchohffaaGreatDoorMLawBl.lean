import Derived.Test.YtdcgemfchohffaaGreatDoorMJPt
import Derived.Test.YtdcgemfchohffaaGreatDoorMBK
import Derived.Test.YtdcgemfchohffaaGreatDoorTie
import Derived.Test.YtdcgemfchohffaaGreatDoorCards
/- The closed facts of the row of BoundLeft. -/
set_option linter.unusedVariables false
set_option linter.unusedSimpArgs false
namespace Go.Proofs.YtdcgemfchohffaaGreatDoor
open Go Go.ChangeShapes Go.WideShapes Go.ChangeAt Go.RowKit Go.Abs Tg
theorem j1Bl:Rows.boundLeftRow.wf (OpenSpec.ofChange Rows.boundLeftSpec)=true:=by kernel_rfl
theorem j2Bl:(Rows.boundLeftRow.inPlace==Tryz.pinned.checked.prog.inPlace 4)=true:=by kernel_rfl
theorem j3Bl:(Rows.boundLeftRow.unfollowed==Tryz.pinned.checked.prog.unfollowed 4)=true:=by kernel_rfl
theorem j4Bl:(Rows.boundLeftRow.recurses==Tryz.pinned.checked.prog.recurses 4)=true:=by kernel_rfl
theorem j5Bl:(Rows.boundLeftRow.named==Tryz.pinned.checked.prog.varsNamed 4)=true:=by kernel_rfl
theorem Yfr:joinedFacts Tryz.pinned.checked.prog 4 Tryz.f4 Rows.boundLeftSpec Rows.boundLeftRow=true:=by unfold joinedFacts;rw [j1Bl,Z8w,Yiz,j2Bl,j3Bl,j4Bl,j5Bl,Yfl,Yfm,Yfn,Yi0];kernel_rfl
end Go.Proofs.YtdcgemfchohffaaGreatDoor

/- The law BoundLeft returns true for every input, from a contract of its function, read off the code by a sound machine. The row lists the package's variables; no other conditions. -/
namespace Go.Proofs.YtdcgemfchohffaaGreatDoor
open Go Go.ChangeShapes Go.WideShapes Go.ChangeAt Go.RowKit Go.Abs Tg

theorem ats4:Zxc Tryz.prog 20 Tryz.f4.params.toList=some Tg.con4.args:=by kernel_rfl
theorem rec4:(Tryz.f4.params.toList.all fun t=>Tryz.prog.readableRec t&&decide (t<Tryz.prog.types.size))=true:=by kernel_rfl
theorem len4:Tryz.f4.params.toList.length=1:=by kernel_rfl
set_option maxRecDepth 100000 in
theorem Yhw (os:Os)(started:os.Started)(H:Type)(enc:TypeId×Value→H) :
    ReturnsInHanded {} Tryz.checked os 4 .any (fun w args=>(Rows.boundLeftSpec.pre enc Tryz.prog Tryz.f4 Rows.boundLeftRow.domain false w args∧laidMetH Tryz.prog Zmo w)∧sizedMet enc Tryz.prog Tryz.f4 (OpenSpec.ofChange Rows.boundLeftSpec) false w args) (Rows.boundLeftSpec.post enc Tryz.prog Tryz.f4 false true false false):=by
  refine Yi2 (C:=Tryz.checked) (X:=fun w _=>laidMetH Tryz.prog Zmo w) (fun _ _ _ hh h=>h.of_heap hh) Tg.own started (by kernel_rfl) Tryz.func4
   (ChangeSpec.witness_shaped (enc:=enc) (C:=Tryz.checked) (os:=os) (X:=fun w _=>laidMetH Tryz.prog Zmo w) false (Zl1 os) #[.agg #[.int .u8 0,.slice none 0 0,.slice none 0 0,.bool false,.slice none 0 0,.int .u8 0,.int .i64 0,.int .i64 0,.bool false,.int .u8 0,.slice none 0 0,.slice none 0 0,.slice none 0 0,.slice none 0 0]] 8 rfl (Zva os _) (by kernel_rfl) (by kernel_rfl) (by kernel_rfl) (Zmp os _)) ?_
  intro W base args ds gs before hval0 hW hL hsh;have hval:∀ (j:Nat) t v,Tryz.f4.params.toList[j]? = some t→args.toList[j]? = some v→Value.okWide Tryz.prog W .any base t v:=fun j t v h1 h2=>hval0 j t v (by simpa using h1) (by simpa using h2);have hW' := hW;obtain⟨p,q,hA0,hV,rfl,hfz,hnd⟩:=hW;have hA:DataW.TrodAll enc Tryz.prog W 0 (fun _=>true) true Tryz.f4.params.toList args.toList ds p:=hA0;obtain⟨rfl,rfl⟩:=trodVars_none hV;clear hA0 hval0;simp only [List.append_nil] at hW';have hlt:∀ x∈p,x.block<W.heap.size:=fun x hx=>by simpa using hW'.lt x hx
  obtain⟨pas,g1,g2,g3⟩:=Zs3 ats4 hval hA;have hdl:=Zjb hA;rw [len4] at hdl
  match ds,hdl,hW',hA with
  | [d0],_,hW',hA =>
  refine (Z1g (Tg.Yk6 pas g1) W args (Zyu hL hsh) ⟨by simpa using g2.symm,fun i x v h1 h2=>g3 i x v h1 (by simpa using h2)⟩).mono fun e W' ⟨he,hg⟩=>?_;subst he;exact⟨_,rfl,Zsm (pa:=p) (pv:=[]) hW' (fun _ _ _=>trodAll_mk1 (shut_bool Tryz.underlying4 _)) (fun sp hsp=>Zgi Z8w hg rec4 hA hlt (fun y hy=>hsp y (by simpa using hy))) (fun _ _=>rfl) (by simp) hg (ok_one (by kernel_rfl) rfl (okWide_bool_mk Tryz.underlying4 _))⟩

theorem Yfs : Tryz.pinned.checked.prog.funcNamed "tailwater/tailwaterlaw39.BoundLeft" = some 4 := by kernel_rfl
theorem Zrg:Rows.BoundLeftSaid :=
 OpenClaim.holds_of_wide 4 Tryz.f4 rfl rfl rfl rfl rfl rfl rfl ⟨rfl,rfl,rfl,rfl,rfl⟩ rfl rfl rfl rfl rfl Yfs Tryz.func4 Yfr
  (of_decide_eq_true (by kernel_rfl)) (by unfold Func.isWrapper;first | (rw [if_pos (by decide +kernel)];kernel_rfl) | (rw [if_neg (by decide +kernel)];exact⟨rfl,rfl⟩))
  (fun os started H enc _=>Yhw os started H enc)

theorem wf4:Rows.boundLeftRow.wfByText (OpenSpec.ofChange Rows.boundLeftSpec)=true:=by kernel_rfl
theorem Ynj:false=Rows.boundLeftRow.goesBy Tryz.pinned.checked.prog:=by kernel_rfl
theorem Yk8:(Tryz.f4.params.toList.all fun t=>!(Tryz.pinned.checked.prog.wantsStandIn t))=true:=by kernel_rfl
theorem boundLeft_card:Rows.BoundLeftCardSaid :=
 Claim7.holds_tied_plain_at .later [] [.data, .data, .data, .data, .sentinel, .sentinel, .listed, .data, .pinned] true (true, "9e31077956799f9e17a38c2258576882ca9cb19cd333464e004da1121a78b557") true
  Zrg (fun _ h=>by cases h) wf4 (fun _ h=>by cases h) boundLeft_row_tie rfl ⟨rfl,rfl⟩ Yi1 rfl
  (fun f fn hf hfn=>by obtain rfl:f=4:=Option.some.inj (Yfs.symm.trans hf) |>.symm;obtain rfl:fn=Tryz.f4:=(Option.some.inj (Tryz.func4.symm.trans hfn)).symm;exact⟨Yfo,fun j t ht=>by have:=List.all_eq_true.1 Yk8 t (List.mem_of_getElem? (by simpa using ht));simpa using this⟩)
  Ynj
#print axioms boundLeft_card
end Go.Proofs.YtdcgemfchohffaaGreatDoor
