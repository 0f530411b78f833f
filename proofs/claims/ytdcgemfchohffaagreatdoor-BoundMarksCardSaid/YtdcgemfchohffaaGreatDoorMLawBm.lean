import Derived.Test.YtdcgemfchohffaaGreatDoorMJPt
import Derived.Test.YtdcgemfchohffaaGreatDoorMBK
import Derived.Test.YtdcgemfchohffaaGreatDoorTie
import Derived.Test.YtdcgemfchohffaaGreatDoorCards
/- The closed facts of the row of BoundMarks. -/
set_option linter.unusedVariables false
set_option linter.unusedSimpArgs false
namespace Go.Proofs.YtdcgemfchohffaaGreatDoor
open Go Go.ChangeShapes Go.WideShapes Go.ChangeAt Go.RowKit Go.Abs Tg
theorem j1Bm:Rows.boundMarksRow.wf (OpenSpec.ofChange Rows.boundMarksSpec)=true:=by kernel_rfl
theorem j2Bm:(Rows.boundMarksRow.inPlace==Tryz.pinned.checked.prog.inPlace 3)=true:=by kernel_rfl
theorem j3Bm:(Rows.boundMarksRow.unfollowed==Tryz.pinned.checked.prog.unfollowed 3)=true:=by kernel_rfl
theorem j4Bm:(Rows.boundMarksRow.recurses==Tryz.pinned.checked.prog.recurses 3)=true:=by kernel_rfl
theorem j5Bm:(Rows.boundMarksRow.named==Tryz.pinned.checked.prog.varsNamed 3)=true:=by kernel_rfl
theorem Yfp:joinedFacts Tryz.pinned.checked.prog 3 Tryz.f3 Rows.boundMarksSpec Rows.boundMarksRow=true:=by unfold joinedFacts;rw [j1Bm,Z8w,Yiz,j2Bm,j3Bm,j4Bm,j5Bm,Yfl,Yfm,Yfn,Yi0];kernel_rfl
end Go.Proofs.YtdcgemfchohffaaGreatDoor

/- The law BoundMarks returns true for every input, from a contract of its function, read off the code by a sound machine. The row lists the package's variables; no other conditions. -/
namespace Go.Proofs.YtdcgemfchohffaaGreatDoor
open Go Go.ChangeShapes Go.WideShapes Go.ChangeAt Go.RowKit Go.Abs Tg

theorem ats3:Zxc Tryz.prog 20 Tryz.f3.params.toList=some Tg.con3.args:=by kernel_rfl
theorem rec3:(Tryz.f3.params.toList.all fun t=>Tryz.prog.readableRec t&&decide (t<Tryz.prog.types.size))=true:=by kernel_rfl
theorem len3:Tryz.f3.params.toList.length=1:=by kernel_rfl
set_option maxRecDepth 100000 in
theorem Yhv (os:Os)(started:os.Started)(H:Type)(enc:TypeId×Value→H) :
    ReturnsInHanded {} Tryz.checked os 3 .any (fun w args=>(Rows.boundMarksSpec.pre enc Tryz.prog Tryz.f3 Rows.boundMarksRow.domain false w args∧laidMetH Tryz.prog Zmo w)∧sizedMet enc Tryz.prog Tryz.f3 (OpenSpec.ofChange Rows.boundMarksSpec) false w args) (Rows.boundMarksSpec.post enc Tryz.prog Tryz.f3 false true false false):=by
  refine Yi2 (C:=Tryz.checked) (X:=fun w _=>laidMetH Tryz.prog Zmo w) (fun _ _ _ hh h=>h.of_heap hh) Tg.own started (by kernel_rfl) Tryz.func3
   (ChangeSpec.witness_shaped (enc:=enc) (C:=Tryz.checked) (os:=os) (X:=fun w _=>laidMetH Tryz.prog Zmo w) false (Zl1 os) #[.agg #[.int .u8 0,.slice none 0 0,.slice none 0 0,.bool false,.slice none 0 0,.int .u8 0,.int .i64 0,.int .i64 0,.bool false,.int .u8 0,.slice none 0 0,.slice none 0 0,.slice none 0 0,.slice none 0 0]] 8 rfl (Zva os _) (by kernel_rfl) (by kernel_rfl) (by kernel_rfl) (Zmp os _)) ?_
  intro W base args ds gs before hval0 hW hL hsh;have hval:∀ (j:Nat) t v,Tryz.f3.params.toList[j]? = some t→args.toList[j]? = some v→Value.okWide Tryz.prog W .any base t v:=fun j t v h1 h2=>hval0 j t v (by simpa using h1) (by simpa using h2);have hW' := hW;obtain⟨p,q,hA0,hV,rfl,hfz,hnd⟩:=hW;have hA:DataW.TrodAll enc Tryz.prog W 0 (fun _=>true) true Tryz.f3.params.toList args.toList ds p:=hA0;obtain⟨rfl,rfl⟩:=trodVars_none hV;clear hA0 hval0;simp only [List.append_nil] at hW';have hlt:∀ x∈p,x.block<W.heap.size:=fun x hx=>by simpa using hW'.lt x hx
  obtain⟨pas,g1,g2,g3⟩:=Zs3 ats3 hval hA;have hdl:=Zjb hA;rw [len3] at hdl
  match ds,hdl,hW',hA with
  | [d0],_,hW',hA =>
  refine (Z1g (Tg.Yk5 pas g1) W args (Zyu hL hsh) ⟨by simpa using g2.symm,fun i x v h1 h2=>g3 i x v h1 (by simpa using h2)⟩).mono fun e W' ⟨he,hg⟩=>?_;subst he;exact⟨_,rfl,Zsm (pa:=p) (pv:=[]) hW' (fun _ _ _=>trodAll_mk1 (shut_bool Tryz.underlying4 _)) (fun sp hsp=>Zgi Z8w hg rec3 hA hlt (fun y hy=>hsp y (by simpa using hy))) (fun _ _=>rfl) (by simp) hg (ok_one (by kernel_rfl) rfl (okWide_bool_mk Tryz.underlying4 _))⟩

theorem Yfq : Tryz.pinned.checked.prog.funcNamed "tailwater/tailwaterlaw39.BoundMarks" = some 3 := by kernel_rfl
theorem Zpy:Rows.BoundMarksSaid :=
 OpenClaim.holds_of_wide 3 Tryz.f3 rfl rfl rfl rfl rfl rfl rfl ⟨rfl,rfl,rfl,rfl,rfl⟩ rfl rfl rfl rfl rfl Yfq Tryz.func3 Yfp
  (of_decide_eq_true (by kernel_rfl)) (by unfold Func.isWrapper;first | (rw [if_pos (by decide +kernel)];kernel_rfl) | (rw [if_neg (by decide +kernel)];exact⟨rfl,rfl⟩))
  (fun os started H enc _=>Yhv os started H enc)

theorem wf3:Rows.boundMarksRow.wfByText (OpenSpec.ofChange Rows.boundMarksSpec)=true:=by kernel_rfl
theorem Yni:false=Rows.boundMarksRow.goesBy Tryz.pinned.checked.prog:=by kernel_rfl
theorem Yk7:(Tryz.f3.params.toList.all fun t=>!(Tryz.pinned.checked.prog.wantsStandIn t))=true:=by kernel_rfl
theorem boundMarks_card:Rows.BoundMarksCardSaid :=
 Claim7.holds_tied_plain_at .later [] [.data, .data, .data, .data, .sentinel, .sentinel, .listed, .data, .pinned] true (true, "9e31077956799f9e17a38c2258576882ca9cb19cd333464e004da1121a78b557") true
  Zpy (fun _ h=>by cases h) wf3 (fun _ h=>by cases h) boundMarks_row_tie rfl ⟨rfl,rfl⟩ Yi1 rfl
  (fun f fn hf hfn=>by obtain rfl:f=3:=Option.some.inj (Yfq.symm.trans hf) |>.symm;obtain rfl:fn=Tryz.f3:=(Option.some.inj (Tryz.func3.symm.trans hfn)).symm;exact⟨Yfo,fun j t ht=>by have:=List.all_eq_true.1 Yk7 t (List.mem_of_getElem? (by simpa using ht));simpa using this⟩)
  Yni
#print axioms boundMarks_card
end Go.Proofs.YtdcgemfchohffaaGreatDoor
