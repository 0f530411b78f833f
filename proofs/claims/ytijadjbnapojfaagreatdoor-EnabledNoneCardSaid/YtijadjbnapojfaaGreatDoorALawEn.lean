import Derived.Test.YtijadjbnapojfaaGreatDoorAJPt
import Derived.Test.YtijadjbnapojfaaGreatDoorAEN
import Derived.Test.YtijadjbnapojfaaGreatDoorTie
import Derived.Test.YtijadjbnapojfaaGreatDoorCards
/- The closed facts of the row of EnabledNone. -/
set_option linter.unusedVariables false
set_option linter.unusedSimpArgs false
namespace Go.Proofs.YtijadjbnapojfaaGreatDoor
open Go Go.ChangeShapes Go.WideShapes Go.ChangeAt Go.RowKit Go.Abs Tg
theorem j1En:Rows.enabledNoneRow.wf (OpenSpec.ofChange Rows.enabledNoneSpec)=true:=by kernel_rfl
theorem j2En:(Rows.enabledNoneRow.inPlace==Tryz.pinned.checked.prog.inPlace 3)=true:=by kernel_rfl
theorem j3En:(Rows.enabledNoneRow.unfollowed==Tryz.pinned.checked.prog.unfollowed 3)=true:=by kernel_rfl
theorem j4En:(Rows.enabledNoneRow.recurses==Tryz.pinned.checked.prog.recurses 3)=true:=by kernel_rfl
theorem j5En:(Rows.enabledNoneRow.named==Tryz.pinned.checked.prog.varsNamed 3)=true:=by kernel_rfl
theorem Yf1:joinedFacts Tryz.pinned.checked.prog 3 Tryz.f3 Rows.enabledNoneSpec Rows.enabledNoneRow=true:=by unfold joinedFacts;rw [j1En,Z85,Yi4,j2En,j3En,j4En,j5En,Yfv,Yfw,Yfx,Yi5];kernel_rfl
end Go.Proofs.YtijadjbnapojfaaGreatDoor

/- The law EnabledNone returns true for every input, from a contract of its function, read off the code by a sound machine. The row lists the package's variables; no other conditions. -/
namespace Go.Proofs.YtijadjbnapojfaaGreatDoor
open Go Go.ChangeShapes Go.WideShapes Go.ChangeAt Go.RowKit Go.Abs Tg

theorem ats3:Zww Tryz.prog 20 Tryz.f3.params.toList=some Tg.con3.args:=by kernel_rfl
theorem rec3:(Tryz.f3.params.toList.all fun t=>Tryz.prog.readableRec t&&decide (t<Tryz.prog.types.size))=true:=by kernel_rfl
theorem len3:Tryz.f3.params.toList.length=2:=by kernel_rfl
set_option maxRecDepth 100000 in
theorem Yh5 (os:Os)(started:os.Started)(H:Type)(enc:TypeId×Value→H) :
    ReturnsInHanded {} Tryz.checked os 3 .any (fun w args=>(Rows.enabledNoneSpec.pre enc Tryz.prog Tryz.f3 Rows.enabledNoneRow.domain false w args∧laidMetH Tryz.prog Zl9 w)∧sizedMet enc Tryz.prog Tryz.f3 (OpenSpec.ofChange Rows.enabledNoneSpec) false w args) (Rows.enabledNoneSpec.post enc Tryz.prog Tryz.f3 false true false false):=by
  refine Yi7 (C:=Tryz.checked) (X:=fun w _=>laidMetH Tryz.prog Zl9 w) (fun _ _ _ hh h=>h.of_heap hh) Tg.own started (by kernel_rfl) Tryz.func3
   (ChangeSpec.witness_shaped (enc:=enc) (C:=Tryz.checked) (os:=os) (X:=fun w _=>laidMetH Tryz.prog Zl9 w) false (Zll os) #[.agg #[.int .u8 0,.slice none 0 0,.slice none 0 0,.bool false,.slice none 0 0,.int .u8 0,.int .i64 0,.int .i64 0,.bool false,.int .u8 0,.slice none 0 0,.slice none 0 0,.slice none 0 0,.slice none 0 0],.int .i64 0] 8 rfl (Zut os _) (by kernel_rfl) (by kernel_rfl) (by kernel_rfl) (Zma os _)) ?_
  intro W base args ds gs before hval0 hW hL hsh;have hval:∀ (j:Nat) t v,Tryz.f3.params.toList[j]? = some t→args.toList[j]? = some v→Value.okWide Tryz.prog W .any base t v:=fun j t v h1 h2=>hval0 j t v (by simpa using h1) (by simpa using h2);have hW' := hW;obtain⟨p,q,hA0,hV,rfl,hfz,hnd⟩:=hW;have hA:DataW.TrodAll enc Tryz.prog W 0 (fun _=>true) true Tryz.f3.params.toList args.toList ds p:=hA0;obtain⟨rfl,rfl⟩:=trodVars_none hV;clear hA0 hval0;simp only [List.append_nil] at hW';have hlt:∀ x∈p,x.block<W.heap.size:=fun x hx=>by simpa using hW'.lt x hx
  obtain⟨pas,g1,g2,g3⟩:=Zsg ats3 hval hA;have hdl:=Ziw hA;rw [len3] at hdl
  match ds,hdl,hW',hA with
  | [d0,d1],_,hW',hA =>
  refine (Z1c (Tg.Ylk pas g1) W args (Zyf hL hsh) ⟨by simpa using g2.symm,fun i x v h1 h2=>g3 i x v h1 (by simpa using h2)⟩).mono fun e W' ⟨he,hg⟩=>?_;subst he;exact⟨_,rfl,Zrz (pa:=p) (pv:=[]) hW' (fun _ _ _=>trodAll_mk1 (shut_bool Tryz.underlying4 _)) (fun sp hsp=>Zf9 Z85 hg rec3 hA hlt (fun y hy=>hsp y (by simpa using hy))) (fun _ _=>rfl) (by simp) hg (ok_one (by kernel_rfl) rfl (okWide_bool_mk Tryz.underlying4 _))⟩

theorem Yf2 : Tryz.pinned.checked.prog.funcNamed "tailwater/tailwaterlaw38.EnabledNone" = some 3 := by kernel_rfl
theorem Zoc:Rows.EnabledNoneSaid :=
 OpenClaim.holds_of_wide 3 Tryz.f3 rfl rfl rfl rfl rfl rfl rfl ⟨rfl,rfl,rfl,rfl,rfl⟩ rfl rfl rfl rfl rfl Yf2 Tryz.func3 Yf1
  (of_decide_eq_true (by kernel_rfl)) (by unfold Func.isWrapper;first | (rw [if_pos (by decide +kernel)];kernel_rfl) | (rw [if_neg (by decide +kernel)];exact⟨rfl,rfl⟩))
  (fun os started H enc _=>Yh5 os started H enc)

theorem wf3:Rows.enabledNoneRow.wfByText (OpenSpec.ofChange Rows.enabledNoneSpec)=true:=by kernel_rfl
theorem Yn2:false=Rows.enabledNoneRow.goesBy Tryz.pinned.checked.prog:=by kernel_rfl
theorem Yln:(Tryz.f3.params.toList.all fun t=>!(Tryz.pinned.checked.prog.wantsStandIn t))=true:=by kernel_rfl
theorem enabledNone_card:Rows.EnabledNoneCardSaid :=
 Claim7.holds_tied_plain_at .later [] [.data, .data, .data, .data, .sentinel, .sentinel, .listed, .data, .pinned] true (true, "d816e7197e2aa0d45ee29847a854d8b932d7d8ac657ef11d0a3b04aa094e55d8") true
  Zoc (fun _ h=>by cases h) wf3 (fun _ h=>by cases h) enabledNone_row_tie rfl ⟨rfl,rfl⟩ Yi6 rfl
  (fun f fn hf hfn=>by obtain rfl:f=3:=Option.some.inj (Yf2.symm.trans hf) |>.symm;obtain rfl:fn=Tryz.f3:=(Option.some.inj (Tryz.func3.symm.trans hfn)).symm;exact⟨Yfy,fun j t ht=>by have:=List.all_eq_true.1 Yln t (List.mem_of_getElem? (by simpa using ht));simpa using this⟩)
  Yn2
#print axioms enabledNone_card
end Go.Proofs.YtijadjbnapojfaaGreatDoor
