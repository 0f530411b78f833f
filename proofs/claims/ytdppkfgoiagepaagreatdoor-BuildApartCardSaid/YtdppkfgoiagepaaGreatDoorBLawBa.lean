import Derived.Test.YtdppkfgoiagepaaGreatDoorBJPt
import Derived.Test.YtdppkfgoiagepaaGreatDoorBBA
import Derived.Test.YtdppkfgoiagepaaGreatDoorTie
import Derived.Test.YtdppkfgoiagepaaGreatDoorCards
/- The law BuildApart returns true for every input, from a contract of its function, read off the code by a sound machine. The row lists the package's variables; no other conditions. -/
set_option linter.unusedVariables false
set_option linter.unusedSimpArgs false
namespace Go.Proofs.YtdppkfgoiagepaaGreatDoor
open Go Go.ChangeShapes Go.WideShapes Go.ChangeAt Go.RowKit Go.Abs Tg

theorem ats3:Zww Tryz.prog 20 Tryz.f3.params.toList=some Tg.con3.args:=by kernel_rfl
theorem rec3:(Tryz.f3.params.toList.all fun t=>Tryz.prog.readableRec t&&decide (t<Tryz.prog.types.size))=true:=by kernel_rfl
theorem len3:Tryz.f3.params.toList.length=7:=by kernel_rfl
set_option maxRecDepth 100000 in
theorem Z9h (os:Os)(started:os.Started)(H:Type)(enc:TypeId×Value→H) :
    ReturnsInHanded {} Tryz.checked os 3 .any (fun w args=>(Rows.buildApartSpec.pre enc Tryz.prog Tryz.f3 Rows.buildApartRow.domain false w args∧laidMetH Tryz.prog Zqw w)∧sizedMet enc Tryz.prog Tryz.f3 (OpenSpec.ofChange Rows.buildApartSpec) false w args) (Rows.buildApartSpec.post enc Tryz.prog Tryz.f3 false true false false):=by
  refine Yeb (C:=Tryz.checked) (X:=fun w _=>laidMetH Tryz.prog Zqw w) (fun _ _ _ hh h=>h.of_heap hh) Tg.own started (by kernel_rfl) Tryz.func3
   (ChangeSpec.witness_shaped (enc:=enc) (C:=Tryz.checked) (os:=os) (X:=fun w _=>laidMetH Tryz.prog Zqw w) false (Zmf os) #[.agg #[.int .u8 0,.slice none 0 0,.slice none 0 0,.bool false,.slice none 0 0,.int .u8 0,.int .i64 0,.int .i64 0,.bool false,.int .u8 0],.slice none 0 0,.slice none 0 0,.int .i64 0,.int .i64 0,.int .i64 0,.int .i64 0] 8 rfl (Z0k os _) (by kernel_rfl) (by kernel_rfl) (by kernel_rfl) (Zr3 os _)) ?_
  intro W base args ds gs before hval0 hW hL hsh
  have hval:∀ (j:Nat) t v,Tryz.f3.params.toList[j]? = some t→args.toList[j]? = some v→Value.okWide Tryz.prog W .any base t v:=fun j t v h1 h2=>hval0 j t v (by simpa using h1) (by simpa using h2)
  have hW' := hW
  obtain⟨p,q,hA0,hV,rfl,hfz,hnd⟩:=hW
  have hA:DataW.TrodAll enc Tryz.prog W 0 (fun _=>true) true Tryz.f3.params.toList args.toList ds p:=hA0
  obtain⟨rfl,rfl⟩:=trodVars_none hV
  clear hA0 hval0
  simp only [List.append_nil] at hW'
  have hlt:∀ x∈p,x.block<W.heap.size:=fun x hx=>by simpa using hW'.lt x hx
  obtain⟨pas,g1,g2,g3⟩:=Zwx ats3 hval hA
  have hdl:=Zmu hA
  rw [len3] at hdl
  match ds,hdl,hW',hA with
  | [d0,d1,d2,d3,d4,d5,d6],_,hW',hA =>
  refine (Z4c (Tg.Ybx pas g1) W args (Z3q hL hsh) ⟨by simpa using g2.symm,fun i x v h1 h2=>g3 i x v h1 (by simpa using h2)⟩).mono fun e W' ⟨he,hg⟩=>?_
  subst he
  exact⟨_,rfl,Zyx (pa:=p) (pv:=[]) hW' (fun _ _ _=>trodAll_mk1 (shut_bool Tryz.underlying4 _)) (fun sp hsp=>Zi7 Yad hg rec3 hA hlt (fun y hy=>hsp y (by simpa using hy))) (fun _ _=>rfl) (by simp) hg (ok_one (by kernel_rfl) rfl (okWide_bool_mk Tryz.underlying4 _))⟩

theorem Z7v : Tryz.pinned.checked.prog.funcNamed "tailwater/tailwaterlaw36.BuildApart" = some 3 := by kernel_rfl
theorem Zmg:Rows.BuildApartSaid :=
 OpenClaim.holds_of_wide 3 Tryz.f3 rfl rfl rfl rfl rfl rfl rfl ⟨rfl,rfl,rfl,rfl,rfl⟩ rfl rfl rfl rfl rfl Z7v Tryz.func3 Z7u
  (of_decide_eq_true (by kernel_rfl)) (by unfold Func.isWrapper;first | (rw [if_pos (by decide +kernel)];kernel_rfl) | (rw [if_neg (by decide +kernel)];exact⟨rfl,rfl⟩))
  (fun os started H enc _=>Z9h os started H enc)

theorem wf3:Rows.buildApartRow.wfByText (OpenSpec.ofChange Rows.buildApartSpec)=true:=by kernel_rfl
theorem Yec:false=Rows.buildApartRow.goesBy Tryz.pinned.checked.prog:=by kernel_rfl
theorem Yb2:(Tryz.f3.params.toList.all fun t=>!(Tryz.pinned.checked.prog.wantsStandIn t))=true:=by kernel_rfl
theorem buildApart_card:Rows.BuildApartCardSaid :=
 Claim7.holds_tied_plain_at .later [] [.data, .data, .data, .data, .sentinel, .sentinel, .listed, .data, .pinned] true (true, "b441c1b06d013a362308f62d53f0efa8d37b8006f0dc7d73411d93e84fa7bf7d") true
  Zmg (fun _ h=>by cases h) wf3 (fun _ h=>by cases h) buildApart_row_tie rfl ⟨rfl,rfl⟩ Yea rfl
  (fun f fn hf hfn=>by
   obtain rfl:f=3:=Option.some.inj (Z7v.symm.trans hf) |>.symm
   obtain rfl:fn=Tryz.f3:=(Option.some.inj (Tryz.func3.symm.trans hfn)).symm
   exact⟨Yb1,fun j t ht=>by
    have:=List.all_eq_true.1 Yb2 t (List.mem_of_getElem? (by simpa using ht))
    simpa using this⟩)
  Yec
#print axioms buildApart_card
end Go.Proofs.YtdppkfgoiagepaaGreatDoor
