import Derived.HandedShaped
import Derived.Lib.LaidTab
import Derived.Stop.LaidErr
import Derived.Lay
import Derived.Test.YtlnihcefchoofaaGreatDoorDST
import Derived.Test.YtlnihcefchoofaaGreatDoorTie
import Derived.Test.YtlnihcefchoofaaGreatDoorCards
set_option linter.all false
/- A world in which the listed variables hold what the program's text lays; what the condition gives. -/
namespace Tg
open Go Go.Proofs Go.Proofs.YtlnihcefchoofaaGreatDoor Go.ChangeShapes Go.WideShapes Go.RowKit
def Zz0 : List (String × DataW Unit) := [("math/bits.deBruijn32tab", Rows.laid_math_bits_deBruijn32tab), ("math/bits.deBruijn64tab", Rows.laid_math_bits_deBruijn64tab), ("internal/strconv.uint64pow10", Rows.laid_internal_strconv_uint64pow10), ("unicode/utf8.acceptRanges", Rows.laid_unicode_utf8_acceptRanges), ("strconv.ErrRange", Rows.laid_strconv_ErrRange), ("strconv.ErrSyntax", Rows.laid_strconv_ErrSyntax), ("unicode.White_Space", Rows.laid_unicode_White_Space), ("strings.asciiSpace", Rows.laid_strings_asciiSpace), ("unicode/utf8.first", Rows.laid_unicode_utf8_first)]
def lit1:DataW Unit->Value|.lit (.int k n)=>.int k n|_=>undef
def row1:DataW Unit->List Value|.agg l=>l.map lit1|_=>[]
def row2:DataW Unit->List Value|.agg l=>l.flatMap row1|_=>[]
def setc(c:Array Value):Obj->Obj|.cells _ t f=>.cells c t f|o=>o
noncomputable def Yqr(h:Array Obj):Array Obj :=
 (((((((((h.modify 0 (setc (row1 Rows.laid_strings_asciiSpace).toArray)).modify 1 (setc #[.pointer (some ⟨18,0,none⟩)])).modify 3 (setc #[.iface 474 (.pointer (some ⟨17,0,none⟩))])).modify 4 (setc #[.iface 474 (.pointer (some ⟨16,0,none⟩))])).modify 5 (setc (row1 Rows.laid_unicode_utf8_first).toArray)).modify 6 (setc (row2 Rows.laid_unicode_utf8_acceptRanges).toArray)).modify 7 (setc (row1 Rows.laid_internal_strconv_uint64pow10).toArray)).modify 8 (setc (row1 Rows.laid_math_bits_deBruijn32tab).toArray)).modify 9 (setc (row1 Rows.laid_math_bits_deBruijn64tab).toArray)) ++
 #[.cells #[.string ⟨#[118,97,108,117,101,32,111,117,116,32,111,102,32,114,97,110,103,101]⟩] 476,.cells #[.string ⟨#[105,110,118,97,108,105,100,32,115,121,110,116,97,120]⟩] 476,
  .cells #[.slice (some ⟨19,0,none⟩) 7 7,.slice none 0 0,.int .i64 2] 458,
  .cells #[.int .u16 9,.int .u16 13,.int .u16 1,.int .u16 32,.int .u16 133,.int .u16 101,.int .u16 160,.int .u16 5760,.int .u16 5600,.int .u16 8192,.int .u16 8202,.int .u16 1,.int .u16 8232,.int .u16 8233,.int .u16 1,.int .u16 8239,.int .u16 8287,.int .u16 48,.int .u16 12288,.int .u16 12288,.int .u16 1] 461]
noncomputable def Zs7(os:Os):World:={ World.holding Tryz.prog os ⟨#[],#[],[]⟩with heap:=Yqr (World.holding Tryz.prog os ⟨#[],#[],[]⟩).heap }
theorem own:ownKnob Tryz.prog.godebug=none:=by kernel_rfl
theorem Z1x(os:Os)(args:Array Value):laidMetH Tryz.prog Zz0 ((Zs7 os).forCall (λ_ _=>0) ⟨#[],args,[]⟩).memory:=laidMetH_of_parts (laidMet_of_run3 8 (by kernel_rfl) (by kernel_rfl) (by kernel_rfl)) (by kernel_rfl)
end Tg
namespace Tg
open Tn Go Go.Proofs Go.Proofs.YtlnihcefchoofaaGreatDoor Go.ChangeShapes Go.WideShapes Go.ChangeAt Go.RowKit Go.Abs
def spZ:List Int:=(List.range 256).map spc
theorem Yjy{W:World}(h:laidMetH Tryz.prog Zz0 W)(_:W.ShapedOpen Tryz.prog):Zv W.heap.size W:=by
 have e:Zz0.filter (λx=>x.2.handleName?.isSome)=[]:=by kernel_rfl
 have h0:laidMet Tryz.prog Zz0 W:=by unfold laidMetH at h;rw[e]at h;exact h
 have h7:=h0.tail.tail.tail.tail.tail.tail.tail;have e2:(Rows.laid_strings_asciiSpace:DataW Unit)=Lib.tabData .u8 spZ:=by kernel_rfl
 rw[e2]at h7;have ht:=Lib.tabIs_of_head (g:=0) (t:=411) (e:=5) (n:=256) (by kernel_rfl) (by kernel_rfl) Tryz.underlying411 Tryz.underlying5 (by kernel_rfl) (by kernel_rfl) h7;have hc:∀off,off<256->W.cell? ⟨0,off,none⟩=some (.int .u8 (spc off)):=λoff ho=>by have:=ht.cell (g:=0) (by kernel_rfl) off (by simpa[spZ]using ho);rw[this];simp[spZ,List.getD_eq_getElem?_getD,ho]
 exact⟨Nat.succ_le_of_lt (World.block_lt_of_cell? W _ (hc 0 (by decide))),hc⟩
end Tg
namespace Go.Proofs.YtlnihcefchoofaaGreatDoor
open Go Go.ChangeShapes Go.WideShapes Go.ChangeAt Go.RowKit Go.Abs Tg
theorem Yux:laidOutB Tryz.pinned.checked.prog=true:=by kernel_rfl
theorem Y1z:mapsRowed Tryz.pinned.checked.prog=true:=by kernel_rfl
theorem Yx3:Tryz.pinned.checked.prog.stopsHeard=true:=by kernel_rfl
theorem Yx4:Tryz.pinned.checked.prog.mayEnter=true:=by kernel_rfl
theorem Yx5:Tryz.pinned.checked.prog.liftsFinal=Rows.enabledSendsRow.lifted:=by kernel_rfl
theorem Y10:Tryz.pinned.checked.prog.plainKeys=Rows.enabledSendsRow.plainKeys:=by kernel_rfl
theorem Y11 : Tryz.pinned.checked.prog.mainIs = some (true, "75dd9de2d745f61c617f6375a36151a76b2031e395a92f8c8b6074c0dd9750a1".toList) := by kernel_rfl
theorem Yx6:true=Tryz.pinned.checked.prog.looks []:=by kernel_rfl
theorem Yff(os:Os)(args:Array Value):((Zs7 os).forCall (λ_ _=>0) ⟨#[],args,[]⟩).Shaped Tryz.prog:=World.shaped_of_ZipB (by kernel_rfl) (by kernel_rfl)
theorem Y12{H:Type}{enc:TypeId×Value->H}{a:Assume}{C:Checked}{os:Os}{f:FuncId}{fn:Func}{s:ChangeSpec}{conds:List PathCond}{apart fresh handsOn again:Bool}{X:World->Array Value->Prop}
    (hX:∀(w w' : World) (args:Array Value),w.heap=w'.heap->X w args->X w' args)
    (own:ownKnob C.prog.godebug=none) (started:os.Started) (noInit:C.prog.inits.idxOf? f=none) (hfn:C.prog.funcs[f]? = some fn)
    (witness:∃(w:World) (tape:Tape) (i:Input),w.os=os/\(w.forCall tape i).Shaped C.prog/\i.vars=[]/\Input.okWide C.prog (w.forCall tape i) .any w.heap.size f i /\
     ((s.pre enc C.prog fn conds apart (w.forCall tape i).memory i.args/\X (w.forCall tape i).memory i.args)/\sizedMet enc C.prog fn (OpenSpec.ofChange s) apart (w.forCall tape i).memory i.args)/\a.holds C.prog (lone (Frame.enter C.prog f i.args .normal) [] (w.forCall tape i)))
    (contract:∀(W:World) (base:Nat) (args:Array Value) (ds gs:List (DataW H)) (before:List MemPlace),
     (∀(j:Nat) t v,fn.params[j]? = some t->args[j]? = some v->Value.okWide C.prog W .any base t v) ->
     DataW.Whole enc C.prog fn.params.toList s.vars apart W args.toList ds gs before->X W args->W.ShapedOpen C.prog ->
     Calls C.prog f args W λe W' => ∃v,e = .returned v/\s.post enc C.prog fn apart fresh handsOn again W args v W') :
    ReturnsInHanded a C os f .any (λw args=>(s.pre enc C.prog fn conds apart w args/\X w args)/\sizedMet enc C.prog fn (OpenSpec.ofChange s) apart w args) (s.post enc C.prog fn apart fresh handsOn again):=by
  refine returnsInHanded_of_calls own started noInit witness ?_;intro w tape i _ hsh _ hok hpre hholds;obtain⟨_,_,_,fn',hfn',_,_,_,_,hval⟩:=hok;obtain rfl:fn' = fn:=J0a (hfn'.symm.trans hfn);obtain⟨⟨⟨ds,gs,before,hw,_⟩,hx⟩,_⟩:=hpre;refine(contract (w.forCall tape i) w.heap.size i.args ds gs before hval (DataW.Whole.of_heap (w' := w.forCall tape i) (by rfl) hw) (hX _ _ _ (by rfl) hx) hsh).mono λe W' ⟨v,he,hp⟩=>?_;subst he;exact ChangeSpec.post_blind hp
end Go.Proofs.YtlnihcefchoofaaGreatDoor
namespace Tg
open Go.Abs
theorem Yx7:∀pas,POKAs con4.args pas->Spec Go.Proofs.Tryz.prog 3 pas [.c (.c (.bool true))]:=Yvk ok4 λa _=>Yjx a.1
end Tg
namespace Go.Proofs.YtlnihcefchoofaaGreatDoor
open Go Go.ChangeShapes Go.WideShapes Go.ChangeAt Go.RowKit Go.Abs Tg
theorem j1Ed:Rows.enabledSendsRow.wf (OpenSpec.ofChange Rows.enabledSendsSpec)=true:=by kernel_rfl
theorem j2Ed:(Rows.enabledSendsRow.inPlace==Tryz.pinned.checked.prog.inPlace 3)=true:=by kernel_rfl
theorem j3Ed:(Rows.enabledSendsRow.unfollowed==Tryz.pinned.checked.prog.unfollowed 3)=true:=by kernel_rfl
theorem j4Ed:(Rows.enabledSendsRow.recurses==Tryz.pinned.checked.prog.recurses 3)=true:=by kernel_rfl
theorem j5Ed:(Rows.enabledSendsRow.named==Tryz.pinned.checked.prog.varsNamed 3)=true:=by kernel_rfl
theorem Yqs:joinedFacts Tryz.pinned.checked.prog 3 Tryz.f3 Rows.enabledSendsSpec Rows.enabledSendsRow=true:=by unfold joinedFacts;rw[j1Ed,Yux,Y1z,j2Ed,j3Ed,j4Ed,j5Ed,Yx3,Yx4,Yx5,Y10];kernel_rfl
theorem ats4:Z72 Tryz.prog 20 Tryz.f3.params.toList=some Tg.con4.args:=by kernel_rfl
theorem rec4:(Tryz.f3.params.toList.all λt=>Tryz.prog.readableRec t&&decide (t<Tryz.prog.types.size))=true:=by kernel_rfl
theorem len4:Tryz.f3.params.toList.length=1:=by kernel_rfl
set_option maxRecDepth 100000 in
theorem Yth(os:Os)(started:os.Started)(H:Type)(enc:TypeId×Value->H) :
    ReturnsInHanded {} Tryz.checked os 3 .any (λw args=>(Rows.enabledSendsSpec.pre enc Tryz.prog Tryz.f3 Rows.enabledSendsRow.domain false w args/\laidMetH Tryz.prog Zz0 w)/\sizedMet enc Tryz.prog Tryz.f3 (OpenSpec.ofChange Rows.enabledSendsSpec) false w args) (Rows.enabledSendsSpec.post enc Tryz.prog Tryz.f3 false true false false):=by
  refine Y12 (C:=Tryz.checked) (X:=λw _=>laidMetH Tryz.prog Zz0 w) (λ_ _ _ hh h=>h.of_heap hh) Tg.own started (by kernel_rfl) Tryz.func3
   (ChangeSpec.witness_shaped (enc:=enc) (C:=Tryz.checked) (os:=os) (X:=λw _=>laidMetH Tryz.prog Zz0 w) false (Zs7 os) #[.agg #[.int .u8 0,.slice none 0 0,.slice none 0 0,.bool false,.slice none 0 0,.int .u8 0,.int .i64 0,.int .i64 0,.bool false,.int .u8 0,.slice none 0 0,.slice none 0 0,.slice none 0 0,.slice none 0 0]] 8 rfl (Yff os _) (by kernel_rfl) (by kernel_rfl) (by kernel_rfl) (Z1x os _)) ?_
  intro W base args ds gs before hval0 hW hL hsh;have hval:∀(j:Nat) t v,Tryz.f3.params.toList[j]? = some t->args.toList[j]? = some v->Value.okWide Tryz.prog W .any base t v:=λj t v h1 h2=>hval0 j t v (by simpa using h1) (by simpa using h2);have hW' := hW;obtain⟨p,q,hA0,hV,rfl,hfz,hnd⟩:=hW;have hA:DataW.TrodAll enc Tryz.prog W 0 (λ_=>true) true Tryz.f3.params.toList args.toList ds p:=hA0;obtain⟨rfl,rfl⟩:=trodVars_none hV;clear hA0 hval0;simp only[List.append_nil]at hW';have hlt:∀x∈p,x.block<W.heap.size:=λx hx=>by simpa using hW'.lt x hx
  obtain⟨pas,g1,g2,g3⟩:=Z73 ats4 hval hA;have hdl:=Ztl hA;rw[len4]at hdl
  match ds,hdl,hW',hA with
  | [d0],_,hW',hA =>
  refine(Ykk (Tg.Yx7 pas g1) W args (Yjy hL hsh) ⟨by simpa using g2.symm,λi x v h1 h2=>g3 i x v h1 (by simpa using h2)⟩).mono λe W' ⟨he,hg⟩=>?_;subst he;exact⟨_,rfl,Ybp (pa:=p) (pv:=[]) hW' (λ_ _ _=>trodAll_mk1 (shut_bool Tryz.underlying4 _)) (λsp hsp=>Zoc Yux hg rec4 hA hlt (λy hy=>hsp y (by simpa using hy))) (λ_ _=>rfl) (by simp) hg (ok_one (by kernel_rfl) rfl (okWide_bool_mk Tryz.underlying4 _))⟩
theorem Yqt : Tryz.pinned.checked.prog.funcNamed "tailwater/tailwaterlaw38.EnabledSends" = some 3 := by kernel_rfl
theorem Zpv:Rows.EnabledSendsSaid :=
 OpenClaim.holds_of_wide 3 Tryz.f3 rfl rfl rfl rfl rfl rfl rfl ⟨rfl,rfl,rfl,rfl,rfl⟩ rfl rfl rfl rfl rfl Yqt Tryz.func3 Yqs
  (of_decide_eq_true (by kernel_rfl)) (by unfold Func.isWrapper;first|(rw[if_pos (by decide +kernel)];kernel_rfl)|(rw[if_neg (by decide +kernel)];exact⟨rfl,rfl⟩))
  (λos started H enc _=>Yth os started H enc)
theorem wf4:Rows.enabledSendsRow.wfByText (OpenSpec.ofChange Rows.enabledSendsSpec)=true:=by kernel_rfl
theorem Y13:false=Rows.enabledSendsRow.goesBy Tryz.pinned.checked.prog:=by kernel_rfl
theorem Yx8:(Tryz.f3.params.toList.all λt=>!(Tryz.pinned.checked.prog.wantsStandIn t))=true:=by kernel_rfl
theorem enabledSends_card:Rows.EnabledSendsCardSaid :=
 Claim7.holds_tied_plain_at .later [] [.data, .data, .data, .data, .sentinel, .sentinel, .listed, .data, .pinned] true (true, "75dd9de2d745f61c617f6375a36151a76b2031e395a92f8c8b6074c0dd9750a1") true
  Zpv (λ_ h=>by cases h) wf4 (λ_ h=>by cases h) enabledSends_row_tie rfl ⟨rfl,rfl⟩ Y11 rfl
  (λf fn hf hfn=>by obtain rfl:f=3:=J0a (Yqt.symm.trans hf) |>.symm;obtain rfl:fn=Tryz.f3:=(J0a (Tryz.func3.symm.trans hfn)).symm;exact⟨Yx6,λj t ht=>by have:=List.all_eq_true.1 Yx8 t (J0j (by simpa using ht));simpa using this⟩)
  Y13
#print axioms enabledSends_card
end Go.Proofs.YtlnihcefchoofaaGreatDoor
