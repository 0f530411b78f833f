import Derived.Test.YtenldcjkpgmpnaaGreatDoorRows
import Derived.LaidOnce
import Derived.Test.YtenldcjkpgmpnaaGreatDoorTGT
import Derived.HandedShaped
import Derived.Lib.LaidTab
import Derived.Stop.LaidErr
import Derived.SevenTiedAt
import Derived.Lay
/- A world in which the listed variables hold what the program's text lays; what the condition gives. -/
set_option linter.unusedVariables false
set_option linter.unusedSimpArgs false
namespace Tg
open Go Go.Proofs Go.Proofs.YtenldcjkpgmpnaaGreatDoor Go.ChangeShapes Go.WideShapes Go.RowKit
def Zwz : List (String × DataW Unit) := [("math/bits.deBruijn32tab", Rows.laid_math_bits_deBruijn32tab), ("math/bits.deBruijn64tab", Rows.laid_math_bits_deBruijn64tab), ("internal/strconv.uint64pow10", Rows.laid_internal_strconv_uint64pow10), ("unicode/utf8.acceptRanges", Rows.laid_unicode_utf8_acceptRanges), ("strconv.ErrRange", Rows.laid_strconv_ErrRange), ("strconv.ErrSyntax", Rows.laid_strconv_ErrSyntax), ("unicode.White_Space", Rows.laid_unicode_White_Space), ("strings.asciiSpace", Rows.laid_strings_asciiSpace), ("unicode/utf8.first", Rows.laid_unicode_utf8_first)]
def lit1:DataW Unit->Value
 | .lit (.int k n)=>.int k n
 | _=>undef
def row1:DataW Unit->List Value
 | .agg l=>l.map lit1
 | _=>[]
def row2:DataW Unit->List Value
 | .agg l=>l.flatMap row1
 | _=>[]
def setc (c:Array Value):Obj->Obj
 | .cells _ t f=>.cells c t f
 | o=>o
noncomputable def Ykg (h:Array Obj):Array Obj :=
 (((((((((h.modify 0 (setc (row1 Rows.laid_strings_asciiSpace).toArray)).modify 1 (setc #[.pointer (some ⟨18,0,none⟩)])).modify 3 (setc #[.iface 471 (.pointer (some ⟨17,0,none⟩))])).modify 4 (setc #[.iface 471 (.pointer (some ⟨16,0,none⟩))])).modify 5 (setc (row1 Rows.laid_unicode_utf8_first).toArray)).modify 6 (setc (row2 Rows.laid_unicode_utf8_acceptRanges).toArray)).modify 7 (setc (row1 Rows.laid_internal_strconv_uint64pow10).toArray)).modify 8 (setc (row1 Rows.laid_math_bits_deBruijn32tab).toArray)).modify 9 (setc (row1 Rows.laid_math_bits_deBruijn64tab).toArray)) ++
 #[.cells #[.string ⟨#[118,97,108,117,101,32,111,117,116,32,111,102,32,114,97,110,103,101]⟩] 473,.cells #[.string ⟨#[105,110,118,97,108,105,100,32,115,121,110,116,97,120]⟩] 473,
  .cells #[.slice (some ⟨19,0,none⟩) 7 7,.slice none 0 0,.int .i64 2] 454,
  .cells #[.int .u16 9,.int .u16 13,.int .u16 1,.int .u16 32,.int .u16 133,.int .u16 101,.int .u16 160,.int .u16 5760,.int .u16 5600,.int .u16 8192,.int .u16 8202,.int .u16 1,.int .u16 8232,.int .u16 8233,.int .u16 1,.int .u16 8239,.int .u16 8287,.int .u16 48,.int .u16 12288,.int .u16 12288,.int .u16 1] 457]
noncomputable def Zrl (os:Os):World:={ World.holding Tryz.prog os ⟨#[],#[],[]⟩ with heap:=Ykg (World.holding Tryz.prog os ⟨#[],#[],[]⟩).heap }
theorem own:ownKnob Tryz.prog.godebug=none:=by kernel_rfl
theorem Zys (os:Os)(args:Array Value):laidMetH Tryz.prog Zwz ((Zrl os).forCall (fun _ _=>0) ⟨#[],args,[]⟩).memory:=laidMetH_of_parts (laidMet_of_run3 8 (by kernel_rfl) (by kernel_rfl) (by kernel_rfl)) (by kernel_rfl)
end Tg

/- What the condition on the package's variables gives the machine; the law's walk, for each of the laws. -/
namespace Tg
open Tn Go Go.Proofs Go.Proofs.YtenldcjkpgmpnaaGreatDoor Go.ChangeShapes Go.WideShapes Go.ChangeAt Go.RowKit Go.Abs
def spZ:List Int:=(List.range 256).map spc
theorem Yee {W:World}(h:laidMetH Tryz.prog Zwz W)(_:W.ShapedOpen Tryz.prog):Zcr W.heap.size W:=by
 have e:Zwz.filter (fun x=>x.2.handleName?.isSome)=[]:=by kernel_rfl
 have h0:laidMet Tryz.prog Zwz W:=by unfold laidMetH at h;rw [e] at h;exact h
 have h7:=h0.tail.tail.tail.tail.tail.tail.tail;have e2:(Rows.laid_strings_asciiSpace:DataW Unit)=Lib.tabData .u8 spZ:=by kernel_rfl
 rw [e2] at h7;have ht:=Lib.tabIs_of_head (g:=0) (t:=404) (e:=5) (n:=256) (by kernel_rfl) (by kernel_rfl) Tryz.underlying404 Tryz.underlying5 (by kernel_rfl) (by kernel_rfl) h7;have hc:∀ off,off<256->W.cell? ⟨0,off,none⟩=some (.int .u8 (spc off)):=fun off ho=>by have:=ht.cell (g:=0) (by kernel_rfl) off (by simpa [spZ] using ho);rw [this];simp [spZ,List.getD_eq_getElem?_getD,ho]
 exact⟨Nat.succ_le_of_lt (World.block_lt_of_cell? W _ (hc 0 (by decide))),hc⟩
end Tg

/- Closed facts of the program that each row's join and card ask for; the laid world is of the program's shape; the wrap of a law that lists variables. -/
namespace Go.Proofs.YtenldcjkpgmpnaaGreatDoor
open Go Go.ChangeShapes Go.WideShapes Go.ChangeAt Go.RowKit Go.Abs Tg
theorem Yoc:laidOutB Tryz.pinned.checked.prog=true:=by kernel_rfl
theorem Yun:mapsRowed Tryz.pinned.checked.prog=true:=by kernel_rfl
theorem Yrd:Tryz.pinned.checked.prog.stopsHeard=true:=by kernel_rfl
theorem Yre:Tryz.pinned.checked.prog.mayEnter=true:=by kernel_rfl
theorem Yrf:Tryz.pinned.checked.prog.liftsFinal=Rows.buildTwiceRow.lifted:=by kernel_rfl
theorem Yuo:Tryz.pinned.checked.prog.plainKeys=Rows.buildTwiceRow.plainKeys:=by kernel_rfl
theorem Yup : Tryz.pinned.checked.prog.mainIs = some (true, "e3f5836b4bfee733ae9b53450b9f901b45cd5aa1e73eb87823750533578d7a53".toList) := by kernel_rfl
theorem Yrg:true=Tryz.pinned.checked.prog.looks []:=by kernel_rfl
theorem Yag (os:Os)(args:Array Value):((Zrl os).forCall (fun _ _=>0) ⟨#[],args,[]⟩).Shaped Tryz.prog:=World.shaped_of_ZipB (by kernel_rfl) (by kernel_rfl)
theorem Yuq {H:Type}{enc:TypeId×Value->H}{a:Assume}{C:Checked}{os:Os}{f:FuncId}{fn:Func}{s:ChangeSpec}{conds:List PathCond}{apart fresh handsOn again:Bool}{X:World->Array Value->Prop}
    (hX:∀ (w w' : World) (args:Array Value),w.heap=w'.heap->X w args->X w' args)
    (own:ownKnob C.prog.godebug=none) (started:os.Started) (noInit:C.prog.inits.idxOf? f=none) (hfn:C.prog.funcs[f]? = some fn)
    (witness:∃ (w:World) (tape:Tape) (i:Input),w.os=os/\(w.forCall tape i).Shaped C.prog/\i.vars=[]/\Input.okWide C.prog (w.forCall tape i) .any w.heap.size f i /\
     ((s.pre enc C.prog fn conds apart (w.forCall tape i).memory i.args/\X (w.forCall tape i).memory i.args)/\sizedMet enc C.prog fn (OpenSpec.ofChange s) apart (w.forCall tape i).memory i.args)/\a.holds C.prog (lone (Frame.enter C.prog f i.args .normal) [] (w.forCall tape i)))
    (contract:∀ (W:World) (base:Nat) (args:Array Value) (ds gs:List (DataW H)) (before:List MemPlace),
     (∀ (j:Nat) t v,fn.params[j]? = some t->args[j]? = some v->Value.okWide C.prog W .any base t v) ->
     DataW.Whole enc C.prog fn.params.toList s.vars apart W args.toList ds gs before->X W args->W.ShapedOpen C.prog ->
     Calls C.prog f args W fun e W' => ∃ v,e = .returned v/\s.post enc C.prog fn apart fresh handsOn again W args v W') :
    ReturnsInHanded a C os f .any (fun w args=>(s.pre enc C.prog fn conds apart w args/\X w args)/\sizedMet enc C.prog fn (OpenSpec.ofChange s) apart w args) (s.post enc C.prog fn apart fresh handsOn again):=by
  refine returnsInHanded_of_calls own started noInit witness ?_;intro w tape i _ hsh _ hok hpre hholds;obtain⟨_,_,_,fn',hfn',_,_,_,_,hval⟩:=hok;obtain rfl:fn' = fn:=J0a (hfn'.symm.trans hfn);obtain⟨⟨⟨ds,gs,before,hw,_⟩,hx⟩,_⟩:=hpre;refine (contract (w.forCall tape i) w.heap.size i.args ds gs before hval (DataW.Whole.of_heap (w' := w.forCall tape i) (by rfl) hw) (hX _ _ _ (by rfl) hx) hsh).mono fun e W' ⟨v,he,hp⟩=>?_;subst he;exact ChangeSpec.post_blind hp
end Go.Proofs.YtenldcjkpgmpnaaGreatDoor
