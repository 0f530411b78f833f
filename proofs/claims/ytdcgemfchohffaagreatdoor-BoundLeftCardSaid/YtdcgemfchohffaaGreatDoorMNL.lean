import Derived.Test.YtdcgemfchohffaaGreatDoorRows
import Derived.LaidOnce
import Derived.Stop.Joined
import Derived.Deep.DeepLaidRun
import Derived.Test.YtdcgemfchohffaaGreatDoorMGT
import Derived.HandedShaped
import Derived.Lib.LaidTab
import Derived.Stop.LaidErr
/- A world in which the listed variables hold what the program's text lays; what the condition gives. -/
set_option linter.unusedVariables false
set_option linter.unusedSimpArgs false
namespace Tg
open Go Go.Proofs Go.Proofs.YtdcgemfchohffaaGreatDoor Go.ChangeShapes Go.WideShapes Go.RowKit
def Zmo : List (String × DataW Unit) := [("math/bits.deBruijn32tab", Rows.laid_math_bits_deBruijn32tab), ("math/bits.deBruijn64tab", Rows.laid_math_bits_deBruijn64tab), ("internal/strconv.uint64pow10", Rows.laid_internal_strconv_uint64pow10), ("unicode/utf8.acceptRanges", Rows.laid_unicode_utf8_acceptRanges), ("strconv.ErrRange", Rows.laid_strconv_ErrRange), ("strconv.ErrSyntax", Rows.laid_strconv_ErrSyntax), ("unicode.White_Space", Rows.laid_unicode_White_Space), ("strings.asciiSpace", Rows.laid_strings_asciiSpace), ("unicode/utf8.first", Rows.laid_unicode_utf8_first)]
def lit1:DataW Unit→Value
 | .lit (.int k n)=>.int k n
 | _=>undef
def row1:DataW Unit→List Value
 | .agg l=>l.map lit1
 | _=>[]
def row2:DataW Unit→List Value
 | .agg l=>l.flatMap row1
 | _=>[]
def setc (c:Array Value):Obj→Obj
 | .cells _ t f=>.cells c t f
 | o=>o
noncomputable def Yfk (h:Array Obj):Array Obj :=
 (((((((((h.modify 0 (setc (row1 Rows.laid_strings_asciiSpace).toArray)).modify 1 (setc #[.pointer (some ⟨18,0,none⟩)])).modify 3 (setc #[.iface 377 (.pointer (some ⟨17,0,none⟩))])).modify 4 (setc #[.iface 377 (.pointer (some ⟨16,0,none⟩))])).modify 5 (setc (row1 Rows.laid_unicode_utf8_first).toArray)).modify 6 (setc (row2 Rows.laid_unicode_utf8_acceptRanges).toArray)).modify 7 (setc (row1 Rows.laid_internal_strconv_uint64pow10).toArray)).modify 8 (setc (row1 Rows.laid_math_bits_deBruijn32tab).toArray)).modify 9 (setc (row1 Rows.laid_math_bits_deBruijn64tab).toArray)) ++
 #[.cells #[.string ⟨#[118,97,108,117,101,32,111,117,116,32,111,102,32,114,97,110,103,101]⟩] 379,.cells #[.string ⟨#[105,110,118,97,108,105,100,32,115,121,110,116,97,120]⟩] 379,
  .cells #[.slice (some ⟨19,0,none⟩) 7 7,.slice none 0 0,.int .i64 2] 362,
  .cells #[.int .u16 9,.int .u16 13,.int .u16 1,.int .u16 32,.int .u16 133,.int .u16 101,.int .u16 160,.int .u16 5760,.int .u16 5600,.int .u16 8192,.int .u16 8202,.int .u16 1,.int .u16 8232,.int .u16 8233,.int .u16 1,.int .u16 8239,.int .u16 8287,.int .u16 48,.int .u16 12288,.int .u16 12288,.int .u16 1] 365]
noncomputable def Zl1 (os:Os):World:={ World.holding Tryz.prog os ⟨#[],#[],[]⟩ with heap:=Yfk (World.holding Tryz.prog os ⟨#[],#[],[]⟩).heap }
theorem own:ownKnob Tryz.prog.godebug=none:=by kernel_rfl
theorem Zmp (os:Os)(args:Array Value):laidMetH Tryz.prog Zmo ((Zl1 os).forCall (fun _ _=>0) ⟨#[],args,[]⟩).memory:=laidMetH_of_parts (laidMet_of_run3 8 (by kernel_rfl) (by kernel_rfl) (by kernel_rfl)) (by kernel_rfl)
end Tg

/- What the condition on the package's variables gives the machine; the law's walk, for each of the laws. -/
namespace Tg
open Tn Go Go.Proofs Go.Proofs.YtdcgemfchohffaaGreatDoor Go.ChangeShapes Go.WideShapes Go.ChangeAt Go.RowKit Go.Abs
def spZ:List Int:=(List.range 256).map spc
theorem Zyu {W:World}(h:laidMetH Tryz.prog Zmo W)(_:W.ShapedOpen Tryz.prog):Zg6 W.heap.size W:=by
 have e:Zmo.filter (fun x=>x.2.handleName?.isSome)=[]:=by kernel_rfl
 have h0:laidMet Tryz.prog Zmo W:=by unfold laidMetH at h;rw [e] at h;exact h
 have h7:=h0.tail.tail.tail.tail.tail.tail.tail;have e2:(Rows.laid_strings_asciiSpace:DataW Unit)=Lib.tabData .u8 spZ:=by kernel_rfl
 rw [e2] at h7;have ht:=Lib.tabIs_of_head (g:=0) (t:=323) (e:=5) (n:=256) (by kernel_rfl) (by kernel_rfl) Tryz.underlying323 Tryz.underlying5 (by kernel_rfl) (by kernel_rfl) h7;have hc:∀ off,off<256→W.cell? ⟨0,off,none⟩=some (.int .u8 (spc off)):=fun off ho=>by have:=ht.cell (g:=0) (by kernel_rfl) off (by simpa [spZ] using ho);rw [this];simp [spZ,List.getD_eq_getElem?_getD,ho]
 exact⟨Nat.succ_le_of_lt (World.block_lt_of_cell? W _ (hc 0 (by decide))),hc⟩
end Tg
