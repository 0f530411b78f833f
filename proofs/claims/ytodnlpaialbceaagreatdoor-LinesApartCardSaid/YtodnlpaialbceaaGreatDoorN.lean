import Derived.Test.YtodnlpaialbceaaGreatDoorRows
import Derived.LaidOnce
import Derived.Stop.Joined
import Derived.Deep.DeepLaidRun
import Derived.Test.YtodnlpaialbceaaGreatDoorT
import Derived.Stop.LaidErr
import Derived.HandedShaped
import Derived.Shelf.Vars
/- A world in which the listed variables hold what the program's text lays; what the condition gives. -/
set_option linter.unusedVariables false
set_option linter.unusedSimpArgs false
namespace Tg
open Go Go.Proofs Go.Proofs.YtodnlpaialbceaaGreatDoor Go.ChangeShapes Go.WideShapes Go.RowKit
def laidN : List (String × DataW Unit) := [("math/bits.deBruijn32tab", Rows.laid_math_bits_deBruijn32tab), ("math/bits.deBruijn64tab", Rows.laid_math_bits_deBruijn64tab), ("internal/strconv.uint64pow10", Rows.laid_internal_strconv_uint64pow10), ("unicode/utf8.acceptRanges", Rows.laid_unicode_utf8_acceptRanges), ("strconv.ErrRange", Rows.laid_strconv_ErrRange), ("strconv.ErrSyntax", Rows.laid_strconv_ErrSyntax), ("unicode/utf8.first", Rows.laid_unicode_utf8_first)]
def lit1 : DataW Unit → Value
 | .lit (.int k n) => .int k n
 | _ => undef
def row1 : DataW Unit → List Value
 | .agg l => l.map lit1
 | _ => []
def row2 : DataW Unit → List Value
 | .agg l => l.flatMap row1
 | _ => []
def setc (c : Array Value) : Obj → Obj
 | .cells _ t f => .cells c t f
 | o => o
noncomputable def laidHeap (h : Array Obj) : Array Obj :=
 (((((((h.modify 1 (setc #[.iface 174 (.pointer (some ⟨14, 0, none⟩))])).modify 2 (setc #[.iface 174 (.pointer (some ⟨13, 0, none⟩))])).modify 3 (setc (row1 Rows.laid_unicode_utf8_first).toArray)).modify 4 (setc (row2 Rows.laid_unicode_utf8_acceptRanges).toArray)).modify 5 (setc (row1 Rows.laid_internal_strconv_uint64pow10).toArray)).modify 6 (setc (row1 Rows.laid_math_bits_deBruijn32tab).toArray)).modify 7 (setc (row1 Rows.laid_math_bits_deBruijn64tab).toArray)) ++
 #[.cells #[.string ⟨#[118, 97, 108, 117, 101, 32, 111, 117, 116, 32, 111, 102, 32, 114, 97, 110, 103, 101]⟩] 176, .cells #[.string ⟨#[105, 110, 118, 97, 108, 105, 100, 32, 115, 121, 110, 116, 97, 120]⟩] 176]
noncomputable def laidWorld (os : Os) : World := { World.holding Tryz.prog os ⟨#[], #[], []⟩ with heap := laidHeap (World.holding Tryz.prog os ⟨#[], #[], []⟩).heap }
theorem own : ownKnob Tryz.prog.godebug = none := by kernel_rfl
theorem laidWorld_met (os : Os) (args : Array Value) : laidMetH Tryz.prog laidN ((laidWorld os).forCall (fun _ _ => 0) ⟨#[], args, []⟩).memory :=
 laidMetH_of_parts (laidMet_of_run3 8 (by kernel_rfl) (by kernel_rfl) (by kernel_rfl)) (by kernel_rfl)
end Tg

/- What the condition on the package's variables and the world's shape give the machine. -/
set_option linter.unusedVariables false
set_option linter.unusedSimpArgs false
namespace Tg
open Go Go.Proofs Go.Proofs.YtodnlpaialbceaaGreatDoor Go.ChangeShapes Go.WideShapes Go.ChangeAt Go.RowKit Go.Abs
theorem star : "*" ++ "errors.errorString" = "*errors.errorString" := by decide
theorem rowErr (u : TypeId) (h : Tryz.prog.typeName? 3 u = some "*errors.errorString") : u = 174 :=
 typeName_ptr_named (nm := "errors.errorString") (by rw [star]; kernel_rfl) (by kernel_rfl) (by decide) u (by rw [star]; exact h)
theorem globOk_of {W : World} (h : laidMetH Tryz.prog laidN W) (hsh : W.ShapedOpen Tryz.prog) : GlobOk W.heap.size W := by
 have e : laidN.filter (fun x => x.2.handleName?.isSome) = [] := by kernel_rfl
 have h0 : laidMet Tryz.prog laidN W := by
  unfold laidMetH at h
  rw [e] at h
  exact h
 have h2 := h0.tail.tail
 have h4 := h2.tail.tail
 have h5 := h4.tail
 have e3 : (Rows.laid_internal_strconv_uint64pow10 : DataW Unit) = Lib.tabData .u64 Lib.pow10Tab := by kernel_rfl
 rw [e3] at h2
 have hp := Lib.tabIs_of_head (g := 5) (t := 180) (e := 149) (n := 20) (by kernel_rfl) (by kernel_rfl) Tryz.underlying180 Tryz.underlying149 (by kernel_rfl) (by kernel_rfl) h2
 have hg1 : Tryz.prog.globalNamed "strconv.ErrSyntax" = some 1 := by kernel_rfl
 have hg2 : Tryz.prog.globalNamed "strconv.ErrRange" = some 2 := by kernel_rfl
 obtain ⟨a, s, hv, _⟩ := laid_sentinel h5 hg1 (by kernel_rfl) Tryz.underlying67 rowErr Tryz.underlying174 Tryz.underlying176 rfl rfl Tryz.underlying9 (by kernel_rfl) (by kernel_rfl)
 obtain ⟨a2, s2, hv2, _⟩ := laid_sentinel h4 hg2 (by kernel_rfl) Tryz.underlying67 rowErr Tryz.underlying174 Tryz.underlying176 rfl rfl Tryz.underlying9 (by kernel_rfl) (by kernel_rfl)
 have c1 := World.var?_cell hg1 hv 0
 have c2 := World.var?_cell hg2 hv2 0
 obtain ⟨m, hm⟩ := Go.Proofs.cell_of_shapedOpen_int (zero := #[.int .i64 0]) (g := 0) (t := 3) hsh (of_decide_eq_true (by kernel_rfl)) (by kernel_rfl) rfl (by kernel_rfl) (by kernel_rfl) Tryz.underlying3
 have c3 := hp.cell (g := 5) (by kernel_rfl) 0 (by decide)
 exact ⟨Nat.succ_le_of_lt (World.block_lt_of_cell? W _ c3), hp, ⟨_, _, c1⟩, ⟨_, _, c2⟩, ⟨m, hm⟩⟩
end Tg
