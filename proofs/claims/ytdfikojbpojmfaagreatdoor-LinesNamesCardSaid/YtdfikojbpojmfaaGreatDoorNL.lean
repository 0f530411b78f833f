import Derived.Test.YtdfikojbpojmfaaGreatDoorRows
import Derived.ChangeSame
import Derived.ChangeVars
import Derived.JoinedOf
import Derived.RowKit
import Derived.RowKitTokens
import Derived.LaidLaws
import Derived.LaidHandle
import Derived.LaidOnce
import Derived.LaidByTextLater
import Derived.Stop.Joined
import Derived.Deep.DeepLaidRun
/- A world in which the listed variables hold what the program's text lays; what the condition gives. -/
set_option linter.unusedVariables false
namespace Tn
open Go Go.Proofs Go.Proofs.YtdfikojbpojmfaaGreatDoor Go.ChangeShapes Go.WideShapes Go.RowKit
def laidN : List (String × DataW Unit) := [("math/bits.deBruijn32tab", Rows.laid_math_bits_deBruijn32tab), ("math/bits.deBruijn64tab", Rows.laid_math_bits_deBruijn64tab), ("internal/strconv.uint64pow10", Rows.laid_internal_strconv_uint64pow10), ("unicode/utf8.acceptRanges", Rows.laid_unicode_utf8_acceptRanges), ("strconv.ErrRange", Rows.laid_strconv_ErrRange), ("strconv.ErrSyntax", Rows.laid_strconv_ErrSyntax), ("unicode.White_Space", Rows.laid_unicode_White_Space), ("strings.asciiSpace", Rows.laid_strings_asciiSpace), ("unicode/utf8.first", Rows.laid_unicode_utf8_first)]
def lit1 : DataW Unit → Value
  | .lit (.int k n) => .int k n
  | _ => undef
def row1 : DataW Unit → List Value
  | .agg l => l.map lit1
  | _ => []
def row2 : DataW Unit → List Value
  | .agg l => l.flatMap row1
  | _ => []
def setc (c : Array Value) : Obj → Obj
  | .cells _ t f => .cells c t f
  | o => o
noncomputable def laidHeap (h : Array Obj) : Array Obj :=
  (((((((((h.modify 8 (setc (row1 Rows.laid_strings_asciiSpace).toArray)).modify 9 (setc #[.pointer (some ⟨18, 0, none⟩)])).modify 1 (setc #[.iface 268 (.pointer (some ⟨17, 0, none⟩))])).modify 2 (setc #[.iface 268 (.pointer (some ⟨16, 0, none⟩))])).modify 4 (setc (row1 Rows.laid_unicode_utf8_first).toArray)).modify 5 (setc (row2 Rows.laid_unicode_utf8_acceptRanges).toArray)).modify 3 (setc (row1 Rows.laid_internal_strconv_uint64pow10).toArray)).modify 6 (setc (row1 Rows.laid_math_bits_deBruijn32tab).toArray)).modify 7 (setc (row1 Rows.laid_math_bits_deBruijn64tab).toArray)) ++
  #[.cells #[.string ⟨#[118, 97, 108, 117, 101, 32, 111, 117, 116, 32, 111, 102, 32, 114, 97, 110, 103, 101]⟩] 270, .cells #[.string ⟨#[105, 110, 118, 97, 108, 105, 100, 32, 115, 121, 110, 116, 97, 120]⟩] 270,
    .cells #[.slice (some ⟨19, 0, none⟩) 7 7, .slice none 0 0, .int .i64 2] 339,
    .cells #[.int .u16 9, .int .u16 13, .int .u16 1, .int .u16 32, .int .u16 133, .int .u16 101, .int .u16 160, .int .u16 5760, .int .u16 5600, .int .u16 8192, .int .u16 8202, .int .u16 1, .int .u16 8232, .int .u16 8233, .int .u16 1, .int .u16 8239, .int .u16 8287, .int .u16 48, .int .u16 12288, .int .u16 12288, .int .u16 1] 342]
noncomputable def laidWorld (os : Os) : World := { World.holding Tryz.prog os ⟨#[], #[], []⟩ with heap := laidHeap (World.holding Tryz.prog os ⟨#[], #[], []⟩).heap }
theorem own : ownKnob Tryz.prog.godebug = none := by kernel_rfl
theorem laidWorld_met (os : Os) : laidMetH Tryz.prog laidN ((laidWorld os).forCall (fun _ _ => 0) ⟨#[], #[], []⟩).memory :=
  laidMetH_of_parts (laidMet_of_run3 8 (by kernel_rfl) (by kernel_rfl) (by kernel_rfl)) (by kernel_rfl)
end Tn
