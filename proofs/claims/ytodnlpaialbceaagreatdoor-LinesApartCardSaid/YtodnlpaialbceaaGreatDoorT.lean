import Derived.Lib.AppendIntMem
import Derived.Test.YtodnlpaialbceaaGreatDoorProg
import Derived.Test.YtodnlpaialbceaaGreatDoorlpA
/- What is known of the package's variables; shapes' short names. -/
set_option linter.unusedVariables false
set_option linter.unusedSimpArgs false
namespace Tg
open Go Go.Abs Go.RowKit Go.Proofs
theorem tab_stable {w w' : World} (h : Lib.TabIs Tryz.prog w "internal/strconv.uint64pow10" .u64 Lib.pow10Tab) (hb : Below 6 w w') : Lib.TabIs Tryz.prog w' "internal/strconv.uint64pow10" .u64 Lib.pow10Tab := by
 have hgn : Tryz.prog.globalNamed "internal/strconv.uint64pow10" = some 5 := by kernel_rfl
 unfold Lib.TabIs World.var? at h ⊢
 rw [hgn] at h ⊢
 simp only [Option.bind_some] at h ⊢
 rw [hb.block 5 (by decide)]
 exact h
def GT (w : World) : Prop := Lib.TabIs Tryz.prog w "internal/strconv.uint64pow10" .u64 Lib.pow10Tab ∧ (∃ te pe, w.cell? ⟨1, 0, none⟩ = some (.iface te pe)) ∧ (∃ te pe, w.cell? ⟨2, 0, none⟩ = some (.iface te pe)) ∧ ∃ m, w.cell? ⟨0, 0, none⟩ = some (.int .i64 m)
instance glob : Glob := ⟨6, GT, fun w w' h hb => ⟨tab_stable h.1 hb, by
 obtain ⟨te, pe, hc⟩ := h.2.1
 exact ⟨te, pe, (hb.cell (p := ⟨1, 0, none⟩) (by decide)).trans hc⟩, by
 obtain ⟨te, pe, hc⟩ := h.2.2.1
 exact ⟨te, pe, (hb.cell (p := ⟨2, 0, none⟩) (by decide)).trans hc⟩, by
 obtain ⟨m, hc⟩ := h.2.2.2
 exact ⟨m, (hb.cell (p := ⟨0, 0, none⟩) (by decide)).trans hc⟩⟩⟩
abbrev qi : List Sh := [.c (.p (.int .i64))]
abbrev qb : List Sh := [.c (.p (.bool))]
abbrev qn (n : Nat) : List Sh := List.replicate n (.c .any)
abbrev qc (l : List (List Sh)) : List Sh := l.flatten
end Tg

/- Names of types and shapes. -/
set_option linter.unusedVariables false
set_option linter.unusedSimpArgs false
namespace Tg
open Go.Abs
abbrev qY1 : List CT := [.int .i64, .int .i64, .int .i64, .int .i64, .int .i64]
abbrev qY2 : List CT := [.int .i64, .int .i64]
abbrev qY3 : List CT := [.sl [.int .u8, .int .i64], .sl qY1]
end Tg

/- Names of types and shapes. -/
set_option linter.unusedVariables false
set_option linter.unusedSimpArgs false
namespace Tg
open Go.Abs
abbrev qX1 : List CT := [.int .i64, .int .i64, .int .i64, .int .i64, .int .i64]
abbrev qX2 : List CT := [.int .i64, .int .i64, .int .i64]
abbrev qX3 : List CT := [.int .u8, .int .i64]
end Tg
