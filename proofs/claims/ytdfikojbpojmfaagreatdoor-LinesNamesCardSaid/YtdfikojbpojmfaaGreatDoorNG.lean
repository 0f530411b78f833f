import Derived.Test.YtdfikojbpojmfaaGreatDoorAbsLaw
import Derived.Test.YtdfikojbpojmfaaGreatDoorNC
import Derived.Test.YtdfikojbpojmfaaGreatDoorNL
import Derived.Lib.LaidTab
import Derived.Stop.LaidErr
/- What the condition on the package's variables gives the machine; the law's walk, for each of the laws. -/
set_option linter.unusedVariables false
namespace Tn
open Go Go.Proofs Go.Proofs.YtdfikojbpojmfaaGreatDoor Go.ChangeShapes Go.WideShapes Go.ChangeAt Go.RowKit Go.Abs
def spZ : List Int := (List.range 256).map spc
theorem star : "*" ++ "errors.errorString" = "*errors.errorString" := by decide
theorem rowErr (u : TypeId) (h : Tryz.prog.typeName? 3 u = some "*errors.errorString") : u = 268 :=
  typeName_ptr_named (nm := "errors.errorString") (by rw [star]; kernel_rfl) (by kernel_rfl) (by decide) u (by rw [star]; exact h)
theorem globOk_of {W : World} (h : laidMetH Tryz.prog laidN W) : GlobOk W.heap.size W := by
  have e : laidN.filter (fun x => x.2.handleName?.isSome) = [] := by kernel_rfl
  have h0 : laidMet Tryz.prog laidN W := by
    unfold laidMetH at h
    rw [e] at h
    exact h
  have h2 := h0.tail.tail
  have h5 := h2.tail.tail.tail
  have h7 := h5.tail.tail
  have e2 : (Rows.laid_strings_asciiSpace : DataW Unit) = Lib.tabData .u8 spZ := by kernel_rfl
  rw [e2] at h7
  have e3 : (Rows.laid_internal_strconv_uint64pow10 : DataW Unit) = Lib.tabData .u64 Lib.pow10Tab := by kernel_rfl
  rw [e3] at h2
  have ht := Lib.tabIs_of_head (g := 8) (t := 262) (e := 5) (n := 256) (by kernel_rfl) (by kernel_rfl) Tryz.underlying262 Tryz.underlying5 (by kernel_rfl) (by kernel_rfl) h7
  have hp := Lib.tabIs_of_head (g := 3) (t := 238) (e := 203) (n := 20) (by kernel_rfl) (by kernel_rfl) Tryz.underlying238 Tryz.underlying203 (by kernel_rfl) (by kernel_rfl) h2
  have hc : ∀ off, off < 256 → W.cell? ⟨8, off, none⟩ = some (.int .u8 (spc off)) := fun off ho => by
    have := ht.cell (g := 8) (by kernel_rfl) off (by simpa [spZ] using ho)
    rw [this]
    simp [spZ, List.getD_eq_getElem?_getD, ho]
  have hg : Tryz.prog.globalNamed "strconv.ErrSyntax" = some 1 := by kernel_rfl
  obtain ⟨a, s, hv, _⟩ := laid_sentinel h5 hg (by kernel_rfl) Tryz.underlying80 rowErr Tryz.underlying268 Tryz.underlying270 rfl rfl Tryz.underlying9 (by kernel_rfl) (by kernel_rfl)
  have hv1 := World.var?_cell hg hv 0
  exact ⟨Nat.succ_le_of_lt (World.block_lt_of_cell? W _ (hc 0 (by decide))), hc, hp, ⟨_, _, hv1⟩⟩
end Tn
