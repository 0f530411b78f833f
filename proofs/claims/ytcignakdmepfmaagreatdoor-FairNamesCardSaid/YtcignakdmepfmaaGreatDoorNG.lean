import Derived.Test.YtcignakdmepfmaaGreatDoorAbsLaw
import Derived.Test.YtcignakdmepfmaaGreatDoorNC
import Derived.Test.YtcignakdmepfmaaGreatDoorNL
import Derived.Lib.LaidTab
import Derived.Stop.LaidErr
/- What the condition on the package's variables gives the machine; the law's walk, for each of the laws. -/
set_option linter.unusedVariables false
namespace Tn
open Go Go.Proofs Go.Proofs.YtcignakdmepfmaaGreatDoor Go.ChangeShapes Go.WideShapes Go.ChangeAt Go.RowKit Go.Abs
def spZ : List Int := (List.range 256).map spc
theorem globOk_of {W : World} (h : laidMetH Tryz.prog laidN W) : GlobOk W.heap.size W := by
  have e : laidN.filter (fun x => x.2.handleName?.isSome) = [] := by kernel_rfl
  have h0 : laidMet Tryz.prog laidN W := by
    unfold laidMetH at h
    rw [e] at h
    exact h
  have h7 := h0.tail.tail.tail.tail.tail.tail.tail
  have e2 : (Rows.laid_strings_asciiSpace : DataW Unit) = Lib.tabData .u8 spZ := by kernel_rfl
  rw [e2] at h7
  have ht := Lib.tabIs_of_head (g := 0) (t := 375) (e := 5) (n := 256) (by kernel_rfl) (by kernel_rfl) Tryz.underlying375 Tryz.underlying5 (by kernel_rfl) (by kernel_rfl) h7
  have hc : ∀ off, off < 256 → W.cell? ⟨0, off, none⟩ = some (.int .u8 (spc off)) := fun off ho => by
    have := ht.cell (g := 0) (by kernel_rfl) off (by simpa [spZ] using ho)
    rw [this]
    simp [spZ, List.getD_eq_getElem?_getD, ho]
  exact ⟨Nat.succ_le_of_lt (World.block_lt_of_cell? W _ (hc 0 (by decide))), hc⟩
end Tn
