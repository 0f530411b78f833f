import Derived.Test.YtdfikojbpojmfaaGreatDoorRows
import Derived.WalkKit
import Derived.Maps.OwnSet
import Derived.Maps.Views
import Derived.Lib.Hide
import Derived.Test.YtdfikojbpojmfaaGreatDoorNO
/- Different elements, counted by a map: the walk. -/
set_option linter.unusedVariables false
namespace Tn
open Go Go.RowKit Go.Maps Go.Proofs
def Ds (zs : List Int) (k : Nat) : DataW Unit := (zs.take k).foldl (fun D x => D.put (.int .i64 x) (.lit (.bool true))) (.map [])
theorem Ds_step (zs : List Int) {k : Nat} {x : Int} (hx : zs[k]? = some x) : Ds zs (k + 1) = (Ds zs k).put (.int .i64 x) (.lit (.bool true)) := by
  unfold Ds
  rw [List.take_add_one, hx, List.foldl_append]
  rfl

set_option maxRecDepth 100000 in
set_option maxHeartbeats 1000000 in
theorem distinct_none (a : Option Addr) (cap : Nat) (w : World) :
    Calls Tryz.prog 162 #[.slice a 0 cap] w fun e w' => e = .returned (.int .i64 0) ∧ Below w.heap.size w w' := by
  have hmm := @run_makeMap Tryz.prog
  go_enter Tryz.func162, Tryz.ntmps162
  go_wp2
  refine wp_loop_rounds 1 ?_
  rw [rounds_succ]
  go_wp2_with (first
    | (at_len; refine wpList_len_own (H := Unit) _ rfl _ 294 rfl 3 4 Tryz.underlying294 (plainElem Tryz.prog 4) w.heap.size 0 (.map []) rfl (World.ownsMap_made _ _ _ _) ?_)
    | go_in)
  go_ret
  exact ⟨rfl, (Below.refl _ _).alloc (Nat.le_refl _) _⟩

set_option maxRecDepth 100000 in
set_option maxHeartbeats 1000000 in
theorem distinct_any (a : Addr) (len cap : Nat) (zs : List Int) (w : World) (hz : len = zs.length) (hm : len < 9223372036854775807) (hb : a.block < w.heap.size)
    (hc : ∀ (j : Nat) (x : Int), zs[j]? = some x → w.cell? (a.add j) = some (.int .i64 x)) (hwz : ∀ n ∈ zs, (Lit.int .i64 n).wf = true) :
    Calls Tryz.prog 162 #[.slice (some a) len cap] w fun e w' => e = .returned (.int .i64 (Maps.size (Ds zs len))) ∧ Below w.heap.size w w' := by
  have hmm := @run_makeMap Tryz.prog
  have hZ := Lib.hid hz
  clear hz
  go_enter Tryz.func162, Tryz.ntmps162
  go_wp2
  go_loopw [9] (fun i wr => ∃ k : Nat, k ≤ len ∧ i = .int .i64 k ∧ wr.ownsMap Tryz.prog 3 (plainElem (H := Unit) Tryz.prog 4) w.heap.size k (Ds zs k) ∧ Below w.heap.size w wr)
    (fun i _ => len - (intOf i).toNat)
  case atStart => exact ⟨0, Nat.zero_le _, rfl, World.ownsMap_made _ _ _ _, (Below.refl _ _).alloc (Nat.le_refl _) _⟩
  case round =>
    obtain ⟨k, hk, rfl, hown, hnx⟩ := hrel
    obtain ⟨x, hx⟩ : ∃ x, x = zs.getD k 0 := ⟨_, rfl⟩
    have hget : k < len → zs[k]? = some x := fun hlt => by rw [hx, List.getD, List.getElem?_eq_getElem (by rw [← hZ.out]; exact hlt)]; rfl
    have hcx : k < len → wr.cell? (a.add k) = some (.int .i64 x) := fun hlt => by
      refine (hnx.cell ?_).trans (hc k x (hget hlt))
      unfold Addr.add; split <;> exact hb
    have hkey : k < len → keyOf Tryz.prog 3 (.int .i64 x) = some (.int .i64 x) := fun hlt => keyOf_int_mk Tryz.underlying3 (hwz x (List.mem_of_getElem? (hget hlt)))
    have hst : k < len → Ds zs (k + 1) = (Ds zs k).put (.int .i64 x) (.lit (.bool true)) := fun hlt => Ds_step zs (hget hlt)
    have HX := Lib.hid hx
    have HG := Lib.hid hget
    have HS := Lib.hid hst
    clear hx hget hst
    go_wp2_with (first
      | (at_mapUpdate; refine wpList_mapUpdate_own _ rfl _ _ _ 294 rfl 3 4 law3 Tryz.underlying294 _ w.heap.size k _ rfl hown (by unfold maxLen; omega) _ _ _ rfl rfl (hkey (by assumption)) _ [] (plainElem_bool Tryz.underlying4 true) ?_; intro w1 hown1 hgrow1)
      | (at_len; refine wpList_len_own _ rfl _ 294 rfl 3 4 Tryz.underlying294 _ w.heap.size k _ rfl hown ?_)
      | go_in)
    · have hlt : k < len := by assumption
      go_roundw
      case rel => exact ⟨k + 1, by omega, by go_num, by rw [HS.out hlt]; exact hown1, hnx.grown hgrow1 hnx.size (fun j hj => by cases hj; exact Nat.le_refl _)⟩
      case measure => simp [intOf]; omega
    · have : k = len := by omega
      subst this
      go_ret
      exact ⟨rfl, hnx⟩
end Tn
