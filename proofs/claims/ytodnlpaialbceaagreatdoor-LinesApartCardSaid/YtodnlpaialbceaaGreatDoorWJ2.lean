import Derived.Shelf.Sort.Plain
import Derived.Shelf.Slices.In.SortNone
import Derived.Sort.OwnSortedInts
import Derived.Test.YtodnlpaialbceaaGreatDoorWJ0
/- slices.Sort at []int: the laying at this dump. -/
set_option linter.unusedVariables false
set_option linter.unusedSimpArgs false
namespace Tj
open Go Go.RowKit Go.Proofs Go.Shelf
def ren189 : Go.Shelf.Ren := ⟨fun | 189 => 94 | 125 => 110 | 257 => 109 | 128 => 128 | 129 => 112 | 294 => 119 | 295 => 120 | 296 => 121 | 297 => 122 | 298 => 123 | 299 => 124 | 216 => 125 | 300 => 126 | 301 => 127 | 328 => 133 | 329 => 134 | 330 => 135 | 331 => 136 | 332 => 137 | 215 => 138 | 343 => 141 | n => n, fun | 28 => 107 | 3 => 3 | 46 => 148 | 0 => 0 | 51 => 170 | 53 => 149 | 4 => 4 | 183 => 187 | 182 => 186 | 131 => 192 | 5 => 5 | 9 => 9 | 218 => 196 | 222 => 200 | 228 => 204 | 229 => 205 | n => n, fun | n => n⟩
theorem lays189 : Go.Proofs.Lays.n189 Tryz.prog ren189 := {
 mixed := by kernel_rfl
 f125 := Tryz.func110.trans (congrArg some (by kernel_rfl))
 f128 := Tryz.func128.trans (congrArg some (by kernel_rfl))
 f129 := Tryz.func112.trans (congrArg some (by kernel_rfl))
 f189 := Tryz.func94.trans (congrArg some (by kernel_rfl))
 f215 := Tryz.func138.trans (congrArg some (by kernel_rfl))
 f216 := Tryz.func125.trans (congrArg some (by kernel_rfl))
 f257 := Tryz.func109.trans (congrArg some (by kernel_rfl))
 f294 := Tryz.func119.trans (congrArg some (by kernel_rfl))
 f295 := Tryz.func120.trans (congrArg some (by kernel_rfl))
 f296 := Tryz.func121.trans (congrArg some (by kernel_rfl))
 f297 := Tryz.func122.trans (congrArg some (by kernel_rfl))
 f298 := Tryz.func123.trans (congrArg some (by kernel_rfl))
 f299 := Tryz.func124.trans (congrArg some (by kernel_rfl))
 f300 := Tryz.func126.trans (congrArg some (by kernel_rfl))
 f301 := Tryz.func127.trans (congrArg some (by kernel_rfl))
 f328 := Tryz.func133.trans (congrArg some (by kernel_rfl))
 f329 := Tryz.func134.trans (congrArg some (by kernel_rfl))
 f330 := Tryz.func135.trans (congrArg some (by kernel_rfl))
 f331 := Tryz.func136.trans (congrArg some (by kernel_rfl))
 f332 := Tryz.func137.trans (congrArg some (by kernel_rfl))
 f343 := Tryz.func141.trans (congrArg some (by kernel_rfl))
 t0 := Tryz.underlying0
 a0 := Tryz.isAgg0
 z0 := Tryz.sizeOf0
 v0 := Tryz.zeroValue0
 t3 := Tryz.underlying3
 a3 := Tryz.isAgg3
 z3 := Tryz.sizeOf3
 v3 := Tryz.zeroValue3
 t4 := Tryz.underlying4
 a4 := Tryz.isAgg4
 z4 := Tryz.sizeOf4
 v4 := Tryz.zeroValue4
 t5 := Tryz.underlying5
 a5 := Tryz.isAgg5
 z5 := Tryz.sizeOf5
 v5 := Tryz.zeroValue5
 t9 := Tryz.underlying9
 a9 := Tryz.isAgg9
 z9 := Tryz.sizeOf9
 v9 := Tryz.zeroValue9
 t28 := Tryz.underlying107
 a28 := Tryz.isAgg107
 z28 := Tryz.sizeOf107
 v28 := Tryz.zeroValue107
 t46 := Tryz.underlying148
 a46 := Tryz.isAgg148
 z46 := Tryz.sizeOf148
 v46 := Tryz.zeroValue148
 t51 := Tryz.underlying170
 a51 := Tryz.isAgg170
 z51 := Tryz.sizeOf170
 v51 := Tryz.zeroValue170
 t53 := Tryz.underlying149
 a53 := Tryz.isAgg149
 z53 := Tryz.sizeOf149
 v53 := Tryz.zeroValue149
 t131 := Tryz.underlying192
 a131 := Tryz.isAgg192
 z131 := Tryz.sizeOf192
 v131 := Tryz.zeroValue192
 t182 := Tryz.underlying186
 a182 := Tryz.isAgg186
 z182 := Tryz.sizeOf186
 v182 := Tryz.zeroValue186
 t183 := Tryz.underlying187
 a183 := Tryz.isAgg187
 z183 := Tryz.sizeOf187
 v183 := Tryz.zeroValue187
 t218 := Tryz.underlying196
 a218 := Tryz.isAgg196
 z218 := Tryz.sizeOf196
 v218 := Tryz.zeroValue196
 t222 := Tryz.underlying200
 a222 := Tryz.isAgg200
 z222 := Tryz.sizeOf200
 v222 := Tryz.zeroValue200
 t228 := Tryz.underlying204
 a228 := Tryz.isAgg204
 z228 := Tryz.sizeOf204
 v228 := Tryz.zeroValue204
 t229 := Tryz.underlying205
 a229 := Tryz.isAgg205
 z229 := Tryz.sizeOf205
 v229 := Tryz.zeroValue205 }
end Tj

/- graph.ends: the walk. -/
set_option linter.unusedVariables false
set_option linter.unusedSimpArgs false
namespace Tj
open Go Go.RowKit Go.Proofs Go.Sort
def srt (l : List Int) : List Int := l.mergeSort fun x y => decide (x ≤ y)
def upto (n : Nat) : List Int := (List.range n).map Int.ofNat
def endsP (l : List Int) (lo hi : Int) : Bool := decide (srt l = upto l.length) && (decide (lo ≤ (l.length : Int)) && decide ((l.length : Int) ≤ hi))
theorem len_srt (l : List Int) : (srt l).length = l.length := List.length_mergeSort l
theorem get_upto {n i : Nat} (h : i < n) : (upto n)[i]? = some (i : Int) := by simp [upto, h]
theorem len_upto (n : Nat) : (upto n).length = n := by simp [upto]
theorem endsP_bad {l : List Int} {i : Nat} {x : Int} (lo hi : Int) (h : (srt l)[i]? = some x) (hx : x ≠ i) : endsP l lo hi = false := by
 have hi' : i < l.length := by rw [← len_srt]; exact (List.getElem?_eq_some_iff.1 h).1
 have : srt l ≠ upto l.length := fun e => by
  rw [e, get_upto hi'] at h
  exact hx (Option.some.inj h).symm
 simp [endsP, this]
theorem endsP_good {l : List Int} (lo hi : Int) (h : ∀ i, i < l.length → (srt l)[i]? = some (i : Int)) : endsP l lo hi = (decide (lo ≤ (l.length : Int)) && decide ((l.length : Int) ≤ hi)) := by
 have : srt l = upto l.length := by
  apply List.ext_getElem?
  intro i
  by_cases hi : i < l.length
  · rw [h i hi, get_upto hi]
  · rw [List.getElem?_eq_none (by rw [len_srt]; omega), List.getElem?_eq_none (by rw [len_upto]; omega)]
 simp [endsP, this]
theorem cell_sorted {w : World} {g cap : Nat} {l : List Int} {cur : Array Value} (hcs : cur.size = cap * 1) (hcl : l.length ≤ cap) (h : w.heap[g]? = some (.cells (putCells (Value.int .i64) 0 (srt l).toArray cur) 3 (0, 0))) (i : Nat) (x : Int) (hx : (srt l)[i]? = some x) : w.cell? ⟨g, i, none⟩ = some (.int .i64 x) := by
 have hi : i < (srt l).length := (List.getElem?_eq_some_iff.1 hx).1
 have htk := take_putCellsI cur (srt l) (by rw [len_srt, hcs]; omega)
 have : (putCells (Value.int .i64) 0 (srt l).toArray cur)[i]? = some (.int .i64 x) := by
  have h2 : ((putCells (Value.int .i64) 0 (srt l).toArray cur).toList.take (srt l).length)[i]? = some (.int .i64 x) := by
   rw [htk, List.getElem?_map, hx]
   rfl
  rw [List.getElem?_take_of_lt hi] at h2
  rw [← Array.getElem?_toList]
  exact h2
 exact (cellA h this).1
theorem grown_alloc {w w2 : World} {o : Obj} {r : Option Nat} (h : (w.alloc o).grownBy w2 r) : w.grownBy w2 r :=
 ⟨h.1, h.2, h.3, Nat.le_trans (by simp) h.4, fun k hk hne => by rw [h.block k (by simp; omega) hne, Below.heap_alloc _ _ _ hk]⟩
set_option maxRecDepth 100000 in
set_option maxHeartbeats 2000000 in
theorem ends_row (g cap : Nat) (l : List Int) (lo hi : Int) (w : World) (hl : l.length ≤ 1000) (hcl : l.length ≤ cap) (hcm : cap ≤ maxLen) (cur : Array Value) (hcs : cur.size = cap * 1) (hb : w.heap[g]? = some (.cells cur 3 (0, 0))) (ht : cur.toList.take l.length = l.map (Value.int .i64)) :
    Calls Tryz.prog 72 #[.slice (some ⟨g, 0, none⟩) l.length cap, .agg #[.int .i64 lo, .int .i64 hi]] w fun e w' => e = .returned (.bool (endsP l lo hi)) ∧ w.grownBy w' (some g) := by
  have hg : g < w.heap.size := (Array.getElem?_eq_some_iff.1 hb).1
  have hH := holds_of_blockI hb ht
  have HH := Lib.hid hH
  clear hH
  obtain ⟨n, hn⟩ : ∃ n, n = l.length := ⟨_, rfl⟩
  have HB := Lib.hid hb
  have HT := Lib.hid ht
  have HC := Lib.hid hcs
  clear hb ht hcs
  go_enter Tryz.func72, Tryz.ntmps72
  go_wp2_with (go_at_call 94; refine (Any.slices_Sort_int lays189 g 0 cap l _ (holds_of_blockI (heap_one _ HB.out hg) HT.out) (by simp; omega) (by omega)).mono ?_)
  rintro e w2 ⟨rfl, k, os, hw2⟩
  have hg0 : (w.alloc (.cells #[.int .i64 lo, .int .i64 hi] 128)).heap[g]? = some (.cells cur 3 (0, 0)) := heap_one _ HB.out hg
  have hrow : w2.heap[g]? = some (.cells (putCells (Value.int .i64) 0 (srt l).toArray cur) 3 (0, 0)) := by rw [hw2]; exact heap_sortedI _ hg0
  have hgr : (w.alloc (.cells #[.int .i64 lo, .int .i64 hi] 128)).grownBy w2 (some g) := by rw [hw2]; exact grownBy_sortedI _
  have hcell := cell_sorted HC.out hcl hrow
  have hbk : w2.heap[w.heap.size]? = some (.cells #[.int .i64 lo, .int .i64 hi] 128 (0, 0)) := by
   rw [hgr.block _ (by simp) (fun e => by injection e with e; omega)]
   exact heap_alloc_new w _
  have hfin : w.grownBy w2 (some g) := grown_alloc hgr
  have HCELL := Lib.hid hcell
  have x0 : w2.cell? ⟨w.heap.size, 0, none⟩ = some (.int .i64 lo) := (cellA hbk rfl).1
  have x1 : w2.cell? ⟨w.heap.size, 1, none⟩ = some (.int .i64 hi) := (cellA hbk rfl).1
  clear hw2 hg0 hcell hrow hgr hbk
  have X0 := Lib.hid x0
  have X1 := Lib.hid x1
  clear x0 x1
  rw [← hn]
  go_wp2
  go_loopw [11] (fun i wr => ∃ k : Nat, k ≤ n ∧ i = .int .i64 k ∧ wr = w2 ∧ ∀ j, j < k → (srt l)[j]? = some (j : Int)) (fun i _ => n - (RowKit.intOf i).toNat)
  case atStart => exact ⟨0, Nat.zero_le _, rfl, rfl, fun j hj => absurd hj (Nat.not_lt_zero _)⟩
  case round =>
   obtain ⟨q, hq, rfl, rfl, hall⟩ := hrel
   have HA := Lib.hid hall
   clear hall
   by_cases hlt : q < n
   · obtain ⟨x, hx⟩ : ∃ x, (srt l)[q]? = some x := ⟨_, List.getElem?_eq_getElem (by rw [len_srt]; omega)⟩
     have c0 := HCELL.out q x hx
     have HX := Lib.hid hx
     clear hx
     by_cases hxq : x = q
     · subst hxq
       go_wp2
       go_roundw
       case rel =>
        refine ⟨q + 1, by omega, by go_num, by first | rfl | trivial, fun j hj => ?_⟩
        by_cases hjq : j = q
        · subst hjq; exact HX.out
        · exact HA.out j (by omega)
       case measure => simp [RowKit.intOf]; omega
     · have hne : (x != q) = true := by simpa using hxq
       go_wp2
       go_ret
       exact ⟨by rw [endsP_bad lo hi HX.out hxq]; rfl, hfin⟩
   · have hqe : q = n := by omega
     subst hqe
     have x0 := X0.out
     have x1 := X1.out
     have hres := endsP_good lo hi (l := l) (fun i hi => HA.out i (by omega))
     rw [← hn] at hres
     have HRES := Lib.hid hres
     clear hres
     by_cases h1 : lo ≤ (q : Int)
     · go_wp2
       go_ret
       have e1 : endsP l lo hi = decide ((l.length : Int) ≤ hi) := by
        rw [HRES.out, ← hn]
        simp [h1]
       exact ⟨by rw [e1]; rfl, hfin⟩
     · go_wp2
       go_ret
       exact ⟨by rw [show endsP l lo hi = false from by rw [HRES.out]; simp; omega]; rfl, hfin⟩
set_option maxRecDepth 100000 in
set_option maxHeartbeats 2000000 in
theorem ends_nil (p : Option Addr) (c : Nat) (lo hi : Int) (w : World) :
    Calls Tryz.prog 72 #[.slice p 0 c, .agg #[.int .i64 lo, .int .i64 hi]] w fun e w' => e = .returned (.bool (endsP [] lo hi)) ∧ w.grownBy w' none := by
  have hres := endsP_good lo hi (l := []) (fun i hi => absurd hi (Nat.not_lt_zero _))
  have HRES := Lib.hid hres
  clear hres
  go_enter Tryz.func72, Tryz.ntmps72
  go_wp2_with (go_at_call 94; refine (Any.slices_Sort_int_none lays189 p c _).mono ?_)
  rintro e w2 ⟨rfl, rfl⟩
  go_wp2
  go_loopw [11] (fun i wr => i = .int .i64 0 ∧ wr = w.alloc (.cells #[.int .i64 lo, .int .i64 hi] 128)) (fun _ _ => 0)
  case atStart => exact ⟨rfl, rfl⟩
  case round =>
   obtain ⟨rfl, rfl⟩ := hrel
   by_cases h1 : lo ≤ 0
   · go_wp2
     go_ret
     have e1 : endsP [] lo hi = decide (0 ≤ hi) := by
      rw [HRES.out]
      simp [h1]
     exact ⟨by rw [e1]; rfl, World.grownBy_alloc _ _ _⟩
   · go_wp2
     go_ret
     exact ⟨by rw [show endsP [] lo hi = false from by rw [HRES.out]; simp; omega]; rfl, World.grownBy_alloc _ _ _⟩
theorem ends_any (base : Nat) (v : Value) (l : List Int) (lo hi : Int) (w : World) (hl : l.length ≤ 1000) (hv : w.ownsRow base 3 1 v l.length (l.map (.int .i64))) :
    Calls Tryz.prog 72 #[v, .agg #[.int .i64 lo, .int .i64 hi]] w fun e w' => e = .returned (.bool (endsP l lo hi)) ∧ w.grownBy w' v.ownBlock := by
  obtain ⟨h1, h2⟩ := hv
  rcases h2 with ⟨rfl, h0⟩ | ⟨g, cap, cur, rfl, hb, hg, hn, hc, hs, ht⟩
  · have : l = [] := List.length_eq_zero_iff.1 h0
    subst this
    exact ends_nil none 0 lo hi w
  · rw [Nat.mul_one] at ht
    exact ends_row g cap l lo hi w hl hn hc cur hs hg ht
end Tj
