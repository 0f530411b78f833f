import Derived.Test.YtodnlpaialbceaaGreatDoorWO
/- message.Text: the walk. -/
set_option linter.unusedVariables false
set_option linter.unusedSimpArgs false
namespace Tw
open Go Go.RowKit Go.Proofs

set_option maxHeartbeats 4000000 in
set_option maxRecDepth 1000000 in
theorem text_late (k t v a b c d e f : Int) (w : World) (hI : ∀ n ∈ [k, t, v], okI n) (htab : Lib.TabIs Tryz.prog w "internal/strconv.uint64pow10" .u64 Lib.pow10Tab)
    (hchk : ∀ w1, Below w.heap.size w w1 → Calls Tryz.prog 57 #[msg 4 k t v a b c d e f] w1 fun x w' => x = .returned (.int .i64 0) ∧ Below w1.heap.size w1 w') :
    Calls Tryz.prog 40 #[msg 4 k t v a b c d e f] w fun x w' => x = .returned (.tuple #[.string ⟨([108, 97, 116, 101] ++ nums [k, t, v]).toArray⟩, .int .i64 0]) ∧ Below w.heap.size w w' := by
  unfold msg at hchk ⊢
  go_enter Tryz.func40, Tryz.ntmps40
  go_wp2_with (go_at_call 57; refine (hchk _ ((Below.refl _ _).alloc (Nat.le_refl _) _)).mono ?_)
  rintro x w1 ⟨rfl, hb1⟩
  have hsz := hb1.size
  simp at hsz
  have hm : w1.heap[w.heap.size]? = some (.cells #[.int .u8 4, .int .i64 k, .int .i64 t, .int .i64 v, .int .i64 a, .int .i64 b, .int .i64 c, .int .i64 d, .int .i64 e, .int .i64 f] 98 (0, 0)) := by
   rw [hb1.block _ (by simp)]
   exact heap_alloc_new w _
  have hbw : Below w.heap.size w w1 := ((Below.refl w.heap.size w).alloc (Nat.le_refl _) _).trans (hb1.mono (by simp))
  clear hb1 hchk
  obtain ⟨c0, c0a, c0b⟩ := cellA hm (j := 0) rfl
  obtain ⟨c1, c1a, c1b⟩ := cellA hm (j := 1) rfl
  obtain ⟨c2, c2a, c2b⟩ := cellA hm (j := 2) rfl
  obtain ⟨c3, c3a, c3b⟩ := cellA hm (j := 3) rfl
  obtain ⟨c4, c4a, c4b⟩ := cellA hm (j := 4) rfl
  obtain ⟨c5, c5a, c5b⟩ := cellA hm (j := 5) rfl
  obtain ⟨c6, c6a, c6b⟩ := cellA hm (j := 6) rfl
  obtain ⟨c7, c7a, c7b⟩ := cellA hm (j := 7) rfl
  obtain ⟨c8, c8a, c8b⟩ := cellA hm (j := 8) rfl
  obtain ⟨c9, c9a, c9b⟩ := cellA hm (j := 9) rfl
  go_wp2
  go_region
  · obtain ⟨W2, hW2⟩ : ∃ W2, W2 = ((w1.alloc (.cells #[.int .i64 k, .int .i64 t, .int .i64 v] 96)).alloc (.cells #[.int .i64 b, .int .i64 c, .int .i64 d, .int .i64 e, .int .i64 f] 91)).drew := ⟨_, rfl⟩
    rw [← hW2]
    have hs2 : W2.heap.size = w1.heap.size + 2 := by rw [hW2]; simp
    have hm2 : W2.heap[w.heap.size]? = some (.cells #[.int .u8 4, .int .i64 k, .int .i64 t, .int .i64 v, .int .i64 a, .int .i64 b, .int .i64 c, .int .i64 d, .int .i64 e, .int .i64 f] 98 (0, 0)) := by
     rw [hW2]
     exact heap_two hm (by omega)
    have hp2 : W2.heap[w1.heap.size]? = some (.cells #[.int .i64 k, .int .i64 t, .int .i64 v] 96 (0, 0)) := by
     rw [hW2]
     exact heap_first w1 _ _
    have hq2 : W2.heap[w1.heap.size + 1]? = some (.cells #[.int .i64 b, .int .i64 c, .int .i64 d, .int .i64 e, .int .i64 f] 91 (0, 0)) := by
     rw [hW2]
     exact heap_second w1 _ _
    have hb2 : Below w.heap.size w W2 := by
     rw [hW2]
     exact ((hbw.alloc (by omega) _).alloc (by simp; omega) _).drew
    clear hW2
    clear c0 c0a c0b c1 c1a c1b c2 c2a c2b c3 c3a c3b c4 c4a c4b c5 c5a c5b c6 c6a c6b c7 c7a c7b c8 c8a c8b c9 c9a c9b hm
    obtain ⟨m0, m0a, m0b⟩ := cellA hm2 (j := 0) rfl
    obtain ⟨m1, m1a, m1b⟩ := cellA hm2 (j := 1) rfl
    obtain ⟨m2, m2a, m2b⟩ := cellA hm2 (j := 2) rfl
    obtain ⟨m3, m3a, m3b⟩ := cellA hm2 (j := 3) rfl
    obtain ⟨m4, m4a, m4b⟩ := cellA hm2 (j := 4) rfl
    obtain ⟨m5, m5a, m5b⟩ := cellA hm2 (j := 5) rfl
    obtain ⟨m6, m6a, m6b⟩ := cellA hm2 (j := 6) rfl
    obtain ⟨m7, m7a, m7b⟩ := cellA hm2 (j := 7) rfl
    obtain ⟨m8, m8a, m8b⟩ := cellA hm2 (j := 8) rfl
    obtain ⟨m9, m9a, m9b⟩ := cellA hm2 (j := 9) rfl
    obtain ⟨p0, p0a, p0b⟩ := cellA hp2 (j := 0) rfl
    obtain ⟨p1, p1a, p1b⟩ := cellA hp2 (j := 1) rfl
    obtain ⟨p2, p2a, p2b⟩ := cellA hp2 (j := 2) rfl
    obtain ⟨q0, q0a, q0b⟩ := cellA hq2 (j := 0) rfl
    obtain ⟨q1, q1a, q1b⟩ := cellA hq2 (j := 1) rfl
    obtain ⟨q2, q2a, q2b⟩ := cellA hq2 (j := 2) rfl
    obtain ⟨q3, q3a, q3b⟩ := cellA hq2 (j := 3) rfl
    obtain ⟨q4, q4a, q4b⟩ := cellA hq2 (j := 4) rfl
    have hI0 : Lib.IsBuilderF 76 5 (w1.heap.size + 2 + 1) (w1.heap.size + 2 + 1) (Lib.byteCells []) ((W2.alloc (.cells #[.int .i64 k, .int .i64 t, .int .i64 v] 2)).alloc (.cells #[.pointer none, .slice none 0 0] 76)) := by
     have := Lib.fresh_isBuilder 76 5 (W2.alloc (.cells #[.int .i64 k, .int .i64 t, .int .i64 v] 2))
     have hz : (W2.alloc (.cells #[.int .i64 k, .int .i64 t, .int .i64 v] 2)).heap.size = (w1.heap.size + 2 + 1) := by simp [hs2]
     rw [hz] at this
     exact Lib.IsBuilderF.of this
    have hbx : Below w.heap.size w ((W2.alloc (.cells #[.int .i64 k, .int .i64 t, .int .i64 v] 2)).alloc (.cells #[.pointer none, .slice none 0 0] 76)) := (hb2.alloc (by omega) _).alloc (by simp; omega) _
    have hrow : ((W2.alloc (.cells #[.int .i64 k, .int .i64 t, .int .i64 v] 2)).alloc (.cells #[.pointer none, .slice none 0 0] 76)).heap[w1.heap.size + 2]? = some (.cells #[.int .i64 k, .int .i64 t, .int .i64 v] 2 (0, 0)) := by
     have := heap_one (.cells #[.pointer none, .slice none 0 0] 76) (heap_alloc_new W2 (.cells #[.int .i64 k, .int .i64 t, .int .i64 v] 2)) (by simp)
     rw [hs2] at this
     exact this
    have hsz3 : ((W2.alloc (.cells #[.int .i64 k, .int .i64 t, .int .i64 v] 2)).alloc (.cells #[.pointer none, .slice none 0 0] 76)).heap.size = (w1.heap.size + 2 + 1) + 1 := by simp [hs2]

    have HI0 := Lib.hid hI0
    have HBX := Lib.hid hbx
    have HROW := Lib.hid hrow
    have HSZ := Lib.hid hsz3
    clear hI0 hbx hrow hsz3
    go_wp2_with (go_at_call 31; refine (Any.Builder_WriteString_k Tryz.lays166 Tryz.Extra_166 (w1.heap.size + 2 + 1) (w1.heap.size + 2 + 1) _ _ _ HI0.out (by simp [Lib.byteCells, ByteArray.size]) (by rw [HSZ.out]; omega)).mono ?_)
    rintro e W4 ⟨rfl, h4, b4, k4⟩
    clear m0 m0a m0b m1 m1a m1b m2 m2a m2b m3 m3a m3b m4 m4a m4b m5 m5a m5b m6 m6a m6b m7 m7a m7b m8 m8a m8b m9 m9a m9b p0 p0a p0b q0 q0a q0b p1 p1a p1b q1 q1a q1b p2 p2a p2b q2 q2a q2b
    have hI4 : Lib.IsBuilderF 76 5 (w1.heap.size + 2 + 1) (w1.heap.size + 2 + 1) (Lib.byteCells ([108, 97, 116, 101] ++ nums ([k, t, v].take 0))) W4 := Or.inr h4
    have hsz4 : w.heap.size ≤ W4.heap.size := Nat.le_trans (by rw [HSZ.out]; omega) b4.size
    have hsz5 : (w1.heap.size + 2 + 1) < W4.heap.size := Nat.lt_of_lt_of_le (by rw [HSZ.out]; omega) b4.size
    have hbw4 : Below w.heap.size w W4 := HBX.out.trans (b4.mono (by omega))
    have hrow4 : W4.heap[w1.heap.size + 2]? = some (.cells #[.int .i64 k, .int .i64 t, .int .i64 v] 2 (0, 0)) := (b4.block _ (by omega)).trans HROW.out
    have HRW4 := Lib.hid hrow4
    have HI4 := Lib.hid hI4
    have HT := Lib.hid htab
    have HOK := Lib.hid hI
    clear hI4 h4 b4 k4 htab hI hrow4
    go_wp2
    go_loopw [58] (fun i wr => ∃ j : Nat, j ≤ 3 ∧ i = .int .i64 j ∧ Lib.IsBuilderF 76 5 (w1.heap.size + 2 + 1) (w1.heap.size + 2 + 1) (Lib.byteCells ([108, 97, 116, 101] ++ nums ([k, t, v].take j))) wr ∧ Below (w1.heap.size + 2 + 1) W4 wr) (fun i _ => 3 - (intOf i).toNat)
    case atStart => exact ⟨0, by omega, rfl, HI4.out, Below.refl _ _⟩
    case round =>
     obtain ⟨j, hj, rfl, hI, hbr⟩ := hrel
     have HI := Lib.hid hI
     have hszr := hbr.size
     clear hI
     by_cases hlt : j < 3
     · obtain ⟨x, hx⟩ : ∃ x, [k, t, v][j]? = some x := ⟨_, List.getElem?_eq_getElem hlt⟩
       have hxm : x ∈ [k, t, v] := List.mem_of_getElem? hx
       have hcx : wr.cell? ⟨w1.heap.size + 2, j, none⟩ = some (.int .i64 x) := (cellA ((hbr.block _ (by omega)).trans HRW4.out) (by
        rw [← Array.getElem?_toList]
        show ([.int .i64 k, .int .i64 t, .int .i64 v] : List Value)[j]? = _
        rw [show ([.int .i64 k, .int .i64 t, .int .i64 v] : List Value) = [k, t, v].map (Value.int .i64) from rfl, List.getElem?_map, hx]; rfl)).1
       have hxo := HOK.out x hxm
       have HXO := Lib.hid hxo
       have HX := Lib.hid hx
       clear hx hxm hxo
       have hlen : (Lib.byteCells ([108, 97, 116, 101] ++ nums ([k, t, v].take j))).length ≤ 200 := by
        rw [Lib.byteCells_length, List.length_append]
        have := nums_len (ns := [k, t, v].take j) (fun n hn => HOK.out n (List.mem_of_mem_take hn))
        have h2 := List.length_take_le j [k, t, v]
        simp only [List.length_cons, List.length_nil] at h2 ⊢
        omega
       have HLEN := Lib.hid hlen
       clear hlen
       go_wp2_with (go_at_call 58; refine (Any.Builder_WriteByte_k Tryz.lays167 Tryz.Extra_167 (w1.heap.size + 2 + 1) (w1.heap.size + 2 + 1) _ 32 _ HI.out (by have := HLEN.out; omega) (by omega)).mono ?_)
       rintro e W5 ⟨rfl, h5, b5, k5⟩
       have hI5 : Lib.IsBuilderF 76 5 (w1.heap.size + 2 + 1) (w1.heap.size + 2 + 1) (Lib.byteCells ([108, 97, 116, 101] ++ nums ([k, t, v].take j)) ++ [.int .u8 32]) W5 := Or.inr h5
       have hszW5 := b5.size
       have hbW5 : Below w.heap.size w W5 := (hbw4.trans (hbr.mono (by omega))).trans (b5.mono (by omega))
       have HI5 := Lib.hid hI5
       have HT5 := Lib.hid (tab_keep HT.out hbW5)
       clear hI5 h5 k5
       go_wp2_with (go_at_call 59; refine (Any.strconv_FormatInt_10 Tryz.laysM173 x HXO.out.1 HXO.out.2 _ HT5.out).mono ?_)
       rintro e W6 ⟨rfl, kk, os, rfl⟩
       have hb6 := Lib.below_grow W5.heap.size W5 (Nat.le_refl _) kk os
       have hI6 := bld_below HI5.out hb6
       have hszW6 := hb6.size
       obtain ⟨W6, hW6⟩ : ∃ W6, W6 = Go.Sort.grow (W5.drewN kk) os := ⟨_, rfl⟩
       rw [← hW6] at hb6 hI6 hszW6 ⊢
       have HI6 := Lib.hid hI6
       clear hW6 hI6
       go_wp2_with (go_at_call 31; refine (Any.Builder_WriteString_k Tryz.lays166 Tryz.Extra_166 (w1.heap.size + 2 + 1) (w1.heap.size + 2 + 1) _ _ _ HI6.out (by have := HLEN.out; have h9 := Lib.itoa_length_le x HXO.out.1 HXO.out.2; simp only [List.length_append, List.length_cons, List.length_nil, ByteArray.size, List.size_toArray]; omega) (by omega)).mono ?_)
       rintro e W7 ⟨rfl, h7, b7, k7⟩
       have hI7 : Lib.IsBuilderF 76 5 (w1.heap.size + 2 + 1) (w1.heap.size + 2 + 1) (Lib.byteCells ([108, 97, 116, 101] ++ nums ([k, t, v].take (j + 1)))) W7 := by
        rw [nums_take HX.out, ← List.append_assoc, Lib.byteCells_append]
        refine Or.inr ?_
        rw [List.append_assoc] at h7
        exact h7
       have hb7 : Below (w1.heap.size + 2 + 1) W4 W7 := ((hbr.trans b5).trans (hb6.mono (by omega))).trans b7
       have HI7 := Lib.hid hI7
       clear hI7 h7 k7
       go_wp2
       go_roundw
       case rel => exact ⟨j + 1, by omega, by go_num, HI7.out, hb7⟩
       case measure => simp [intOf]; omega
     · have : j = 3 := by omega
       subst this
       go_wp2_with (go_at_call 33; refine (Any.Builder_String_any_k Tryz.lays169 Tryz.Builder_Extra_169 (w1.heap.size + 2 + 1) (w1.heap.size + 2 + 1) _ _ HI.out (by omega)).mono ?_)
       rintro e W5 ⟨rfl, _, b5, _⟩
       go_wp2
       go_ret2
       exact ⟨rfl, (hbw4.trans (hbr.mono (by omega))).trans (b5.mono (by omega))⟩
  · obtain ⟨W2, hW2⟩ : ∃ W2, W2 = ((w1.alloc (.cells #[.int .i64 b, .int .i64 c, .int .i64 d, .int .i64 e, .int .i64 f] 91)).alloc (.cells #[.int .i64 k, .int .i64 t, .int .i64 v] 96)).drew := ⟨_, rfl⟩
    rw [← hW2]
    have hs2 : W2.heap.size = w1.heap.size + 2 := by rw [hW2]; simp
    have hm2 : W2.heap[w.heap.size]? = some (.cells #[.int .u8 4, .int .i64 k, .int .i64 t, .int .i64 v, .int .i64 a, .int .i64 b, .int .i64 c, .int .i64 d, .int .i64 e, .int .i64 f] 98 (0, 0)) := by
     rw [hW2]
     exact heap_two hm (by omega)
    have hp2 : W2.heap[w1.heap.size]? = some (.cells #[.int .i64 b, .int .i64 c, .int .i64 d, .int .i64 e, .int .i64 f] 91 (0, 0)) := by
     rw [hW2]
     exact heap_first w1 _ _
    have hq2 : W2.heap[w1.heap.size + 1]? = some (.cells #[.int .i64 k, .int .i64 t, .int .i64 v] 96 (0, 0)) := by
     rw [hW2]
     exact heap_second w1 _ _
    have hb2 : Below w.heap.size w W2 := by
     rw [hW2]
     exact ((hbw.alloc (by omega) _).alloc (by simp; omega) _).drew
    clear hW2
    clear c0 c0a c0b c1 c1a c1b c2 c2a c2b c3 c3a c3b c4 c4a c4b c5 c5a c5b c6 c6a c6b c7 c7a c7b c8 c8a c8b c9 c9a c9b hm
    obtain ⟨m0, m0a, m0b⟩ := cellA hm2 (j := 0) rfl
    obtain ⟨m1, m1a, m1b⟩ := cellA hm2 (j := 1) rfl
    obtain ⟨m2, m2a, m2b⟩ := cellA hm2 (j := 2) rfl
    obtain ⟨m3, m3a, m3b⟩ := cellA hm2 (j := 3) rfl
    obtain ⟨m4, m4a, m4b⟩ := cellA hm2 (j := 4) rfl
    obtain ⟨m5, m5a, m5b⟩ := cellA hm2 (j := 5) rfl
    obtain ⟨m6, m6a, m6b⟩ := cellA hm2 (j := 6) rfl
    obtain ⟨m7, m7a, m7b⟩ := cellA hm2 (j := 7) rfl
    obtain ⟨m8, m8a, m8b⟩ := cellA hm2 (j := 8) rfl
    obtain ⟨m9, m9a, m9b⟩ := cellA hm2 (j := 9) rfl
    obtain ⟨p0, p0a, p0b⟩ := cellA hp2 (j := 0) rfl
    obtain ⟨p1, p1a, p1b⟩ := cellA hp2 (j := 1) rfl
    obtain ⟨p2, p2a, p2b⟩ := cellA hp2 (j := 2) rfl
    obtain ⟨p3, p3a, p3b⟩ := cellA hp2 (j := 3) rfl
    obtain ⟨p4, p4a, p4b⟩ := cellA hp2 (j := 4) rfl
    obtain ⟨q0, q0a, q0b⟩ := cellA hq2 (j := 0) rfl
    obtain ⟨q1, q1a, q1b⟩ := cellA hq2 (j := 1) rfl
    obtain ⟨q2, q2a, q2b⟩ := cellA hq2 (j := 2) rfl
    have hI0 : Lib.IsBuilderF 76 5 (w1.heap.size + 2 + 1) (w1.heap.size + 2 + 1) (Lib.byteCells []) ((W2.alloc (.cells #[.int .i64 k, .int .i64 t, .int .i64 v] 2)).alloc (.cells #[.pointer none, .slice none 0 0] 76)) := by
     have := Lib.fresh_isBuilder 76 5 (W2.alloc (.cells #[.int .i64 k, .int .i64 t, .int .i64 v] 2))
     have hz : (W2.alloc (.cells #[.int .i64 k, .int .i64 t, .int .i64 v] 2)).heap.size = (w1.heap.size + 2 + 1) := by simp [hs2]
     rw [hz] at this
     exact Lib.IsBuilderF.of this
    have hbx : Below w.heap.size w ((W2.alloc (.cells #[.int .i64 k, .int .i64 t, .int .i64 v] 2)).alloc (.cells #[.pointer none, .slice none 0 0] 76)) := (hb2.alloc (by omega) _).alloc (by simp; omega) _
    have hrow : ((W2.alloc (.cells #[.int .i64 k, .int .i64 t, .int .i64 v] 2)).alloc (.cells #[.pointer none, .slice none 0 0] 76)).heap[w1.heap.size + 2]? = some (.cells #[.int .i64 k, .int .i64 t, .int .i64 v] 2 (0, 0)) := by
     have := heap_one (.cells #[.pointer none, .slice none 0 0] 76) (heap_alloc_new W2 (.cells #[.int .i64 k, .int .i64 t, .int .i64 v] 2)) (by simp)
     rw [hs2] at this
     exact this
    have hsz3 : ((W2.alloc (.cells #[.int .i64 k, .int .i64 t, .int .i64 v] 2)).alloc (.cells #[.pointer none, .slice none 0 0] 76)).heap.size = (w1.heap.size + 2 + 1) + 1 := by simp [hs2]

    have HI0 := Lib.hid hI0
    have HBX := Lib.hid hbx
    have HROW := Lib.hid hrow
    have HSZ := Lib.hid hsz3
    clear hI0 hbx hrow hsz3
    go_wp2_with (go_at_call 31; refine (Any.Builder_WriteString_k Tryz.lays166 Tryz.Extra_166 (w1.heap.size + 2 + 1) (w1.heap.size + 2 + 1) _ _ _ HI0.out (by simp [Lib.byteCells, ByteArray.size]) (by rw [HSZ.out]; omega)).mono ?_)
    rintro e W4 ⟨rfl, h4, b4, k4⟩
    clear m0 m0a m0b m1 m1a m1b m2 m2a m2b m3 m3a m3b m4 m4a m4b m5 m5a m5b m6 m6a m6b m7 m7a m7b m8 m8a m8b m9 m9a m9b p0 p0a p0b q0 q0a q0b p1 p1a p1b q1 q1a q1b p2 p2a p2b q2 q2a q2b
    have hI4 : Lib.IsBuilderF 76 5 (w1.heap.size + 2 + 1) (w1.heap.size + 2 + 1) (Lib.byteCells ([108, 97, 116, 101] ++ nums ([k, t, v].take 0))) W4 := Or.inr h4
    have hsz4 : w.heap.size ≤ W4.heap.size := Nat.le_trans (by rw [HSZ.out]; omega) b4.size
    have hsz5 : (w1.heap.size + 2 + 1) < W4.heap.size := Nat.lt_of_lt_of_le (by rw [HSZ.out]; omega) b4.size
    have hbw4 : Below w.heap.size w W4 := HBX.out.trans (b4.mono (by omega))
    have hrow4 : W4.heap[w1.heap.size + 2]? = some (.cells #[.int .i64 k, .int .i64 t, .int .i64 v] 2 (0, 0)) := (b4.block _ (by omega)).trans HROW.out
    have HRW4 := Lib.hid hrow4
    have HI4 := Lib.hid hI4
    have HT := Lib.hid htab
    have HOK := Lib.hid hI
    clear hI4 h4 b4 k4 htab hI hrow4
    go_wp2
    go_loopw [58] (fun i wr => ∃ j : Nat, j ≤ 3 ∧ i = .int .i64 j ∧ Lib.IsBuilderF 76 5 (w1.heap.size + 2 + 1) (w1.heap.size + 2 + 1) (Lib.byteCells ([108, 97, 116, 101] ++ nums ([k, t, v].take j))) wr ∧ Below (w1.heap.size + 2 + 1) W4 wr) (fun i _ => 3 - (intOf i).toNat)
    case atStart => exact ⟨0, by omega, rfl, HI4.out, Below.refl _ _⟩
    case round =>
     obtain ⟨j, hj, rfl, hI, hbr⟩ := hrel
     have HI := Lib.hid hI
     have hszr := hbr.size
     clear hI
     by_cases hlt : j < 3
     · obtain ⟨x, hx⟩ : ∃ x, [k, t, v][j]? = some x := ⟨_, List.getElem?_eq_getElem hlt⟩
       have hxm : x ∈ [k, t, v] := List.mem_of_getElem? hx
       have hcx : wr.cell? ⟨w1.heap.size + 2, j, none⟩ = some (.int .i64 x) := (cellA ((hbr.block _ (by omega)).trans HRW4.out) (by
        rw [← Array.getElem?_toList]
        show ([.int .i64 k, .int .i64 t, .int .i64 v] : List Value)[j]? = _
        rw [show ([.int .i64 k, .int .i64 t, .int .i64 v] : List Value) = [k, t, v].map (Value.int .i64) from rfl, List.getElem?_map, hx]; rfl)).1
       have hxo := HOK.out x hxm
       have HXO := Lib.hid hxo
       have HX := Lib.hid hx
       clear hx hxm hxo
       have hlen : (Lib.byteCells ([108, 97, 116, 101] ++ nums ([k, t, v].take j))).length ≤ 200 := by
        rw [Lib.byteCells_length, List.length_append]
        have := nums_len (ns := [k, t, v].take j) (fun n hn => HOK.out n (List.mem_of_mem_take hn))
        have h2 := List.length_take_le j [k, t, v]
        simp only [List.length_cons, List.length_nil] at h2 ⊢
        omega
       have HLEN := Lib.hid hlen
       clear hlen
       go_wp2_with (go_at_call 58; refine (Any.Builder_WriteByte_k Tryz.lays167 Tryz.Extra_167 (w1.heap.size + 2 + 1) (w1.heap.size + 2 + 1) _ 32 _ HI.out (by have := HLEN.out; omega) (by omega)).mono ?_)
       rintro e W5 ⟨rfl, h5, b5, k5⟩
       have hI5 : Lib.IsBuilderF 76 5 (w1.heap.size + 2 + 1) (w1.heap.size + 2 + 1) (Lib.byteCells ([108, 97, 116, 101] ++ nums ([k, t, v].take j)) ++ [.int .u8 32]) W5 := Or.inr h5
       have hszW5 := b5.size
       have hbW5 : Below w.heap.size w W5 := (hbw4.trans (hbr.mono (by omega))).trans (b5.mono (by omega))
       have HI5 := Lib.hid hI5
       have HT5 := Lib.hid (tab_keep HT.out hbW5)
       clear hI5 h5 k5
       go_wp2_with (go_at_call 59; refine (Any.strconv_FormatInt_10 Tryz.laysM173 x HXO.out.1 HXO.out.2 _ HT5.out).mono ?_)
       rintro e W6 ⟨rfl, kk, os, rfl⟩
       have hb6 := Lib.below_grow W5.heap.size W5 (Nat.le_refl _) kk os
       have hI6 := bld_below HI5.out hb6
       have hszW6 := hb6.size
       obtain ⟨W6, hW6⟩ : ∃ W6, W6 = Go.Sort.grow (W5.drewN kk) os := ⟨_, rfl⟩
       rw [← hW6] at hb6 hI6 hszW6 ⊢
       have HI6 := Lib.hid hI6
       clear hW6 hI6
       go_wp2_with (go_at_call 31; refine (Any.Builder_WriteString_k Tryz.lays166 Tryz.Extra_166 (w1.heap.size + 2 + 1) (w1.heap.size + 2 + 1) _ _ _ HI6.out (by have := HLEN.out; have h9 := Lib.itoa_length_le x HXO.out.1 HXO.out.2; simp only [List.length_append, List.length_cons, List.length_nil, ByteArray.size, List.size_toArray]; omega) (by omega)).mono ?_)
       rintro e W7 ⟨rfl, h7, b7, k7⟩
       have hI7 : Lib.IsBuilderF 76 5 (w1.heap.size + 2 + 1) (w1.heap.size + 2 + 1) (Lib.byteCells ([108, 97, 116, 101] ++ nums ([k, t, v].take (j + 1)))) W7 := by
        rw [nums_take HX.out, ← List.append_assoc, Lib.byteCells_append]
        refine Or.inr ?_
        rw [List.append_assoc] at h7
        exact h7
       have hb7 : Below (w1.heap.size + 2 + 1) W4 W7 := ((hbr.trans b5).trans (hb6.mono (by omega))).trans b7
       have HI7 := Lib.hid hI7
       clear hI7 h7 k7
       go_wp2
       go_roundw
       case rel => exact ⟨j + 1, by omega, by go_num, HI7.out, hb7⟩
       case measure => simp [intOf]; omega
     · have : j = 3 := by omega
       subst this
       go_wp2_with (go_at_call 33; refine (Any.Builder_String_any_k Tryz.lays169 Tryz.Builder_Extra_169 (w1.heap.size + 2 + 1) (w1.heap.size + 2 + 1) _ _ HI.out (by omega)).mono ?_)
       rintro e W5 ⟨rfl, _, b5, _⟩
       go_wp2
       go_ret2
       exact ⟨rfl, (hbw4.trans (hbr.mono (by omega))).trans (b5.mono (by omega))⟩

set_option maxHeartbeats 4000000 in
set_option maxRecDepth 1000000 in
theorem text_row (k t v a b c d e f : Int) (w : World) (hI : ∀ n ∈ [b, c, d, e, f], okI n) (htab : Lib.TabIs Tryz.prog w "internal/strconv.uint64pow10" .u64 Lib.pow10Tab)
    (hchk : ∀ w1, Below w.heap.size w w1 → Calls Tryz.prog 57 #[msg 3 k t v a b c d e f] w1 fun x w' => x = .returned (.int .i64 0) ∧ Below w1.heap.size w1 w') :
    Calls Tryz.prog 40 #[msg 3 k t v a b c d e f] w fun x w' => x = .returned (.tuple #[.string ⟨([114, 111, 119] ++ nums [b, c, d, e, f]).toArray⟩, .int .i64 0]) ∧ Below w.heap.size w w' := by
  unfold msg at hchk ⊢
  go_enter Tryz.func40, Tryz.ntmps40
  go_wp2_with (go_at_call 57; refine (hchk _ ((Below.refl _ _).alloc (Nat.le_refl _) _)).mono ?_)
  rintro x w1 ⟨rfl, hb1⟩
  have hsz := hb1.size
  simp at hsz
  have hm : w1.heap[w.heap.size]? = some (.cells #[.int .u8 3, .int .i64 k, .int .i64 t, .int .i64 v, .int .i64 a, .int .i64 b, .int .i64 c, .int .i64 d, .int .i64 e, .int .i64 f] 98 (0, 0)) := by
   rw [hb1.block _ (by simp)]
   exact heap_alloc_new w _
  have hbw : Below w.heap.size w w1 := ((Below.refl w.heap.size w).alloc (Nat.le_refl _) _).trans (hb1.mono (by simp))
  clear hb1 hchk
  obtain ⟨c0, c0a, c0b⟩ := cellA hm (j := 0) rfl
  obtain ⟨c1, c1a, c1b⟩ := cellA hm (j := 1) rfl
  obtain ⟨c2, c2a, c2b⟩ := cellA hm (j := 2) rfl
  obtain ⟨c3, c3a, c3b⟩ := cellA hm (j := 3) rfl
  obtain ⟨c4, c4a, c4b⟩ := cellA hm (j := 4) rfl
  obtain ⟨c5, c5a, c5b⟩ := cellA hm (j := 5) rfl
  obtain ⟨c6, c6a, c6b⟩ := cellA hm (j := 6) rfl
  obtain ⟨c7, c7a, c7b⟩ := cellA hm (j := 7) rfl
  obtain ⟨c8, c8a, c8b⟩ := cellA hm (j := 8) rfl
  obtain ⟨c9, c9a, c9b⟩ := cellA hm (j := 9) rfl
  go_wp2
  go_region
  · obtain ⟨W2, hW2⟩ : ∃ W2, W2 = ((w1.alloc (.cells #[.int .i64 k, .int .i64 t, .int .i64 v] 96)).alloc (.cells #[.int .i64 b, .int .i64 c, .int .i64 d, .int .i64 e, .int .i64 f] 91)).drew := ⟨_, rfl⟩
    rw [← hW2]
    have hs2 : W2.heap.size = w1.heap.size + 2 := by rw [hW2]; simp
    have hm2 : W2.heap[w.heap.size]? = some (.cells #[.int .u8 3, .int .i64 k, .int .i64 t, .int .i64 v, .int .i64 a, .int .i64 b, .int .i64 c, .int .i64 d, .int .i64 e, .int .i64 f] 98 (0, 0)) := by
     rw [hW2]
     exact heap_two hm (by omega)
    have hp2 : W2.heap[w1.heap.size]? = some (.cells #[.int .i64 k, .int .i64 t, .int .i64 v] 96 (0, 0)) := by
     rw [hW2]
     exact heap_first w1 _ _
    have hq2 : W2.heap[w1.heap.size + 1]? = some (.cells #[.int .i64 b, .int .i64 c, .int .i64 d, .int .i64 e, .int .i64 f] 91 (0, 0)) := by
     rw [hW2]
     exact heap_second w1 _ _
    have hb2 : Below w.heap.size w W2 := by
     rw [hW2]
     exact ((hbw.alloc (by omega) _).alloc (by simp; omega) _).drew
    clear hW2
    clear c0 c0a c0b c1 c1a c1b c2 c2a c2b c3 c3a c3b c4 c4a c4b c5 c5a c5b c6 c6a c6b c7 c7a c7b c8 c8a c8b c9 c9a c9b hm
    obtain ⟨m0, m0a, m0b⟩ := cellA hm2 (j := 0) rfl
    obtain ⟨m1, m1a, m1b⟩ := cellA hm2 (j := 1) rfl
    obtain ⟨m2, m2a, m2b⟩ := cellA hm2 (j := 2) rfl
    obtain ⟨m3, m3a, m3b⟩ := cellA hm2 (j := 3) rfl
    obtain ⟨m4, m4a, m4b⟩ := cellA hm2 (j := 4) rfl
    obtain ⟨m5, m5a, m5b⟩ := cellA hm2 (j := 5) rfl
    obtain ⟨m6, m6a, m6b⟩ := cellA hm2 (j := 6) rfl
    obtain ⟨m7, m7a, m7b⟩ := cellA hm2 (j := 7) rfl
    obtain ⟨m8, m8a, m8b⟩ := cellA hm2 (j := 8) rfl
    obtain ⟨m9, m9a, m9b⟩ := cellA hm2 (j := 9) rfl
    obtain ⟨p0, p0a, p0b⟩ := cellA hp2 (j := 0) rfl
    obtain ⟨p1, p1a, p1b⟩ := cellA hp2 (j := 1) rfl
    obtain ⟨p2, p2a, p2b⟩ := cellA hp2 (j := 2) rfl
    obtain ⟨q0, q0a, q0b⟩ := cellA hq2 (j := 0) rfl
    obtain ⟨q1, q1a, q1b⟩ := cellA hq2 (j := 1) rfl
    obtain ⟨q2, q2a, q2b⟩ := cellA hq2 (j := 2) rfl
    obtain ⟨q3, q3a, q3b⟩ := cellA hq2 (j := 3) rfl
    obtain ⟨q4, q4a, q4b⟩ := cellA hq2 (j := 4) rfl
    go_wp2
    go_region
    obtain ⟨WR, hWR⟩ : ∃ WR, WR = ((W2.alloc (.cells #[.int .i64 k, .int .i64 t, .int .i64 v] 2)).alloc (.cells #[.int .i64 b, .int .i64 c, .int .i64 d, .int .i64 e, .int .i64 f] 2)).drew := ⟨_, rfl⟩
    rw [← hWR]
    have hsr : WR.heap.size = w1.heap.size + 2 + 1 + 1 := by rw [hWR]; simp [hs2]
    have hrr : WR.heap[w1.heap.size + 2 + 1]? = some (.cells #[.int .i64 b, .int .i64 c, .int .i64 d, .int .i64 e, .int .i64 f] 2 (0, 0)) := by
     rw [hWR]
     have := heap_second W2 (.cells #[.int .i64 k, .int .i64 t, .int .i64 v] 2) (.cells #[.int .i64 b, .int .i64 c, .int .i64 d, .int .i64 e, .int .i64 f] 2)
     rw [hs2] at this
     exact this
    have hbr : Below w.heap.size w WR := by
     rw [hWR]
     exact ((hb2.alloc (by omega) _).alloc (by simp; omega) _).drew
    clear hWR
    have hI0 : Lib.IsBuilderF 76 5 (w1.heap.size + 2 + 1 + 1) (w1.heap.size + 2 + 1 + 1) (Lib.byteCells []) (WR.alloc (.cells #[.pointer none, .slice none 0 0] 76)) := by
     have := Lib.fresh_isBuilder 76 5 WR
     have hz : WR.heap.size = (w1.heap.size + 2 + 1 + 1) := hsr
     rw [hz] at this
     exact Lib.IsBuilderF.of this
    have hbx : Below w.heap.size w (WR.alloc (.cells #[.pointer none, .slice none 0 0] 76)) := hbr.alloc (by omega) _
    have hrow : (WR.alloc (.cells #[.pointer none, .slice none 0 0] 76)).heap[w1.heap.size + 2 + 1]? = some (.cells #[.int .i64 b, .int .i64 c, .int .i64 d, .int .i64 e, .int .i64 f] 2 (0, 0)) := by
     exact heap_one _ hrr (by omega)
    have hsz3 : (WR.alloc (.cells #[.pointer none, .slice none 0 0] 76)).heap.size = (w1.heap.size + 2 + 1 + 1) + 1 := by simp [hsr]
    clear hrr hbr

    have HI0 := Lib.hid hI0
    have HBX := Lib.hid hbx
    have HROW := Lib.hid hrow
    have HSZ := Lib.hid hsz3
    clear hI0 hbx hrow hsz3
    go_wp2_with (go_at_call 31; refine (Any.Builder_WriteString_k Tryz.lays166 Tryz.Extra_166 (w1.heap.size + 2 + 1 + 1) (w1.heap.size + 2 + 1 + 1) _ _ _ HI0.out (by simp [Lib.byteCells, ByteArray.size]) (by rw [HSZ.out]; omega)).mono ?_)
    rintro e W4 ⟨rfl, h4, b4, k4⟩
    clear m0 m0a m0b m1 m1a m1b m2 m2a m2b m3 m3a m3b m4 m4a m4b m5 m5a m5b m6 m6a m6b m7 m7a m7b m8 m8a m8b m9 m9a m9b p0 p0a p0b q0 q0a q0b p1 p1a p1b q1 q1a q1b p2 p2a p2b q2 q2a q2b
    have hI4 : Lib.IsBuilderF 76 5 (w1.heap.size + 2 + 1 + 1) (w1.heap.size + 2 + 1 + 1) (Lib.byteCells ([114, 111, 119] ++ nums ([b, c, d, e, f].take 0))) W4 := Or.inr h4
    have hsz4 : w.heap.size ≤ W4.heap.size := Nat.le_trans (by rw [HSZ.out]; omega) b4.size
    have hsz5 : (w1.heap.size + 2 + 1 + 1) < W4.heap.size := Nat.lt_of_lt_of_le (by rw [HSZ.out]; omega) b4.size
    have hbw4 : Below w.heap.size w W4 := HBX.out.trans (b4.mono (by omega))
    have hrow4 : W4.heap[w1.heap.size + 2 + 1]? = some (.cells #[.int .i64 b, .int .i64 c, .int .i64 d, .int .i64 e, .int .i64 f] 2 (0, 0)) := (b4.block _ (by omega)).trans HROW.out
    have HRW4 := Lib.hid hrow4
    have HI4 := Lib.hid hI4
    have HT := Lib.hid htab
    have HOK := Lib.hid hI
    clear hI4 h4 b4 k4 htab hI hrow4
    go_wp2
    go_loopw [58] (fun i wr => ∃ j : Nat, j ≤ 5 ∧ i = .int .i64 j ∧ Lib.IsBuilderF 76 5 (w1.heap.size + 2 + 1 + 1) (w1.heap.size + 2 + 1 + 1) (Lib.byteCells ([114, 111, 119] ++ nums ([b, c, d, e, f].take j))) wr ∧ Below (w1.heap.size + 2 + 1 + 1) W4 wr) (fun i _ => 5 - (intOf i).toNat)
    case atStart => exact ⟨0, by omega, rfl, HI4.out, Below.refl _ _⟩
    case round =>
     obtain ⟨j, hj, rfl, hI, hbr⟩ := hrel
     have HI := Lib.hid hI
     have hszr := hbr.size
     clear hI
     by_cases hlt : j < 5
     · obtain ⟨x, hx⟩ : ∃ x, [b, c, d, e, f][j]? = some x := ⟨_, List.getElem?_eq_getElem hlt⟩
       have hxm : x ∈ [b, c, d, e, f] := List.mem_of_getElem? hx
       have hcx : wr.cell? ⟨w1.heap.size + 2 + 1, j, none⟩ = some (.int .i64 x) := (cellA ((hbr.block _ (by omega)).trans HRW4.out) (by
        rw [← Array.getElem?_toList]
        show ([.int .i64 b, .int .i64 c, .int .i64 d, .int .i64 e, .int .i64 f] : List Value)[j]? = _
        rw [show ([.int .i64 b, .int .i64 c, .int .i64 d, .int .i64 e, .int .i64 f] : List Value) = [b, c, d, e, f].map (Value.int .i64) from rfl, List.getElem?_map, hx]; rfl)).1
       have hxo := HOK.out x hxm
       have HXO := Lib.hid hxo
       have HX := Lib.hid hx
       clear hx hxm hxo
       have hlen : (Lib.byteCells ([114, 111, 119] ++ nums ([b, c, d, e, f].take j))).length ≤ 200 := by
        rw [Lib.byteCells_length, List.length_append]
        have := nums_len (ns := [b, c, d, e, f].take j) (fun n hn => HOK.out n (List.mem_of_mem_take hn))
        have h2 := List.length_take_le j [b, c, d, e, f]
        simp only [List.length_cons, List.length_nil] at h2 ⊢
        omega
       have HLEN := Lib.hid hlen
       clear hlen
       go_wp2_with (go_at_call 58; refine (Any.Builder_WriteByte_k Tryz.lays167 Tryz.Extra_167 (w1.heap.size + 2 + 1 + 1) (w1.heap.size + 2 + 1 + 1) _ 32 _ HI.out (by have := HLEN.out; omega) (by omega)).mono ?_)
       rintro e W5 ⟨rfl, h5, b5, k5⟩
       have hI5 : Lib.IsBuilderF 76 5 (w1.heap.size + 2 + 1 + 1) (w1.heap.size + 2 + 1 + 1) (Lib.byteCells ([114, 111, 119] ++ nums ([b, c, d, e, f].take j)) ++ [.int .u8 32]) W5 := Or.inr h5
       have hszW5 := b5.size
       have hbW5 : Below w.heap.size w W5 := (hbw4.trans (hbr.mono (by omega))).trans (b5.mono (by omega))
       have HI5 := Lib.hid hI5
       have HT5 := Lib.hid (tab_keep HT.out hbW5)
       clear hI5 h5 k5
       go_wp2_with (go_at_call 59; refine (Any.strconv_FormatInt_10 Tryz.laysM173 x HXO.out.1 HXO.out.2 _ HT5.out).mono ?_)
       rintro e W6 ⟨rfl, kk, os, rfl⟩
       have hb6 := Lib.below_grow W5.heap.size W5 (Nat.le_refl _) kk os
       have hI6 := bld_below HI5.out hb6
       have hszW6 := hb6.size
       obtain ⟨W6, hW6⟩ : ∃ W6, W6 = Go.Sort.grow (W5.drewN kk) os := ⟨_, rfl⟩
       rw [← hW6] at hb6 hI6 hszW6 ⊢
       have HI6 := Lib.hid hI6
       clear hW6 hI6
       go_wp2_with (go_at_call 31; refine (Any.Builder_WriteString_k Tryz.lays166 Tryz.Extra_166 (w1.heap.size + 2 + 1 + 1) (w1.heap.size + 2 + 1 + 1) _ _ _ HI6.out (by have := HLEN.out; have h9 := Lib.itoa_length_le x HXO.out.1 HXO.out.2; simp only [List.length_append, List.length_cons, List.length_nil, ByteArray.size, List.size_toArray]; omega) (by omega)).mono ?_)
       rintro e W7 ⟨rfl, h7, b7, k7⟩
       have hI7 : Lib.IsBuilderF 76 5 (w1.heap.size + 2 + 1 + 1) (w1.heap.size + 2 + 1 + 1) (Lib.byteCells ([114, 111, 119] ++ nums ([b, c, d, e, f].take (j + 1)))) W7 := by
        rw [nums_take HX.out, ← List.append_assoc, Lib.byteCells_append]
        refine Or.inr ?_
        rw [List.append_assoc] at h7
        exact h7
       have hb7 : Below (w1.heap.size + 2 + 1 + 1) W4 W7 := ((hbr.trans b5).trans (hb6.mono (by omega))).trans b7
       have HI7 := Lib.hid hI7
       clear hI7 h7 k7
       go_wp2
       go_roundw
       case rel => exact ⟨j + 1, by omega, by go_num, HI7.out, hb7⟩
       case measure => simp [intOf]; omega
     · have : j = 5 := by omega
       subst this
       go_wp2_with (go_at_call 33; refine (Any.Builder_String_any_k Tryz.lays169 Tryz.Builder_Extra_169 (w1.heap.size + 2 + 1 + 1) (w1.heap.size + 2 + 1 + 1) _ _ HI.out (by omega)).mono ?_)
       rintro e W5 ⟨rfl, _, b5, _⟩
       go_wp2
       go_ret2
       exact ⟨rfl, (hbw4.trans (hbr.mono (by omega))).trans (b5.mono (by omega))⟩
  · obtain ⟨W2, hW2⟩ : ∃ W2, W2 = ((w1.alloc (.cells #[.int .i64 b, .int .i64 c, .int .i64 d, .int .i64 e, .int .i64 f] 91)).alloc (.cells #[.int .i64 k, .int .i64 t, .int .i64 v] 96)).drew := ⟨_, rfl⟩
    rw [← hW2]
    have hs2 : W2.heap.size = w1.heap.size + 2 := by rw [hW2]; simp
    have hm2 : W2.heap[w.heap.size]? = some (.cells #[.int .u8 3, .int .i64 k, .int .i64 t, .int .i64 v, .int .i64 a, .int .i64 b, .int .i64 c, .int .i64 d, .int .i64 e, .int .i64 f] 98 (0, 0)) := by
     rw [hW2]
     exact heap_two hm (by omega)
    have hp2 : W2.heap[w1.heap.size]? = some (.cells #[.int .i64 b, .int .i64 c, .int .i64 d, .int .i64 e, .int .i64 f] 91 (0, 0)) := by
     rw [hW2]
     exact heap_first w1 _ _
    have hq2 : W2.heap[w1.heap.size + 1]? = some (.cells #[.int .i64 k, .int .i64 t, .int .i64 v] 96 (0, 0)) := by
     rw [hW2]
     exact heap_second w1 _ _
    have hb2 : Below w.heap.size w W2 := by
     rw [hW2]
     exact ((hbw.alloc (by omega) _).alloc (by simp; omega) _).drew
    clear hW2
    clear c0 c0a c0b c1 c1a c1b c2 c2a c2b c3 c3a c3b c4 c4a c4b c5 c5a c5b c6 c6a c6b c7 c7a c7b c8 c8a c8b c9 c9a c9b hm
    obtain ⟨m0, m0a, m0b⟩ := cellA hm2 (j := 0) rfl
    obtain ⟨m1, m1a, m1b⟩ := cellA hm2 (j := 1) rfl
    obtain ⟨m2, m2a, m2b⟩ := cellA hm2 (j := 2) rfl
    obtain ⟨m3, m3a, m3b⟩ := cellA hm2 (j := 3) rfl
    obtain ⟨m4, m4a, m4b⟩ := cellA hm2 (j := 4) rfl
    obtain ⟨m5, m5a, m5b⟩ := cellA hm2 (j := 5) rfl
    obtain ⟨m6, m6a, m6b⟩ := cellA hm2 (j := 6) rfl
    obtain ⟨m7, m7a, m7b⟩ := cellA hm2 (j := 7) rfl
    obtain ⟨m8, m8a, m8b⟩ := cellA hm2 (j := 8) rfl
    obtain ⟨m9, m9a, m9b⟩ := cellA hm2 (j := 9) rfl
    obtain ⟨p0, p0a, p0b⟩ := cellA hp2 (j := 0) rfl
    obtain ⟨p1, p1a, p1b⟩ := cellA hp2 (j := 1) rfl
    obtain ⟨p2, p2a, p2b⟩ := cellA hp2 (j := 2) rfl
    obtain ⟨p3, p3a, p3b⟩ := cellA hp2 (j := 3) rfl
    obtain ⟨p4, p4a, p4b⟩ := cellA hp2 (j := 4) rfl
    obtain ⟨q0, q0a, q0b⟩ := cellA hq2 (j := 0) rfl
    obtain ⟨q1, q1a, q1b⟩ := cellA hq2 (j := 1) rfl
    obtain ⟨q2, q2a, q2b⟩ := cellA hq2 (j := 2) rfl
    go_wp2
    go_region
    obtain ⟨WR, hWR⟩ : ∃ WR, WR = ((W2.alloc (.cells #[.int .i64 k, .int .i64 t, .int .i64 v] 2)).alloc (.cells #[.int .i64 b, .int .i64 c, .int .i64 d, .int .i64 e, .int .i64 f] 2)).drew := ⟨_, rfl⟩
    rw [← hWR]
    have hsr : WR.heap.size = w1.heap.size + 2 + 1 + 1 := by rw [hWR]; simp [hs2]
    have hrr : WR.heap[w1.heap.size + 2 + 1]? = some (.cells #[.int .i64 b, .int .i64 c, .int .i64 d, .int .i64 e, .int .i64 f] 2 (0, 0)) := by
     rw [hWR]
     have := heap_second W2 (.cells #[.int .i64 k, .int .i64 t, .int .i64 v] 2) (.cells #[.int .i64 b, .int .i64 c, .int .i64 d, .int .i64 e, .int .i64 f] 2)
     rw [hs2] at this
     exact this
    have hbr : Below w.heap.size w WR := by
     rw [hWR]
     exact ((hb2.alloc (by omega) _).alloc (by simp; omega) _).drew
    clear hWR
    have hI0 : Lib.IsBuilderF 76 5 (w1.heap.size + 2 + 1 + 1) (w1.heap.size + 2 + 1 + 1) (Lib.byteCells []) (WR.alloc (.cells #[.pointer none, .slice none 0 0] 76)) := by
     have := Lib.fresh_isBuilder 76 5 WR
     have hz : WR.heap.size = (w1.heap.size + 2 + 1 + 1) := hsr
     rw [hz] at this
     exact Lib.IsBuilderF.of this
    have hbx : Below w.heap.size w (WR.alloc (.cells #[.pointer none, .slice none 0 0] 76)) := hbr.alloc (by omega) _
    have hrow : (WR.alloc (.cells #[.pointer none, .slice none 0 0] 76)).heap[w1.heap.size + 2 + 1]? = some (.cells #[.int .i64 b, .int .i64 c, .int .i64 d, .int .i64 e, .int .i64 f] 2 (0, 0)) := by
     exact heap_one _ hrr (by omega)
    have hsz3 : (WR.alloc (.cells #[.pointer none, .slice none 0 0] 76)).heap.size = (w1.heap.size + 2 + 1 + 1) + 1 := by simp [hsr]
    clear hrr hbr

    have HI0 := Lib.hid hI0
    have HBX := Lib.hid hbx
    have HROW := Lib.hid hrow
    have HSZ := Lib.hid hsz3
    clear hI0 hbx hrow hsz3
    go_wp2_with (go_at_call 31; refine (Any.Builder_WriteString_k Tryz.lays166 Tryz.Extra_166 (w1.heap.size + 2 + 1 + 1) (w1.heap.size + 2 + 1 + 1) _ _ _ HI0.out (by simp [Lib.byteCells, ByteArray.size]) (by rw [HSZ.out]; omega)).mono ?_)
    rintro e W4 ⟨rfl, h4, b4, k4⟩
    clear m0 m0a m0b m1 m1a m1b m2 m2a m2b m3 m3a m3b m4 m4a m4b m5 m5a m5b m6 m6a m6b m7 m7a m7b m8 m8a m8b m9 m9a m9b p0 p0a p0b q0 q0a q0b p1 p1a p1b q1 q1a q1b p2 p2a p2b q2 q2a q2b
    have hI4 : Lib.IsBuilderF 76 5 (w1.heap.size + 2 + 1 + 1) (w1.heap.size + 2 + 1 + 1) (Lib.byteCells ([114, 111, 119] ++ nums ([b, c, d, e, f].take 0))) W4 := Or.inr h4
    have hsz4 : w.heap.size ≤ W4.heap.size := Nat.le_trans (by rw [HSZ.out]; omega) b4.size
    have hsz5 : (w1.heap.size + 2 + 1 + 1) < W4.heap.size := Nat.lt_of_lt_of_le (by rw [HSZ.out]; omega) b4.size
    have hbw4 : Below w.heap.size w W4 := HBX.out.trans (b4.mono (by omega))
    have hrow4 : W4.heap[w1.heap.size + 2 + 1]? = some (.cells #[.int .i64 b, .int .i64 c, .int .i64 d, .int .i64 e, .int .i64 f] 2 (0, 0)) := (b4.block _ (by omega)).trans HROW.out
    have HRW4 := Lib.hid hrow4
    have HI4 := Lib.hid hI4
    have HT := Lib.hid htab
    have HOK := Lib.hid hI
    clear hI4 h4 b4 k4 htab hI hrow4
    go_wp2
    go_loopw [58] (fun i wr => ∃ j : Nat, j ≤ 5 ∧ i = .int .i64 j ∧ Lib.IsBuilderF 76 5 (w1.heap.size + 2 + 1 + 1) (w1.heap.size + 2 + 1 + 1) (Lib.byteCells ([114, 111, 119] ++ nums ([b, c, d, e, f].take j))) wr ∧ Below (w1.heap.size + 2 + 1 + 1) W4 wr) (fun i _ => 5 - (intOf i).toNat)
    case atStart => exact ⟨0, by omega, rfl, HI4.out, Below.refl _ _⟩
    case round =>
     obtain ⟨j, hj, rfl, hI, hbr⟩ := hrel
     have HI := Lib.hid hI
     have hszr := hbr.size
     clear hI
     by_cases hlt : j < 5
     · obtain ⟨x, hx⟩ : ∃ x, [b, c, d, e, f][j]? = some x := ⟨_, List.getElem?_eq_getElem hlt⟩
       have hxm : x ∈ [b, c, d, e, f] := List.mem_of_getElem? hx
       have hcx : wr.cell? ⟨w1.heap.size + 2 + 1, j, none⟩ = some (.int .i64 x) := (cellA ((hbr.block _ (by omega)).trans HRW4.out) (by
        rw [← Array.getElem?_toList]
        show ([.int .i64 b, .int .i64 c, .int .i64 d, .int .i64 e, .int .i64 f] : List Value)[j]? = _
        rw [show ([.int .i64 b, .int .i64 c, .int .i64 d, .int .i64 e, .int .i64 f] : List Value) = [b, c, d, e, f].map (Value.int .i64) from rfl, List.getElem?_map, hx]; rfl)).1
       have hxo := HOK.out x hxm
       have HXO := Lib.hid hxo
       have HX := Lib.hid hx
       clear hx hxm hxo
       have hlen : (Lib.byteCells ([114, 111, 119] ++ nums ([b, c, d, e, f].take j))).length ≤ 200 := by
        rw [Lib.byteCells_length, List.length_append]
        have := nums_len (ns := [b, c, d, e, f].take j) (fun n hn => HOK.out n (List.mem_of_mem_take hn))
        have h2 := List.length_take_le j [b, c, d, e, f]
        simp only [List.length_cons, List.length_nil] at h2 ⊢
        omega
       have HLEN := Lib.hid hlen
       clear hlen
       go_wp2_with (go_at_call 58; refine (Any.Builder_WriteByte_k Tryz.lays167 Tryz.Extra_167 (w1.heap.size + 2 + 1 + 1) (w1.heap.size + 2 + 1 + 1) _ 32 _ HI.out (by have := HLEN.out; omega) (by omega)).mono ?_)
       rintro e W5 ⟨rfl, h5, b5, k5⟩
       have hI5 : Lib.IsBuilderF 76 5 (w1.heap.size + 2 + 1 + 1) (w1.heap.size + 2 + 1 + 1) (Lib.byteCells ([114, 111, 119] ++ nums ([b, c, d, e, f].take j)) ++ [.int .u8 32]) W5 := Or.inr h5
       have hszW5 := b5.size
       have hbW5 : Below w.heap.size w W5 := (hbw4.trans (hbr.mono (by omega))).trans (b5.mono (by omega))
       have HI5 := Lib.hid hI5
       have HT5 := Lib.hid (tab_keep HT.out hbW5)
       clear hI5 h5 k5
       go_wp2_with (go_at_call 59; refine (Any.strconv_FormatInt_10 Tryz.laysM173 x HXO.out.1 HXO.out.2 _ HT5.out).mono ?_)
       rintro e W6 ⟨rfl, kk, os, rfl⟩
       have hb6 := Lib.below_grow W5.heap.size W5 (Nat.le_refl _) kk os
       have hI6 := bld_below HI5.out hb6
       have hszW6 := hb6.size
       obtain ⟨W6, hW6⟩ : ∃ W6, W6 = Go.Sort.grow (W5.drewN kk) os := ⟨_, rfl⟩
       rw [← hW6] at hb6 hI6 hszW6 ⊢
       have HI6 := Lib.hid hI6
       clear hW6 hI6
       go_wp2_with (go_at_call 31; refine (Any.Builder_WriteString_k Tryz.lays166 Tryz.Extra_166 (w1.heap.size + 2 + 1 + 1) (w1.heap.size + 2 + 1 + 1) _ _ _ HI6.out (by have := HLEN.out; have h9 := Lib.itoa_length_le x HXO.out.1 HXO.out.2; simp only [List.length_append, List.length_cons, List.length_nil, ByteArray.size, List.size_toArray]; omega) (by omega)).mono ?_)
       rintro e W7 ⟨rfl, h7, b7, k7⟩
       have hI7 : Lib.IsBuilderF 76 5 (w1.heap.size + 2 + 1 + 1) (w1.heap.size + 2 + 1 + 1) (Lib.byteCells ([114, 111, 119] ++ nums ([b, c, d, e, f].take (j + 1)))) W7 := by
        rw [nums_take HX.out, ← List.append_assoc, Lib.byteCells_append]
        refine Or.inr ?_
        rw [List.append_assoc] at h7
        exact h7
       have hb7 : Below (w1.heap.size + 2 + 1 + 1) W4 W7 := ((hbr.trans b5).trans (hb6.mono (by omega))).trans b7
       have HI7 := Lib.hid hI7
       clear hI7 h7 k7
       go_wp2
       go_roundw
       case rel => exact ⟨j + 1, by omega, by go_num, HI7.out, hb7⟩
       case measure => simp [intOf]; omega
     · have : j = 5 := by omega
       subst this
       go_wp2_with (go_at_call 33; refine (Any.Builder_String_any_k Tryz.lays169 Tryz.Builder_Extra_169 (w1.heap.size + 2 + 1 + 1) (w1.heap.size + 2 + 1 + 1) _ _ HI.out (by omega)).mono ?_)
       rintro e W5 ⟨rfl, _, b5, _⟩
       go_wp2
       go_ret2
       exact ⟨rfl, (hbw4.trans (hbr.mono (by omega))).trans (b5.mono (by omega))⟩
set_option maxHeartbeats 4000000 in
set_option maxRecDepth 1000000 in
theorem text_bad (kd k t v a b c d e f x : Int) (hx : x ≠ 0) (w : World)
    (hchk : ∀ w1, Below w.heap.size w w1 → Calls Tryz.prog 57 #[msg kd k t v a b c d e f] w1 fun y w' => y = .returned (.int .i64 x) ∧ Below w1.heap.size w1 w') :
    Calls Tryz.prog 40 #[msg kd k t v a b c d e f] w fun y w' => y = .returned (.tuple #[.string ⟨#[]⟩, .int .i64 x]) ∧ Below w.heap.size w w' := by
  unfold msg at hchk ⊢
  go_enter Tryz.func40, Tryz.ntmps40
  go_wp2_with (go_at_call 57; refine (hchk _ ((Below.refl _ _).alloc (Nat.le_refl _) _)).mono ?_)
  rintro y w1 ⟨rfl, hb1⟩
  have hbw : Below w.heap.size w w1 := ((Below.refl w.heap.size w).alloc (Nat.le_refl _) _).trans (hb1.mono (by simp))
  go_wp2
  go_ret2
  exact ⟨rfl, hbw⟩
end Tw
