import Derived.Test.YtodnlpaialbceaaGreatDoorSH
import Derived.Test.YtodnlpaialbceaaGreatDoorWJt
import Derived.Test.YtodnlpaialbceaaGreatDoorLA7
import Derived.Deep.CutRange
import Derived.Lib.ItoaLen
import Derived.Lib.AppendIntMem
/- lines.Graph: the walk. -/
set_option linter.unusedVariables false
set_option linter.unusedSimpArgs false
namespace Tj
open Go Go.RowKit Go.Proofs
abbrev TabW (w : World) : Prop := Lib.TabIs Tryz.prog w "internal/strconv.uint64pow10" .u64 Lib.pow10Tab
theorem tab_keep {w w' : World} (h : TabW w) (hb : Below w.heap.size w w') : TabW w' := by
 unfold TabW Lib.TabIs World.var? at h ⊢
 generalize Tryz.prog.globalNamed "internal/strconv.uint64pow10" = og at h ⊢
 cases og with
 | none => cases h
 | some g =>
  simp only [Option.bind_some] at h ⊢
  have hlt : g < w.heap.size := by
   rcases Nat.lt_or_ge g w.heap.size with h' | h'
   · exact h'
   · rw [Array.getElem?_eq_none h'] at h; cases h
  rw [hb.block g hlt]
  exact h
theorem bld_below {T e : TypeId} {B b : Nat} {bs : List Value} {w w' : World} (h : Lib.IsBuilderF T e B b bs w) (hb : Below w.heap.size w w') : Lib.IsBuilderF T e B b bs w' := by
 have key : ∀ p, Lib.BuilderAtF T e B b p bs w → Lib.BuilderAtF T e B b p bs w' := by
  rintro p ⟨h1, v, h2, h3, h4⟩
  refine ⟨h1, v, (hb.block _ (heap_lt h2)).trans h2, ⟨h3.1, ?_⟩, h4⟩
  rcases h3.2 with h3 | ⟨g, cap, cur, fz, a, b, c, d⟩
  · exact .inl h3
  · exact .inr ⟨g, cap, cur, fz, a, b, (hb.block _ (heap_lt c)).trans c, d⟩
 exact h.elim (fun h => .inl (key _ h)) (fun h => .inr (key _ h))
theorem itoa_len {n : Int} (h : Tg.in64 n = true) : (Tg.itoaF n).length ≤ 21 := by
 have h := Tg.in64_s h
 rw [Tg.itoaF_eq h.1 h.2]
 have := Lib.itoa_length_le n h.1 h.2
 omega
theorem itoa_any (n : Int) (h : Tg.in64 n = true) (w : World) (htab : TabW w) : Calls Tryz.prog 32 #[.int .i64 n] w fun e w' => e = .returned (.string ⟨(Tg.itoaF n).toArray⟩) ∧ Below w.heap.size w w' := by
 have h := Tg.in64_s h
 refine (Any.strconv_Itoa Tryz.laysM171 n h.1 h.2 w htab).mono fun e w' he => ?_
 obtain ⟨rfl, k, os, rfl⟩ := he
 exact ⟨by rw [Tg.itoaF_eq h.1 h.2], Lib.below_grow _ w (Nat.le_refl _) k os⟩
theorem ba_app (a b : List UInt8) : (ByteArray.mk a.toArray) ++ (ByteArray.mk b.toArray) = ByteArray.mk (a ++ b).toArray := by
 apply ByteArray.ext
 simp
theorem take_flat {α β : Type} {f : α → List β} {xs : List α} {k : Nat} {x : α} (h : xs[k]? = some x) : (xs.take (k + 1)).flatMap f = (xs.take k).flatMap f ++ f x := by
 rw [List.take_add_one, h, List.flatMap_append]
 simp
def namesC : List Value := [.string ⟨#[]⟩, .string ⟨#[115, 111, 117, 114, 99, 101]⟩, .string ⟨#[102, 105, 108, 116, 101, 114]⟩, .string ⟨#[115, 112, 108, 105, 116]⟩, .string ⟨#[97, 103, 103]⟩, .string ⟨#[106, 111, 105, 110]⟩, .string ⟨#[115, 105, 110, 107]⟩, .string ⟨#[108, 97, 116, 101]⟩]
theorem names_at {k : Nat} (h1 : 1 ≤ k) (h2 : k ≤ 7) : namesC[k]? = some (.string ⟨(Tg.nameF k).toArray⟩) ∧ (Tg.nameF k).length ≤ 6 := by
 match k, h1, h2 with
 | 1, _, _ => exact ⟨rfl, by decide⟩
 | 2, _, _ => exact ⟨rfl, by decide⟩
 | 3, _, _ => exact ⟨rfl, by decide⟩
 | 4, _, _ => exact ⟨rfl, by decide⟩
 | 5, _, _ => exact ⟨rfl, by decide⟩
 | 6, _, _ => exact ⟨rfl, by decide⟩
 | 7, _, _ => exact ⟨rfl, by decide⟩
 | k + 8, _, h => omega
def OpIn (o : Opr) : Prop := 1 ≤ o.1 ∧ o.1 ≤ 7 ∧ 0 ≤ o.2.1 ∧ o.2.1 ≤ 3
def ChIn (c : Chn) : Prop := Tg.in64 c.1 = true ∧ Tg.in64 c.2.1 = true ∧ Tg.in64 c.2.2.1 = true ∧ Tg.in64 c.2.2.2.1 = true ∧ Tg.in64 c.2.2.2.2.1 = true
def opL (o : Opr) : List UInt8 := Tg.opT o ++ [10]
def chL (c : Chn) : List UInt8 := Tg.cnT c ++ [10]
theorem graphT_eq (ops : List Opr) (chs : List Chn) : Tg.graphT (ops, chs, ()) = ops.flatMap opL ++ chs.flatMap chL := by
 simp only [Tg.graphT, Tg.graphL, List.flatMap_append, List.flatMap_map]
 rfl
set_option maxRecDepth 100000 in
set_option maxHeartbeats 6000000 in
theorem graph_ok (a1 a2 : Option Addr) (n1 n2 c1 c2 : Nat) (ops : List Opr) (chs : List Chn) (w : World) (h1 : n1 ≤ 20) (h2 : n2 ≤ 100) (ho : SlAt w 2 opC a1 n1 ops) (hc : SlAt w 5 chC a2 n2 chs)
    (hoi : ∀ o ∈ ops, OpIn o) (hci : ∀ c ∈ chs, ChIn c) (htab : TabW w)
    (hchk : ∀ w1, Below w.heap.size w w1 → Calls Tryz.prog 30 #[.agg #[.slice a1 n1 c1, .slice a2 n2 c2]] w1 fun e w' => e = .returned (.int .i64 0) ∧ Below w1.heap.size w1 w') :
    Calls Tryz.prog 11 #[.agg #[.slice a1 n1 c1, .slice a2 n2 c2]] w fun e w' => e = .returned (.tuple #[.string ⟨(Tg.graphT (ops, chs, ())).toArray⟩, .int .i64 0]) ∧ Below w.heap.size w w' := by
  have HO := Lib.hid ho
  have HC := Lib.hid hc
  have HCHK := Lib.hid hchk
  have HOI := Lib.hid hoi
  have HCI := Lib.hid hci
  have HT := Lib.hid htab
  clear ho hc hchk hoi hci htab
  go_enter Tryz.func11, Tryz.ntmps11
  go_wp2_with (go_at_call 30; refine (HCHK.out _ ((Below.refl _ _).alloc (Nat.le_refl _) _)).mono ?_)
  rintro x w1 ⟨rfl, hb1⟩
  have hsz := hb1.size
  simp at hsz
  have hbw1 : Below w.heap.size w w1 := ((Below.refl _ _).alloc (Nat.le_refl _) _).trans (hb1.mono (by simp))
  have hbx : w1.heap[w.heap.size]? = some (.cells #[.slice a1 n1 c1, .slice a2 n2 c2] 26 (0, 0)) := (hb1.block _ (by simp)).trans (heap_alloc_new w _)
  obtain ⟨x0, x0a, x0b⟩ := cellA hbx (j := 0) rfl
  clear hb1
  go_wp2
  clear x0 x0a x0b
  obtain ⟨W3, hW3⟩ : ∃ W3, W3 = (w1.alloc (.cells #[.string ⟨#[]⟩, .string ⟨#[115, 111, 117, 114, 99, 101]⟩, .string ⟨#[102, 105, 108, 116, 101, 114]⟩, .string ⟨#[115, 112, 108, 105, 116]⟩, .string ⟨#[97, 103, 103]⟩, .string ⟨#[106, 111, 105, 110]⟩, .string ⟨#[115, 105, 110, 107]⟩, .string ⟨#[108, 97, 116, 101]⟩] 72)).alloc (.cells #[.pointer none, .slice none 0 0] 76) := ⟨_, rfl⟩
  have hI0 : Lib.IsBuilderF 76 5 (w1.heap.size + 1) (w1.heap.size + 1) (Lib.byteCells []) W3 := by
   have := Lib.fresh_isBuilder 76 5 (w1.alloc (.cells #[.string ⟨#[]⟩, .string ⟨#[115, 111, 117, 114, 99, 101]⟩, .string ⟨#[102, 105, 108, 116, 101, 114]⟩, .string ⟨#[115, 112, 108, 105, 116]⟩, .string ⟨#[97, 103, 103]⟩, .string ⟨#[106, 111, 105, 110]⟩, .string ⟨#[115, 105, 110, 107]⟩, .string ⟨#[108, 97, 116, 101]⟩] 72))
   simp only [World.size_alloc] at this
   rw [hW3]
   exact Lib.IsBuilderF.of this
  have hbW : Below w.heap.size w W3 := by
   rw [hW3]
   exact (hbw1.alloc (by omega) _).alloc (by simp; omega) _
  have hsW : W3.heap.size = w1.heap.size + 2 := by rw [hW3]; simp
  have hnm : W3.heap[w1.heap.size]? = some (.cells namesC.toArray 72 (0, 0)) := by
   rw [hW3]
   exact heap_one _ (heap_alloc_new w1 _) (by simp)
  have hbx3 : W3.heap[w.heap.size]? = some (.cells #[.slice a1 n1 c1, .slice a2 n2 c2] 26 (0, 0)) := by
   rw [hW3]
   exact heap_one _ (heap_one _ hbx (by omega)) (by simp; omega)
  have HI0 := Lib.hid hI0
  have HNM := Lib.hid hnm
  have HBX := Lib.hid hbx3
  rw [← hW3]
  clear hI0 hnm hbx hbx3 hW3
  go_loopw [22] (fun i wq => ∃ (q : Nat), q ≤ n1 ∧ i = .int .i64 q ∧ Lib.IsBuilderF 76 5 (w1.heap.size + 1) (w1.heap.size + 1) (Lib.byteCells ((ops.take q).flatMap opL)) wq ∧ Below (w1.heap.size + 1) W3 wq ∧ w1.heap.size + 1 < wq.heap.size ∧ ((ops.take q).flatMap opL).length ≤ q * 100) (fun i _ => n1 - (RowKit.intOf i).toNat)
  case atStart => exact ⟨0, Nat.zero_le _, rfl, HI0.out, Below.refl _ _, by omega, by simp⟩
  case round =>
   obtain ⟨q, hq, rfl, hI, hbq, hszq, hal⟩ := hrel
   have HI := Lib.hid hI
   have HAL := Lib.hid hal
   clear hI hal
   have hbwr : Below w.heap.size w wr := hbW.trans (hbq.mono (by omega))
   by_cases hlt : q < n1
   · obtain ⟨o, ho⟩ : ∃ o, ops[q]? = some o := ⟨_, List.getElem?_eq_getElem (by rw [← HO.out.1]; exact hlt)⟩
     obtain ⟨b1, rfl, hb1, hcell⟩ := HO.out.2 q o ho
     obtain ⟨o1, o2, o3, o4⟩ := HOI.out o (List.mem_of_getElem? ho)
     obtain ⟨kd, nn, u⟩ := o
     obtain ⟨k, rfl⟩ : ∃ k : Nat, kd = k := ⟨kd.toNat, by simp only at o1; omega⟩
     simp only at o1 o2 o3 o4
     obtain ⟨hn1, hn2⟩ := names_at (k := k) (by omega) (by omega)
     have hcx := cellA ((hbq.block _ (by omega)).trans HNM.out) (j := k) (by rw [← Array.getElem?_toList]; exact hn1)
     obtain ⟨nm, hnm⟩ : ∃ nm, nm = Tg.nameF k := ⟨_, rfl⟩
     rw [← hnm] at hn2 hcx
     have HKN := Lib.hid (show namesC.toArray[k]? = some (.string ⟨nm.toArray⟩) by rw [← Array.getElem?_toList, hnm]; exact hn1)
     have HNK := Lib.hid hnm
     clear hnm hn1
     obtain ⟨y0, y0a, y0b⟩ := hcx
     have G0 := (hbwr.cell (p := b1.add (q * 2 + 0)) (by rw [block_of_add]; exact hb1)).trans (hcell 0 _ rfl)
     rw [Nat.add_zero] at G0
     have G1 := (hbwr.cell (p := b1.add (q * 2 + 1)) (by rw [block_of_add]; exact hb1)).trans (hcell 1 _ rfl)
     rw [show q * 2 + 1 = q * 2 + (0 + 1) from rfl, add_far] at G1
     have hni : Tg.in64 nn = true := by simp only [Tg.in64, Bool.and_eq_true, decide_eq_true_eq]; omega
     have hil := itoa_len hni
     have HK := Lib.hid ho
     clear ho hcell
     have hq0 : (0 : Int) ≤ (q : Int) := by omega
     have hqz : (q : Int) < n1 := by omega
     have hk0 : (0 : Int) ≤ (k : Int) := by omega
     have hk8 : (k : Int) < 8 := by omega
     go_upto_region 9 with fail
     have hov : (wr.alloc (.cells #[.int .u8 k, .int .i64 nn] 78)).heap[wr.heap.size]? = some (.cells #[.int .u8 k, .int .i64 nn] 78 (0, 0)) := heap_alloc_new wr _
     have hbn : wr.heap[w1.heap.size]? = some (.cells namesC.toArray 72 (0, 0)) := (hbq.block _ (by omega)).trans HNM.out
     refine region_T 99 11 (fun _ w' => w'.heap[w1.heap.size]? = some (.cells namesC.toArray 72 (0, 0)) ∧ w'.heap[wr.heap.size]? = some (.cells #[.int .u8 k, .int .i64 nn] 78 (0, 0))) (by kernel_rfl) (by kernel_rfl) ⟨heap_one _ hbn (by omega), hov⟩ (fun hS => ?_)
     refine T_take' (i := 0) (d := some 26) (v := ?_) false true (fun _ h => h) rfl rfl (by kernel_rfl) (by kernel_rfl) (by kernel_rfl) (by kernel_rfl) (by kernel_rfl) (by kernel_rfl) (by kernel_rfl) (fun _ _ _ h => h) hS (by rfl) ?_ ?_
     rotate_left
     · intro w hSw
       have h0 := (cellA hSw.1 (j := k) HKN.out).1
       have h1 := (cellA hSw.2 (j := 0) rfl).1
       have h2 := (cellA hSw.2 (j := 1) rfl).1
       go_simp
       try rw [if_neg (by omega)]
       try rfl
     simp only [Act.put, List.setIfInBounds_toArray, List.set_cons_zero, List.set_cons_succ]
     refine T_take' (i := 1) (d := some 27) (v := ?_) false true (fun _ h => h) rfl rfl (by kernel_rfl) (by kernel_rfl) (by kernel_rfl) (by kernel_rfl) (by kernel_rfl) (by kernel_rfl) (by kernel_rfl) (fun _ _ _ h => h) hS (by rfl) ?_ ?_
     rotate_left
     · intro w hSw
       have h0 := (cellA hSw.1 (j := k) HKN.out).1
       have h1 := (cellA hSw.2 (j := 0) rfl).1
       have h2 := (cellA hSw.2 (j := 1) rfl).1
       go_simp
       try rw [if_neg (by omega)]
       try rfl
     simp only [Act.put, List.setIfInBounds_toArray, List.set_cons_zero, List.set_cons_succ]
     refine T_take' (i := 2) (d := some 28) (v := ?_) false true (fun _ h => h) rfl rfl (by kernel_rfl) (by kernel_rfl) (by kernel_rfl) (by kernel_rfl) (by kernel_rfl) (by kernel_rfl) (by kernel_rfl) (fun _ _ _ h => h) hS (by rfl) ?_ ?_
     rotate_left
     · intro w hSw
       have h0 := (cellA hSw.1 (j := k) HKN.out).1
       have h1 := (cellA hSw.2 (j := 0) rfl).1
       have h2 := (cellA hSw.2 (j := 1) rfl).1
       go_simp
       try rw [if_neg (by omega)]
       try rfl
     simp only [Act.put, List.setIfInBounds_toArray, List.set_cons_zero, List.set_cons_succ]
     refine T_take' (i := 3) (d := some 29) (v := ?_) false true (fun _ h => h) rfl rfl (by kernel_rfl) (by kernel_rfl) (by kernel_rfl) (by kernel_rfl) (by kernel_rfl) (by kernel_rfl) (by kernel_rfl) (fun _ _ _ h => h) hS (by rfl) ?_ ?_
     rotate_left
     · intro w hSw
       have h0 := (cellA hSw.1 (j := k) HKN.out).1
       have h1 := (cellA hSw.2 (j := 0) rfl).1
       have h2 := (cellA hSw.2 (j := 1) rfl).1
       go_simp
       try rw [if_neg (by omega)]
       try rfl
     simp only [Act.put, List.setIfInBounds_toArray, List.set_cons_zero, List.set_cons_succ]
     refine T_take' (i := 4) (d := some 30) (v := ?_) false true (fun _ h => h) rfl rfl (by kernel_rfl) (by kernel_rfl) (by kernel_rfl) (by kernel_rfl) (by kernel_rfl) (by kernel_rfl) (by kernel_rfl) (fun _ _ _ h => h) hS (by rfl) ?_ ?_
     rotate_left
     · intro w hSw
       have h0 := (cellA hSw.1 (j := k) HKN.out).1
       have h1 := (cellA hSw.2 (j := 0) rfl).1
       have h2 := (cellA hSw.2 (j := 1) rfl).1
       go_simp
       try rw [if_neg (by omega)]
       try rfl
     simp only [Act.put, List.setIfInBounds_toArray, List.set_cons_zero, List.set_cons_succ]
     refine T_take' (i := 5) (d := some 31) (v := ?_) false true (fun _ h => h) rfl rfl (by kernel_rfl) (by kernel_rfl) (by kernel_rfl) (by kernel_rfl) (by kernel_rfl) (by kernel_rfl) (by kernel_rfl) (fun _ _ _ h => h) hS (by rfl) ?_ ?_
     rotate_left
     · intro w hSw
       have h0 := (cellA hSw.1 (j := k) HKN.out).1
       have h1 := (cellA hSw.2 (j := 0) rfl).1
       have h2 := (cellA hSw.2 (j := 1) rfl).1
       go_simp
       try rw [if_neg (by omega)]
       try rfl
     simp only [Act.put, List.setIfInBounds_toArray, List.set_cons_zero, List.set_cons_succ]
     refine T_take' (i := 6) (d := some 32) (v := ?_) false true (fun _ h => h) rfl rfl (by kernel_rfl) (by kernel_rfl) (by kernel_rfl) (by kernel_rfl) (by kernel_rfl) (by kernel_rfl) (by kernel_rfl) (fun _ _ _ h => h) hS (by rfl) ?_ ?_
     rotate_left
     · intro w hSw
       have h0 := (cellA hSw.1 (j := k) HKN.out).1
       have h1 := (cellA hSw.2 (j := 0) rfl).1
       have h2 := (cellA hSw.2 (j := 1) rfl).1
       go_simp
       try rw [if_neg (by omega)]
       try rfl
     simp only [Act.put, List.setIfInBounds_toArray, List.set_cons_zero, List.set_cons_succ]
     refine T_ready (rs := [7]) (by kernel_rfl) (by simp) ?_
     refine AllT.cons' (i := 7) true (by kernel_rfl) rfl (fun K hK => ?_) AllT.nil
     go_simp
     refine (itoa_any nn hni _ (tab_keep HT.out ((hbwr.alloc (by omega) _).drew))).mono ?_
     rintro e W4 ⟨rfl, hb4⟩
     have hs4 := hb4.size
     have hs4' : wr.heap.size + 1 ≤ W4.heap.size := by
      have : (wr.alloc (.cells #[.int .u8 k, .int .i64 nn] 78)).heap.size ≤ W4.heap.size := hs4
      rw [World.size_alloc] at this
      exact this
     have hb4w : Below (wr.heap.size + 1) (wr.alloc (.cells #[.int .u8 k, .int .i64 nn] 78)) W4 := ((Below.refl _ _).drew).trans (hb4.mono (by show wr.heap.size + 1 ≤ (wr.alloc (.cells #[.int .u8 k, .int .i64 nn] 78)).heap.size; rw [World.size_alloc]; exact Nat.le_refl _))
     refine hK.out _ _ ⟨(hb4w.block _ (by omega)).trans hS.1, (hb4w.block _ (by omega)).trans hS.2⟩ (fun hS => ?_)
     clear hK K
     try simp only [Act.put, List.setIfInBounds_toArray, List.set_cons_zero, List.set_cons_succ]
     refine T_take' (i := 8) (d := some 34) (v := ?_) false true (fun _ h => h) rfl rfl (by kernel_rfl) (by kernel_rfl) (by kernel_rfl) (by kernel_rfl) (by kernel_rfl) (by kernel_rfl) (by kernel_rfl) (fun _ _ _ h => h) hS (by rfl) ?_ ?_
     rotate_left
     · intro w hSw
       go_simp
       try rw [if_neg (by first | omega | (simp [ByteArray.size]; omega))]
       try rfl
     simp only [Act.put, List.setIfInBounds_toArray, List.set_cons_zero, List.set_cons_succ]
     refine T_take' (i := 9) (d := some 35) (v := ?_) false true (fun _ h => h) rfl rfl (by kernel_rfl) (by kernel_rfl) (by kernel_rfl) (by kernel_rfl) (by kernel_rfl) (by kernel_rfl) (by kernel_rfl) (fun _ _ _ h => h) hS (by rfl) ?_ ?_
     rotate_left
     · intro w hSw
       go_simp
       try rw [if_neg (by first | omega | (simp [ByteArray.size]; omega))]
       try rfl
     simp only [Act.put, List.setIfInBounds_toArray, List.set_cons_zero, List.set_cons_succ]
     have HI4 := Lib.hid (bld_below (bld_below HI.out ((Below.refl _ _).alloc (Nat.le_refl _) _)) (hb4w.mono (by rw [World.size_alloc]; exact Nat.le_refl _)))
     have hb4' : Below (w1.heap.size + 1) W3 W4 := (hbq.alloc (by omega) _).trans (hb4w.mono (by omega))
     have hal := HAL.out
     have hsl : (Lib.byteCells ((ops.take q).flatMap opL)).length + (((ByteArray.mk nm.toArray) ++ (ByteArray.mk #[32])) ++ (ByteArray.mk (Tg.itoaF nn).toArray) ++ (ByteArray.mk #[10])).size ≤ 140737488355328 := by
      rw [show (ByteArray.mk #[10]) = ByteArray.mk [10].toArray from rfl, show (ByteArray.mk #[32]) = ByteArray.mk [32].toArray from rfl, ba_app, ba_app, ba_app, Lib.byteCells_length]
      simp only [ByteArray.size, List.size_toArray, List.length_append, List.length_cons, List.length_nil]
      omega
     have HSL := Lib.hid hsl
     clear hsl
     refine T_ready (rs := [10]) (by kernel_rfl) (by simp) ?_
     refine AllT.cons' (i := 10) true (by kernel_rfl) rfl (fun K hK => ?_) AllT.nil
     go_simp
     refine (Any.Builder_WriteString_k Tryz.lays166 Tryz.Extra_166 (w1.heap.size + 1) (w1.heap.size + 1) _ _ _ HI4.out HSL.out (by omega)).mono ?_
     rintro e W5 ⟨rfl, h5, b5, k5⟩
     refine hK.out _ _ ⟨(b5.block _ (by omega)).trans hS.1, k5 _ _ hS.2 (by simp; omega) (by intro c fz h; cases h)⟩ (fun hS => ?_)
     clear hK K hS
     try simp only [Act.put, List.setIfInBounds_toArray, List.set_cons_zero, List.set_cons_succ]
     refine T_done (by kernel_rfl) ?_ _
     have hI5 : Lib.IsBuilderF 76 5 (w1.heap.size + 1) (w1.heap.size + 1) (Lib.byteCells ((ops.take (q + 1)).flatMap opL)) W5 := by
      refine Or.inr ?_
      rw [show (ByteArray.mk #[10]) = ByteArray.mk [10].toArray from rfl, show (ByteArray.mk #[32]) = ByteArray.mk [32].toArray from rfl, ba_app, ba_app, ba_app, Lib.strCells_toArray, ← Lib.byteCells_append, HNK.out] at h5
      rw [take_flat HK.out, show (ops.take q).flatMap opL ++ opL ((k : Int), nn, u) = (ops.take q).flatMap opL ++ (Tg.nameF (k : Int) ++ [32] ++ Tg.itoaF nn ++ [10]) by simp [opL, Tg.opT]]
      exact h5
     have HI5 := Lib.hid hI5
     have hs5 := b5.size
     have hb5 := hb4'.trans b5
     have hl5 : ((ops.take (q + 1)).flatMap opL).length ≤ (q + 1) * 100 := by
      rw [take_flat HK.out, List.length_append, Nat.succ_mul]
      simp only [opL, Tg.opT, ← HNK.out, List.length_append, List.length_cons, List.length_nil]
      omega
     clear hI5 h5 k5 hb4' b5
     go_wp2
     go_roundw
     case rel => exact ⟨q + 1, by omega, by go_num, HI5.out, hb5, by omega, hl5⟩
     case measure => simp [RowKit.intOf]; omega
   · have hqe : q = n1 := by omega
     subst hqe
     obtain ⟨V, rfl⟩ : ∃ V, V = wr := ⟨_, rfl⟩
     have hx1 : V.cell? ⟨w.heap.size, 1, none⟩ = some (.slice a2 n2 c2) := (cellA ((hbq.block _ (by omega)).trans HBX.out) rfl).1
     go_wp2
     clear hx1
     go_loopw [41] (fun i wq => ∃ (p : Nat), p ≤ n2 ∧ i = .int .i64 p ∧ Lib.IsBuilderF 76 5 (w1.heap.size + 1) (w1.heap.size + 1) (Lib.byteCells (ops.flatMap opL ++ (chs.take p).flatMap chL)) wq ∧ Below (w1.heap.size + 1) W3 wq ∧ w1.heap.size + 1 < wq.heap.size ∧ (ops.flatMap opL ++ (chs.take p).flatMap chL).length ≤ 3000 + p * 200) (fun i _ => n2 - (RowKit.intOf i).toNat)
     case atStart =>
      have h1 := HI.out
      have h2 := HAL.out
      have h0 := HO.out.1
      rw [HO.out.1, List.take_length] at h1 h2
      exact ⟨0, Nat.zero_le _, rfl, by simpa using h1, hbq, hszq, by simp only [List.take_zero, List.flatMap_nil, List.append_nil]; omega⟩
     case round =>
      obtain ⟨p, hp, rfl, hI, hbp, hszp, hal⟩ := hrel
      have HI := Lib.hid hI
      have HAL := Lib.hid hal
      clear hI hal
      have hbwr : Below w.heap.size w wr := hbW.trans (hbp.mono (by omega))
      by_cases hlt : p < n2
      · obtain ⟨c, hc⟩ : ∃ c, chs[p]? = some c := ⟨_, List.getElem?_eq_getElem (by rw [← HC.out.1]; exact hlt)⟩
        obtain ⟨b2, rfl, hb2, hcell⟩ := HC.out.2 p c hc
        obtain ⟨i0, i1, i2, i3, i4⟩ := HCI.out c (List.mem_of_getElem? hc)
        have l0 := itoa_len i0
        have l1 := itoa_len i1
        have l2 := itoa_len i2
        have l3 := itoa_len i3
        have l4 := itoa_len i4
        obtain ⟨e0, e1, e2, e3, e4, u⟩ := c
        simp only at i0 i1 i2 i3 i4 l0 l1 l2 l3 l4
        have G0 := (hbwr.cell (p := b2.add (p * 5 + 0)) (by rw [block_of_add]; exact hb2)).trans (hcell 0 _ rfl)
        rw [Nat.add_zero] at G0
        have G1 := (hbwr.cell (p := b2.add (p * 5 + 1)) (by rw [block_of_add]; exact hb2)).trans (hcell 1 _ rfl)
        rw [show p * 5 + 1 = p * 5 + (0 + 1) from rfl, add_far] at G1
        have G2 := (hbwr.cell (p := b2.add (p * 5 + 2)) (by rw [block_of_add]; exact hb2)).trans (hcell 2 _ rfl)
        rw [show p * 5 + 2 = p * 5 + (1 + 1) from rfl, add_far] at G2
        have G3 := (hbwr.cell (p := b2.add (p * 5 + 3)) (by rw [block_of_add]; exact hb2)).trans (hcell 3 _ rfl)
        rw [show p * 5 + 3 = p * 5 + (2 + 1) from rfl, add_far] at G3
        have G4 := (hbwr.cell (p := b2.add (p * 5 + 4)) (by rw [block_of_add]; exact hb2)).trans (hcell 4 _ rfl)
        rw [show p * 5 + 4 = p * 5 + (3 + 1) from rfl, add_far] at G4
        have HK := Lib.hid hc
        clear hc hcell
        have hcv : (wr.alloc (.cells #[.int .i64 e0, .int .i64 e1, .int .i64 e2, .int .i64 e3, .int .i64 e4] 81)).heap[wr.heap.size]? = some (.cells #[.int .i64 e0, .int .i64 e1, .int .i64 e2, .int .i64 e3, .int .i64 e4] 81 (0, 0)) := heap_alloc_new wr _
        have hw0' : Below (wr.heap.size + 1) (wr.alloc (.cells #[.int .i64 e0, .int .i64 e1, .int .i64 e2, .int .i64 e3, .int .i64 e4] 81)) (wr.alloc (.cells #[.int .i64 e0, .int .i64 e1, .int .i64 e2, .int .i64 e3, .int .i64 e4] 81)) := Below.refl _ _
        have hsA : (wr.alloc (.cells #[.int .i64 e0, .int .i64 e1, .int .i64 e2, .int .i64 e3, .int .i64 e4] 81)).heap.size = wr.heap.size + 1 := World.size_alloc _ _
        go_upto_region 14 with fail
        refine region_T 99 9 (fun _ w' => w'.heap[wr.heap.size]? = some (.cells #[.int .i64 e0, .int .i64 e1, .int .i64 e2, .int .i64 e3, .int .i64 e4] 81 (0, 0))) (by kernel_rfl) (by kernel_rfl) (show (wr.alloc (.cells #[.int .i64 e0, .int .i64 e1, .int .i64 e2, .int .i64 e3, .int .i64 e4] 81)).heap[wr.heap.size]? = _ from (hw0'.block _ (by omega)).trans hcv) (fun hS => ?_)
        refine T_take' (i := 0) (d := some 45) (v := ?_) false true (fun _ h => h) rfl rfl (by kernel_rfl) (by kernel_rfl) (by kernel_rfl) (by kernel_rfl) (by kernel_rfl) (by kernel_rfl) (by kernel_rfl) (fun _ _ _ h => h) hS (by rfl) ?_ ?_
        rotate_left
        · intro w hSw
          have h0 := (cellA hSw (j := 0) rfl).1
          have h1 := (cellA hSw (j := 1) rfl).1
          go_simp
          try rw [if_neg (by first | omega | (simp [ByteArray.size]; omega))]
          try rfl
        simp only [Act.put, List.setIfInBounds_toArray, List.set_cons_zero, List.set_cons_succ]
        refine T_take' (i := 1) (d := some 46) (v := ?_) false true (fun _ h => h) rfl rfl (by kernel_rfl) (by kernel_rfl) (by kernel_rfl) (by kernel_rfl) (by kernel_rfl) (by kernel_rfl) (by kernel_rfl) (fun _ _ _ h => h) hS (by rfl) ?_ ?_
        rotate_left
        · intro w hSw
          have h0 := (cellA hSw (j := 0) rfl).1
          have h1 := (cellA hSw (j := 1) rfl).1
          go_simp
          try rw [if_neg (by first | omega | (simp [ByteArray.size]; omega))]
          try rfl
        simp only [Act.put, List.setIfInBounds_toArray, List.set_cons_zero, List.set_cons_succ]
        refine T_take' (i := 4) (d := some 49) (v := ?_) false true (fun _ h => h) rfl rfl (by kernel_rfl) (by kernel_rfl) (by kernel_rfl) (by kernel_rfl) (by kernel_rfl) (by kernel_rfl) (by kernel_rfl) (fun _ _ _ h => h) hS (by rfl) ?_ ?_
        rotate_left
        · intro w hSw
          have h0 := (cellA hSw (j := 0) rfl).1
          have h1 := (cellA hSw (j := 1) rfl).1
          go_simp
          try rw [if_neg (by first | omega | (simp [ByteArray.size]; omega))]
          try rfl
        simp only [Act.put, List.setIfInBounds_toArray, List.set_cons_zero, List.set_cons_succ]
        refine T_take' (i := 5) (d := some 50) (v := ?_) false true (fun _ h => h) rfl rfl (by kernel_rfl) (by kernel_rfl) (by kernel_rfl) (by kernel_rfl) (by kernel_rfl) (by kernel_rfl) (by kernel_rfl) (fun _ _ _ h => h) hS (by rfl) ?_ ?_
        rotate_left
        · intro w hSw
          have h0 := (cellA hSw (j := 0) rfl).1
          have h1 := (cellA hSw (j := 1) rfl).1
          go_simp
          try rw [if_neg (by first | omega | (simp [ByteArray.size]; omega))]
          try rfl
        simp only [Act.put, List.setIfInBounds_toArray, List.set_cons_zero, List.set_cons_succ]
        refine T_ready (rs := [2]) (by kernel_rfl) (by simp) ?_
        refine AllT.cons' (i := 2) true (by kernel_rfl) rfl (fun K hK => ?_) AllT.nil
        go_simp
        refine (itoa_any e0 i0 _ (tab_keep HT.out (hbwr.alloc (by omega) _).drew)).mono ?_
        rintro e V0 ⟨rfl, hbV0⟩
        have hw0 : Below (wr.heap.size + 1) (wr.alloc (.cells #[.int .i64 e0, .int .i64 e1, .int .i64 e2, .int .i64 e3, .int .i64 e4] 81)) V0 := (hw0').drew.trans (hbV0.mono (by show wr.heap.size + 1 ≤ (wr.alloc (.cells #[.int .i64 e0, .int .i64 e1, .int .i64 e2, .int .i64 e3, .int .i64 e4] 81)).heap.size; omega))
        have hs0 := hw0.size
        rw [World.size_alloc] at hs0
        have hv0 : Below w.heap.size w V0 := (hbwr.alloc (by omega) _).trans (hw0.mono (by omega))
        refine hK.out _ _ ((hw0.block _ (by omega)).trans hcv) (fun hS => ?_)
        clear hK K hbV0
        try simp only [Act.put, List.setIfInBounds_toArray, List.set_cons_zero, List.set_cons_succ]
        refine T_take' (i := 3) (d := some 48) (v := ?_) false true (fun _ h => h) rfl rfl (by kernel_rfl) (by kernel_rfl) (by kernel_rfl) (by kernel_rfl) (by kernel_rfl) (by kernel_rfl) (by kernel_rfl) (fun _ _ _ h => h) hS (by rfl) ?_ ?_
        rotate_left
        · intro w hSw
          have h0 := (cellA hSw (j := 0) rfl).1
          have h1 := (cellA hSw (j := 1) rfl).1
          go_simp
          try rw [if_neg (by first | omega | (simp [ByteArray.size]; omega))]
          try rfl
        simp only [Act.put, List.setIfInBounds_toArray, List.set_cons_zero, List.set_cons_succ]
        refine T_ready (rs := [6]) (by kernel_rfl) (by simp) ?_
        refine AllT.cons' (i := 6) true (by kernel_rfl) rfl (fun K hK => ?_) AllT.nil
        go_simp
        refine (itoa_any e1 i1 _ (tab_keep HT.out hv0)).mono ?_
        rintro e V1 ⟨rfl, hbV1⟩
        have hw1 : Below (wr.heap.size + 1) (wr.alloc (.cells #[.int .i64 e0, .int .i64 e1, .int .i64 e2, .int .i64 e3, .int .i64 e4] 81)) V1 := hw0.trans (hbV1.mono (by show wr.heap.size + 1 ≤ V0.heap.size; omega))
        have hs1 := hw1.size
        rw [World.size_alloc] at hs1
        have hv1 : Below w.heap.size w V1 := (hbwr.alloc (by omega) _).trans (hw1.mono (by omega))
        refine hK.out _ _ ((hw1.block _ (by omega)).trans hcv) (fun hS => ?_)
        clear hK K hbV1
        try simp only [Act.put, List.setIfInBounds_toArray, List.set_cons_zero, List.set_cons_succ]
        refine T_take' (i := 7) (d := some 52) (v := ?_) false true (fun _ h => h) rfl rfl (by kernel_rfl) (by kernel_rfl) (by kernel_rfl) (by kernel_rfl) (by kernel_rfl) (by kernel_rfl) (by kernel_rfl) (fun _ _ _ h => h) hS (by rfl) ?_ ?_
        rotate_left
        · intro w hSw
          have h0 := (cellA hSw (j := 0) rfl).1
          have h1 := (cellA hSw (j := 1) rfl).1
          go_simp
          try rw [if_neg (by first | omega | (simp [ByteArray.size]; omega))]
          try rfl
        simp only [Act.put, List.setIfInBounds_toArray, List.set_cons_zero, List.set_cons_succ]
        refine T_take' (i := 8) (d := some 11) (v := ?_) false true (fun _ h => h) rfl rfl (by kernel_rfl) (by kernel_rfl) (by kernel_rfl) (by kernel_rfl) (by kernel_rfl) (by kernel_rfl) (by kernel_rfl) (fun _ _ _ h => h) hS (by rfl) ?_ ?_
        rotate_left
        · intro w hSw
          have h0 := (cellA hSw (j := 0) rfl).1
          have h1 := (cellA hSw (j := 1) rfl).1
          go_simp
          try rw [if_neg (by first | omega | (simp [ByteArray.size]; omega))]
          try rfl
        simp only [Act.put, List.setIfInBounds_toArray, List.set_cons_zero, List.set_cons_succ]
        refine T_done (by kernel_rfl) ?_ _
        clear hS
        go_upto_region 15 with fail
        refine region_T 99 9 (fun _ w' => w'.heap[wr.heap.size]? = some (.cells #[.int .i64 e0, .int .i64 e1, .int .i64 e2, .int .i64 e3, .int .i64 e4] 81 (0, 0))) (by kernel_rfl) (by kernel_rfl) (show V1.heap[wr.heap.size]? = _ from (hw1.block _ (by omega)).trans hcv) (fun hS => ?_)
        refine T_take' (i := 0) (d := some 53) (v := ?_) false true (fun _ h => h) rfl rfl (by kernel_rfl) (by kernel_rfl) (by kernel_rfl) (by kernel_rfl) (by kernel_rfl) (by kernel_rfl) (by kernel_rfl) (fun _ _ _ h => h) hS (by rfl) ?_ ?_
        rotate_left
        · intro w hSw
          have h0 := (cellA hSw (j := 2) rfl).1
          have h1 := (cellA hSw (j := 3) rfl).1
          go_simp
          try rw [if_neg (by first | omega | (simp [ByteArray.size]; omega))]
          try rfl
        simp only [Act.put, List.setIfInBounds_toArray, List.set_cons_zero, List.set_cons_succ]
        refine T_take' (i := 1) (d := some 54) (v := ?_) false true (fun _ h => h) rfl rfl (by kernel_rfl) (by kernel_rfl) (by kernel_rfl) (by kernel_rfl) (by kernel_rfl) (by kernel_rfl) (by kernel_rfl) (fun _ _ _ h => h) hS (by rfl) ?_ ?_
        rotate_left
        · intro w hSw
          have h0 := (cellA hSw (j := 2) rfl).1
          have h1 := (cellA hSw (j := 3) rfl).1
          go_simp
          try rw [if_neg (by first | omega | (simp [ByteArray.size]; omega))]
          try rfl
        simp only [Act.put, List.setIfInBounds_toArray, List.set_cons_zero, List.set_cons_succ]
        refine T_take' (i := 4) (d := some 57) (v := ?_) false true (fun _ h => h) rfl rfl (by kernel_rfl) (by kernel_rfl) (by kernel_rfl) (by kernel_rfl) (by kernel_rfl) (by kernel_rfl) (by kernel_rfl) (fun _ _ _ h => h) hS (by rfl) ?_ ?_
        rotate_left
        · intro w hSw
          have h0 := (cellA hSw (j := 2) rfl).1
          have h1 := (cellA hSw (j := 3) rfl).1
          go_simp
          try rw [if_neg (by first | omega | (simp [ByteArray.size]; omega))]
          try rfl
        simp only [Act.put, List.setIfInBounds_toArray, List.set_cons_zero, List.set_cons_succ]
        refine T_take' (i := 5) (d := some 58) (v := ?_) false true (fun _ h => h) rfl rfl (by kernel_rfl) (by kernel_rfl) (by kernel_rfl) (by kernel_rfl) (by kernel_rfl) (by kernel_rfl) (by kernel_rfl) (fun _ _ _ h => h) hS (by rfl) ?_ ?_
        rotate_left
        · intro w hSw
          have h0 := (cellA hSw (j := 2) rfl).1
          have h1 := (cellA hSw (j := 3) rfl).1
          go_simp
          try rw [if_neg (by first | omega | (simp [ByteArray.size]; omega))]
          try rfl
        simp only [Act.put, List.setIfInBounds_toArray, List.set_cons_zero, List.set_cons_succ]
        refine T_ready (rs := [2]) (by kernel_rfl) (by simp) ?_
        refine AllT.cons' (i := 2) true (by kernel_rfl) rfl (fun K hK => ?_) AllT.nil
        go_simp
        refine (itoa_any e2 i2 _ (tab_keep HT.out (hv1).drew)).mono ?_
        rintro e V2 ⟨rfl, hbV2⟩
        have hw2 : Below (wr.heap.size + 1) (wr.alloc (.cells #[.int .i64 e0, .int .i64 e1, .int .i64 e2, .int .i64 e3, .int .i64 e4] 81)) V2 := (hw1).drew.trans (hbV2.mono (by show wr.heap.size + 1 ≤ V1.heap.size; omega))
        have hs2 := hw2.size
        rw [World.size_alloc] at hs2
        have hv2 : Below w.heap.size w V2 := (hbwr.alloc (by omega) _).trans (hw2.mono (by omega))
        refine hK.out _ _ ((hw2.block _ (by omega)).trans hcv) (fun hS => ?_)
        clear hK K hbV2
        try simp only [Act.put, List.setIfInBounds_toArray, List.set_cons_zero, List.set_cons_succ]
        refine T_take' (i := 3) (d := some 56) (v := ?_) false true (fun _ h => h) rfl rfl (by kernel_rfl) (by kernel_rfl) (by kernel_rfl) (by kernel_rfl) (by kernel_rfl) (by kernel_rfl) (by kernel_rfl) (fun _ _ _ h => h) hS (by rfl) ?_ ?_
        rotate_left
        · intro w hSw
          have h0 := (cellA hSw (j := 2) rfl).1
          have h1 := (cellA hSw (j := 3) rfl).1
          go_simp
          try rw [if_neg (by first | omega | (simp [ByteArray.size]; omega))]
          try rfl
        simp only [Act.put, List.setIfInBounds_toArray, List.set_cons_zero, List.set_cons_succ]
        refine T_ready (rs := [6]) (by kernel_rfl) (by simp) ?_
        refine AllT.cons' (i := 6) true (by kernel_rfl) rfl (fun K hK => ?_) AllT.nil
        go_simp
        refine (itoa_any e3 i3 _ (tab_keep HT.out hv2)).mono ?_
        rintro e V3 ⟨rfl, hbV3⟩
        have hw3 : Below (wr.heap.size + 1) (wr.alloc (.cells #[.int .i64 e0, .int .i64 e1, .int .i64 e2, .int .i64 e3, .int .i64 e4] 81)) V3 := hw2.trans (hbV3.mono (by show wr.heap.size + 1 ≤ V2.heap.size; omega))
        have hs3 := hw3.size
        rw [World.size_alloc] at hs3
        have hv3 : Below w.heap.size w V3 := (hbwr.alloc (by omega) _).trans (hw3.mono (by omega))
        refine hK.out _ _ ((hw3.block _ (by omega)).trans hcv) (fun hS => ?_)
        clear hK K hbV3
        try simp only [Act.put, List.setIfInBounds_toArray, List.set_cons_zero, List.set_cons_succ]
        refine T_take' (i := 7) (d := some 60) (v := ?_) false true (fun _ h => h) rfl rfl (by kernel_rfl) (by kernel_rfl) (by kernel_rfl) (by kernel_rfl) (by kernel_rfl) (by kernel_rfl) (by kernel_rfl) (fun _ _ _ h => h) hS (by rfl) ?_ ?_
        rotate_left
        · intro w hSw
          have h0 := (cellA hSw (j := 2) rfl).1
          have h1 := (cellA hSw (j := 3) rfl).1
          go_simp
          try rw [if_neg (by first | omega | (simp [ByteArray.size]; omega))]
          try rfl
        simp only [Act.put, List.setIfInBounds_toArray, List.set_cons_zero, List.set_cons_succ]
        refine T_take' (i := 8) (d := some 12) (v := ?_) false true (fun _ h => h) rfl rfl (by kernel_rfl) (by kernel_rfl) (by kernel_rfl) (by kernel_rfl) (by kernel_rfl) (by kernel_rfl) (by kernel_rfl) (fun _ _ _ h => h) hS (by rfl) ?_ ?_
        rotate_left
        · intro w hSw
          have h0 := (cellA hSw (j := 2) rfl).1
          have h1 := (cellA hSw (j := 3) rfl).1
          go_simp
          try rw [if_neg (by first | omega | (simp [ByteArray.size]; omega))]
          try rfl
        simp only [Act.put, List.setIfInBounds_toArray, List.set_cons_zero, List.set_cons_succ]
        refine T_done (by kernel_rfl) ?_ _
        clear hS
        have C4 := (cellA ((hw3.block _ (by omega)).trans hcv) (j := 4) rfl).1
        go_wp2_with (go_at_call 32; refine (itoa_any e4 i4 _ (tab_keep HT.out hv3)).mono ?_)
        rintro e V4 rfl hbV4
        have hs4 := hbV4.size
        have hw4 := hw3.trans (hbV4.mono (by omega))
        clear hbV4
        have HI4 := Lib.hid (bld_below (bld_below HI.out ((Below.refl _ _).alloc (Nat.le_refl _) _)) (hw4.mono (by rw [World.size_alloc]; exact Nat.le_refl _)))
        have hb4' : Below (w1.heap.size + 1) W3 V4 := (hbp.alloc (by omega) _).trans (hw4.mono (by omega))
        have hal := HAL.out
        have hst : ((((ByteArray.mk (Tg.itoaF e0).toArray ++ ByteArray.mk #[46] ++ ByteArray.mk (Tg.itoaF e1).toArray) ++ ByteArray.mk #[32]) ++ (ByteArray.mk (Tg.itoaF e2).toArray ++ ByteArray.mk #[46] ++ ByteArray.mk (Tg.itoaF e3).toArray)) ++ ByteArray.mk #[32]) ++ ByteArray.mk (Tg.itoaF e4).toArray ++ ByteArray.mk #[10] = ByteArray.mk (chL (e0, e1, e2, e3, e4, u)).toArray := by
         simp only [ba_app]
         simp [chL, Tg.cnT, Tg.endT]
        have hsl : (Lib.byteCells (ops.flatMap opL ++ (chs.take p).flatMap chL)).length + (((((ByteArray.mk (Tg.itoaF e0).toArray ++ ByteArray.mk #[46] ++ ByteArray.mk (Tg.itoaF e1).toArray) ++ ByteArray.mk #[32]) ++ (ByteArray.mk (Tg.itoaF e2).toArray ++ ByteArray.mk #[46] ++ ByteArray.mk (Tg.itoaF e3).toArray)) ++ ByteArray.mk #[32]) ++ ByteArray.mk (Tg.itoaF e4).toArray ++ ByteArray.mk #[10]).size ≤ 140737488355328 := by
         rw [hst, Lib.byteCells_length]
         simp only [ByteArray.size, List.size_toArray, chL, Tg.cnT, Tg.endT, List.length_append, List.length_cons, List.length_nil] at hal ⊢
         omega
        have HSL := Lib.hid hsl
        have HST := Lib.hid hst
        clear hsl hst
        go_wp2_with (go_at_call 31; refine (Any.Builder_WriteString_k Tryz.lays166 Tryz.Extra_166 (w1.heap.size + 1) (w1.heap.size + 1) _ _ _ HI4.out HSL.out (by omega)).mono ?_)
        rintro e V5 ⟨rfl, h5, b5, k5⟩
        have hI5 : Lib.IsBuilderF 76 5 (w1.heap.size + 1) (w1.heap.size + 1) (Lib.byteCells (ops.flatMap opL ++ (chs.take (p + 1)).flatMap chL)) V5 := by
         refine Or.inr ?_
         rw [HST.out, Lib.strCells_toArray, ← Lib.byteCells_append, List.append_assoc] at h5
         rw [take_flat HK.out]
         exact h5
        have HI5 := Lib.hid hI5
        have hs5 := b5.size
        have hb5 := hb4'.trans b5
        have hl5 : (ops.flatMap opL ++ (chs.take (p + 1)).flatMap chL).length ≤ 3000 + (p + 1) * 200 := by
         rw [take_flat HK.out]
         simp only [chL, Tg.cnT, Tg.endT, List.length_append, List.length_cons, List.length_nil] at hal ⊢
         omega
        clear hI5 h5 k5 hb4' b5
        go_wp2
        go_roundw
        case rel => exact ⟨p + 1, by omega, by go_num, HI5.out, hb5, by omega, hl5⟩
        case measure => simp [RowKit.intOf]; omega
      · have hpe : p = n2 := by omega
        subst hpe
        go_wp2_with (go_at_call 33; refine (Any.Builder_String_any_k Tryz.lays169 Tryz.Builder_Extra_169 (w1.heap.size + 1) (w1.heap.size + 1) _ _ HI.out (by omega)).mono ?_)
        rintro e W5 ⟨rfl, _, b5, _⟩
        go_wp2
        go_ret2
        rw [graphT_eq, show (chs.take p) = chs by rw [HC.out.1, List.take_length]]
        exact ⟨rfl, hbW.trans ((hbp.trans b5).mono (by omega))⟩
set_option maxRecDepth 100000 in
set_option maxHeartbeats 2000000 in
theorem graph_bad (a1 a2 : Option Addr) (n1 n2 c1 c2 : Nat) (k : Int) (hk : k ≠ 0) (w : World)
    (hchk : ∀ w1, Below w.heap.size w w1 → Calls Tryz.prog 30 #[.agg #[.slice a1 n1 c1, .slice a2 n2 c2]] w1 fun e w' => e = .returned (.int .i64 k) ∧ Below w1.heap.size w1 w') :
    Calls Tryz.prog 11 #[.agg #[.slice a1 n1 c1, .slice a2 n2 c2]] w fun e w' => e = .returned (.tuple #[.string ⟨#[]⟩, .int .i64 k]) ∧ Below w.heap.size w w' := by
  have HCHK := Lib.hid hchk
  clear hchk
  go_enter Tryz.func11, Tryz.ntmps11
  go_wp2_with (go_at_call 30; refine (HCHK.out _ ((Below.refl _ _).alloc (Nat.le_refl _) _)).mono ?_)
  rintro x w1 ⟨rfl, hb1⟩
  have hbw1 : Below w.heap.size w w1 := ((Below.refl _ _).alloc (Nat.le_refl _) _).trans (hb1.mono (by simp))
  clear hb1
  go_wp2
  go_ret2
  exact ⟨rfl, hbw1⟩
end Tj
