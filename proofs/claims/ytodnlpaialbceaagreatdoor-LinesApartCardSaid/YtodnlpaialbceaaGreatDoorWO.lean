import Derived.Test.YtodnlpaialbceaaGreatDoorSH
import Derived.Lib.ItoaLen
import Derived.Lib.AppendIntMem
/- Small laws for the walks of message.Text and lines.Outputs. -/
set_option linter.unusedVariables false
set_option linter.unusedSimpArgs false
namespace Tw
open Go Go.RowKit Go.Proofs
theorem tab_keep {w w' : World} (h : Lib.TabIs Tryz.prog w "internal/strconv.uint64pow10" .u64 Lib.pow10Tab) (hb : Below w.heap.size w w') : Lib.TabIs Tryz.prog w' "internal/strconv.uint64pow10" .u64 Lib.pow10Tab := by
 unfold Lib.TabIs World.var? at h ⊢
 generalize Tryz.prog.globalNamed "internal/strconv.uint64pow10" = og at h ⊢
 cases og with
 | none => cases h
 | some g =>
  simp only [Option.bind_some] at h ⊢
  have hlt : g < w.heap.size := by
   rcases Nat.lt_or_ge g w.heap.size with h' | h'
   · exact h'
   · rw [Array.getElem?_eq_none h'] at h; cases h
  rw [hb.block g hlt]
  exact h
def nums (ns : List Int) : List UInt8 := ns.flatMap fun n => 32 :: Lib.itoa n
def okI (n : Int) : Prop := -9223372036854775808 ≤ n ∧ n ≤ 9223372036854775807
def msg (kd k t v a b c d e f : Int) : Value := .agg #[.int .u8 kd, .int .i64 k, .int .i64 t, .int .i64 v, .int .i64 a, .int .i64 b, .int .i64 c, .int .i64 d, .int .i64 e, .int .i64 f]
theorem heap_one {w : World} {b : Nat} {x : Option Obj} (o : Obj) (h : w.heap[b]? = x) (hb : b < w.heap.size) : (w.alloc o).heap[b]? = x := by
 rw [Below.heap_alloc _ _ _ hb, h]
theorem heap_two {w : World} {b : Nat} {x : Option Obj} {o o' : Obj} (h : w.heap[b]? = x) (hb : b < w.heap.size) : ((w.alloc o).alloc o').drew.heap[b]? = x :=
 heap_one o' (heap_one o h hb) (by simp; omega)
theorem heap_first (w : World) (o o' : Obj) : ((w.alloc o).alloc o').drew.heap[w.heap.size]? = some o :=
 heap_one o' (heap_alloc_new w o) (by simp)
theorem heap_second (w : World) (o o' : Obj) : ((w.alloc o).alloc o').drew.heap[w.heap.size + 1]? = some o' := by
 have := heap_alloc_new (w.alloc o) o'
 rw [World.size_alloc] at this
 exact this
theorem heap_second' (w : World) (o o' : Obj) : ((w.alloc o).alloc o').heap[w.heap.size + 1]? = some o' := heap_second w o o'
theorem heap_lt {w : World} {b : Nat} {x : Obj} (h : w.heap[b]? = some x) : b < w.heap.size := by
 rcases Nat.lt_or_ge b w.heap.size with h' | h'
 · exact h'
 · rw [Array.getElem?_eq_none h'] at h; cases h
theorem block_of_add (a : Addr) (n : Nat) : (a.add n).block = a.block := by unfold Addr.add; split <;> rfl
theorem add_far (a : Addr) (m i : Nat) : a.add (m + (i + 1)) = ⟨(a.add m).block, (a.add m).off + (i + 1), none⟩ := by
 unfold Addr.add
 by_cases hm : m = 0
 · subst hm; simp
 · rw [if_neg (by omega), if_neg hm, Nat.add_assoc]
theorem cellA {w : World} {b j : Nat} {cs : Array Value} {t : TypeId} {z : Nat × Nat} {x : Value} (h : w.heap[b]? = some (.cells cs t z)) (hx : cs[j]? = some x) :
    w.cell? ⟨b, j, none⟩ = some x ∧ (∀ o, (w.alloc o).cell? ⟨b, j, none⟩ = some x) ∧ ∀ o o', ((w.alloc o).alloc o').cell? ⟨b, j, none⟩ = some x := by
  have hb := heap_lt h
  have key : ∀ w' : World, w'.heap[b]? = some (.cells cs t z) → w'.cell? ⟨b, j, none⟩ = some x := fun w' h' => by
   simp only [World.cell?, h']
   exact hx
  exact ⟨key _ h, fun o => key _ (heap_one o h hb), fun o o' => key _ (heap_one o' (heap_one o h hb) (by simp; omega))⟩
theorem bld_below {T e : TypeId} {B b : Nat} {bs : List Value} {w w' : World} (h : Lib.IsBuilderF T e B b bs w) (hb : Below w.heap.size w w') : Lib.IsBuilderF T e B b bs w' := by
 have key : ∀ p, Lib.BuilderAtF T e B b p bs w → Lib.BuilderAtF T e B b p bs w' := by
  rintro p ⟨h1, v, h2, h3, h4⟩
  refine ⟨h1, v, (hb.block _ (heap_lt h2)).trans h2, ⟨h3.1, ?_⟩, h4⟩
  rcases h3.2 with h3 | ⟨g, cap, cur, fz, a, b, c, d⟩
  · exact .inl h3
  · exact .inr ⟨g, cap, cur, fz, a, b, (hb.block _ (heap_lt c)).trans c, d⟩
 exact h.elim (fun h => .inl (key _ h)) (fun h => .inr (key _ h))
theorem nums_take {ns : List Int} {j : Nat} {x : Int} (h : ns[j]? = some x) : nums (ns.take (j + 1)) = nums (ns.take j) ++ 32 :: Lib.itoa x := by
 rw [List.take_add_one, h]
 simp [nums]
theorem nums_len {ns : List Int} (h : ∀ n ∈ ns, okI n) : (nums ns).length ≤ 22 * ns.length := by
 induction ns with
 | nil => simp [nums]
 | cons n l ih =>
  have h1 := Lib.itoa_length_le n (h n (by simp)).1 (h n (by simp)).2
  have h2 := ih fun m hm => h m (by simp [hm])
  simp only [nums, List.flatMap_cons, List.length_append, List.length_cons] at h2 ⊢
  omega

end Tw

/- lines.Outputs: the walk. -/
set_option linter.unusedVariables false
set_option linter.unusedSimpArgs false
namespace Tw
open Go Go.RowKit Go.Proofs
abbrev R5 := Int × Int × Int × Int × Int × Unit
abbrev R3 := Int × Int × Int × Unit
def rowC (r : R5) : List Value := [.int .i64 r.1, .int .i64 r.2.1, .int .i64 r.2.2.1, .int .i64 r.2.2.2.1, .int .i64 r.2.2.2.2.1]
def recC (r : R3) : List Value := [.int .i64 r.1, .int .i64 r.2.1, .int .i64 r.2.2.1]
def z (n : Nat) : List Value := List.replicate n (.int .i64 0)
def msgR (r : R5) : List Value := [.int .u8 3, .int .i64 0, .int .i64 0, .int .i64 0, .int .i64 0, .int .i64 r.1, .int .i64 r.2.1, .int .i64 r.2.2.1, .int .i64 r.2.2.2.1, .int .i64 r.2.2.2.2.1]
def msgL (r : R3) : List Value := [.int .u8 4, .int .i64 r.1, .int .i64 r.2.1, .int .i64 r.2.2.1, .int .i64 0, .int .i64 0, .int .i64 0, .int .i64 0, .int .i64 0, .int .i64 0]
def SlAt {α : Type} (w : World) (sz : Nat) (f : α → List Value) (a : Option Addr) (n : Nat) (xs : List α) : Prop :=
 n = xs.length ∧ ∀ (j : Nat) (x : α), xs[j]? = some x → ∃ b, a = some b ∧ b.block < w.heap.size ∧ ∀ (i : Nat) (v : Value), (f x)[i]? = some v → w.cell? (b.add (j * sz + i)) = some v
def zMsg : Value := .agg #[.int .u8 0, .int .i64 0, .int .i64 0, .int .i64 0, .int .i64 0, .int .i64 0, .int .i64 0, .int .i64 0, .int .i64 0, .int .i64 0]
theorem info56 : ∃ i0, Tryz.prog.info? 98 = some i0 ∧ i0.zero = some zMsg ∧ i0.size = 10 ∧ i0.bytes = 80 := by
 have h : (Tryz.prog.info? 98).map (fun i => (i.zero, i.size, i.bytes)) = some (some zMsg, 10, 80) := by kernel_rfl
 rw [Option.map_eq_some_iff] at h
 obtain ⟨i0, h1, h2⟩ := h
 simp only [Prod.mk.injEq] at h2
 exact ⟨i0, h1, h2.1, h2.2.1, h2.2.2⟩
theorem cell_list {w : World} {b : Nat} {t : TypeId} {xs : List Value} (h : w.heap[b]? = some (.cells xs.toArray t (0, 0))) {j : Nat} {u : Value} (hj : xs[j]? = some u) : w.cell? ((⟨b, 0, none⟩ : Addr).add j) = some u := by
 have e : (⟨b, 0, none⟩ : Addr).add j = ⟨b, j, none⟩ := by
  unfold Addr.add
  split
  · rename_i h0; rw [h0]
  · simp
 rw [e]
 exact (cellA h (by simpa using hj)).1
theorem take_flat {α : Type} {f : α → List Value} {xs : List α} {k : Nat} {x : α} (h : xs[k]? = some x) : (xs.take (k + 1)).flatMap f = (xs.take k).flatMap f ++ f x := by
 rw [List.take_add_one, h, List.flatMap_append]
 simp
theorem msgR_one (r : R5) : ∀ u ∈ msgR r, u.oneCell' = true := by
 intro u hu
 simp only [msgR, List.mem_cons, List.not_mem_nil, or_false] at hu
 rcases hu with rfl | rfl | rfl | rfl | rfl | rfl | rfl | rfl | rfl | rfl <;> rfl
theorem msgL_one (r : R3) : ∀ u ∈ msgL r, u.oneCell' = true := by
 intro u hu
 simp only [msgL, List.mem_cons, List.not_mem_nil, or_false] at hu
 rcases hu with rfl | rfl | rfl | rfl | rfl | rfl | rfl | rfl | rfl | rfl <;> rfl
theorem row_base {w : World} {base e size n : Nat} {v : Value} {xs : List Value} (h : w.ownsRow base e size v n xs) {g : Nat} (hg : v.ownBlock = some g) : base ≤ g := by
 obtain ⟨h1, h2⟩ := h
 rcases h2 with ⟨rfl, _⟩ | ⟨g', cap, cur, rfl, b, c⟩
 · cases hg
 · simp only [Value.ownBlock, Option.some.injEq] at hg
   omega
theorem row_slice {w : World} {base e size n : Nat} {v : Value} {xs : List Value} (h : w.ownsRow base e size v n xs) : ∃ A C, v = .slice A n C ∧ (0 < n → ∃ g, A = some ⟨g, 0, none⟩ ∧ base ≤ g ∧ g < w.heap.size ∧ ∀ (q : Nat) (u : Value), xs[q]? = some u → w.cell? ⟨g, q, none⟩ = some u) := by
 obtain ⟨h1, h2⟩ := h
 rcases h2 with ⟨rfl, rfl⟩ | ⟨g, cap, cur, rfl, hb, hg, hn, hc, hs, ht⟩
 · exact ⟨none, 0, rfl, fun h => absurd h (Nat.lt_irrefl _)⟩
 · refine ⟨_, _, rfl, fun _ => ⟨g, rfl, hb, heap_lt hg, fun q u hq => (cellA hg ?_).1⟩⟩
   rw [← ht, List.getElem?_take] at hq
   split at hq
   · rw [← Array.getElem?_toList]; exact hq
   · cases hq
def Msg10 (m : List Value) : Prop := ∃ n0 n1 n2 n3 n4 n5 n6 n7 n8 n9 : Int, m = [.int .u8 n0, .int .i64 n1, .int .i64 n2, .int .i64 n3, .int .i64 n4, .int .i64 n5, .int .i64 n6, .int .i64 n7, .int .i64 n8, .int .i64 n9]
theorem Msg10.len {m : List Value} (h : Msg10 m) : m.length = 10 := by
 obtain ⟨n0, n1, n2, n3, n4, n5, n6, n7, n8, n9, rfl⟩ := h
 rfl
theorem ba_app (a b : List UInt8) : (ByteArray.mk a.toArray) ++ (ByteArray.mk b.toArray) = ByteArray.mk (a ++ b).toArray := by
 apply ByteArray.ext
 simp
theorem drop_cons {α : Type} {xs : List α} {q : Nat} {x : α} (h : xs[q]? = some x) : xs.drop q = x :: xs.drop (q + 1) := by
 obtain ⟨hl, he⟩ := List.getElem?_eq_some_iff.1 h
 rw [List.drop_eq_getElem_cons hl, he]
def outF (T : List Value → List UInt8 × Int) : List (List Value) → List UInt8 → List UInt8 × Int
 | [], acc => (acc, 0)
 | m :: ms, acc => if (T m).2 = 0 then outF T ms (acc ++ (T m).1 ++ [10]) else ([], 8)
theorem flat_get {α : Type} {sz : Nat} : ∀ {ms : List (List α)} (_ : ∀ m ∈ ms, m.length = sz) {q : Nat} {m : List α} (_ : ms[q]? = some m) {i : Nat} {u : α} (_ : m[i]? = some u), ms.flatten[q * sz + i]? = some u
 | [], _, q, m, h, _, _, _ => by simp at h
 | m0 :: ms, hl, q, m, h, i, u, hi => by
  have h0 : m0.length = sz := hl m0 (by simp)
  cases q with
  | zero =>
   simp only [List.getElem?_cons_zero, Option.some.injEq] at h
   subst h
   have : i < m0.length := (List.getElem?_eq_some_iff.1 hi).1
   rw [List.flatten_cons, Nat.zero_mul, Nat.zero_add, List.getElem?_append_left this, hi]
  | succ q =>
   rw [List.getElem?_cons_succ] at h
   rw [List.flatten_cons, List.getElem?_append_right (by rw [h0, Nat.succ_mul]; omega), h0, show (q + 1) * sz + i - sz = q * sz + i by rw [Nat.succ_mul]; omega]
   exact flat_get (fun m hm => hl m (by simp [hm])) h hi
set_option maxRecDepth 100000 in
set_option maxHeartbeats 2000000 in
theorem out_any (a1 a2 : Option Addr) (n1 n2 c1 c2 : Nat) (rows : List R5) (recs : List R3) (w : World) (h1 : n1 ≤ 4000) (h2 : n2 ≤ 4000) (hr : SlAt w 5 rowC a1 n1 rows) (hl : SlAt w 3 recC a2 n2 recs)
    (T : List Value → List UInt8 × Int) (hT : ∀ m ∈ rows.map msgR ++ recs.map msgL, (T m).1.length ≤ 150 ∧ ∀ w' : World, Below w.heap.size w w' → Calls Tryz.prog 40 #[.agg m.toArray] w' fun e w'' => e = .returned (.tuple #[.string ⟨(T m).1.toArray⟩, .int .i64 (T m).2]) ∧ Below w'.heap.size w' w'') :
    Calls Tryz.prog 16 #[.agg #[.slice a1 n1 c1, .slice a2 n2 c2]] w fun e w' => e = .returned (.tuple #[.string ⟨(outF T (rows.map msgR ++ recs.map msgL) []).1.toArray⟩, .int .i64 (outF T (rows.map msgR ++ recs.map msgL) []).2]) ∧ Below w.heap.size w w' := by
  have HT := Lib.hid hT
  clear hT
  have HR := Lib.hid hr
  have HL := Lib.hid hl
  clear hr hl
  go_enter Tryz.func16, Tryz.ntmps16
  go_wp2
  go_loopw [4, 27] (fun l i wr => ∃ k : Nat, k ≤ n1 ∧ i = .int .i64 k ∧ wr.ownsRow (w.heap.size + 1) 98 10 l k ((rows.take k).flatMap msgR) ∧ Below w.heap.size w wr ∧ wr.heap[w.heap.size]? = some (.cells #[.slice a1 n1 c1, .slice a2 n2 c2] 45 (0, 0)) ∧ w.heap.size + 1 ≤ wr.heap.size) (fun _ i _ => n1 - (intOf i).toNat)
  case atStart =>
   exact ⟨0, Nat.zero_le _, rfl, World.ownsRow_nil _ _ _ _, (Below.refl _ _).alloc (Nat.le_refl _) _, heap_alloc_new w _, by simp⟩
  case round =>
   obtain ⟨k, hk, rfl, hrow, hbw, hbx, hsz⟩ := hrel
   have HROW := Lib.hid hrow
   have HBX := Lib.hid hbx
   clear hrow hbx
   by_cases hlt : k < n1
   · obtain ⟨r, hr⟩ : ∃ r, rows[k]? = some r := ⟨_, List.getElem?_eq_getElem (by rw [← HR.out.1]; exact hlt)⟩
     obtain ⟨b1, rfl, hb1, hcell⟩ := HR.out.2 k r hr
     have G0 := (hbw.cell (p := b1.add (k * 5 + 0)) (by rw [block_of_add]; exact hb1)).trans (hcell 0 _ rfl)
     rw [Nat.add_zero] at G0
     have G1 := (hbw.cell (p := b1.add (k * 5 + 1)) (by rw [block_of_add]; exact hb1)).trans (hcell 1 _ rfl)
     rw [show k * 5 + 1 = k * 5 + (0 + 1) from rfl, add_far] at G1
     have G2 := (hbw.cell (p := b1.add (k * 5 + 2)) (by rw [block_of_add]; exact hb1)).trans (hcell 2 _ rfl)
     rw [show k * 5 + 2 = k * 5 + (1 + 1) from rfl, add_far] at G2
     have G3 := (hbw.cell (p := b1.add (k * 5 + 3)) (by rw [block_of_add]; exact hb1)).trans (hcell 3 _ rfl)
     rw [show k * 5 + 3 = k * 5 + (2 + 1) from rfl, add_far] at G3
     have G4 := (hbw.cell (p := b1.add (k * 5 + 4)) (by rw [block_of_add]; exact hb1)).trans (hcell 4 _ rfl)
     rw [show k * 5 + 4 = k * 5 + (3 + 1) from rfl, add_far] at G4
     have HK := Lib.hid hr
     obtain ⟨i0, hi, hz0, hz1, hz2⟩ := info56
     clear hr hcell
     go_wp2_with (first
      | (at_builtin; refine wpList_append_own _ rfl _ _ 94 rfl (w.heap.size + 1) 98 i0 zMsg 10 80 Tryz.underlying94 hi hz0 hz1 hz2 rfl (by decide) _ _ _ rfl ((HROW.out.kept (World.grownBy_alloc _ _ none) (by cases Value.ownBlock _ <;> simp)).kept (World.grownBy_alloc _ _ none) (by cases Value.ownBlock _ <;> simp)) ⟨wr.heap.size + 1, 0, none⟩ 1 1 (msgR r) rfl rfl (fun j u hj => cell_list (heap_second' wr _ _) hj) (msgR_one r) (by unfold maxLen; omega) (by omega) (by simp; omega) ?_; intro v5 w5 hrow5 hg5 hnil5)
      | go_in)
     go_roundw
     case rel =>
      have hs5 := hg5.size
      simp only [World.size_alloc] at hs5
      have hne := fun g hg => row_base HROW.out (g := g) hg
      refine ⟨k + 1, by omega, by go_num, by rw [take_flat HK.out]; exact hrow5, ?_, ?_, by omega⟩
      · exact ((hbw.alloc (by omega) _).alloc (by simp; omega) _).grown hg5 (by simp; omega) (fun j hj => by have := hne _ hj; omega)
      · rw [hg5.block _ (by simp; omega) (fun e => by have := hne _ e.symm; omega)]
        exact heap_one _ (heap_one _ HBX.out (by omega)) (by simp; omega)
     case measure => simp [intOf]; omega
   · have hke : k = n1 := by omega
     subst hke
     have hx1 : wr.cell? ⟨w.heap.size, 1, none⟩ = some (.slice a2 n2 c2) := (cellA HBX.out rfl).1
     go_wp2
     clear hx1
     go_loopw [4, 40] (fun l i wr => ∃ j : Nat, j ≤ n2 ∧ i = .int .i64 j ∧ wr.ownsRow (w.heap.size + 1) 98 10 l (k + j) (rows.flatMap msgR ++ (recs.take j).flatMap msgL) ∧ Below w.heap.size w wr ∧ w.heap.size + 1 ≤ wr.heap.size) (fun _ i _ => n2 - (intOf i).toNat)
     case atStart =>
      refine ⟨0, Nat.zero_le _, rfl, ?_, hbw, hsz⟩
      have := HROW.out
      rw [HR.out.1, List.take_length] at this
      simpa [HR.out.1] using this
     case round =>
      obtain ⟨j, hj, rfl, hrow, hbw, hsz⟩ := hrel
      have HROW := Lib.hid hrow
      clear hrow
      by_cases hlt : j < n2
      · obtain ⟨r, hr⟩ : ∃ r, recs[j]? = some r := ⟨_, List.getElem?_eq_getElem (by rw [← HL.out.1]; exact hlt)⟩
        obtain ⟨b1, rfl, hb1, hcell⟩ := HL.out.2 j r hr
        have G0 := (hbw.cell (p := b1.add (j * 3 + 0)) (by rw [block_of_add]; exact hb1)).trans (hcell 0 _ rfl)
        rw [Nat.add_zero] at G0
        have G1 := (hbw.cell (p := b1.add (j * 3 + 1)) (by rw [block_of_add]; exact hb1)).trans (hcell 1 _ rfl)
        rw [show j * 3 + 1 = j * 3 + (0 + 1) from rfl, add_far] at G1
        have G2 := (hbw.cell (p := b1.add (j * 3 + 2)) (by rw [block_of_add]; exact hb1)).trans (hcell 2 _ rfl)
        rw [show j * 3 + 2 = j * 3 + (1 + 1) from rfl, add_far] at G2
        have HK := Lib.hid hr
        obtain ⟨i0, hi, hz0, hz1, hz2⟩ := info56
        clear hr hcell
        go_wp2_with (first
         | (at_builtin; refine wpList_append_own _ rfl _ _ 94 rfl (w.heap.size + 1) 98 i0 zMsg 10 80 Tryz.underlying94 hi hz0 hz1 hz2 rfl (by decide) _ _ _ rfl ((HROW.out.kept (World.grownBy_alloc _ _ none) (by cases Value.ownBlock _ <;> simp)).kept (World.grownBy_alloc _ _ none) (by cases Value.ownBlock _ <;> simp)) ⟨wr.heap.size + 1, 0, none⟩ 1 1 (msgL r) rfl rfl (fun j u hj => cell_list (heap_second' wr _ _) hj) (msgL_one r) (by unfold maxLen; omega) (by omega) (by simp; omega) ?_; intro v5 w5 hrow5 hg5 hnil5)
         | go_in)
        go_roundw
        case rel =>
         have hs5 := hg5.size
         simp only [World.size_alloc] at hs5
         have hne := fun g hg => row_base HROW.out (g := g) hg
         refine ⟨j + 1, by omega, by go_num, by rw [take_flat HK.out, ← List.append_assoc]; exact hrow5, ?_, by omega⟩
         exact ((hbw.alloc (by omega) _).alloc (by simp; omega) _).grown hg5 (by simp; omega) (fun j hj => by have := hne _ hj; omega)
        case measure => simp [intOf]; omega
      · have hje : j = n2 := by omega
        subst hje
        obtain ⟨V, rfl⟩ : ∃ V, V = wr := ⟨_, rfl⟩
        obtain ⟨A, C, hv, hat⟩ := row_slice HROW.out
        subst hv
        have hms : ∀ m ∈ rows.map msgR ++ recs.map msgL, Msg10 m := fun m hm => by
         rw [List.mem_append, List.mem_map, List.mem_map] at hm
         rcases hm with ⟨r, _, rfl⟩ | ⟨r, _, rfl⟩
         · exact ⟨_, _, _, _, _, _, _, _, _, _, rfl⟩
         · exact ⟨_, _, _, _, _, _, _, _, _, _, rfl⟩
        have hmsl : (rows.map msgR ++ recs.map msgL).length = k + j := by rw [List.length_append, List.length_map, List.length_map, HR.out.1, HL.out.1]
        have hfl : rows.flatMap msgR ++ (recs.take j).flatMap msgL = (rows.map msgR ++ recs.map msgL).flatten := by
         rw [List.flatten_append, List.flatMap_def, List.flatMap_def, HL.out.1, List.take_length]
        obtain ⟨msgs, hmsgs⟩ : ∃ msgs, msgs = rows.map msgR ++ recs.map msgL := ⟨_, rfl⟩
        rw [← hmsgs] at hms hmsl hfl HT
        have HMSG := Lib.hid hmsgs
        rw [hfl] at hat
        have HAT := Lib.hid hat
        have HMS := Lib.hid hms
        have HML := Lib.hid hmsl
        have hI0 : Lib.IsBuilderF 76 5 V.heap.size V.heap.size (Lib.byteCells []) (V.alloc (.cells #[.pointer none, .slice none 0 0] 76)) := Lib.IsBuilderF.of (Lib.fresh_isBuilder 76 5 V)
        have HI0 := Lib.hid hI0
        have hbw3 : Below w.heap.size w (V.alloc (.cells #[.pointer none, .slice none 0 0] 76)) := hbw.alloc (by omega) _
        obtain ⟨W3, hW3⟩ : ∃ W3, W3 = V.alloc (.cells #[.pointer none, .slice none 0 0] 76) := ⟨_, rfl⟩
        have hbW3 : Below V.heap.size V W3 := by rw [hW3]; exact (Below.refl _ _).alloc (Nat.le_refl _) _
        have hsW3 : V.heap.size < W3.heap.size := by rw [hW3]; simp
        have HW3 := Lib.hid hW3
        rw [← hW3] at hbw3 HI0
        clear hat hms hmsl hfl hmsgs hI0
        go_wp2
        rw [← hW3]
        clear hW3
        go_loopw [52] (fun i wq => ∃ (q : Nat) (acc : List UInt8), q ≤ k + j ∧ i = .int .i64 q ∧ Lib.IsBuilderF 76 5 V.heap.size V.heap.size (Lib.byteCells acc) wq ∧ Below V.heap.size V wq ∧ V.heap.size < wq.heap.size ∧ outF T (msgs.drop q) acc = outF T msgs [] ∧ acc.length ≤ q * 200) (fun i _ => k + j - (intOf i).toNat)
        case atStart => exact ⟨0, [], Nat.zero_le _, rfl, HI0.out, hbW3, hsW3, rfl, by simp⟩
        case round =>
         obtain ⟨q, acc, hq, rfl, hI, hbq, hszq, hacc, hal⟩ := hrel
         have HI := Lib.hid hI
         have HACC := Lib.hid hacc
         have HAL := Lib.hid hal
         clear hI hacc hal
         by_cases hlt3 : q < k + j
         · obtain ⟨m, hm⟩ : ∃ m, msgs[q]? = some m := ⟨_, List.getElem?_eq_getElem (by rw [HML.out]; exact hlt3)⟩
           obtain ⟨g, hA, hg1, hg2, hgc⟩ := HAT.out (by omega)
           subst hA
           have hmm : m ∈ msgs := List.mem_of_getElem? hm
           obtain ⟨hTl, hTc⟩ := HT.out m hmm
           have hcell : ∀ (i : Nat) (u : Value), m[i]? = some u → wr.cell? ⟨g, q * 10 + i, none⟩ = some u := fun i u hi => (hbq.cell (p := ⟨g, q * 10 + i, none⟩) (by exact hg2)).trans (hgc _ _ (flat_get (fun m hm => (HMS.out m hm).len) hm hi))
           obtain ⟨n0, n1, n2, n3, n4, n5, n6, n7, n8, n9, rfl⟩ := HMS.out m hmm
           have G0 := hcell 0 _ rfl
           rw [Nat.add_zero] at G0
           have G1 := hcell 1 _ rfl
           have G2 := hcell 2 _ rfl
           have G3 := hcell 3 _ rfl
           have G4 := hcell 4 _ rfl
           have G5 := hcell 5 _ rfl
           have G6 := hcell 6 _ rfl
           have G7 := hcell 7 _ rfl
           have G8 := hcell 8 _ rfl
           have G9 := hcell 9 _ rfl
           have HM := Lib.hid hm
           have HTC := Lib.hid hTc
           have HTL := Lib.hid hTl
           have hbwr : Below w.heap.size w wr := hbw.trans (hbq.mono (by omega))
           clear hm hgc hcell hTc hTl hmm
           have hdrop : msgs.drop q = [.int .u8 n0, .int .i64 n1, .int .i64 n2, .int .i64 n3, .int .i64 n4, .int .i64 n5, .int .i64 n6, .int .i64 n7, .int .i64 n8, .int .i64 n9] :: msgs.drop (q + 1) := drop_cons HM.out
           have hout := HACC.out
           rw [hdrop, outF] at hout
           obtain ⟨⟨tx, te⟩, hTm⟩ : ∃ p, T [.int .u8 n0, .int .i64 n1, .int .i64 n2, .int .i64 n3, .int .i64 n4, .int .i64 n5, .int .i64 n6, .int .i64 n7, .int .i64 n8, .int .i64 n9] = p := ⟨_, rfl⟩
           rw [hTm] at HTC hout HTL
           have HOUT := Lib.hid hout
           clear hTm hdrop hout
           go_wp2_with (go_at_call 40; refine (HTC.out _ (hbwr.alloc (by omega) _)).mono ?_)
           rintro e W4 rfl hb4
           have hs4 := hb4.size
           rw [World.size_alloc] at hs4
           have hI4 := bld_below (bld_below HI.out ((Below.refl _ _).alloc (Nat.le_refl _) _)) (hb4.mono (by simp))
           have HI4 := Lib.hid hI4
           have hb4' : Below V.heap.size V W4 := (hbq.alloc (by omega) _).trans (hb4.mono (by omega))
           have hb4w : Below w.heap.size w W4 := hbw.trans (hb4'.mono (by omega))
           have HB4 := Lib.hid hb4'
           have HB4W := Lib.hid hb4w
           clear hI4 hb4 hb4' hb4w
           by_cases hte : te = 0
           · subst hte
             have hsl : (Lib.byteCells acc).length + ((ByteArray.mk tx.toArray) ++ (ByteArray.mk #[10])).size ≤ 140737488355328 := by
              have h1 : tx.length ≤ 150 := HTL.out
              have h2 := HAL.out
              rw [show (ByteArray.mk #[10]) = ByteArray.mk [10].toArray from rfl, ba_app, Lib.byteCells_length]
              simp only [ByteArray.size, List.size_toArray, List.length_append, List.length_cons, List.length_nil]
              omega
             have htl : tx.length ≤ 150 := HTL.out
             have HSL := Lib.hid hsl
             clear hsl
             go_wp2_with (go_at_call 31; refine (Any.Builder_WriteString_k Tryz.lays166 Tryz.Extra_166 V.heap.size V.heap.size _ _ _ HI4.out HSL.out (by omega)).mono ?_)
             rintro e W5 ⟨rfl, h5, b5, k5⟩
             have hI5 : Lib.IsBuilderF 76 5 V.heap.size V.heap.size (Lib.byteCells (acc ++ tx ++ [10])) W5 := by
              refine Or.inr ?_
              rw [show (ByteArray.mk #[10]) = ByteArray.mk [10].toArray from rfl, ba_app, Lib.strCells_toArray, ← Lib.byteCells_append, ← List.append_assoc] at h5
              exact h5
             have HI5 := Lib.hid hI5
             have hb5 := HB4.out.trans b5
             have hs5 := b5.size
             clear hI5 h5 k5
             go_wp2
             go_roundw
             case rel =>
              have h1 : tx.length ≤ 150 := HTL.out
              have h2 := HAL.out
              have h3 : outF T (msgs.drop (q + 1)) (acc ++ tx ++ [10]) = outF T msgs [] := HOUT.out
              exact ⟨q + 1, acc ++ tx ++ [10], by omega, by go_num, HI5.out, hb5, by omega, h3, by simp only [List.length_append, List.length_cons, List.length_nil]; omega⟩
             case measure => simp [intOf]; omega
           · go_wp2
             go_ret2
             have := HOUT.out
             rw [if_neg hte] at this
             rw [← HMSG.out, ← this]
             exact ⟨rfl, HB4W.out⟩
         · have hqe : q = k + j := by omega
           subst hqe
           go_wp2_with (go_at_call 33; refine (Any.Builder_String_any_k Tryz.lays169 Tryz.Builder_Extra_169 V.heap.size V.heap.size _ _ HI.out (by omega)).mono ?_)
           rintro e W5 ⟨rfl, _, b5, _⟩
           go_wp2
           go_ret2
           have := HACC.out
           rw [List.drop_eq_nil_of_le (by rw [HML.out]; exact Nat.le_refl _)] at this
           rw [← HMSG.out, ← this]
           exact ⟨rfl, hbw.trans ((hbq.trans b5).mono (by omega))⟩
set_option maxRecDepth 100000 in
set_option maxHeartbeats 2000000 in
theorem out_many (a1 a2 : Option Addr) (n1 n2 c1 c2 : Nat) (w : World) (h : 4000 < n1 ∨ 4000 < n2) (hm1 : n1 < 9223372036854775807) (hm2 : n2 < 9223372036854775807) :
    Calls Tryz.prog 16 #[.agg #[.slice a1 n1 c1, .slice a2 n2 c2]] w fun e w' => e = .returned (.tuple #[.string ⟨#[]⟩, .int .i64 4]) ∧ Below w.heap.size w w' := by
  by_cases h1 : 4000 < n1
  · go_enter Tryz.func16, Tryz.ntmps16
    go_wp2
    go_ret2
    exact ⟨rfl, (Below.refl _ _).alloc (Nat.le_refl _) _⟩
  · have h2 : 4000 < n2 := by omega
    go_enter Tryz.func16, Tryz.ntmps16
    go_wp2
    go_ret2
    exact ⟨rfl, (Below.refl _ _).alloc (Nat.le_refl _) _⟩
end Tw
