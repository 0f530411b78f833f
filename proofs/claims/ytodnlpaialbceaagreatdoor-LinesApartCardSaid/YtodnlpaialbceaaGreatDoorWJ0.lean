import Derived.Test.YtodnlpaialbceaaGreatDoorRows
import Derived.WalkKit
import Derived.Lib.Hide
import Derived.Deep.RegionHeld3
import Derived.Deep.AppendLies
import Derived.Deep.OwnRows
import Derived.Deep.DrawnRows
/- Small laws for the walks of graph.joined. -/
set_option linter.unusedVariables false
set_option linter.unusedSimpArgs false
namespace Tj
open Go Go.RowKit Go.Proofs
theorem heap_one {w : World} {b : Nat} {x : Option Obj} (o : Obj) (h : w.heap[b]? = x) (hb : b < w.heap.size) : (w.alloc o).heap[b]? = x := by
 rw [Below.heap_alloc _ _ _ hb, h]
theorem heap_two {w : World} {b : Nat} {x : Option Obj} {o o' : Obj} (h : w.heap[b]? = x) (hb : b < w.heap.size) : ((w.alloc o).alloc o').drew.heap[b]? = x :=
 heap_one o' (heap_one o h hb) (by simp; omega)
theorem heap_first (w : World) (o o' : Obj) : ((w.alloc o).alloc o').drew.heap[w.heap.size]? = some o :=
 heap_one o' (heap_alloc_new w o) (by simp)
theorem heap_second (w : World) (o o' : Obj) : ((w.alloc o).alloc o').drew.heap[w.heap.size + 1]? = some o' := by
 have := heap_alloc_new (w.alloc o) o'
 rw [World.size_alloc] at this
 exact this
theorem heap_second' (w : World) (o o' : Obj) : ((w.alloc o).alloc o').heap[w.heap.size + 1]? = some o' := heap_second w o o'
theorem heap_lt {w : World} {b : Nat} {x : Obj} (h : w.heap[b]? = some x) : b < w.heap.size := by
 rcases Nat.lt_or_ge b w.heap.size with h' | h'
 · exact h'
 · rw [Array.getElem?_eq_none h'] at h; cases h
theorem block_of_add (a : Addr) (n : Nat) : (a.add n).block = a.block := by unfold Addr.add; split <;> rfl
theorem add_far (a : Addr) (m i : Nat) : a.add (m + (i + 1)) = ⟨(a.add m).block, (a.add m).off + (i + 1), none⟩ := by
 unfold Addr.add
 by_cases hm : m = 0
 · subst hm; simp
 · rw [if_neg (by omega), if_neg hm, Nat.add_assoc]
theorem cellA {w : World} {b j : Nat} {cs : Array Value} {t : TypeId} {z : Nat × Nat} {x : Value} (h : w.heap[b]? = some (.cells cs t z)) (hx : cs[j]? = some x) :
    w.cell? ⟨b, j, none⟩ = some x ∧ (∀ o, (w.alloc o).cell? ⟨b, j, none⟩ = some x) ∧ ∀ o o', ((w.alloc o).alloc o').cell? ⟨b, j, none⟩ = some x := by
  have hb := heap_lt h
  have key : ∀ w' : World, w'.heap[b]? = some (.cells cs t z) → w'.cell? ⟨b, j, none⟩ = some x := fun w' h' => by
   simp only [World.cell?, h']
   exact hx
  exact ⟨key _ h, fun o => key _ (heap_one o h hb), fun o o' => key _ (heap_one o' (heap_one o h hb) (by simp; omega))⟩

def SlAt {α : Type} (w : World) (sz : Nat) (f : α → List Value) (a : Option Addr) (n : Nat) (xs : List α) : Prop :=
 n = xs.length ∧ ∀ (j : Nat) (x : α), xs[j]? = some x → ∃ b, a = some b ∧ b.block < w.heap.size ∧ ∀ (i : Nat) (v : Value), (f x)[i]? = some v → w.cell? (b.add (j * sz + i)) = some v
abbrev Chn := Int × Int × Int × Int × Int × Unit
abbrev Opr := Int × Int × Unit
def chC (r : Chn) : List Value := [.int .i64 r.1, .int .i64 r.2.1, .int .i64 r.2.2.1, .int .i64 r.2.2.2.1, .int .i64 r.2.2.2.2.1]
def opC (r : Opr) : List Value := [.int .u8 r.1, .int .i64 r.2.1]
theorem info107 : (Tryz.prog.info? 107).map (fun i => (i.zero, i.size, i.bytes)) = some (some (.slice none 0 0), 1, 24) := by kernel_rfl
theorem info3 : (Tryz.prog.info? 3).map (fun i => (i.zero, i.size, i.bytes)) = some (some (.int .i64 0), 1, 8) := by kernel_rfl
end Tj

/- graph.bounds, graph.ends, graph.joined: the walks. -/
set_option linter.unusedVariables false
set_option linter.unusedSimpArgs false
namespace Tj
open Go Go.RowKit Go.Proofs
def bnd (k : Int) : Int × Int × Int × Int := if k = 1 then (0, 0, 1, 1) else if k = 2 then (1, 1, 1, 2) else if k = 3 then (1, 1, 1, 3) else if k = 4 then (1, 4, 1, 1) else if k = 5 then (2, 2, 1, 1) else if k = 6 then (1, 3, 0, 0) else (1, 4, 0, 0)
theorem info128 : (Tryz.prog.info? 128).map (·.size) = some 2 := by kernel_rfl
theorem res71 (w : World) (tmps : Array Value) (x1 x2 x3 x4 : Int) (h2 : tmps.getD 2 undef = .pointer (some ⟨w.heap.size, 0, none⟩)) (h3 : tmps.getD 3 undef = .pointer (some ⟨w.heap.size + 1, 0, none⟩)) :
    (results Tryz.f71 tmps).run Tryz.prog ((w.alloc (.cells #[.int .i64 x1, .int .i64 x2] 128)).alloc (.cells #[.int .i64 x3, .int .i64 x4] 128)) = .ok (.tuple #[.agg #[.int .i64 x1, .int .i64 x2], .agg #[.int .i64 x3, .int .i64 x4]]) ((w.alloc (.cells #[.int .i64 x1, .int .i64 x2] 128)).alloc (.cells #[.int .i64 x3, .int .i64 x4] 128)) := by
  have h : Tryz.f71.results = #[.cell 2 128, .cell 3 128] := rfl
  have hp' : tmps[2]?.getD undef = .pointer (some ⟨w.heap.size, 0, none⟩) := by simpa using h2
  have hq' : tmps[3]?.getD undef = .pointer (some ⟨w.heap.size + 1, 0, none⟩) := by simpa using h3
  have e1 := run_loadVar_row (P := Tryz.prog) ((w.alloc (.cells #[.int .i64 x1, .int .i64 x2] 128)).alloc (.cells #[.int .i64 x3, .int .i64 x4] 128)) w.heap.size 128 128 #[.int .i64 x1, .int .i64 x2] (0, 0) _ (heap_one _ (heap_alloc_new w _) (by simp)) Tryz.underlying128 rfl info128
  have e2 := run_loadVar_row (P := Tryz.prog) ((w.alloc (.cells #[.int .i64 x1, .int .i64 x2] 128)).alloc (.cells #[.int .i64 x3, .int .i64 x4] 128)) (w.heap.size + 1) 128 128 #[.int .i64 x3, .int .i64 x4] (0, 0) _ (heap_second' w _ _) Tryz.underlying128 rfl info128
  simp [results, h, hp', hq', asAddr, e1, e2]
set_option maxRecDepth 100000 in
set_option maxHeartbeats 2000000 in
theorem bounds_any (k : Int) (w : World) : Calls Tryz.prog 71 #[.int .u8 k] w fun e w' => e = .returned (.tuple #[.agg #[.int .i64 (bnd k).1, .int .i64 (bnd k).2.1], .agg #[.int .i64 (bnd k).2.2.1, .int .i64 (bnd k).2.2.2]]) ∧ Below w.heap.size w w' := by
 have key : ∀ x1 x2 x3 x4 : Int, bnd k = (x1, x2, x3, x4) → (∀ e w', e = Ending.returned (.tuple #[.agg #[.int .i64 x1, .int .i64 x2], .agg #[.int .i64 x3, .int .i64 x4]]) ∧ Below w.heap.size w w' → e = .returned (.tuple #[.agg #[.int .i64 (bnd k).1, .int .i64 (bnd k).2.1], .agg #[.int .i64 (bnd k).2.2.1, .int .i64 (bnd k).2.2.2]]) ∧ Below w.heap.size w w') := fun x1 x2 x3 x4 h e w' he => by rw [h]; exact he
 by_cases k1 : k = 1
 · refine (?_ : Calls Tryz.prog 71 #[.int .u8 k] w _).mono (key 0 0 1 1 (by simp [bnd, k1]))
   clear key
   subst k1
   go_enter Tryz.func71, Tryz.ntmps71
   go_wp2
   refine bodyPost_ret (res71 w _ 0 0 1 1 rfl rfl) rfl ?_
   exact ⟨rfl, ((Below.refl _ _).alloc (Nat.le_refl _) _).alloc (by simp) _⟩
 by_cases k2 : k = 2
 · refine (?_ : Calls Tryz.prog 71 #[.int .u8 k] w _).mono (key 1 1 1 2 (by simp [bnd, k2]))
   clear key
   subst k2
   go_enter Tryz.func71, Tryz.ntmps71
   go_wp2
   refine bodyPost_ret (res71 w _ 1 1 1 2 rfl rfl) rfl ?_
   exact ⟨rfl, ((Below.refl _ _).alloc (Nat.le_refl _) _).alloc (by simp) _⟩
 by_cases k3 : k = 3
 · refine (?_ : Calls Tryz.prog 71 #[.int .u8 k] w _).mono (key 1 1 1 3 (by simp [bnd, k3]))
   clear key
   subst k3
   go_enter Tryz.func71, Tryz.ntmps71
   go_wp2
   refine bodyPost_ret (res71 w _ 1 1 1 3 rfl rfl) rfl ?_
   exact ⟨rfl, ((Below.refl _ _).alloc (Nat.le_refl _) _).alloc (by simp) _⟩
 by_cases k4 : k = 4
 · refine (?_ : Calls Tryz.prog 71 #[.int .u8 k] w _).mono (key 1 4 1 1 (by simp [bnd, k4]))
   clear key
   subst k4
   go_enter Tryz.func71, Tryz.ntmps71
   go_wp2
   refine bodyPost_ret (res71 w _ 1 4 1 1 rfl rfl) rfl ?_
   exact ⟨rfl, ((Below.refl _ _).alloc (Nat.le_refl _) _).alloc (by simp) _⟩
 by_cases k5 : k = 5
 · refine (?_ : Calls Tryz.prog 71 #[.int .u8 k] w _).mono (key 2 2 1 1 (by simp [bnd, k5]))
   clear key
   subst k5
   go_enter Tryz.func71, Tryz.ntmps71
   go_wp2
   refine bodyPost_ret (res71 w _ 2 2 1 1 rfl rfl) rfl ?_
   exact ⟨rfl, ((Below.refl _ _).alloc (Nat.le_refl _) _).alloc (by simp) _⟩
 by_cases k6 : k = 6
 · refine (?_ : Calls Tryz.prog 71 #[.int .u8 k] w _).mono (key 1 3 0 0 (by simp [bnd, k6]))
   clear key
   subst k6
   go_enter Tryz.func71, Tryz.ntmps71
   go_wp2
   refine bodyPost_ret (res71 w _ 1 3 0 0 rfl rfl) rfl ?_
   exact ⟨rfl, ((Below.refl _ _).alloc (Nat.le_refl _) _).alloc (by simp) _⟩
 refine (?_ : Calls Tryz.prog 71 #[.int .u8 k] w _).mono (key 1 4 0 0 (by simp [bnd, k1, k2, k3, k4, k5, k6]))
 clear key
 have e1 : (k == 1) = false := by simpa using k1
 have e2 : (k == 2) = false := by simpa using k2
 have e3 : (k == 3) = false := by simpa using k3
 have e4 : (k == 4) = false := by simpa using k4
 have e5 : (k == 5) = false := by simpa using k5
 have e6 : (k == 6) = false := by simpa using k6
 go_enter Tryz.func71, Tryz.ntmps71
 go_wp2
 refine bodyPost_ret (res71 w _ 1 4 0 0 rfl rfl) rfl ?_
 exact ⟨rfl, ((Below.refl _ _).alloc (Nat.le_refl _) _).alloc (by simp) _⟩
end Tj
