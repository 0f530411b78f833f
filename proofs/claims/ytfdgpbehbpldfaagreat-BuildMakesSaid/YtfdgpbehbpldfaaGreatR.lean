import Derived.Test.YtfdgpbehbpldfaaGreatQ
import Derived.Test.YtfdgpbehbpldfaaGreatzbA
/- The code's builder gives what the reference's gives. -/
set_option linter.unusedVariables false
set_option linter.unusedSimpArgs false
namespace Tg
open Go.Abs (fuel bigOk cloned tmm)
theorem b46 (q : Qr) (ops : List Op2) (chs : List Ch5) (ts : List Tk) (hl : chs.length ≤ 1000) (hr : ∀ c ∈ chs, 1 ≤ c.2.2.2.2.1 ∧ c.2.2.2.2.1 ≤ 8) : ∀ (rest : List Ch5) (i n : Nat), chs.drop i = rest → i ≤ chs.length → rest.length + 1 ≤ n →
    build_Build_i46 n q.1 q.2.1 q.2.2.1 q.2.2.2.1 q.2.2.2.2.1 q.2.2.2.2.2.1 q.2.2.2.2.2.2.1 q.2.2.2.2.2.2.2.1 q.2.2.2.2.2.2.2.2.1 q.2.2.2.2.2.2.2.2.2.1 ops chs ts ((chs.take i).map qOf) chs (chs.length : Int) (i : Int) =
      some ((q.1, q.2.1, q.2.2.1, q.2.2.2.1, q.2.2.2.2.1, q.2.2.2.2.2.1, q.2.2.2.2.2.2.1, q.2.2.2.2.2.2.2.1, q.2.2.2.2.2.2.2.2.1, q.2.2.2.2.2.2.2.2.2.1, ops, chs, ts, chs.map qOf, ()), 0, ())
  | [], i, n, h, hi, hn => by
    obtain ⟨m, rfl⟩ : ∃ m, n = m + 1 := ⟨n - 1, by simp at hn; omega⟩
    have := drop_end h hi
    subst this
    simp only [build_Build_i46, build_Build_c46, iG (show ¬ chs.length < chs.length by omega), cond_false, List.take_length]
  | e :: rest, i, n, h, hi, hn => by
    obtain ⟨m, rfl⟩ : ∃ m, n = m + 1 := ⟨n - 1, by simp at hn; omega⟩
    obtain ⟨h1, h2, h3⟩ := drop_get h
    have ih := b46 q ops chs ts hl hr rest (i + 1) m h3 (by omega) (by simp at hn; omega)
    obtain ⟨r1, r2⟩ := hr e (List.mem_of_getElem? h2)
    have hn : channel_New e.2.2.2.2.1 = some (qOf e, 0, ()) := chn_eq r1 r2
    simp only [build_Build_i46, build_Build_c46, iL h1, iN, cond_true, cond_false, Int.toNat_natCast, h2, hn, bne_s, big_ok (show ((chs.take i).map qOf).length + [qOf e].length ≤ 1000000 by simp; omega) (show 32 ≤ 1000 by omega), map_snoc qOf h2, wS (show i < 1000000 by omega), ih]
theorem bb1 {inp : Inp} (hi : inpOk inp) (h4 : inp.length ≤ 4) {N : Int} (a : 0 ≤ N) (b : N < (inp.length : Int)) : ∃ l, build_Build1 N (inp, ()) = some ((1, N, 0, [], [], [], l, [], [], ()), 0, ()) ∧ (inp.getD N.toNat ([], ())).1 = l := by
  obtain ⟨l, g1, g2, g3⟩ := inp_get hi a b
  exact ⟨l, by simp only [build_Build1, dT a, cond_true, g1, nsrc_eq a (by omega) g3], g2⟩
theorem bb2 (q : Qr) {inp : Inp} (hq : q.2.2.1.length = inp.length) (h1 : 1 ≤ inp.length) (h4 : inp.length ≤ 4) {N : Int} (a : 0 ≤ N) (b : N < 3) : build_Build2 N (q.1, q.2.1, q.2.2.1, q.2.2.2.1, q.2.2.2.2.1, q.2.2.2.2.2.1, q.2.2.2.2.2.2.1, q.2.2.2.2.2.2.2.1, q.2.2.2.2.2.2.2.2.1, q.2.2.2.2.2.2.2.2.2.1, ()) = some ((4, N, 0, [], List.replicate inp.length (low, ()), [], [], [], [], ()), 0, ()) := by
  simp only [build_Build2, Int.ofNat_eq_natCast, hq, agg_eq a b h1 h4]
theorem bs41 (q : Qr) (inp : Inp) (ops : List Op2) (chs : List Ch5) (ts : List Tk) (ht : ts.length ≤ 1000) {i : Nat} (hi : i < 1000) (m : Nat) (t : Tk) :
    build_Build_i41 (m + 1) q.1 q.2.1 q.2.2.1 q.2.2.2.1 q.2.2.2.2.1 q.2.2.2.2.2.1 q.2.2.2.2.2.2.1 q.2.2.2.2.2.2.2.1 q.2.2.2.2.2.2.2.2.1 q.2.2.2.2.2.2.2.2.2.1 inp chs q.1 q.2.1 q.2.2.1 q.2.2.2.1 q.2.2.2.2.1 q.2.2.2.2.2.1 q.2.2.2.2.2.2.1 q.2.2.2.2.2.2.2.1 q.2.2.2.2.2.2.2.2.1 q.2.2.2.2.2.2.2.2.2.1 ops chs ts t.1 t.2.1 t.2.2.1 t.2.2.2.1 t.2.2.2.2.1 t.2.2.2.2.2.1 t.2.2.2.2.2.2.1 t.2.2.2.2.2.2.2.1 t.2.2.2.2.2.2.2.2.1 ops (ops.length : Int) (i : Int) =
      build_Build_i35 m q.1 q.2.1 q.2.2.1 q.2.2.2.1 q.2.2.2.2.1 q.2.2.2.2.2.1 q.2.2.2.2.2.2.1 q.2.2.2.2.2.2.2.1 q.2.2.2.2.2.2.2.2.1 q.2.2.2.2.2.2.2.2.2.1 inp chs q.1 q.2.1 q.2.2.1 q.2.2.2.1 q.2.2.2.2.1 q.2.2.2.2.2.1 q.2.2.2.2.2.2.1 q.2.2.2.2.2.2.2.1 q.2.2.2.2.2.2.2.2.1 q.2.2.2.2.2.2.2.2.2.1 ops chs (ts ++ [t]) ops (ops.length : Int) ((i + 1 : Nat) : Int) := by
  obtain ⟨a, b, c, d, e, f, g, h, j, u⟩ := t
  simp only [build_Build_i41, build_Build_c41, big_ok (show ts.length + [((a, b, c, d, e, f, g, h, j, ()) : Tk)].length ≤ 1000000 by simp; omega) (show 168 ≤ 1000 by omega), cond_true, wS (show i < 1000000 by omega)]
theorem bs35 (q : Qr) {inp : Inp} (hi : inpOk inp) (hq : q.2.2.1.length = inp.length) (h1 : 1 ≤ inp.length) (h4 : inp.length ≤ 4) (ops : List Op2) (chs : List Ch5) (ts : List Tk) (hl : ops.length ≤ 1000) (ht : ts.length ≤ 1000) {i : Nat} (hi' : i < ops.length) {e : Op2} (he : ops[i]? = some e) (ho : okOp inp.length e) (m : Nat) :
    build_Build_i35 (m + 1 + 1) q.1 q.2.1 q.2.2.1 q.2.2.2.1 q.2.2.2.2.1 q.2.2.2.2.2.1 q.2.2.2.2.2.2.1 q.2.2.2.2.2.2.2.1 q.2.2.2.2.2.2.2.2.1 q.2.2.2.2.2.2.2.2.2.1 inp chs q.1 q.2.1 q.2.2.1 q.2.2.2.1 q.2.2.2.2.1 q.2.2.2.2.2.1 q.2.2.2.2.2.2.1 q.2.2.2.2.2.2.2.1 q.2.2.2.2.2.2.2.2.1 q.2.2.2.2.2.2.2.2.2.1 ops chs ts ops (ops.length : Int) (i : Int) =
      build_Build_i35 m q.1 q.2.1 q.2.2.1 q.2.2.2.1 q.2.2.2.2.1 q.2.2.2.2.2.1 q.2.2.2.2.2.2.1 q.2.2.2.2.2.2.2.1 q.2.2.2.2.2.2.2.2.1 q.2.2.2.2.2.2.2.2.2.1 inp chs q.1 q.2.1 q.2.2.1 q.2.2.2.1 q.2.2.2.2.1 q.2.2.2.2.2.1 q.2.2.2.2.2.2.1 q.2.2.2.2.2.2.2.1 q.2.2.2.2.2.2.2.2.1 q.2.2.2.2.2.2.2.2.2.1 ops chs (ts ++ [taskOf inp.length inp e]) ops (ops.length : Int) ((i + 1 : Nat) : Int) := by
  have h41 := bs41 q inp ops chs ts ht (show i < 1000 by omega) m
  obtain ⟨k, N, u⟩ := e
  rw [build_Build_i35]
  generalize hJ : build_Build_i35 m q.1 q.2.1 q.2.2.1 q.2.2.2.1 q.2.2.2.2.1 q.2.2.2.2.2.1 q.2.2.2.2.2.2.1 q.2.2.2.2.2.2.2.1 q.2.2.2.2.2.2.2.2.1 q.2.2.2.2.2.2.2.2.2.1 inp chs q.1 q.2.1 q.2.2.1 q.2.2.2.1 q.2.2.2.2.1 q.2.2.2.2.2.1 q.2.2.2.2.2.2.1 q.2.2.2.2.2.2.2.1 q.2.2.2.2.2.2.2.2.1 q.2.2.2.2.2.2.2.2.2.1 ops chs (ts ++ [taskOf inp.length inp (k, N, u)]) ops (ops.length : Int) ((i + 1 : Nat) : Int) = R
  generalize hJ41 : build_Build_i41 (m + 1) = J41 at h41 ⊢
  generalize build_Build_i35 (m + 1) = J35
  generalize build_Build_i33 (m + 1) = J33
  generalize build_Build_i9 (m + 1) = J9
  generalize build_Build_i11 (m + 1) = J11
  generalize build_Build_i46 (m + 1) = J46
  rcases ho with ⟨e, a, b⟩ | ⟨e | e, a, b⟩ | ⟨e | e, a, b⟩ | e | e
  · simp only at e a b
    subst e
    obtain ⟨l, hb, hl⟩ := bb1 hi h4 a b
    have hk : taskOf inp.length inp (1, N, u) = (1, N, 0, [], [], [], l, [], [], ()) := by rw [← hl]; rfl
    rw [hk, ← h41] at hJ
    simp only [build_Build_c35, iL hi', iN, cond_true, cond_false, Int.toNat_natCast, he, show Go.IntKind.wrap Go.IntKind.u8 ((1 : Int) - (1 : Int)) = 0 from rfl, show decide ((0 : Int) ≤ 0) = true from rfl, show decide (Int.toNat (0 : Int) = nat_lit 6) = false from rfl, show decide (Int.toNat (0 : Int) = nat_lit 5) = false from rfl, show decide (Int.toNat (0 : Int) = nat_lit 4) = false from rfl, show decide (Int.toNat (0 : Int) = nat_lit 3) = false from rfl, show decide (Int.toNat (0 : Int) = nat_lit 2) = false from rfl, show decide (Int.toNat (0 : Int) = nat_lit 1) = false from rfl, show decide (Int.toNat (0 : Int) = nat_lit 0) = true from rfl, hb, bne_s, List.isEmpty_nil]
    exact hJ
  · simp only at e a b
    subst e
    have hk : taskOf inp.length inp (2, N, u) = (2, N, 0, [], [(low, ())], [], [], [], [], ()) := rfl
    rw [hk, ← h41] at hJ
    simp only [build_Build_c35, iL hi', iN, cond_true, cond_false, Int.toNat_natCast, he, show Go.IntKind.wrap Go.IntKind.u8 ((2 : Int) - (1 : Int)) = 1 from rfl, show decide ((0 : Int) ≤ 1) = true from rfl, show decide (Int.toNat (1 : Int) = nat_lit 6) = false from rfl, show decide (Int.toNat (1 : Int) = nat_lit 5) = false from rfl, show decide (Int.toNat (1 : Int) = nat_lit 4) = false from rfl, show decide (Int.toNat (1 : Int) = nat_lit 3) = false from rfl, show decide (Int.toNat (1 : Int) = nat_lit 2) = false from rfl, show decide (Int.toNat (1 : Int) = nat_lit 1) = true from rfl, flt_eq a b, bne_s]
    exact hJ
  · simp only at e a b
    subst e
    have hk : taskOf inp.length inp (3, N, u) = (3, N, 0, [], [], [], [], [], [], ()) := rfl
    rw [hk, ← h41] at hJ
    simp only [build_Build_c35, iL hi', iN, cond_true, cond_false, Int.toNat_natCast, he, show Go.IntKind.wrap Go.IntKind.u8 ((3 : Int) - (1 : Int)) = 2 from rfl, show decide ((0 : Int) ≤ 2) = true from rfl, show decide (Int.toNat (2 : Int) = nat_lit 6) = false from rfl, show decide (Int.toNat (2 : Int) = nat_lit 5) = false from rfl, show decide (Int.toNat (2 : Int) = nat_lit 4) = false from rfl, show decide (Int.toNat (2 : Int) = nat_lit 3) = false from rfl, show decide (Int.toNat (2 : Int) = nat_lit 2) = true from rfl, prt_eq a b, bne_s]
    exact hJ
  · simp only at e a b
    subst e
    have hb := bb2 q hq h1 h4 a b
    have hk : taskOf inp.length inp (4, N, u) = (4, N, 0, [], List.replicate inp.length (low, ()), [], [], [], [], ()) := rfl
    rw [hk, ← h41] at hJ
    simp only [build_Build_c35, iL hi', iN, cond_true, cond_false, Int.toNat_natCast, he, show Go.IntKind.wrap Go.IntKind.u8 ((4 : Int) - (1 : Int)) = 3 from rfl, show decide ((0 : Int) ≤ 3) = true from rfl, show decide (Int.toNat (3 : Int) = nat_lit 6) = false from rfl, show decide (Int.toNat (3 : Int) = nat_lit 5) = false from rfl, show decide (Int.toNat (3 : Int) = nat_lit 4) = false from rfl, show decide (Int.toNat (3 : Int) = nat_lit 3) = true from rfl, hb, bne_s, List.isEmpty_nil]
    exact hJ
  · simp only at e a b
    subst e
    have hk : taskOf inp.length inp (5, N, u) = (5, N, 0, [], [(low, ()), (low, ())], [], [], [], [], ()) := rfl
    rw [hk, ← h41] at hJ
    simp only [build_Build_c35, iL hi', iN, cond_true, cond_false, Int.toNat_natCast, he, show Go.IntKind.wrap Go.IntKind.u8 ((5 : Int) - (1 : Int)) = 4 from rfl, show decide ((0 : Int) ≤ 4) = true from rfl, show decide (Int.toNat (4 : Int) = nat_lit 6) = false from rfl, show decide (Int.toNat (4 : Int) = nat_lit 5) = false from rfl, show decide (Int.toNat (4 : Int) = nat_lit 4) = true from rfl, joi_eq a b, bne_s]
    exact hJ
  · simp only at e
    subst e
    have hk : taskOf inp.length inp (6, N, u) = (6, 0, 0, [], [], [], [], [], [], ()) := rfl
    rw [hk, ← h41] at hJ
    simp only [build_Build_c35, iL hi', iN, cond_true, cond_false, Int.toNat_natCast, he, show Go.IntKind.wrap Go.IntKind.u8 ((6 : Int) - (1 : Int)) = 5 from rfl, show decide ((0 : Int) ≤ 5) = true from rfl, show decide (Int.toNat (5 : Int) = nat_lit 6) = false from rfl, show decide (Int.toNat (5 : Int) = nat_lit 5) = true from rfl]
    exact hJ
  · simp only at e
    subst e
    have hk : taskOf inp.length inp (7, N, u) = (7, 0, 0, [], [], [], [], [], [], ()) := rfl
    rw [hk, ← h41] at hJ
    simp only [build_Build_c35, iL hi', iN, cond_true, cond_false, Int.toNat_natCast, he, show Go.IntKind.wrap Go.IntKind.u8 ((7 : Int) - (1 : Int)) = 6 from rfl, show decide ((0 : Int) ≤ 6) = true from rfl, show decide (Int.toNat (6 : Int) = nat_lit 6) = true from rfl]
    exact hJ
theorem b35 (q : Qr) {inp : Inp} (hi : inpOk inp) (hq : q.2.2.1.length = inp.length) (g1 : 1 ≤ inp.length) (g4 : inp.length ≤ 4) (ops : List Op2) (chs : List Ch5) (hl : ops.length ≤ 1000) (hl2 : chs.length ≤ 1000) (ho : ∀ o ∈ ops, okOp inp.length o) (hr : ∀ c ∈ chs, 1 ≤ c.2.2.2.2.1 ∧ c.2.2.2.2.1 ≤ 8) : ∀ (rest : List Op2) (i n : Nat), ops.drop i = rest → i ≤ ops.length → 2 * rest.length + 2000 ≤ n →
    build_Build_i35 n q.1 q.2.1 q.2.2.1 q.2.2.2.1 q.2.2.2.2.1 q.2.2.2.2.2.1 q.2.2.2.2.2.2.1 q.2.2.2.2.2.2.2.1 q.2.2.2.2.2.2.2.2.1 q.2.2.2.2.2.2.2.2.2.1 inp chs q.1 q.2.1 q.2.2.1 q.2.2.2.1 q.2.2.2.2.1 q.2.2.2.2.2.1 q.2.2.2.2.2.2.1 q.2.2.2.2.2.2.2.1 q.2.2.2.2.2.2.2.2.1 q.2.2.2.2.2.2.2.2.2.1 ops chs ((ops.take i).map (taskOf inp.length inp)) ops (ops.length : Int) (i : Int) =
      some ((q.1, q.2.1, q.2.2.1, q.2.2.2.1, q.2.2.2.2.1, q.2.2.2.2.2.1, q.2.2.2.2.2.2.1, q.2.2.2.2.2.2.2.1, q.2.2.2.2.2.2.2.2.1, q.2.2.2.2.2.2.2.2.2.1, ops, chs, ops.map (taskOf inp.length inp), chs.map qOf, ()), 0, ())
  | [], i, n, h, hi', hn => by
    obtain ⟨m, rfl⟩ : ∃ m, n = m + 1 + 1 := ⟨n - 2, by simp at hn; omega⟩
    have := drop_end h hi'
    subst this
    have hq := b46 q ops chs (ops.map (taskOf inp.length inp)) hl2 hr chs 0 m rfl (by omega) (by simp at hn; omega)
    simp only [build_Build_i35, build_Build_c35, iG (show ¬ ops.length < ops.length by omega), cond_false, List.take_length, build_Build_i33, build_Build_c33, Int.ofNat_eq_natCast]
    rw [List.take_zero, List.map_nil, show ((0 : Nat) : Int) = 0 from rfl] at hq
    exact hq
  | e :: rest, i, n, h, hi', hn => by
    obtain ⟨m, rfl⟩ : ∃ m, n = m + 1 + 1 := ⟨n - 2, by simp at hn; omega⟩
    obtain ⟨h1, h2, h3⟩ := drop_get h
    have ih := b35 q hi hq g1 g4 ops chs hl hl2 ho hr rest (i + 1) m h3 (by omega) (by simp at hn; omega)
    have hs := bs35 q hi hq g1 g4 ops chs ((ops.take i).map (taskOf inp.length inp)) hl (by simp; omega) h1 h2 (ho e (List.mem_of_getElem? h2)) m
    rw [hs, map_snoc (taskOf inp.length inp) h2, ih]
theorem b11 (q : Qr) (inp : Inp) (p r : Int) (hl : inp.length ≤ 1000) : ∀ (rest : Inp) (i n : Nat), inp.drop i = rest → i ≤ inp.length → rest.length + 5000 ≤ n →
    ∃ m, 4000 ≤ m ∧ build_Build_i11 n p r q.1 q.2.1 q.2.2.1 q.2.2.2.1 q.2.2.2.2.1 q.2.2.2.2.2.1 q.2.2.2.2.2.2.1 q.2.2.2.2.2.2.2.1 q.2.2.2.2.2.2.2.2.1 q.2.2.2.2.2.2.2.2.2.1 inp inp (inp.length : Int) (i : Int) = bif firstE rest != 0 then some (zM, firstE rest, ()) else build_Build_i9 m p r q.1 q.2.1 q.2.2.1 q.2.2.2.1 q.2.2.2.2.1 q.2.2.2.2.2.1 q.2.2.2.2.2.2.1 q.2.2.2.2.2.2.2.1 q.2.2.2.2.2.2.2.2.1 q.2.2.2.2.2.2.2.2.2.1 inp
  | [], i, n, h, hi, hn => by
    obtain ⟨m, rfl⟩ : ∃ m, n = m + 1 := ⟨n - 1, by simp at hn; omega⟩
    have := drop_end h hi
    refine ⟨m, by simp at hn; omega, ?_⟩
    rw [show firstE ([] : Inp) = 0 from rfl, bne_s, cond_false, build_Build_i11]
    simp only [build_Build_c11, iG (show ¬ i < inp.length by omega), cond_false]
  | e :: rest, i, n, h, hi, hn => by
    obtain ⟨m, rfl⟩ : ∃ m, n = m + 1 := ⟨n - 1, by simp at hn; omega⟩
    obtain ⟨h1, h2, h3⟩ := drop_get h
    obtain ⟨m', hm, ih⟩ := b11 q inp p r hl rest (i + 1) m h3 (by omega) (by simp at hn; omega)
    refine ⟨m', hm, ?_⟩
    have hf : firstE (e :: rest) = bif lateE e.1 != 0 then lateE e.1 else firstE rest := rfl
    rw [hf, build_Build_i11]
    generalize build_Build_i9 m' = J9' at ih ⊢
    generalize build_Build_i11 m = J11 at ih ⊢
    generalize build_Build_i9 m = J9
    generalize build_Build_i33 m = J33
    generalize build_Build_i35 m = J35
    generalize build_Build_i41 m = J41
    generalize build_Build_i46 m = J46
    simp only [build_Build_c11, iL h1, iN, cond_true, cond_false, Int.toNat_natCast, h2, late_eq', wS (show i < 1000000 by omega), ih]
    cases he : (lateE e.1 != 0) with
    | true =>
      rw [cond_true, cond_true, he, cond_true]
      rfl
    | false => rw [cond_false, cond_false]
end Tg

/- The law of the builder, in plain terms: the code's machine and error are the reference's. -/
set_option linter.unusedVariables false
set_option linter.unusedSimpArgs false
namespace Tg
open Go.Abs (fuel bigOk cloned tmm)
theorem graph_n2 {n P : Nat} (hn : 1 ≤ n ∧ n ≤ 4) (hP : 1 ≤ P ∧ P ≤ 3) {len p late : Int} (hlen : len = (n : Int)) (hp : p = (P : Int)) (key join side : Bool) (hl : late = bif side then 2 else 1) (room : Int) :
    graph_Of_i19 fuel 1 [] len 0 p join key late room len = some ((opsG n (bif key then P else 1) key join side, chG n (bif key then P else 1) key side room, ()), 0, ()) := by
  subst hlen
  subst hp
  subst hl
  exact graph_n n P hn hP key join side room
theorem graph_e (s : List (Int × Unit)) (q : Qr) (hc : plan_Check (s, q) = some (0, ())) (p r : Int) :
    graph_Of (s, q) p r = bif prE p r != 0 then some (([], [], ()), prE p r, ()) else graph_Of_i19 fuel 1 [] (Int.ofNat q.2.2.1.length) 0 p q.2.2.2.1 q.2.2.2.2.2.2.2.2.1 q.2.2.2.2.2.2.2.2.2.1 r (Int.ofNat q.2.2.1.length) := by
  unfold graph_Of graph_Of_c
  generalize graph_Of_i19 fuel = J19
  simp only [hc, bne_s, cond_false]
  unfold prE
  cases decide (p < 1) <;> cases decide (p > 3) <;> cases decide (r < 1) <;> cases decide (r > 8) <;> rfl
theorem graph_g {q : Qr} {inp : Inp} {p r : Int} (s : List (Int × Unit)) (hc : plan_Check (s, q) = some (0, ())) (e1 : (chkQ q).2.1 = 0) (e2 : inp.length = q.2.2.1.length) (h0 : prE p r = 0) :
    graph_Of (s, q) p r = some ((opsG inp.length (partsOf q p) q.2.2.2.2.2.2.2.2.1 q.2.2.2.1 (q.2.2.2.2.2.2.2.2.2.1 == 2), chG inp.length (partsOf q p) q.2.2.2.2.2.2.2.2.1 (q.2.2.2.2.2.2.2.2.2.1 == 2) r, ()), 0, ()) := by
  have h := graph_e s q hc p r
  rw [h0, bne_s, cond_false] at h
  obtain ⟨p1, p2, r1, r2⟩ := prE0 h0
  have hl : q.2.2.2.2.2.2.2.2.2.1 = bif (q.2.2.2.2.2.2.2.2.2.1 == 2) then 2 else 1 := by
    rcases chkC_late (chkQ0 e1) with h | h <;> rw [h] <;> rfl
  have h5 := srcE_len (chkC_tail (chkQ0 e1))
  have hg := graph_n2 (n := inp.length) (P := p.toNat) (by rw [e2]; exact h5) ⟨by omega, by omega⟩ (len := Int.ofNat q.2.2.1.length) (by rw [e2]; rfl) (show p = (p.toNat : Int) by omega) q.2.2.2.2.2.2.2.2.1 q.2.2.2.1 (q.2.2.2.2.2.2.2.2.2.1 == 2) hl r
  exact h.trans hg
theorem b9 {q : Qr} {inp : Inp} {p r : Int} (e1 : (chkQ q).2.1 = 0) (e2 : inp.length = q.2.2.1.length) (hi : inpOk inp) (h1 : q.2.1.length ≤ 1000) (h2 : q.2.2.1.length ≤ 1000) (h3 : q.2.2.2.2.1.length ≤ 1000) {m : Nat} (hm : 4000 ≤ m) :
    build_Build_i9 m p r q.1 q.2.1 q.2.2.1 q.2.2.2.1 q.2.2.2.2.1 q.2.2.2.2.2.1 q.2.2.2.2.2.2.1 q.2.2.2.2.2.2.2.1 q.2.2.2.2.2.2.2.2.1 q.2.2.2.2.2.2.2.2.2.1 inp = some (bif prE p r != 0 then zM else mOf q inp p r, prE p r, ()) := by
  obtain ⟨k, rfl⟩ : ∃ k, m = k + 1 := ⟨m - 1, by omega⟩
  obtain ⟨s, hp, hc⟩ := planOf_ok e1 h1 h2 h3
  have hp' : plan_Of (q.1, q.2.1, q.2.2.1, q.2.2.2.1, q.2.2.2.2.1, q.2.2.2.2.2.1, q.2.2.2.2.2.2.1, q.2.2.2.2.2.2.2.1, q.2.2.2.2.2.2.2.2.1, q.2.2.2.2.2.2.2.2.2.1, ()) = some ((s, q), 0, ()) := hp
  have h5 := srcE_len (chkC_tail (chkQ0 e1))
  rw [build_Build_i9]
  generalize hJ : build_Build_i35 k = J35
  generalize build_Build_i9 k = J9
  generalize build_Build_i11 k = J11
  generalize build_Build_i33 k = J33
  generalize build_Build_i41 k = J41
  generalize build_Build_i46 k = J46
  cases he : (prE p r != 0) with
  | true =>
    have hg := graph_e s q hc p r
    rw [he, cond_true] at hg
    simp only [build_Build_c9, hp', bne_s, cond_false, hg, he, cond_true]
    rfl
  | false =>
    have h0 : prE p r = 0 := by simpa using he
    have hg := graph_g s hc e1 e2 h0
    obtain ⟨p1, p2, r1, r2⟩ := prE0 h0
    obtain ⟨P1, P2⟩ := partsOf_ok q ⟨p1, p2⟩
    have n1 : 1 ≤ inp.length := by omega
    have n2 : inp.length ≤ 4 := by omega
    obtain ⟨o1, o2⟩ := opsG_ok inp.length (partsOf q p) ⟨n1, n2⟩ ⟨P1, P2⟩ q.2.2.2.2.2.2.2.2.1 q.2.2.2.1 (q.2.2.2.2.2.2.2.2.2.1 == 2)
    obtain ⟨c1, c2⟩ := chG_ok inp.length (partsOf q p) ⟨n1, n2⟩ ⟨P1, P2⟩ q.2.2.2.2.2.2.2.2.1 (q.2.2.2.2.2.2.2.2.2.1 == 2) r
    have hb := b35 q hi e2.symm n1 n2 (opsG inp.length (partsOf q p) q.2.2.2.2.2.2.2.2.1 q.2.2.2.1 (q.2.2.2.2.2.2.2.2.2.1 == 2)) (chG inp.length (partsOf q p) q.2.2.2.2.2.2.2.2.1 (q.2.2.2.2.2.2.2.2.2.1 == 2) r) (by omega) (by omega) o2 (fun c hc => by rw [c2 c hc]; exact ⟨r1, r2⟩) (opsG inp.length (partsOf q p) q.2.2.2.2.2.2.2.2.1 q.2.2.2.1 (q.2.2.2.2.2.2.2.2.2.1 == 2)) 0 k rfl (by omega) (by omega)
    rw [hJ, List.take_zero, List.map_nil, show ((0 : Nat) : Int) = 0 from rfl] at hb
    simp only [build_Build_c9, hp', bne_s, cond_false, hg, Int.ofNat_eq_natCast, cloned_ok (show q.2.1.length ≤ 1000000 by omega) (show 40 ≤ 1000 by omega), cloned_ok (show q.2.2.1.length ≤ 1000000 by omega) (show 8 ≤ 1000 by omega), cloned_ok (show q.2.2.2.2.1.length ≤ 1000000 by omega) (show 40 ≤ 1000 by omega), hb]
    rw [h0]
    rfl
theorem build_eq (q : Qr) (inp : Inp) (p r : Int) (hl : inp.length ≤ 1000) (h1 : q.2.1.length ≤ 1000) (h2 : q.2.2.1.length ≤ 1000) (h3 : q.2.2.2.2.1.length ≤ 1000) : build_Build q inp p r = some (bif askE q inp p r != 0 then zM else mOf q inp p r, askE q inp p r, ()) := by
  obtain ⟨n, hn⟩ := fuel_s
  obtain ⟨m, hm, hb⟩ := b11 q inp p r hl inp 0 fuel rfl (by omega) (by rw [hn]; omega)
  rw [show ((0 : Nat) : Int) = 0 from rfl] at hb
  have h9 := fun a b c => b9 (q := q) (inp := inp) (p := p) (r := r) a b c h1 h2 h3 hm
  unfold build_Build build_Build_c
  generalize build_Build_i9 m = J9' at hb h9
  generalize build_Build_i11 fuel = J11 at hb ⊢
  generalize build_Build_i9 fuel = J9
  generalize build_Build_i33 fuel = J33
  generalize build_Build_i35 fuel = J35
  generalize build_Build_i41 fuel = J41
  generalize build_Build_i46 fuel = J46
  simp only [checks_eq, Int.ofNat_eq_natCast, hb]
  unfold askE
  cases hc : ((chkQ q).2.1 != 0) with
  | true =>
    simp only [cond_true, hc]
    rfl
  | false =>
    simp only [cond_false]
    cases hd : ((inp.length : Int) != (q.2.2.1.length : Int)) with
    | true => rfl
    | false =>
      have e2 : inp.length = q.2.2.1.length := by
        have : (inp.length : Int) = (q.2.2.1.length : Int) := by simpa using hd
        omega
      simp only [cond_false]
      cases hf : (firstE inp != 0) with
      | true =>
        simp only [cond_true, hf]
      | false =>
        simp only [cond_false]
        exact h9 (by simpa using hc) e2 (firstE_ok (by simpa using hf))
theorem great_loop (inp : Inp) (hl : inp.length ≤ 1000) : ∀ (rest : Inp) (i n : Nat), inp.drop i = rest → i ≤ inp.length → rest.length + 1 ≤ n → ∃ b, ref36_Great_i7 n inp (i : Int) = some (b, ())
  | [], i, n, h, hi, hn => by
    obtain ⟨m, rfl⟩ : ∃ m, n = m + 1 := ⟨n - 1, by simp at hn; omega⟩
    have := drop_end h hi
    refine ⟨false, ?_⟩
    simp only [ref36_Great_i7, ref36_Great_c7, Int.ofNat_eq_natCast, iG (show ¬ i < inp.length by omega), cond_false]
  | e :: rest, i, n, h, hi, hn => by
    obtain ⟨m, rfl⟩ : ∃ m, n = m + 1 := ⟨n - 1, by simp at hn; omega⟩
    obtain ⟨h1, h2, h3⟩ := drop_get h
    obtain ⟨b, ih⟩ := great_loop inp hl rest (i + 1) m h3 (by omega) (by simp at hn; omega)
    simp only [ref36_Great_i7, ref36_Great_c7, Int.ofNat_eq_natCast, iL h1, iN, cond_true, Int.toNat_natCast, h2, wS (show i < 1000000 by omega), ih]
    cases decide ((e.1.length : Int) > 70) with
    | true => exact ⟨true, rfl⟩
    | false => exact ⟨b, rfl⟩
theorem great_eq (q : Qr) (inp : Inp) : ∃ b, ref36_Great q inp = some (b, ()) ∧ (b = false → inp.length ≤ 6 ∧ q.2.1.length ≤ 70 ∧ q.2.2.1.length ≤ 10 ∧ q.2.2.2.2.1.length ≤ 70) := by
  by_cases h1 : (q.2.1.length : Int) > 70
  · refine ⟨true, ?_, fun h => by cases h⟩
    simp only [ref36_Great, ref36_Great_c, ref08_Great, Int.ofNat_eq_natCast, dT h1, cond_true]
  by_cases h2 : (q.2.2.2.2.1.length : Int) > 70
  · refine ⟨true, ?_, fun h => by cases h⟩
    simp only [ref36_Great, ref36_Great_c, ref08_Great, Int.ofNat_eq_natCast, dF h1, dT h2, cond_true, cond_false]
  by_cases h3 : (q.2.2.1.length : Int) > 10
  · refine ⟨true, ?_, fun h => by cases h⟩
    simp only [ref36_Great, ref36_Great_c, ref08_Great, Int.ofNat_eq_natCast, dF h1, dF h2, dT h3, cond_true, cond_false]
  by_cases h4 : (inp.length : Int) > 6
  · refine ⟨true, ?_, fun h => by cases h⟩
    simp only [ref36_Great, ref36_Great_c, ref08_Great, Int.ofNat_eq_natCast, dF h1, dF h2, dF h3, dT h4, cond_true, cond_false]
  obtain ⟨n, hn⟩ := fuel_s
  obtain ⟨b, hb⟩ := great_loop inp (by omega) inp 0 fuel rfl (by omega) (by rw [hn]; omega)
  rw [show ((0 : Nat) : Int) = 0 from rfl] at hb
  refine ⟨b, ?_, fun _ => ⟨by omega, by omega, by omega, by omega⟩⟩
  unfold ref36_Great ref36_Great_c
  generalize ref36_Great_i7 fuel = J7 at hb ⊢
  simp only [ref08_Great, Int.ofNat_eq_natCast, dF h1, dF h2, dF h3, dF h4, cond_false, hb]
theorem le0 {n : Nat} (h : n.ble 100000 = true) : n ≤ 100000 := Nat.le_of_ble_eq_true h
theorem task_small {inp : Inp} (hi : inpOk inp) (hl : inp.length ≤ 1000) (o : Op2) : smallT (taskOf inp.length inp o) := by
  have hg : (inp.getD o.2.1.toNat ([], ())).1.length ≤ 100000 := by
    rw [List.getD_eq_getElem?_getD]
    cases hx : inp[o.2.1.toNat]? with
    | none => simp
    | some e =>
      have := (lateE0 (hi e (List.mem_of_getElem? hx))).1
      simp only [Option.getD_some]
      omega
  unfold taskOf
  cases (o.1 == 1) with
  | true => exact ⟨le0 rfl, le0 rfl, le0 rfl, hg, le0 rfl, le0 rfl⟩
  | false =>
    cases (o.1 == 2) with
    | true => exact ⟨le0 rfl, le0 rfl, le0 rfl, le0 rfl, le0 rfl, le0 rfl⟩
    | false =>
      cases (o.1 == 3) with
      | true => exact ⟨le0 rfl, le0 rfl, le0 rfl, le0 rfl, le0 rfl, le0 rfl⟩
      | false =>
        cases (o.1 == 4) with
        | true => exact ⟨le0 rfl, by show (List.replicate inp.length (low, ())).length ≤ 100000; simp; omega, le0 rfl, le0 rfl, le0 rfl, le0 rfl⟩
        | false =>
          cases (o.1 == 5) with
          | true => exact ⟨le0 rfl, le0 rfl, le0 rfl, le0 rfl, le0 rfl, le0 rfl⟩
          | false =>
            cases (o.1 == 7) with
            | true => exact ⟨le0 rfl, le0 rfl, le0 rfl, le0 rfl, le0 rfl, le0 rfl⟩
            | false => exact ⟨le0 rfl, le0 rfl, le0 rfl, le0 rfl, le0 rfl, le0 rfl⟩
theorem same_zM : ref36_Same zM zM = some (true, ()) := mach36 (by decide) (by decide) (by decide) (by decide) (by decide) (by decide) (fun t h => by cases h) (by decide) (fun t h => by cases h)
theorem same_mOf {q : Qr} {inp : Inp} {p r : Int} (h : askE q inp p r = 0) (hl : inp.length ≤ 1000) (h1 : q.2.1.length ≤ 1000) (h2 : q.2.2.1.length ≤ 1000) (h3 : q.2.2.2.2.1.length ≤ 1000) : ref36_Same (mOf q inp p r) (mOf q inp p r) = some (true, ()) := by
  obtain ⟨e1, e2, hi, _, ⟨p1, p2, r1, r2⟩, n1, n2⟩ := askE0 h
  obtain ⟨P1, P2⟩ := partsOf_ok q ⟨p1, p2⟩
  obtain ⟨o1, o2⟩ := opsG_ok inp.length (partsOf q p) ⟨n1, n2⟩ ⟨P1, P2⟩ q.2.2.2.2.2.2.2.2.1 q.2.2.2.1 (q.2.2.2.2.2.2.2.2.2.1 == 2)
  obtain ⟨c1, c2⟩ := chG_ok inp.length (partsOf q p) ⟨n1, n2⟩ ⟨P1, P2⟩ q.2.2.2.2.2.2.2.2.1 (q.2.2.2.2.2.2.2.2.2.1 == 2) r
  refine mach36 (show q.2.1.length ≤ 100000 by omega) (show q.2.2.1.length ≤ 100000 by omega) (show q.2.2.2.2.1.length ≤ 100000 by omega) (Nat.le_trans o1 (by omega)) (Nat.le_trans c1 (by omega)) ?_ ?_ ?_ ?_
  · show (List.map _ _).length ≤ _
    rw [List.length_map]
    exact Nat.le_trans o1 (by omega)
  · intro t ht
    obtain ⟨o, _, rfl⟩ := List.mem_map.1 ht
    exact task_small hi hl o
  · show (List.map _ _).length ≤ _
    rw [List.length_map]
    exact Nat.le_trans c1 (by omega)
  · intro t ht
    obtain ⟨o, _, rfl⟩ := List.mem_map.1 ht
    exact Nat.zero_le _
theorem bm_true (q : Qr) (inp : Inp) (p r : Int) : law36_BuildMakes q inp p r = some (true, ()) := by
  obtain ⟨b, hg, hb⟩ := great_eq q inp
  unfold law36_BuildMakes
  simp only [hg]
  cases b with
  | true => rfl
  | false =>
    obtain ⟨l1, l2, l3, l4⟩ := hb rfl
    simp only [cond_false, build_eq q inp p r (by omega) (by omega) (by omega) (by omega), rbuild_eq q inp p r (by omega) (by omega) (by omega) (by omega)]
    have hs : ref36_Same (bif askE q inp p r != 0 then zM else mOf q inp p r) (bif askE q inp p r != 0 then zM else mOf q inp p r) = some (true, ()) := by
      cases he : (askE q inp p r != 0) with
      | true => exact same_zM
      | false => exact same_mOf (by simpa using he) (by omega) (by omega) (by omega) (by omega)
    simp only [hs, cond_true, beq_self_eq_true]
end Tg
