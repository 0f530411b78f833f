import Derived.Test.YtodnlpaialbceaaGreatDoorlgA
import Derived.Test.YtodnlpaialbceaaGreatDoorQS
/- The reference's check of a graph, told plainly. -/
set_option linter.unusedVariables false
set_option linter.unusedSimpArgs false
namespace Tg
open Go
open Go.Abs (fuel bigOk)
theorem iN' {x : Int} (h : 0 ≤ x) : decide ((0 : Int) ≤ x) = true := by simpa using h
theorem many_eq (k i o : Int) : ref24_Many k i o = some (manyB k i o, ()) := by
  have e : ∀ a b c : Int, ref24_between a b c = some (decide (b ≤ a) && decide (a ≤ c), ()) := fun a b c => by
    unfold ref24_between
    rw [show decide (a ≥ b) = decide (b ≤ a) from rfl]
    cases decide (b ≤ a) <;> rfl
  have q : ∀ a b : Int, (decide (b ≤ a) && decide (a ≤ b)) = (a == b) := fun a b => by
    rw [Bool.eq_iff_iff]
    simp
    omega
  unfold ref24_Many manyB
  simp only [e]
  by_cases h1 : k = 1
  · subst h1
    simp only [bnd, if_true, q]
    cases i == (0 : Int) <;> simp
  by_cases h2 : k = 2
  · subst h2
    rw [show bnd 2 = (1, 1, 1, 2) from rfl]
    simp only [q]
    cases i == (1 : Int) <;> simp
  by_cases h3 : k = 3
  · subst h3
    rw [show bnd 3 = (1, 1, 1, 3) from rfl]
    simp only [q]
    cases i == (1 : Int) <;> simp
  by_cases h4 : k = 4
  · subst h4
    rw [show bnd 4 = (1, 4, 1, 1) from rfl]
    simp only [q]
    cases (decide ((1 : Int) ≤ i) && decide (i ≤ 4)) <;> simp
  by_cases h5 : k = 5
  · subst h5
    rw [show bnd 5 = (2, 2, 1, 1) from rfl]
    simp only [q]
    cases i == (2 : Int) <;> simp
  by_cases h6 : k = 6
  · subst h6
    rw [show bnd 6 = (1, 3, 0, 0) from rfl]
    simp only [q]
    cases (decide ((1 : Int) ≤ i) && decide (i ≤ 3)) <;> simp
  by_cases h7 : k = 7
  · subst h7
    rw [show bnd 7 = (1, 4, 0, 0) from rfl]
    simp only [q]
    cases (decide ((1 : Int) ≤ i) && decide (i ≤ 4)) <;> simp
  have hk : (decide (1 ≤ k) && decide (k ≤ 7)) = false := by
    rw [← Bool.not_eq_true]
    simp
    omega
  rw [hk, Bool.false_and]
  rw [show (k == 1) = false by simpa using h1, show (k == 2) = false by simpa using h2, show (k == 3) = false by simpa using h3, show (k == 4) = false by simpa using h4, show (k == 5) = false by simpa using h5, show (k == 6) = false by simpa using h6, show (k == 7) = false by simpa using h7]
  rfl
theorem cnt_cons (b : Bool) (j : Int) (c : Cn) (l : List Cn) : (cnt b j (c :: l) : Int) = (bif cond b c.2.2.1 c.1 == j then 1 else 0) + cnt b j l := by
  unfold cnt
  rw [List.filter_cons]
  by_cases h : cond b c.2.2.1 c.1 = j
  · rw [if_pos (by simpa using h), show (cond b c.2.2.1 c.1 == j) = true by simpa using h]
    simp
    omega
  · rw [if_neg (by simpa using h), show (cond b c.2.2.1 c.1 == j) = false by simpa using h]
    simp
theorem inp4 (chs : List Cn) (hl : chs.length ≤ 1000000000) (x : Int) : ∀ (rest : List Cn) (i n a : Nat), chs.drop i = rest → i ≤ chs.length → rest.length + 1 ≤ n → a ≤ i → ref24_Inputs_i4 n x chs (a : Int) (i : Int) = some ((a : Int) + cnt true x rest, ())
  | [], i, n, a, h, hi, hn, ha => by
    obtain ⟨m, rfl⟩ : ∃ m, n = m + 1 := ⟨n - 1, by simp at hn; omega⟩
    have := drop_end h hi
    rw [ref24_Inputs_i4]
    unfold ref24_Inputs_c4
    simp only [Int.ofNat_eq_natCast, iG (show ¬ i < chs.length by omega), cond_false, cnt, List.filter_nil, List.length_nil, Int.natCast_zero, Int.add_zero]
  | c :: rest, i, n, a, h, hi, hn, ha => by
    obtain ⟨m, rfl⟩ : ∃ m, n = m + 1 := ⟨n - 1, by simp at hn; omega⟩
    obtain ⟨h1, h2, h3⟩ := drop_get h
    rw [ref24_Inputs_i4]
    unfold ref24_Inputs_c4
    simp only [Int.ofNat_eq_natCast, iL h1, cond_true, iN, Int.toNat_natCast, h2, wS (show i < 1000000000000 by omega), wS (show a < 1000000000000 by omega)]
    rw [inp4 chs hl x rest (i + 1) m (a + 1) h3 (by omega) (by simp at hn; omega) (by omega), inp4 chs hl x rest (i + 1) m a h3 (by omega) (by simp at hn; omega) (by omega), cnt_cons]
    simp only [cond_true]
    cases c.2.2.1 == x <;> simp <;> omega
theorem out4 (chs : List Cn) (hl : chs.length ≤ 1000000000) (x : Int) : ∀ (rest : List Cn) (i n a : Nat), chs.drop i = rest → i ≤ chs.length → rest.length + 1 ≤ n → a ≤ i → ref24_Outputs_i4 n x chs (a : Int) (i : Int) = some ((a : Int) + cnt false x rest, ())
  | [], i, n, a, h, hi, hn, ha => by
    obtain ⟨m, rfl⟩ : ∃ m, n = m + 1 := ⟨n - 1, by simp at hn; omega⟩
    have := drop_end h hi
    rw [ref24_Outputs_i4]
    unfold ref24_Outputs_c4
    simp only [Int.ofNat_eq_natCast, iG (show ¬ i < chs.length by omega), cond_false, cnt, List.filter_nil, List.length_nil, Int.natCast_zero, Int.add_zero]
  | c :: rest, i, n, a, h, hi, hn, ha => by
    obtain ⟨m, rfl⟩ : ∃ m, n = m + 1 := ⟨n - 1, by simp at hn; omega⟩
    obtain ⟨h1, h2, h3⟩ := drop_get h
    rw [ref24_Outputs_i4]
    unfold ref24_Outputs_c4
    simp only [Int.ofNat_eq_natCast, iL h1, cond_true, iN, Int.toNat_natCast, h2, wS (show i < 1000000000000 by omega), wS (show a < 1000000000000 by omega)]
    rw [out4 chs hl x rest (i + 1) m (a + 1) h3 (by omega) (by simp at hn; omega) (by omega), out4 chs hl x rest (i + 1) m a h3 (by omega) (by simp at hn; omega) (by omega), cnt_cons]
    simp only [cond_false]
    cases c.1 == x <;> simp <;> omega
theorem inputs_eq (ops : List Op) (chs : List Cn) (hl : chs.length ≤ 1000000000) (x : Int) : ref24_Inputs (ops, chs, ()) x = some ((cnt true x chs : Int), ()) := by
  obtain ⟨n, hn⟩ := fuel_s
  have := inp4 chs hl x chs 0 fuel 0 rfl (by omega) (by rw [hn]; omega) (by omega)
  simpa [ref24_Inputs, ref24_Inputs_c] using this
theorem outputs_eq (ops : List Op) (chs : List Cn) (hl : chs.length ≤ 1000000000) (x : Int) : ref24_Outputs (ops, chs, ()) x = some ((cnt false x chs : Int), ()) := by
  obtain ⟨n, hn⟩ := fuel_s
  have := out4 chs hl x chs 0 fuel 0 rfl (by omega) (by rw [hn]; omega) (by omega)
  simpa [ref24_Outputs, ref24_Outputs_c] using this
theorem apart4 (chs : List Cn) (c : Cn) (j : Nat) (hj : j ≤ chs.length) (hl : chs.length ≤ 1000000000) : ∀ (rest : List Cn) (i n : Nat), (chs.take j).drop i = rest → i ≤ j → rest.length + 1 ≤ n → ref24_apart_i4 n (j : Int) chs c.1 c.2.1 c.2.2.1 c.2.2.2.1 (i : Int) = some (rest.all fun d => apart d c, ())
  | [], i, n, h, hi, hn => by
    obtain ⟨m, rfl⟩ : ∃ m, n = m + 1 := ⟨n - 1, by simp at hn; omega⟩
    have hlt : (chs.take j).length = j := by rw [List.length_take]; omega
    have := drop_end h (by omega)
    rw [ref24_apart_i4]
    unfold ref24_apart_c4
    simp only [iG (show ¬ i < j by omega), cond_false, List.all_nil]
  | d :: rest, i, n, h, hi, hn => by
    obtain ⟨m, rfl⟩ : ∃ m, n = m + 1 := ⟨n - 1, by simp at hn; omega⟩
    have hlt : (chs.take j).length = j := by rw [List.length_take]; omega
    obtain ⟨h1, h2, h3⟩ := drop_get h
    rw [List.getElem?_take_of_lt (by omega)] at h2
    rw [ref24_apart_i4]
    unfold ref24_apart_c4
    simp only [iL (show i < j by omega), cond_true, iN, Int.toNat_natCast, h2, wS (show i < 1000000000000 by omega), List.all_cons]
    rw [apart4 chs c j hj hl rest (i + 1) m h3 (by omega) (by simp at hn; omega)]
    unfold apart inc
    have e1 : decide (d.1 > c.1) = decide (c.1 < d.1) := rfl
    have e2 : decide (d.2.1 ≥ c.2.1) = !decide (d.2.1 < c.2.1) := by rw [Bool.eq_iff_iff]; simp
    have e3 : (d.1 == c.1) = decide (d.1 = c.1) := rfl
    have e4 : (d.2.2.1 == c.2.2.1) = decide (d.2.2.1 = c.2.2.1) := rfl
    have e5 : (d.2.2.2.1 == c.2.2.2.1) = decide (d.2.2.2.1 = c.2.2.2.1) := rfl
    rw [e1, e2, e3, e4, e5]
    rcases Int.lt_trichotomy d.1 c.1 with g | g | g
    · rw [dT g, dF (show ¬ c.1 < d.1 by omega), dF (show ¬ d.1 = c.1 by omega)]
      cases decide (d.2.2.1 = c.2.2.1) <;> cases decide (d.2.2.2.1 = c.2.2.2.1) <;> simp
    · rw [dF (show ¬ d.1 < c.1 by omega), dF (show ¬ c.1 < d.1 by omega), dT g]
      cases decide (d.2.1 < c.2.1) <;> cases decide (d.2.2.1 = c.2.2.1) <;> cases decide (d.2.2.2.1 = c.2.2.2.1) <;> simp
    · rw [dF (show ¬ d.1 < c.1 by omega), dT g, dF (show ¬ d.1 = c.1 by omega)]
      simp
theorem apart_eq (ops : List Op) (chs : List Cn) (hl : chs.length ≤ 1000000000) (j : Nat) (c : Cn) (hc : chs[j]? = some c) : ref24_apart (ops, chs, ()) (j : Int) = some ((chs.take j).all fun d => apart d c, ()) := by
  obtain ⟨n, hn⟩ := fuel_s
  have hj := (List.getElem?_eq_some_iff.1 hc).1
  have := apart4 chs c j (by omega) hl (chs.take j) 0 fuel rfl (by omega) (by rw [hn, List.length_take]; omega)
  simp only [ref24_apart, ref24_apart_c, iN, cond_true, Int.toNat_natCast, hc]
  exact this
def bu (R : List Bool) : List (Bool × Unit) := R.map fun b => (b, ())
theorem bu_len (R : List Bool) : (bu R).length = R.length := by simp [bu]
theorem bu_get {R : List Bool} {j : Nat} (h : j < R.length) : (bu R)[j]? = some ((R[j]?).getD false, ()) := by
  unfold bu
  rw [List.getElem?_map, List.getElem?_eq_getElem h]
  rfl
theorem bu_set (R : List Bool) (j : Nat) (b : Bool) (u : Unit) : (bu R).set j (b, u) = bu (R.set j b) := by
  unfold bu
  rw [List.map_set]
theorem len_rlx (f : Int) (R : List Bool) (c : Cn) : (rlx f R c).length = R.length := by
  unfold rlx
  cases c.1 == f || (R[c.1.toNat]?).getD false <;> simp
theorem rnd_cons (f : Int) (c : Cn) (l : List Cn) (R : List Bool) : rnd f (c :: l) R = rnd f l (rlx f R c) := rfl
theorem len_rnd (f : Int) : ∀ (chs : List Cn) (R : List Bool), (rnd f chs R).length = R.length
  | [], _ => rfl
  | c :: l, R => by rw [rnd_cons, len_rnd f l, len_rlx]
theorem reach9 (f : Int) (ops : List Op) (chs : List Cn) (hl : chs.length ≤ 1000000000) (hok : ∀ c ∈ chs, okC ops.length c = true) (r m : Nat) (hr : r < 1000000000) : ∀ (rest : List Cn) (i n : Nat) (R : List Bool), chs.drop i = rest → i ≤ chs.length → n = m + rest.length + 1 → R.length = ops.length → ref24_Reaches_i9 n f ops chs (bu R) (r : Int) (i : Int) = ref24_Reaches_i4 m f ops chs (bu (rnd f rest R)) ((r + 1 : Nat) : Int)
  | [], i, n, R, h, hi, hn, hR => by
    subst hn
    have := drop_end h hi
    rw [ref24_Reaches_i9]
    unfold ref24_Reaches_c9
    simp only [Int.ofNat_eq_natCast, iG (show ¬ i < chs.length by omega), cond_false, wS (show r < 1000000000000 by omega)]
    rfl
  | c :: rest, i, n, R, h, hi, hn, hR => by
    subst hn
    obtain ⟨h1, h2, h3⟩ := drop_get h
    have hc := hok c (List.mem_of_getElem? h2)
    simp only [okC, Bool.and_eq_true, decide_eq_true_eq] at hc
    rw [show m + (c :: rest).length + 1 = (m + rest.length + 1) + 1 by simp; omega, ref24_Reaches_i9]
    unfold ref24_Reaches_c9
    simp only [Int.ofNat_eq_natCast, iL h1, cond_true, iN, Int.toNat_natCast, h2, wS (show i < 1000000000000 by omega), iN' (show 0 ≤ c.2.2.1 by omega), iN' (show 0 ≤ c.1 by omega), bu_len, dT (show c.2.2.1.toNat < R.length by omega), dT (show c.1.toNat < R.length by omega), bu_get (show c.2.2.1.toNat < R.length by omega), bu_get (show c.1.toNat < R.length by omega), bu_set]
    rw [reach9 f ops chs hl hok r m hr rest (i + 1) _ (R.set c.2.2.1.toNat true) h3 (by omega) rfl (by rw [List.length_set]; exact hR), reach9 f ops chs hl hok r m hr rest (i + 1) _ R h3 (by omega) rfl hR, rnd_cons]
    unfold rlx
    cases c.1 == f with
    | true => rfl
    | false => cases (R[c.1.toNat]?).getD false <;> rfl
theorem reach4 (f : Int) (ops : List Op) (chs : List Cn) (hl : chs.length ≤ 1000000000) (hok : ∀ c ∈ chs, okC ops.length c = true) (ho : ops.length ≤ 100000000) : ∀ (k r n : Nat) (R : List Bool), r + k = ops.length + 1 → k * (chs.length + 2) + 1 ≤ n → R.length = ops.length → ref24_Reaches_i4 n f ops chs (bu R) (r : Int) = some (bu (rnds f chs k R), ())
  | 0, r, n, R, hk, hn, hR => by
    obtain ⟨m, rfl⟩ : ∃ m, n = m + 1 := ⟨n - 1, by omega⟩
    rw [ref24_Reaches_i4]
    unfold ref24_Reaches_c4
    simp only [Int.ofNat_eq_natCast, dF (show ¬ (r : Int) ≤ (ops.length : Int) by omega), cond_false]
    rfl
  | k + 1, r, n, R, hk, hn, hR => by
    rw [Nat.succ_mul] at hn
    obtain ⟨m, rfl⟩ : ∃ m, n = (m + chs.length + 1) + 1 := ⟨n - chs.length - 2, by omega⟩
    rw [ref24_Reaches_i4]
    unfold ref24_Reaches_c4
    simp only [Int.ofNat_eq_natCast, dT (show (r : Int) ≤ (ops.length : Int) by omega), cond_true]
    have := reach9 f ops chs hl hok r m (by omega) chs 0 _ R rfl (by omega) rfl hR
    rw [show ((0 : Nat) : Int) = 0 from rfl] at this
    rw [this, reach4 f ops chs hl hok ho k (r + 1) m (rnd f chs R) (by omega) (by omega) (by rw [len_rnd]; exact hR)]
    rfl
theorem reaches_eq (f : Int) (ops : List Op) (chs : List Cn) (hl : chs.length ≤ 1000) (hok : ∀ c ∈ chs, okC ops.length c = true) (ho : ops.length ≤ 1000) : ref24_Reaches (ops, chs, ()) f = some (bu (rnds f chs (ops.length + 1) (List.replicate ops.length false)), ()) := by
  obtain ⟨n, hn⟩ := fuel_s
  have hm : (ops.length + 1) * (chs.length + 2) ≤ 1001 * 1002 := Nat.mul_le_mul (by omega) (by omega)
  have := reach4 f ops chs (by omega) hok (by omega) (ops.length + 1) 0 fuel (List.replicate ops.length false) (by omega) (by rw [hn]; omega) (by simp)
  simp only [ref24_Reaches, ref24_Reaches_c, Int.ofNat_eq_natCast, Int.toNat_natCast, Nat.le_refl, decide_true, Bool.true_and, dT (show 1 * ops.length ≤ 281474976710656 by omega), dT (show ops.length ≤ 9223372036854775807 by omega), cond_true]
  rw [← this]
  simp [bu]
end Tg

/- The reference's check of a graph is the plain one. -/
set_option linter.unusedVariables false
set_option linter.unusedSimpArgs false
namespace Tg
open Go
open Go.Abs (fuel bigOk)
theorem okC_steps {α : Type} (n : Nat) (c : Cn) (x y : α) : (bif decide (c.1 < (0 : Int)) then x else bif decide (c.2.2.1 < (0 : Int)) then x else bif decide (c.1 ≥ Int.ofNat n) then x else bif decide (c.2.2.1 ≥ Int.ofNat n) then x else bif decide (c.2.2.2.2.1 < (1 : Int)) then x else bif decide (c.2.2.2.2.1 > (8 : Int)) then x else y) = bif okC n c then y else x := by
  have e : okC n c = (!decide (c.1 < (0 : Int)) && (!decide (c.2.2.1 < (0 : Int)) && (!decide (c.1 ≥ Int.ofNat n) && (!decide (c.2.2.1 ≥ Int.ofNat n) && (!decide (c.2.2.2.2.1 < (1 : Int)) && !decide (c.2.2.2.2.1 > (8 : Int))))))) := by
    rw [Bool.eq_iff_iff]
    simp only [okC, Bool.and_eq_true, decide_eq_true_eq, Bool.not_eq_true', decide_eq_false_iff_not, Int.ofNat_eq_natCast]
    omega
  rw [e]
  cases decide (c.1 < (0 : Int)) <;> cases decide (c.2.2.1 < (0 : Int)) <;> cases decide (c.1 ≥ Int.ofNat n) <;> cases decide (c.2.2.1 ≥ Int.ofNat n) <;> cases decide (c.2.2.2.2.1 < (1 : Int)) <;> cases decide (c.2.2.2.2.1 > (8 : Int)) <;> rfl
theorem num_steps {α : Type} (b : Bool) (chs : List Cn) (c : Cn) (x y : α) : (bif !b then x else bif decide (c.2.1 < (0 : Int)) then x else bif decide (c.2.1 ≥ (cnt false c.1 chs : Int)) then x else bif decide (c.2.2.2.1 < (0 : Int)) then x else bif decide (c.2.2.2.1 ≥ (cnt true c.2.2.1 chs : Int)) then x else y) = bif b && numsOk chs c then y else x := by
  have e : numsOk chs c = (!decide (c.2.1 < (0 : Int)) && (!decide (c.2.1 ≥ (cnt false c.1 chs : Int)) && (!decide (c.2.2.2.1 < (0 : Int)) && !decide (c.2.2.2.1 ≥ (cnt true c.2.2.1 chs : Int))))) := by
    rw [Bool.eq_iff_iff]
    simp only [numsOk, Bool.and_eq_true, decide_eq_true_eq, Bool.not_eq_true', decide_eq_false_iff_not]
    omega
  rw [e]
  cases b <;> cases decide (c.2.1 < (0 : Int)) <;> cases decide (c.2.1 ≥ (cnt false c.1 chs : Int)) <;> cases decide (c.2.2.2.1 < (0 : Int)) <;> cases decide (c.2.2.2.1 ≥ (cnt true c.2.2.1 chs : Int)) <;> rfl
theorem len_rnds (f : Int) (chs : List Cn) : ∀ (k : Nat) (R : List Bool), (rnds f chs k R).length = R.length
  | 0, _ => rfl
  | k + 1, R => by rw [rnds, len_rnds f chs k, len_rnd]
theorem val21 (ops : List Op) (chs : List Cn) (ho : ops.length ≤ 20) (hl : chs.length ≤ 100) (hok : ∀ c ∈ chs, okC ops.length c = true) : ∀ (rest : List Op) (i n : Nat), ops.drop i = rest → i ≤ ops.length → rest.length + 1 ≤ n → ref24_Valid_i21 n ops chs (i : Int) = some (v3 ops.length chs i rest, ())
  | [], i, n, h, hi, hn => by
    obtain ⟨m, rfl⟩ : ∃ m, n = m + 1 := ⟨n - 1, by simp at hn; omega⟩
    have := drop_end h hi
    rw [ref24_Valid_i21]
    unfold ref24_Valid_c21
    simp only [Int.ofNat_eq_natCast, iG (show ¬ i < ops.length by omega), cond_false, v3]
  | o :: rest, i, n, h, hi, hn => by
    obtain ⟨m, rfl⟩ : ∃ m, n = m + 1 := ⟨n - 1, by simp at hn; omega⟩
    obtain ⟨h1, h2, h3⟩ := drop_get h
    have hR : i < (rnds (i : Int) chs (ops.length + 1) (List.replicate ops.length false)).length := by rw [len_rnds]; simpa using h1
    rw [ref24_Valid_i21]
    unfold ref24_Valid_c21
    simp only [Int.ofNat_eq_natCast, iL h1, cond_true, iN, Int.toNat_natCast, h2, wS (show i < 1000000000000 by omega), inputs_eq ops chs (by omega), outputs_eq ops chs (by omega), many_eq, reaches_eq (i : Int) ops chs (by omega) hok (by omega), bu_get hR]
    rw [val21 ops chs ho hl hok rest (i + 1) m h3 (by omega) (by simp at hn; omega), v3]
    generalize manyB o.1 (cnt true (i : Int) chs) (cnt false (i : Int) chs) = b
    generalize ((rnds (i : Int) chs (ops.length + 1) (List.replicate ops.length false))[i]?).getD false = d
    have e1 : decide (o.2.1 < (0 : Int)) = !decide (0 ≤ o.2.1) := by rw [Bool.eq_iff_iff]; simp
    have e2 : decide (o.2.1 > (3 : Int)) = !decide (o.2.1 ≤ 3) := by rw [Bool.eq_iff_iff]; simp
    rw [e1, e2]
    cases decide (0 ≤ o.2.1) <;> cases decide (o.2.1 ≤ 3) <;> cases b <;> cases d <;> rfl
theorem val12 (ops : List Op) (chs : List Cn) (ho : ops.length ≤ 20) (hl : chs.length ≤ 100) (hok : ∀ c ∈ chs, okC ops.length c = true) : ∀ (rest : List Cn) (i n : Nat), chs.drop i = rest → i ≤ chs.length → rest.length + ops.length + 3 ≤ n → ref24_Valid_i12 n ops chs (i : Int) = some (v2 chs (chs.take i) rest && v3 ops.length chs 0 ops, ())
  | [], i, n, h, hi, hn => by
    obtain ⟨m, rfl⟩ : ∃ m, n = m + 1 + 1 := ⟨n - 2, by simp at hn; omega⟩
    have := drop_end h hi
    rw [ref24_Valid_i12]
    unfold ref24_Valid_c12
    simp only [Int.ofNat_eq_natCast, iG (show ¬ i < chs.length by omega), cond_false, v2, Bool.true_and]
    rw [ref24_Valid_i10]
    unfold ref24_Valid_c10
    exact val21 ops chs ho hl hok ops 0 m rfl (by omega) (by simp at hn; omega)
  | c :: rest, i, n, h, hi, hn => by
    obtain ⟨m, rfl⟩ : ∃ m, n = m + 1 := ⟨n - 1, by simp at hn; omega⟩
    obtain ⟨h1, h2, h3⟩ := drop_get h
    rw [ref24_Valid_i12]
    unfold ref24_Valid_c12
    simp only [Int.ofNat_eq_natCast, iL h1, cond_true, iN, Int.toNat_natCast, h2, wS (show i < 1000000000000 by omega), apart_eq ops chs (by omega) i c h2, inputs_eq ops chs (by omega), outputs_eq ops chs (by omega)]
    rw [num_steps, val12 ops chs ho hl hok rest (i + 1) m h3 (by omega) (by simp at hn; omega), v2, List.take_add_one, h2]
    simp only [Option.toList_some]
    cases (chs.take i).all (fun d => apart d c) <;> cases numsOk chs c <;> rfl
theorem val3 (ops : List Op) (chs : List Cn) (ho : ops.length ≤ 20) (hl : chs.length ≤ 100) : ∀ (rest : List Cn) (i n : Nat), chs.drop i = rest → i ≤ chs.length → (∀ c ∈ chs.take i, okC ops.length c = true) → rest.length + chs.length + ops.length + 5 ≤ n → ref24_Valid_i3 n ops chs (i : Int) = some (rest.all (okC ops.length) && (v2 chs [] chs && v3 ops.length chs 0 ops), ())
  | [], i, n, h, hi, hok, hn => by
    obtain ⟨m, rfl⟩ : ∃ m, n = m + 1 + 1 := ⟨n - 2, by simp at hn; omega⟩
    have := drop_end h hi
    subst this
    rw [List.take_length] at hok
    rw [ref24_Valid_i3]
    unfold ref24_Valid_c3
    simp only [Int.ofNat_eq_natCast, iG (show ¬ chs.length < chs.length by omega), cond_false, List.all_nil, Bool.true_and]
    rw [ref24_Valid_i1]
    unfold ref24_Valid_c1
    exact val12 ops chs ho hl hok chs 0 m rfl (by omega) (by simp at hn; omega)
  | c :: rest, i, n, h, hi, hok, hn => by
    obtain ⟨m, rfl⟩ : ∃ m, n = m + 1 := ⟨n - 1, by simp at hn; omega⟩
    obtain ⟨h1, h2, h3⟩ := drop_get h
    rw [ref24_Valid_i3]
    unfold ref24_Valid_c3
    simp only [iL h1, cond_true, iN, Int.toNat_natCast, h2, wS (show i < 1000000000000 by omega), okC_steps, show Int.ofNat chs.length = (chs.length : Int) from rfl]
    rw [List.all_cons]
    cases hc : okC ops.length c with
    | false => rfl
    | true =>
      rw [cond_true, val3 ops chs ho hl rest (i + 1) m h3 (by omega) (fun d hd => by
        rw [List.take_add_one, h2] at hd
        rcases List.mem_append.1 hd with hd | hd
        · exact hok d hd
        · simp at hd; subst hd; exact hc) (by simp at hn; omega)]
      rfl
theorem valid_eq (x : Gr) (ho : x.1.length ≤ 20) (hl : x.2.1.length ≤ 100) : ref24_Valid x = some (gOkB x, ()) := by
  obtain ⟨n, hn⟩ := fuel_s
  have := val3 x.1 x.2.1 ho hl x.2.1 0 fuel rfl (by omega) (by simp) (by rw [hn]; omega)
  exact this
theorem rgchk_eq (x : Gr) : ref24_Check x = some (gChk x, ()) := by
  unfold ref24_Check gChk
  have e1 : decide (Int.ofNat x.1.length > (20 : Int)) = decide (20 < x.1.length) := by rw [Bool.eq_iff_iff]; simp; omega
  have e2 : decide (Int.ofNat x.2.1.length > (100 : Int)) = decide (100 < x.2.1.length) := by rw [Bool.eq_iff_iff]; simp; omega
  rw [e1, e2]
  by_cases h1 : 20 < x.1.length
  · simp [h1]
  by_cases h2 : 100 < x.2.1.length
  · simp [h1, h2]
  rw [valid_eq x (by omega) (by omega)]
  cases gOkB x <;> simp [h1, h2]
end Tg
