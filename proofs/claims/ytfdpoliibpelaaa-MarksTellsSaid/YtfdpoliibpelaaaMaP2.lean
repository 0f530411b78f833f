/- Marks: the laws Order and Ends, as plain functions. -/
import Derived.Test.YtfdpoliibpelaaaMaP
set_option linter.unusedVariables false
set_option linter.unusedSimpArgs false
namespace Tm
open Go.Abs (fuel bigOk cloned tmm)

theorem tmax (a b : Int) : tmm true a b = max a b := by
  unfold tmm
  simp only [if_true]
  split <;> omega
theorem tmin (a b : Int) : tmm false a b = min a b := by
  unfold tmm
  simp only [Bool.false_eq_true, if_false]
  split <;> omega

theorem least_le (a : Int) (l : L) : least a l ≤ a := by
  unfold least
  induction l generalizing a with
  | nil => simp
  | cons e l ih =>
    simp only [List.foldl_cons]
    have := ih (tmm false a e.1)
    rw [tmin] at this ⊢
    omega
theorem least_mem (a : Int) (l : L) : ∀ e ∈ l, least a l ≤ e.1 := by
  unfold least
  induction l generalizing a with
  | nil => simp
  | cons e l ih =>
    intro x hx
    simp only [List.foldl_cons]
    rcases List.mem_cons.1 hx with rfl | hx
    · have := least_le (tmm false a x.1) l
      unfold least at this
      rw [tmin] at this ⊢
      omega
    · exact ih _ x hx
theorem least_is (a : Int) (l : L) : least a l = a ∨ ∃ e ∈ l, least a l = e.1 := by
  unfold least
  induction l generalizing a with
  | nil => simp
  | cons e l ih =>
    simp only [List.foldl_cons]
    rcases ih (tmm false a e.1) with h | ⟨x, hx, h⟩
    · rw [h, tmin]
      rcases Int.le_total a e.1 with h1 | h1
      · exact .inl (by omega)
      · exact .inr ⟨e, by simp, by omega⟩
    · exact .inr ⟨x, by simp [hx], h⟩
theorem lst_le {l : L} : ∀ e ∈ l, lst l ≤ e.1 := by
  cases l with
  | nil => simp
  | cons e l =>
    intro x hx
    rcases List.mem_cons.1 hx with rfl | hx
    · exact least_le _ _
    · exact least_mem _ _ x hx
theorem lst_is {l : L} (h : 1 ≤ l.length) : ∃ e ∈ l, lst l = e.1 := by
  cases l with
  | nil => simp at h
  | cons e l =>
    rcases least_is e.1 l with h | ⟨x, hx, h⟩
    · exact ⟨e, by simp, h⟩
    · exact ⟨x, by simp [hx], h⟩

theorem okm_range {t : Int} (h : okm t = true) : low < t ∧ t ≤ 9223372036854775807 := by
  unfold okm at h
  unfold low
  by_cases h1 : t ≥ -1099511627776
  · by_cases h2 : t ≤ 1099511627776
    · omega
    · simp [h1, h2] at h
      omega
  · simp [h1] at h
    omega
theorem ok1_range {e : Int × Unit} (h : ok1 e = true) : low ≤ e.1 ∧ e.1 ≤ 9223372036854775807 := by
  unfold ok1 at h
  rcases Bool.or_eq_true _ _ ▸ h with h | h
  · have : e.1 = low := by simpa using h
    rw [this]
    unfold low
    omega
  · have := okm_range h
    omega

theorem raised_get (l : L) (i : Nat) (t : Int) (k : Nat) (hk : k < l.length) : (raised l i t)[k]'(by rw [raised_len]; exact hk) = if i = k then (max l[k].1 t, ()) else l[k] := by
  unfold raised
  rw [List.getElem_set]
  split
  · rename_i h
    subst h
    rw [tmax]
    simp [List.getD_eq_getElem?_getD, List.getElem?_eq_getElem hk]
  · rfl

theorem raised_ok {l : L} (hl : chk l = true) (i : Nat) (t : Int) (ht : okm t = true) : chk (raised l i t) = true := by
  obtain ⟨h1, h2, h3⟩ := chk_len hl
  refine chk_of (by rw [raised_len]; exact h1) (by rw [raised_len]; exact h2) fun e he => ?_
  obtain ⟨k, hk, rfl⟩ := List.getElem_of_mem he
  rw [raised_len] at hk
  rw [raised_get l i t k hk]
  split
  · have h4 := h3 _ (List.getElem_mem hk)
    rcases Int.le_total l[k].1 t with h | h
    · have : max l[k].1 t = t := by omega
      rw [this]
      unfold ok1
      simp [ht]
    · have : max l[k].1 t = l[k].1 := by omega
      rw [this]
      exact h4
  · exact h3 _ (List.getElem_mem hk)

theorem raise_ok {l : L} (hl : chk l = true) {a : Int} {t : Int} (h : (raise l a t).2.2.1 = 0) : ∃ i : Nat, a = i ∧ i < l.length ∧ okm t = true ∧ raise l a t = (raised l i t, decide (lst (raised l i t) > lst l), 0, ()) := by
  unfold raise at h ⊢
  rw [if_neg (by simp [hl])] at h ⊢
  split at h
  · simp at h
  · rename_i hn
    rw [if_neg hn]
    exact ⟨a.toNat, by omega, by omega, by simpa using fun h => hn (.inr (.inr h)), rfl⟩

theorem raise_in {l : L} (hl : chk l = true) {i : Nat} (hi : i < l.length) {t : Int} (ht : okm t = true) : raise l i t = (raised l i t, decide (lst (raised l i t) > lst l), 0, ()) := by
  unfold raise
  rw [if_neg (by simp [hl]), if_neg (by simp [ht]; omega)]
  simp

theorem ends_loop (l : L) (hl : l.length ≤ 1000) (n0 : Int) (k : Nat) : ∀ (n i : Nat) (lo fi : Bool), i ≤ l.length → l.length - i + 1 < n →
    law31_MarksEnds_i9 n l true n0 0 lo fi (i : Int) = some (bif (n0 == -9223372036854775808) == (lo || (l.drop i).any fun e => e.1 == -9223372036854775808) then (n0 == 9223372036854775807) == (fi && (l.drop i).all fun e => e.1 == 9223372036854775807) else false, ())
  | 0, i, lo, fi, h, hn => by omega
  | n + 1, i, lo, fi, h, hn => by
    simp only [law31_MarksEnds_i9, law31_MarksEnds_c9, Int.ofNat_eq_natCast]
    by_cases hi : i < l.length
    · have e1 : decide ((i : Int) < (l.length : Int)) = true := by simpa using hi
      have e2 : decide ((0 : Int) ≤ (i : Int)) = true := by simp
      simp only [e1, e2, cond_true, Int.toNat_natCast, List.getElem?_eq_getElem hi, wrap1 (show i ≤ 1000000 by omega)]
      rw [List.drop_eq_getElem_cons hi, List.any_cons, List.all_cons]
      cases lo <;> cases fi <;> simp only [cond_true, cond_false, ends_loop l hl n0 k n (i + 1) _ _ hi (by omega), Bool.true_or, Bool.false_or, Bool.true_and, Bool.false_and]
    · have e1 : decide ((i : Int) < (l.length : Int)) = false := by simpa using hi
      have h1 : l.drop i = [] := List.drop_eq_nil_of_le (by omega)
      obtain ⟨m, rfl⟩ : ∃ m, n = m + 1 := ⟨n - 1, by omega⟩
      simp only [e1, cond_false, h1, law31_MarksEnds_i7, law31_MarksEnds_c7, cond_true, beq_self_eq_true, List.any_nil, List.all_nil, Bool.or_false, Bool.and_true]
      cases ((n0 == -9223372036854775808) == lo) <;> rfl

theorem ends_true (l : L) : law31_MarksEnds l = some (true, ()) := by
  unfold law31_MarksEnds law31_MarksEnds_c
  obtain ⟨c1, c2⟩ := checks l
  rw [c2]
  cases h : chk l with
  | false => rfl
  | true =>
    obtain ⟨h1, h2, h3⟩ := chk_len h
    obtain ⟨d1, d2⟩ := least_eq l
    simp only [cond_true, bne_self_eq_false, cond_false, d1, h]
    have := ends_loop l (by omega) (lst l) 0 fuel 0 false true (by omega) (by unfold fuel; omega)
    simp only [List.drop_zero, Bool.false_or, Bool.true_and] at this
    refine this.trans ?_
    obtain ⟨e0, he0, hm⟩ := lst_is h1
    have ha : (lst l == -9223372036854775808) = l.any fun e => e.1 == -9223372036854775808 := by
      rw [Bool.eq_iff_iff, List.any_eq_true]
      simp only [beq_iff_eq]
      constructor
      · intro h
        exact ⟨e0, he0, by omega⟩
      · rintro ⟨e, he, h⟩
        have := lst_le e he
        have := (ok1_range (h3 _ he0)).1
        unfold low at this
        omega
    have hb : (lst l == 9223372036854775807) = l.all fun e => e.1 == 9223372036854775807 := by
      rw [Bool.eq_iff_iff, List.all_eq_true]
      simp only [beq_iff_eq]
      constructor
      · intro h e he
        have := lst_le e he
        have := (ok1_range (h3 _ he)).2
        omega
      · intro h
        rw [hm]
        exact h e0 he0
    rw [ha, hb]
    simp

theorem raised_comm (l : L) (i k : Nat) (t u : Int) : raised (raised l i t) k u = raised (raised l k u) i t := by
  refine List.ext_getElem (by simp [raised_len]) fun j h1 h2 => ?_
  have hj : j < l.length := by simpa [raised_len] using h1
  rw [raised_get (raised l i t) k u j (by rw [raised_len]; exact hj), raised_get (raised l k u) i t j (by rw [raised_len]; exact hj), raised_get l i t j hj, raised_get l k u j hj]
  by_cases a : i = j <;> by_cases b : k = j <;> simp [a, b]
  omega

theorem order_loop (l : L) (hl : l.length ≤ 1000) (a b : Nat) (t u : Int) : ∀ (n i : Nat), i ≤ l.length → 2 * (l.length - i) < n → law31_MarksOrder_i17 n l (a : Int) (b : Int) t u true (raised (raised l a t) b u) (i : Int) = some (true, ())
  | 0, i, h, hn => by omega
  | n + 1, i, h, hn => by
    simp only [law31_MarksOrder_i17, law31_MarksOrder_c17, Int.ofNat_eq_natCast]
    by_cases hi : i < l.length
    · have e1 : decide ((i : Int) < (l.length : Int)) = true := by simpa using hi
      have e2 : decide ((0 : Int) ≤ (i : Int)) = true := by simp
      have hi2 : i < (raised (raised l a t) b u).length := by simpa [raised_len] using hi
      obtain ⟨m, rfl⟩ : ∃ m, n = m + 1 := ⟨n - 1, by omega⟩
      have ih := order_loop l hl a b t u m (i + 1) hi (by omega)
      have hx : (raised (raised l a t) b u)[i] = if b = i then (max (if a = i then max l[i].1 t else l[i].1) u, ()) else (if a = i then max l[i].1 t else l[i].1, ()) := by
        rw [raised_get _ _ _ _ (by rw [raised_len]; exact hi), raised_get l a t i hi]
        by_cases a' : a = i <;> by_cases b' : b = i <;> simp [a', b']
      simp only [e1, e2, cond_true, Int.toNat_natCast, List.getElem?_eq_getElem hi]
      have wr := wrap1 (show i ≤ 1000000 by omega)
      by_cases ha : a = i
      · subst ha
        have ea : ((a : Int) == (a : Int)) = true := by simp
        simp only [ea, cond_true, law31_MarksOrder_i22, law31_MarksOrder_c22, e2, Int.toNat_natCast, List.getElem?_eq_getElem hi2, hx, if_true, tmax, wr]
        by_cases hb : b = a
        · subst hb
          simp only [ea, cond_true, if_true, bne_self_eq_false, cond_false, ih]
        · have eb : ((a : Int) == (b : Int)) = false := by simp; omega
          simp only [eb, cond_false, hb, if_false, bne_self_eq_false, ih]
      · have ea : ((i : Int) == (a : Int)) = false := by simp; omega
        simp only [ea, cond_false, law31_MarksOrder_i22, law31_MarksOrder_c22, e2, cond_true, Int.toNat_natCast, List.getElem?_eq_getElem hi2, hx, ha, if_false, tmax, wr]
        by_cases hb : b = i
        · subst hb
          have eb : ((b : Int) == (b : Int)) = true := by simp
          simp only [eb, cond_true, if_true, bne_self_eq_false, cond_false, ih]
        · have eb : ((i : Int) == (b : Int)) = false := by simp; omega
          simp only [eb, cond_false, hb, if_false, bne_self_eq_false, ih]
    · have e1 : decide ((i : Int) < (l.length : Int)) = false := by simpa using hi
      simp only [e1, cond_false]

theorem order_true (l : L) (a b t u : Int) : law31_MarksOrder l a b t u = some (true, ()) := by
  unfold law31_MarksOrder law31_MarksOrder_c
  obtain ⟨c1, c2⟩ := checks l
  rw [c2]
  cases h : chk l with
  | false => rfl
  | true =>
    obtain ⟨h1, h2, h3⟩ := chk_len h
    simp only [cond_true, bne_self_eq_false, cond_false, (raises _ _ _).1]
    by_cases ra : (raise l a t).2.2.1 = 0
    · by_cases rb : (raise l b u).2.2.1 = 0
      · obtain ⟨i, rfl, hi, ht, ea⟩ := raise_ok h ra
        obtain ⟨k, rfl, hk, hu, eb⟩ := raise_ok h rb
        have e1 := raise_in (raised_ok h i t ht) (i := k) (by rw [raised_len]; exact hk) hu
        have e2 := raise_in (raised_ok h k u hu) (i := i) (by rw [raised_len]; exact hi) ht
        have hc := raised_comm l i k t u
        simp only [ea, eb, e1, e2, bne_self_eq_false, cond_false, ← hc, same_eq _ _ (show (raised (raised l i t) k u).length ≤ 1000000 by simp only [raised_len]; omega), decide_true, Bool.not_true]
        exact order_loop l (by omega) i k t u fuel 0 (by omega) (by unfold fuel; omega)
      · have : ((raise l b u).2.2.1 != 0) = true := by simpa using rb
        have ra' : ((raise l a t).2.2.1 != 0) = false := by simpa using ra
        simp only [ra', this, cond_true, cond_false]
    · have : ((raise l a t).2.2.1 != 0) = true := by simpa using ra
      simp only [this, cond_true]
end Tm
