/- Marks: the laws Back and Tells, as plain functions. -/
import Derived.Test.YtfdpoliibpelaaaMaP2
set_option linter.unusedVariables false
set_option linter.unusedSimpArgs false
namespace Tm
open Go.Abs (fuel bigOk cloned tmm)

theorem wrapk {i : Int} (h0 : 0 ≤ i) (h : i ≤ 1000000) : Go.IntKind.wrap Go.IntKind.i64 (i + 1) = i + 1 := Go.IntWalk.i64_in _ (by omega)

/-- the inner loop of Back: at its end the outer one goes on -/
theorem back_in (l : L) (hl : l.length ≤ 1000) (ins ts : L) (i x : Nat) (t : Int) (hi : i < ins.length) (hx : ins[i].1 = x) (hxl : x < l.length) (hi6 : i ≤ 1000) (R : Option (Bool × Unit)) (lst0 : Int) (hl0 : ∀ e ∈ raised l x t, lst0 ≤ e.1) :
    ∀ (n k m : Nat), k ≤ l.length → (∀ m', n - (l.length - k) = m' + 1 → law31_MarksBack_i11 m' (raised l x t) ins ts true lst0 ((i + 1 : Nat) : Int) = R) → l.length - k < n → law31_MarksBack_i27 n l ins ts true (i : Int) (raised l x t) lst0 (k : Int) = R
  | 0, k, m, h, hR, hn => by omega
  | n + 1, k, m, h, hR, hn => by
    simp only [law31_MarksBack_i27, law31_MarksBack_c27, Int.ofNat_eq_natCast]
    by_cases hk : k < l.length
    · have e1 : decide ((k : Int) < (l.length : Int)) = true := by simpa using hk
      have e2 : decide ((0 : Int) ≤ (k : Int)) = true := by simp
      have e3 : decide ((0 : Int) ≤ (i : Int)) = true := by simp
      have hk2 : k < (raised l x t).length := by rw [raised_len]; exact hk
      have g := raised_get l x t k hk
      have c1 : decide (lst0 > (raised l x t)[k].1) = false := by
        have := hl0 _ (List.getElem_mem hk2)
        simp; omega
      have c2 : decide ((raised l x t)[k].1 < l[k].1) = false := by
        rw [g]
        split
        · simp; omega
        · simp
      have ih := back_in l hl ins ts i x t hi hx hxl hi6 R lst0 hl0 n (k + 1) m hk (fun m' hm => hR m' (by omega)) (by omega)
      have wr := wrap1 (show k ≤ 1000000 by omega)
      simp only [e1, e2, e3, cond_true, Int.toNat_natCast, List.getElem?_eq_getElem hk, List.getElem?_eq_getElem hk2, List.getElem?_eq_getElem hi, c1, c2, cond_false, hx, wr, ih]
      by_cases hxk : x = k
      · have : ((k : Int) != (x : Int)) = false := by simp [hxk]
        simp only [this, cond_false]
      · have e5 : ((k : Int) != (x : Int)) = true := by simp; omega
        have e6 : ((raised l x t)[k].1 != l[k].1) = false := by rw [g, if_neg hxk]; simp
        simp only [e5, e6, cond_true, cond_false]
    · have e1 : decide ((k : Int) < (l.length : Int)) = false := by simpa using hk
      simp only [e1, cond_false, wrap1 (show i ≤ 1000000 by omega)]
      have : (n + 1) - (l.length - k) = n + 1 := by omega
      exact hR n this

theorem raised_up {l : L} {x : Nat} (hx : x < l.length) (t : Int) (h1 : 1 ≤ l.length) : lst l ≤ lst (raised l x t) := by
  obtain ⟨e, he, hm⟩ := lst_is (l := raised l x t) (by rw [raised_len]; exact h1)
  obtain ⟨k, hk, rfl⟩ := List.getElem_of_mem he
  rw [raised_len] at hk
  rw [hm, raised_get l x t k hk]
  have := lst_le l[k] (List.getElem_mem hk)
  split
  · simp only; omega
  · exact this

theorem back_loop (ins ts : L) (hts : ts.length = ins.length) (hins : ins.length ≤ 60) : ∀ (f n : Nat) (l : L) (i : Nat), chk l = true → i ≤ ins.length → ins.length - i < f → 10 * f ≤ n →
    law31_MarksBack_i11 n l ins ts true (lst l) (i : Int) = some (true, ())
  | 0, n, l, i, hc, hi, hf, hn => by omega
  | f + 1, 0, l, i, hc, hi, hf, hn => by omega
  | f + 1, n + 1, l, i, hc, hi, hf, hn => by
    obtain ⟨h1, h2, h3⟩ := chk_len hc
    obtain ⟨c1, c2⟩ := checks l
    simp only [law31_MarksBack_i11, law31_MarksBack_c11, Int.ofNat_eq_natCast]
    by_cases hi' : i < ins.length
    · have e1 : decide ((i : Int) < (ins.length : Int)) = true := by simpa using hi'
      have e2 : decide ((0 : Int) ≤ (i : Int)) = true := by simp
      have hi2 : i < ts.length := by omega
      have ih := back_loop ins ts hts hins f n l (i + 1) hc hi' (by omega) (by omega)
      have wr := wrap1 (show i ≤ 1000000 by omega)
      simp only [e1, e2, cond_true, Int.toNat_natCast, List.getElem?_eq_getElem hi', List.getElem?_eq_getElem hi2, (raises _ _ _).1, wr, ih, mark_eq]
      by_cases hr : (raise l ins[i].1 ts[i].1).2.2.1 = 0
      · obtain ⟨x, hx, hxl, hok, er⟩ := raise_ok hc hr
        have hc2 := raised_ok hc x ts[i].1 hok
        simp only [er, bne_self_eq_false, cond_false, (least_eq _).1, hc2, cond_true, raised_len]
        have d1 : decide (lst (raised l x ts[i].1) < lst l) = false := by
          have := raised_up hxl ts[i].1 h1
          simp; omega
        have d2 : (!decide (lst (raised l x ts[i].1) > lst l) == decide (lst (raised l x ts[i].1) > lst l)) = false := by
          cases decide (lst (raised l x ts[i].1) > lst l) <;> rfl
        simp only [d1, d2, cond_false]
        refine back_in l (by omega) ins ts i x ts[i].1 hi' hx hxl (by omega) _ _ lst_le n 0 0 (by omega) (fun m' hm => ?_) (by omega)
        exact back_loop ins ts hts hins f m' _ (i + 1) hc2 hi' (by omega) (by omega)
      · have e5 : ((raise l ins[i].1 ts[i].1).2.2.1 != 0) = true := by simpa using hr
        simp only [e5, cond_true]
        by_cases a1 : ins[i].1 ≥ 0
        · simp only [decide_eq_true a1, cond_true]
          by_cases a2 : ins[i].1 < (l.length : Int)
          · simp only [decide_eq_true a2, cond_true]
            cases hk : okm ts[i].1 with
            | false => rfl
            | true =>
              exfalso
              apply hr
              have := raise_in hc (i := ins[i].1.toNat) (by omega) hk
              rw [Int.toNat_of_nonneg a1] at this
              rw [this]
          · simp only [decide_eq_false a2, cond_false]
        · simp only [decide_eq_false a1, cond_false]
    · have e1 : decide ((i : Int) < (ins.length : Int)) = false := by simpa using hi'
      simp only [e1, cond_false, cond_true, c1, hc, beq_self_eq_true]

theorem back_true (l ins ts : L) : law31_MarksBack l ins ts = some (true, ()) := by
  unfold law31_MarksBack law31_MarksBack_c
  obtain ⟨c1, c2⟩ := checks l
  rw [c2]
  cases h : chk l with
  | false => rfl
  | true =>
    simp only [cond_true, bne_self_eq_false, cond_false]
    by_cases h1 : Int.ofNat ins.length > 60
    · simp only [decide_eq_true h1, cond_true]
    by_cases h2 : (Int.ofNat ts.length != Int.ofNat ins.length) = true
    · simp only [decide_eq_false h1, h2, cond_true, cond_false]
    have h2' : (Int.ofNat ts.length != Int.ofNat ins.length) = false := by simpa using h2
    simp only [decide_eq_false h1, h2', cond_false, (least_eq _).1, h, cond_true, bne_self_eq_false]
    simp only [Int.ofNat_eq_natCast] at h1 h2'
    exact back_loop ins ts (by simp at h2'; omega) (by omega) 100 fuel l 0 h (by omega) (by omega) (by unfold fuel; omega)

theorem rep1 : slices_Repeat___int64_int64_ [(low, ())] ((1 : Nat) : Int) = some (List.replicate 1 (low, ()), ()) := by kernel_rfl
theorem rnew1 : ref31_New ((1 : Nat) : Int) = some (List.replicate 1 (low, ()), 0, ()) := by kernel_rfl
theorem rep2 : slices_Repeat___int64_int64_ [(low, ())] ((2 : Nat) : Int) = some (List.replicate 2 (low, ()), ()) := by kernel_rfl
theorem rnew2 : ref31_New ((2 : Nat) : Int) = some (List.replicate 2 (low, ()), 0, ()) := by kernel_rfl
theorem rep3 : slices_Repeat___int64_int64_ [(low, ())] ((3 : Nat) : Int) = some (List.replicate 3 (low, ()), ()) := by kernel_rfl
theorem rnew3 : ref31_New ((3 : Nat) : Int) = some (List.replicate 3 (low, ()), 0, ()) := by kernel_rfl
theorem rep4 : slices_Repeat___int64_int64_ [(low, ())] ((4 : Nat) : Int) = some (List.replicate 4 (low, ()), ()) := by kernel_rfl
theorem rnew4 : ref31_New ((4 : Nat) : Int) = some (List.replicate 4 (low, ()), 0, ()) := by kernel_rfl
theorem repeats (k : Nat) (h1 : 1 ≤ k) (h2 : k ≤ 4) : slices_Repeat___int64_int64_ [(low, ())] (k : Int) = some (List.replicate k (low, ()), ()) := by
  rcases (show k = 1 ∨ k = 2 ∨ k = 3 ∨ k = 4 by omega) with rfl | rfl | rfl | rfl
  · exact rep1
  · exact rep2
  · exact rep3
  · exact rep4
theorem rnew (k : Nat) (h1 : 1 ≤ k) (h2 : k ≤ 4) : ref31_New (k : Int) = some (List.replicate k (low, ()), 0, ()) := by
  rcases (show k = 1 ∨ k = 2 ∨ k = 3 ∨ k = 4 by omega) with rfl | rfl | rfl | rfl
  · exact rnew1
  · exact rnew2
  · exact rnew3
  · exact rnew4

theorem news (a : Int) : ∃ l e, marks_New a = some (l, e, ()) ∧ ref31_New a = some (l, e, ()) ∧ l.length ≤ 4 := by
  by_cases h1 : a < 1
  · exact ⟨[], 2, by simp [marks_New, h1], by simp [ref31_New, ref31_New_c, h1], by simp⟩
  by_cases h2 : a > 4
  · exact ⟨[], 2, by simp [marks_New, h1, h2], by simp [ref31_New, ref31_New_c, h1, h2], by simp⟩
  obtain ⟨k, rfl⟩ : ∃ k : Nat, a = k := ⟨a.toNat, by omega⟩
  refine ⟨List.replicate k (low, ()), 0, ?_, rnew k (by omega) (by omega), by simp; omega⟩
  have := repeats k (by omega) (by omega)
  unfold marks_New
  simp only [decide_eq_false h1, decide_eq_false h2, cond_false]
  rw [show (-9223372036854775808 : Int) = low from rfl, this]

theorem tells_true (l : L) (a : Int) : law31_MarksTells l a = some (true, ()) := by
  unfold law31_MarksTells
  by_cases h : Int.ofNat l.length > 20
  · simp only [decide_eq_true h, cond_true]
  obtain ⟨x, e, n1, n2, hx⟩ := news a
  obtain ⟨c1, c2⟩ := checks l
  obtain ⟨d1, d2⟩ := least_eq l
  simp only [decide_eq_false h, cond_false, n1, n2, d1, d2, c1, c2, same_eq x x (by omega), decide_true, cond_true, beq_self_eq_true]
end Tm
