import Derived.Test.YtiilfgphdpcioaaPC
/- Windows. -/
set_option linter.unusedVariables false
set_option linter.unusedSimpArgs false
namespace Tg
open Go.Abs (fuel bigOk cloned tmm)

theorem twrap (x : Int) (h : -1000000000000000 ≤ x) (h2 : x ≤ 1000000000000000) : Go.IntKind.wrap Go.IntKind.i64 x = x := w64 (by omega) (by omega)

/-- the window of a time -/
theorem tumble_eq (t E : Int) (hE : 1 ≤ E) (hE2 : E ≤ 1073741824) : 
    (∃ e, e ≠ 0 ∧ tumble_Of t E = some (((0, 0, ()), e, ()))) ∨ (-1099511627776 ≤ t ∧ t ≤ 1099511627776 ∧ ∃ s e, tumble_Of t E = some (((s, e, ()), 0, ())) ∧ s ≤ t ∧ t < s + E) := by
  unfold tumble_Of tumble_Number tumble_check
  simp only [dF (show ¬ E < 1 by omega), dF (show ¬ E > 1073741824 by omega), cond_false]
  by_cases h1 : t < -1099511627776
  · left
    exact ⟨16, by omega, by simp only [dT h1, cond_true]; rfl⟩
  · by_cases h2 : t > 1099511627776
    · left
      exact ⟨16, by omega, by simp only [dF h1, cond_false, dT h2, cond_true]; rfl⟩
    · right
      refine ⟨by omega, by omega, ?_⟩
      have hn : (Int.tdiv t E).natAbs ≤ t.natAbs := Int.natAbs_tdiv_le_natAbs t E
      have hm := Int.tmod_add_mul_tdiv t E
      have hlt : Int.tmod t E < E := Int.tmod_lt_of_pos t (by omega)
      have hgt : -E < Int.tmod t E := by
        have h3 := Int.natAbs_tmod t E
        have h4 := Nat.mod_lt t.natAbs (show 0 < E.natAbs by omega)
        omega
      simp only [dF h1, dF h2, cond_false, bne_self_eq_false, dF (show ¬ E = 0 by omega)]
      by_cases hneg : Int.tmod t E < 0
      · simp only [dT hneg, cond_true, cond_false, bne_self_eq_false, twrap (Int.tdiv t E) (by omega) (by omega), twrap (Int.tdiv t E - 1) (by omega) (by omega), twrap (Int.tdiv t E - 1 + 1) (by omega) (by omega)]
        have e1 : (Int.tdiv t E - 1) * E = t - Int.tmod t E - E := by rw [Int.sub_mul, Int.mul_comm]; omega
        have e2 : (Int.tdiv t E - 1 + 1) * E = t - Int.tmod t E := by rw [Int.sub_add_cancel, Int.mul_comm]; omega
        rw [e1, e2, twrap _ (by omega) (by omega), twrap _ (by omega) (by omega)]
        exact ⟨_, _, rfl, by omega, by omega⟩
      · simp only [dF hneg, cond_true, cond_false, bne_self_eq_false, twrap (Int.tdiv t E) (by omega) (by omega), twrap (Int.tdiv t E + 1) (by omega) (by omega)]
        have e1 : Int.tdiv t E * E = t - Int.tmod t E := by rw [Int.mul_comm]; omega
        have e2 : (Int.tdiv t E + 1) * E = t - Int.tmod t E + E := by rw [Int.add_mul, Int.mul_comm]; omega
        rw [e1, e2, twrap _ (by omega) (by omega), twrap _ (by omega) (by omega)]
        exact ⟨_, _, rfl, by omega, by omega⟩

theorem back_loop (x0 : List (Int × Int × Unit)) (h0 : x0.length ≤ 1000) : ∀ (c : Nat) (out : List (Int × Int × Unit)) (n : Nat), c ≤ x0.length → out.length + c ≤ 2000 → c + 1 ≤ n →
    ∃ l, slide_All_i24 n x0 ((c : Int) - 1) out = some (l, 0, ()) ∧ l.length = out.length + c
  | 0, out, n, hc, ho, hn => by
    obtain ⟨m, rfl⟩ : ∃ m, n = m + 1 := ⟨n - 1, by omega⟩
    refine ⟨out, ?_, rfl⟩
    simp only [slide_All_i24, slide_All_c24, dF (show ¬ (((0 : Nat) : Int) - 1 ≥ 0) by omega), cond_false]
  | c + 1, out, n, hc, ho, hn => by
    obtain ⟨m, rfl⟩ : ∃ m, n = m + 1 := ⟨n - 1, by omega⟩
    have hlt : c < x0.length := by omega
    obtain ⟨l, h1, h2⟩ := back_loop x0 h0 c (out ++ [x0[c]]) m (by omega) (by simp; omega) (by omega)
    refine ⟨l, ?_, by simp at h2; omega⟩
    have e : (((c + 1 : Nat) : Int) - 1) = (c : Int) := by omega
    have bb : bigOk (out.length + [x0[c]].length) 16 = true := big_ok (by simp; omega) (by omega)
    rw [e]
    simp only [slide_All_i24, slide_All_c24, ge_iff_le, dT (Int.natCast_nonneg c), cond_true, Int.toNat_natCast, dT hlt, List.getElem?_eq_getElem hlt, bb, twrap ((c : Int) - 1) (by omega) (by omega), h1]

theorem fore_loop (t S E : Int) (hE : 1 ≤ E) (hE2 : E ≤ S) (hS : S ≤ 1073741824) (ht : -1099511627776 ≤ t) (ht2 : t ≤ 1099511627776) : ∀ (k : Nat) (s : Int) (out : List (Int × Int × Unit)) (n : Nat), s + S - t ≤ k * E → s ≤ t → t - S - E ≤ s + E → out.length + k ≤ 100 → 200 + k ≤ n →
    ∃ (l : List (Int × Int × Unit)) (c : Nat), slide_All_i12 n t S E out s = some (l, 0, ()) ∧ l.length = out.length + c ∧ s + S - t ≤ c * E ∧ (c = 0 ∨ ((c : Int) - 1) * E < s + S - t)
  | k, s, out, n, hk, hs, hs2, ho, hn => by
    obtain ⟨m, rfl⟩ : ∃ m, n = m + 1 := ⟨n - 1, by omega⟩
    by_cases hgt : s + S > t
    · obtain ⟨j, rfl⟩ : ∃ j, k = j + 1 := by
        cases k with
        | zero => simp at hk; omega
        | succ j => exact ⟨j, rfl⟩
      have hk' : s - E + S - t ≤ (j : Int) * E := by
        rw [show (((j + 1 : Nat)) : Int) = (j : Int) + 1 by omega, Int.add_mul] at hk
        omega
      obtain ⟨l, c, h1, h2, h3, h4⟩ := fore_loop t S E hE hE2 hS ht ht2 j (s - E) (out ++ [(s, s + S, ())]) m hk' (by omega) (by omega) (by simp; omega) (by omega)
      refine ⟨l, c + 1, ?_, by simp at h2; omega, ?_, .inr ?_⟩
      · have bb : bigOk (out.length + [(s, s + S, ())].length) 16 = true := big_ok (by simp; omega) (by omega)
        simp only [slide_All_i12, slide_All_c12, twrap (s + S) (by omega) (by omega), dT hgt, cond_true, bb, twrap (s - E) (by omega) (by omega), h1]
      · rw [show (((c + 1 : Nat)) : Int) = (c : Int) + 1 by omega, Int.add_mul]
        omega
      · rw [show (((c + 1 : Nat)) : Int) - 1 = (c : Int) by omega]
        rcases h4 with h4 | h4
        · subst h4
          simp
          omega
        · rw [Int.sub_mul] at h4
          omega
    · obtain ⟨l, h1, h2⟩ := back_loop out (by omega) out.length [] (m - 1) (Nat.le_refl _) (by simp; omega) (by omega)
      refine ⟨l, 0, ?_, by simpa using h2, by simp; omega, .inl rfl⟩
      obtain ⟨p, rfl⟩ : ∃ p, m = p + 1 := ⟨m - 1, by omega⟩
      have e : Go.IntKind.wrap Go.IntKind.i64 (Int.ofNat out.length - 1) = (out.length : Int) - 1 := twrap _ (by simp; omega) (by simp; omega)
      simp only [slide_All_i12, slide_All_c12, twrap (s + S) (by omega) (by omega), dF hgt, cond_false, slide_All_i10, slide_All_c10, e]
      exact h1
end Tg

/- The law: how many windows. -/
set_option linter.unusedVariables false
set_option linter.unusedSimpArgs false
namespace Tg
open Go.Abs (fuel bigOk cloned tmm)

/-- how many windows -/
def winN (S E : Int) : Int := bif decide (S % E > 0) then S / E + 1 else S / E
theorem winN_ceil {S E : Int} (hE : 1 ≤ E) : (winN S E - 1) * E < S ∧ S ≤ winN S E * E := by
  have h1 := Int.mul_ediv_add_emod S E
  have h2 := Int.emod_nonneg S (show E ≠ 0 by omega)
  have h3 := Int.emod_lt_of_pos S (show 0 < E by omega)
  unfold winN
  by_cases h : S % E > 0
  · rw [dT h, cond_true, Int.sub_mul, Int.add_mul, Int.mul_comm (S / E) E]
    omega
  · rw [dF h, cond_false, Int.sub_mul, Int.mul_comm (S / E) E]
    omega
theorem winN_bd {S E : Int} (hE : 1 ≤ E) (hS : 1 ≤ S) (hS2 : S ≤ 1073741824) : 0 ≤ S / E ∧ S / E ≤ S := by
  exact ⟨Int.ediv_nonneg (by omega) (by omega), Int.ediv_le_self E (by omega)⟩
theorem winN_up {S E : Int} (hE : 1 ≤ E) : (S + E - 1) / E = winN S E := by
  have h1 := Int.mul_ediv_add_emod S E
  have h2 := Int.emod_nonneg S (show E ≠ 0 by omega)
  have h3 := Int.emod_lt_of_pos S (show 0 < E by omega)
  unfold winN
  by_cases h : S % E > 0
  · rw [dT h, cond_true]
    have : S + E - 1 = (S % E - 1) + E * (S / E + 1) := by rw [Int.mul_add]; omega
    rw [this, Int.add_mul_ediv_left _ _ (by omega), Int.ediv_eq_zero_of_lt (by omega) (by omega), Int.zero_add]
  · rw [dF h, cond_false]
    have : S + E - 1 = (E - 1) + E * (S / E) := by omega
    rw [this, Int.add_mul_ediv_left _ _ (by omega), Int.ediv_eq_zero_of_lt (by omega) (by omega), Int.zero_add]

/-- sliding windows that are right -/
theorem fitW2 {w : Int × Int × Int × Unit} (h : fitW w = true) (hk : w.1 = 2) : 1 ≤ w.2.1 ∧ w.2.1 ≤ 1073741824 ∧ 1 ≤ w.2.2.1 ∧ w.2.2.1 ≤ w.2.1 ∧ w.2.1 ≤ 16 * w.2.2.1 := by
  unfold fitW at h
  rw [show (w.1 == 2) = true by simpa using hk] at h
  simp only [cond_true, Bool.and_eq_true, Bool.not_eq_true', decide_eq_false_iff_not, decide_eq_true_eq] at h
  obtain ⟨h1, h2, h3, h4, h5⟩ := h
  rw [w64 (by omega) (by omega)] at h5
  omega

def winK (w : Int × Int × Int × Unit) : Int := if w.1 = 2 then winN w.2.1 w.2.2.1 else 1
theorem bwin_eq {w : Int × Int × Int × Unit} (h : fitW w = true) : bound_windows w = some (winK w, ()) := by
  unfold bound_windows winK
  by_cases hk : w.1 = 2
  · obtain ⟨h1, h2, h3, h4, h5⟩ := fitW2 h hk
    have hb := winN_bd (S := w.2.1) h3 h1 h2
    simp only [bne_f hk, cond_false, dF (show ¬ w.2.2.1 = 0 by omega), if_pos hk, Int.tmod_eq_emod_of_nonneg (show 0 ≤ w.2.1 by omega), Int.tdiv_eq_ediv_of_nonneg (show 0 ≤ w.2.1 by omega), twrap (w.2.1 / w.2.2.1) (by omega) (by omega), twrap (w.2.1 / w.2.2.1 + 1) (by omega) (by omega)]
    unfold winN
    cases decide (w.2.1 % w.2.2.1 > 0) <;> rfl
  · simp only [bne_t hk, cond_true, if_neg hk]
theorem rwin_eq {q : Qr} (h : fitW (q.2.2.2.2.2.1, q.2.2.2.2.2.2.1, q.2.2.2.2.2.2.2.1, ()) = true) : ref39_Windows q = some (winK (q.2.2.2.2.2.1, q.2.2.2.2.2.2.1, q.2.2.2.2.2.2.2.1, ()), ()) := by
  unfold ref39_Windows winK
  by_cases hk : q.2.2.2.2.2.1 = 2
  · obtain ⟨h1, h2, h3, h4, h5⟩ := fitW2 h hk
    dsimp only at h1 h2 h3 h4 h5
    have hb := winN_bd (S := q.2.2.2.2.2.2.1) h3 h1 h2
    have hc := winN_up (S := q.2.2.2.2.2.2.1) h3
    have hn : winN q.2.2.2.2.2.2.1 q.2.2.2.2.2.2.2.1 ≤ 1000000000000 ∧ 0 ≤ winN q.2.2.2.2.2.2.1 q.2.2.2.2.2.2.2.1 := by
      unfold winN
      cases decide (q.2.2.2.2.2.2.1 % q.2.2.2.2.2.2.2.1 > 0)
      · rw [cond_false]; omega
      · rw [cond_true]; omega
    simp only [bne_f hk, cond_false, dF (show ¬ q.2.2.2.2.2.2.2.1 = 0 by omega), if_pos hk, twrap (q.2.2.2.2.2.2.1 + q.2.2.2.2.2.2.2.1) (by omega) (by omega), twrap (q.2.2.2.2.2.2.1 + q.2.2.2.2.2.2.2.1 - 1) (by omega) (by omega),
      Int.tdiv_eq_ediv_of_nonneg (show 0 ≤ q.2.2.2.2.2.2.1 + q.2.2.2.2.2.2.2.1 - 1 by omega), hc, twrap _ (show -1000000000000000 ≤ winN q.2.2.2.2.2.2.1 q.2.2.2.2.2.2.2.1 by omega) (by omega)]
  · simp only [bne_t hk, cond_true, if_neg hk]

/-- how many windows a time has -/
theorem slide_eq {S E t : Int} (h1 : 1 ≤ S) (h2 : S ≤ 1073741824) (h3 : 1 ≤ E) (h4 : E ≤ S) (h5 : S ≤ 16 * E) :
    ∃ l e, slide_All t S E = some (l, e, ()) ∧ (e = 0 → (l.length : Int) ≤ winN S E ∧ winN S E - 1 ≤ (l.length : Int)) := by
  obtain ⟨n, hn⟩ := fuel_s
  unfold slide_All slide_All_c
  rw [tmin]
  simp only [dF (show ¬ min S E < 1 by omega), dF (show ¬ S > 1073741824 by omega), dF (show ¬ E > S by omega), w64 (x := 16 * E) (by omega) (by omega), dF (show ¬ S > 16 * E by omega), cond_false]
  rcases tumble_eq t E h3 (by omega) with ⟨e, he, h⟩ | ⟨t1, t2, s, e, h, hs1, hs2⟩
  · simp only [h, bne_t he, cond_true]
    exact ⟨_, _, rfl, fun h0 => absurd h0 he⟩
  · simp only [h, bne_self_eq_false, cond_false]
    obtain ⟨l, c, q1, q2, q3, q4⟩ := fore_loop t S E h3 h4 h2 t1 t2 16 s [] fuel (by rw [show ((16 : Nat) : Int) = 16 from rfl]; omega) hs1 (by omega) (by simp) (by rw [hn]; omega)
    refine ⟨l, 0, q1, fun _ => ?_⟩
    have hl : l.length = c := by simpa using q2
    rw [hl]
    obtain ⟨n1, n2⟩ := winN_ceil (S := S) h3
    generalize winN S E = N at n1 n2 ⊢
    constructor
    · rcases q4 with q4 | q4
      · subst q4
        have : 0 * E < N * E := by omega
        have := Int.lt_of_mul_lt_mul_right this (by omega)
        omega
      · have : ((c : Int) - 1) * E < N * E := by omega
        have := Int.lt_of_mul_lt_mul_right this (by omega)
        omega
    · have e2 : (N - 2) * E = (N - 1) * E - E := by rw [Int.sub_mul, Int.sub_mul]; omega
      have : (N - 2) * E < (c : Int) * E := by omega
      have := Int.lt_of_mul_lt_mul_right this (by omega)
      omega

theorem bound_true (q : Qr) (t : Int) : law39_BoundWindows q t = some (true, ()) := by
  unfold law39_BoundWindows
  have hg : ∃ b, ref08_Great q = some (b, ()) := by
    unfold ref08_Great
    cases decide (Int.ofNat q.2.1.length > 70) <;> cases decide (Int.ofNat q.2.2.2.2.1.length > 70) <;> exact ⟨_, rfl⟩
  obtain ⟨b, hb⟩ := hg
  rw [hb]
  cases b with
  | true => rfl
  | false =>
    simp only [cond_false]
    -- what both say of how many
    have hm : ∃ n e, bound_Many q = some (n, e, ()) ∧ ref39_Many q = some (n, e, ()) ∧ (e = 0 → chkC q = 0 ∧ n = winK (q.2.2.2.2.2.1, q.2.2.2.2.2.2.1, q.2.2.2.2.2.2.2.1, ())) := by
      unfold bound_Many ref39_Many
      simp only [checks_eq, rchecks_eq]
      by_cases he : (chkQ q).2.1 = 0
      · have hc : chkC q = 0 := by
          unfold chkQ at he
          cases hc : (chkC q == 0) with
          | true => simpa using hc
          | false => rw [hc] at he; exact he
        obtain ⟨_, _, hf⟩ := chkC0 hc
        simp only [bne_f he, cond_false, bwin_eq hf, rwin_eq hf]
        exact ⟨_, _, rfl, rfl, fun _ => ⟨hc, rfl⟩⟩
      · simp only [bne_t he, cond_true]
        exact ⟨_, _, rfl, rfl, fun h => absurd h he⟩
    obtain ⟨n, e, m1, m2, m3⟩ := hm
    simp only [m1, m2, bne_self_eq_false, cond_false]
    unfold slide_Of
    simp only [win_w]
    cases hf : fitW (q.2.2.2.2.2.1, q.2.2.2.2.2.2.1, q.2.2.2.2.2.2.2.1, ()) with
    | false =>
      have e8 : ((8 : Int) != 0) = true := rfl
      simp only [cond_false, e8, cond_true]
      cases (e != 0) <;> rfl
    | true =>
      simp only [cond_true, bne_self_eq_false, cond_false]
      by_cases k1 : q.2.2.2.2.2.1 = 1
      · have k1b : (q.2.2.2.2.2.1 == 1) = true := by simpa using k1
        have k2 : (q.2.2.2.2.2.1 != 2) = true := bne_t (by omega)
        simp only [k1b, cond_true, k2]
        have hS : 1 ≤ q.2.2.2.2.2.2.1 ∧ q.2.2.2.2.2.2.1 ≤ 1073741824 := by
          unfold fitW at hf
          simp only [Bool.and_eq_true, Bool.not_eq_true', decide_eq_false_iff_not] at hf
          omega
        rcases tumble_eq t q.2.2.2.2.2.2.1 hS.1 hS.2 with ⟨e', he', h⟩ | ⟨_, _, s, e', h, _⟩
        · simp only [h, bne_t he', cond_true]
          cases (e != 0) <;> rfl
        · simp only [h, bne_self_eq_false, cond_false]
          cases (e != 0) <;> rfl
      · have k1b : (q.2.2.2.2.2.1 == 1) = false := by simpa using k1
        simp only [k1b, cond_false]
        by_cases k2 : q.2.2.2.2.2.1 = 2
        · have k2b : (q.2.2.2.2.2.1 == 2) = true := by simpa using k2
          obtain ⟨h1, h2, h3, h4, h5⟩ := fitW2 hf k2
          have h1 : 1 ≤ q.2.2.2.2.2.2.1 := h1
          have h2 : q.2.2.2.2.2.2.1 ≤ 1073741824 := h2
          have h3 : 1 ≤ q.2.2.2.2.2.2.2.1 := h3
          have h4 : q.2.2.2.2.2.2.2.1 ≤ q.2.2.2.2.2.2.1 := h4
          have h5 : q.2.2.2.2.2.2.1 ≤ 16 * q.2.2.2.2.2.2.2.1 := h5
          obtain ⟨l, e', s1, s2⟩ := slide_eq (t := t) h1 h2 h3 h4 h5
          have s1' : slide_All t q.2.2.2.2.2.2.1 q.2.2.2.2.2.2.2.1 = some (l, e', ()) := s1
          simp only [k2b, cond_true, s1', bne_f k2]
          by_cases he : e = 0
          · simp only [bne_f he, cond_false]
            by_cases he' : e' = 0
            · simp only [bne_f he', cond_false]
              obtain ⟨u1, u2⟩ := s2 he'
              obtain ⟨_, hnk⟩ := m3 he
              unfold winK at hnk
              rw [if_pos k2] at hnk
              dsimp only at hnk
              have hb := winN_bd (S := q.2.2.2.2.2.2.1) h3 h1 h2
              have hw : Go.IntKind.wrap Go.IntKind.i64 (n - 1) = n - 1 := by

                refine twrap _ ?_ ?_
                · rw [hnk]; unfold winN; cases decide (q.2.2.2.2.2.2.1 % q.2.2.2.2.2.2.2.1 > 0) <;> simp only [cond_true, cond_false] <;> omega
                · rw [hnk]; unfold winN; cases decide (q.2.2.2.2.2.2.1 % q.2.2.2.2.2.2.2.1 > 0) <;> simp only [cond_true, cond_false] <;> omega
              simp only [Int.ofNat_eq_natCast, hw, dT (show (l.length : Int) ≤ n by rw [hnk]; exact u1), cond_true, ge_iff_le, dT (show n - 1 ≤ (l.length : Int) by rw [hnk]; exact u2)]
            · simp only [bne_t he', cond_true]
          · simp only [bne_t he, cond_true]
        · have k2b : (q.2.2.2.2.2.1 == 2) = false := by simpa using k2
          have k2c : (q.2.2.2.2.2.1 != 2) = true := bne_t k2
          have e2 : ((2 : Int) != 0) = true := rfl
          simp only [k2b, cond_false, e2, cond_true]
          cases (e != 0) <;> rfl
end Tg
