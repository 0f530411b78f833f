import Derived.Test.YtfdgpbehbpldfaaGreatPK
/- Sources. -/
set_option linter.unusedVariables false
set_option linter.unusedSimpArgs false
namespace Tg
open Go.Abs (fuel bigOk cloned tmm)
abbrev IL := List (Int × Unit)

def in03 (x : Int × Unit) : Bool := decide (0 ≤ x.1) && decide (x.1 ≤ 3)
def dupFrom (l : IL) : Nat → IL → Bool
  | _, [] => false
  | i, x :: r => (l.take i).any (fun y => y.1 == x.1) || dupFrom l (i + 1) r
def srcE (l : IL) (join : Bool) : Int :=
  if 4 < l.length then 4 else if l.length = 0 then 8 else if (join && !(l.length == 2)) = true then 8 else if l.all in03 = true then (bif dupFrom l 0 l then 43 else 0) else 8

theorem dedup_le : ∀ (l : IL) (acc : List Int), (dedupI l acc).length ≤ acc.length + l.length
  | [], acc => Nat.le_refl _
  | x :: l, acc => by
    simp only [dedupI, List.length_cons]
    have := dedup_le l (if acc.contains x.1 then acc else acc ++ [x.1])
    split at this <;> simp_all <;> omega
theorem dedup_dup (l : IL) : ∀ (rest : IL) (i : Nat), l.drop i = rest → i + rest.length = l.length → decide ((dedupI rest ((l.take i).map (·.1))).length < l.length) = dupFrom l i rest
  | [], i, hd, hl => by
    simp only [dedupI, dupFrom, List.length_map, List.length_take]
    simp at hl
    simp [hl]
  | x :: rest, i, hd, hl => by
    simp only [List.length_cons] at hl
    have hx : l[i]? = some x := by
      have := congrArg (fun z => z[0]?) hd
      simpa using this
    have hd' : l.drop (i + 1) = rest := by
      have := congrArg (List.drop 1) hd
      simpa [List.drop_drop] using this
    rw [Bool.eq_iff_iff, decide_eq_true_eq]
    simp only [dedupI, dupFrom]
    have hc : ((l.take i).map (·.1)).contains x.1 = (l.take i).any (fun y => y.1 == x.1) := by
      rw [List.contains_eq_any_beq, List.any_map]
      congr 1
      funext y
      simp only [Function.comp]
      rw [Bool.eq_iff_iff]
      simp only [beq_iff_eq]
      exact ⟨Eq.symm, Eq.symm⟩
    rw [hc]
    cases ha : (l.take i).any (fun y => y.1 == x.1) with
    | true =>
      simp only [if_true, Bool.true_or, iff_true]
      have := dedup_le rest ((l.take i).map (·.1))
      rw [List.length_map, List.length_take] at this
      omega
    | false =>
      simp only [Bool.false_eq_true, if_false, Bool.false_or]
      have e : (l.take i).map (·.1) ++ [x.1] = (l.take (i + 1)).map (·.1) := by
        rw [List.take_add_one, hx]
        simp
      rw [e]
      have := dedup_dup l rest (i + 1) hd' (by omega)
      rw [← this, decide_eq_true_eq]

theorem distinct_eq {l : IL} (h4 : l.length ≤ 4) (h : l.all in03 = true) : clauses_distinct_int_ l = some (Int.ofNat (dedupI l []).length, ()) := by
  unfold clauses_distinct_int_
  have h1 : l.all (fun x => in64 x.1) = true := by
    rw [List.all_eq_true] at h ⊢
    intro x hx
    have := h x hx
    unfold in03 at this
    rw [Bool.and_eq_true, decide_eq_true_eq, decide_eq_true_eq] at this
    unfold in64
    rw [dT (by omega), dT (by omega)]
    rfl
  rw [h1, dT (show l.length < 9223372036854775807 by omega)]
  rfl

theorem src_loop (l : IL) (h4 : l.length ≤ 4) : ∀ (rest : IL) (i n : Nat), i + rest.length = l.length → l.drop i = rest → (l.take i).all in03 = true → rest.length + 1 ≤ n →
    clauses_Sources_i14 n l (l.length : Int) (i : Int) l false = some (bif rest.all in03 then (bif dupFrom l 0 l then 43 else 0) else 8, ())
  | [], i, n, hlen, hd, ht, hn => by
    obtain ⟨m, rfl⟩ : ∃ m, n = m + 1 := ⟨n - 1, by omega⟩
    simp only [List.length_nil, Nat.add_zero] at hlen
    subst hlen
    rw [List.take_length] at ht
    have hdd := dedup_dup l l 0 (by simp) (by simp)
    simp only [List.take_zero, List.map_nil] at hdd
    have hd2 : decide (Int.ofNat (dedupI l []).length < (l.length : Int)) = dupFrom l 0 l := by
      rw [← hdd]
      rw [Bool.eq_iff_iff, decide_eq_true_eq, decide_eq_true_eq]
      simp
    simp only [clauses_Sources_i14, clauses_Sources_c14, dF (show ¬ (l.length : Int) < (l.length : Int) by omega), cond_false, distinct_eq h4 ht, List.all_nil, cond_true]
    simp only [Int.ofNat_eq_natCast] at hd2 ⊢
    rw [hd2]
    cases dupFrom l 0 l <;> rfl
  | x :: rest, i, n, hlen, hd, ht, hn => by
    simp only [List.length_cons] at hlen hn
    obtain ⟨m, rfl⟩ : ∃ m, n = m + 1 := ⟨n - 1, by omega⟩
    have hx : l[i]? = some x := by
      have := congrArg (fun z => z[0]?) hd
      simpa using this
    have hd' : l.drop (i + 1) = rest := by
      have := congrArg (List.drop 1) hd
      simpa [List.drop_drop] using this
    simp only [clauses_Sources_i14, clauses_Sources_c14, dT (show (i : Int) < (l.length : Int) by omega), cond_true, dT (Int.natCast_nonneg i), Int.toNat_natCast, hx, List.all_cons]
    by_cases h0 : x.1 < 0
    · have e : in03 x = false := by unfold in03; rw [dF (by omega)]; rfl
      simp only [dT h0, cond_true, e, Bool.false_and, cond_false, ge_iff_le, dT (Int.natCast_nonneg i)]
    · by_cases h4' : x.1 ≥ 4
      · have e : in03 x = false := by unfold in03; rw [dF (show ¬ x.1 ≤ 3 by omega), Bool.and_false]
        simp only [dF h0, cond_false, dT h4', cond_true, e, Bool.false_and, ge_iff_le, dT (Int.natCast_nonneg i)]
      · have e : in03 x = true := by unfold in03; rw [dT (by omega), dT (by omega)]; rfl
        have ih := src_loop l h4 rest (i + 1) m (by omega) hd' (by rw [List.take_add_one, hx]; simp [ht, e]) (by omega)
        simp only [dF h0, cond_false, dF h4', e, Bool.true_and, wadd1 (show i ≤ 1000000 by omega), ih]

theorem srcs_eq (l : IL) (join : Bool) : clauses_Sources l join = some (srcE l join, ()) := by
  obtain ⟨n, hn⟩ := fuel_s
  unfold clauses_Sources clauses_Sources_c srcE
  by_cases h4 : 4 < l.length
  · simp only [Int.ofNat_eq_natCast, dT (show (l.length : Int) > 4 by omega), cond_true, if_pos h4]
  · have hl := src_loop l (by omega) l 0 fuel (by simp) (by simp) (by simp) (by rw [hn]; omega)
    have hl' : clauses_Sources_i14 fuel l (l.length : Int) 0 l false = _ := hl
    simp only [Int.ofNat_eq_natCast, dF (show ¬ (l.length : Int) > 4 by omega), cond_false, if_neg h4, hl']
    by_cases h0 : l.length = 0
    · have e : ((l.length : Int) == 0) = true := by simp [h0]
      simp only [e, cond_true, if_pos h0]
    · have e : ((l.length : Int) == 0) = false := by rw [beq_eq_false_iff_ne]; omega
      simp only [e, cond_false, if_neg h0]
      have e2 : ((l.length : Int) != 2) = !(l.length == 2) := by
        by_cases h2 : l.length = 2
        · rw [h2]; rfl
        · rw [bne_t (show (l.length : Int) ≠ 2 by omega), show (l.length == 2) = false by simpa using h2]; rfl
      rw [e2]
      cases join <;> cases (l.length == 2) <;> cases l.all in03 <;> rfl
end Tg

/- Sources: the reference. -/
set_option linter.unusedVariables false
set_option linter.unusedSimpArgs false
namespace Tg
open Go.Abs (fuel bigOk cloned tmm)

theorem any_drop_cons {l : IL} {k i : Nat} (hi : i ≤ l.length) (hk : k < i) (p : Int × Unit → Bool) : ((l.take i).drop k).any p = (p (l[k]'(by omega)) || ((l.take i).drop (k + 1)).any p) := by
  rw [List.drop_eq_getElem_cons (by rw [List.length_take]; omega), List.any_cons, List.getElem_take]

theorem ref_inner (l : IL) (h4 : l.length ≤ 4) (i : Nat) (x : Int × Unit) (hx : l[i]? = some x) : ∀ (c k n : Nat), k + c = i → c < n →
    ∃ m', n - c - 1 ≤ m' ∧ ref08_Sources_i22 n l (i : Int) (k : Int) = bif ((l.take i).drop k).any (fun y => y.1 == x.1) then some (43, ()) else ref08_Sources_i17 m' l ((i + 1 : Nat) : Int)
  | 0, k, n, hk, hn => by
    obtain ⟨m, rfl⟩ : ∃ m, n = m + 1 := ⟨n - 1, by omega⟩
    have hi : i < l.length := (List.getElem?_eq_some_iff.1 hx).1
    simp only [Nat.add_zero] at hk
    subst hk
    refine ⟨m, by omega, ?_⟩
    have e : ((l.take k).drop k).any (fun y => y.1 == x.1) = false := by rw [List.drop_of_length_le (by simp; omega)]; rfl
    rw [e]
    simp only [ref08_Sources_i22, ref08_Sources_c22, dF (show ¬ (k : Int) < (k : Int) by omega), cond_false, wadd1 (show k ≤ 1000000 by omega)]
  | c + 1, k, n, hk, hn => by
    obtain ⟨m, rfl⟩ : ∃ m, n = m + 1 := ⟨n - 1, by omega⟩
    have hi : i < l.length := (List.getElem?_eq_some_iff.1 hx).1
    have hkl : k < l.length := by omega
    obtain ⟨m', h1, h2⟩ := ref_inner l h4 i x hx c (k + 1) m (by omega) (by omega)
    refine ⟨m', by omega, ?_⟩
    rw [any_drop_cons (by omega) (by omega)]
    simp only [ref08_Sources_i22, ref08_Sources_c22, dT (show (k : Int) < (i : Int) by omega), cond_true, dT (Int.natCast_nonneg k), dT (Int.natCast_nonneg i), Int.toNat_natCast, List.getElem?_eq_getElem hkl, hx, wadd1 (show k ≤ 1000000 by omega), h2]
    cases (l[k].1 == x.1) <;> rfl

theorem ref_outer (l : IL) (h4 : l.length ≤ 4) : ∀ (rest : IL) (i n : Nat), i + rest.length = l.length → l.drop i = rest → 10 * rest.length + 1 ≤ n →
    ref08_Sources_i17 n l (i : Int) = some (bif dupFrom l i rest then 43 else 0, ())
  | [], i, n, hlen, hd, hn => by
    obtain ⟨m, rfl⟩ : ∃ m, n = m + 1 := ⟨n - 1, by omega⟩
    simp only [List.length_nil, Nat.add_zero] at hlen
    subst hlen
    simp only [ref08_Sources_i17, ref08_Sources_c17, Int.ofNat_eq_natCast, dF (show ¬ (l.length : Int) < (l.length : Int) by omega), cond_false, dupFrom]
  | x :: rest, i, n, hlen, hd, hn => by
    simp only [List.length_cons] at hlen hn
    obtain ⟨m, rfl⟩ : ∃ m, n = m + 1 := ⟨n - 1, by omega⟩
    have hx : l[i]? = some x := by
      have := congrArg (fun z => z[0]?) hd
      simpa using this
    have hd' : l.drop (i + 1) = rest := by
      have := congrArg (List.drop 1) hd
      simpa [List.drop_drop] using this
    obtain ⟨m', h1, h2⟩ := ref_inner l h4 i x hx i 0 m (by omega) (by omega)
    have ih := ref_outer l h4 rest (i + 1) m' (by omega) hd' (by omega)
    have h2' : ref08_Sources_i22 m l (i : Int) 0 = _ := h2
    simp only [ref08_Sources_i17, ref08_Sources_c17, Int.ofNat_eq_natCast, dT (show (i : Int) < (l.length : Int) by omega), cond_true, h2', ih, dupFrom, List.drop_zero]
    cases (l.take i).any (fun y => y.1 == x.1) <;> rfl

theorem ref_all (l : IL) (h4 : l.length ≤ 4) : ∀ (rest : IL) (i n : Nat), i + rest.length = l.length → l.drop i = rest → rest.length + 100 ≤ n →
    ref08_Sources_i9 n l (i : Int) = some (bif rest.all in03 then (bif dupFrom l 0 l then 43 else 0) else 8, ())
  | [], i, n, hlen, hd, hn => by
    obtain ⟨m, rfl⟩ : ∃ m, n = m + 2 := ⟨n - 2, by omega⟩
    simp only [List.length_nil, Nat.add_zero] at hlen
    subst hlen
    have ho := ref_outer l h4 l 0 m (by simp) (by simp) (by omega)
    have ho' : ref08_Sources_i17 m l 0 = _ := ho
    rw [show m + 2 = (m + 1) + 1 from rfl]
    simp only [ref08_Sources_i9, ref08_Sources_c9, Int.ofNat_eq_natCast, dF (show ¬ (l.length : Int) < (l.length : Int) by omega), cond_false, ref08_Sources_i7, ref08_Sources_c7, ho', List.all_nil, cond_true]
  | x :: rest, i, n, hlen, hd, hn => by
    simp only [List.length_cons] at hlen hn
    obtain ⟨m, rfl⟩ : ∃ m, n = m + 1 := ⟨n - 1, by omega⟩
    have hx : l[i]? = some x := by
      have := congrArg (fun z => z[0]?) hd
      simpa using this
    have hd' : l.drop (i + 1) = rest := by
      have := congrArg (List.drop 1) hd
      simpa [List.drop_drop] using this
    have ih := ref_all l h4 rest (i + 1) m (by omega) hd' (by omega)
    simp only [ref08_Sources_i9, ref08_Sources_c9, Int.ofNat_eq_natCast, dT (show (i : Int) < (l.length : Int) by omega), cond_true, dT (Int.natCast_nonneg i), Int.toNat_natCast, hx, wadd1 (show i ≤ 1000000 by omega), ih, List.all_cons]
    by_cases h0 : x.1 < 0
    · have e : in03 x = false := by unfold in03; rw [dF (by omega)]; rfl
      simp only [dT h0, cond_true, e, Bool.false_and, cond_false]
    · by_cases h4' : x.1 > 3
      · have e : in03 x = false := by unfold in03; rw [dF (show ¬ x.1 ≤ 3 by omega), Bool.and_false]
        simp only [dF h0, cond_false, dT h4', cond_true, e, Bool.false_and]
      · have e : in03 x = true := by unfold in03; rw [dT (by omega), dT (by omega)]; rfl
        simp only [dF h0, cond_false, dF h4', e, Bool.true_and]

theorem rsrcs_eq (l : IL) (join : Bool) : ref08_Sources l join = some (srcE l join, ()) := by
  obtain ⟨n, hn⟩ := fuel_s
  unfold ref08_Sources ref08_Sources_c srcE
  by_cases h4 : 4 < l.length
  · simp only [Int.ofNat_eq_natCast, dT (show (l.length : Int) > 4 by omega), cond_true, if_pos h4]
  · have hl := ref_all l (by omega) l 0 fuel (by simp) (by simp) (by rw [hn]; omega)
    have hl' : ref08_Sources_i9 fuel l 0 = _ := hl
    simp only [Int.ofNat_eq_natCast, dF (show ¬ (l.length : Int) > 4 by omega), cond_false, if_neg h4, hl']
    by_cases h0 : l.length = 0
    · have e : ((l.length : Int) == 0) = true := by simp [h0]
      simp only [e, cond_true, if_pos h0]
    · have e : ((l.length : Int) == 0) = false := by rw [beq_eq_false_iff_ne]; omega
      simp only [e, cond_false, if_neg h0]
      have e2 : ((l.length : Int) != 2) = !(l.length == 2) := by
        by_cases h2 : l.length = 2
        · rw [h2]; rfl
        · rw [bne_t (show (l.length : Int) ≠ 2 by omega), show (l.length == 2) = false by simpa using h2]; rfl
      rw [e2]
      cases join <;> cases (l.length == 2) <;> cases l.all in03 <;> rfl
end Tg

/- Clauses and checks. -/
set_option linter.unusedVariables false
set_option linter.unusedSimpArgs false
namespace Tg
open Go.Abs (fuel bigOk cloned tmm)
abbrev Qr := Int × List (Int × Int × Int × Int × Int × Unit) × List (Int × Unit) × Bool × List (Int × Int × Int × Int × Int × Unit) × Int × Int × Int × Bool × Int × Unit

def fitW (w : Int × Int × Int × Unit) : Bool :=
  !decide (w.2.1 < 1) && (!decide (w.2.1 > 1073741824) && (bif w.1 == 2 then decide (w.2.2.1 ≥ 1) && (decide (w.2.2.1 ≤ w.2.1) && decide (w.2.1 ≤ Go.IntKind.wrap Go.IntKind.i64 (16 * w.2.2.1))) else ((w.1 == 1 || w.1 == 3) && w.2.2.1 == 0)))
theorem fits_w (w : Int × Int × Int × Unit) : ref08_Fits w = some (fitW w, ()) := by
  unfold ref08_Fits fitW
  cases decide (w.2.1 < 1) <;> cases decide (w.2.1 > 1073741824) <;> cases (w.1 == 2) <;> cases (w.1 == 1) <;> cases (w.1 == 3) <;> cases decide (w.2.2.1 ≥ 1) <;> cases decide (w.2.2.1 ≤ w.2.1) <;> rfl
theorem win_w (w : Int × Int × Int × Unit) : clauses_Window w = some (bif fitW w then 0 else 8, ()) := by
  unfold clauses_Window fitW
  cases decide (w.2.1 < 1) <;> cases decide (w.2.1 > 1073741824) <;> cases (w.1 == 2) <;> cases (w.1 == 1) <;> cases (w.1 == 3) <;> cases decide (w.2.2.1 ≥ 1) <;> cases decide (w.2.2.1 ≤ w.2.1) <;> cases decide (w.2.1 ≤ Go.IntKind.wrap Go.IntKind.i64 (16 * w.2.2.1)) <;> cases (w.2.2.1 == 0) <;> rfl

def tailC (q : Qr) : Int := bif srcE q.2.2.1 q.2.2.2.1 == 0 then (bif fitW (q.2.2.2.2.2.1, q.2.2.2.2.2.2.1, q.2.2.2.2.2.2.2.1, ()) && !(q.2.2.2.1 && q.2.2.2.2.2.1 != 1) then 0 else 8) else srcE q.2.2.1 q.2.2.2.1
def whereC (q : Qr) : Int := bif decide ((q.2.2.2.2.1.length : Int) > 0) && errN q.2.2.2.2.1 != 0 then errN q.2.2.2.2.1 else tailC q
def chkC (q : Qr) : Int :=
  bif decide (q.1 < 1) || (decide (q.1 > 4) || (decide (q.2.2.2.2.2.2.2.2.2.1 < 1) || decide (q.2.2.2.2.2.2.2.2.2.1 > 2))) then 8
  else bif q.1 == 1 then (bif decide ((q.2.1.length : Int) > 0) then 8 else whereC q)
  else bif errN q.2.1 != 0 then errN q.2.1 else whereC q

theorem c12_eq (m : Nat) (q : Qr) : clauses_Check_i12 (m + 1) q.2.2.1 q.2.2.2.1 q.2.2.2.2.2.1 q.2.2.2.2.2.2.1 q.2.2.2.2.2.2.2.1 = some (tailC q, ()) := by
  simp only [clauses_Check_i12, clauses_Check_c12, srcs_eq, win_w]
  unfold tailC
  by_cases h : srcE q.2.2.1 q.2.2.2.1 = 0
  · have e : (srcE q.2.2.1 q.2.2.2.1 == 0) = true := by simpa using h
    simp only [bne_f h, cond_false, e, cond_true]
    cases q.2.2.2.1 <;> cases (q.2.2.2.2.2.1 != 1) <;> cases fitW (q.2.2.2.2.2.1, q.2.2.2.2.2.2.1, q.2.2.2.2.2.2.2.1, ()) <;> rfl
  · have e : (srcE q.2.2.1 q.2.2.2.1 == 0) = false := by simpa using h
    simp only [bne_t h, cond_true, e, cond_false]
theorem c4_eq (m : Nat) (q : Qr) : clauses_Check_i4 (m + 2) q.2.2.1 q.2.2.2.1 q.2.2.2.2.1 q.2.2.2.2.2.1 q.2.2.2.2.2.2.1 q.2.2.2.2.2.2.2.1 = some (whereC q, ()) := by
  rw [show m + 2 = (m + 1) + 1 from rfl]
  simp only [clauses_Check_i4, clauses_Check_c4, ncheck_eq, c12_eq, Int.ofNat_eq_natCast]
  unfold whereC
  cases decide ((q.2.2.2.2.1.length : Int) > 0) with
  | false => rfl
  | true =>
    cases (errN q.2.2.2.2.1 != 0) <;> rfl
theorem late_eq (x : Int) : (x != 1 && x != 2) = (decide (x < 1) || decide (x > 2)) := by
  by_cases h1 : x = 1
  · subst h1; rfl
  · by_cases h2 : x = 2
    · subst h2; rfl
    · rw [bne_t h1, bne_t h2]
      by_cases h3 : x < 1
      · rw [dT h3]; rfl
      · rw [dF h3, dT (show x > 2 by omega)]; rfl
theorem clauses_eq (q : Qr) : clauses_Check q = some (chkC q, ()) := by
  obtain ⟨n, hn⟩ := fuel_s
  have h4 : clauses_Check_i4 fuel q.2.2.1 q.2.2.2.1 q.2.2.2.2.1 q.2.2.2.2.2.1 q.2.2.2.2.2.2.1 q.2.2.2.2.2.2.2.1 = some (whereC q, ()) := by
    rw [hn]
    exact c4_eq (n + 999998) q
  unfold clauses_Check clauses_Check_c chkC
  simp only [h4, ncheck_eq, Int.ofNat_eq_natCast]
  rw [← late_eq q.2.2.2.2.2.2.2.2.2.1]
  have hb : (q.1 != 1) = !(q.1 == 1) := rfl
  rw [hb]
  cases decide (q.1 < 1) <;> cases decide (q.1 > 4) <;> cases (q.2.2.2.2.2.2.2.2.2.1 != 1) <;> cases (q.2.2.2.2.2.2.2.2.2.1 != 2) <;> cases (q.1 == 1) <;> cases decide ((q.2.1.length : Int) > 0) <;> cases (errN q.2.1 != 0) <;> rfl
theorem bne_beq (x : Int) : (x != 0) = !(x == 0) := rfl
theorem rclauses_eq (q : Qr) : ref08_Check q = some (chkC q, ()) := by
  unfold ref08_Check chkC whereC tailC
  simp only [rcheck_eq, rsrcs_eq, fits_w, Int.ofNat_eq_natCast, bne_beq]
  have hb : (q.1 != 1) = !(q.1 == 1) := rfl
  rw [hb]
  cases decide (q.1 < 1) with
  | true => rfl
  | false =>
  cases decide (q.1 > 4) with
  | true => rfl
  | false =>
  cases decide (q.2.2.2.2.2.2.2.2.2.1 < 1) with
  | true => rfl
  | false =>
  cases decide (q.2.2.2.2.2.2.2.2.2.1 > 2) with
  | true => rfl
  | false =>
  cases (q.1 == 1) <;> cases decide ((q.2.1.length : Int) > 0) <;> cases (errN q.2.1 == 0) <;> cases decide ((q.2.2.2.2.1.length : Int) > 0) <;> cases (errN q.2.2.2.2.1 == 0) <;> cases (srcE q.2.2.1 q.2.2.2.1 == 0) <;>
    cases fitW (q.2.2.2.2.2.1, q.2.2.2.2.2.2.1, q.2.2.2.2.2.2.2.1, ()) <;> cases q.2.2.2.1 <;> cases (q.2.2.2.2.2.1 != 1) <;> rfl
end Tg

/- The check of a query is the reference's. -/
set_option linter.unusedVariables false
set_option linter.unusedSimpArgs false
namespace Tg
open Go.Abs (fuel bigOk cloned tmm)

def atOf (l : List Nd) (p : Int) : Int := (l.getD p.toNat (0, 0, 0, 0, 0, ())).2.2.2.2.1
def whQ (l : List Nd) (t : Bool) (r : Int × Int × Unit) : Int × Int × Unit :=
  bif l.length == 0 then r else bif (wantK l t).2.1 == 0 then r else (atOf l (wantK l t).1, (wantK l t).2.1, ())
def chkQ (q : Qr) : Int × Int × Unit := bif chkC q == 0 then whQ q.2.1 false (whQ q.2.2.2.2.1 true (0, 0, ())) else (0, chkC q, ())

theorem chkC0 {q : Qr} (h : chkC q = 0) : (q.2.1.length ≠ 0 → errN q.2.1 = 0) ∧ (q.2.2.2.2.1.length ≠ 0 → errN q.2.2.2.2.1 = 0) ∧ fitW (q.2.2.2.2.2.1, q.2.2.2.2.2.2.1, q.2.2.2.2.2.2.2.1, ()) = true := by
  have hw : ∀ q : Qr, whereC q = 0 → (q.2.2.2.2.1.length ≠ 0 → errN q.2.2.2.2.1 = 0) ∧ fitW (q.2.2.2.2.2.1, q.2.2.2.2.2.2.1, q.2.2.2.2.2.2.2.1, ()) = true := by
    intro q h
    unfold whereC at h
    have ht : tailC q = 0 → fitW (q.2.2.2.2.2.1, q.2.2.2.2.2.2.1, q.2.2.2.2.2.2.2.1, ()) = true := by
      intro h
      unfold tailC at h
      cases hs : (srcE q.2.2.1 q.2.2.2.1 == 0) with
      | false => rw [hs] at h; simp only [cond_false] at h; simp [h] at hs
      | true =>
        rw [hs] at h
        cases hf : fitW (q.2.2.2.2.2.1, q.2.2.2.2.2.2.1, q.2.2.2.2.2.2.2.1, ()) with
        | true => rfl
        | false => rw [hf] at h; simp at h
    by_cases he : errN q.2.2.2.2.1 = 0
    · refine ⟨fun _ => he, ht ?_⟩
      rw [bne_f he, Bool.and_false] at h
      exact h
    · rw [bne_t he, Bool.and_true] at h
      by_cases h0 : q.2.2.2.2.1.length = 0
      · refine ⟨fun hn => absurd h0 hn, ht ?_⟩
        rw [dF (by omega)] at h
        exact h
      · rw [dT (by omega)] at h
        exact absurd h he
  unfold chkC at h
  cases hb : (decide (q.1 < 1) || (decide (q.1 > 4) || (decide (q.2.2.2.2.2.2.2.2.2.1 < 1) || decide (q.2.2.2.2.2.2.2.2.2.1 > 2)))) with
  | true => rw [hb] at h; simp at h
  | false =>
    rw [hb] at h
    simp only [cond_false] at h
    cases h1 : (q.1 == 1) with
    | true =>
      rw [h1] at h
      simp only [cond_true] at h
      by_cases h0 : q.2.1.length = 0
      · rw [dF (by omega)] at h
        exact ⟨fun hn => absurd h0 hn, hw q h⟩
      · rw [dT (by omega)] at h
        simp at h
    | false =>
      rw [h1] at h
      simp only [cond_false] at h
      by_cases he : errN q.2.1 = 0
      · rw [bne_f he] at h
        exact ⟨fun _ => he, hw q h⟩
      · rw [bne_t he] at h
        exact absurd h he

theorem checks_eq (q : Qr) : checks_Check q = some (chkQ q) := by
  unfold checks_Check chkQ
  simp only [clauses_eq, bne_beq]
  by_cases h : chkC q = 0
  · obtain ⟨ha, hw, _⟩ := chkC0 h
    have e : (chkC q == 0) = true := by simpa using h
    simp only [e, Bool.not_true, cond_false, cond_true, knum_eq, ktruth_eq, Int.ofNat_eq_natCast]
    have wh : ∀ {α : Type} (f : Int × Int × Unit → α), True := fun _ => trivial
    unfold whQ
    have e1 : ((q.2.1.length : Int) == 0) = (q.2.1.length == 0) := by
      rw [Bool.eq_iff_iff, beq_iff_eq, beq_iff_eq]; omega
    have e2 : ((q.2.2.2.2.1.length : Int) == 0) = (q.2.2.2.2.1.length == 0) := by
      rw [Bool.eq_iff_iff, beq_iff_eq, beq_iff_eq]; omega
    rw [e1, e2]
    by_cases h1 : q.2.1.length = 0
    · have f1 : (q.2.1.length == 0) = true := by simpa using h1
      simp only [f1, cond_true]
      by_cases h2 : q.2.2.2.2.1.length = 0
      · have f2 : (q.2.2.2.2.1.length == 0) = true := by simpa using h2
        simp only [f2, cond_true]
      · have f2 : (q.2.2.2.2.1.length == 0) = false := by simpa using h2
        obtain ⟨w1, w2⟩ := wantK_at (t := true) (show 0 < q.2.2.2.2.1.length by omega) (hw h2)
        simp only [f2, cond_false, dT w1, cond_true, getD_of w2]
        cases ((wantK q.2.2.2.2.1 true).2.1 == 0) <;> rfl
    · have f1 : (q.2.1.length == 0) = false := by simpa using h1
      obtain ⟨v1, v2⟩ := wantK_at (t := false) (show 0 < q.2.1.length by omega) (ha h1)
      simp only [f1, cond_false, dT v1, cond_true, getD_of v2]
      by_cases h2 : q.2.2.2.2.1.length = 0
      · have f2 : (q.2.2.2.2.1.length == 0) = true := by simpa using h2
        simp only [f2, cond_true]
        cases ((wantK q.2.1 false).2.1 == 0) <;> rfl
      · have f2 : (q.2.2.2.2.1.length == 0) = false := by simpa using h2
        obtain ⟨w1, w2⟩ := wantK_at (t := true) (show 0 < q.2.2.2.2.1.length by omega) (hw h2)
        simp only [f2, cond_false, dT w1, cond_true, getD_of w2]
        cases ((wantK q.2.1 false).2.1 == 0) <;> cases ((wantK q.2.2.2.2.1 true).2.1 == 0) <;> rfl
  · have e : (chkC q == 0) = false := by simpa using h
    simp only [e, Bool.not_false, cond_true, cond_false]

theorem rright1_eq (m : Nat) (l : List Nd) (hl : l.length ≠ 0 → errN l = 0) : ref10_Right_i1 (m + 1) l = some (whQ l true (0, 0, ())) := by
  simp only [ref10_Right_i1, ref10_Right_c1, rwant_eq, bne_beq, Int.ofNat_eq_natCast]
  unfold whQ
  by_cases h2 : l.length = 0
  · have f2 : (l.length == 0) = true := by simpa using h2
    simp only [f2, cond_true, dF (show ¬ (l.length : Int) > 0 by omega), cond_false]
  · have f2 : (l.length == 0) = false := by simpa using h2
    obtain ⟨w1, w2⟩ := wantK_at (t := true) (show 0 < l.length by omega) (hl h2)
    simp only [f2, cond_false, dT (show (l.length : Int) > 0 by omega), dT w1, cond_true, getD_of w2]
    cases ((wantK l true).2.1 == 0) <;> rfl
theorem rchecks_eq (q : Qr) : ref10_Check q = some (chkQ q) := by
  unfold ref10_Check chkQ
  simp only [rclauses_eq, bne_beq]
  by_cases h : chkC q = 0
  · obtain ⟨ha, hw, _⟩ := chkC0 h
    obtain ⟨n, hn⟩ := fuel_s
    have hr : ref10_Right_i1 fuel q.2.2.2.2.1 = some (whQ q.2.2.2.2.1 true (0, 0, ())) := by
      rw [hn]
      exact rright1_eq (n + 999999) _ hw
    have e : (chkC q == 0) = true := by simpa using h
    simp only [e, Bool.not_true, cond_false, cond_true]
    unfold ref10_Right ref10_Right_c
    simp only [rwant_eq, bne_beq, Int.ofNat_eq_natCast, hr]
    rw [show whQ q.2.1 false (whQ q.2.2.2.2.1 true (0, 0, ())) = (bif q.2.1.length == 0 then (whQ q.2.2.2.2.1 true (0, 0, ())) else bif (wantK q.2.1 false).2.1 == 0 then (whQ q.2.2.2.2.1 true (0, 0, ())) else (atOf q.2.1 (wantK q.2.1 false).1, (wantK q.2.1 false).2.1, ())) from rfl]
    by_cases h1 : q.2.1.length = 0
    · have f1 : (q.2.1.length == 0) = true := by simpa using h1
      simp only [f1, cond_true, dF (show ¬ (q.2.1.length : Int) > 0 by omega), cond_false]
    · have f1 : (q.2.1.length == 0) = false := by simpa using h1
      obtain ⟨v1, v2⟩ := wantK_at (t := false) (show 0 < q.2.1.length by omega) (ha h1)
      simp only [f1, cond_false, dT (show (q.2.1.length : Int) > 0 by omega), dT v1, cond_true, getD_of v2]
      cases ((wantK q.2.1 false).2.1 == 0) <;> rfl
  · have e : (chkC q == 0) = false := by simpa using h
    simp only [e, Bool.not_false, cond_true, cond_false]
end Tg
