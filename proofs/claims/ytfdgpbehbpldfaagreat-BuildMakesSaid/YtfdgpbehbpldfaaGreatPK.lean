import Derived.Test.YtfdgpbehbpldfaaGreatPN
/- Kinds: what fits. -/
set_option linter.unusedVariables false
set_option linter.unusedSimpArgs false
namespace Tg
open Go.Abs (fuel bigOk cloned tmm)

def gv (k : Int) : Bool := (k == 6) || decide (12 ≤ k)
def isAt (is : List (Bool × Unit)) (p : Int) : Bool := (is.getD p.toNat (false, ())).1
theorem isAt_get {is : List (Bool × Unit)} {p : Int} (h : p.toNat < is.length) : is[p.toNat]? = some (isAt is p, ()) := by
  simp [isAt, List.getD_eq_getElem?_getD, List.getElem?_eq_getElem h]

section
variable (is : List (Bool × Unit)) (l : List Nd) (i : Nat) (len : Int) (g : Bool)

theorem step40 (m k : Nat) (ps : List (Int × Unit)) (p : Int × Unit) (hk : k < ps.length) (hp : ps[k]? = some p) (h0 : 0 ≤ p.1) (h1 : p.1.toNat < is.length) (hs : ps.length ≤ 1000) :
    kinds_told_i40 (m + 1) true is ps (ps.length : Int) (k : Int) l (i : Int) g l len (i : Int) true true =
    bif isAt is p.1 then kinds_told_i40 m true is ps (ps.length : Int) ((k + 1 : Nat) : Int) l (i : Int) g l len (i : Int) true true else some ([], (i : Int), ()) := by
  simp only [kinds_told_i40, kinds_told_c40, dT (show (k : Int) < (ps.length : Int) by omega), cond_true, dT (Int.natCast_nonneg k), Int.toNat_natCast, hp, dT h0, dT h1, isAt_get h1, wadd1 (show k ≤ 1000000 by omega)]
  cases isAt is p.1 <;> rfl
theorem end40 (m : Nat) (ps : List (Int × Unit)) (hi : is.length ≤ 1000) (hi2 : i ≤ 1000) :
    kinds_told_i40 (m + 1) true is ps (ps.length : Int) (ps.length : Int) l (i : Int) g l len (i : Int) true true = kinds_told_i6 m l (is ++ [(g, ())]) l len ((i + 1 : Nat) : Int) := by
  have b1 : bigOk (is.length + [(g, ())].length) 1 = true := big_ok (by simp; omega) (by omega)
  simp only [kinds_told_i40, kinds_told_c40, dF (show ¬ (ps.length : Int) < (ps.length : Int) by omega), cond_true, cond_false, b1, wadd1 (show i ≤ 1000000 by omega)]
theorem step28 (m k pl : Nat) (ps : List (Int × Unit)) (m1 : Bool) (p : Int × Unit) (hk : k < pl) (hp : ps[k]? = some p) (h0 : 0 ≤ p.1) (h1 : p.1.toNat < is.length) (hs : pl ≤ 1000) :
    kinds_told_i28 (m + 1) false is ps (pl : Int) (pl : Int) (k : Int) l (i : Int) m1 g 0 (pl : Int) l len (i : Int) true =
    bif isAt is p.1 then (bif m1 then kinds_told_i40 m true is (ps.take pl) (pl : Int) 0 l (i : Int) g l len (i : Int) true true else some ([], (i : Int), ()))
    else kinds_told_i28 m false is ps (pl : Int) (pl : Int) ((k + 1 : Nat) : Int) l (i : Int) m1 g 0 (pl : Int) l len (i : Int) true := by
  simp only [kinds_told_i28, kinds_told_c28, dT (show (k : Int) < (pl : Int) by omega), cond_true, dT (Int.natCast_nonneg k), Int.toNat_natCast, Nat.zero_add, dT hk, hp, dT h0, dT h1, isAt_get h1, wadd1 (show k ≤ 1000000 by omega), Int.ofNat_eq_natCast]
  cases isAt is p.1 <;> rfl
theorem end28 (m pl : Nat) (ps : List (Int × Unit)) (m1 : Bool) (hi : is.length ≤ 1000) (hi2 : i ≤ 1000) :
    kinds_told_i28 (m + 1) false is ps (pl : Int) (pl : Int) (pl : Int) l (i : Int) m1 g 0 (pl : Int) l len (i : Int) true = kinds_told_i6 m l (is ++ [(g, ())]) l len ((i + 1 : Nat) : Int) := by
  have b1 : bigOk (is.length + [(g, ())].length) 1 = true := big_ok (by simp; omega) (by omega)
  simp only [kinds_told_i28, kinds_told_c28, dF (show ¬ (pl : Int) < (pl : Int) by omega), cond_true, cond_false, b1, wadd1 (show i ≤ 1000000 by omega)]

theorem t40 (R : Option (List (Bool × Unit) × Int × Unit) → Prop) (m : Nat) (A B : Int) (two : Bool) (hA : 0 ≤ A ∧ A.toNat < is.length) (hB : two = true → 0 ≤ B ∧ B.toNat < is.length) (hi : is.length ≤ 1000) (hi2 : i ≤ 1000)
    (hT : (isAt is A && (!two || isAt is B)) = true → ∀ m', m ≤ m' → R (kinds_told_i6 m' l (is ++ [(g, ())]) l len ((i + 1 : Nat) : Int)))
    (hF : (isAt is A && (!two || isAt is B)) = false → R (some ([], (i : Int), ()))) :
    R (kinds_told_i40 (m + 3) true is ([(A, ()), (B, ())].take (bif two then 2 else 1)) (((bif two then 2 else 1 : Nat)) : Int) 0 l (i : Int) g l len (i : Int) true true) := by
  cases two with
  | false =>
    have s0 := step40 is l i len g (m + 2) 0 [(A, ())] (A, ()) (by simp) rfl hA.1 hA.2 (by simp)
    have s1 := end40 is l i len g (m + 1) [(A, ())] hi hi2
    show R (kinds_told_i40 (m + 2 + 1) true is [(A, ())] (([(A, ())] : List (Int × Unit)).length : Int) ((0 : Nat) : Int) l (i : Int) g l len (i : Int) true true)
    rw [s0]
    cases hv : isAt is A with
    | false =>
      rw [hv] at hF
      exact hF rfl
    | true =>
      rw [hv] at hT
      show R (kinds_told_i40 (m + 1 + 1) true is [(A, ())] (([(A, ())] : List (Int × Unit)).length : Int) (([(A, ())] : List (Int × Unit)).length : Int) l (i : Int) g l len (i : Int) true true)
      rw [s1]
      exact hT rfl _ (by omega)
  | true =>
    have s0 := step40 is l i len g (m + 2) 0 [(A, ()), (B, ())] (A, ()) (by simp) rfl hA.1 hA.2 (by simp)
    have s1 := step40 is l i len g (m + 1) 1 [(A, ()), (B, ())] (B, ()) (by simp) rfl (hB rfl).1 (hB rfl).2 (by simp)
    have s2 := end40 is l i len g m [(A, ()), (B, ())] hi hi2
    show R (kinds_told_i40 (m + 2 + 1) true is [(A, ()), (B, ())] (([(A, ()), (B, ())] : List (Int × Unit)).length : Int) ((0 : Nat) : Int) l (i : Int) g l len (i : Int) true true)
    rw [s0]
    cases hv : isAt is A with
    | false =>
      rw [hv] at hF
      exact hF rfl
    | true =>
      rw [hv] at hT hF
      show R (kinds_told_i40 (m + 1 + 1) true is [(A, ()), (B, ())] (([(A, ()), (B, ())] : List (Int × Unit)).length : Int) ((1 : Nat) : Int) l (i : Int) g l len (i : Int) true true)
      rw [s1]
      cases hv2 : isAt is B with
      | false =>
        rw [hv2] at hF
        exact hF rfl
      | true =>
        rw [hv2] at hT
        show R (kinds_told_i40 (m + 1) true is [(A, ()), (B, ())] (([(A, ()), (B, ())] : List (Int × Unit)).length : Int) (([(A, ()), (B, ())] : List (Int × Unit)).length : Int) l (i : Int) g l len (i : Int) true true)
        rw [s2]
        exact hT rfl _ (by omega)

theorem t28 (R : Option (List (Bool × Unit) × Int × Unit) → Prop) (m : Nat) (A B : Int) (two m1 : Bool) (hA : 0 ≤ A ∧ A.toNat < is.length) (hB : two = true → 0 ≤ B ∧ B.toNat < is.length) (hi : is.length ≤ 1000) (hi2 : i ≤ 1000)
    (hT : ((!isAt is A && (!two || !isAt is B)) || (m1 && (isAt is A && (!two || isAt is B)))) = true → ∀ m', m ≤ m' → R (kinds_told_i6 m' l (is ++ [(g, ())]) l len ((i + 1 : Nat) : Int)))
    (hF : ((!isAt is A && (!two || !isAt is B)) || (m1 && (isAt is A && (!two || isAt is B)))) = false → R (some ([], (i : Int), ()))) :
    R (kinds_told_i28 (m + 6) false is [(A, ()), (B, ())] (((bif two then 2 else 1 : Nat)) : Int) (((bif two then 2 else 1 : Nat)) : Int) 0 l (i : Int) m1 g 0 (((bif two then 2 else 1 : Nat)) : Int) l len (i : Int) true) := by
  have go40 : ∀ mm, m ≤ mm → (!isAt is A && (!two || !isAt is B)) = false → m1 = true → R (kinds_told_i40 (mm + 3) true is ([(A, ()), (B, ())].take (bif two then 2 else 1)) (((bif two then 2 else 1 : Nat)) : Int) 0 l (i : Int) g l len (i : Int) true true) := fun mm hm h1 h2 =>
    t40 is l i len g R mm A B two hA hB hi hi2 (fun h m' hm' => hT (by rw [h1, h2, h]; rfl) m' (by omega)) (fun h => hF (by rw [h1, h2, h]; rfl))
  have pls : (bif two then 2 else 1 : Nat) ≤ 1000 := by cases two <;> decide
  have plp : 0 < (bif two then 2 else 1 : Nat) := by cases two <;> decide
  have s0 := step28 is l i len g (m + 5) 0 (bif two then 2 else 1) [(A, ()), (B, ())] m1 (A, ()) plp rfl hA.1 hA.2 pls
  show R (kinds_told_i28 (m + 5 + 1) false is [(A, ()), (B, ())] (((bif two then 2 else 1 : Nat)) : Int) (((bif two then 2 else 1 : Nat)) : Int) ((0 : Nat) : Int) l (i : Int) m1 g 0 (((bif two then 2 else 1 : Nat)) : Int) l len (i : Int) true)
  rw [s0]
  cases hv : isAt is A with
  | true =>
    cases m1 with
    | false => exact hF (by rw [hv]; rfl)
    | true => exact go40 (m + 2) (by omega) (by rw [hv]; rfl) rfl
  | false =>
    cases two with
    | false =>
      have s1 := end28 is l i len g (m + 4) 1 [(A, ()), (B, ())] m1 hi hi2
      show R (kinds_told_i28 (m + 4 + 1) false is [(A, ()), (B, ())] ((1 : Nat) : Int) ((1 : Nat) : Int) ((1 : Nat) : Int) l (i : Int) m1 g 0 ((1 : Nat) : Int) l len (i : Int) true)
      rw [s1]
      exact hT (by rw [hv]; rfl) _ (by omega)
    | true =>
      have s1 := step28 is l i len g (m + 4) 1 2 [(A, ()), (B, ())] m1 (B, ()) (by omega) rfl (hB rfl).1 (hB rfl).2 (by omega)
      show R (kinds_told_i28 (m + 4 + 1) false is [(A, ()), (B, ())] ((2 : Nat) : Int) ((2 : Nat) : Int) ((1 : Nat) : Int) l (i : Int) m1 g 0 ((2 : Nat) : Int) l len (i : Int) true)
      rw [s1]
      cases hv2 : isAt is B with
      | true =>
        cases m1 with
        | false => exact hF (by rw [hv, hv2]; rfl)
        | true => exact go40 (m + 1) (by omega) (by rw [hv, hv2]; rfl) rfl
      | false =>
        have s2 := end28 is l i len g (m + 3) 2 [(A, ()), (B, ())] m1 hi hi2
        show R (kinds_told_i28 (m + 3 + 1) false is [(A, ()), (B, ())] ((2 : Nat) : Int) ((2 : Nat) : Int) ((2 : Nat) : Int) l (i : Int) m1 g 0 ((2 : Nat) : Int) l len (i : Int) true)
        rw [s2]
        exact hT (by rw [hv, hv2]; rfl) _ (by omega)

theorem t14 (R : Option (List (Bool × Unit) × Int × Unit) → Prop) (m : Nat) (A B : Int) (two m0 m1 : Bool) (hA : 0 ≤ A ∧ A.toNat < is.length) (hB : two = true → 0 ≤ B ∧ B.toNat < is.length) (hi : is.length ≤ 1000) (hi2 : i ≤ 1000)
    (hT : ((m0 && (!isAt is A && (!two || !isAt is B))) || (m1 && (isAt is A && (!two || isAt is B)))) = true → ∀ m', m ≤ m' → R (kinds_told_i6 m' l (is ++ [(g, ())]) l len ((i + 1 : Nat) : Int)))
    (hF : ((m0 && (!isAt is A && (!two || !isAt is B))) || (m1 && (isAt is A && (!two || isAt is B)))) = false → R (some ([], (i : Int), ()))) :
    R (kinds_told_i14 (m + 7) l is (i : Int) m0 m1 g [(A, ()), (B, ())] (((bif two then 2 else 1 : Nat)) : Int) l len (i : Int)) := by
  show R (kinds_told_i14 (m + 6 + 1) l is (i : Int) m0 m1 g [(A, ()), (B, ())] (((bif two then 2 else 1 : Nat)) : Int) l len (i : Int))
  simp only [kinds_told_i14, kinds_told_c14, Int.toNat_natCast, Int.ofNat_eq_natCast, List.drop_zero]
  cases m0 with
  | true => exact t28 is l i len g R m A B two m1 hA hB hi hi2 (fun h => hT (by rw [Bool.true_and]; exact h)) (fun h => hF (by rw [Bool.true_and]; exact h))
  | false =>
    cases m1 with
    | true => exact t40 is l i len g R (m + 3) A B two hA hB hi hi2 (fun h m' hm => hT (by rw [h]; rfl) m' (by omega)) (fun h => hF (by rw [h]; rfl))
    | false => exact hF rfl
end
end Tg

/- Kinds: told, and what the reference says. -/
set_option linter.unusedVariables false
set_option linter.unusedSimpArgs false
namespace Tg
open Go.Abs (fuel bigOk cloned tmm)

def gAt (l : List Nd) (p : Int) : Bool := gv (l.getD p.toNat (0, 0, 0, 0, 0, ())).1
def fitS (l : List Nd) (x : Nd) : Bool :=
  if x.1 ≤ 4 then true
  else if x.1 = 5 then !gAt l x.2.2.1
  else if x.1 = 6 then gAt l x.2.2.1
  else if x.1 = 16 ∨ x.1 = 17 then gAt l x.2.2.1 == gAt l x.2.2.2.1
  else if 18 ≤ x.1 then gAt l x.2.2.1 && gAt l x.2.2.2.1
  else !gAt l x.2.2.1 && !gAt l x.2.2.2.1
def badFrom (l : List Nd) : Nat → List Nd → Nat
  | i, [] => i
  | i, x :: r => bif fitS l x then badFrom l (i + 1) r else i

def okN (i : Nat) (x : Nd) : Prop :=
  1 ≤ x.1 ∧ x.1 ≤ 19 ∧ 0 ≤ x.2.2.1 ∧ x.2.2.1 ≤ i ∧ 0 ≤ x.2.2.2.1 ∧ x.2.2.2.1 ≤ i ∧ (4 < x.1 → x.2.2.1 < i) ∧ (6 < x.1 → x.2.2.2.1 < i)

def gvs (l : List Nd) : List (Bool × Unit) := l.map fun x => (gv x.1, ())
theorem gvs_len (l : List Nd) : (gvs l).length = l.length := by simp [gvs]
theorem isAt_take {l : List Nd} {i : Nat} {p : Int} (h0 : 0 ≤ p) (h : p < i) (hi : i ≤ l.length) : isAt (gvs (l.take i)) p = gAt l p := by
  unfold isAt gAt gvs
  have h1 : p.toNat < l.length := by omega
  have h2 : p.toNat < i := by omega
  simp [List.getD_eq_getElem?_getD, List.getElem?_eq_getElem h1, List.getElem?_take, h2]

theorem told_loop (l : List Nd) (hl : l.length ≤ 1000) (hok : ∀ i x, l[i]? = some x → okN i x) : ∀ (rest : List Nd) (i n : Nat), i + rest.length = l.length → l.drop i = rest → 9 * rest.length + 1 ≤ n →
    kinds_told_i6 n l (gvs (l.take i)) l (l.length : Int) (i : Int) = some (bif badFrom l i rest == l.length then gvs l else [], (badFrom l i rest : Int), ())
  | [], i, n, hlen, hd, hn => by
    obtain ⟨m, rfl⟩ : ∃ m, n = m + 1 := ⟨n - 1, by omega⟩
    simp only [List.length_nil, Nat.add_zero] at hlen
    subst hlen
    simp only [kinds_told_i6, kinds_told_c6, dF (show ¬ (l.length : Int) < (l.length : Int) by omega), cond_false, Int.ofNat_eq_natCast, badFrom, beq_self_eq_true, cond_true, List.take_length]
  | x :: rest, i, n, hlen, hd, hn => by
    simp only [List.length_cons] at hlen hn
    obtain ⟨m, rfl⟩ : ∃ m, n = m + 9 := ⟨n - 9, by omega⟩
    have hx : l[i]? = some x := by
      have := congrArg (fun z => z[0]?) hd
      simpa using this
    have hd' : l.drop (i + 1) = rest := by
      have := congrArg (List.drop 1) hd
      simpa [List.drop_drop] using this
    have hlt : i < l.length := by omega
    obtain ⟨k1, k2, a0, a1, b0, b1, a2, b2⟩ := hok i x hx
    have htl : (gvs (l.take i)).length = i := by rw [gvs_len, List.length_take]; omega
    have happ : gvs (l.take i) ++ [(gv x.1, ())] = gvs (l.take (i + 1)) := by
      rw [List.take_add_one, hx]
      simp [gvs]
    have ih := fun m' (h : m ≤ m') => told_loop l hl hok rest (i + 1) m' (by omega) hd' (by omega)
    have next : ∀ m', m ≤ m' → fitS l x = true → kinds_told_i6 m' l (gvs (l.take i) ++ [(gv x.1, ())]) l (l.length : Int) ((i + 1 : Nat) : Int) = some (bif badFrom l i (x :: rest) == l.length then gvs l else [], (badFrom l i (x :: rest) : Int), ()) := by
      intro m' hm hf
      rw [happ, ih m' hm]
      simp only [badFrom, hf, cond_true]
    have stop : fitS l x = false → (some (([] : List (Bool × Unit)), (i : Int), ()) : Option (List (Bool × Unit) × Int × Unit)) = some (bif badFrom l i (x :: rest) == l.length then gvs l else [], (badFrom l i (x :: rest) : Int), ()) := by
      intro hf
      have e : (i == l.length) = false := by simp; omega
      simp only [badFrom, hf, cond_false, e]
    -- a node with parts
    have node : ∀ (g two m0 m1 : Bool), g = gv x.1 → 4 < x.1 → (two = true → 6 < x.1) →
        fitS l x = ((m0 && (!gAt l x.2.2.1 && (!two || !gAt l x.2.2.2.1))) || (m1 && (gAt l x.2.2.1 && (!two || gAt l x.2.2.2.1)))) →
        kinds_told_i14 (m + 8) l (gvs (l.take i)) (i : Int) m0 m1 g [(x.2.2.1, ()), (x.2.2.2.1, ())] (((bif two then 2 else 1 : Nat)) : Int) l (l.length : Int) (i : Int) = some (bif badFrom l i (x :: rest) == l.length then gvs l else [], (badFrom l i (x :: rest) : Int), ()) := by
      intro g two m0 m1 hg h4 h6 hf
      subst hg
      have eA := isAt_take a0 (a2 h4) (show i ≤ l.length by omega)
      refine t14 (gvs (l.take i)) l i (l.length : Int) (gv x.1) (fun z => z = _) (m + 1) x.2.2.1 x.2.2.2.1 two m0 m1 ⟨a0, by rw [htl]; have := a2 h4; omega⟩ (fun h => ⟨b0, by rw [htl]; have := b2 (h6 h); omega⟩) (by omega) (by omega) (fun h m' hm => ?_) (fun h => ?_)
      · refine next m' (by omega) ?_
        rw [hf, ← h, eA]
        cases two with
        | false => rfl
        | true => rw [isAt_take b0 (b2 (h6 rfl)) (show i ≤ l.length by omega)]
      · refine stop ?_
        rw [hf, ← h, eA]
        cases two with
        | false => rfl
        | true => rw [isAt_take b0 (b2 (h6 rfl)) (show i ≤ l.length by omega)]
    rw [show m + 9 = (m + 8) + 1 from rfl]
    simp only [kinds_told_i6, kinds_told_c6, dT (show (i : Int) < (l.length : Int) by omega), cond_true, dT (Int.natCast_nonneg i), Int.toNat_natCast, hx]
    by_cases h4 : x.1 ≤ 4
    · have hg : gv x.1 = false := by
        unfold gv
        simp only [Bool.or_eq_false_iff, beq_eq_false_iff_ne, ne_eq, decide_eq_false_iff_not]
        omega
      have bb : bigOk ((gvs (l.take i)).length + 1) 1 = true := big_ok (by omega) (by omega)
      have := next (m + 8) (by omega) (by unfold fitS; rw [if_pos h4])
      rw [hg] at this
      simp only [dT h4, cond_true, bb, wadd1 (show i ≤ 1000000 by omega)]
      exact this
    · simp only [dF h4, cond_false]
      by_cases h5 : x.1 = 5
      · have e5 : (x.1 == 5) = true := by simpa using h5
        simp only [e5, cond_true]
        exact node false false true false (by rw [h5]; rfl) (by omega) (fun h => by cases h) (by unfold fitS; rw [if_neg h4, if_pos h5]; simp)
      · have e5 : (x.1 == 5) = false := by simpa using h5
        simp only [e5, cond_false]
        by_cases h6 : x.1 = 6
        · have e6 : (x.1 == 6) = true := by simpa using h6
          simp only [e6, cond_true]
          exact node true false false true (by rw [h6]; rfl) (by omega) (fun h => by cases h) (by unfold fitS; rw [if_neg h4, if_neg h5, if_pos h6]; simp)
        · have e6 : (x.1 == 6) = false := by simpa using h6
          simp only [e6, cond_false]
          have hgF : x.1 ≤ 11 → false = gv x.1 := fun h => by
            unfold gv
            rw [e6, dF (by omega)]; rfl
          have hgT : ¬ x.1 ≤ 11 → true = gv x.1 := fun h => by
            unfold gv
            rw [e6, dT (by omega)]; rfl
          by_cases h11 : x.1 ≤ 11
          · simp only [dT h11, cond_true]
            exact node false true true false (hgF h11) (by omega) (fun _ => by omega) (by unfold fitS; rw [if_neg h4, if_neg h5, if_neg h6, if_neg (by omega), if_neg (by omega)]; simp)
          · simp only [dF h11, cond_false]
            by_cases h15 : x.1 ≤ 15
            · simp only [dT h15, cond_true]
              exact node true true true false (hgT h11) (by omega) (fun _ => by omega) (by unfold fitS; rw [if_neg h4, if_neg h5, if_neg h6, if_neg (by omega), if_neg (by omega)]; simp)
            · simp only [dF h15, cond_false]
              by_cases h17 : x.1 ≤ 17
              · simp only [dT h17, cond_true]
                exact node true true true true (hgT h11) (by omega) (fun _ => by omega) (by
                  unfold fitS; rw [if_neg h4, if_neg h5, if_neg h6, if_pos (by omega)]
                  cases gAt l x.2.2.1 <;> cases gAt l x.2.2.2.1 <;> rfl)
              · simp only [dF h17, cond_false]
                exact node true true false true (hgT h11) (by omega) (fun _ => by omega) (by unfold fitS; rw [if_neg h4, if_neg h5, if_neg h6, if_neg (by omega), if_pos (by omega)]; simp)
end Tg

/- Kinds: the reference. -/
set_option linter.unusedVariables false
set_option linter.unusedSimpArgs false
namespace Tg
open Go.Abs (fuel bigOk cloned tmm)

theorem gives_eq (k : Int) : ref06_Gives k = some (gv k, ()) := by
  unfold ref06_Gives gv
  simp only [ge_iff_le]
  cases (k == 6) <;> rfl

theorem getD_of {l : List Nd} {p : Nat} (h : p < l.length) : l[p]? = some (l.getD p (0, 0, 0, 0, 0, ())) := by
  simp [List.getD_eq_getElem?_getD, List.getElem?_eq_getElem h]

theorem fits_eq {l : List Nd} {i : Nat} {x : Nd} (hx : l[i]? = some x) (hok : okN i x) : ref06_fits l (i : Int) = some (fitS l x, ()) := by
  obtain ⟨k1, k2, a0, a1, b0, b1, a2, b2⟩ := hok
  have hi : i < l.length := (List.getElem?_eq_some_iff.1 hx).1
  have hA : x.2.2.1.toNat < l.length := by omega
  have hB : x.2.2.2.1.toNat < l.length := by omega
  unfold ref06_fits fitS
  simp only [dT (Int.natCast_nonneg i), cond_true, Int.toNat_natCast, hx, dT a0, dT b0, getD_of hA, getD_of hB, gives_eq]
  show _ = some ((if x.1 ≤ 4 then true else if x.1 = 5 then !gAt l x.2.2.1 else if x.1 = 6 then gAt l x.2.2.1 else if x.1 = 16 ∨ x.1 = 17 then gAt l x.2.2.1 == gAt l x.2.2.2.1 else if 18 ≤ x.1 then gAt l x.2.2.1 && gAt l x.2.2.2.1 else !gAt l x.2.2.1 && !gAt l x.2.2.2.1), ())
  have gA : gv (l.getD x.2.2.1.toNat (0, 0, 0, 0, 0, ())).1 = gAt l x.2.2.1 := rfl
  have gB : gv (l.getD x.2.2.2.1.toNat (0, 0, 0, 0, 0, ())).1 = gAt l x.2.2.2.1 := rfl
  rw [gA, gB]
  by_cases h4 : x.1 ≤ 4
  · simp only [dT h4, cond_true, if_pos h4]
  · simp only [dF h4, cond_false, if_neg h4]
    by_cases h5 : x.1 = 5
    · have e5 : (x.1 == 5) = true := by simpa using h5
      simp only [e5, cond_true, if_pos h5]
    · have e5 : (x.1 == 5) = false := by simpa using h5
      simp only [e5, cond_false, if_neg h5]
      by_cases h6 : x.1 = 6
      · have e6 : (x.1 == 6) = true := by simpa using h6
        simp only [e6, cond_true, if_pos h6]
      · have e6 : (x.1 == 6) = false := by simpa using h6
        simp only [e6, cond_false, if_neg h6]
        by_cases h16 : x.1 = 16
        · have e : (x.1 == 16) = true := by simpa using h16
          rw [if_pos (Or.inl h16)]
          simp only [e, cond_true]
        · have e : (x.1 == 16) = false := by simpa using h16
          simp only [e, cond_false]
          by_cases h17 : x.1 = 17
          · have e : (x.1 == 17) = true := by simpa using h17
            rw [if_pos (Or.inr h17)]
            simp only [e, cond_true]
          · have e : (x.1 == 17) = false := by simpa using h17
            rw [if_neg (show ¬ (x.1 = 16 ∨ x.1 = 17) by omega)]
            simp only [e, cond_false]
            by_cases h18 : 18 ≤ x.1
            · simp only [ge_iff_le, dT h18, cond_true, if_pos h18]
              cases gAt l x.2.2.1 <;> rfl
            · simp only [ge_iff_le, dF h18, cond_false, if_neg h18]
              cases gAt l x.2.2.1 <;> rfl

theorem wrong_loop (l : List Nd) (hl : l.length ≤ 1000) (hok : ∀ i x, l[i]? = some x → okN i x) : ∀ (rest : List Nd) (i n : Nat), i + rest.length = l.length → l.drop i = rest → rest.length + 1 ≤ n →
    ref06_Wrong_i3 n l (i : Int) = some ((badFrom l i rest : Int), ())
  | [], i, n, hlen, hd, hn => by
    obtain ⟨m, rfl⟩ : ∃ m, n = m + 1 := ⟨n - 1, by omega⟩
    simp only [List.length_nil, Nat.add_zero] at hlen
    subst hlen
    simp only [ref06_Wrong_i3, ref06_Wrong_c3, Int.ofNat_eq_natCast, dF (show ¬ (l.length : Int) < (l.length : Int) by omega), cond_false, badFrom]
  | x :: rest, i, n, hlen, hd, hn => by
    simp only [List.length_cons] at hlen hn
    obtain ⟨m, rfl⟩ : ∃ m, n = m + 1 := ⟨n - 1, by omega⟩
    have hx : l[i]? = some x := by
      have := congrArg (fun z => z[0]?) hd
      simpa using this
    have hd' : l.drop (i + 1) = rest := by
      have := congrArg (List.drop 1) hd
      simpa [List.drop_drop] using this
    have ih := wrong_loop l hl hok rest (i + 1) m (by omega) hd' (by omega)
    simp only [ref06_Wrong_i3, ref06_Wrong_c3, Int.ofNat_eq_natCast, dT (show (i : Int) < (l.length : Int) by omega), cond_true, fits_eq hx (hok i x hx), wadd1 (show i ≤ 1000000 by omega), ih, badFrom]
    cases fitS l x <;> rfl

theorem run_ok : ∀ (rest : List Nd) (acc acc' : List (Int × Int)), Good acc → runN rest acc = some acc' → ∀ j x, rest[j]? = some x → okN (acc.length + j) x
  | [], acc, acc', hg, h, j, x, hj => by simp at hj
  | y :: rest, acc, acc', hg, h, j, x, hj => by
    simp only [runN] at h
    split at h
    · rename_i a ha
      have key : (∃ e : Int × Int, a = acc ++ [e] ∧ 1 ≤ e.1 ∧ e.1 ≤ acc.length + 1 ∧ 1 ≤ e.2 ∧ e.2 ≤ acc.length + 1) ∧ okN acc.length y := by
        have rk : ∀ {a b : Int}, rightN y a b = true → 1 ≤ y.1 ∧ y.1 ≤ 19 ∧ y.2.2.1 = a ∧ y.2.2.2.1 = b := by
          intro a b h
          unfold rightN at h
          simp only [Bool.and_eq_true, decide_eq_true_eq, beq_iff_eq] at h
          exact ⟨h.1, h.2.1, h.2.2.2.2.2.2.1, h.2.2.2.2.2.2.2⟩
        have kc : (cntK y.1 = 0 ↔ y.1 ≤ 4) ∧ (cntK y.1 = 1 ↔ 4 < y.1 ∧ y.1 ≤ 6) := by
          unfold cntK
          split
          · exact ⟨⟨fun _ => by omega, fun _ => rfl⟩, ⟨fun h => by omega, fun h => by omega⟩⟩
          · split
            · exact ⟨⟨fun h => by omega, fun h => by omega⟩, ⟨fun _ => by omega, fun _ => rfl⟩⟩
            · exact ⟨⟨fun h => by omega, fun h => by omega⟩, ⟨fun h => by omega, fun h => by omega⟩⟩
        unfold stepN at ha
        split at ha
        · rename_i c0
          split at ha
          · rename_i hr
            obtain ⟨r1, r2, r3, r4⟩ := rk hr
            refine ⟨⟨_, (Option.some.inj ha).symm, by omega, by omega, by omega, by omega⟩, r1, r2, by omega, by omega, by omega, by omega, fun h => ?_, fun h => ?_⟩
            · have := kc.1.1 c0; omega
            · have := kc.1.1 c0; omega
          · cases ha
        · rename_i c0
          split at ha
          · cases ha
          · rename_i hne
            have hgl := hg (acc.length - 1) (by omega)
            split at ha
            · rename_i c1
              split at ha
              · rename_i hr
                obtain ⟨r1, r2, r3, r4⟩ := rk hr
                refine ⟨⟨_, (Option.some.inj ha).symm, by dsimp only; omega, by dsimp only; omega, by dsimp only; omega, by dsimp only; omega⟩, r1, r2, by omega, by omega, by omega, by omega, fun h => by omega, fun h => ?_⟩
                have := kc.2.1 c1; omega
              · cases ha
            · split at ha
              · cases ha
              · rename_i hf
                split at ha
                · rename_i hr
                  obtain ⟨r1, r2, r3, r4⟩ := rk hr
                  have hgf := hg ((acc.length : Int) - 1 - (gt acc (acc.length - 1)).1).toNat (by omega)
                  exact ⟨⟨_, (Option.some.inj ha).symm, by dsimp only; omega, by dsimp only; omega, by dsimp only; omega, by dsimp only; omega⟩, r1, r2, by omega, by omega, by omega, by omega, fun h => by omega, fun h => by omega⟩
                · cases ha
      obtain ⟨⟨e, rfl, he⟩, hy⟩ := key
      cases j with
      | zero =>
        simp only [List.getElem?_cons_zero, Option.some.injEq] at hj
        subst hj
        exact hy
      | succ j =>
        have := run_ok rest (acc ++ [e]) acc' (hg.app he) h j x (by simpa using hj)
        rw [show acc.length + (j + 1) = (acc ++ [e]).length + j by simp; omega]
        exact this
    · cases h

theorem err0 {l : List Nd} (h : errN l = 0) : l.length ≤ 60 ∧ 0 < l.length ∧ ∀ i x, l[i]? = some x → okN i x := by
  unfold errN at h
  split at h
  · omega
  · split at h
    · omega
    · rename_i h60 acc hr
      cases ho : oneN acc with
      | false => rw [ho] at h; simp at h
      | true =>
        have hlen : acc.length = l.length := by simpa using runN_len l [] acc hr
        have := oneN_pos ho
        refine ⟨by omega, by omega, fun i x hx => ?_⟩
        simpa using run_ok l [] acc good_nil hr i x hx
end Tg

/- Kinds of expressions: the functions are the reference's. -/
set_option linter.unusedVariables false
set_option linter.unusedSimpArgs false
namespace Tg
open Go.Abs (fuel bigOk cloned tmm)

def wrongN (l : List Nd) : Nat := badFrom l 0 l
theorem badFrom_le (l : List Nd) : ∀ (rest : List Nd) (i : Nat), badFrom l i rest ≤ i + rest.length
  | [], i => Nat.le_refl _
  | x :: rest, i => by
    simp only [badFrom, List.length_cons]
    cases fitS l x with
    | false => simp only [cond_false]; omega
    | true =>
      have := badFrom_le l rest (i + 1)
      simp only [cond_true]; omega
theorem told_eq {l : List Nd} (h : errN l = 0) : kinds_told l = some (bif wrongN l == l.length then gvs l else [], (wrongN l : Int), ()) := by
  obtain ⟨h60, h1, hok⟩ := err0 h
  obtain ⟨n, hn⟩ := fuel_s
  have hok' : ∀ i x, l[i]? = some x → okN i x := fun i x hx => hok i x hx
  exact told_loop l (by omega) hok' l 0 fuel (by simp) (by simp) (by rw [hn]; omega)
theorem wrong_eq {l : List Nd} (h : errN l = 0) : ref06_Wrong l = some ((wrongN l : Int), ()) := by
  obtain ⟨h60, h1, hok⟩ := err0 h
  obtain ⟨n, hn⟩ := fuel_s
  exact wrong_loop l (by omega) hok l 0 fuel (by simp) (by simp) (by rw [hn]; omega)

def ofK (l : List Nd) : Bool × Int × Int × Unit :=
  if errN l = 0 then (if wrongN l < l.length then (false, (wrongN l : Int), 42, ()) else (gAt l ((l.length - 1 : Nat) : Int), ((l.length - 1 : Nat) : Int), 0, ())) else (false, 0, errN l, ())

theorem bne_f {a b : Int} (h : a = b) : (a != b) = false := by simp [h]
theorem bne_t {a b : Int} (h : a ≠ b) : (a != b) = true := by simp [h]

theorem kOf_eq (l : List Nd) : kinds_Of l = some (ofK l) := by
  unfold kinds_Of ofK
  simp only [ncheck_eq]
  by_cases h : errN l = 0
  · obtain ⟨h60, h1, hok⟩ := err0 h
    simp only [bne_f h, cond_false, if_pos h, told_eq h, Int.ofNat_eq_natCast]
    by_cases hw : wrongN l < l.length
    · simp only [dT (show (wrongN l : Int) < (l.length : Int) by omega), cond_true, if_pos hw]
    · have he : wrongN l = l.length := by
        have := badFrom_le l l 0
        unfold wrongN at hw ⊢
        omega
      have hwr : Go.IntKind.wrap Go.IntKind.i64 ((wrongN l : Int) - 1) = ((l.length - 1 : Nat) : Int) := by rw [he, w64 (by omega) (by omega)]; omega
      have hg : (gvs l)[l.length - 1]? = some (gAt l ((l.length - 1 : Nat) : Int), ()) := by
        unfold gvs gAt
        rw [List.getElem?_map, getD_of (show l.length - 1 < l.length by omega)]
        rfl
      have hb : (wrongN l == l.length) = true := by simpa using he
      simp only [dF (show ¬ (wrongN l : Int) < (l.length : Int) by omega), cond_false, if_neg hw, hwr, dT (Int.natCast_nonneg (l.length - 1)), cond_true, Int.toNat_natCast, hb, hg]
  · simp only [bne_t h, cond_true, if_neg h]
theorem rOf_eq (l : List Nd) : ref06_Of l = some (ofK l) := by
  unfold ref06_Of ofK
  simp only [rcheck_eq]
  by_cases h : errN l = 0
  · obtain ⟨h60, h1, hok⟩ := err0 h
    simp only [bne_f h, cond_false, if_pos h, wrong_eq h, Int.ofNat_eq_natCast]
    by_cases hw : wrongN l < l.length
    · simp only [dT (show (wrongN l : Int) < (l.length : Int) by omega), cond_true, if_pos hw]
    · have hwr : Go.IntKind.wrap Go.IntKind.i64 ((l.length : Int) - 1) = ((l.length - 1 : Nat) : Int) := by rw [w64 (by omega) (by omega)]; omega
      simp only [dF (show ¬ (wrongN l : Int) < (l.length : Int) by omega), cond_false, if_neg hw, hwr, dT (Int.natCast_nonneg (l.length - 1)), cond_true, Int.toNat_natCast, getD_of (show l.length - 1 < l.length by omega), gives_eq]
      rfl
  · simp only [bne_t h, cond_true, if_neg h]

def wantK (l : List Nd) (t : Bool) : Int × Int × Unit := bif (ofK l).2.2.1 == 0 then (bif !((ofK l).1 == t) then ((ofK l).2.1, 42, ()) else (ofK l).2) else (ofK l).2
theorem kwant_eq (l : List Nd) (t : Bool) : kinds_want l t = some (wantK l t) := by
  unfold kinds_want wantK
  simp only [kOf_eq]
  cases ((ofK l).2.2.1 == 0) with
  | false => rfl
  | true => cases (ofK l).1 <;> cases t <;> rfl
theorem rwant_eq (l : List Nd) (t : Bool) : ref06_Want l t = some (wantK l t) := by
  unfold ref06_Want wantK
  simp only [rOf_eq]
  cases ((ofK l).2.2.1 == 0) with
  | false => rfl
  | true => cases (ofK l).1 <;> cases t <;> rfl
theorem knum_eq (l : List Nd) : kinds_Number l = some (wantK l false) := by
  unfold kinds_Number
  rw [kwant_eq]
theorem ktruth_eq (l : List Nd) : kinds_Truth l = some (wantK l true) := by
  unfold kinds_Truth
  rw [kwant_eq]
theorem wantK_at {l : List Nd} {t : Bool} (hl : 0 < l.length) (h : errN l = 0) : 0 ≤ (wantK l t).1 ∧ (wantK l t).1.toNat < l.length := by
  have : 0 ≤ (ofK l).2.1 ∧ (ofK l).2.1.toNat < l.length := by
    unfold ofK
    rw [if_pos h]
    split
    · dsimp only; omega
    · dsimp only; omega
  unfold wantK
  cases ((ofK l).2.2.1 == 0) with
  | false => exact this
  | true => cases (ofK l).1 <;> cases t <;> exact this
end Tg
