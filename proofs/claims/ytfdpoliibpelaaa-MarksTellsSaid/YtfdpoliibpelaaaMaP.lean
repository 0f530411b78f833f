/- Marks: the functions agree with the reference's, as plain functions. -/
import Derived.Test.YtfdpoliibpelaaaMaA
import Derived.IntWalk
import Derived.KernelRfl
set_option linter.unusedVariables false
set_option linter.unusedSimpArgs false
namespace Tm
open Go.Abs (fuel bigOk cloned tmm)
abbrev L := List (Int × Unit)

theorem fuel_s : ∃ n, fuel = n + 4 := ⟨1152921504606846972, rfl⟩
theorem big_ok {n b : Nat} (hn : n ≤ 1000000) (hb : b ≤ 1000) : bigOk n b = true := by
  have : n * b ≤ 1000000 * 1000 := Nat.mul_le_mul hn hb
  simp only [bigOk, Bool.and_eq_true, decide_eq_true_eq]
  exact ⟨by show n * b ≤ 140737488355328; omega, by show n ≤ 9223372036854775807; omega⟩

/-- a right mark -/
def okm (t : Int) : Bool := bif decide (t ≥ -1099511627776) && decide (t ≤ 1099511627776) then true else t == 9223372036854775807

theorem isTime_eq (t : Int) : message_isTime t = some (decide (t ≥ -1099511627776) && decide (t ≤ 1099511627776), ()) := by
  unfold message_isTime
  cases decide (t ≥ -1099511627776) <;> rfl
theorem mark_eq (t : Int) : ref25_Mark t = some (okm t, ()) := by
  unfold ref25_Mark okm
  cases decide (t ≥ -1099511627776) <;> cases decide (t ≤ 1099511627776) <;> rfl
theorem isMark_eq0 (t : Int) : message_isMark t = some (okm t, ()) := by
  unfold message_isMark okm
  rw [isTime_eq]
  cases decide (t ≥ -1099511627776) <;> cases decide (t ≤ 1099511627776) <;> rfl
theorem isMark_eq (t : Int) : marks_isMark t = some (okm t, ()) := by
  obtain ⟨n, hn⟩ := fuel_s
  unfold marks_isMark
  simp only [message_Check, message_Check_c, hn, message_Check_i5, message_Check_c5, message_Check_i3, message_Check_c3, isMark_eq0, Int.reduceBEq, cond_true, cond_false, beq_self_eq_true, Bool.true_and]
  cases okm t <;> rfl

def low : Int := -9223372036854775808
def ok1 (e : Int × Unit) : Bool := e.1 == low || okm e.1
def chk (l : L) : Bool := decide (1 ≤ l.length) && decide (l.length ≤ 4) && l.all ok1

theorem wrap1 {i : Nat} (h : i ≤ 1000000) : Go.IntKind.wrap Go.IntKind.i64 ((i : Int) + 1) = ((i + 1 : Nat) : Int) := Go.IntWalk.i64_in _ (by omega)

theorem chk_loop (l : L) (hl : l.length ≤ 1000000) : ∀ (n i : Nat), i ≤ l.length → l.length - i < n → marks_Check_i6 n l (l.length : Int) (i : Int) = some (bif (l.drop i).all ok1 then 0 else 8, ())
  | 0, i, h, hn => by omega
  | n + 1, i, h, hn => by
    simp only [marks_Check_i6, marks_Check_c6, Int.ofNat_eq_natCast]
    by_cases hi : i < l.length
    · have e1 : decide ((i : Int) < (l.length : Int)) = true := by simpa using hi
      have e2 : decide ((0 : Int) ≤ (i : Int)) = true := by simp
      have ih := chk_loop l hl n (i + 1) hi (by omega)
      simp only [e1, e2, cond_true, Int.toNat_natCast, List.getElem?_eq_getElem hi, isMark_eq, wrap1 (show i ≤ 1000000 by omega), ih]
      rw [List.drop_eq_getElem_cons hi, List.all_cons]
      by_cases hlow : l[i].1 = low
      · have : (l[i].1 != -9223372036854775808) = false := by rw [hlow]; rfl
        have h1 : ok1 l[i] = true := by unfold ok1; rw [hlow]; rfl
        simp only [this, cond_false, h1, Bool.true_and]
      · have : (l[i].1 != -9223372036854775808) = true := by simpa [low] using hlow
        have h1 : ok1 l[i] = okm l[i].1 := by unfold ok1; rw [show (l[i].1 == low) = false by simpa using hlow]; rfl
        simp only [this, cond_true, h1]
        cases okm l[i].1 <;> rfl
    · have e1 : decide ((i : Int) < (l.length : Int)) = false := by simpa using hi
      have : l.drop i = [] := List.drop_eq_nil_of_le (by omega)
      simp only [e1, cond_false, this]
      rfl

theorem rchk_loop (l : L) (hl : l.length ≤ 1000000) : ∀ (n i : Nat), i ≤ l.length → l.length - i < n → ref31_Check_i6 n l (i : Int) = some (bif (l.drop i).all ok1 then 0 else 8, ())
  | 0, i, h, hn => by omega
  | n + 1, i, h, hn => by
    simp only [ref31_Check_i6, ref31_Check_c6, Int.ofNat_eq_natCast]
    by_cases hi : i < l.length
    · have e1 : decide ((i : Int) < (l.length : Int)) = true := by simpa using hi
      have e2 : decide ((0 : Int) ≤ (i : Int)) = true := by simp
      have ih := rchk_loop l hl n (i + 1) hi (by omega)
      simp only [e1, e2, cond_true, Int.toNat_natCast, List.getElem?_eq_getElem hi, mark_eq, wrap1 (show i ≤ 1000000 by omega), ih]
      rw [List.drop_eq_getElem_cons hi, List.all_cons]
      by_cases hlow : l[i].1 = low
      · have : (l[i].1 != -9223372036854775808) = false := by rw [hlow]; rfl
        have h1 : ok1 l[i] = true := by unfold ok1; rw [hlow]; rfl
        simp only [this, cond_false, h1, Bool.true_and]
      · have : (l[i].1 != -9223372036854775808) = true := by simpa [low] using hlow
        have h1 : ok1 l[i] = okm l[i].1 := by unfold ok1; rw [show (l[i].1 == low) = false by simpa using hlow]; rfl
        simp only [this, cond_true, h1]
        cases okm l[i].1 <;> rfl
    · have e1 : decide ((i : Int) < (l.length : Int)) = false := by simpa using hi
      have : l.drop i = [] := List.drop_eq_nil_of_le (by omega)
      simp only [e1, cond_false, this]
      rfl

theorem checks (l : L) : marks_Check l = some (bif chk l then 0 else 8, ()) ∧ ref31_Check l = some (bif chk l then 0 else 8, ()) := by
  unfold chk
  by_cases h1 : 1 ≤ l.length
  · by_cases h2 : l.length ≤ 4
    · have a := chk_loop l (by omega) fuel 0 (by omega) (by unfold fuel; omega)
      have b := rchk_loop l (by omega) fuel 0 (by omega) (by unfold fuel; omega)
      have e1 : ((l.length : Int) == 0) = false := by simp; intro h; simp [h] at h1
      have e2 : decide ((l.length : Int) > 4) = false := by simp; omega
      have e3 : decide ((l.length : Int) < 1) = false := by simp; omega
      simp only [marks_Check, marks_Check_c, ref31_Check, ref31_Check_c, Int.ofNat_eq_natCast, e1, e2, e3, cond_false, decide_eq_true h1, decide_eq_true h2, Bool.true_and]
      exact ⟨a, b⟩
    · have e2 : decide ((l.length : Int) > 4) = true := by simp; omega
      have e1 : ((l.length : Int) == 0) = false := by simp; intro h; simp [h] at h1
      have e3 : decide ((l.length : Int) < 1) = false := by simp; omega
      simp only [marks_Check, marks_Check_c, ref31_Check, ref31_Check_c, Int.ofNat_eq_natCast, e1, e2, e3, cond_false, cond_true, decide_eq_false h2, Bool.and_false, Bool.false_and, and_self]
  · have e1 : ((l.length : Int) == 0) = true := by simp; exact List.length_eq_zero_iff.1 (by omega)
    have e3 : decide ((l.length : Int) < 1) = true := by simp; omega
    simp only [marks_Check, marks_Check_c, ref31_Check, ref31_Check_c, Int.ofNat_eq_natCast, e1, e3, cond_false, cond_true, decide_eq_false h1, Bool.and_false, Bool.false_and, and_self]

theorem chk_len {l : L} (h : chk l = true) : 1 ≤ l.length ∧ l.length ≤ 4 ∧ ∀ e ∈ l, ok1 e = true := by
  unfold chk at h
  simp only [Bool.and_eq_true, decide_eq_true_eq, List.all_eq_true] at h
  exact ⟨h.1.1, h.1.2, h.2⟩
theorem chk_of {l : L} (h1 : 1 ≤ l.length) (h2 : l.length ≤ 4) (h3 : ∀ e ∈ l, ok1 e = true) : chk l = true := by
  unfold chk
  simp only [Bool.and_eq_true, decide_eq_true_eq, List.all_eq_true]
  exact ⟨⟨h1, h2⟩, h3⟩

/-- the least from a on -/
def least (a : Int) (l : L) : Int := l.foldl (fun a x => tmm false a x.1) a
def lst (l : L) : Int := match l with | [] => 0 | e :: r => least e.1 r

theorem min_loop (l : L) (hl : l.length ≤ 1000000) : ∀ (n i : Nat) (a : Int), i ≤ l.length → l.length - i < n → slices_Min___int64_int64__i6 n l a (i : Int) = some (least a (l.drop i), ())
  | 0, i, a, h, hn => by omega
  | n + 1, i, a, h, hn => by
    simp only [slices_Min___int64_int64__i6, slices_Min___int64_int64__c6, Int.ofNat_eq_natCast]
    by_cases hi : i < l.length
    · have e1 : decide ((i : Int) < (l.length : Int)) = true := by simpa using hi
      have e2 : decide ((0 : Int) ≤ (i : Int)) = true := by simp
      have ih := min_loop l hl n (i + 1) (tmm false a l[i].1) hi (by omega)
      simp only [e1, e2, cond_true, Int.toNat_natCast, List.getElem?_eq_getElem hi, wrap1 (show i ≤ 1000000 by omega), ih]
      rw [List.drop_eq_getElem_cons hi]
      rfl
    · have e1 : decide ((i : Int) < (l.length : Int)) = false := by simpa using hi
      have : l.drop i = [] := List.drop_eq_nil_of_le (by omega)
      simp only [e1, cond_false, this]
      rfl
theorem lowest_loop (l : L) (hl : l.length ≤ 1000000) : ∀ (n i : Nat) (a : Int), i ≤ l.length → l.length - i < n → ref31_Lowest_i4 n l a (i : Int) = some (least a (l.drop i), ())
  | 0, i, a, h, hn => by omega
  | n + 1, i, a, h, hn => by
    simp only [ref31_Lowest_i4, ref31_Lowest_c4, Int.ofNat_eq_natCast]
    by_cases hi : i < l.length
    · have e1 : decide ((i : Int) < (l.length : Int)) = true := by simpa using hi
      have e2 : decide ((0 : Int) ≤ (i : Int)) = true := by simp
      have ih := lowest_loop l hl n (i + 1) (tmm false a l[i].1) hi (by omega)
      simp only [e1, e2, cond_true, Int.toNat_natCast, List.getElem?_eq_getElem hi, wrap1 (show i ≤ 1000000 by omega), ih]
      rw [List.drop_eq_getElem_cons hi]
      rfl
    · have e1 : decide ((i : Int) < (l.length : Int)) = false := by simpa using hi
      have : l.drop i = [] := List.drop_eq_nil_of_le (by omega)
      simp only [e1, cond_false, this]
      rfl

theorem min_eq {l : L} (h1 : 1 ≤ l.length) (hl : l.length ≤ 1000000) : slices_Min___int64_int64_ l = some (lst l, ()) := by
  obtain ⟨n, hn⟩ := fuel_s
  cases l with
  | nil => simp at h1
  | cons e l =>
    have a := min_loop (e :: l) hl (n + 3) 1 e.1 (by simp) (by have : fuel = 1152921504606846976 := rfl; simp at hl ⊢; omega)
    have e3 : decide (((e :: l).length : Int) < 1) = false := by simp; omega
    simp only [slices_Min___int64_int64_, slices_Min___int64_int64__c, Int.ofNat_eq_natCast, e3, cond_false, hn, slices_Min___int64_int64__i1, slices_Min___int64_int64__c1, List.getElem?_cons_zero]
    exact a
theorem lowest_eq {l : L} (h1 : 1 ≤ l.length) (hl : l.length ≤ 1000000) : ref31_Lowest l = some (lst l, ()) := by
  cases l with
  | nil => simp at h1
  | cons e l =>
    have a := lowest_loop (e :: l) hl fuel 1 e.1 (by simp) (by unfold fuel; simp at hl ⊢; omega)
    simp only [ref31_Lowest, ref31_Lowest_c, List.getElem?_cons_zero]
    exact a

theorem least_eq (l : L) : marks_Least l = some (bif chk l then (lst l, 0, ()) else (0, 8, ())) ∧ ref31_Least l = some (bif chk l then (lst l, 0, ()) else (0, 8, ())) := by
  obtain ⟨c1, c2⟩ := checks l
  unfold marks_Least ref31_Least
  rw [c1, c2]
  cases h : chk l with
  | false => exact ⟨rfl, rfl⟩
  | true =>
    obtain ⟨h1, h2, _⟩ := chk_len h
    simp only [cond_true, bne_self_eq_false, cond_false, min_eq h1 (by omega), lowest_eq h1 (by omega), and_self]

/-- marks with one raised -/
def raised (l : L) (i : Nat) (t : Int) : L := l.set i (tmm true (l.getD i (0, ())).1 t, ())
def raise (l : L) (a : Int) (t : Int) : L × Bool × Int × Unit :=
  if chk l = false then ([], false, 8, ()) else if a < 0 ∨ a ≥ l.length ∨ okm t = false then ([], false, 2, ()) else (raised l a.toNat t, decide (lst (raised l a.toNat t) > lst l), 0, ())

theorem raises (l : L) (a t : Int) : marks_Raise l a t = some (raise l a t) ∧ ref31_Raise l a t = some (raise l a t) := by
  obtain ⟨c1, c2⟩ := least_eq l
  obtain ⟨d1, d2⟩ := checks l
  unfold marks_Raise ref31_Raise raise
  rw [c1, d2]
  cases h : chk l with
  | false => exact ⟨rfl, rfl⟩
  | true =>
    obtain ⟨h1, h2, _⟩ := chk_len h
    simp only [cond_true, bne_self_eq_false, cond_false, Bool.true_eq_false, if_false, isMark_eq, mark_eq, Int.ofNat_eq_natCast]
    by_cases a1 : a < 0
    · simp [a1]
    by_cases a2 : a ≥ l.length
    · simp [a1, a2]
    cases hk : okm t with
    | false => simp [a1, a2]
    | true =>
      obtain ⟨i, rfl⟩ : ∃ i : Nat, a = i := ⟨a.toNat, by omega⟩
      have hi : i < l.length := by omega
      have b1 : bigOk l.length 8 = true := big_ok (by omega) (by omega)
      have b2 : bigOk (0 + l.length) 8 = true := big_ok (by omega) (by omega)
      have e1 : decide ((i : Int) < 0) = false := by simp
      have e2 : decide ((i : Int) ≥ (l.length : Int)) = false := by simp; omega
      have e3 : decide ((0 : Int) ≤ (i : Int)) = true := by simp
      have e4 : decide (i < l.length) = true := by simpa using hi
      have e5 : ¬ ((i : Int) < 0 ∨ (i : Int) ≥ (l.length : Int) ∨ true = false) := by simp; omega
      have hr : l.set i (tmm true l[i].1 t, l[i].2) = raised l i t := by unfold raised; simp [List.getD_eq_getElem?_getD, List.getElem?_eq_getElem hi]
      have hlen : (raised l i t).length = l.length := by unfold raised; simp
      simp only [e1, e2, e3, e4, if_neg e5, cond_false, cond_true, Bool.not_true, b1, b2, Int.toNat_natCast, List.getElem?_eq_getElem hi, hr, min_eq (l := raised l i t) (by omega) (by omega), ref31_Raised, lowest_eq (l := raised l i t) (by omega) (by omega), lowest_eq (l := l) h1 (by omega), and_self]

theorem same_loop (l k : L) (hlk : l.length = k.length) (hl : l.length ≤ 1000000) : ∀ (n i : Nat), i ≤ l.length → l.length - i < n → ref31_Same_i6 n l k (i : Int) = some (decide (l.drop i = k.drop i), ())
  | 0, i, h, hn => by omega
  | n + 1, i, h, hn => by
    simp only [ref31_Same_i6, ref31_Same_c6, Int.ofNat_eq_natCast]
    by_cases hi : i < l.length
    · have e1 : decide ((i : Int) < (l.length : Int)) = true := by simpa using hi
      have e2 : decide ((0 : Int) ≤ (i : Int)) = true := by simp
      have hi' : i < k.length := by omega
      simp only [e1, e2, cond_true, Int.toNat_natCast, List.getElem?_eq_getElem hi, List.getElem?_eq_getElem hi', wrap1 (show i ≤ 1000000 by omega)]
      rw [List.drop_eq_getElem_cons hi, List.drop_eq_getElem_cons hi']
      by_cases hm : l[i].1 = k[i].1
      · have ih := same_loop l k hlk hl n (i + 1) hi (by omega)
        have hm' : l[i] = k[i] := Prod.ext hm rfl
        simp only [hm', bne_self_eq_false, cond_false, ih, List.cons.injEq, true_and]
      · have hm' : ¬ l[i] = k[i] := fun h => hm (by rw [h])
        have : (l[i].1 != k[i].1) = true := by simpa using hm
        simp only [this, cond_true, List.cons.injEq, hm', false_and, decide_false]
    · have e1 : decide ((i : Int) < (l.length : Int)) = false := by simpa using hi
      have h1 : l.drop i = [] := List.drop_eq_nil_of_le (by omega)
      have h2 : k.drop i = [] := List.drop_eq_nil_of_le (by omega)
      simp only [e1, cond_false, h1, h2, decide_true]

theorem same_eq (l k : L) (hl : l.length ≤ 1000000) : ref31_Same l k = some (decide (l = k), ()) := by
  simp only [ref31_Same, ref31_Same_c, Int.ofNat_eq_natCast]
  by_cases h : l.length = k.length
  · have := same_loop l k h hl fuel 0 (by omega) (by unfold fuel; omega)
    simp only [List.drop_zero] at this
    have e : ((l.length : Int) != (k.length : Int)) = false := by simp [h]
    simp only [e, cond_false]
    exact this
  · have e : ((l.length : Int) != (k.length : Int)) = true := by simp; omega
    have : l ≠ k := fun e => h (by rw [e])
    simp only [e, cond_true, this, decide_false]

theorem raised_len (l : L) (i : Nat) (t : Int) : (raised l i t).length = l.length := by unfold raised; simp
theorem raise_len (l : L) (a t : Int) : (raise l a t).1.length ≤ l.length := by
  unfold raise
  split
  · simp
  · split
    · simp
    · simp [raised_len]

theorem raises_true (l : L) (a t : Int) : law31_MarksRaises l a t = some (true, ()) := by
  unfold law31_MarksRaises
  by_cases h : Int.ofNat l.length > 20
  · simp only [decide_eq_true h, cond_true]
  have hl : l.length ≤ 20 := by simp at h; omega
  obtain ⟨r1, r2⟩ := raises l a t
  have := raise_len l a t
  simp only [decide_eq_false h, cond_false, big_ok (show 0 + l.length ≤ 1000000 by omega) (show 8 ≤ 1000 by omega), cond_true, r1, r2, same_eq _ _ (show (raise l a t).1.length ≤ 1000000 by omega), decide_true, beq_self_eq_true, same_eq l l (by omega)]
end Tm
