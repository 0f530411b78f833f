/- The queues' functions agree with the reference's, as plain functions. -/
import Derived.Test.YtfdpoliibpelaaaChA
import Derived.IntWalk
set_option linter.unusedVariables false
set_option linter.unusedSimpArgs false
namespace Tw
open Go.Abs (fuel bigOk cloned tmm)
abbrev Msg := Int × Int × Int × Int × Int × Int × Int × Int × Int × Int × Unit

theorem fuel_s : ∃ n, fuel = n + 4 := ⟨1152921504606846972, rfl⟩

theorem isTime_eq (t : Int) : message_isTime t = some (decide (t ≥ -1099511627776) && decide (t ≤ 1099511627776), ()) := by
  unfold message_isTime
  cases decide (t ≥ -1099511627776) <;> rfl
theorem right_eq (a b c : Int) : ref25_Right (a, b, c, ()) = some (decide (b ≥ -1099511627776) && decide (b ≤ 1099511627776), ()) := by
  unfold ref25_Right
  cases decide (b ≥ -1099511627776) <;> rfl
theorem mark_eq (t : Int) : ref25_Mark t = message_isMark t := by
  unfold ref25_Mark message_isMark
  rw [isTime_eq]
  cases decide (t ≥ -1099511627776) <;> cases decide (t ≤ 1099511627776) <;> rfl
theorem isMark_some (t : Int) : ∃ b, message_isMark t = some (b, ()) := by
  unfold message_isMark
  rw [isTime_eq]
  cases decide (t ≥ -1099511627776) <;> cases decide (t ≤ 1099511627776) <;> exact ⟨_, rfl⟩

theorem msg_agree (m : Msg) : ∃ v, message_Check m = some (bif v then 0 else 8, ()) ∧ ref25_Valid m = some (v, ()) := by
  obtain ⟨k, a, b, c, d, e, f, g, h, i, _⟩ := m
  obtain ⟨n, hn⟩ := fuel_s
  obtain ⟨mb, hmb⟩ := isMark_some d
  simp only [message_Check, message_Check_c, hn, message_Check_i5, message_Check_c5, message_Check_i3, message_Check_c3, ref25_Valid, ref25_Valid_c, ref25_Valid_i3, ref25_Valid_c3, isTime_eq, right_eq, mark_eq, hmb, ref25_Row]
  by_cases h1 : k = 1
  · subst h1
    simp only [beq_self_eq_true, Int.reduceBEq, cond_true, cond_false, Bool.true_and, Bool.and_true]
    generalize (d == 0 && _) = E
    cases (decide (b ≥ -1099511627776) && decide (b ≤ 1099511627776)) <;> cases E <;> exact ⟨_, rfl, rfl⟩
  have k1 : (k == 1) = false := by simpa using h1
  simp only [k1, cond_false]
  by_cases h4 : k = 4
  · subst h4
    simp only [beq_self_eq_true, Int.reduceBEq, cond_true, cond_false, Bool.true_and, Bool.and_true]
    generalize (d == 0 && _) = E
    cases (decide (b ≥ -1099511627776) && decide (b ≤ 1099511627776)) <;> cases E <;> exact ⟨_, rfl, rfl⟩
  have k4 : (k == 4) = false := by simpa using h4
  simp only [k4, cond_false]
  by_cases h2 : k = 2
  · subst h2
    simp only [beq_self_eq_true, Int.reduceBEq, cond_true, cond_false, Bool.true_and, Bool.and_true]
    generalize (a == 0 && _) = E
    cases mb <;> cases E <;> exact ⟨_, rfl, rfl⟩
  have k2 : (k == 2) = false := by simpa using h2
  simp only [k2, cond_false]
  by_cases h3 : k = 3
  · subst h3
    simp only [beq_self_eq_true, Int.reduceBEq, cond_true, cond_false, Bool.true_and, Bool.and_true, ge_iff_le]
    generalize (a == 0 && _) = E
    cases decide (-2199023255552 ≤ f) <;> cases decide (f < g) <;> cases decide (g ≤ 2199023255552) <;> cases E <;> exact ⟨_, rfl, rfl⟩
  have k3 : (k == 3) = false := by simpa using h3
  simp only [k3, cond_false]
  exact ⟨false, rfl, rfl⟩

def valid (m : Msg) : Bool := match ref25_Valid m with | some (v, _) => v | none => false
theorem valid_eq (m : Msg) : ref25_Valid m = some (valid m, ()) := by
  obtain ⟨v, _, h⟩ := msg_agree m
  unfold valid
  rw [h]
theorem msg_eq (m : Msg) : message_Check m = some (bif valid m then 0 else 8, ()) := by
  obtain ⟨v, h1, h2⟩ := msg_agree m
  rw [h1]
  unfold valid
  rw [h2]

theorem chan_loop (l : List Msg) (hl : l.length ≤ 1000000) : ∀ (n i : Nat), i ≤ l.length → l.length - i < n → channel_Check_i6 n l (l.length : Int) (i : Int) = some (bif (l.drop i).all valid then 0 else 8, ())
  | 0, i, h, hn => by omega
  | n + 1, i, h, hn => by
    simp only [channel_Check_i6, channel_Check_c6, Int.ofNat_eq_natCast]
    by_cases hi : i < l.length
    · have e1 : decide ((i : Int) < (l.length : Int)) = true := by simpa using hi
      have e2 : decide ((0 : Int) ≤ (i : Int)) = true := by simp
      have e3 : Go.IntKind.wrap Go.IntKind.i64 ((i : Int) + 1) = ((i + 1 : Nat) : Int) := Go.IntWalk.i64_in _ (by omega)
      simp only [e1, e2, cond_true, Int.toNat_natCast, List.getElem?_eq_getElem hi, msg_eq]
      rw [List.drop_eq_getElem_cons hi, List.all_cons]
      cases hv : valid l[i] with
      | false => rfl
      | true =>
        have := chan_loop l hl n (i + 1) hi (by omega)
        simp only [cond_true, Bool.true_and, bne_self_eq_false, cond_false, e3]
        exact this
    · have e1 : decide ((i : Int) < (l.length : Int)) = false := by simpa using hi
      have : l.drop i = [] := List.drop_eq_nil_of_le (by omega)
      simp only [e1, cond_false, this]
      rfl

theorem ref_loop (l : List Msg) (hl : l.length ≤ 1000000) : ∀ (n i : Nat), i ≤ l.length → l.length - i < n → ref26_Check_i6 n l (i : Int) = some (bif (l.drop i).all valid then 0 else 8, ())
  | 0, i, h, hn => by omega
  | n + 1, i, h, hn => by
    simp only [ref26_Check_i6, ref26_Check_c6, Int.ofNat_eq_natCast]
    by_cases hi : i < l.length
    · have e1 : decide ((i : Int) < (l.length : Int)) = true := by simpa using hi
      have e2 : decide ((0 : Int) ≤ (i : Int)) = true := by simp
      have e3 : Go.IntKind.wrap Go.IntKind.i64 ((i : Int) + 1) = ((i + 1 : Nat) : Int) := Go.IntWalk.i64_in _ (by omega)
      simp only [e1, e2, cond_true, Int.toNat_natCast, List.getElem?_eq_getElem hi, valid_eq]
      rw [List.drop_eq_getElem_cons hi, List.all_cons]
      cases hv : valid l[i] with
      | false => rfl
      | true =>
        have := ref_loop l hl n (i + 1) hi (by omega)
        simp only [cond_true, Bool.true_and, Bool.not_true, cond_false, e3]
        exact this
    · have e1 : decide ((i : Int) < (l.length : Int)) = false := by simpa using hi
      have : l.drop i = [] := List.drop_eq_nil_of_le (by omega)
      simp only [e1, cond_false, this]
      rfl

abbrev Que := Int × List Msg × Unit
/-- the error of a queue -/
def qerr (q : Que) : Int := bif decide (1 ≤ q.1) && decide (q.1 ≤ 8) && decide (Int.ofNat q.2.1.length ≤ q.1) && q.2.1.all valid then 0 else 8

theorem checks (q : Que) : channel_Check q = some (qerr q, ()) ∧ ref26_Check q = some (qerr q, ()) := by
  obtain ⟨room, l, _⟩ := q
  simp only [channel_Check, channel_Check_c, ref26_Check, ref26_Check_c, qerr]
  by_cases h1 : room < 1
  · have : decide (1 ≤ room) = false := by simpa using h1
    simp only [decide_eq_true h1, cond_true, this, Bool.false_and, cond_false, and_self]
  have h1' : decide (1 ≤ room) = true := by simp; omega
  simp only [decide_eq_false h1, cond_false, h1', Bool.true_and]
  by_cases h2 : room > 8
  · have : decide (room ≤ 8) = false := by simpa using h2
    simp only [decide_eq_true h2, cond_true, this, Bool.false_and, cond_false, and_self]
  have h2' : decide (room ≤ 8) = true := by simp; omega
  simp only [decide_eq_false h2, cond_false, h2', Bool.true_and]
  by_cases h3 : Int.ofNat l.length > room
  · have : decide (Int.ofNat l.length ≤ room) = false := by simp at h3 ⊢; omega
    simp only [decide_eq_true h3, cond_true, this, Bool.false_and, cond_false, and_self]
  have h3' : decide (Int.ofNat l.length ≤ room) = true := by simp at h3 ⊢; omega
  have hl : l.length ≤ 8 := by simp at h3; omega
  simp only [decide_eq_false h3, cond_false, h3', Bool.true_and]
  have a := chan_loop l (by omega) fuel 0 (by omega) (by unfold fuel; omega)
  have b := ref_loop l (by omega) fuel 0 (by omega) (by unfold fuel; omega)
  exact ⟨a, b⟩
end Tw
