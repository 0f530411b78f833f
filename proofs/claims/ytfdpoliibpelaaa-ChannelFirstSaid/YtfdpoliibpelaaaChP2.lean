/- Take and Left agree. -/
import Derived.Test.YtfdpoliibpelaaaChP
set_option linter.unusedVariables false
set_option linter.unusedSimpArgs false
namespace Tw
open Go.Abs (fuel bigOk cloned tmm)
open Classical

theorem msg_beq (a b : Msg) : (a.1 == b.1 && (a.2.1 == b.2.1 && (a.2.2.1 == b.2.2.1 && (a.2.2.2.1 == b.2.2.2.1 && (a.2.2.2.2.1 == b.2.2.2.2.1 && (a.2.2.2.2.2.1 == b.2.2.2.2.2.1 && (a.2.2.2.2.2.2.1 == b.2.2.2.2.2.2.1 && (a.2.2.2.2.2.2.2.1 == b.2.2.2.2.2.2.2.1 && (a.2.2.2.2.2.2.2.2.1 == b.2.2.2.2.2.2.2.2.1 && (a.2.2.2.2.2.2.2.2.2.1 == b.2.2.2.2.2.2.2.2.2.1 && true)))))))))) = decide (a = b) := by
  obtain ⟨a1, a2, a3, a4, a5, a6, a7, a8, a9, a10, _⟩ := a
  obtain ⟨b1, b2, b3, b4, b5, b6, b7, b8, b9, b10, _⟩ := b
  rw [Bool.eq_iff_iff]
  simp [Bool.and_eq_true]

theorem same_loop (l k : List Msg) (hlk : l.length = k.length) (hl : l.length ≤ 1000000) : ∀ (n i : Nat), i ≤ l.length → l.length - i < n → ref26_SameList_i6 n l k (i : Int) = some (decide (l.drop i = k.drop i), ())
  | 0, i, h, hn => by omega
  | n + 1, i, h, hn => by
    simp only [ref26_SameList_i6, ref26_SameList_c6, Int.ofNat_eq_natCast, msg_beq]
    by_cases hi : i < l.length
    · have e1 : decide ((i : Int) < (l.length : Int)) = true := by simpa using hi
      have e2 : decide ((0 : Int) ≤ (i : Int)) = true := by simp
      have e3 : Go.IntKind.wrap Go.IntKind.i64 ((i : Int) + 1) = ((i + 1 : Nat) : Int) := Go.IntWalk.i64_in _ (by omega)
      have hi' : i < k.length := by omega
      simp only [e1, e2, cond_true, Int.toNat_natCast, List.getElem?_eq_getElem hi, List.getElem?_eq_getElem hi', e3]
      rw [List.drop_eq_getElem_cons hi, List.drop_eq_getElem_cons hi']
      by_cases hm : l[i] = k[i]
      · have := same_loop l k hlk hl n (i + 1) hi (by omega)
        simp only [hm, decide_true, Bool.not_true, cond_false, this, List.cons.injEq, true_and]
      · simp only [hm, decide_false, Bool.not_false, cond_true, List.cons.injEq, false_and]
    · have e1 : decide ((i : Int) < (l.length : Int)) = false := by simpa using hi
      have h1 : l.drop i = [] := List.drop_eq_nil_of_le (by omega)
      have h2 : k.drop i = [] := List.drop_eq_nil_of_le (by omega)
      simp only [e1, cond_false, h1, h2, decide_true]

theorem sameList_eq (l k : List Msg) (hl : l.length ≤ 1000000) : ref26_SameList l k = some (decide (l = k), ()) := by
  simp only [ref26_SameList, ref26_SameList_c, Int.ofNat_eq_natCast]
  by_cases h : l.length = k.length
  · have := same_loop l k h hl fuel 0 (by omega) (by unfold fuel; omega)
    simp only [List.drop_zero] at this
    have e : ((l.length : Int) != (k.length : Int)) = false := by simp [h]
    simp only [e, cond_false]
    exact this
  · have e : ((l.length : Int) != (k.length : Int)) = true := by simp; omega
    have : l ≠ k := fun e => h (by rw [e])
    simp only [e, cond_true, this, decide_false]

theorem same_eq (a b : Que) (hl : a.2.1.length ≤ 1000000) : ref26_Same a b = some (decide (a = b), ()) := by
  obtain ⟨r, l, _⟩ := a
  obtain ⟨s, k, _⟩ := b
  simp only [ref26_Same, sameList_eq l k hl]
  by_cases h : r = s
  · subst h
    by_cases h2 : l = k <;> simp [h2]
  · have e : (r == s) = false := by simpa using h
    simp [e, h]

theorem big_ok {n b : Nat} (hn : n ≤ 1000000) (hb : b ≤ 1000) : bigOk n b = true := by
  have : n * b ≤ 1000000 * 1000 := Nat.mul_le_mul hn hb
  simp only [bigOk, Bool.and_eq_true, decide_eq_true_eq]
  exact ⟨by show n * b ≤ 140737488355328; omega, by show n ≤ 9223372036854775807; omega⟩
theorem twin_eq (q : Que) (hl : q.2.1.length ≤ 1000000) : ref26_Twin q = some (q, ()) := by
  unfold ref26_Twin
  rw [big_ok (by simpa using hl) (by omega)]
  rfl

theorem take_agree (q : Que) (hl : q.2.1.length ≤ 1000) : ∃ m p e, channel_Take q = some (m, p, e, ()) ∧ ref26_Take q = some (m, p, e, ()) ∧ p.2.1.length ≤ 1000 := by
  obtain ⟨c1, c2⟩ := checks q
  unfold channel_Take ref26_Take
  rw [c1, c2]
  obtain ⟨room, l, _⟩ := q
  simp only
  by_cases he : qerr (room, l, ()) = 0
  · rw [he]
    simp only [bne_self_eq_false, cond_false, twin_eq (room, l, ()) (show l.length ≤ 1000000 by simp at hl; omega)]
    cases l with
    | nil => exact ⟨_, _, _, rfl, rfl, by simp⟩
    | cons m l =>
      have h80 : 80 * (l.length + 1) ≤ 281474976710656 := by simp at hl; omega
      refine ⟨m, (room, l, ()), 0, ?_, ?_, by simp at hl ⊢; omega⟩
      · have e0 : ((l.length : Int) + 1 == 0) = false := by simp; omega
        have e1 : decide (l.length ≤ 9223372036854775806) = true := by simp at hl ⊢; omega
        simp [Go.Abs.maxBytes, Go.maxLen, e0, h80, e1]
        cases l <;> simp
      · have e0 : ((l.length : Int) + 1 == 0) = false := by simp; omega
        simp [e0]
  · have : (qerr (room, l, ()) != 0) = true := by simpa using he
    simp only [this, cond_true]
    exact ⟨_, _, _, rfl, rfl, by simp⟩

theorem left_agree (q : Que) : ∃ n e, channel_Left q = some (n, e, ()) ∧ ref26_Left q = some (n, e, ()) := by
  obtain ⟨c1, c2⟩ := checks q
  unfold channel_Left ref26_Left
  rw [c1, c2]
  simp only
  cases (qerr q != 0) <;> exact ⟨_, _, rfl, rfl⟩

theorem great_eq (q : Que) : ref26_Great q = some (decide (Int.ofNat q.2.1.length > 20), ()) := rfl

theorem takes_true (q : Que) : law26_ChannelTakes q = some (true, ()) := by
  unfold law26_ChannelTakes
  by_cases h : Int.ofNat (List.length q.2.1) > 20
  · simp only [decide_eq_true h, cond_true]
  have hl : q.2.1.length ≤ 1000 := by simp at h; omega
  obtain ⟨m, p, e, t1, t2, hp⟩ := take_agree q hl
  obtain ⟨n, e', l1, l2⟩ := left_agree q
  simp only [decide_eq_false h, cond_false, twin_eq q (by omega), t1, t2, l1, l2, msg_beq, decide_true, cond_true, same_eq p p (by omega), beq_self_eq_true, Bool.true_and, same_eq q q (by omega)]
end Tw
