/- The laws of queues: Puts, Once, Left. -/
import Derived.Test.YtfdpoliibpelaaaChP3
set_option linter.unusedVariables false
set_option linter.unusedSimpArgs false
namespace Tw
open Go.Abs (fuel bigOk cloned tmm)
open Classical

theorem puts_len (q : Que) (m : Msg) (hl : q.2.1.length ≤ 1000) : (puts q m).1.2.1.length ≤ 1001 := by
  unfold puts
  split
  · simp
  · split
    · simp
    · split
      · simp
      · simp; omega

/-- a new queue -/
def news (r : Int) : Que × Int := if r < 1 ∨ r > 8 then ((0, [], ()), 2) else ((r, [], ()), 0)
theorem new_eq (r : Int) : channel_New r = some ((news r).1, (news r).2, ()) ∧ ref26_New r = some ((news r).1, (news r).2, ()) := by
  unfold channel_New ref26_New news
  by_cases h1 : r < 1
  · simp [h1]
  · by_cases h2 : r > 8
    · simp [h1, h2]
    · simp [h1, h2]
theorem news_len (r : Int) : (news r).1.2.1.length = 0 := by unfold news; split <;> rfl

theorem puts_true (q : Que) (m : Msg) (r : Int) : law26_ChannelPuts q m r = some (true, ()) := by
  unfold law26_ChannelPuts
  by_cases h : Int.ofNat (List.length q.2.1) > 20
  · simp only [decide_eq_true h, cond_true]
  have hl : q.2.1.length ≤ 1000 := by simp at h; omega
  obtain ⟨c1, c2⟩ := checks q
  obtain ⟨n1, n2⟩ := new_eq r
  have hp := puts_len q m hl
  have hn := news_len r
  simp only [decide_eq_false h, cond_false, twin_eq q (by omega), chan_put q m hl, ref_put q m hl, n1, n2, same_eq (puts q m).1 (puts q m).1 (by omega), same_eq (news r).1 (news r).1 (by omega), decide_true, cond_true, beq_self_eq_true, c1, c2, same_eq q q (by omega)]

theorem qerr_ok {q : Que} (h : qerr q = 0) : 1 ≤ q.1 ∧ q.1 ≤ 8 ∧ (q.2.1.length : Int) ≤ q.1 ∧ q.2.1.all valid = true := by
  unfold qerr at h
  cases hb : (decide (1 ≤ q.1) && decide (q.1 ≤ 8) && decide (Int.ofNat q.2.1.length ≤ q.1) && q.2.1.all valid) with
  | false => rw [hb] at h; simp at h
  | true =>
    simp only [Bool.and_eq_true, decide_eq_true_eq] at hb
    exact ⟨hb.1.1.1, hb.1.1.2, hb.1.2, hb.2⟩
theorem qerr_of {q : Que} (h1 : 1 ≤ q.1) (h2 : q.1 ≤ 8) (h3 : (q.2.1.length : Int) ≤ q.1) (h4 : q.2.1.all valid = true) : qerr q = 0 := by
  unfold qerr
  have h3' : Int.ofNat q.2.1.length ≤ q.1 := h3
  simp only [decide_eq_true h1, decide_eq_true h2, decide_eq_true h3', h4, Bool.and_self, cond_true]

theorem take_cons {room : Int} {m : Msg} {l : List Msg} (he : qerr (room, m :: l, ()) = 0) : channel_Take (room, m :: l, ()) = some (m, (room, l, ()), 0, ()) := by
  obtain ⟨g1, g2, g3, g4⟩ := qerr_ok he
  simp only [List.length_cons] at g1 g2 g3
  obtain ⟨c1, c2⟩ := checks (room, m :: l, ())
  unfold channel_Take
  rw [c1, he]
  have h80 : 80 * (l.length + 1) ≤ 281474976710656 := by omega
  have e0 : ((l.length : Int) + 1 == 0) = false := by simp; omega
  have e1 : decide (l.length ≤ 9223372036854775806) = true := by simp; omega
  simp [Go.Abs.maxBytes, Go.maxLen, e0, h80, e1]
  cases l <;> simp
theorem take_nil {room : Int} (he : qerr (room, [], ()) = 0) : channel_Take (room, [], ()) = some ((0, 0, 0, 0, 0, 0, 0, 0, 0, 0, ()), (0, [], ()), 6, ()) := by
  obtain ⟨c1, c2⟩ := checks (room, [], ())
  unfold channel_Take
  rw [c1, he]
  rfl
theorem left_eq (q : Que) (he : qerr q = 0) : channel_Left q = some (q.1 - q.2.1.length, 0, ()) := by
  obtain ⟨g1, g2, g3, g4⟩ := qerr_ok he
  obtain ⟨c1, c2⟩ := checks q
  unfold channel_Left
  rw [c1, he]
  have w : Go.IntKind.wrap Go.IntKind.i64 (q.1 - (q.2.1.length : Int)) = q.1 - (q.2.1.length : Int) := Go.IntWalk.i64_in _ (by omega)
  simp [w]

theorem once_true (r : Int) (m : Msg) : law26_ChannelOnce r m = some (true, ()) := by
  unfold law26_ChannelOnce
  obtain ⟨n1, n2⟩ := new_eq r
  rw [n1]
  unfold news
  by_cases h : r < 1 ∨ r > 8
  · simp [h]
  have hq : qerr (r, [], ()) = 0 := qerr_of (by simp; omega) (by simp; omega) (by simp; omega) rfl
  simp only [h, if_false, bne_self_eq_false, cond_false, chan_put (r, [], ()) m (by simp), puts, hq, ne_eq, not_true_eq_false, List.length_nil]
  cases hv : valid m with
  | false => simp [valid_eq, hv]
  | true =>
    have hr : ¬ ((0 : Nat) : Int) = r := by omega
    have hq1 : qerr (r, [m], ()) = 0 := qerr_of (by simp; omega) (by simp; omega) (by simp; omega) (by simp [hv])
    have w : Go.IntKind.wrap Go.IntKind.i64 (r - 1) = r - 1 := Go.IntWalk.i64_in _ (by omega)
    simp only [Bool.true_eq_false, if_false, hr, bne_self_eq_false, cond_false, List.nil_append, take_cons hq1, left_eq (r, [m], ()) hq1, beq_self_eq_true, cond_true, Bool.true_and, same_eq (r, [], ()) (r, [], ()) (by simp), decide_true, List.length_singleton, w]
    simp
end Tw
