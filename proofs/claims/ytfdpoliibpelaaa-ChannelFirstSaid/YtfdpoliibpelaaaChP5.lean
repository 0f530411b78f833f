/- The law of queues: Left. -/
import Derived.Test.YtfdpoliibpelaaaChP4
set_option linter.unusedVariables false
set_option linter.unusedSimpArgs false
namespace Tw
open Go.Abs (fuel bigOk cloned tmm)
open Classical

theorem left_join (n : Nat) (room : Int) (l : List Msg) (m : Msg) (x12 : Bool) (x13 : Int) (he : qerr (room, l, ()) = 0) (h12 : x12 = true) (h13 : x13 = room - l.length) :
    law26_ChannelLeft_i9 (n + 1) room l m.1 m.2.1 m.2.2.1 m.2.2.2.1 m.2.2.2.2.1 m.2.2.2.2.2.1 m.2.2.2.2.2.2.1 m.2.2.2.2.2.2.2.1 m.2.2.2.2.2.2.2.2.1 m.2.2.2.2.2.2.2.2.2.1 x12 x13 = some (true, ()) := by
  obtain ⟨g1, g2, g3, g4⟩ := qerr_ok he
  simp only at g1 g2 g3 g4
  obtain ⟨m1, m2, m3, m4, m5, m6, m7, m8, m9, m10, _⟩ := m
  simp only [law26_ChannelLeft_i9, law26_ChannelLeft_c9, h12, cond_true]
  have hp := chan_put (room, l, ()) (m1, m2, m3, m4, m5, m6, m7, m8, m9, m10, ()) (by simp; omega)
  simp only [hp, valid_eq]
  cases hv : valid (m1, m2, m3, m4, m5, m6, m7, m8, m9, m10, ()) with
  | false => rfl
  | true =>
    simp only [puts, he, hv, ne_eq, not_true_eq_false, if_false, Bool.true_eq_false, Bool.not_true, cond_false, h13]
    by_cases hr : (l.length : Int) = room
    · simp [hr]
    · have : ¬ room - (l.length : Int) = 0 := by omega
      simp [hr, this]

theorem lefts_true (q : Que) (m : Msg) : law26_ChannelLeft q m = some (true, ()) := by
  obtain ⟨n, hn⟩ := fuel_s
  unfold law26_ChannelLeft law26_ChannelLeft_c
  rw [hn]
  by_cases h : Int.ofNat (List.length q.2.1) > 20
  · simp only [decide_eq_true h, cond_true]
  obtain ⟨c1, c2⟩ := checks q
  simp only [decide_eq_false h, cond_false, c2]
  by_cases he : qerr q = 0
  · obtain ⟨g1, g2, g3, g4⟩ := qerr_ok he
    have w : Go.IntKind.wrap Go.IntKind.i64 (q.1 - (q.2.1.length : Int) + Int.ofNat (List.length q.2.1)) = q.1 := by
      rw [Go.IntWalk.i64_in _ (by simp only [Int.ofNat_eq_natCast]; omega)]
      simp only [Int.ofNat_eq_natCast]; omega
    simp only [he, bne_self_eq_false, cond_false, left_eq q he, w]
    obtain ⟨room, l, _⟩ := q
    cases l with
    | nil =>
      simp only [take_nil he]
      exact left_join (n + 3) room [] m _ _ he rfl (by simp)
    | cons a l =>
      simp only [List.length_cons] at g1 g2 g3
      simp only [take_cons he, beq_self_eq_true, cond_true, List.singleton_append, sameList_eq (a :: l) (a :: l) (by simp; omega), decide_true, Bool.not_true, cond_false, bne_self_eq_false, List.length_singleton, big_ok (show 1 + l.length ≤ 1000000 by omega) (show 80 ≤ 1000 by omega)]
      exact left_join (n + 3) room (a :: l) m _ _ he rfl (by simp)
  · have : (qerr q != 0) = true := by simpa using he
    simp only [this, cond_true]
end Tw
