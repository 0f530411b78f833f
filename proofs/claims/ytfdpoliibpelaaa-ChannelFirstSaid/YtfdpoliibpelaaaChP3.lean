/- Put and New agree; the laws of queues. -/
import Derived.Test.YtfdpoliibpelaaaChP2
set_option linter.unusedVariables false
set_option linter.unusedSimpArgs false
namespace Tw
open Go.Abs (fuel bigOk cloned tmm)
open Classical

theorem wrap_len {n : Nat} (h : n ≤ 1000000) : Go.IntKind.wrap Go.IntKind.i64 (Int.ofNat n + 1) = ((n + 1 : Nat) : Int) := Go.IntWalk.i64_in _ (by simp only [Int.ofNat_eq_natCast]; omega)

/-- what putting gives -/
def puts (q : Que) (m : Msg) : Que × Int :=
  if qerr q ≠ 0 then ((0, [], ()), qerr q) else if valid m = false then ((0, [], ()), 8) else if (q.2.1.length : Int) = q.1 then ((0, [], ()), 18) else ((q.1, q.2.1 ++ [m], ()), 0)

theorem chan_put (q : Que) (m : Msg) (hl : q.2.1.length ≤ 1000) : channel_Put q m = some ((puts q m).1, (puts q m).2, ()) := by
  obtain ⟨c1, c2⟩ := checks q
  unfold channel_Put puts
  rw [c1, msg_eq]
  obtain ⟨room, l, _⟩ := q
  simp only at hl ⊢
  by_cases he : qerr (room, l, ()) = 0
  · simp only [he, bne_self_eq_false, cond_false, ne_eq, not_true_eq_false, if_false]
    cases hv : valid m with
    | false => rfl
    | true =>
      simp only [cond_true, bne_self_eq_false, cond_false, Bool.true_eq_false, if_false]
      by_cases hr : (l.length : Int) = room
      · have : (Int.ofNat l.length == room) = true := by simpa using hr
        simp only [this, cond_true, hr, if_true]
      · have : (Int.ofNat l.length == room) = false := by simpa using hr
        have h80 : 80 * (l.length + 1) ≤ 281474976710656 := by omega
        have e1 : decide (l.length ≤ 9223372036854775806) = true := by simp; omega
        have e2 : (0 : Int) ≤ (l.length : Int) + 1 := by omega
        have this' : ((l.length : Int) == room) = false := this
        have w : Go.IntKind.wrap Go.IntKind.i64 ((l.length : Int) + 1) = ((l.length + 1 : Nat) : Int) := Go.IntWalk.i64_in _ (by omega)
        have hm : min l.length (l.length + 1) = l.length := by omega
        have hs : l.length + 1 - l.length = 1 := by omega
        have e3 : decide (((l.length + 1 : Nat) : Int) ≤ 9223372036854775807) = true := by simp; omega
        have e4 : decide ((0 : Int) ≤ ((l.length + 1 : Nat) : Int)) = true := by simp; omega
        simp only [Int.ofNat_eq_natCast, this', cond_false, w, e4, cond_true, hr, if_false, Int.toNat_natCast, List.length_replicate, hm, List.take_length, List.drop_replicate, hs]
        simp [Go.Abs.maxBytes, Go.maxLen, h80, e1]
  · have : (qerr (room, l, ()) != 0) = true := by simpa using he
    simp only [this, cond_true, ne_eq, he, not_false_eq_true, if_true]

theorem ref_put (q : Que) (m : Msg) (hl : q.2.1.length ≤ 1000) : ref26_Put q m = some ((puts q m).1, (puts q m).2, ()) := by
  obtain ⟨c1, c2⟩ := checks q
  unfold ref26_Put puts
  rw [c2, valid_eq]
  obtain ⟨room, l, _⟩ := q
  simp only at hl ⊢
  by_cases he : qerr (room, l, ()) = 0
  · simp only [he, bne_self_eq_false, cond_false, ne_eq, not_true_eq_false, if_false]
    cases hv : valid m with
    | false => rfl
    | true =>
      simp only [Bool.not_true, cond_false, Bool.true_eq_false, if_false]
      by_cases hr : (l.length : Int) = room
      · have : (Int.ofNat l.length == room) = true := by simpa using hr
        simp only [this, cond_true, hr, if_true]
      · have : (Int.ofNat l.length == room) = false := by simpa using hr
        have this' : ((l.length : Int) == room) = false := this
        simp [this', hr, twin_eq (room, l, ()) (show l.length ≤ 1000000 by omega), big_ok (show l.length + 1 ≤ 1000000 by omega) (show 80 ≤ 1000 by omega)]
  · have : (qerr (room, l, ()) != 0) = true := by simpa using he
    simp only [this, cond_true, ne_eq, he, not_false_eq_true, if_true]
end Tw
