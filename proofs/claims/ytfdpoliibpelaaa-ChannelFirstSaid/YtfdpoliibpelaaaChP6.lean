/- The law of queues: First. -/
import Derived.Test.YtfdpoliibpelaaaChP5
set_option linter.unusedVariables false
set_option linter.unusedSimpArgs false
namespace Tw
open Go.Abs (fuel bigOk cloned tmm)
open Classical

theorem first_end (n : Nat) (room : Int) (q want : List Msg) (out : Nat) (hq : qerr (room, q, ()) = 0) (ho : out ≤ want.length) (hd : q = want.drop out) :
    law26_ChannelFirst_i7 (n + 1) room q true want (out : Int) = some (true, ()) := by
  obtain ⟨c1, c2⟩ := checks (room, q, ())
  obtain ⟨g1, g2, g3, g4⟩ := qerr_ok hq
  have hql : q.length ≤ 1000000 := by simp only at g3; omega
  simp only [law26_ChannelFirst_i7, law26_ChannelFirst_c7, cond_true, c1, hq, beq_self_eq_true]
  have e1 : decide ((out : Int) ≤ Int.ofNat want.length) = true := by simp; omega
  have e2 : decide ((0 : Int) ≤ (out : Int)) = true := by simp
  have e3 : decide (out ≤ want.length) = true := by simp; omega
  simp only [e1, e2, e3, cond_true, Int.toNat_natCast]
  by_cases h : out = want.length
  · have : q = [] := by rw [hd, h]; exact List.drop_length
    rw [this]
    simp only [decide_eq_true h, cond_true, sameList_eq [] [] (by simp), decide_true]
  · have ht : List.take (want.length - out) (List.drop out want) = q := by
      rw [hd]; apply List.take_of_length_le; simp
    simp only [decide_eq_false h, cond_false, ht, sameList_eq q q hql, decide_true]

theorem first_loop (l : List Msg) (tk : List (Bool × Unit)) (hl : l.length ≤ 30) (htk : tk.length ≤ 60) : ∀ (n : Nat) (room : Int) (q want : List Msg) (at_ out i : Nat), qerr (room, q, ()) = 0 → at_ ≤ l.length → out ≤ want.length → q = want.drop out → i ≤ tk.length → want.length ≤ 8 + i → tk.length - i + 2 ≤ n →
    law26_ChannelFirst_i9 n l tk room q true want (at_ : Int) (out : Int) (i : Int) = some (true, ())
  | 0, room, q, want, at_, out, i, hq, ha, ho, hd, hi, hw, hn => by omega
  | n + 1, room, q, want, at_, out, i, hq, ha, ho, hd, hi, hw, hn => by
    obtain ⟨g1, g2, g3, g4⟩ := qerr_ok hq
    simp only at g1 g2 g3 g4
    have hlen : q.length = want.length - out := by rw [hd]; simp
    simp only [law26_ChannelFirst_i9, law26_ChannelFirst_c9]
    by_cases hi' : i < tk.length
    · have e1 : decide ((i : Int) < Int.ofNat tk.length) = true := by simpa using hi'
      have e2 : decide ((0 : Int) ≤ (i : Int)) = true := by simp
      have wi : Go.IntKind.wrap Go.IntKind.i64 ((i : Int) + 1) = ((i + 1 : Nat) : Int) := Go.IntWalk.i64_in _ (by omega)
      have wa : Go.IntKind.wrap Go.IntKind.i64 ((at_ : Int) + 1) = ((at_ + 1 : Nat) : Int) := Go.IntWalk.i64_in _ (by omega)
      have wo : Go.IntKind.wrap Go.IntKind.i64 ((out : Int) + 1) = ((out + 1 : Nat) : Int) := Go.IntWalk.i64_in _ (by omega)
      simp only [e1, e2, cond_true, Int.toNat_natCast, List.getElem?_eq_getElem hi', wi, wa, wo]
      obtain ⟨b, _⟩ := tk[i]
      cases b with
      | true =>
        simp only [cond_true]
        match q, hq, hd, hlen, g3, g4 with
        | [], hq, hd, hlen, g3, g4 =>
          simp only [take_nil hq, beq_self_eq_true, cond_true]
          have : out = want.length := by simp at hlen; omega
          have e4 : ((out : Int) != Int.ofNat want.length) = false := by simp [this]
          simp only [e4, cond_false, List.length_nil]
          exact first_loop l tk hl htk n room [] want at_ out (i + 1) hq ha ho hd (by omega) (by omega) (by omega)
        | m :: q, hq, hd, hlen, g3, g4 =>
          simp only [List.length_cons] at hlen g3
          have ho' : out < want.length := by omega
          rw [List.drop_eq_getElem_cons ho'] at hd
          injection hd with hd1 hd2
          have e4 : decide ((out : Int) ≥ Int.ofNat want.length) = false := by simp; omega
          have e5 : decide ((0 : Int) ≤ (out : Int)) = true := by simp
          have e6 : decide (out < want.length) = true := by simpa using ho'
          simp only [take_cons hq, Int.reduceBEq, bne_self_eq_false, cond_false, e4, e5, e6, cond_true, List.getElem?_eq_getElem ho', ← hd1, msg_beq, decide_true, Bool.not_true]
          refine first_loop l tk hl htk n room q want at_ (out + 1) (i + 1) (qerr_of g1 g2 (by simp only; omega) ?_) ha (by omega) hd2 (by omega) (by omega) (by omega)
          simp only [List.all_cons, Bool.and_eq_true] at g4
          exact g4.2
      | false =>
        simp only [cond_false]
        by_cases hal : at_ = l.length
        · have : ((at_ : Int) == Int.ofNat l.length) = true := by simp [hal]
          simp only [this, cond_true]
          exact first_loop l tk hl htk n room q want at_ out (i + 1) hq ha ho hd (by omega) (by omega) (by omega)
        · have : ((at_ : Int) == Int.ofNat l.length) = false := by simp; omega
          have ha' : at_ < l.length := by omega
          have e3 : decide ((0 : Int) ≤ (at_ : Int)) = true := by simp
          simp only [this, cond_false, e3, cond_true, List.getElem?_eq_getElem ha', chan_put (room, q, ()) l[at_] (by simp only; omega), puts, hq, ne_eq, not_true_eq_false, if_false]
          cases hv : valid l[at_] with
          | false =>
            simp only [if_true, Int.reduceBEq, Int.reduceBNe, cond_true, cond_false, valid_eq, hv]
            exact first_loop l tk hl htk n room q want (at_ + 1) out (i + 1) hq (by omega) ho hd (by omega) (by omega) (by omega)
          | true =>
            by_cases hr : (q.length : Int) = room
            · have wr : Go.IntKind.wrap Go.IntKind.i64 (Int.ofNat want.length - (out : Int)) = room := by
                simp only [Int.ofNat_eq_natCast]
                rw [Go.IntWalk.i64_in _ (by omega)]; omega
              simp only [Bool.true_eq_false, if_false, hr, if_true, Int.reduceBEq, Int.reduceBNe, cond_true, cond_false, wr, bne_self_eq_false]
              exact first_loop l tk hl htk n room q want (at_ + 1) out (i + 1) hq (by omega) ho hd (by omega) (by omega) (by omega)
            · have hb : bigOk (want.length + [l[at_]].length) 80 = true := big_ok (by simp; omega) (by omega)
              simp only [Bool.true_eq_false, if_false, hr, bne_self_eq_false, cond_false, hb, cond_true]
              refine first_loop l tk hl htk n room (q ++ [l[at_]]) (want ++ [l[at_]]) (at_ + 1) out (i + 1) (qerr_of g1 g2 (by simp only [List.length_append, List.length_singleton]; omega) ?_) (by omega) (by simp; omega) ?_ (by omega) (by simp; omega) (by omega)
              · simp only [List.all_append, g4, List.all_cons, List.all_nil, hv, Bool.and_self]
              · rw [hd, List.drop_append_of_le_length ho]
    · have e1 : decide ((i : Int) < Int.ofNat tk.length) = false := by simpa using hi'
      simp only [e1, cond_false]
      obtain ⟨k, hk⟩ : ∃ k, n = k + 1 := ⟨n - 1, by omega⟩
      rw [hk]
      exact first_end k room q want out hq ho hd

theorem firsts_true (q : Que) (l : List Msg) (tk : List (Bool × Unit)) : law26_ChannelFirst q l tk = some (true, ()) := by
  unfold law26_ChannelFirst law26_ChannelFirst_c
  obtain ⟨c1, c2⟩ := checks q
  rw [c2]
  by_cases he : qerr q = 0
  · obtain ⟨g1, g2, g3, g4⟩ := qerr_ok he
    simp only [he, bne_self_eq_false, cond_false]
    by_cases h1 : Int.ofNat l.length > 30
    · simp only [decide_eq_true h1, cond_true]
    by_cases h2 : Int.ofNat tk.length > 60
    · simp only [decide_eq_false h1, decide_eq_true h2, cond_true, cond_false]
    have hb : bigOk (0 + q.2.1.length) 80 = true := big_ok (by omega) (by omega)
    simp only [decide_eq_false h1, decide_eq_false h2, cond_true, cond_false, hb]
    simp only [Int.ofNat_eq_natCast] at h1 h2
    exact first_loop l tk (by omega) (by omega) fuel q.1 q.2.1 q.2.1 0 0 0 he (by omega) (by omega) (by simp) (by omega) (by omega) (by unfold fuel; omega)
  · have : (qerr q != 0) = true := by simpa using he
    simp only [this, cond_true]
end Tw
