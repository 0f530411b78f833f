import Derived.Test.YtfdgpbehbpldfaaGreatPC
import Derived.KernelRfl
/- Events: what each check says of them. -/
set_option linter.unusedVariables false
set_option linter.unusedSimpArgs false
namespace Tg
open Go.Abs (fuel bigOk cloned tmm)
abbrev Ev := Bool × Int × Int × Int × Int × Unit
def tmB (t : Int) : Bool := decide (t ≥ -1099511627776) && decide (t ≤ 1099511627776)
def zR (e : Ev) : Bool := e.2.2.1 == 0 && (e.2.2.2.1 == 0 && (e.2.2.2.2.1 == 0 && true))
def evOk (e : Ev) : Bool := bif e.1 then zR e && (tmB e.2.1 || e.2.1 == 9223372036854775807) else e.2.1 == 0 && tmB e.2.2.2.1
theorem ltime (t : Int) : late_time t = some (tmB t, ()) := by
  unfold late_time tmB
  cases decide (t ≥ -1099511627776) <;> rfl
theorem lt_not {a b : Int} : decide (a < b) = !decide (a ≥ b) := by
  by_cases h : a < b
  · rw [dT h, dF (by omega)]; rfl
  · rw [dF h, dT (by omega)]; rfl
theorem gt_not {a b : Int} : decide (a > b) = !decide (a ≤ b) := by
  by_cases h : a > b
  · rw [dT h, dF (by omega)]; rfl
  · rw [dF h, dT (by omega)]; rfl
theorem r13 (t : Int) : ref13_Check t 1 = some (bif tmB t then 0 else 16, ()) := by
  unfold ref13_Check tmB
  rw [show decide ((1 : Int) < 1) = false from rfl, show decide ((1 : Int) > 1073741824) = false from rfl, @lt_not t, @gt_not t]
  cases decide (t ≥ -1099511627776) <;> cases decide (t ≤ 1099511627776) <;> rfl
theorem r25m (t : Int) : ref25_Mark t = some (tmB t || t == 9223372036854775807, ()) := by
  unfold ref25_Mark tmB
  cases decide (t ≥ -1099511627776) <;> cases decide (t ≤ 1099511627776) <;> rfl
theorem r25r (r : Int × Int × Int × Unit) : ref25_Right r = some (tmB r.2.1, ()) := by
  unfold ref25_Right tmB
  cases decide (r.2.1 ≥ -1099511627776) <;> rfl
theorem mtime (t : Int) : message_isTime t = some (tmB t, ()) := by
  unfold message_isTime tmB
  cases decide (t ≥ -1099511627776) <;> rfl
theorem mmark (t : Int) : message_isMark t = some (tmB t || t == 9223372036854775807, ()) := by
  unfold message_isMark
  simp only [mtime]
  cases tmB t <;> rfl
theorem r20v (e : Ev) : ref20_Valid e = some (evOk e, ()) := by
  unfold ref20_Valid evOk zR
  simp only [r13]
  cases e.1 <;> cases (e.2.2.1 == 0 && (e.2.2.2.1 == 0 && (e.2.2.2.2.1 == 0 && true))) <;> cases (e.2.1 == 0) <;> cases (e.2.1 == 9223372036854775807) <;> cases tmB e.2.1 <;> cases tmB e.2.2.2.1 <;> rfl
theorem r25e (e : Ev) : ref25_Event e = some (bif evOk e then 0 else 8, ()) := by
  unfold ref25_Event evOk zR
  simp only [r25m, r25r]
  cases e.1 <;> cases (e.2.2.1 == 0 && (e.2.2.2.1 == 0 && (e.2.2.2.2.1 == 0 && true))) <;> cases (e.2.1 == 0) <;> cases (e.2.1 == 9223372036854775807) <;> cases tmB e.2.1 <;> cases tmB e.2.2.2.1 <;> rfl
theorem mev (e : Ev) : message_Event e = some (bif evOk e then 0 else 8, ()) := by
  unfold message_Event message_Of evOk zR
  simp only [mtime, mmark, bne_beq]
  cases e.1 <;> cases (e.2.2.1 == 0) <;> cases (e.2.2.2.1 == 0) <;> cases (e.2.2.2.2.1 == 0) <;> cases (e.2.1 == 0) <;> cases (e.2.1 == 9223372036854775807) <;> cases tmB e.2.1 <;> cases tmB e.2.2.2.1 <;> rfl
theorem drop_get {α : Type} {l rest : List α} {i : Nat} {e : α} (h : l.drop i = e :: rest) : i < l.length ∧ l[i]? = some e ∧ l.drop (i + 1) = rest := by
  have h0 : i < l.length := by
    by_cases h1 : i < l.length
    · exact h1
    · rw [List.drop_of_length_le (by omega)] at h; cases h
  refine ⟨h0, ?_, ?_⟩
  · have := congrArg (·[0]?) h
    simpa using this
  · have := congrArg (List.drop 1) h
    simpa [List.drop_drop, Nat.add_comm] using this
theorem drop_end {α : Type} {l : List α} {i : Nat} (h : l.drop i = []) (hi : i ≤ l.length) : i = l.length := by
  have := congrArg List.length h
  simp at this
  omega
theorem wS {i : Nat} (h : i < 1000000) : Go.IntKind.wrap Go.IntKind.i64 ((i : Int) + 1) = ((i + 1 : Nat) : Int) := by
  rw [w64 (by omega) (by omega)]; omega
theorem iN (i : Nat) : decide ((0 : Int) ≤ (i : Int)) = true := dT (by omega)
theorem iL {i n : Nat} (h : i < n) : decide ((i : Int) < (n : Int)) = true := dT (by omega)
theorem iG {i n : Nat} (h : ¬ i < n) : decide ((i : Int) < (n : Int)) = false := dF (by omega)

theorem late_loop (l : List Ev) (hl : l.length ≤ 1000) : ∀ (rest : List Ev) (i n : Nat), l.drop i = rest → i ≤ l.length → rest.length + 1 ≤ n → late_Check_i6 n l (l.length : Int) (i : Int) = some (bif rest.all evOk then 0 else 8, ())
  | [], i, n, h, hi, hn => by
    obtain ⟨m, rfl⟩ : ∃ m, n = m + 1 := ⟨n - 1, by simp at hn; omega⟩
    have := drop_end h hi
    simp only [late_Check_i6, late_Check_c6, iG (show ¬ i < l.length by omega), cond_false, List.all_nil, cond_true]
  | e :: rest, i, n, h, hi, hn => by
    obtain ⟨m, rfl⟩ : ∃ m, n = m + 1 := ⟨n - 1, by simp at hn; omega⟩
    obtain ⟨h1, h2, h3⟩ := drop_get h
    have ih := late_loop l hl rest (i + 1) m h3 (by omega) (by simp at hn; omega)
    simp only [late_Check_i6, late_Check_c6, iL h1, iN, cond_true, Int.toNat_natCast, h2, ltime, wS (show i < 1000000 by omega), ih, List.all_cons]
    unfold evOk zR
    cases e.1 <;> cases (e.2.2.1 == 0 && (e.2.2.2.1 == 0 && (e.2.2.2.2.1 == 0 && true))) <;> cases (e.2.1 == 0) <;> cases (e.2.1 == 9223372036854775807) <;> cases tmB e.2.1 <;> cases tmB e.2.2.2.1 <;> rfl
def lateE (l : List Ev) : Int := bif decide ((l.length : Int) > 60) then 4 else bif l.all evOk then 0 else 8
theorem late_eq' (l : List Ev) : late_Check l = some (lateE l, ()) := by
  unfold late_Check late_Check_c lateE
  by_cases h : (l.length : Int) > 60
  · simp only [Int.ofNat_eq_natCast, dT h, cond_true]
  · obtain ⟨n, hn⟩ := fuel_s
    simp only [Int.ofNat_eq_natCast, dF h, cond_false]
    exact late_loop l (by omega) l 0 fuel rfl (by omega) (by rw [hn]; omega)
theorem r20_loop (l : List Ev) (hl : l.length ≤ 1000) : ∀ (rest : List Ev) (i n : Nat), l.drop i = rest → i ≤ l.length → rest.length + 1 ≤ n → ref20_Check_i6 n l (i : Int) = some (bif rest.all evOk then 0 else 8, ())
  | [], i, n, h, hi, hn => by
    obtain ⟨m, rfl⟩ : ∃ m, n = m + 1 := ⟨n - 1, by simp at hn; omega⟩
    have := drop_end h hi
    simp only [ref20_Check_i6, ref20_Check_c6, Int.ofNat_eq_natCast, iG (show ¬ i < l.length by omega), cond_false, List.all_nil, cond_true]
  | e :: rest, i, n, h, hi, hn => by
    obtain ⟨m, rfl⟩ : ∃ m, n = m + 1 := ⟨n - 1, by simp at hn; omega⟩
    obtain ⟨h1, h2, h3⟩ := drop_get h
    have ih := r20_loop l hl rest (i + 1) m h3 (by omega) (by simp at hn; omega)
    simp only [ref20_Check_i6, ref20_Check_c6, Int.ofNat_eq_natCast, iL h1, iN, cond_true, Int.toNat_natCast, h2, r20v, wS (show i < 1000000 by omega), ih, List.all_cons]
    cases evOk e <;> rfl
theorem r20_eq (l : List Ev) : ref20_Check l = some (lateE l, ()) := by
  unfold ref20_Check ref20_Check_c lateE
  by_cases h : (l.length : Int) > 60
  · simp only [Int.ofNat_eq_natCast, dT h, cond_true]
  · obtain ⟨n, hn⟩ := fuel_s
    simp only [Int.ofNat_eq_natCast, dF h, cond_false]
    exact r20_loop l (by omega) l 0 fuel rfl (by omega) (by rw [hn]; omega)
end Tg

/- Plans: the steps, and that a plan that was made is right. -/
set_option linter.unusedVariables false
set_option linter.unusedSimpArgs false
namespace Tg
open Go.Abs (fuel bigOk cloned tmm)
theorem cloned_ok {α : Type} {b : Nat} {l : List α} (h : l.length ≤ 1000000) (hb : b ≤ 1000) : cloned b l = some (l, ()) := by
  unfold cloned
  rw [big_ok h hb, cond_true]
def stepsL (w k j s : Bool) : List (Int × Unit) :=
  [(1, ()), (2, ())] ++ (bif w then [(3, ())] else []) ++ [(4, ())] ++ (bif k then [(5, ())] else []) ++ [(6, ())] ++ (bif j then [(8, ())] else [(7, ())]) ++ [(9, ())] ++ (bif s then [(10, ())] else [])
theorem ps_w (w k j : Bool) (l : Int) : plan_steps_i2 fuel j k l (bif w then [(1, ()), (2, ())] ++ [(3, ())] else [(1, ()), (2, ())]) = (bif l == 2 then some (stepsL w k j true, ()) else some (stepsL w k j false, ())) := by
  cases w <;> cases k <;> cases j <;> kernel_rfl
theorem stepsL_len (w k j s : Bool) : (stepsL w k j s).length ≤ 20 := by
  cases w <;> cases k <;> cases j <;> cases s <;> decide
theorem psome (q : Qr) : ∃ s, plan_steps q = some (s, ()) ∧ s.length ≤ 20 := by
  have h := ps_w (decide (Int.ofNat q.2.2.2.2.1.length > 0)) q.2.2.2.2.2.2.2.2.1 q.2.2.2.1 q.2.2.2.2.2.2.2.2.2.1
  unfold plan_steps plan_steps_c
  generalize decide (Int.ofNat q.2.2.2.2.1.length > 0) = w at h ⊢
  cases w with
  | true =>
    simp only [cond_true] at h ⊢
    rw [h]
    cases (q.2.2.2.2.2.2.2.2.2.1 == 2) with
    | true => exact ⟨_, rfl, stepsL_len _ _ _ _⟩
    | false => exact ⟨_, rfl, stepsL_len _ _ _ _⟩
  | false =>
    simp only [cond_false] at h ⊢
    rw [h]
    cases (q.2.2.2.2.2.2.2.2.2.1 == 2) with
    | true => exact ⟨_, rfl, stepsL_len _ _ _ _⟩
    | false => exact ⟨_, rfl, stepsL_len _ _ _ _⟩
theorem bne_s (x : Int) : (x != x) = false := by simp
theorem eq_loop (l : List (Int × Unit)) (hl : l.length ≤ 1000) : ∀ (rest : List (Int × Unit)) (i n : Nat), l.drop i = rest → i ≤ l.length → rest.length + 1 ≤ n → slices_Equal___uint8_uint8__i6 n l l (l.length : Int) (i : Int) = some (true, ())
  | [], i, n, h, hi, hn => by
    obtain ⟨m, rfl⟩ : ∃ m, n = m + 1 := ⟨n - 1, by simp at hn; omega⟩
    have := drop_end h hi
    simp only [slices_Equal___uint8_uint8__i6, slices_Equal___uint8_uint8__c6, iG (show ¬ i < l.length by omega), cond_false]
  | e :: rest, i, n, h, hi, hn => by
    obtain ⟨m, rfl⟩ : ∃ m, n = m + 1 := ⟨n - 1, by simp at hn; omega⟩
    obtain ⟨h1, h2, h3⟩ := drop_get h
    have ih := eq_loop l hl rest (i + 1) m h3 (by omega) (by simp at hn; omega)
    simp only [slices_Equal___uint8_uint8__i6, slices_Equal___uint8_uint8__c6, iL h1, iN, cond_true, cond_false, Int.toNat_natCast, h2, wS (show i < 1000000 by omega), bne_s, ih]
theorem eq_self {l : List (Int × Unit)} (hl : l.length ≤ 1000) : slices_Equal___uint8_uint8_ l l = some (true, ()) := by
  obtain ⟨n, hn⟩ := fuel_s
  unfold slices_Equal___uint8_uint8_ slices_Equal___uint8_uint8__c
  simp only [bne_s, cond_false, Int.ofNat_eq_natCast]
  exact eq_loop l hl l 0 fuel rfl (by omega) (by rw [hn]; omega)
theorem planOf_ok {q : Qr} (h : (chkQ q).2.1 = 0) (h1 : q.2.1.length ≤ 1000) (h2 : q.2.2.1.length ≤ 1000) (h3 : q.2.2.2.2.1.length ≤ 1000) : ∃ s, plan_Of q = some ((s, q), 0, ()) ∧ plan_Check (s, q) = some (0, ()) := by
  obtain ⟨s, hs, hl⟩ := psome q
  refine ⟨s, ?_, ?_⟩
  · unfold plan_Of
    simp only [checks_eq, bne_f h, cond_false, cloned_ok (show q.2.1.length ≤ 1000000 by omega) (show 40 ≤ 1000 by omega), cloned_ok (show q.2.2.1.length ≤ 1000000 by omega) (show 8 ≤ 1000 by omega), cloned_ok (show q.2.2.2.2.1.length ≤ 1000000 by omega) (show 40 ≤ 1000 by omega)]
    rw [show (q.1, q.2.1, q.2.2.1, q.2.2.2.1, q.2.2.2.2.1, q.2.2.2.2.2) = q from rfl, hs]
  · unfold plan_Check
    simp only [checks_eq, bne_f h, cond_false, hs, eq_self (show s.length ≤ 1000 by omega)]
    rfl
/- the reference's steps: what they are does not matter -/
theorem has_some (q : Qr) (k : Int) : ∃ b, ref22_Has q k = some (b, ()) := by
  unfold ref22_Has
  cases (k == 3) <;> cases (k == 5) <;> cases (k == 7) <;> cases (k == 8) <;> cases (k == 10) <;> cases decide (k ≥ 1) <;> exact ⟨_, rfl⟩
theorem w8 {k : Nat} (h : k ≤ 20) : Go.IntKind.wrap Go.IntKind.u8 ((k : Int) + 1) = ((k + 1 : Nat) : Int) := by
  have : ∀ j : Fin 21, Go.IntKind.wrap Go.IntKind.u8 ((j.1 : Int) + 1) = ((j.1 + 1 : Nat) : Int) := by decide
  exact this ⟨k, by omega⟩
theorem rsteps_loop (q : Qr) : ∀ (c k n : Nat) (L : List (Int × Unit)), k + c = 11 → L.length ≤ 100 * k → c < n → ∃ s, ref22_Steps_i4 n q.1 q.2.1 q.2.2.1 q.2.2.2.1 q.2.2.2.2.1 q.2.2.2.2.2.1 q.2.2.2.2.2.2.1 q.2.2.2.2.2.2.2.1 q.2.2.2.2.2.2.2.2.1 q.2.2.2.2.2.2.2.2.2.1 L (k : Int) = some (s, ())
  | 0, k, n, L, hk, hL, hn => by
    obtain ⟨m, rfl⟩ : ∃ m, n = m + 1 := ⟨n - 1, by omega⟩
    simp only [ref22_Steps_i4, ref22_Steps_c4, dF (show ¬ (k : Int) ≤ 10 by omega), cond_false]
    exact ⟨_, rfl⟩
  | c + 1, k, n, L, hk, hL, hn => by
    obtain ⟨m, rfl⟩ : ∃ m, n = m + 1 := ⟨n - 1, by omega⟩
    obtain ⟨b, hb⟩ := has_some q (k : Int)
    have hb' : ref22_Has (q.1, q.2.1, q.2.2.1, q.2.2.2.1, q.2.2.2.2.1, q.2.2.2.2.2.1, q.2.2.2.2.2.2.1, q.2.2.2.2.2.2.2.1, q.2.2.2.2.2.2.2.2.1, q.2.2.2.2.2.2.2.2.2.1, ()) (k : Int) = some (b, ()) := hb
    obtain ⟨s1, i1⟩ := rsteps_loop q c (k + 1) m L (by omega) (by omega) (by omega)
    obtain ⟨s2, i2⟩ := rsteps_loop q c (k + 1) m (L ++ [((k : Int), ())]) (by omega) (by simp; omega) (by omega)
    simp only [ref22_Steps_i4, ref22_Steps_c4, dT (show (k : Int) ≤ 10 by omega), cond_true, hb', w8 (show k ≤ 20 by omega), big_ok (show L.length + [((k : Int), ())].length ≤ 1000000 by simp; omega) (show 1 ≤ 1000 by omega), i1, i2]
    cases b
    · exact ⟨_, rfl⟩
    · exact ⟨_, rfl⟩
theorem twin_ok {q : Qr} (h1 : q.2.1.length ≤ 1000) (h2 : q.2.2.1.length ≤ 1000) (h3 : q.2.2.2.2.1.length ≤ 1000) : ref08_Twin q = some (q, ()) := by
  unfold ref08_Twin
  simp only [big_ok (show 0 + q.2.1.length ≤ 1000000 by omega) (show 40 ≤ 1000 by omega), big_ok (show 0 + q.2.2.1.length ≤ 1000000 by omega) (show 8 ≤ 1000 by omega), big_ok (show 0 + q.2.2.2.2.1.length ≤ 1000000 by omega) (show 40 ≤ 1000 by omega), cond_true]
theorem rOfp_ok {q : Qr} (h : (chkQ q).2.1 = 0) (h1 : q.2.1.length ≤ 1000) (h2 : q.2.2.1.length ≤ 1000) (h3 : q.2.2.2.2.1.length ≤ 1000) : ∃ s, ref22_Of q = some ((s, q), 0, ()) := by
  obtain ⟨n, hn⟩ := fuel_s
  obtain ⟨s, hs⟩ := rsteps_loop q 10 1 fuel [] (by omega) (by simp) (by rw [hn]; omega)
  have hs' : ref22_Steps q = some (s, ()) := hs
  refine ⟨s, ?_⟩
  unfold ref22_Of
  simp only [rchecks_eq, bne_f h, cond_false, hs', twin_ok h1 h2 h3]
end Tg

/- The reference's graph of a plan, told. -/
set_option linter.unusedVariables false
set_option linter.unusedSimpArgs false
namespace Tg
open Go.Abs (fuel bigOk cloned tmm)
abbrev Op2 := Int × Int × Unit
abbrev Ch5 := Int × Int × Int × Int × Int × Unit
def nums (n : Nat) (k : Int) : List Op2 := (List.range n).map fun (i : Nat) => (k, (i : Int), ())
def opsG (n p : Nat) (key join side : Bool) : List Op2 :=
  nums n 1 ++ nums n 2 ++ (bif key then nums n 3 else []) ++ nums p (bif join then 5 else 4) ++ [(6, 0, ())] ++ (bif side then [(7, 0, ())] else [])
def chG (n p : Nat) (key side : Bool) (room : Int) : List Ch5 :=
  let part : Nat := 2 * n + (bif key then n else 0)
  let sink : Nat := part + p
  ((List.range n).map fun (i : Nat) => ((i : Int), 0, ((n + i : Nat) : Int), 0, room, ())) ++
  ((List.range n).flatMap fun (i : Nat) => (((n + i : Nat) : Int), 0, (bif key then ((2 * n + i : Nat) : Int) else (part : Int)), (bif key then 0 else (i : Int)), room, ()) :: (bif side then [(((n + i : Nat) : Int), 1, ((sink + 1 : Nat) : Int), (i : Int), room, ())] else [])) ++
  (bif key then ((List.range n).flatMap fun (i : Nat) => (List.range p).map fun (k : Nat) => (((2 * n + i : Nat) : Int), (k : Int), ((part + k : Nat) : Int), (i : Int), room, ())) else []) ++
  ((List.range p).map fun (k : Nat) => (((part + k : Nat) : Int), 0, (sink : Int), (k : Int), room, ()))
set_option maxRecDepth 100000 in
theorem made_n (n p : Nat) (hn : 1 ≤ n ∧ n ≤ 4) (hp : 1 ≤ p ∧ p ≤ 3) (key join side : Bool) (room : Int) :
    ref24_Made_i3 fuel (p : Int) room join (n : Int) key side = some ((opsG n p key join side, chG n p key side room, ()), ()) := by
  obtain rfl | rfl | rfl | rfl : n = 1 ∨ n = 2 ∨ n = 3 ∨ n = 4 := by omega
  all_goals
    obtain rfl | rfl | rfl : p = 1 ∨ p = 2 ∨ p = 3 := by omega
  all_goals
    cases key <;> cases join <;> cases side <;> kernel_rfl
end Tg

/- The reference's tasks and machine, told. -/
set_option linter.unusedVariables false
set_option linter.unusedSimpArgs false
namespace Tg
open Go.Abs (fuel bigOk cloned tmm)
abbrev low : Int := -9223372036854775808
abbrev Tk := Int × Int × Int × List (Int × Int × Int × Int × Int × Int × Int × Int × Int × Int × Int × Unit) × List (Int × Unit) × List (Int × Int × Int × Int × Int × Int × Int × Int × Int × Int × Int × Unit) × List Ev × List Ch5 × List (Int × Int × Int × Unit) × Unit
abbrev Inp := List (List Ev × Unit)
abbrev Qu := Int × List (Int × Int × Int × Int × Int × Int × Int × Int × Int × Int × Unit) × Unit
def taskOf (n : Nat) (inp : Inp) (o : Op2) : Tk :=
  bif o.1 == 1 then (1, o.2.1, 0, [], [], [], (inp.getD o.2.1.toNat ([], ())).1, [], [], ())
  else bif o.1 == 2 then (2, o.2.1, 0, [], [(low, ())], [], [], [], [], ())
  else bif o.1 == 3 then (3, o.2.1, 0, [], [], [], [], [], [], ())
  else bif o.1 == 4 then (4, o.2.1, 0, [], List.replicate n (low, ()), [], [], [], [], ())
  else bif o.1 == 5 then (5, o.2.1, 0, [], [(low, ()), (low, ())], [], [], [], [], ())
  else bif o.1 == 7 then (7, 0, 0, [], [], [], [], [], [], ())
  else (6, 0, 0, [], [], [], [], [], [], ())
def okOp (n : Nat) (o : Op2) : Prop :=
  (o.1 = 1 ∧ 0 ≤ o.2.1 ∧ o.2.1 < (n : Int)) ∨ ((o.1 = 2 ∨ o.1 = 3) ∧ 0 ≤ o.2.1 ∧ o.2.1 < 4) ∨ ((o.1 = 4 ∨ o.1 = 5) ∧ 0 ≤ o.2.1 ∧ o.2.1 < 3) ∨ o.1 = 6 ∨ o.1 = 7
instance (n : Nat) (o : Op2) : Decidable (okOp n o) := by unfold okOp; infer_instance
theorem r28_loop (N : Int) (l : List Ev) (hl : l.length ≤ 1000) (ha : l.all evOk = true) : ∀ (rest : List Ev) (i n : Nat), l.drop i = rest → i ≤ l.length → rest.length + 1 ≤ n → ref28_New_i9 n N l (i : Int) = some ((1, N, 0, [], [], [], l, [], [], ()), 0, ())
  | [], i, n, h, hi, hn => by
    obtain ⟨m, rfl⟩ : ∃ m, n = m + 1 := ⟨n - 1, by simp at hn; omega⟩
    have := drop_end h hi
    simp only [ref28_New_i9, ref28_New_c9, Int.ofNat_eq_natCast, iG (show ¬ i < l.length by omega), cond_false, big_ok (show 0 + l.length ≤ 1000000 by omega) (show 40 ≤ 1000 by omega), cond_true]
  | e :: rest, i, n, h, hi, hn => by
    obtain ⟨m, rfl⟩ : ∃ m, n = m + 1 := ⟨n - 1, by simp at hn; omega⟩
    obtain ⟨h1, h2, h3⟩ := drop_get h
    have ih := r28_loop N l hl ha rest (i + 1) m h3 (by omega) (by simp at hn; omega)
    have he : evOk e = true := List.all_eq_true.1 ha e (List.mem_of_getElem? h2)
    simp only [ref28_New_i9, ref28_New_c9, Int.ofNat_eq_natCast, iL h1, iN, cond_true, cond_false, Int.toNat_natCast, h2, r25e, he, bne_s, wS (show i < 1000000 by omega), ih]
theorem lateE0 {l : List Ev} (h : lateE l = 0) : l.length ≤ 60 ∧ l.all evOk = true := by
  unfold lateE at h
  by_cases h1 : (l.length : Int) > 60
  · rw [dT h1] at h; cases h
  · rw [dF h1] at h
    refine ⟨by omega, ?_⟩
    cases ha : l.all evOk with
    | true => rfl
    | false => rw [ha] at h; cases h
theorem r28_eq {N : Int} {l : List Ev} (h1 : 0 ≤ N) (h2 : N < 4) (h : lateE l = 0) : ref28_New N l = some ((1, N, 0, [], [], [], l, [], [], ()), 0, ()) := by
  obtain ⟨h3, h4⟩ := lateE0 h
  obtain ⟨n, hn⟩ := fuel_s
  unfold ref28_New ref28_New_c
  simp only [dF (show ¬ N < 0 by omega), dF (show ¬ N ≥ 4 by omega), Int.ofNat_eq_natCast, dF (show ¬ (l.length : Int) > 60 by omega), cond_false]
  exact r28_loop N l (by omega) h4 l 0 fuel rfl (by omega) (by rw [hn]; omega)
set_option maxRecDepth 100000 in
theorem r31_eq {n : Nat} (h1 : 1 ≤ n) (h2 : n ≤ 4) : ref31_New (n : Int) = some (List.replicate n (low, ()), 0, ()) := by
  obtain rfl | rfl | rfl | rfl : n = 1 ∨ n = 2 ∨ n = 3 ∨ n = 4 := by omega
  all_goals kernel_rfl
def inpOk (inp : Inp) : Prop := ∀ l ∈ inp, lateE l.1 = 0
theorem inp_get {inp : Inp} (hi : inpOk inp) {N : Int} (h1 : 0 ≤ N) (h2 : N < (inp.length : Int)) : ∃ l, inp[N.toNat]? = some (l, ()) ∧ (inp.getD N.toNat ([], ())).1 = l ∧ lateE l = 0 := by
  have hlt : N.toNat < inp.length := by omega
  refine ⟨inp[N.toNat].1, List.getElem?_eq_getElem hlt, ?_, hi _ (List.getElem_mem hlt)⟩
  rw [List.getD_eq_getElem?_getD, List.getElem?_eq_getElem hlt]
  rfl
theorem fresh_eq {q : Qr} {inp : Inp} (hi : inpOk inp) (hq : q.2.2.1.length = inp.length) (h1 : 1 ≤ inp.length) (h4 : inp.length ≤ 4) {o : Op2} (ho : okOp inp.length o) : ref36_fresh q inp o = some (taskOf inp.length inp o, ()) := by
  obtain ⟨k, N, u⟩ := o
  unfold ref36_fresh taskOf
  rcases ho with ⟨e, a, b⟩ | ⟨e | e, a, b⟩ | ⟨e | e, a, b⟩ | e | e
  · simp only at e a b
    subst e
    obtain ⟨l, g1, g2, g3⟩ := inp_get hi a b
    simp only [beq_self_eq_true, cond_true, dT a, g1, r28_eq a (by omega) g3, g2]
  · simp only at e a b
    subst e
    unfold ref29_New
    simp only [dF (show ¬ N < 0 by omega), dF (show ¬ N ≥ 4 by omega)]
    rfl
  · simp only at e a b
    subst e
    unfold ref30_New
    simp only [dF (show ¬ N < 0 by omega), dF (show ¬ N ≥ 4 by omega)]
    rfl
  · simp only at e a b
    subst e
    unfold ref32_New
    simp only [dF (show ¬ N < 0 by omega), dF (show ¬ N ≥ 3 by omega), Int.ofNat_eq_natCast, hq, dF (show ¬ (inp.length : Int) < 1 by omega), dF (show ¬ (inp.length : Int) > 4 by omega), r31_eq h1 h4]
    rfl
  · simp only at e a b
    subst e
    unfold ref33_New
    simp only [dF (show ¬ N < 0 by omega), dF (show ¬ N ≥ 3 by omega)]
    rfl
  · simp only at e
    subst e
    rfl
  · simp only at e
    subst e
    rfl
def qOf (c : Ch5) : Qu := (c.2.2.2.2.1, [], ())
theorem map_snoc {α β : Type} (f : α → β) {l : List α} {i : Nat} {e : α} (h : l[i]? = some e) : (l.take i).map f ++ [f e] = (l.take (i + 1)).map f := by
  rw [List.take_add_one, h]
  simp
theorem r36_queues (q : Qr) (ops : List Op2) (chs : List Ch5) (ts : List Tk) (hl : chs.length ≤ 1000) (hr : ∀ c ∈ chs, 1 ≤ c.2.2.2.2.1 ∧ c.2.2.2.2.1 ≤ 8) : ∀ (rest : List Ch5) (i n : Nat), chs.drop i = rest → i ≤ chs.length → rest.length + 1 ≤ n →
    ref36_Made_i12 n q.1 q.2.1 q.2.2.1 q.2.2.2.1 q.2.2.2.2.1 q.2.2.2.2.2.1 q.2.2.2.2.2.2.1 q.2.2.2.2.2.2.2.1 q.2.2.2.2.2.2.2.2.1 q.2.2.2.2.2.2.2.2.2.1 ops chs ts ((chs.take i).map qOf) (i : Int) =
      some ((q.1, q.2.1, q.2.2.1, q.2.2.2.1, q.2.2.2.2.1, q.2.2.2.2.2.1, q.2.2.2.2.2.2.1, q.2.2.2.2.2.2.2.1, q.2.2.2.2.2.2.2.2.1, q.2.2.2.2.2.2.2.2.2.1, ops, chs, ts, chs.map qOf, ()), ())
  | [], i, n, h, hi, hn => by
    obtain ⟨m, rfl⟩ : ∃ m, n = m + 1 := ⟨n - 1, by simp at hn; omega⟩
    have := drop_end h hi
    subst this
    simp only [ref36_Made_i12, ref36_Made_c12, Int.ofNat_eq_natCast, iG (show ¬ chs.length < chs.length by omega), cond_false, List.take_length]
  | e :: rest, i, n, h, hi, hn => by
    obtain ⟨m, rfl⟩ : ∃ m, n = m + 1 := ⟨n - 1, by simp at hn; omega⟩
    obtain ⟨h1, h2, h3⟩ := drop_get h
    have ih := r36_queues q ops chs ts hl hr rest (i + 1) m h3 (by omega) (by simp at hn; omega)
    obtain ⟨r1, r2⟩ := hr e (List.mem_of_getElem? h2)
    have hn : ref26_New e.2.2.2.2.1 = some (qOf e, 0, ()) := by
      unfold ref26_New
      simp only [dF (show ¬ e.2.2.2.2.1 < 1 by omega), dF (show ¬ e.2.2.2.2.1 > 8 by omega)]
      rfl
    simp only [ref36_Made_i12, ref36_Made_c12, Int.ofNat_eq_natCast, iL h1, iN, cond_true, Int.toNat_natCast, h2, hn, big_ok (show ((chs.take i).map qOf).length + [qOf e].length ≤ 1000000 by simp; omega) (show 32 ≤ 1000 by omega), map_snoc qOf h2, wS (show i < 1000000 by omega), ih]
theorem r36_tasks (q : Qr) (inp : Inp) (hi : inpOk inp) (hq : q.2.2.1.length = inp.length) (g1 : 1 ≤ inp.length) (g4 : inp.length ≤ 4) (ops : List Op2) (chs : List Ch5) (hl : ops.length ≤ 1000) (hl2 : chs.length ≤ 1000) (ho : ∀ o ∈ ops, okOp inp.length o) (hr : ∀ c ∈ chs, 1 ≤ c.2.2.2.2.1 ∧ c.2.2.2.2.1 ≤ 8) (K : Nat) (hK : chs.length + 10 ≤ K) : ∀ (rest : List Op2) (i n : Nat), ops.drop i = rest → i ≤ ops.length → rest.length + K ≤ n →
    ref36_Made_i6 n inp q.1 q.2.1 q.2.2.1 q.2.2.2.1 q.2.2.2.2.1 q.2.2.2.2.2.1 q.2.2.2.2.2.2.1 q.2.2.2.2.2.2.2.1 q.2.2.2.2.2.2.2.2.1 q.2.2.2.2.2.2.2.2.2.1 q.1 q.2.1 q.2.2.1 q.2.2.2.1 q.2.2.2.2.1 q.2.2.2.2.2.1 q.2.2.2.2.2.2.1 q.2.2.2.2.2.2.2.1 q.2.2.2.2.2.2.2.2.1 q.2.2.2.2.2.2.2.2.2.1 ops chs ((ops.take i).map (taskOf inp.length inp)) (i : Int) =
      some ((q.1, q.2.1, q.2.2.1, q.2.2.2.1, q.2.2.2.2.1, q.2.2.2.2.2.1, q.2.2.2.2.2.2.1, q.2.2.2.2.2.2.2.1, q.2.2.2.2.2.2.2.2.1, q.2.2.2.2.2.2.2.2.2.1, ops, chs, ops.map (taskOf inp.length inp), chs.map qOf, ()), ())
  | [], i, n, h, hi', hn => by
    obtain ⟨m, rfl⟩ : ∃ m, n = m + 1 + 1 := ⟨n - 2, by simp at hn; omega⟩
    have := drop_end h hi'
    subst this
    have hq := r36_queues q ops chs (ops.map (taskOf inp.length inp)) hl2 hr chs 0 m rfl (by omega) (by simp at hn; omega)
    simp only [ref36_Made_i6, ref36_Made_c6, Int.ofNat_eq_natCast, iG (show ¬ ops.length < ops.length by omega), cond_false, List.take_length, ref36_Made_i4, ref36_Made_c4]
    exact hq
  | e :: rest, i, n, h, hi', hn => by
    obtain ⟨m, rfl⟩ : ∃ m, n = m + 1 := ⟨n - 1, by simp at hn; omega⟩
    obtain ⟨h1, h2, h3⟩ := drop_get h
    have ih := r36_tasks q inp hi hq g1 g4 ops chs hl hl2 ho hr K hK rest (i + 1) m h3 (by omega) (by simp at hn; omega)
    have hf := fresh_eq hi hq g1 g4 (ho e (List.mem_of_getElem? h2))
    have hf' : ref36_fresh (q.1, q.2.1, q.2.2.1, q.2.2.2.1, q.2.2.2.2.1, q.2.2.2.2.2.1, q.2.2.2.2.2.2.1, q.2.2.2.2.2.2.2.1, q.2.2.2.2.2.2.2.2.1, q.2.2.2.2.2.2.2.2.2.1, ()) inp e = some (taskOf inp.length inp e, ()) := hf
    simp only [ref36_Made_i6, ref36_Made_c6, Int.ofNat_eq_natCast, iL h1, iN, cond_true, Int.toNat_natCast, h2, hf', big_ok (show ((ops.take i).map (taskOf inp.length inp)).length + [taskOf inp.length inp e].length ≤ 1000000 by simp; omega) (show 168 ≤ 1000 by omega), map_snoc (taskOf inp.length inp) h2, wS (show i < 1000000 by omega), ih]
set_option maxRecDepth 100000 in
theorem opsG_ok (n p : Nat) (hn : 1 ≤ n ∧ n ≤ 4) (hp : 1 ≤ p ∧ p ≤ 3) (key join side : Bool) : (opsG n p key join side).length ≤ 20 ∧ ∀ o ∈ opsG n p key join side, okOp n o := by
  obtain rfl | rfl | rfl | rfl : n = 1 ∨ n = 2 ∨ n = 3 ∨ n = 4 := by omega
  all_goals
    obtain rfl | rfl | rfl : p = 1 ∨ p = 2 ∨ p = 3 := by omega
  all_goals
    cases key <;> cases join <;> cases side <;> decide
set_option maxRecDepth 100000 in
theorem chG_ok (n p : Nat) (hn : 1 ≤ n ∧ n ≤ 4) (hp : 1 ≤ p ∧ p ≤ 3) (key side : Bool) (room : Int) : (chG n p key side room).length ≤ 100 ∧ ∀ c ∈ chG n p key side room, c.2.2.2.2.1 = room := by
  constructor
  · obtain rfl | rfl | rfl | rfl : n = 1 ∨ n = 2 ∨ n = 3 ∨ n = 4 := by omega
    all_goals
      obtain rfl | rfl | rfl : p = 1 ∨ p = 2 ∨ p = 3 := by omega
    all_goals
      cases key <;> cases side <;> exact Nat.le_of_ble_eq_true rfl
  · intro c hc
    unfold chG at hc
    simp only [List.mem_append, List.mem_map, List.mem_flatMap, List.mem_cons] at hc
    rcases hc with ((⟨i, _, rfl⟩ | ⟨i, _, h⟩) | h) | ⟨i, _, rfl⟩
    · rfl
    · rcases h with rfl | h
      · rfl
      · cases side with
        | false => simp at h
        | true => simp at h; subst h; rfl
    · cases key with
      | false => simp at h
      | true =>
        simp only [cond_true, List.mem_flatMap, List.mem_map] at h
        obtain ⟨i, _, k, _, rfl⟩ := h
        rfl
    · rfl
end Tg

/- What is compared with itself is the same. -/
set_option linter.unusedVariables false
set_option linter.unusedSimpArgs false
namespace Tg
open Go.Abs (fuel bigOk cloned tmm)
theorem alike04_loop (l : List (Int × Int × Int × Int × Int × Unit)) (hl : l.length ≤ 100000) : ∀ (rest : List (Int × Int × Int × Int × Int × Unit)) (i n : Nat), l.drop i = rest → i ≤ l.length → rest.length + 1 ≤ n → ref04_Alike_i6 n l l (i : Int) = some (true, ())
  | [], i, n, h, hi, hn => by
    obtain ⟨m, rfl⟩ : ∃ m, n = m + 1 := ⟨n - 1, by simp at hn; omega⟩
    have := drop_end h hi
    simp only [List.length_nil, Nat.zero_add] at hn
    simp only [ref04_Alike_i6, ref04_Alike_c6, Int.ofNat_eq_natCast, iG (show ¬ i < l.length by omega), cond_false]
  | e :: rest, i, n, h, hi, hn => by
    obtain ⟨m, rfl⟩ : ∃ m, n = m + 1 := ⟨n - 1, by simp at hn; omega⟩
    obtain ⟨h1, h2, h3⟩ := drop_get h
    have ih := alike04_loop l hl rest (i + 1) m h3 (by omega) (by simp only [List.length_cons] at hn; omega)
    simp only [ref04_Alike_i6, ref04_Alike_c6, Int.ofNat_eq_natCast, iL h1, iN, cond_true, cond_false, Int.toNat_natCast, h2, wS (show i < 1000000 by omega), beq_self_eq_true, Bool.and_self, Bool.and_true, Bool.not_true, bne_s, ih]
theorem alike04 {l : List (Int × Int × Int × Int × Int × Unit)} (hl : l.length ≤ 100000) : ref04_Alike l l = some (true, ()) := by
  obtain ⟨n, hn⟩ := fuel_s
  unfold ref04_Alike ref04_Alike_c
  simp only [bne_s, cond_false]
  exact alike04_loop l hl l 0 fuel rfl (by omega) (by rw [hn]; omega)
theorem src08_loop (l : List (Int × Unit)) (hl : l.length ≤ 100000) : ∀ (rest : List (Int × Unit)) (i n : Nat), l.drop i = rest → i ≤ l.length → rest.length + 1 ≤ n → ref08_SameSources_i6 n l l (i : Int) = some (true, ())
  | [], i, n, h, hi, hn => by
    obtain ⟨m, rfl⟩ : ∃ m, n = m + 1 := ⟨n - 1, by simp at hn; omega⟩
    have := drop_end h hi
    simp only [List.length_nil, Nat.zero_add] at hn
    simp only [ref08_SameSources_i6, ref08_SameSources_c6, Int.ofNat_eq_natCast, iG (show ¬ i < l.length by omega), cond_false]
  | e :: rest, i, n, h, hi, hn => by
    obtain ⟨m, rfl⟩ : ∃ m, n = m + 1 := ⟨n - 1, by simp at hn; omega⟩
    obtain ⟨h1, h2, h3⟩ := drop_get h
    have ih := src08_loop l hl rest (i + 1) m h3 (by omega) (by simp only [List.length_cons] at hn; omega)
    simp only [ref08_SameSources_i6, ref08_SameSources_c6, Int.ofNat_eq_natCast, iL h1, iN, cond_true, cond_false, Int.toNat_natCast, h2, wS (show i < 1000000 by omega), beq_self_eq_true, Bool.and_self, Bool.and_true, Bool.not_true, bne_s, ih]
theorem src08 {l : List (Int × Unit)} (hl : l.length ≤ 100000) : ref08_SameSources l l = some (true, ()) := by
  obtain ⟨n, hn⟩ := fuel_s
  unfold ref08_SameSources ref08_SameSources_c
  simp only [bne_s, cond_false]
  exact src08_loop l hl l 0 fuel rfl (by omega) (by rw [hn]; omega)
theorem msgs26_loop (l : List (Int × Int × Int × Int × Int × Int × Int × Int × Int × Int × Unit)) (hl : l.length ≤ 100000) : ∀ (rest : List (Int × Int × Int × Int × Int × Int × Int × Int × Int × Int × Unit)) (i n : Nat), l.drop i = rest → i ≤ l.length → rest.length + 1 ≤ n → ref26_SameList_i6 n l l (i : Int) = some (true, ())
  | [], i, n, h, hi, hn => by
    obtain ⟨m, rfl⟩ : ∃ m, n = m + 1 := ⟨n - 1, by simp at hn; omega⟩
    have := drop_end h hi
    simp only [List.length_nil, Nat.zero_add] at hn
    simp only [ref26_SameList_i6, ref26_SameList_c6, Int.ofNat_eq_natCast, iG (show ¬ i < l.length by omega), cond_false]
  | e :: rest, i, n, h, hi, hn => by
    obtain ⟨m, rfl⟩ : ∃ m, n = m + 1 := ⟨n - 1, by simp at hn; omega⟩
    obtain ⟨h1, h2, h3⟩ := drop_get h
    have ih := msgs26_loop l hl rest (i + 1) m h3 (by omega) (by simp only [List.length_cons] at hn; omega)
    simp only [ref26_SameList_i6, ref26_SameList_c6, Int.ofNat_eq_natCast, iL h1, iN, cond_true, cond_false, Int.toNat_natCast, h2, wS (show i < 1000000 by omega), beq_self_eq_true, Bool.and_self, Bool.and_true, Bool.not_true, bne_s, ih]
theorem msgs26 {l : List (Int × Int × Int × Int × Int × Int × Int × Int × Int × Int × Unit)} (hl : l.length ≤ 100000) : ref26_SameList l l = some (true, ()) := by
  obtain ⟨n, hn⟩ := fuel_s
  unfold ref26_SameList ref26_SameList_c
  simp only [bne_s, cond_false]
  exact msgs26_loop l hl l 0 fuel rfl (by omega) (by rw [hn]; omega)
theorem sends27_loop (l : List (Int × Int × Int × Int × Int × Int × Int × Int × Int × Int × Int × Unit)) (hl : l.length ≤ 100000) : ∀ (rest : List (Int × Int × Int × Int × Int × Int × Int × Int × Int × Int × Int × Unit)) (i n : Nat), l.drop i = rest → i ≤ l.length → rest.length + 1 ≤ n → ref27_SameSends_i6 n l l (i : Int) = some (true, ())
  | [], i, n, h, hi, hn => by
    obtain ⟨m, rfl⟩ : ∃ m, n = m + 1 := ⟨n - 1, by simp at hn; omega⟩
    have := drop_end h hi
    simp only [List.length_nil, Nat.zero_add] at hn
    simp only [ref27_SameSends_i6, ref27_SameSends_c6, Int.ofNat_eq_natCast, iG (show ¬ i < l.length by omega), cond_false]
  | e :: rest, i, n, h, hi, hn => by
    obtain ⟨m, rfl⟩ : ∃ m, n = m + 1 := ⟨n - 1, by simp at hn; omega⟩
    obtain ⟨h1, h2, h3⟩ := drop_get h
    have ih := sends27_loop l hl rest (i + 1) m h3 (by omega) (by simp only [List.length_cons] at hn; omega)
    simp only [ref27_SameSends_i6, ref27_SameSends_c6, Int.ofNat_eq_natCast, iL h1, iN, cond_true, cond_false, Int.toNat_natCast, h2, wS (show i < 1000000 by omega), beq_self_eq_true, Bool.and_self, Bool.and_true, Bool.not_true, bne_s, ih]
theorem sends27 {l : List (Int × Int × Int × Int × Int × Int × Int × Int × Int × Int × Int × Unit)} (hl : l.length ≤ 100000) : ref27_SameSends l l = some (true, ()) := by
  obtain ⟨n, hn⟩ := fuel_s
  unfold ref27_SameSends ref27_SameSends_c
  simp only [bne_s, cond_false]
  exact sends27_loop l hl l 0 fuel rfl (by omega) (by rw [hn]; omega)
theorem alike08 {q : Qr} (h1 : q.2.1.length ≤ 100000) (h2 : q.2.2.1.length ≤ 100000) (h3 : q.2.2.2.2.1.length ≤ 100000) : ref08_Alike q q = some (true, ()) := by
  unfold ref08_Alike
  simp only [beq_self_eq_true, cond_true, alike04 h1, src08 h2, alike04 h3, Bool.and_self, Bool.and_true]
theorem ch24_loop (l : List (Int × Int × Int × Int × Int × Unit)) (hl : l.length ≤ 100000) : ∀ (rest : List (Int × Int × Int × Int × Int × Unit)) (i n : Nat), l.drop i = rest → i ≤ l.length → rest.length + 1 ≤ n → ref24_Same_i14 n l l (i : Int) = some (true, ())
  | [], i, n, h, hi, hn => by
    obtain ⟨m, rfl⟩ : ∃ m, n = m + 1 := ⟨n - 1, by simp at hn; omega⟩
    have := drop_end h hi
    simp only [List.length_nil, Nat.zero_add] at hn
    simp only [ref24_Same_i14, ref24_Same_c14, Int.ofNat_eq_natCast, iG (show ¬ i < l.length by omega), cond_false]
  | e :: rest, i, n, h, hi, hn => by
    obtain ⟨m, rfl⟩ : ∃ m, n = m + 1 := ⟨n - 1, by simp at hn; omega⟩
    obtain ⟨h1, h2, h3⟩ := drop_get h
    have ih := ch24_loop l hl rest (i + 1) m h3 (by omega) (by simp only [List.length_cons] at hn; omega)
    simp only [ref24_Same_i14, ref24_Same_c14, Int.ofNat_eq_natCast, iL h1, iN, cond_true, cond_false, Int.toNat_natCast, h2, wS (show i < 1000000 by omega), beq_self_eq_true, Bool.and_self, Bool.and_true, Bool.not_true, bne_s, ih]
theorem op24_loop (l : List (Int × Int × Unit)) (hl : l.length ≤ 100000) (c : List Ch5) (hc : c.length ≤ 100000) : ∀ (rest : List (Int × Int × Unit)) (i n : Nat), l.drop i = rest → i ≤ l.length → rest.length + 200000 ≤ n → ref24_Same_i6 n l c l c (i : Int) = some (true, ())
  | [], i, n, h, hi, hn => by
    obtain ⟨m, rfl⟩ : ∃ m, n = m + 1 := ⟨n - 1, by simp at hn; omega⟩
    have := drop_end h hi
    simp only [List.length_nil, Nat.zero_add] at hn
    obtain ⟨k, rfl⟩ : ∃ k, m = k + 1 := ⟨m - 1, by omega⟩
    have hc2 := ch24_loop c hc c 0 k rfl (by omega) (by omega)
    have hc3 : ref24_Same_i14 k c c 0 = some (true, ()) := hc2
    simp only [ref24_Same_i6, ref24_Same_c6, Int.ofNat_eq_natCast, iG (show ¬ i < l.length by omega), cond_false, ref24_Same_i4, ref24_Same_c4, hc3]
  | e :: rest, i, n, h, hi, hn => by
    obtain ⟨m, rfl⟩ : ∃ m, n = m + 1 := ⟨n - 1, by simp at hn; omega⟩
    obtain ⟨h1, h2, h3⟩ := drop_get h
    have ih := op24_loop l hl c hc rest (i + 1) m h3 (by omega) (by simp only [List.length_cons] at hn; omega)
    simp only [ref24_Same_i6, ref24_Same_c6, Int.ofNat_eq_natCast, iL h1, iN, cond_true, cond_false, Int.toNat_natCast, h2, wS (show i < 1000000 by omega), beq_self_eq_true, Bool.and_self, Bool.and_true, Bool.not_true, bne_s, ih]
theorem graph24 {g : List Op2 × List Ch5 × Unit} (h1 : g.1.length ≤ 100000) (h2 : g.2.1.length ≤ 100000) : ref24_Same g g = some (true, ()) := by
  obtain ⟨n, hn⟩ := fuel_s
  unfold ref24_Same ref24_Same_c
  simp only [bne_s, cond_false]
  exact op24_loop g.1 h1 g.2.1 h2 g.1 0 fuel rfl (by omega) (by rw [hn]; omega)
theorem queue26 {q : Qu} (h : q.2.1.length ≤ 100000) : ref26_Same q q = some (true, ()) := by
  unfold ref26_Same
  simp only [beq_self_eq_true, cond_true, msgs26 h]
theorem queues_loop (l : List (Qu)) (hl : l.length ≤ 100000) (ha : ∀ q ∈ l, q.2.1.length ≤ 100000) : ∀ (rest : List (Qu)) (i n : Nat), l.drop i = rest → i ≤ l.length → rest.length + 1 ≤ n → ref26_SameAll_i6 n l l (i : Int) = some (true, ())
  | [], i, n, h, hi, hn => by
    obtain ⟨m, rfl⟩ : ∃ m, n = m + 1 := ⟨n - 1, by simp at hn; omega⟩
    have := drop_end h hi
    simp only [List.length_nil, Nat.zero_add] at hn
    simp only [ref26_SameAll_i6, ref26_SameAll_c6, Int.ofNat_eq_natCast, iG (show ¬ i < l.length by omega), cond_false]
  | e :: rest, i, n, h, hi, hn => by
    obtain ⟨m, rfl⟩ : ∃ m, n = m + 1 := ⟨n - 1, by simp at hn; omega⟩
    obtain ⟨h1, h2, h3⟩ := drop_get h
    have ih := queues_loop l hl ha rest (i + 1) m h3 (by omega) (by simp only [List.length_cons] at hn; omega)
    have hq := queue26 (ha e (List.mem_of_getElem? h2))
    simp only [ref26_SameAll_i6, ref26_SameAll_c6, Int.ofNat_eq_natCast, iL h1, iN, cond_true, cond_false, Int.toNat_natCast, h2, wS (show i < 1000000 by omega), beq_self_eq_true, Bool.and_self, Bool.and_true, Bool.not_true, bne_s, ih, hq]
theorem queues26 {l : List Qu} (hl : l.length ≤ 100000) (ha : ∀ q ∈ l, q.2.1.length ≤ 100000) : ref26_SameAll l l = some (true, ()) := by
  obtain ⟨n, hn⟩ := fuel_s
  unfold ref26_SameAll ref26_SameAll_c
  simp only [bne_s, cond_false]
  exact queues_loop l hl ha l 0 fuel rfl (by omega) (by rw [hn]; omega)
theorem late27 (l : List (Int × Int × Int × Unit)) (hl : l.length ≤ 100000) : ∀ (rest : List (Int × Int × Int × Unit)) (i n : Nat), l.drop i = rest → i ≤ l.length → rest.length + 1 ≤ n → ref27_Same_i39 n l l (i : Int) = some (true, ())
  | [], i, n, h, hi, hn => by
    obtain ⟨m, rfl⟩ : ∃ m, n = m + 1 := ⟨n - 1, by simp at hn; omega⟩
    have := drop_end h hi
    simp only [List.length_nil, Nat.zero_add] at hn
    simp only [ref27_Same_i39, ref27_Same_c39, Int.ofNat_eq_natCast, iG (show ¬ i < l.length by omega), cond_false]
  | e :: rest, i, n, h, hi, hn => by
    obtain ⟨m, rfl⟩ : ∃ m, n = m + 1 := ⟨n - 1, by simp at hn; omega⟩
    obtain ⟨h1, h2, h3⟩ := drop_get h
    have ih := late27 l hl rest (i + 1) m h3 (by omega) (by simp only [List.length_cons] at hn; omega)
    simp only [ref27_Same_i39, ref27_Same_c39, Int.ofNat_eq_natCast, iL h1, iN, cond_true, cond_false, Int.toNat_natCast, h2, wS (show i < 1000000 by omega), beq_self_eq_true, Bool.and_self, Bool.and_true, Bool.not_true, bne_s, ih]
theorem rows27 (l : List (Ch5)) (hl : l.length ≤ 100000) (a : List (Int × Int × Int × Unit)) (ha : a.length ≤ 100000) : ∀ (rest : List (Ch5)) (i n : Nat), l.drop i = rest → i ≤ l.length → rest.length + 100005 ≤ n → ref27_Same_i31 n l a l a (i : Int) = some (true, ())
  | [], i, n, h, hi, hn => by
    obtain ⟨m, rfl⟩ : ∃ m, n = m + 1 := ⟨n - 1, by simp at hn; omega⟩
    have := drop_end h hi
    simp only [List.length_nil, Nat.zero_add] at hn
    obtain ⟨k, rfl⟩ : ∃ k, m = k + 1 := ⟨m - 1, by omega⟩
    have hc2 : ref27_Same_i39 k a a 0 = some (true, ()) := late27 a ha a 0 k rfl (by omega) (by omega)
    simp only [ref27_Same_i31, ref27_Same_c31, Int.ofNat_eq_natCast, iG (show ¬ i < l.length by omega), cond_false, ref27_Same_i29, ref27_Same_c29, hc2]
  | e :: rest, i, n, h, hi, hn => by
    obtain ⟨m, rfl⟩ : ∃ m, n = m + 1 := ⟨n - 1, by simp at hn; omega⟩
    obtain ⟨h1, h2, h3⟩ := drop_get h
    have ih := rows27 l hl a ha rest (i + 1) m h3 (by omega) (by simp only [List.length_cons] at hn; omega)
    simp only [ref27_Same_i31, ref27_Same_c31, Int.ofNat_eq_natCast, iL h1, iN, cond_true, cond_false, Int.toNat_natCast, h2, wS (show i < 1000000 by omega), beq_self_eq_true, Bool.and_self, Bool.and_true, Bool.not_true, bne_s, ih]
theorem events27 (l : List (Ev)) (hl : l.length ≤ 100000) (b : List Ch5) (hb : b.length ≤ 100000) (a : List (Int × Int × Int × Unit)) (ha : a.length ≤ 100000) : ∀ (rest : List (Ev)) (i n : Nat), l.drop i = rest → i ≤ l.length → rest.length + 200010 ≤ n → ref27_Same_i23 n l b a l b a (i : Int) = some (true, ())
  | [], i, n, h, hi, hn => by
    obtain ⟨m, rfl⟩ : ∃ m, n = m + 1 := ⟨n - 1, by simp at hn; omega⟩
    have := drop_end h hi
    simp only [List.length_nil, Nat.zero_add] at hn
    obtain ⟨k, rfl⟩ : ∃ k, m = k + 1 := ⟨m - 1, by omega⟩
    have hc2 : ref27_Same_i31 k b a b a 0 = some (true, ()) := rows27 b hb a ha b 0 k rfl (by omega) (by omega)
    simp only [ref27_Same_i23, ref27_Same_c23, Int.ofNat_eq_natCast, iG (show ¬ i < l.length by omega), cond_false, ref27_Same_i21, ref27_Same_c21, hc2]
  | e :: rest, i, n, h, hi, hn => by
    obtain ⟨m, rfl⟩ : ∃ m, n = m + 1 := ⟨n - 1, by simp at hn; omega⟩
    obtain ⟨h1, h2, h3⟩ := drop_get h
    have ih := events27 l hl b hb a ha rest (i + 1) m h3 (by omega) (by simp only [List.length_cons] at hn; omega)
    simp only [ref27_Same_i23, ref27_Same_c23, Int.ofNat_eq_natCast, iL h1, iN, cond_true, cond_false, Int.toNat_natCast, h2, wS (show i < 1000000 by omega), beq_self_eq_true, Bool.and_self, Bool.and_true, Bool.not_true, bne_s, ih]
theorem store27 (l : List (Int × Int × Int × Int × Int × Int × Int × Int × Int × Int × Int × Unit)) (hl : l.length ≤ 100000) (c : List Ev) (hc : c.length ≤ 100000) (b : List Ch5) (hb : b.length ≤ 100000) (a : List (Int × Int × Int × Unit)) (ha : a.length ≤ 100000) : ∀ (rest : List (Int × Int × Int × Int × Int × Int × Int × Int × Int × Int × Int × Unit)) (i n : Nat), l.drop i = rest → i ≤ l.length → rest.length + 300015 ≤ n → ref27_Same_i15 n l c b a l c b a (i : Int) = some (true, ())
  | [], i, n, h, hi, hn => by
    obtain ⟨m, rfl⟩ : ∃ m, n = m + 1 := ⟨n - 1, by simp at hn; omega⟩
    have := drop_end h hi
    simp only [List.length_nil, Nat.zero_add] at hn
    obtain ⟨k, rfl⟩ : ∃ k, m = k + 1 := ⟨m - 1, by omega⟩
    have hc2 : ref27_Same_i23 k c b a c b a 0 = some (true, ()) := events27 c hc b hb a ha c 0 k rfl (by omega) (by omega)
    simp only [ref27_Same_i15, ref27_Same_c15, Int.ofNat_eq_natCast, iG (show ¬ i < l.length by omega), cond_false, ref27_Same_i13, ref27_Same_c13, hc2]
  | e :: rest, i, n, h, hi, hn => by
    obtain ⟨m, rfl⟩ : ∃ m, n = m + 1 := ⟨n - 1, by simp at hn; omega⟩
    obtain ⟨h1, h2, h3⟩ := drop_get h
    have ih := store27 l hl c hc b hb a ha rest (i + 1) m h3 (by omega) (by simp only [List.length_cons] at hn; omega)
    simp only [ref27_Same_i15, ref27_Same_c15, Int.ofNat_eq_natCast, iL h1, iN, cond_true, cond_false, Int.toNat_natCast, h2, wS (show i < 1000000 by omega), beq_self_eq_true, Bool.and_self, Bool.and_true, Bool.not_true, bne_s, ih]
theorem marks27 (l : List (Int × Unit)) (hl : l.length ≤ 100000) (d : List (Int × Int × Int × Int × Int × Int × Int × Int × Int × Int × Int × Unit)) (hd : d.length ≤ 100000) (c : List Ev) (hc : c.length ≤ 100000) (b : List Ch5) (hb : b.length ≤ 100000) (a : List (Int × Int × Int × Unit)) (ha : a.length ≤ 100000) : ∀ (rest : List (Int × Unit)) (i n : Nat), l.drop i = rest → i ≤ l.length → rest.length + 400020 ≤ n → ref27_Same_i7 n l d c b a l d c b a (i : Int) = some (true, ())
  | [], i, n, h, hi, hn => by
    obtain ⟨m, rfl⟩ : ∃ m, n = m + 1 := ⟨n - 1, by simp at hn; omega⟩
    have := drop_end h hi
    simp only [List.length_nil, Nat.zero_add] at hn
    obtain ⟨k, rfl⟩ : ∃ k, m = k + 1 := ⟨m - 1, by omega⟩
    have hc2 : ref27_Same_i15 k d c b a d c b a 0 = some (true, ()) := store27 d hd c hc b hb a ha d 0 k rfl (by omega) (by omega)
    simp only [ref27_Same_i7, ref27_Same_c7, Int.ofNat_eq_natCast, iG (show ¬ i < l.length by omega), cond_false, ref27_Same_i5, ref27_Same_c5, hc2]
  | e :: rest, i, n, h, hi, hn => by
    obtain ⟨m, rfl⟩ : ∃ m, n = m + 1 := ⟨n - 1, by simp at hn; omega⟩
    obtain ⟨h1, h2, h3⟩ := drop_get h
    have ih := marks27 l hl d hd c hc b hb a ha rest (i + 1) m h3 (by omega) (by simp only [List.length_cons] at hn; omega)
    simp only [ref27_Same_i7, ref27_Same_c7, Int.ofNat_eq_natCast, iL h1, iN, cond_true, cond_false, Int.toNat_natCast, h2, wS (show i < 1000000 by omega), beq_self_eq_true, Bool.and_self, Bool.and_true, Bool.not_true, bne_s, ih]
def smallT (t : Tk) : Prop := t.2.2.2.1.length ≤ 100000 ∧ t.2.2.2.2.1.length ≤ 100000 ∧ t.2.2.2.2.2.1.length ≤ 100000 ∧ t.2.2.2.2.2.2.1.length ≤ 100000 ∧ t.2.2.2.2.2.2.2.1.length ≤ 100000 ∧ t.2.2.2.2.2.2.2.2.1.length ≤ 100000
theorem task27 {t : Tk} (h : smallT t) : ref27_Same t t = some (true, ()) := by
  obtain ⟨n, hn⟩ := fuel_s
  obtain ⟨h1, h2, h3, h4, h5, h6⟩ := h
  unfold ref27_Same ref27_Same_c
  simp only [beq_self_eq_true, Bool.and_self, Bool.and_true, Bool.not_true, bne_s, cond_false, sends27 h1]
  exact marks27 _ h2 _ h3 _ h4 _ h5 _ h6 t.2.2.2.2.1 0 fuel rfl (by omega) (by rw [hn]; omega)
theorem tasks35 (l : List (Tk)) (hl : l.length ≤ 100000) (ha : ∀ t ∈ l, smallT t) : ∀ (rest : List (Tk)) (i n : Nat), l.drop i = rest → i ≤ l.length → rest.length + 1 ≤ n → ref35_Same_i7 n l l (i : Int) = some (true, ())
  | [], i, n, h, hi, hn => by
    obtain ⟨m, rfl⟩ : ∃ m, n = m + 1 := ⟨n - 1, by simp at hn; omega⟩
    have := drop_end h hi
    simp only [List.length_nil, Nat.zero_add] at hn
    simp only [ref35_Same_i7, ref35_Same_c7, Int.ofNat_eq_natCast, iG (show ¬ i < l.length by omega), cond_false]
  | e :: rest, i, n, h, hi, hn => by
    obtain ⟨m, rfl⟩ : ∃ m, n = m + 1 := ⟨n - 1, by simp at hn; omega⟩
    obtain ⟨h1, h2, h3⟩ := drop_get h
    have ih := tasks35 l hl ha rest (i + 1) m h3 (by omega) (by simp only [List.length_cons] at hn; omega)
    have hq := task27 (ha e (List.mem_of_getElem? h2))
    simp only [ref35_Same_i7, ref35_Same_c7, Int.ofNat_eq_natCast, iL h1, iN, cond_true, cond_false, Int.toNat_natCast, h2, wS (show i < 1000000 by omega), beq_self_eq_true, Bool.and_self, Bool.and_true, Bool.not_true, bne_s, ih, hq]
abbrev Mc := Int × List Ch5 × List (Int × Unit) × Bool × List Ch5 × Int × Int × Int × Bool × Int × List Op2 × List Ch5 × List Tk × List Qu × Unit
theorem mach35 {m : Mc} (h1 : m.2.2.2.2.2.2.2.2.2.2.2.2.1.length ≤ 100000) (h2 : ∀ t ∈ m.2.2.2.2.2.2.2.2.2.2.2.2.1, smallT t) (h3 : m.2.2.2.2.2.2.2.2.2.2.2.2.2.1.length ≤ 100000) (h4 : ∀ q ∈ m.2.2.2.2.2.2.2.2.2.2.2.2.2.1, q.2.1.length ≤ 100000) : ref35_Same m m = some (true, ()) := by
  obtain ⟨n, hn⟩ := fuel_s
  unfold ref35_Same ref35_Same_c
  simp only [bne_s, cond_false, queues26 h3 h4, Bool.not_true]
  exact tasks35 _ h1 h2 m.2.2.2.2.2.2.2.2.2.2.2.2.1 0 fuel rfl (by omega) (by rw [hn]; omega)
theorem mach36 {m : Mc} (a1 : m.2.1.length ≤ 100000) (a2 : m.2.2.1.length ≤ 100000) (a3 : m.2.2.2.2.1.length ≤ 100000) (a4 : m.2.2.2.2.2.2.2.2.2.2.1.length ≤ 100000) (a5 : m.2.2.2.2.2.2.2.2.2.2.2.1.length ≤ 100000)
    (h1 : m.2.2.2.2.2.2.2.2.2.2.2.2.1.length ≤ 100000) (h2 : ∀ t ∈ m.2.2.2.2.2.2.2.2.2.2.2.2.1, smallT t) (h3 : m.2.2.2.2.2.2.2.2.2.2.2.2.2.1.length ≤ 100000) (h4 : ∀ q ∈ m.2.2.2.2.2.2.2.2.2.2.2.2.2.1, q.2.1.length ≤ 100000) : ref36_Same m m = some (true, ()) := by
  unfold ref36_Same
  have e1 := alike08 (q := (m.1, m.2.1, m.2.2.1, m.2.2.2.1, m.2.2.2.2.1, m.2.2.2.2.2.1, m.2.2.2.2.2.2.1, m.2.2.2.2.2.2.2.1, m.2.2.2.2.2.2.2.2.1, m.2.2.2.2.2.2.2.2.2.1, ())) a1 a2 a3
  have e2 := graph24 (g := (m.2.2.2.2.2.2.2.2.2.2.1, m.2.2.2.2.2.2.2.2.2.2.2.1, ())) a4 a5
  simp only [e1, e2, cond_true, mach35 h1 h2 h3 h4]
end Tg

/- The code's graph of a plan, told. -/
set_option linter.unusedVariables false
set_option linter.unusedSimpArgs false
namespace Tg
open Go.Abs (fuel bigOk cloned tmm)
set_option maxRecDepth 100000 in
theorem graph_n (n p : Nat) (hn : 1 ≤ n ∧ n ≤ 4) (hp : 1 ≤ p ∧ p ≤ 3) (key join side : Bool) (room : Int) :
    graph_Of_i19 fuel 1 [] (n : Int) 0 (p : Int) join key (bif side then 2 else 1) room (n : Int) = some ((opsG n (bif key then p else 1) key join side, chG n (bif key then p else 1) key side room, ()), 0, ()) := by
  obtain rfl | rfl | rfl | rfl : n = 1 ∨ n = 2 ∨ n = 3 ∨ n = 4 := by omega
  all_goals
    obtain rfl | rfl | rfl : p = 1 ∨ p = 2 ∨ p = 3 := by omega
  all_goals
    cases key <;> cases join <;> cases side <;> kernel_rfl
theorem chkQ0 {q : Qr} (h : (chkQ q).2.1 = 0) : chkC q = 0 := by
  unfold chkQ at h
  cases hc : (chkC q == 0) with
  | true => simpa using hc
  | false => rw [hc] at h; exact h
theorem chkC_late {q : Qr} (h : chkC q = 0) : q.2.2.2.2.2.2.2.2.2.1 = 1 ∨ q.2.2.2.2.2.2.2.2.2.1 = 2 := by
  unfold chkC at h
  by_cases h1 : q.2.2.2.2.2.2.2.2.2.1 < 1
  · rw [dT h1] at h
    simp at h
  · by_cases h2 : q.2.2.2.2.2.2.2.2.2.1 > 2
    · rw [dT h2] at h
      simp at h
    · omega
theorem chkC_tail {q : Qr} (h : chkC q = 0) : srcE q.2.2.1 q.2.2.2.1 = 0 := by
  have ht : tailC q = 0 → srcE q.2.2.1 q.2.2.2.1 = 0 := fun h => by
    unfold tailC at h
    cases hs : (srcE q.2.2.1 q.2.2.2.1 == 0) with
    | true => simpa using hs
    | false => rw [hs] at h; exact h
  have hw : whereC q = 0 → srcE q.2.2.1 q.2.2.2.1 = 0 := fun h => by
    unfold whereC at h
    cases hc : (decide ((q.2.2.2.2.1.length : Int) > 0) && errN q.2.2.2.2.1 != 0) with
    | true =>
      rw [hc] at h
      have h : errN q.2.2.2.2.1 = 0 := h
      rw [h] at hc
      simp at hc
    | false => rw [hc] at h; exact ht h
  unfold chkC at h
  cases hb : (decide (q.1 < 1) || (decide (q.1 > 4) || (decide (q.2.2.2.2.2.2.2.2.2.1 < 1) || decide (q.2.2.2.2.2.2.2.2.2.1 > 2)))) with
  | true => rw [hb] at h; simp at h
  | false =>
    rw [hb] at h
    simp only [cond_false] at h
    cases h1 : (q.1 == 1) with
    | true =>
      rw [h1] at h
      simp only [cond_true] at h
      by_cases h0 : (q.2.1.length : Int) > 0
      · rw [dT h0] at h; simp at h
      · rw [dF h0] at h; exact hw h
    | false =>
      rw [h1] at h
      simp only [cond_false] at h
      by_cases he : errN q.2.1 = 0
      · rw [bne_f he] at h; exact hw h
      · rw [bne_t he] at h; exact absurd h he
theorem srcE_len {l : IL} {j : Bool} (h : srcE l j = 0) : 1 ≤ l.length ∧ l.length ≤ 4 := by
  unfold srcE at h
  split at h
  · cases h
  · split at h
    · cases h
    · omega
end Tg

/- The code's new tasks, told. -/
set_option linter.unusedVariables false
set_option linter.unusedSimpArgs false
namespace Tg
open Go.Abs (fuel bigOk cloned tmm)
theorem nsrc_loop (N : Int) (l : List Ev) (hl : l.length ≤ 1000) (ha : l.all evOk = true) : ∀ (rest : List Ev) (i n : Nat), l.drop i = rest → i ≤ l.length → rest.length + 1 ≤ n → source_New_i17 n l (l.length : Int) (i : Int) N l = some ((1, N, 0, [], [], [], l, [], [], ()), 0, ())
  | [], i, n, h, hi, hn => by
    obtain ⟨m, rfl⟩ : ∃ m, n = m + 1 := ⟨n - 1, by simp at hn; omega⟩
    have := drop_end h hi
    simp only [source_New_i17, source_New_c17, iG (show ¬ i < l.length by omega), cond_false, cloned_ok (show l.length ≤ 1000000 by omega) (show 40 ≤ 1000 by omega)]
  | e :: rest, i, n, h, hi, hn => by
    obtain ⟨m, rfl⟩ : ∃ m, n = m + 1 := ⟨n - 1, by simp at hn; omega⟩
    obtain ⟨h1, h2, h3⟩ := drop_get h
    have ih := nsrc_loop N l hl ha rest (i + 1) m h3 (by omega) (by simp at hn; omega)
    have he : evOk e = true := List.all_eq_true.1 ha e (List.mem_of_getElem? h2)
    simp only [source_New_i17, source_New_c17, iL h1, iN, cond_true, cond_false, Int.toNat_natCast, h2, mev, he, bne_s, wS (show i < 1000000 by omega), ih]
theorem nsrc_eq {N : Int} {l : List Ev} (h1 : 0 ≤ N) (h2 : N < 4) (h : lateE l = 0) : source_New N l = some ((1, N, 0, [], [], [], l, [], [], ()), 0, ()) := by
  obtain ⟨h3, h4⟩ := lateE0 h
  obtain ⟨n, hn⟩ := fuel_s
  unfold source_New source_New_c
  simp only [dF (show ¬ N < 0 by omega), dF (show ¬ N ≥ 4 by omega), Int.ofNat_eq_natCast, dF (show ¬ (l.length : Int) > 60 by omega), cond_false]
  exact nsrc_loop N l (by omega) h4 l 0 fuel rfl (by omega) (by rw [hn]; omega)
theorem flt_eq {N : Int} (h1 : 0 ≤ N) (h2 : N < 4) : filter_New N = some ((2, N, 0, [], [(low, ())], [], [], [], [], ()), 0, ()) := by
  unfold filter_New
  simp only [dF (show ¬ N < 0 by omega), dF (show ¬ N ≥ 4 by omega)]
  rfl
theorem prt_eq {N : Int} (h1 : 0 ≤ N) (h2 : N < 4) : part_New N = some ((3, N, 0, [], [], [], [], [], [], ()), 0, ()) := by
  unfold part_New
  simp only [dF (show ¬ N < 0 by omega), dF (show ¬ N ≥ 4 by omega)]
  rfl
theorem joi_eq {N : Int} (h1 : 0 ≤ N) (h2 : N < 3) : join_New N = some ((5, N, 0, [], [(low, ()), (low, ())], [], [], [], [], ()), 0, ()) := by
  unfold join_New
  simp only [dF (show ¬ N < 0 by omega), dF (show ¬ N ≥ 3 by omega)]
  rfl
set_option maxRecDepth 100000 in
theorem mrk_eq {n : Nat} (h1 : 1 ≤ n) (h2 : n ≤ 4) : marks_New (n : Int) = some (List.replicate n (low, ()), 0, ()) := by
  obtain rfl | rfl | rfl | rfl : n = 1 ∨ n = 2 ∨ n = 3 ∨ n = 4 := by omega
  all_goals kernel_rfl
theorem agg_eq {N : Int} (h1 : 0 ≤ N) (h2 : N < 3) {n : Nat} (g1 : 1 ≤ n) (g2 : n ≤ 4) : agg_New N (n : Int) = some ((4, N, 0, [], List.replicate n (low, ()), [], [], [], [], ()), 0, ()) := by
  unfold agg_New
  simp only [mrk_eq g1 g2, dF (show ¬ N < 0 by omega), dF (show ¬ N ≥ 3 by omega), bne_s, cond_false]
theorem chn_eq {N : Int} (h1 : 1 ≤ N) (h2 : N ≤ 8) : channel_New N = some ((N, [], ()), 0, ()) := by
  unfold channel_New
  simp only [dF (show ¬ N < 1 by omega), dF (show ¬ N > 8 by omega)]
  rfl
end Tg

/- What the reference's builder answers, told. -/
set_option linter.unusedVariables false
set_option linter.unusedSimpArgs false
namespace Tg
open Go.Abs (fuel bigOk cloned tmm)
def zM : Mc := (0, [], [], false, [], 0, 0, 0, false, 0, [], [], [], [], ())
def firstE : Inp → Int
  | [] => 0
  | l :: ls => bif lateE l.1 != 0 then lateE l.1 else firstE ls
def prE (p r : Int) : Int := bif decide (p < 1) then 2 else bif decide (p > 3) then 2 else bif decide (r < 1) then 2 else bif decide (r > 8) then 2 else 0
def askE (q : Qr) (inp : Inp) (p r : Int) : Int := bif (chkQ q).2.1 != 0 then (chkQ q).2.1 else bif (inp.length : Int) != (q.2.2.1.length : Int) then 2 else bif firstE inp != 0 then firstE inp else prE p r
theorem firstE_ok : ∀ {inp : Inp}, firstE inp = 0 → inpOk inp
  | [], _ => fun _ h => by simp at h
  | l :: ls, h => by
    unfold firstE at h
    cases hl : (lateE l.1 != 0) with
    | true =>
      rw [hl] at h
      have h : lateE l.1 = 0 := h
      rw [h] at hl
      cases hl
    | false =>
      rw [hl] at h
      have ih := firstE_ok (inp := ls) h
      intro x hx
      rcases List.mem_cons.1 hx with rfl | hx
      · simpa using hl
      · exact ih x hx
theorem prE0 {p r : Int} (h : prE p r = 0) : 1 ≤ p ∧ p ≤ 3 ∧ 1 ≤ r ∧ r ≤ 8 := by
  unfold prE at h
  by_cases h1 : p < 1
  · rw [dT h1] at h; cases h
  · by_cases h2 : p > 3
    · rw [dF h1, dT h2] at h; cases h
    · by_cases h3 : r < 1
      · rw [dF h1, dF h2, dT h3] at h; cases h
      · by_cases h4 : r > 8
        · rw [dF h1, dF h2, dF h3, dT h4] at h; cases h
        · omega
theorem pr9 (p r : Int) (n : Nat) : ref36_Asked_i9 (n + 1) p r = some (prE p r, ()) := by
  simp only [ref36_Asked_i9, ref36_Asked_c9, prE]
  cases decide (p < 1) <;> cases decide (p > 3) <;> cases decide (r < 1) <;> cases decide (r > 8) <;> rfl
theorem asked_loop (inp : Inp) (hl : inp.length ≤ 1000) (p r : Int) : ∀ (rest : Inp) (i n : Nat), inp.drop i = rest → i ≤ inp.length → rest.length + 2 ≤ n → ref36_Asked_i11 n inp p r (i : Int) = some (bif firstE rest != 0 then firstE rest else prE p r, ())
  | [], i, n, h, hi, hn => by
    obtain ⟨m, rfl⟩ : ∃ m, n = m + 1 + 1 := ⟨n - 2, by simp at hn; omega⟩
    have := drop_end h hi
    simp only [ref36_Asked_i11, ref36_Asked_c11, Int.ofNat_eq_natCast, iG (show ¬ i < inp.length by omega), cond_false, pr9]
    rfl
  | e :: rest, i, n, h, hi, hn => by
    obtain ⟨m, rfl⟩ : ∃ m, n = m + 1 := ⟨n - 1, by simp at hn; omega⟩
    obtain ⟨h1, h2, h3⟩ := drop_get h
    have ih := asked_loop inp hl p r rest (i + 1) m h3 (by omega) (by simp at hn; omega)
    simp only [ref36_Asked_i11, ref36_Asked_c11, Int.ofNat_eq_natCast, iL h1, iN, cond_true, Int.toNat_natCast, h2, r20_eq, wS (show i < 1000000 by omega), ih]
    have hf : firstE (e :: rest) = bif lateE e.1 != 0 then lateE e.1 else firstE rest := rfl
    rw [hf]
    cases he : (lateE e.1 != 0) with
    | true => simp only [cond_true, he]
    | false => rfl
theorem asked_eq (q : Qr) (inp : Inp) (hl : inp.length ≤ 1000) (p r : Int) : ref36_Asked q inp p r = some (askE q inp p r, ()) := by
  obtain ⟨n, hn⟩ := fuel_s
  unfold ref36_Asked ref36_Asked_c askE
  simp only [rchecks_eq, Int.ofNat_eq_natCast]
  cases h1 : ((chkQ q).2.1 != 0) with
  | true => rfl
  | false =>
    simp only [cond_false]
    cases h2 : ((inp.length : Int) != (q.2.2.1.length : Int)) with
    | true => rfl
    | false =>
      simp only [cond_false]
      exact asked_loop inp hl p r inp 0 fuel rfl (by omega) (by rw [hn]; omega)
def partsOf (q : Qr) (p : Int) : Nat := bif q.2.2.2.2.2.2.2.2.1 then p.toNat else 1
def mOf (q : Qr) (inp : Inp) (p r : Int) : Mc :=
  (q.1, q.2.1, q.2.2.1, q.2.2.2.1, q.2.2.2.2.1, q.2.2.2.2.2.1, q.2.2.2.2.2.2.1, q.2.2.2.2.2.2.2.1, q.2.2.2.2.2.2.2.2.1, q.2.2.2.2.2.2.2.2.2.1,
    opsG inp.length (partsOf q p) q.2.2.2.2.2.2.2.2.1 q.2.2.2.1 (q.2.2.2.2.2.2.2.2.2.1 == 2), chG inp.length (partsOf q p) q.2.2.2.2.2.2.2.2.1 (q.2.2.2.2.2.2.2.2.2.1 == 2) r,
    (opsG inp.length (partsOf q p) q.2.2.2.2.2.2.2.2.1 q.2.2.2.1 (q.2.2.2.2.2.2.2.2.2.1 == 2)).map (taskOf inp.length inp), (chG inp.length (partsOf q p) q.2.2.2.2.2.2.2.2.1 (q.2.2.2.2.2.2.2.2.2.1 == 2) r).map qOf, ())
theorem askE0 {q : Qr} {inp : Inp} {p r : Int} (h : askE q inp p r = 0) : (chkQ q).2.1 = 0 ∧ inp.length = q.2.2.1.length ∧ inpOk inp ∧ firstE inp = 0 ∧ (1 ≤ p ∧ p ≤ 3 ∧ 1 ≤ r ∧ r ≤ 8) ∧ (1 ≤ inp.length ∧ inp.length ≤ 4) := by
  unfold askE at h
  cases h1 : ((chkQ q).2.1 != 0) with
  | true =>
    rw [h1] at h
    have h : (chkQ q).2.1 = 0 := h
    rw [h] at h1; cases h1
  | false =>
    have e1 : (chkQ q).2.1 = 0 := by simpa using h1
    rw [h1] at h
    cases h2 : ((inp.length : Int) != (q.2.2.1.length : Int)) with
    | true => rw [h2] at h; cases h
    | false =>
      have e2 : inp.length = q.2.2.1.length := by
        have : (inp.length : Int) = (q.2.2.1.length : Int) := by simpa using h2
        omega
      rw [h2] at h
      cases h3 : (firstE inp != 0) with
      | true =>
        rw [h3] at h
        have h : firstE inp = 0 := h
        rw [h] at h3; cases h3
      | false =>
        have e3 : firstE inp = 0 := by simpa using h3
        rw [h3] at h
        have h5 := srcE_len (chkC_tail (chkQ0 e1))
        exact ⟨e1, e2, firstE_ok e3, e3, prE0 h, by rw [e2]; exact h5⟩
theorem partsOf_ok (q : Qr) {p : Int} (h : 1 ≤ p ∧ p ≤ 3) : 1 ≤ partsOf q p ∧ partsOf q p ≤ 3 := by
  unfold partsOf
  cases q.2.2.2.2.2.2.2.2.1 with
  | true => simp only [cond_true]; omega
  | false => simp only [cond_false]; omega
theorem made_n2 {n P : Nat} (hn : 1 ≤ n ∧ n ≤ 4) (hP : 1 ≤ P ∧ P ≤ 3) {x m : Int} (hx : x = (P : Int)) (hm : m = (n : Int)) (key join side : Bool) (room : Int) :
    ref24_Made_i3 fuel x room join m key side = some ((opsG n P key join side, chG n P key side room, ()), ()) := by
  subst hx
  subst hm
  exact made_n n P hn hP key join side room
theorem made_k {n : Nat} (hn : 1 ≤ n ∧ n ≤ 4) {p m : Int} (p1 : 1 ≤ p) (p2 : p ≤ 3) (hm : m = (n : Int)) (key join side : Bool) (r : Int) :
    (bif !key then ref24_Made_i3 fuel 1 r join m key side else ref24_Made_i3 fuel p r join m key side) = some ((opsG n (bif key then p.toNat else 1) key join side, chG n (bif key then p.toNat else 1) key side r, ()), ()) := by
  cases key with
  | true =>
    have h := made_n2 hn (P := p.toNat) ⟨by omega, by omega⟩ (show p = (p.toNat : Int) by omega) hm true join side r
    rw [Bool.not_true, cond_false, cond_true]
    exact h
  | false =>
    have h := made_n2 hn (P := 1) ⟨Nat.le_refl _, by omega⟩ (show (1 : Int) = ((1 : Nat) : Int) from rfl) hm false join side r
    rw [Bool.not_false, cond_true, cond_false]
    exact h
theorem made_g {q : Qr} {inp : Inp} (s : List (Int × Unit)) (e2 : inp.length = q.2.2.1.length) (n1 : 1 ≤ inp.length) (n2 : inp.length ≤ 4) {p : Int} (p1 : 1 ≤ p) (p2 : p ≤ 3) (r : Int) :
    ref24_Made (s, q) p r = some ((opsG inp.length (partsOf q p) q.2.2.2.2.2.2.2.2.1 q.2.2.2.1 (q.2.2.2.2.2.2.2.2.2.1 == 2), chG inp.length (partsOf q p) q.2.2.2.2.2.2.2.2.1 (q.2.2.2.2.2.2.2.2.2.1 == 2) r, ()), ()) := by
  have hm : Int.ofNat q.2.2.1.length = (inp.length : Int) := by rw [e2]; rfl
  unfold ref24_Made ref24_Made_c
  exact made_k ⟨n1, n2⟩ p1 p2 hm _ _ _ _
theorem made_eq {q : Qr} {inp : Inp} {p r : Int} (h : askE q inp p r = 0) (h1 : q.2.1.length ≤ 1000) (h2 : q.2.2.1.length ≤ 1000) (h3 : q.2.2.2.2.1.length ≤ 1000) : ref36_Made q inp p r = some (mOf q inp p r, ()) := by
  obtain ⟨e1, e2, e3, _, ⟨p1, p2, r1, r2⟩, n1, n2⟩ := askE0 h
  obtain ⟨s, hs⟩ := rOfp_ok e1 h1 h2 h3
  obtain ⟨P1, P2⟩ := partsOf_ok q ⟨p1, p2⟩
  have hg := made_g s e2 n1 n2 p1 p2 r
  obtain ⟨o1, o2⟩ := opsG_ok inp.length (partsOf q p) ⟨n1, n2⟩ ⟨P1, P2⟩ q.2.2.2.2.2.2.2.2.1 q.2.2.2.1 (q.2.2.2.2.2.2.2.2.2.1 == 2)
  obtain ⟨c1, c2⟩ := chG_ok inp.length (partsOf q p) ⟨n1, n2⟩ ⟨P1, P2⟩ q.2.2.2.2.2.2.2.2.1 (q.2.2.2.2.2.2.2.2.2.1 == 2) r
  obtain ⟨n, hn⟩ := fuel_s
  unfold ref36_Made ref36_Made_c
  simp only [hs, twin_ok h1 h2 h3, hg]
  have hm := r36_tasks q inp e3 e2.symm n1 n2 _ _ (by omega) (by omega) o2 (fun c hc => by rw [c2 c hc]; exact ⟨r1, r2⟩) ((chG inp.length (partsOf q p) q.2.2.2.2.2.2.2.2.1 (q.2.2.2.2.2.2.2.2.2.1 == 2) r).length + 10) (Nat.le_refl _) (opsG inp.length (partsOf q p) q.2.2.2.2.2.2.2.2.1 q.2.2.2.1 (q.2.2.2.2.2.2.2.2.2.1 == 2)) 0 fuel rfl (by omega) (by rw [hn]; omega)
  rw [List.take_zero, List.map_nil, show ((0 : Nat) : Int) = 0 from rfl] at hm
  exact hm
theorem rbuild_eq (q : Qr) (inp : Inp) (p r : Int) (hl : inp.length ≤ 1000) (h1 : q.2.1.length ≤ 1000) (h2 : q.2.2.1.length ≤ 1000) (h3 : q.2.2.2.2.1.length ≤ 1000) : ref36_Build q inp p r = some (bif askE q inp p r != 0 then zM else mOf q inp p r, askE q inp p r, ()) := by
  unfold ref36_Build
  simp only [asked_eq q inp hl p r]
  cases he : (askE q inp p r != 0) with
  | true => rfl
  | false =>
    have e0 : askE q inp p r = 0 := by simpa using he
    simp only [cond_false, made_eq e0 h1 h2 h3]
    rw [e0]
end Tg
