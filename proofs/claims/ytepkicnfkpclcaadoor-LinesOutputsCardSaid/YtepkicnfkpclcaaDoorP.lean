import Derived.Test.YtepkicnfkpclcaaDoorAbsB6
import Derived.IntWalk
import Derived.Test.YtepkicnfkpclcaaDoorllA
import Derived.Test.YtepkicnfkpclcaaDoorLA
/- What the plain laws share. -/
set_option linter.unusedVariables false
set_option linter.unusedSimpArgs false
namespace Tg
open Go.Abs (fuel bigOk cloned tmm)
theorem fuel_s : ∃ n, fuel = n + 1000000000000 := ⟨1152920504606846976, rfl⟩
theorem big_ok {n b : Nat} (hn : n ≤ 1000000) (hb : b ≤ 1000) : bigOk n b = true := by
  have : n * b ≤ 1000000 * 1000 := Nat.mul_le_mul hn hb
  simp only [bigOk, Bool.and_eq_true, decide_eq_true_eq]
  exact ⟨by show n * b ≤ 140737488355328; omega, by show n ≤ 9223372036854775807; omega⟩
theorem w64 {x : Int} (h1 : -9223372036854775808 ≤ x) (h2 : x ≤ 9223372036854775807) : Go.IntKind.wrap Go.IntKind.i64 x = x := Go.IntWalk.i64_in _ (by omega)
theorem dT {p : Prop} [Decidable p] (h : p) : decide p = true := decide_eq_true h
theorem dF {p : Prop} [Decidable p] (h : ¬ p) : decide p = false := decide_eq_false h
end Tg

/- message.Check, told plainly. -/
set_option linter.unusedVariables false
set_option linter.unusedSimpArgs false
namespace Tg
open Go.Abs (fuel bigOk)
def valK (kd k t v a b c d e f : Int) : Bool :=
  bif kd == 1 || kd == 4 then recOk (k, t, v, ()) && (a == 0 && (b == 0 && (c == 0 && (d == 0 && (e == 0 && f == 0)))))
  else bif kd == 2 then (decide (-1099511627776 ≤ a) && decide (a ≤ 1099511627776) || a == 9223372036854775807) && (k == 0 && (t == 0 && (v == 0 && (b == 0 && (c == 0 && (d == 0 && (e == 0 && f == 0)))))))
  else bif kd == 3 then rowOk (b, c, d, e, f, ()) && (k == 0 && (t == 0 && (v == 0 && a == 0)))
  else false
abbrev Ms := Int × Int × Int × Int × Int × Int × Int × Int × Int × Int × Unit
def valM (m : Ms) : Bool := valK m.1 m.2.1 m.2.2.1 m.2.2.2.1 m.2.2.2.2.1 m.2.2.2.2.2.1 m.2.2.2.2.2.2.1 m.2.2.2.2.2.2.2.1 m.2.2.2.2.2.2.2.2.1 m.2.2.2.2.2.2.2.2.2.1
theorem isTime_eq (t : Int) : message_isTime t = some (decide (-1099511627776 ≤ t) && decide (t ≤ 1099511627776), ()) := by
  unfold message_isTime
  rw [show decide (t ≥ -1099511627776) = decide (-1099511627776 ≤ t) from rfl]
  cases decide (-1099511627776 ≤ t) <;> rfl
theorem isMark_eq (t : Int) : message_isMark t = some (decide (-1099511627776 ≤ t) && decide (t ≤ 1099511627776) || t == 9223372036854775807, ()) := by
  unfold message_isMark
  rw [isTime_eq]
  cases decide (-1099511627776 ≤ t) && decide (t ≤ 1099511627776) <;> rfl
theorem ck3 (n : Nat) (x0 x1 x2 x3 x4 x5 x6 x7 x8 x9 : Int) (x10 : Bool) (x11 x12 x13 x14 x15 x16 x17 x18 x19 x20 : Int) :
    message_Check_i3 (n + 1) x0 x1 x2 x3 x4 x5 x6 x7 x8 x9 x10 x11 x12 x13 x14 x15 x16 x17 x18 x19 x20 = some (bif x10 && (x0 == x11 && (x1 == x12 && (x2 == x13 && (x3 == x14 && (x4 == x15 && (x5 == x16 && (x6 == x17 && (x7 == x18 && (x8 == x19 && (x9 == x20 && true)))))))))) then 0 else 8, ()) := by
  rw [message_Check_i3]
  unfold message_Check_c3
  generalize (x0 == x11 && (x1 == x12 && (x2 == x13 && (x3 == x14 && (x4 == x15 && (x5 == x16 && (x6 == x17 && (x7 == x18 && (x8 == x19 && (x9 == x20 && true)))))))))) = z
  cases x10 <;> cases z <;> rfl
theorem ck5 (n : Nat) (kd k t v a b c d e f : Int) (g : Bool) : message_Check_i5 (n + 1 + 1) kd k t v a b c d e f false kd 0 0 0 0 0 0 0 0 0 kd g = some (bif (bif g then recOk (k, t, v, ()) && (a == 0 && (b == 0 && (c == 0 && (d == 0 && (e == 0 && f == 0)))))
  else bif kd == 2 then (decide (-1099511627776 ≤ a) && decide (a ≤ 1099511627776) || a == 9223372036854775807) && (k == 0 && (t == 0 && (v == 0 && (b == 0 && (c == 0 && (d == 0 && (e == 0 && f == 0)))))))
  else bif kd == 3 then rowOk (b, c, d, e, f, ()) && (k == 0 && (t == 0 && (v == 0 && a == 0)))
  else false) then 0 else 8, ()) := by
  rw [message_Check_i5]
  unfold message_Check_c5
  simp only [isTime_eq, isMark_eq, ck3, beq_self_eq_true, Bool.true_and, Bool.and_true, recOk, rowOk]
  cases g
  · cases kd == 2
    · cases kd == 3
      · rfl
      · cases decide (-2199023255552 ≤ c) <;> cases decide (c < d) <;> cases decide (d ≤ 2199023255552) <;> rfl
    · simp only [cond_true, cond_false]
  · simp only [cond_true]
theorem check_eq (m : Ms) : message_Check m = some (bif valM m then 0 else 8, ()) := by
  obtain ⟨kd, k, t, v, a, b, c, d, e, f, u⟩ := m
  obtain ⟨n, hn⟩ : ∃ n, fuel = n + 1 + 1 := ⟨1152921504606846974, rfl⟩
  unfold message_Check message_Check_c
  rw [hn]
  generalize h1 : (kd == 1) = z1
  cases z1 with
  | true =>
    rw [cond_true, ck5]
    simp only [valM, valK, h1, Bool.true_or]
  | false =>
    rw [cond_false, ck5]
    simp only [valM, valK, h1, Bool.false_or]
end Tg

/- Numbers as texts: what writes them, and what reads them. -/
set_option linter.unusedVariables false
set_option linter.unusedSimpArgs false
namespace Tg
open Go
open Go.Abs (fuel bigOk)
theorem fuel_ge : 1000000000000 ≤ fuel := by unfold fuel; decide
theorem in64_i {n : Int} (h0 : -9223372036854775808 ≤ n) (h1 : n ≤ 9223372036854775807) : in64 n = true := by
  simp [in64, h0, h1]
theorem wrap_in (x : Int) : in64 (Go.IntKind.wrap Go.IntKind.i64 x) = true := by
  have : -9223372036854775808 ≤ Go.IntKind.wrap Go.IntKind.i64 x ∧ Go.IntKind.wrap Go.IntKind.i64 x ≤ 9223372036854775807 := by
    rw [Go.IntKind.wrap_i64]
    omega
  exact in64_i this.1 this.2
theorem ofN (k : Nat) : UInt8.ofNat (Int.toNat (Go.IntKind.wrap Go.IntKind.u8 (Go.IntKind.wrap Go.IntKind.i64 ((48 : Int) + (k : Int))))) = UInt8.ofNat (48 + k) ∨ ¬ k < 10 := by
  by_cases h : k < 10
  · left
    rw [w64 (by omega) (by omega)]
    have : Go.IntKind.wrap Go.IntKind.u8 (48 + (k : Int)) = 48 + (k : Int) := Go.IntWalk.u8_in _ (by omega)
    rw [this]
    congr 1
  · exact .inr h
theorem dec_step {u : Nat} (h : ¬ u < 10) : Lib.decDigits u = Lib.decDigits (u / 10) ++ [UInt8.ofNat (48 + u % 10)] := by
  rw [Lib.decDigits, dif_neg h]
theorem dec_len (u : Nat) : 1 ≤ (Lib.decDigits u).length := by
  rw [Lib.decDigits]
  split <;> simp
theorem text_k : ∀ (k : Nat) (n : Int), -9223372036854775808 ≤ n → n ≤ 9223372036854775807 → n.natAbs < 10 ^ k → k ≤ 20 → ref01_Text_k (k + 1) n = some (Lib.itoa n, ()) ∧ (Lib.itoa n).length ≤ k + 2
  | k, n, h0, h1, hk, hk2 => by
    have key : ∀ d : Nat, d < 10 → (n.natAbs % 10 = d) → ref01_Text_c2 (ref01_Text_k k) n (d : Int) = some (Lib.itoa n, ()) ∧ (Lib.itoa n).length ≤ k + 2 := fun d hd hm => by
      have e1 : (List.map (fun e : Int × Unit => UInt8.ofNat (Int.toNat e.1)) [(Go.IntKind.wrap Go.IntKind.u8 (Go.IntKind.wrap Go.IntKind.i64 ((48 : Int) + (d : Int))), ())]) = [UInt8.ofNat (48 + d)] := by
        rcases ofN d with h | h
        · simp only [List.map_cons, List.map_nil, h]
        · exact absurd hd h
      unfold ref01_Text_c2
      rw [e1]
      by_cases hz : n.natAbs < 10
      · have hq : Int.tdiv n 10 = 0 := by
          rcases Int.le_total 0 n with h | h
          · rw [Int.tdiv_eq_ediv_of_nonneg h]; omega
          · have : n = -((-n)) := by omega
            rw [this, Int.neg_tdiv, Int.tdiv_eq_ediv_of_nonneg (by omega)]; omega
        rw [hq, w64 (by omega) (by omega)]
        have hdn : n.natAbs = d := by omega
        by_cases hn : n < 0
        · rw [dT hn]
          have : Lib.itoa n = 45 :: [UInt8.ofNat (48 + d)] := by
            unfold Lib.itoa
            rw [if_pos hn, hdn, Lib.decDigits, dif_pos hd]
          rw [this]
          exact ⟨rfl, by simp⟩
        · rw [dF hn]
          have : Lib.itoa n = [UInt8.ofNat (48 + d)] := by
            unfold Lib.itoa
            rw [if_neg hn, show n.toNat = d by omega, Lib.decDigits, dif_pos hd]
          rw [this]
          exact ⟨rfl, by simp⟩
      · cases k with
        | zero => simp at hk; omega
        | succ k =>
          have hq : Int.tdiv n 10 = if n < 0 then -((n.natAbs / 10 : Nat) : Int) else ((n.natAbs / 10 : Nat) : Int) := by
            split
            · have : n = -((-n)) := by omega
              rw [this, Int.neg_tdiv, Int.tdiv_eq_ediv_of_nonneg (by omega)]; omega
            · rw [Int.tdiv_eq_ediv_of_nonneg (by omega)]; omega
          have hlo : -9223372036854775808 ≤ Int.tdiv n 10 ∧ Int.tdiv n 10 ≤ 9223372036854775807 ∧ Int.tdiv n 10 ≠ 0 ∧ (Int.tdiv n 10).natAbs = n.natAbs / 10 := by
            rw [hq]
            split <;> omega
          obtain ⟨a0, a1, a2, a3⟩ := hlo
          have ih := text_k k (Int.tdiv n 10) a0 a1 (by rw [a3, Nat.div_lt_iff_lt_mul (by decide)]; rw [Nat.pow_succ] at hk; omega) (by omega)
          rw [w64 a0 a1, ih.1]
          have ez : (Int.tdiv n 10 != 0) = true := by simpa using a2
          rw [ez]
          have hl := ih.2
          have hit : Lib.itoa n = Lib.itoa (Int.tdiv n 10) ++ [UInt8.ofNat (48 + d)] := by
            unfold Lib.itoa
            rw [hq]
            by_cases hn : n < 0
            · rw [if_pos hn, if_pos hn, if_pos (by omega), dec_step (by omega), hm]
              rw [show (-((n.natAbs / 10 : Nat) : Int)).natAbs = n.natAbs / 10 by omega]
              rfl
            · rw [if_neg hn, if_neg hn, if_neg (by omega), dec_step (by omega)]
              rw [show n.toNat % 10 = d by omega, show n.toNat / 10 = (((n.natAbs / 10 : Nat) : Int)).toNat by omega]
          rw [hit]
          simp only [cond_true]
          rw [dT (by simp; omega)]
          refine ⟨rfl, ?_⟩
          rw [List.length_append]
          simp
          omega
    have hmod : Int.tmod n 10 = if n < 0 then -((n.natAbs % 10 : Nat) : Int) else ((n.natAbs % 10 : Nat) : Int) := by
      split
      · have : n = -((-n)) := by omega
        rw [this, Int.neg_tmod, Int.tmod_eq_emod_of_nonneg (by omega)]; omega
      · rw [Int.tmod_eq_emod_of_nonneg (by omega)]; omega
    have hk' := key (n.natAbs % 10) (by omega) rfl
    refine ⟨?_, hk'.2⟩
    show (bif decide (Int.tmod n (10 : Int) < (0 : Int)) then ref01_Text_c2 (ref01_Text_k k) n (Go.IntKind.wrap Go.IntKind.i64 ((0 : Int) - Int.tmod n (10 : Int))) else ref01_Text_c2 (ref01_Text_k k) n (Int.tmod n (10 : Int))) = _
    by_cases hl : Int.tmod n 10 < 0
    · rw [dT hl]
      have e : (0 : Int) - Int.tmod n 10 = ((n.natAbs % 10 : Nat) : Int) := by
        rw [hmod] at hl ⊢
        split at hl <;> rename_i hn
        · rw [if_pos hn]; omega
        · omega
      rw [cond_true, e, w64 (by omega) (by omega)]
      exact hk'.1
    · rw [dF hl]
      have e : Int.tmod n 10 = ((n.natAbs % 10 : Nat) : Int) := by
        rw [hmod] at hl ⊢
        split at hl <;> rename_i hn
        · rw [if_pos hn]; omega
        · rw [if_neg hn]
      rw [cond_false, e]
      exact hk'.1
theorem text_eq {n : Int} (h : in64 n = true) : ref01_Text n = some (itoaF n, ()) := by
  obtain ⟨h0, h1⟩ := in64_s h
  rw [itoaF_eq h0 h1]
  exact (text_k 19 n h0 h1 (by simp; omega) (by decide)).1
theorem itoaF_len {n : Int} (h : in64 n = true) : (itoaF n).length ≤ 21 := by
  obtain ⟨h0, h1⟩ := in64_s h
  rw [itoaF_eq h0 h1]
  exact (text_k 19 n h0 h1 (by simp; omega) (by decide)).2
/-! digits read -/
def dStep (a : Nat) (b : UInt8) : Nat := a * 10 + (b.toNat - 48)
def valD (acc : Nat) (l : List UInt8) : Nat := l.foldl dStep acc
theorem valD_nil (acc : Nat) : valD acc [] = acc := rfl
theorem valD_cons (acc : Nat) (b : UInt8) (l : List UInt8) : valD acc (b :: l) = valD (acc * 10 + (b.toNat - 48)) l := by
  unfold valD
  rw [List.foldl_cons, dStep]
def isD (b : UInt8) : Prop := 48 ≤ b.toNat ∧ b.toNat ≤ 57
theorem ofNat_val {k : Nat} (h : k < 10) : (UInt8.ofNat (48 + k)).toNat = 48 + k := by
  rw [UInt8.toNat_ofNat']
  exact Nat.mod_eq_of_lt (by omega)
theorem dec_dig (n : Nat) : ∀ u, u ≤ n → ∀ b ∈ Lib.decDigits u, isD b := by
  induction n with
  | zero =>
    intro u hn b hb
    rw [Lib.decDigits, dif_pos (by omega)] at hb
    obtain rfl := List.mem_singleton.1 hb
    have := ofNat_val (k := u) (by omega)
    unfold isD
    omega
  | succ n ih =>
    intro u hn b hb
    by_cases h : u < 10
    · rw [Lib.decDigits, dif_pos h] at hb
      obtain rfl := List.mem_singleton.1 hb
      have := ofNat_val (k := u) (by omega)
      unfold isD
      omega
    · rw [dec_step h, List.mem_append] at hb
      rcases hb with hb | hb
      · exact ih (u / 10) (by omega) b hb
      · have hb := List.mem_singleton.1 hb
        have h2 := ofNat_val (k := u % 10) (by omega)
        rw [← hb] at h2
        unfold isD
        omega
theorem valD_app (l : List UInt8) (acc : Nat) (b : UInt8) : valD acc (l ++ [b]) = valD acc l * 10 + (b.toNat - 48) := by
  unfold valD
  rw [List.foldl_append]
  rfl
theorem valD_dec (n : Nat) : ∀ u, u ≤ n → valD 0 (Lib.decDigits u) = u := by
  induction n with
  | zero =>
    intro u hn
    rw [Lib.decDigits, dif_pos (by omega), valD_cons, valD_nil, ofNat_val (by omega)]
    omega
  | succ n ih =>
    intro u hn
    by_cases h : u < 10
    · rw [Lib.decDigits, dif_pos h, valD_cons, valD_nil, ofNat_val h]
      omega
    · rw [dec_step h, valD_app, ih (u / 10) (by omega), ofNat_val (Nat.mod_lt _ (by decide))]
      omega
theorem valD_ge : ∀ (l : List UInt8) (acc : Nat), acc ≤ valD acc l
  | [], acc => by rw [valD_nil]; exact Nat.le_refl _
  | b :: l, acc => by
    have := valD_ge l (acc * 10 + (b.toNat - 48))
    rw [valD_cons]
    omega
theorem parse_dig (M : Nat) : ∀ (l : List UInt8) (acc : Nat), (∀ b ∈ l, isD b) → valD acc l ≤ M → M < 18446744073709551616 → Lib.parseUintM M acc l = .ok (valD acc l)
  | [], acc, _, _, _ => by rw [Lib.parseUintM, valD_nil]
  | b :: l, acc, hd, hv, hM => by
    have h1 := hd b (by simp)
    have h2 := valD_ge l (acc * 10 + (b.toNat - 48))
    rw [valD_cons] at hv ⊢
    rw [Lib.parseUintM, if_pos (show 48 ≤ b.toNat ∧ b.toNat ≤ 57 from h1), if_neg (by omega), if_neg (by omega)]
    exact parse_dig M l _ (fun c hc => hd c (by simp [hc])) hv hM
theorem dec_no (u : Nat) (c : UInt8) (hc : ¬ isD c) : c ∉ Lib.decDigits u := fun h => hc (dec_dig u u (Nat.le_refl _) c h)
theorem parse_itoa {n : Int} (h0 : -9223372036854775808 ≤ n) (h1 : n ≤ 9223372036854775807) : Lib.parseIntB 64 (Lib.itoa n) = .ok n := by
  unfold Lib.itoa
  by_cases hn : n < 0
  · rw [if_pos hn]
    unfold Lib.parseIntB
    have e45 : (45 : UInt8).toNat = 45 := rfl
    simp only [e45, or_true, if_true]
    unfold Lib.parseUintB
    have hne : Lib.decDigits n.natAbs ≠ [] := by
      have := dec_len n.natAbs
      intro h
      rw [h] at this
      simp at this
    rw [if_neg hne, parse_dig _ _ _ (dec_dig _ _ (Nat.le_refl _)) (by rw [valD_dec _ _ (Nat.le_refl _)]; omega) (by decide), valD_dec _ _ (Nat.le_refl _)]
    simp only [not_true_eq_false, false_and, if_false, true_and]
    rw [if_neg (by omega)]
    congr 1
    omega
  · rw [if_neg hn]
    have hd := dec_dig n.toNat n.toNat (Nat.le_refl _)
    have hv := valD_dec n.toNat n.toNat (Nat.le_refl _)
    generalize hl : Lib.decDigits n.toNat = l at hd hv
    cases l with
    | nil =>
      have := dec_len n.toNat
      rw [hl] at this
      simp at this
    | cons b l =>
      have hb := hd b (by simp)
      unfold isD at hb
      unfold Lib.parseIntB
      simp only
      rw [if_neg (by omega)]
      unfold Lib.parseUintB
      rw [if_neg (by simp), parse_dig _ _ _ hd (by rw [hv]; omega) (by decide), hv]
      simp only
      rw [if_neg (by omega), if_neg (by omega), if_neg (by omega)]
      congr 1
      omega
end Tg

/- The reference's reader of a number. -/
set_option linter.unusedVariables false
set_option linter.unusedSimpArgs false
namespace Tg
open Go
open Go.Abs (fuel bigOk)
theorem iL {i n : Nat} (h : i < n) : decide ((i : Int) < (n : Int)) = true := by simpa using h
theorem iG {i n : Nat} (h : ¬ i < n) : decide ((i : Int) < (n : Int)) = false := by simpa using h
theorem iN (i : Nat) : decide ((0 : Int) ≤ (i : Int)) = true := by simp
theorem wS {i : Nat} (h : i < 1000000000000) : Go.IntKind.wrap Go.IntKind.i64 ((i : Int) + 1) = ((i + 1 : Nat) : Int) := by
  rw [w64 (by omega) (by omega)]
  omega
theorem drop_get {α : Type} {s rest : List α} {i : Nat} {b : α} (h : s.drop i = b :: rest) : i < s.length ∧ s[i]? = some b ∧ s.drop (i + 1) = rest := by
  have hl : i < s.length := by
    rcases Nat.lt_or_ge i s.length with h' | h'
    · exact h'
    · rw [List.drop_eq_nil_of_le h'] at h; cases h
  rw [List.drop_eq_getElem_cons hl] at h
  obtain ⟨h1, h2⟩ := List.cons.inj h
  exact ⟨hl, by rw [List.getElem?_eq_getElem hl, h1], h2⟩
theorem drop_end {α : Type} {s : List α} {i : Nat} (h : s.drop i = []) (hi : i ≤ s.length) : i = s.length := by
  have := congrArg List.length h
  rw [List.length_drop] at this
  simp at this
  omega
theorem num2 (n : Nat) (s : List UInt8) (x : Int) (hx : in64 x = true) : ∃ v, ref25_number_i2 (n + 1) s x = some (v, ()) ∧ in64 v = true := by
  rw [ref25_number_i2]
  unfold ref25_number_c2
  cases s with
  | nil => exact ⟨_, rfl, wrap_in _⟩
  | cons b l =>
    rw [show decide (Int.ofNat (List.length (b :: l)) > (0 : Int)) = true by simp]
    simp only [cond_true, List.getElem?_cons_zero]
    cases Int.ofNat (UInt8.toNat b) == (45 : Int) with
    | true => exact ⟨_, rfl, hx⟩
    | false => exact ⟨_, rfl, wrap_in _⟩
theorem num4 (s : List UInt8) (hs : s.length ≤ 1000000000) : ∀ (rest : List UInt8) (i n : Nat) (x : Int), s.drop i = rest → i ≤ s.length → rest.length + 3 ≤ n → in64 x = true → ∃ v, ref25_number_i4 n s x (i : Int) = some (v, ()) ∧ in64 v = true
  | [], i, n, x, h, hi, hn, hx => by
    obtain ⟨m, rfl⟩ : ∃ m, n = m + 1 + 1 := ⟨n - 2, by simp at hn; omega⟩
    have := drop_end h hi
    rw [ref25_number_i4]
    unfold ref25_number_c4
    simp only [Int.ofNat_eq_natCast, iG (show ¬ i < s.length by omega), cond_false]
    exact num2 m s x hx
  | b :: rest, i, n, x, h, hi, hn, hx => by
    obtain ⟨m, rfl⟩ : ∃ m, n = m + 1 + 1 := ⟨n - 2, by simp at hn; omega⟩
    obtain ⟨h1, h2, h3⟩ := drop_get h
    rw [ref25_number_i4]
    unfold ref25_number_c4
    simp only [Int.ofNat_eq_natCast, iL h1, cond_true, iN, Int.toNat_natCast, h2]
    cases decide ((i : Int) < 21) with
    | false =>
      simp only [cond_false]
      exact num2 m s x hx
    | true =>
      simp only [cond_true]
      cases ((b.toNat : Int) != 45) with
      | true =>
        simp only [cond_true, wS (show i < 1000000000000 by omega)]
        exact num4 s hs rest (i + 1) (m + 1) _ h3 (by omega) (by simp at hn; omega) (wrap_in _)
      | false =>
        simp only [cond_false, wS (show i < 1000000000000 by omega)]
        exact num4 s hs rest (i + 1) (m + 1) _ h3 (by omega) (by simp at hn; omega) hx
theorem number_some (s : List UInt8) (hs : s.length ≤ 1000000000) : ∃ v, ref25_number s = some (v, ()) ∧ in64 v = true := by
  unfold ref25_number ref25_number_c
  exact num4 s hs s 0 fuel 0 rfl (by omega) (by have := fuel_ge; omega) rfl
theorem num_dig (s : List UInt8) (hs : s.length ≤ 21) : ∀ (rest : List UInt8) (i n acc : Nat), s.drop i = rest → i ≤ s.length → rest.length + 3 ≤ n → (∀ b ∈ rest, isD b) → valD acc rest ≤ 9223372036854775808 →
    ∃ m, ref25_number_i4 n s (-(acc : Int)) (i : Int) = ref25_number_i2 (m + 1) s (-(valD acc rest : Int))
  | [], i, n, acc, h, hi, hn, hd, hv => by
    obtain ⟨m, rfl⟩ : ∃ m, n = m + 1 + 1 := ⟨n - 2, by simp at hn; omega⟩
    have := drop_end h hi
    rw [ref25_number_i4]
    unfold ref25_number_c4
    simp only [Int.ofNat_eq_natCast, iG (show ¬ i < s.length by omega), cond_false]
    exact ⟨m, by rw [valD_nil]⟩
  | b :: rest, i, n, acc, h, hi, hn, hd, hv => by
    obtain ⟨m, rfl⟩ : ∃ m, n = m + 1 + 1 := ⟨n - 2, by simp at hn; omega⟩
    obtain ⟨h1, h2, h3⟩ := drop_get h
    have hb := hd b (by simp)
    unfold isD at hb
    have hge := valD_ge rest (acc * 10 + (b.toNat - 48))
    rw [valD_cons] at hv
    rw [ref25_number_i4]
    unfold ref25_number_c4
    have e1 : decide ((i : Int) < 21) = true := decide_eq_true (by omega)
    have e2 : ((b.toNat : Int) != 45) = true := by simp; omega
    simp only [Int.ofNat_eq_natCast, iL h1, cond_true, iN, Int.toNat_natCast, h2, e1, e2, wS (show i < 1000000000000 by omega)]
    have e3 : Go.IntKind.wrap Go.IntKind.u8 ((b.toNat : Int) - 48) = (b.toNat : Int) - 48 := Go.IntWalk.u8_in _ (by omega)
    have e4 : Go.IntKind.wrap Go.IntKind.i64 (Go.IntKind.wrap Go.IntKind.i64 (10 * (-(acc : Int))) - Go.IntKind.wrap Go.IntKind.i64 (Go.IntKind.wrap Go.IntKind.u8 ((b.toNat : Int) - 48))) = -((acc * 10 + (b.toNat - 48) : Nat) : Int) := by
      rw [e3, w64 (x := (b.toNat : Int) - 48) (by omega) (by omega), w64 (x := 10 * (-(acc : Int))) (by omega) (by omega), w64 (by omega) (by omega)]
      omega
    rw [e4, valD_cons]
    exact num_dig s hs rest (i + 1) (m + 1) _ h3 (by omega) (by simp at hn; omega) (fun c hc => hd c (by simp [hc])) hv
theorem number_eq {n : Int} (h : in64 n = true) : ref25_number (itoaF n) = some (n, ()) := by
  obtain ⟨h0, h1⟩ := in64_s h
  have hl := itoaF_len h
  rw [itoaF_eq h0 h1] at hl ⊢
  have hf := fuel_ge
  unfold ref25_number ref25_number_c
  generalize fuel = F at hf
  by_cases hn : n < 0
  · have e : Lib.itoa n = 45 :: Lib.decDigits n.natAbs := by unfold Lib.itoa; rw [if_pos hn]
    rw [e] at hl ⊢
    have hv := valD_dec n.natAbs n.natAbs (Nat.le_refl _)
    have hd := dec_dig n.natAbs n.natAbs (Nat.le_refl _)
    generalize Lib.decDigits n.natAbs = ds at hl hv hd
    obtain ⟨m, rfl⟩ : ∃ m, F = m + 1 := ⟨F - 1, by omega⟩
    rw [ref25_number_i4]
    unfold ref25_number_c4
    have e0 : (0 : Int) = ((0 : Nat) : Int) := rfl
    have e1 : decide (0 < Int.ofNat (List.length ((45 : UInt8) :: ds))) = true := by simp
    have e2 : (Int.ofNat (UInt8.toNat 45) != 45) = false := rfl
    simp only [e1, cond_true, Int.toNat_zero, List.getElem?_cons_zero, e2, cond_false]
    have e3 : Go.IntKind.wrap Go.IntKind.i64 (0 + 1) = ((1 : Nat) : Int) := by rw [w64 (by omega) (by omega)]; rfl
    rw [e3]
    have := num_dig (45 :: ds) hl ds 1 m 0 rfl (by simp) (by simp at hl; omega) hd (by rw [hv]; omega)
    obtain ⟨k, hk⟩ := this
    have hk : ref25_number_i4 m (45 :: ds) 0 ((1 : Nat) : Int) = _ := hk
    rw [hk, ref25_number_i2]
    unfold ref25_number_c2
    have e4 : decide (Int.ofNat (List.length ((45 : UInt8) :: ds)) > 0) = true := by simp
    have e5 : (Int.ofNat (UInt8.toNat 45) == 45) = true := rfl
    simp only [e4, cond_true, List.getElem?_cons_zero, e5, hv]
    rw [show decide ((0 : Int) < 21) = true from rfl, show decide ((0 : Int) ≤ 0) = true from rfl]
    simp only [cond_true]
    congr 2
    omega
  · have e : Lib.itoa n = Lib.decDigits n.toNat := by unfold Lib.itoa; rw [if_neg hn]
    rw [e] at hl ⊢
    have hv := valD_dec n.toNat n.toNat (Nat.le_refl _)
    have hd := dec_dig n.toNat n.toNat (Nat.le_refl _)
    have h1l := dec_len n.toNat
    generalize Lib.decDigits n.toNat = ds at hl hv hd h1l
    have := num_dig ds hl ds 0 F 0 rfl (by simp) (by omega) hd (by rw [hv]; omega)
    obtain ⟨k, hk⟩ := this
    have hk : ref25_number_i4 F ds 0 0 = _ := hk
    rw [hk, ref25_number_i2]
    unfold ref25_number_c2
    cases ds with
    | nil => simp at h1l
    | cons b l =>
      have hb := hd b (by simp)
      unfold isD at hb
      have e4 : decide (Int.ofNat (List.length (b :: l)) > 0) = true := by simp
      have e5 : (Int.ofNat (UInt8.toNat b) == 45) = false := by
        rw [beq_eq_false_iff_ne]
        simp
        omega
      simp only [e4, cond_true, List.getElem?_cons_zero, e5, cond_false, hv]
      rw [w64 (by omega) (by omega)]
      congr 2
      omega
end Tg

/- Messages as texts: what reads them. -/
set_option linter.unusedVariables false
set_option linter.unusedSimpArgs false
namespace Tg
open Go
open Go.Abs (fuel bigOk)
theorem big9 {n b : Nat} (hn : n ≤ 2000000000) (hb : b ≤ 1000) : bigOk n b = true := by
  have : n * b ≤ 2000000000 * 1000 := Nat.mul_le_mul hn hb
  simp only [bigOk, Bool.and_eq_true, decide_eq_true_eq]
  exact ⟨by show n * b ≤ 140737488355328; omega, by show n ≤ 9223372036854775807; omega⟩
/-! parts of a text -/
def splitG (c : UInt8) (w l : List UInt8) : List (List UInt8) := match splitF c l with
  | [] => [w]
  | h :: t => (w ++ h) :: t
theorem splitG_nil (c : UInt8) (w : List UInt8) : splitG c w [] = [w] := by simp [splitG, splitF]
theorem splitG_hit (c : UInt8) (w l : List UInt8) : splitG c w (c :: l) = w :: splitG c [] l := by
  have hne := splitF_ne c l
  unfold splitG
  rw [splitF, beq_self_eq_true]
  simp only [cond_true, List.append_nil]
  cases h : splitF c l with
  | nil => exact absurd h hne
  | cons a b => rfl
theorem splitG_miss {c b : UInt8} (h : (b == c) = false) (w l : List UInt8) : splitG c w (b :: l) = splitG c (w ++ [b]) l := by
  have hne := splitF_ne c l
  unfold splitG
  rw [splitF, h]
  simp only [cond_false]
  cases h2 : splitF c l with
  | nil => exact absurd h2 hne
  | cons x y => simp
theorem splitG_z (c : UInt8) (l : List UInt8) : splitG c [] l = splitF c l := by
  have hne := splitF_ne c l
  unfold splitG
  cases h : splitF c l with
  | nil => exact absurd h hne
  | cons a b => rfl
theorem splitG_word {c : UInt8} : ∀ (w v rest : List UInt8), c ∉ w → splitG c v (w ++ rest) = splitG c (v ++ w) rest
  | [], v, rest, _ => by simp
  | b :: w, v, rest, h => by
    have hb : (b == c) = false := by
      rw [beq_eq_false_iff_ne]
      rintro rfl
      exact h (by simp)
    rw [List.cons_append, splitG_miss hb, splitG_word w _ rest fun h' => h (by simp [h'])]
    simp
theorem itoaF_no {n : Int} (h : in64 n = true) {c : UInt8} (hc : ¬ isD c) (hc2 : c ≠ 45) : c ∉ itoaF n := by
  obtain ⟨h0, h1⟩ := in64_s h
  rw [itoaF_eq h0 h1]
  unfold Lib.itoa
  split
  · rw [List.mem_cons]
    rintro (h | h)
    · exact hc2 h
    · exact dec_no _ c hc h
  · exact dec_no _ c hc
theorem split_nums : ∀ (ns : List Int) (w : List UInt8), (∀ n ∈ ns, in64 n = true) → splitG 32 w (numsF ns) = w :: ns.map itoaF
  | [], w, _ => by rw [numsF]; simp [splitG_nil]
  | n :: ns, w, h => by
    have e : numsF (n :: ns) = 32 :: (itoaF n ++ numsF ns) := by simp [numsF]
    rw [e, splitG_hit, splitG_word _ _ _ (itoaF_no (h n (by simp)) (by unfold isD; decide) (by decide)), List.nil_append, split_nums ns _ fun m hm => h m (by simp [hm])]
    rfl
def unS (c : UInt8) : List (List UInt8) → List UInt8
  | [] => []
  | w :: ws => match ws with
    | [] => w
    | _ :: _ => w ++ c :: unS c ws
theorem unS_cons2 (c : UInt8) (w a : List UInt8) (b : List (List UInt8)) : unS c (w :: a :: b) = w ++ c :: unS c (a :: b) := rfl
theorem unS_split (c : UInt8) : ∀ (l w : List UInt8), unS c (splitG c w l) = w ++ l
  | [], w => by rw [splitG_nil]; simp [unS]
  | b :: l, w => by
    cases hb : b == c with
    | true =>
      obtain rfl := eq_of_beq hb
      rw [splitG_hit]
      have ih := unS_split b l []
      have hne := splitF_ne b l
      rw [splitG_z] at ih ⊢
      cases h : splitF b l with
      | nil => exact absurd h hne
      | cons x y =>
        rw [h] at ih
        rw [unS_cons2, ih]
        rfl
    | false =>
      rw [splitG_miss hb, unS_split c l]
      simp
theorem unS_nums : ∀ (ns : List Int) (w : List UInt8), unS 32 (w :: ns.map itoaF) = w ++ numsF ns
  | [], w => by simp [unS, numsF]
  | n :: ns, w => by
    rw [List.map_cons, unS_cons2, unS_nums ns]
    simp [numsF]
/-! numbers -/
def dec (w : List UInt8) : Option Int := match Lib.parseIntB 64 w with
  | .ok v => bif itoaF v == w then some v else none
  | _ => none
theorem parse_in {w : List UInt8} {v : Int} (h : Lib.parseIntB 64 w = .ok v) : in64 v = true := by
  unfold Lib.parseIntB at h
  cases w with
  | nil => cases h
  | cons c r =>
    simp only at h
    split at h
    · cases h
    · cases h
    · split at h
      · cases h
      · split at h
        · cases h
        · injection h with h
          apply in64_i <;> (split at h <;> omega)
theorem dec_s {w : List UInt8} {v : Int} (h : dec w = some v) : in64 v = true ∧ w = itoaF v := by
  unfold dec at h
  split at h
  · rename_i u hu
    cases hb : itoaF u == w with
    | true =>
      rw [hb] at h
      obtain rfl := Option.some.inj h
      exact ⟨parse_in hu, (eq_of_beq hb).symm⟩
    | false => rw [hb] at h; cases h
  · cases h
theorem dec_itoa {v : Int} (h : in64 v = true) : dec (itoaF v) = some v := by
  obtain ⟨h0, h1⟩ := in64_s h
  unfold dec
  have := parse_itoa h0 h1
  rw [← itoaF_eq h0 h1] at this
  rw [this]
  simp
def decs : List (List UInt8 × Unit) → Option (List (Int × Unit))
  | [] => some []
  | w :: ws => match dec w.1 with
    | none => none
    | some v => match decs ws with
      | none => none
      | some vs => some ((v, ()) :: vs)
theorem decs_s : ∀ {ws : List (List UInt8 × Unit)} {vs : List (Int × Unit)}, decs ws = some vs → (∀ v ∈ vs, in64 v.1 = true) ∧ ws = vs.map fun v => (itoaF v.1, ())
  | [], vs, h => by
    obtain rfl := Option.some.inj h
    simp
  | w :: ws, vs, h => by
    unfold decs at h
    split at h
    · cases h
    · rename_i v hv
      split at h
      · cases h
      · rename_i us hu
        obtain rfl := Option.some.inj h
        obtain ⟨h1, h2⟩ := dec_s hv
        obtain ⟨h3, h4⟩ := decs_s hu
        refine ⟨fun x hx => ?_, ?_⟩
        · rcases List.mem_cons.1 hx with rfl | hx
          · exact h1
          · exact h3 x hx
        · rw [List.map_cons, ← h4, ← h2]
theorem decs_itoa : ∀ (vs : List Int), (∀ v ∈ vs, in64 v = true) → decs (vs.map fun v => (itoaF v, ())) = some (vs.map fun v => (v, ()))
  | [], _ => rfl
  | v :: vs, h => by
    rw [List.map_cons, decs, dec_itoa (h v (by simp)), decs_itoa vs fun u hu => h u (by simp [hu])]
    rfl
theorem num7 (l : List (List UInt8 × Unit)) (hl : l.length ≤ 100) (hw : ∀ w ∈ l, w.1.length ≤ 1000000000) : ∀ (rest : List (List UInt8 × Unit)) (i n : Nat) (acc : List (Int × Unit)), l.drop i = rest → i ≤ l.length → rest.length + 3 ≤ n → acc.length = i →
    message_numbers_i7 n acc l (l.length : Int) (i : Int) = some (match decs rest with | some vs => (acc ++ vs, true, ()) | none => ([], false, ()))
  | [], i, n, acc, h, hi, hn, ha => by
    obtain ⟨m, rfl⟩ : ∃ m, n = m + 1 := ⟨n - 1, by simp at hn; omega⟩
    have := drop_end h hi
    rw [message_numbers_i7]
    unfold message_numbers_c7
    simp only [iG (show ¬ i < l.length by omega), cond_false, decs, List.append_nil]
  | w :: rest, i, n, acc, h, hi, hn, ha => by
    obtain ⟨m, rfl⟩ : ∃ m, n = m + 1 := ⟨n - 1, by simp at hn; omega⟩
    obtain ⟨h1, h2, h3⟩ := drop_get h
    have hwl := hw w (List.mem_of_getElem? h2)
    rw [message_numbers_i7]
    unfold message_numbers_c7
    simp only [iL h1, cond_true, iN, Int.toNat_natCast, h2]
    have hc : (10 == (10 : Int) && (64 == (64 : Int) && decide (w.1.length ≤ 281474976710656))) = true := by
      simp only [beq_self_eq_true, Bool.true_and]
      exact decide_eq_true (by omega)
    unfold strconv_ParseInt
    rw [hc, cond_true]
    unfold decs dec
    cases hp : Lib.parseIntB 64 w.1
    case range => rfl
    case ok v =>
      simp only [cond_false]
      unfold strconv_FormatInt
      rw [parse_in hp]
      simp only [Bool.true_and, beq_self_eq_true, cond_true]
      cases hb : itoaF v == w.1 with
      | false => rfl
      | true =>
        simp only [Bool.not_true, cond_false, cond_true]
        rw [big9 (by simp; omega) (by decide)]
        simp only [cond_true, wS (show i < 1000000000000 by omega)]
        rw [num7 l hl hw rest (i + 1) m _ h3 (by omega) (by simp at hn; omega) (by simp [ha])]
        cases decs rest with
        | none => rfl
        | some vs => simp
    rfl
theorem numbers_eq (l : List (List UInt8 × Unit)) (hw : ∀ w ∈ l, w.1.length ≤ 1000000000) (k : Nat) (hk : k ≤ 100) : message_numbers l (k : Int) = some (bif l.length == k then (match decs l with | some vs => (vs, true, ()) | none => ([], false, ())) else ([], false, ())) := by
  unfold message_numbers message_numbers_c
  by_cases h : l.length = k
  · subst h
    have e : (Int.ofNat l.length != (l.length : Int)) = false := by simp
    rw [e, cond_false, beq_self_eq_true, cond_true]
    have := num7 l hk hw l 0 fuel [] rfl (by omega) (by have := fuel_ge; omega) rfl
    simp only [List.nil_append] at this
    exact this
  · have e : (Int.ofNat l.length != (k : Int)) = true := by simp; omega
    rw [e, show (l.length == k) = false by simpa using h]
    rfl
/-! messages -/
def allIn (m : Ms) : Bool := in64 m.1 && (in64 m.2.1 && (in64 m.2.2.1 && (in64 m.2.2.2.1 && (in64 m.2.2.2.2.1 && (in64 m.2.2.2.2.2.1 && (in64 m.2.2.2.2.2.2.1 && (in64 m.2.2.2.2.2.2.2.1 && (in64 m.2.2.2.2.2.2.2.2.1 && in64 m.2.2.2.2.2.2.2.2.2.1))))))))
def mText (m : Ms) : List UInt8 :=
  bif m.1 == 1 then [114, 101, 99, 111, 114, 100] ++ numsF [m.2.1, m.2.2.1, m.2.2.2.1]
  else bif m.1 == 2 then [109, 97, 114, 107] ++ numsF [m.2.2.2.2.1]
  else bif m.1 == 3 then [114, 111, 119] ++ numsF [m.2.2.2.2.2.1, m.2.2.2.2.2.2.1, m.2.2.2.2.2.2.2.1, m.2.2.2.2.2.2.2.2.1, m.2.2.2.2.2.2.2.2.2.1]
  else [108, 97, 116, 101] ++ numsF [m.2.1, m.2.2.1, m.2.2.2.1]
def zM : Ms := (0, 0, 0, 0, 0, 0, 0, 0, 0, 0, ())
def bad12 : Ms × Int × Unit := (zM, 12, ())
theorem read16 (n : Nat) (m : Ms) : message_Read_i16 (n + 1) m.1 m.2.1 m.2.2.1 m.2.2.2.1 m.2.2.2.2.1 m.2.2.2.2.2.1 m.2.2.2.2.2.2.1 m.2.2.2.2.2.2.2.1 m.2.2.2.2.2.2.2.2.1 m.2.2.2.2.2.2.2.2.2.1 = some (bif valM m then (m, 0, ()) else bad12) := by
  rw [message_Read_i16]
  unfold message_Read_c16
  have : ((m.1, m.2.1, m.2.2.1, m.2.2.2.1, m.2.2.2.2.1, m.2.2.2.2.2.1, m.2.2.2.2.2.2.1, m.2.2.2.2.2.2.2.1, m.2.2.2.2.2.2.2.2.1, m.2.2.2.2.2.2.2.2.2.1, ()) : Ms) = m := rfl
  rw [this, check_eq]
  cases valM m <;> rfl
def mk3 (kd : Int) : List (Int × Unit) → Ms
  | [a, b, c] => (kd, a.1, b.1, c.1, 0, 0, 0, 0, 0, 0, ())
  | _ => zM
def mk1 : List (Int × Unit) → Ms
  | [a] => (2, 0, 0, 0, a.1, 0, 0, 0, 0, 0, ())
  | _ => zM
def mk5 : List (Int × Unit) → Ms
  | [a, b, c, d, e] => (3, 0, 0, 0, 0, a.1, b.1, c.1, d.1, e.1, ())
  | _ => zM
theorem drop1 (w : List UInt8 × Unit) (ws : List (List UInt8 × Unit)) : List.drop (1 : Nat) (List.take (List.length (w :: ws)) (w :: ws)) = ws := by
  rw [List.take_length]
  rfl
theorem decs_len : ∀ {ws : List (List UInt8 × Unit)} {vs : List (Int × Unit)}, decs ws = some vs → vs.length = ws.length := fun h => by
  have := (decs_s h).2
  rw [this, List.length_map]
theorem read5_3 (n : Nat) (w : List UInt8 × Unit) (ws : List (List UInt8 × Unit)) (hw : ∀ x ∈ ws, x.1.length ≤ 1000000000) (kd : Int) (h2 : (kd == 2) = false) (h3 : (kd == 3) = false) :
    message_Read_i5 (n + 1 + 1) (w :: ws) kd 0 0 0 0 0 0 0 0 0 3 = some (bif ws.length == 3 then (match decs ws with | some vs => bif valM (mk3 kd vs) then (mk3 kd vs, 0, ()) else bad12 | none => bad12) else bad12) := by
  rw [message_Read_i5]
  unfold message_Read_c5
  rw [drop1, show decide ((1 : Nat) ≤ List.length (w :: ws)) = true by simp, cond_true, show (3 : Int) = ((3 : Nat) : Int) from rfl, numbers_eq ws hw 3 (by decide)]
  cases hl : ws.length == 3 with
  | false => rfl
  | true =>
    have hl : ws.length = 3 := by simpa using hl
    simp only [cond_true]
    cases hd : decs ws with
    | none => rfl
    | some vs =>
      have hv := decs_len hd
      rw [hl] at hv
      match vs, hv with
      | [a, b, c], _ =>
        simp only [Bool.not_true, cond_false, h2, h3, List.getElem?_cons_zero, List.getElem?_cons_succ, mk3]
        rw [show (((3 : Nat) : Int)) = (3 : Int) from rfl, h3]
        simp only [cond_false]
        exact read16 n (kd, a.1, b.1, c.1, 0, 0, 0, 0, 0, 0, ())
theorem read5_1 (n : Nat) (w : List UInt8 × Unit) (ws : List (List UInt8 × Unit)) (hw : ∀ x ∈ ws, x.1.length ≤ 1000000000) :
    message_Read_i5 (n + 1 + 1) (w :: ws) 2 0 0 0 0 0 0 0 0 0 1 = some (bif ws.length == 1 then (match decs ws with | some vs => bif valM (mk1 vs) then (mk1 vs, 0, ()) else bad12 | none => bad12) else bad12) := by
  rw [message_Read_i5]
  unfold message_Read_c5
  rw [drop1, show decide ((1 : Nat) ≤ List.length (w :: ws)) = true by simp, cond_true, show (1 : Int) = ((1 : Nat) : Int) from rfl, numbers_eq ws hw 1 (by decide)]
  cases hl : ws.length == 1 with
  | false => rfl
  | true =>
    have hl : ws.length = 1 := by simpa using hl
    simp only [cond_true]
    cases hd : decs ws with
    | none => rfl
    | some vs =>
      have hv := decs_len hd
      rw [hl] at hv
      match vs, hv with
      | [a], _ =>
        simp only [Bool.not_true, cond_false, beq_self_eq_true, cond_true, List.getElem?_cons_zero, List.getElem?_cons_succ, mk1]
        exact read16 n (2, 0, 0, 0, a.1, 0, 0, 0, 0, 0, ())
theorem read5_5 (n : Nat) (w : List UInt8 × Unit) (ws : List (List UInt8 × Unit)) (hw : ∀ x ∈ ws, x.1.length ≤ 1000000000) :
    message_Read_i5 (n + 1 + 1) (w :: ws) 3 0 0 0 0 0 0 0 0 0 5 = some (bif ws.length == 5 then (match decs ws with | some vs => bif valM (mk5 vs) then (mk5 vs, 0, ()) else bad12 | none => bad12) else bad12) := by
  rw [message_Read_i5]
  unfold message_Read_c5
  rw [drop1, show decide ((1 : Nat) ≤ List.length (w :: ws)) = true by simp, cond_true, show (5 : Int) = ((5 : Nat) : Int) from rfl, numbers_eq ws hw 5 (by decide)]
  cases hl : ws.length == 5 with
  | false => rfl
  | true =>
    have hl : ws.length = 5 := by simpa using hl
    simp only [cond_true]
    cases hd : decs ws with
    | none => rfl
    | some vs =>
      have hv := decs_len hd
      rw [hl] at hv
      match vs, hv with
      | [a, b, c, d, e], _ =>
        have e1 : ((3 : Int) == 2) = false := rfl
        simp only [Bool.not_true, cond_false, e1, beq_self_eq_true, cond_true, List.getElem?_cons_zero, List.getElem?_cons_succ, mk5]
        exact read16 n (3, 0, 0, 0, 0, a.1, b.1, c.1, d.1, e.1, ())
end Tg

/- message.Read reads just what is written. -/
set_option linter.unusedVariables false
set_option linter.unusedSimpArgs false
namespace Tg
open Go
open Go.Abs (fuel bigOk)
def vm (m : Ms) : Bool := valM m && allIn m
theorem splitF_len (c : UInt8) : ∀ (l : List UInt8), (splitF c l).length ≤ l.length + 1 ∧ ∀ w ∈ splitF c l, w.length ≤ l.length
  | [] => ⟨by simp [splitF], fun w hw => by simp [splitF] at hw; simp [hw]⟩
  | b :: l => by
    have ih := splitF_len c l
    unfold splitF
    cases hb : b == c with
    | true =>
      simp only [cond_true]
      refine ⟨by simp; omega, fun w hw => ?_⟩
      rcases List.mem_cons.1 hw with rfl | hw
      · simp
      · have := ih.2 w hw
        simp
        omega
    | false =>
      simp only [cond_false]
      cases h : splitF c l with
      | nil => exact absurd h (splitF_ne c l)
      | cons x y =>
        rw [h] at ih
        refine ⟨by have := ih.1; simp at this ⊢; omega, fun w hw => ?_⟩
        rcases List.mem_cons.1 hw with rfl | hw
        · have := ih.2 x (by simp)
          simp
          exact this
        · have := ih.2 w (by simp [hw])
          simp
          omega
theorem splitF_cons (c : UInt8) (l : List UInt8) : ∃ w ws, splitF c l = w :: ws := by
  cases h : splitF c l with
  | nil => exact absurd h (splitF_ne c l)
  | cons a b => exact ⟨a, b, rfl⟩
def readW (w : List UInt8) (ws : List (List UInt8 × Unit)) : Ms × Int × Unit :=
  let R3 (kd : Int) : Ms × Int × Unit := bif ws.length == 3 then (match decs ws with | some vs => bif valM (mk3 kd vs) then (mk3 kd vs, 0, ()) else bad12 | none => bad12) else bad12
  bif w == [114, 101, 99, 111, 114, 100] then R3 1
  else bif w == [108, 97, 116, 101] then R3 4
  else bif w == [109, 97, 114, 107] then (bif ws.length == 1 then (match decs ws with | some vs => bif valM (mk1 vs) then (mk1 vs, 0, ()) else bad12 | none => bad12) else bad12)
  else bif w == [114, 111, 119] then (bif ws.length == 5 then (match decs ws with | some vs => bif valM (mk5 vs) then (mk5 vs, 0, ()) else bad12 | none => bad12) else bad12)
  else R3 0
theorem mread_eq (s : List UInt8) (hs : s.length ≤ 1000000000) {w : List UInt8} {ws : List (List UInt8)} (hw : splitF 32 s = w :: ws) : message_Read s = some (readW w (ws.map fun x => (x, ()))) := by
  have hlen := (splitF_len 32 s).2
  have hws : ∀ x ∈ ws.map (fun x => (x, ())), x.1.length ≤ 1000000000 := fun x hx => by
    obtain ⟨y, hy, rfl⟩ := List.mem_map.1 hx
    have := hlen y (by rw [hw]; simp [hy])
    show y.length ≤ _
    omega
  obtain ⟨n, hn⟩ : ∃ n, fuel = n + 1 + 1 := ⟨1152921504606846974, rfl⟩
  unfold message_Read message_Read_c strings_Split
  rw [hn]
  simp only
  rw [decide_eq_true (show s.length < 4294967281 by omega), hw]
  simp only [cond_true, List.map_cons, List.getElem?_cons_zero]
  unfold readW
  simp only
  cases h1 : w == [114, 101, 99, 111, 114, 100] with
  | true => exact read5_3 n (w, ()) _ hws 1 rfl rfl
  | false =>
    cases h2 : w == [108, 97, 116, 101] with
    | true => exact read5_3 n (w, ()) _ hws 4 rfl rfl
    | false =>
      cases h3 : w == [109, 97, 114, 107] with
      | true => exact read5_1 n (w, ()) _ hws
      | false =>
        cases h4 : w == [114, 111, 119] with
        | true => exact read5_5 n (w, ()) _ hws
        | false => exact read5_3 n (w, ()) _ hws 0 rfl rfl
theorem words_back {s : List UInt8} {w : List UInt8} {ws : List (List UInt8)} (hw : splitF 32 s = w :: ws) {vs : List (Int × Unit)} (hd : decs (ws.map fun x => (x, ())) = some vs) : (∀ v ∈ vs, in64 v.1 = true) ∧ s = w ++ numsF (vs.map (·.1)) := by
  obtain ⟨h1, h2⟩ := decs_s hd
  refine ⟨h1, ?_⟩
  have h3 : ws = (vs.map (·.1)).map itoaF := by
    have := congrArg (List.map (·.1)) h2
    rw [List.map_map, List.map_map] at this
    rw [List.map_map]
    exact (List.map_id ws).symm.trans this
  have h4 := unS_split 32 s []
  rw [splitG_z, hw, h3, unS_nums] at h4
  exact h4.symm
theorem R3_s {s w : List UInt8} {ws : List (List UInt8)} (hw : splitF 32 s = w :: ws) (kd : Int) (hk : in64 kd = true) (ht : ∀ a b c : Int, valM (kd, a, b, c, 0, 0, 0, 0, 0, 0, ()) = true → mText (kd, a, b, c, 0, 0, 0, 0, 0, 0, ()) = w ++ numsF [a, b, c]) {r : Ms × Int × Unit}
    (hr : (bif (ws.map fun x => (x, ())).length == 3 then (match decs (ws.map fun x => (x, ())) with | some vs => bif valM (mk3 kd vs) then (mk3 kd vs, 0, ()) else bad12 | none => bad12) else bad12) = r) : r = bad12 ∨ ∃ m, r = (m, 0, ()) ∧ vm m = true ∧ mText m = s := by
  subst hr
  cases hl : (ws.map fun x => (x, ())).length == 3 with
  | false => exact .inl rfl
  | true =>
    simp only [cond_true]
    cases hd : decs (ws.map fun x => (x, ())) with
    | none => exact .inl rfl
    | some vs =>
      have hv := decs_len hd
      rw [show (ws.map fun x => (x, ())).length = 3 by simpa using hl] at hv
      obtain ⟨h1, h2⟩ := words_back hw hd
      match vs, hv with
      | [a, b, c], _ =>
        simp only [mk3]
        cases hm : valM (kd, a.1, b.1, c.1, 0, 0, 0, 0, 0, 0, ()) with
        | false => exact .inl rfl
        | true =>
          refine .inr ⟨_, rfl, ?_, ?_⟩
          · rw [vm, hm]
            simp only [allIn, hk, h1 a (by simp), h1 b (by simp), h1 c (by simp), Bool.true_and]
            rfl
          · rw [h2]
            exact ht _ _ _ hm
theorem mread_s (s : List UInt8) (hs : s.length ≤ 1000000000) : ∃ r, message_Read s = some r ∧ (r = bad12 ∨ ∃ m, r = (m, 0, ()) ∧ vm m = true ∧ mText m = s) := by
  obtain ⟨w, ws, hw⟩ := splitF_cons 32 s
  refine ⟨_, mread_eq s hs hw, ?_⟩
  unfold readW
  simp only
  cases h1 : w == [114, 101, 99, 111, 114, 100] with
  | true =>
    simp only [cond_true]
    obtain rfl := eq_of_beq h1
    exact R3_s hw 1 rfl (fun a b c _ => rfl) rfl
  | false =>
    cases h2 : w == [108, 97, 116, 101] with
    | true =>
      simp only [cond_true, cond_false]
      obtain rfl := eq_of_beq h2
      exact R3_s hw 4 rfl (fun a b c _ => rfl) rfl
    | false =>
      cases h3 : w == [109, 97, 114, 107] with
      | true =>
        simp only [cond_true, cond_false]
        obtain rfl := eq_of_beq h3
        cases hl : (ws.map fun x => (x, ())).length == 1 with
        | false => exact .inl rfl
        | true =>
          simp only [cond_true]
          cases hd : decs (ws.map fun x => (x, ())) with
          | none => exact .inl rfl
          | some vs =>
            have hv := decs_len hd
            rw [show (ws.map fun x => (x, ())).length = 1 by simpa using hl] at hv
            obtain ⟨g1, g2⟩ := words_back hw hd
            match vs, hv with
            | [a], _ =>
              simp only [mk1]
              cases hm : valM (2, 0, 0, 0, a.1, 0, 0, 0, 0, 0, ()) with
              | false => exact .inl rfl
              | true =>
                refine .inr ⟨_, rfl, ?_, ?_⟩
                · rw [vm, hm]
                  simp only [allIn, g1 a (by simp), Bool.true_and]
                  rfl
                · rw [g2]
                  rfl
      | false =>
        cases h4 : w == [114, 111, 119] with
        | true =>
          simp only [cond_true, cond_false]
          obtain rfl := eq_of_beq h4
          cases hl : (ws.map fun x => (x, ())).length == 5 with
          | false => exact .inl rfl
          | true =>
            simp only [cond_true]
            cases hd : decs (ws.map fun x => (x, ())) with
            | none => exact .inl rfl
            | some vs =>
              have hv := decs_len hd
              rw [show (ws.map fun x => (x, ())).length = 5 by simpa using hl] at hv
              obtain ⟨g1, g2⟩ := words_back hw hd
              match vs, hv with
              | [a, b, c, d, e], _ =>
                simp only [mk5]
                cases hm : valM (3, 0, 0, 0, 0, a.1, b.1, c.1, d.1, e.1, ()) with
                | false => exact .inl rfl
                | true =>
                  refine .inr ⟨_, rfl, ?_, ?_⟩
                  · rw [vm, hm]
                    simp only [allIn, g1 a (by simp), g1 b (by simp), g1 c (by simp), g1 d (by simp), g1 e (by simp), Bool.true_and]
                    rfl
                  · rw [g2]
                    rfl
        | false =>
          simp only [cond_false]
          exact R3_s hw 0 rfl (fun a b c h => by cases h) rfl
theorem vm_kinds {m : Ms} (h : vm m = true) : allIn m = true ∧ ((∃ kd k t v, (kd = 1 ∨ kd = 4) ∧ m = (kd, k, t, v, 0, 0, 0, 0, 0, 0, ())) ∨ (∃ a, m = (2, 0, 0, 0, a, 0, 0, 0, 0, 0, ())) ∨ ∃ b c d e f, m = (3, 0, 0, 0, 0, b, c, d, e, f, ())) := by
  rw [vm, Bool.and_eq_true] at h
  obtain ⟨h, h2⟩ := h
  refine ⟨h2, ?_⟩
  obtain ⟨kd, k, t, v, a, b, c, d, e, f, u⟩ := m
  simp only [valM, valK] at h
  by_cases h1 : kd = 1 ∨ kd = 4
  · have : (kd == 1 || kd == 4) = true := by simpa using h1
    rw [this] at h
    simp only [cond_true, Bool.and_eq_true, beq_iff_eq] at h
    obtain ⟨_, rfl, rfl, rfl, rfl, rfl, rfl⟩ := h
    exact .inl ⟨kd, k, t, v, h1, rfl⟩
  · have : (kd == 1 || kd == 4) = false := by simpa using h1
    rw [this] at h
    simp only [cond_false] at h
    by_cases h2 : kd = 2
    · subst h2
      simp only [beq_self_eq_true, cond_true, Bool.and_eq_true, beq_iff_eq] at h
      obtain ⟨_, rfl, rfl, rfl, rfl, rfl, rfl, rfl, rfl⟩ := h
      exact .inr (.inl ⟨a, rfl⟩)
    · rw [show (kd == 2) = false by simpa using h2] at h
      simp only [cond_false] at h
      by_cases h3 : kd = 3
      · subst h3
        simp only [beq_self_eq_true, cond_true, Bool.and_eq_true, beq_iff_eq] at h
        obtain ⟨_, rfl, rfl, rfl, rfl⟩ := h
        exact .inr (.inr ⟨b, c, d, e, f, rfl⟩)
      · rw [show (kd == 3) = false by simpa using h3] at h
        cases h
theorem split_m {w : List UInt8} {ns : List Int} (hw : (32 : UInt8) ∉ w) (hn : ∀ n ∈ ns, in64 n = true) : splitF 32 (w ++ numsF ns) = w :: ns.map itoaF := by
  rw [← splitG_z, splitG_word _ _ _ hw, List.nil_append, split_nums ns w hn]
theorem numsF_len {ns : List Int} (hn : ∀ n ∈ ns, in64 n = true) : (numsF ns).length ≤ 22 * ns.length := by
  induction ns with
  | nil => simp [numsF]
  | cons n l ih =>
    have h1 := itoaF_len (hn n (by simp))
    have h2 := ih fun m hm => hn m (by simp [hm])
    simp only [numsF, List.flatMap_cons, List.length_append, List.length_cons] at h2 ⊢
    omega
theorem mapU (ns : List Int) : (ns.map itoaF).map (fun x => (x, ())) = ns.map fun v => (itoaF v, ()) := by
  rw [List.map_map]
  rfl
theorem mread_c {m : Ms} (h : vm m = true) : message_Read (mText m) = some (m, 0, ()) := by
  have hv : valM m = true := by
    rw [vm, Bool.and_eq_true] at h
    exact h.1
  obtain ⟨ha, hk⟩ := vm_kinds h
  rcases hk with ⟨kd, k, t, v, hkd, rfl⟩ | ⟨a, rfl⟩ | ⟨b, c, d, e, f, rfl⟩
  · have hn : ∀ n ∈ [k, t, v], in64 n = true := by
      simp only [allIn, Bool.and_eq_true] at ha
      intro n hn
      simp only [List.mem_cons, List.not_mem_nil, or_false] at hn
      rcases hn with rfl | rfl | rfl
      · exact ha.2.1
      · exact ha.2.2.1
      · exact ha.2.2.2.1
    have hl := numsF_len hn
    simp only [List.length_cons, List.length_nil] at hl
    rcases hkd with rfl | rfl
    · have e : mText (1, k, t, v, 0, 0, 0, 0, 0, 0, ()) = [114, 101, 99, 111, 114, 100] ++ numsF [k, t, v] := rfl
      rw [e, mread_eq _ (by simp; omega) (split_m (by decide) hn), mapU]
      unfold readW
      simp only [beq_self_eq_true, cond_true, List.length_map, List.length_cons, List.length_nil, decs_itoa _ hn]
      simp only [List.map_cons, List.map_nil, mk3, hv]
      rfl
    · have e : mText (4, k, t, v, 0, 0, 0, 0, 0, 0, ()) = [108, 97, 116, 101] ++ numsF [k, t, v] := rfl
      rw [e, mread_eq _ (by simp; omega) (split_m (by decide) hn), mapU]
      unfold readW
      have e1 : (([108, 97, 116, 101] : List UInt8) == [114, 101, 99, 111, 114, 100]) = false := rfl
      simp only [e1, cond_false, beq_self_eq_true, cond_true, List.length_map, List.length_cons, List.length_nil, decs_itoa _ hn]
      simp only [List.map_cons, List.map_nil, mk3, hv]
      rfl
  · have hn : ∀ n ∈ [a], in64 n = true := by
      simp only [allIn, Bool.and_eq_true] at ha
      intro n hn
      simp only [List.mem_cons, List.not_mem_nil, or_false] at hn
      subst hn
      exact ha.2.2.2.2.1
    have hl := numsF_len hn
    simp only [List.length_cons, List.length_nil] at hl
    have e : mText (2, 0, 0, 0, a, 0, 0, 0, 0, 0, ()) = [109, 97, 114, 107] ++ numsF [a] := rfl
    rw [e, mread_eq _ (by simp; omega) (split_m (by decide) hn), mapU]
    unfold readW
    have e1 : (([109, 97, 114, 107] : List UInt8) == [114, 101, 99, 111, 114, 100]) = false := rfl
    have e2 : (([109, 97, 114, 107] : List UInt8) == [108, 97, 116, 101]) = false := rfl
    simp only [e1, e2, cond_false, beq_self_eq_true, cond_true, List.length_map, List.length_cons, List.length_nil, decs_itoa _ hn]
    simp only [List.map_cons, List.map_nil, mk1, hv]
    rfl
  · have hn : ∀ n ∈ [b, c, d, e, f], in64 n = true := by
      simp only [allIn, Bool.and_eq_true] at ha
      obtain ⟨_, _, _, _, _, h1, h2, h3, h4, h5⟩ := ha
      intro n hn
      simp only [List.mem_cons, List.not_mem_nil, or_false] at hn
      rcases hn with rfl | rfl | rfl | rfl | rfl <;> assumption
    have hl := numsF_len hn
    simp only [List.length_cons, List.length_nil] at hl
    have e0 : mText (3, 0, 0, 0, 0, b, c, d, e, f, ()) = [114, 111, 119] ++ numsF [b, c, d, e, f] := rfl
    rw [e0, mread_eq _ (by simp; omega) (split_m (by decide) hn), mapU]
    unfold readW
    have e1 : (([114, 111, 119] : List UInt8) == [114, 101, 99, 111, 114, 100]) = false := rfl
    have e2 : (([114, 111, 119] : List UInt8) == [108, 97, 116, 101]) = false := rfl
    have e3 : (([114, 111, 119] : List UInt8) == [109, 97, 114, 107]) = false := rfl
    simp only [e1, e2, e3, cond_false, beq_self_eq_true, cond_true, List.length_map, List.length_cons, List.length_nil, decs_itoa _ hn]
    simp only [List.map_cons, List.map_nil, mk5, hv]
    rfl
end Tg

/- The reference's messages as texts. -/
set_option linter.unusedVariables false
set_option linter.unusedSimpArgs false
namespace Tg
open Go
open Go.Abs (fuel bigOk)
theorem said3 (l : List (Int × Unit)) (hl : l.length ≤ 100) (hin : ∀ v ∈ l, in64 v.1 = true) : ∀ (rest : List (Int × Unit)) (i n : Nat) (w : List UInt8), l.drop i = rest → i ≤ l.length → rest.length + 2 ≤ n → w.length ≤ 1000 + 22 * i →
    ref25_said_i3 n w l (i : Int) = some (w ++ numsF (rest.map (·.1)), ())
  | [], i, n, w, h, hi, hn, hw => by
    obtain ⟨m, rfl⟩ : ∃ m, n = m + 1 := ⟨n - 1, by simp at hn; omega⟩
    have := drop_end h hi
    rw [ref25_said_i3]
    unfold ref25_said_c3
    simp only [Int.ofNat_eq_natCast, iG (show ¬ i < l.length by omega), cond_false]
    simp [numsF]
  | v :: rest, i, n, w, h, hi, hn, hw => by
    obtain ⟨m, rfl⟩ : ∃ m, n = m + 1 := ⟨n - 1, by simp at hn; omega⟩
    obtain ⟨h1, h2, h3⟩ := drop_get h
    have hv := hin v (List.mem_of_getElem? h2)
    have hvl := itoaF_len hv
    rw [ref25_said_i3]
    unfold ref25_said_c3
    simp only [Int.ofNat_eq_natCast, iL h1, cond_true, iN, Int.toNat_natCast, h2, text_eq hv]
    rw [decide_eq_true (show 1 + List.length (itoaF v.1) ≤ 9223372036854775807 by omega), cond_true, decide_eq_true (show List.length w + List.length ([(32 : UInt8)] ++ itoaF v.1) ≤ 9223372036854775807 by simp; omega), cond_true, wS (show i < 1000000000000 by omega)]
    rw [said3 l hl hin rest (i + 1) m _ h3 (by omega) (by simp at hn; omega) (by simp; omega)]
    simp [numsF]
theorem said_eq (w : List UInt8) (hw : w.length ≤ 1000) (l : List (Int × Unit)) (hl : l.length ≤ 100) (hin : ∀ v ∈ l, in64 v.1 = true) : ref25_said w l = some (w ++ numsF (l.map (·.1)), ()) :=
  said3 l hl hin l 0 fuel w rfl (by omega) (by have := fuel_ge; omega) (by omega)
theorem written_eq {m : Ms} (h : allIn m = true) : ref25_Written m = some (mText m, ()) := by
  simp only [allIn, Bool.and_eq_true] at h
  obtain ⟨h0, h1, h2, h3, h4, h5, h6, h7, h8, h9⟩ := h
  unfold ref25_Written mText
  cases m.1 == 1 with
  | true =>
    simp only [cond_true]
    rw [said_eq _ (by decide) _ (by simp) (by simp [h1, h2, h3])]
    rfl
  | false =>
    simp only [cond_false]
    cases m.1 == 2 with
    | true =>
      simp only [cond_true]
      rw [said_eq _ (by decide) _ (by simp) (by simp [h4])]
      rfl
    | false =>
      simp only [cond_false]
      cases m.1 == 3 with
      | true =>
        simp only [cond_true]
        rw [said_eq _ (by decide) _ (by simp) (by simp [h5, h6, h7, h8, h9])]
        rfl
      | false =>
        simp only [cond_false]
        rw [said_eq _ (by decide) _ (by simp) (by simp [h1, h2, h3])]
        rfl
theorem rowR_eq (r : Rw) : ref25_Row r = some (rowOk r, ()) := by
  unfold ref25_Row rowOk
  rw [show decide (r.2.1 ≥ -2199023255552) = decide (-2199023255552 ≤ r.2.1) from rfl]
  cases decide (r.2.1 < r.2.2.1) <;> cases decide (-2199023255552 ≤ r.2.1) <;> rfl
theorem recR_eq (r : Rc) : ref25_Right r = some (recOk r, ()) := by
  unfold ref25_Right recOk
  rw [show decide (r.2.1 ≥ -1099511627776) = decide (-1099511627776 ≤ r.2.1) from rfl]
  cases decide (-1099511627776 ≤ r.2.1) <;> rfl
theorem markR_eq (t : Int) : ref25_Mark t = some (decide (-1099511627776 ≤ t) && decide (t ≤ 1099511627776) || t == 9223372036854775807, ()) := by
  unfold ref25_Mark
  rw [show decide (t ≥ -1099511627776) = decide (-1099511627776 ≤ t) from rfl]
  cases decide (-1099511627776 ≤ t) <;> cases decide (t ≤ 1099511627776) <;> rfl
theorem va3 (n : Nat) (kd k t v a b c d e f : Int) (g : Bool) : ref25_Valid_i3 (n + 1) kd k t v a b c d e f kd g = some (bif g then recOk (k, t, v, ()) && (a == 0 && (b == 0 && (c == 0 && (d == 0 && (e == 0 && f == 0)))))
  else bif kd == 2 then (decide (-1099511627776 ≤ a) && decide (a ≤ 1099511627776) || a == 9223372036854775807) && (k == 0 && (t == 0 && (v == 0 && (b == 0 && (c == 0 && (d == 0 && (e == 0 && f == 0)))))))
  else bif kd == 3 then rowOk (b, c, d, e, f, ()) && (k == 0 && (t == 0 && (v == 0 && a == 0)))
  else false, ()) := by
  rw [ref25_Valid_i3]
  unfold ref25_Valid_c3
  simp only [recR_eq, rowR_eq, markR_eq, beq_self_eq_true, Bool.true_and, Bool.and_true]
  cases g
  · simp only [cond_false]
    cases kd == 2
    · simp only [cond_false]
      cases kd == 3
      · rfl
      · simp only [cond_true]
        cases rowOk (b, c, d, e, f, ()) <;> rfl
    · simp only [cond_true]
      cases (decide (-1099511627776 ≤ a) && decide (a ≤ 1099511627776) || a == 9223372036854775807) <;> rfl
  · simp only [cond_true]
    cases recOk (k, t, v, ()) <;> rfl
theorem valid_eq (m : Ms) : ref25_Valid m = some (valM m, ()) := by
  obtain ⟨kd, k, t, v, a, b, c, d, e, f, u⟩ := m
  obtain ⟨n, hn⟩ : ∃ n, fuel = n + 1 := ⟨1152921504606846975, rfl⟩
  unfold ref25_Valid ref25_Valid_c
  rw [hn]
  generalize h1 : (kd == 1) = z1
  cases z1 with
  | true =>
    rw [cond_true, va3]
    simp only [valM, valK, h1, Bool.true_or]
  | false =>
    rw [cond_false, va3]
    simp only [valM, valK, h1, Bool.false_or]
theorem rread20 (n : Nat) (s : List UInt8) {m : Ms} (h : allIn m = true) : ref25_Read_i20 (n + 1) s m.1 m.2.1 m.2.2.1 m.2.2.2.1 m.2.2.2.2.1 m.2.2.2.2.2.1 m.2.2.2.2.2.2.1 m.2.2.2.2.2.2.2.1 m.2.2.2.2.2.2.2.2.1 m.2.2.2.2.2.2.2.2.2.1 = some (bif valM m then (bif mText m == s then (m, 0, ()) else bad12) else bad12) := by
  rw [ref25_Read_i20]
  unfold ref25_Read_c20
  have : ((m.1, m.2.1, m.2.2.1, m.2.2.2.1, m.2.2.2.2.1, m.2.2.2.2.2.1, m.2.2.2.2.2.2.1, m.2.2.2.2.2.2.2.1, m.2.2.2.2.2.2.2.2.1, m.2.2.2.2.2.2.2.2.2.1, ()) : Ms) = m := rfl
  rw [this, valid_eq, written_eq h]
  cases valM m
  · rfl
  · cases hb : mText m == s <;> simp [hb] <;> rfl
def pickR (w : List UInt8) (a b c d e : Int) : Ms :=
  bif w == [114, 101, 99, 111, 114, 100] then (1, a, b, c, 0, 0, 0, 0, 0, 0, ())
  else bif w == [108, 97, 116, 101] then (4, a, b, c, 0, 0, 0, 0, 0, 0, ())
  else bif w == [109, 97, 114, 107] then (2, 0, 0, 0, a, 0, 0, 0, 0, 0, ())
  else bif w == [114, 111, 119] then (3, 0, 0, 0, 0, a, b, c, d, e, ())
  else zM
def endR (s : List UInt8) (m : Ms) : Ms × Int × Unit := bif valM m then (bif mText m == s then (m, 0, ()) else bad12) else bad12
theorem rread12 (n : Nat) (s w : List UInt8) (ws : List (List UInt8 × Unit)) (z a b c d e : Int) (ha : in64 a = true) (hb : in64 b = true) (hc : in64 c = true) (hd : in64 d = true) (he : in64 e = true) :
    ref25_Read_i12 (n + 1 + 1) s ((w, ()) :: ws) [(z, ()), (a, ()), (b, ()), (c, ()), (d, ()), (e, ())] = some (endR s (pickR w a b c d e)) := by
  rw [ref25_Read_i12]
  unfold ref25_Read_c12 pickR endR
  rw [show decide ((0 : Nat) < List.length ((w, ()) :: ws)) = true by simp]
  have h0 : in64 0 = true := rfl
  have h1 : in64 1 = true := rfl
  have h2 : in64 2 = true := rfl
  have h3 : in64 3 = true := rfl
  have h4 : in64 4 = true := rfl
  simp only [cond_true, List.getElem?_cons_zero, List.getElem?_cons_succ, List.length_cons, List.length_nil]
  cases w == [114, 101, 99, 111, 114, 100] with
  | true => exact rread20 n s (m := (1, a, b, c, 0, 0, 0, 0, 0, 0, ())) (by simp [allIn, h0, h1, ha, hb, hc])
  | false =>
    cases w == [108, 97, 116, 101] with
    | true => exact rread20 n s (m := (4, a, b, c, 0, 0, 0, 0, 0, 0, ())) (by simp [allIn, h0, h4, ha, hb, hc])
    | false =>
      cases w == [109, 97, 114, 107] with
      | true => exact rread20 n s (m := (2, 0, 0, 0, a, 0, 0, 0, 0, 0, ())) (by simp [allIn, h0, h2, ha])
      | false =>
        cases w == [114, 111, 119] with
        | true => exact rread20 n s (m := (3, 0, 0, 0, 0, a, b, c, d, e, ())) (by simp [allIn, h0, h3, ha, hb, hc, hd, he])
        | false => exact rread20 n s (m := zM) rfl
def numOf (w : List UInt8) : Int := match ref25_number w with
  | some v => v.1
  | none => 0
def fillN : Nat → List (Int × Unit) → List (List UInt8 × Unit) → List (Int × Unit)
  | _, x, [] => x
  | i, x, w :: rest => bif decide (i < 6) then fillN (i + 1) (x.set i (numOf w.1, ())) rest else x
theorem numOf_in (w : List UInt8) (hw : w.length ≤ 1000000000) : in64 (numOf w) = true ∧ ref25_number w = some (numOf w, ()) := by
  obtain ⟨v, h1, h2⟩ := number_some w hw
  unfold numOf
  rw [h1]
  exact ⟨h2, rfl⟩
theorem numOf_itoa {n : Int} (h : in64 n = true) : numOf (itoaF n) = n := by
  unfold numOf
  rw [number_eq h]
theorem rread14 (s : List UInt8) (l : List (List UInt8 × Unit)) (hl : l.length ≤ 2000000000) (hw : ∀ w ∈ l, w.1.length ≤ 1000000000) : ∀ (rest : List (List UInt8 × Unit)) (i n : Nat) (x : List (Int × Unit)), l.drop i = rest → i ≤ l.length → rest.length + 9 ≤ n → x.length = 6 →
    ∃ m, 5 ≤ m ∧ ref25_Read_i14 n s l x (i : Int) = ref25_Read_i12 m s l (fillN i x rest)
  | [], i, n, x, h, hi, hn, hx => by
    obtain ⟨m, rfl⟩ : ∃ m, n = m + 1 := ⟨n - 1, by simp at hn; omega⟩
    have := drop_end h hi
    rw [ref25_Read_i14]
    unfold ref25_Read_c14
    simp only [Int.ofNat_eq_natCast, iG (show ¬ i < l.length by omega), cond_false, fillN]
    exact ⟨m, by simp at hn; omega, rfl⟩
  | w :: rest, i, n, x, h, hi, hn, hx => by
    obtain ⟨m, rfl⟩ : ∃ m, n = m + 1 := ⟨n - 1, by simp at hn; omega⟩
    obtain ⟨h1, h2, h3⟩ := drop_get h
    have hwl := hw w (List.mem_of_getElem? h2)
    rw [ref25_Read_i14]
    unfold ref25_Read_c14 fillN
    simp only [Int.ofNat_eq_natCast, iL h1, cond_true, iN, Int.toNat_natCast, h2, (numOf_in w.1 hwl).2, decide_eq_true h1]
    by_cases h6 : i < 6
    · have e1 : decide ((i : Int) < 6) = true := decide_eq_true (by omega)
      have e2 : x[i]? = some x[i] := List.getElem?_eq_getElem (by omega)
      simp only [e1, cond_true, decide_eq_true (show i < x.length by omega), e2, decide_eq_true h6, wS (show i < 1000000000000 by omega)]
      exact rread14 s l hl hw rest (i + 1) m _ h3 (by omega) (by simp at hn; omega) (by rw [List.length_set, hx])
    · have e1 : decide ((i : Int) < 6) = false := decide_eq_false (by omega)
      simp only [e1, cond_false, decide_eq_false h6]
      exact ⟨m, by simp at hn; omega, rfl⟩
theorem fillN_ok : ∀ (rest : List (List UInt8 × Unit)) (i : Nat) (x : List (Int × Unit)), (∀ w ∈ rest, w.1.length ≤ 1000000000) → (∀ v ∈ x, in64 v.1 = true) → (fillN i x rest).length = x.length ∧ ∀ v ∈ fillN i x rest, in64 v.1 = true
  | [], i, x, hw, hx => ⟨rfl, hx⟩
  | w :: rest, i, x, hw, hx => by
    unfold fillN
    cases decide (i < 6) with
    | false => exact ⟨rfl, hx⟩
    | true =>
      have := fillN_ok rest (i + 1) (x.set i (numOf w.1, ())) (fun u hu => hw u (by simp [hu])) (fun v hv => by
        rcases List.mem_or_eq_of_mem_set hv with h | h
        · exact hx v h
        · rw [h]
          exact (numOf_in w.1 (hw w (by simp))).1)
      rw [List.length_set] at this
      exact this
theorem drop_take_step {s rest : List UInt8} {f i : Nat} {b : UInt8} (hf : f ≤ i) (h : s.drop i = b :: rest) : (s.take (i + 1)).drop f = (s.take i).drop f ++ [b] := by
  obtain ⟨h1, h2, h3⟩ := drop_get h
  rw [List.take_add_one, h2, List.drop_append_of_le_length (by rw [List.length_take]; omega)]
  rfl
theorem rread5 (s : List UInt8) (hs : s.length ≤ 1000000000) : ∀ (rest : List UInt8) (i f n : Nat) (acc : List (List UInt8 × Unit)), s.drop i = rest → i ≤ s.length → f ≤ i → rest.length + 4 ≤ n → acc.length ≤ i →
    ∃ m, n ≤ m + rest.length + 2 ∧ ref25_Read_i5 n s acc (f : Int) (i : Int) = ref25_Read_i3 m s (acc ++ (splitG 32 ((s.take i).drop f) rest).map fun x => (x, ()))
  | [], i, f, n, acc, h, hi, hf, hn, ha => by
    obtain ⟨m, rfl⟩ : ∃ m, n = m + 1 + 1 := ⟨n - 2, by simp at hn; omega⟩
    have hie := drop_end h hi
    subst hie
    refine ⟨m, by simp, ?_⟩
    rw [ref25_Read_i5]
    unfold ref25_Read_c5
    have e1 : decide ((s.length : Int) ≤ Int.ofNat s.length) = true := by simp
    have e2 : ((s.length : Int) == Int.ofNat s.length) = true := by simp
    simp only [e1, cond_true, e2, iN, Int.toNat_natCast, decide_eq_true hf, Nat.le_refl, decide_true, Bool.and_true, wS (show s.length < 1000000000000 by omega)]
    rw [big9 (by simp; omega) (by decide), cond_true, ref25_Read_i5]
    unfold ref25_Read_c5
    have e3 : decide (((s.length + 1 : Nat) : Int) ≤ Int.ofNat s.length) = false := decide_eq_false (by simp; omega)
    rw [e3, cond_false, splitG_nil]
    rfl
  | b :: rest, i, f, n, acc, h, hi, hf, hn, ha => by
    obtain ⟨m, rfl⟩ : ∃ m, n = m + 1 := ⟨n - 1, by simp at hn; omega⟩
    obtain ⟨h1, h2, h3⟩ := drop_get h
    have hst := drop_take_step hf h
    rw [ref25_Read_i5]
    unfold ref25_Read_c5
    have e1 : decide ((i : Int) ≤ (s.length : Int)) = true := decide_eq_true (by omega)
    have e2 : ((i : Int) == (s.length : Int)) = false := by simp; omega
    simp only [Int.ofNat_eq_natCast, e1, cond_true, e2, cond_false, iN, Int.toNat_natCast, h2, decide_eq_true hf, decide_eq_true hi, Bool.and_true, wS (show i < 1000000000000 by omega)]
    cases hb : ((b.toNat : Int) == 32) with
    | true =>
      have hb32 : b = 32 := by
        have : (b.toNat : Int) = 32 := by simpa using hb
        exact UInt8.toNat.inj (by show b.toNat = 32; omega)
      subst hb32
      simp only [cond_true]
      rw [big9 (by simp; omega) (by decide), cond_true, splitG_hit]
      obtain ⟨k, hk1, hk2⟩ := rread5 s hs rest (i + 1) (i + 1) m (acc ++ [((s.take i).drop f, ())]) h3 (by omega) (Nat.le_refl _) (by simp at hn; omega) (by simp; omega)
      refine ⟨k, by simp at hk1 ⊢; omega, ?_⟩
      rw [hk2]
      have : (s.take (i + 1)).drop (i + 1) = [] := List.drop_eq_nil_of_le (by rw [List.length_take]; omega)
      rw [this]
      simp
    | false =>
      have hb32 : (b == 32) = false := by
        rw [beq_eq_false_iff_ne]
        rintro rfl
        cases hb
      simp only [cond_false]
      obtain ⟨k, hk1, hk2⟩ := rread5 s hs rest (i + 1) f m acc h3 (by omega) (by omega) (by simp at hn; omega) (by omega)
      refine ⟨k, by simp at hk1 ⊢; omega, ?_⟩
      rw [hk2, splitG_miss hb32, hst]
theorem rread_eq (s : List UInt8) (hs : s.length ≤ 1000000000) {w : List UInt8} {ws : List (List UInt8)} (hw : splitF 32 s = w :: ws) :
    ∃ a b c d e : Int, (in64 a = true ∧ in64 b = true ∧ in64 c = true ∧ in64 d = true ∧ in64 e = true) ∧ fillN 1 (List.replicate 6 (0, ())) (ws.map fun x => (x, ())) = [(0, ()), (a, ()), (b, ()), (c, ()), (d, ()), (e, ())] ∧ ref25_Read s = some (endR s (pickR w a b c d e)) := by
  have hlen := splitF_len 32 s
  have hwl : ∀ x ∈ (splitF 32 s).map (fun x => (x, ())), x.1.length ≤ 1000000000 := fun x hx => by
    obtain ⟨y, hy, rfl⟩ := List.mem_map.1 hx
    have := hlen.2 y hy
    show y.length ≤ _
    omega
  have hf := fuel_ge
  unfold ref25_Read ref25_Read_c
  generalize fuel = F at hf
  obtain ⟨m, hm1, hm2⟩ := rread5 s hs s 0 0 F [] rfl (by omega) (by omega) (by omega) (by simp)
  have hm2 : ref25_Read_i5 F s [] 0 0 = _ := hm2
  rw [hm2]
  have e0 : (List.take 0 s).drop 0 = [] := by simp
  rw [e0, splitG_z, List.nil_append]
  obtain ⟨k, rfl⟩ : ∃ k, m = k + 1 := ⟨m - 1, by omega⟩
  rw [ref25_Read_i3]
  unfold ref25_Read_c3
  have hl2 : ((splitF 32 s).map fun x => (x, ())).length ≤ 2000000000 := by rw [List.length_map]; omega
  have hl3 : 1 ≤ ((splitF 32 s).map fun x => (x, ())).length := by rw [List.length_map, hw]; simp
  obtain ⟨q, hq1, hq2⟩ := rread14 s _ hl2 hwl (ws.map fun x => (x, ())) 1 k (List.replicate 6 (0, ())) (by rw [hw]; rfl) hl3 (by rw [hw] at hlen; have := hlen.1; simp at this ⊢; omega) (by simp)
  have hq2 : ref25_Read_i14 k s ((splitF 32 s).map fun x => (x, ())) (List.replicate 6 (0, ())) 1 = _ := hq2
  rw [hq2]
  have hfi := fillN_ok (ws.map fun x => (x, ())) 1 (List.replicate 6 (0, ())) (fun x hx => hwl x (by rw [hw]; simp only [List.map_cons, List.mem_cons]; exact .inr hx)) (fun v hv => by
    rw [List.eq_of_mem_replicate hv]
    rfl)
  have hz : (fillN 1 (List.replicate 6 ((0 : Int), ())) (ws.map fun x => (x, ())))[0]? = some (0, ()) := by
    have : ∀ (rest : List (List UInt8 × Unit)) (i : Nat) (x : List (Int × Unit)), 1 ≤ i → x[0]? = some (0, ()) → (fillN i x rest)[0]? = some (0, ()) := by
      intro rest
      induction rest with
      | nil => intro i x _ h; exact h
      | cons w rest ih =>
        intro i x hi h
        unfold fillN
        cases decide (i < 6) with
        | false => exact h
        | true => exact ih (i + 1) _ (by omega) (by rw [List.getElem?_set_ne (by omega)]; exact h)
    exact this _ 1 _ (Nat.le_refl _) rfl
  rw [List.length_replicate] at hfi
  generalize fillN 1 (List.replicate 6 ((0 : Int), ())) (ws.map fun x => (x, ())) = R at hfi hz
  obtain ⟨h1, h2⟩ := hfi
  match R, h1 with
  | [z, a, b, c, d, e], _ =>
    obtain ⟨p, rfl⟩ : ∃ p, q = p + 1 + 1 := ⟨q - 2, by omega⟩
    obtain rfl : z = (0, ()) := by simpa using hz
    refine ⟨a.1, b.1, c.1, d.1, e.1, ⟨h2 a (by simp), h2 b (by simp), h2 c (by simp), h2 d (by simp), h2 e (by simp)⟩, rfl, ?_⟩
    rw [hw]
    exact rread12 p s w _ 0 a.1 b.1 c.1 d.1 e.1 (h2 a (by simp)) (h2 b (by simp)) (h2 c (by simp)) (h2 d (by simp)) (h2 e (by simp))
theorem pickR_in {w : List UInt8} {a b c d e : Int} (h : in64 a = true ∧ in64 b = true ∧ in64 c = true ∧ in64 d = true ∧ in64 e = true) : allIn (pickR w a b c d e) = true := by
  obtain ⟨h1, h2, h3, h4, h5⟩ := h
  unfold pickR
  cases w == [114, 101, 99, 111, 114, 100]
  · cases w == [108, 97, 116, 101]
    · cases w == [109, 97, 114, 107]
      · cases w == [114, 111, 119]
        · rfl
        · simp [allIn, h1, h2, h3, h4, h5]; decide
      · simp [allIn, h1]; decide
    · simp [allIn, h1, h2, h3]; decide
  · simp [allIn, h1, h2, h3]; decide
theorem rread_s (s : List UInt8) (hs : s.length ≤ 1000000000) : ∃ r, ref25_Read s = some r ∧ (r = bad12 ∨ ∃ m, r = (m, 0, ()) ∧ vm m = true ∧ mText m = s) := by
  obtain ⟨w, ws, hw⟩ := splitF_cons 32 s
  obtain ⟨a, b, c, d, e, h1, h2, h3⟩ := rread_eq s hs hw
  refine ⟨_, h3, ?_⟩
  have hin := pickR_in (w := w) h1
  unfold endR
  generalize pickR w a b c d e = m at hin
  cases hv : valM m with
  | false => exact .inl rfl
  | true =>
    cases hb : mText m == s with
    | false => exact .inl rfl
    | true => exact .inr ⟨m, rfl, by rw [vm, hv, hin]; rfl, eq_of_beq hb⟩
theorem rread_c {m : Ms} (h : vm m = true) : ref25_Read (mText m) = some (m, 0, ()) := by
  have hv : valM m = true := by
    rw [vm, Bool.and_eq_true] at h
    exact h.1
  obtain ⟨ha, hk⟩ := vm_kinds h
  rcases hk with ⟨kd, k, t, v, hkd, rfl⟩ | ⟨a, rfl⟩ | ⟨b, c, d, e, f, rfl⟩
  · have hn : ∀ n ∈ [k, t, v], in64 n = true := by
      simp only [allIn, Bool.and_eq_true] at ha
      intro n hn
      simp only [List.mem_cons, List.not_mem_nil, or_false] at hn
      rcases hn with rfl | rfl | rfl
      · exact ha.2.1
      · exact ha.2.2.1
      · exact ha.2.2.2.1
    have hl := numsF_len hn
    simp only [List.length_cons, List.length_nil] at hl
    have hfill : fillN 1 (List.replicate 6 (0, ())) ([k, t, v].map fun v => (itoaF v, ())) = [(0, ()), (k, ()), (t, ()), (v, ()), (0, ()), (0, ())] := by
      have e1 := numOf_itoa (hn k (by simp))
      have e2 := numOf_itoa (hn t (by simp))
      have e3 := numOf_itoa (hn v (by simp))
      simp [fillN, e1, e2, e3, List.replicate]
    rcases hkd with rfl | rfl
    · have e : mText (1, k, t, v, 0, 0, 0, 0, 0, 0, ()) = [114, 101, 99, 111, 114, 100] ++ numsF [k, t, v] := rfl
      obtain ⟨a', b', c', d', e', g1, g2, g3⟩ := rread_eq (mText (1, k, t, v, 0, 0, 0, 0, 0, 0, ())) (by rw [e]; simp; omega) (by rw [e]; exact split_m (by decide) hn)
      rw [mapU, hfill] at g2
      simp only [List.cons.injEq, Prod.mk.injEq, and_true, true_and] at g2
      obtain ⟨rfl, rfl, rfl, rfl, rfl⟩ := g2
      rw [g3]
      have : pickR [114, 101, 99, 111, 114, 100] k t v 0 0 = (1, k, t, v, 0, 0, 0, 0, 0, 0, ()) := rfl
      rw [this, endR, hv]
      simp
    · have e : mText (4, k, t, v, 0, 0, 0, 0, 0, 0, ()) = [108, 97, 116, 101] ++ numsF [k, t, v] := rfl
      obtain ⟨a', b', c', d', e', g1, g2, g3⟩ := rread_eq (mText (4, k, t, v, 0, 0, 0, 0, 0, 0, ())) (by rw [e]; simp; omega) (by rw [e]; exact split_m (by decide) hn)
      rw [mapU, hfill] at g2
      simp only [List.cons.injEq, Prod.mk.injEq, and_true, true_and] at g2
      obtain ⟨rfl, rfl, rfl, rfl, rfl⟩ := g2
      rw [g3]
      have : pickR [108, 97, 116, 101] k t v 0 0 = (4, k, t, v, 0, 0, 0, 0, 0, 0, ()) := rfl
      rw [this, endR, hv]
      simp
  · have hn : ∀ n ∈ [a], in64 n = true := by
      simp only [allIn, Bool.and_eq_true] at ha
      intro n hn
      simp only [List.mem_cons, List.not_mem_nil, or_false] at hn
      subst hn
      exact ha.2.2.2.2.1
    have hl := numsF_len hn
    simp only [List.length_cons, List.length_nil] at hl
    have hfill : fillN 1 (List.replicate 6 (0, ())) ([a].map fun v => (itoaF v, ())) = [(0, ()), (a, ()), (0, ()), (0, ()), (0, ()), (0, ())] := by
      have e1 := numOf_itoa (hn a (by simp))
      simp [fillN, e1, List.replicate]
    have e : mText (2, 0, 0, 0, a, 0, 0, 0, 0, 0, ()) = [109, 97, 114, 107] ++ numsF [a] := rfl
    obtain ⟨a', b', c', d', e', g1, g2, g3⟩ := rread_eq (mText (2, 0, 0, 0, a, 0, 0, 0, 0, 0, ())) (by rw [e]; simp; omega) (by rw [e]; exact split_m (by decide) hn)
    rw [mapU, hfill] at g2
    simp only [List.cons.injEq, Prod.mk.injEq, and_true, true_and] at g2
    obtain ⟨rfl, rfl, rfl, rfl, rfl⟩ := g2
    rw [g3]
    have : pickR [109, 97, 114, 107] a 0 0 0 0 = (2, 0, 0, 0, a, 0, 0, 0, 0, 0, ()) := rfl
    rw [this, endR, hv]
    simp
  · have hn : ∀ n ∈ [b, c, d, e, f], in64 n = true := by
      simp only [allIn, Bool.and_eq_true] at ha
      obtain ⟨_, _, _, _, _, h1, h2, h3, h4, h5⟩ := ha
      intro n hn
      simp only [List.mem_cons, List.not_mem_nil, or_false] at hn
      rcases hn with rfl | rfl | rfl | rfl | rfl <;> assumption
    have hl := numsF_len hn
    simp only [List.length_cons, List.length_nil] at hl
    have hfill : fillN 1 (List.replicate 6 (0, ())) ([b, c, d, e, f].map fun v => (itoaF v, ())) = [(0, ()), (b, ()), (c, ()), (d, ()), (e, ()), (f, ())] := by
      have e1 := numOf_itoa (hn b (by simp))
      have e2 := numOf_itoa (hn c (by simp))
      have e3 := numOf_itoa (hn d (by simp))
      have e4 := numOf_itoa (hn e (by simp))
      have e5 := numOf_itoa (hn f (by simp))
      simp [fillN, e1, e2, e3, e4, e5, List.replicate]
    have e0 : mText (3, 0, 0, 0, 0, b, c, d, e, f, ()) = [114, 111, 119] ++ numsF [b, c, d, e, f] := rfl
    obtain ⟨a', b', c', d', e', g1, g2, g3⟩ := rread_eq (mText (3, 0, 0, 0, 0, b, c, d, e, f, ())) (by rw [e0]; simp; omega) (by rw [e0]; exact split_m (by decide) hn)
    rw [mapU, hfill] at g2
    simp only [List.cons.injEq, Prod.mk.injEq, and_true, true_and] at g2
    obtain ⟨rfl, rfl, rfl, rfl, rfl⟩ := g2
    rw [g3]
    have : pickR [114, 111, 119] b c d e f = (3, 0, 0, 0, 0, b, c, d, e, f, ()) := rfl
    rw [this, endR, hv]
    simp
theorem read_same (s : List UInt8) (hs : s.length ≤ 1000000000) : ∃ r, message_Read s = some r ∧ ref25_Read s = some r ∧ (r = bad12 ∨ ∃ m, r = (m, 0, ()) ∧ vm m = true ∧ mText m = s) := by
  obtain ⟨r, h1, h2⟩ := mread_s s hs
  obtain ⟨q, h3, h4⟩ := rread_s s hs
  refine ⟨r, h1, ?_, h2⟩
  rcases h2 with rfl | ⟨m, rfl, hm, rfl⟩
  · rcases h4 with rfl | ⟨m, rfl, hm, rfl⟩
    · exact h3
    · rw [mread_c hm] at h1
      cases h1
  · exact rread_c hm
end Tg

/- Outputs as texts: the reference's, told. -/
set_option linter.unusedVariables false
set_option linter.unusedSimpArgs false
namespace Tg
open Go
open Go.Abs (fuel bigOk)
theorem right12 (l : List Rc) : ∀ (rest : List Rc) (i n : Nat), l.length ≤ 1000000000 → l.drop i = rest → i ≤ l.length → rest.length + 2 ≤ n → ref45_Right_i12 n l (i : Int) = some (rest.all recOk, ())
  | [], i, n, hl, h, hi, hn => by
    obtain ⟨m, rfl⟩ : ∃ m, n = m + 1 := ⟨n - 1, by simp at hn; omega⟩
    have := drop_end h hi
    rw [ref45_Right_i12]
    unfold ref45_Right_c12
    simp only [Int.ofNat_eq_natCast, iG (show ¬ i < l.length by omega), cond_false, List.all_nil]
  | r :: rest, i, n, hl, h, hi, hn => by
    obtain ⟨m, rfl⟩ : ∃ m, n = m + 1 := ⟨n - 1, by simp at hn; omega⟩
    obtain ⟨h1, h2, h3⟩ := drop_get h
    rw [ref45_Right_i12]
    unfold ref45_Right_c12
    simp only [Int.ofNat_eq_natCast, iL h1, cond_true, iN, Int.toNat_natCast, h2, recR_eq, wS (show i < 1000000000000 by omega), List.all_cons]
    cases recOk r with
    | false => rfl
    | true =>
      simp only [Bool.not_true, cond_false, Bool.true_and]
      exact right12 l rest (i + 1) m hl h3 (by omega) (by simp at hn; omega)
theorem right3 (l : List Rw) (k : List Rc) (hk : k.length ≤ 1000000000) : ∀ (rest : List Rw) (i n : Nat), l.length ≤ 1000000000 → l.drop i = rest → i ≤ l.length → rest.length + k.length + 5 ≤ n → ref45_Right_i3 n l k (i : Int) = some (rest.all rowOk && k.all recOk, ())
  | [], i, n, hl, h, hi, hn => by
    obtain ⟨m, rfl⟩ : ∃ m, n = m + 1 + 1 := ⟨n - 2, by simp at hn; omega⟩
    have := drop_end h hi
    rw [ref45_Right_i3]
    unfold ref45_Right_c3
    simp only [Int.ofNat_eq_natCast, iG (show ¬ i < l.length by omega), cond_false, List.all_nil, Bool.true_and]
    rw [ref45_Right_i1]
    unfold ref45_Right_c1
    exact right12 k k 0 m hk rfl (by omega) (by simp at hn; omega)
  | r :: rest, i, n, hl, h, hi, hn => by
    obtain ⟨m, rfl⟩ : ∃ m, n = m + 1 := ⟨n - 1, by simp at hn; omega⟩
    obtain ⟨h1, h2, h3⟩ := drop_get h
    rw [ref45_Right_i3]
    unfold ref45_Right_c3
    simp only [Int.ofNat_eq_natCast, iL h1, cond_true, iN, Int.toNat_natCast, h2, rowR_eq, wS (show i < 1000000000000 by omega), List.all_cons]
    cases rowOk r with
    | false => rfl
    | true =>
      simp only [Bool.not_true, cond_false, Bool.true_and]
      exact right3 l k hk rest (i + 1) m hl h3 (by omega) (by simp at hn; omega)
theorem right_eq (x : Ou) (h1 : x.1.length ≤ 1000000000) (h2 : x.2.1.length ≤ 1000000000) : ref45_Right x = some (x.1.all rowOk && x.2.1.all recOk, ()) :=
  right3 x.1 x.2.1 h2 x.1 0 fuel h1 rfl (by omega) (by have := fuel_ge; omega)
theorem rowIn_all {r : Rw} (h : rowIn r = true) : allIn (3, 0, 0, 0, 0, r) = true := by
  simp only [rowIn, Bool.and_eq_true] at h
  simp [allIn, h.1, h.2.1, h.2.2.1, h.2.2.2.1, h.2.2.2.2]
  decide
theorem recIn_all {r : Rc} (h : recIn r = true) : allIn (4, r.1, r.2.1, r.2.2.1, 0, 0, 0, 0, 0, 0, ()) = true := by
  simp only [recIn, Bool.and_eq_true] at h
  simp [allIn, h.1, h.2.1, h.2.2]
  decide
theorem told11 (l : List Rc) (hin : l.all recIn = true) : ∀ (rest : List Rc) (i n : Nat) (acc : List (List UInt8 × Unit)), l.length ≤ 100000000 → l.drop i = rest → i ≤ l.length → rest.length + 2 ≤ n → acc.length ≤ 100000000 + i →
    ref45_Told_i11 n l acc (i : Int) = some (acc ++ rest.map fun r => (recT r, ()), ())
  | [], i, n, acc, hl, h, hi, hn, ha => by
    obtain ⟨m, rfl⟩ : ∃ m, n = m + 1 := ⟨n - 1, by simp at hn; omega⟩
    have := drop_end h hi
    rw [ref45_Told_i11]
    unfold ref45_Told_c11
    simp only [Int.ofNat_eq_natCast, iG (show ¬ i < l.length by omega), cond_false, List.map_nil, List.append_nil]
  | r :: rest, i, n, acc, hl, h, hi, hn, ha => by
    obtain ⟨m, rfl⟩ : ∃ m, n = m + 1 := ⟨n - 1, by simp at hn; omega⟩
    obtain ⟨h1, h2, h3⟩ := drop_get h
    have hr := List.all_eq_true.1 hin r (List.mem_of_getElem? h2)
    have hw := written_eq (recIn_all hr)
    rw [ref45_Told_i11]
    unfold ref45_Told_c11
    simp only [Int.ofNat_eq_natCast, iL h1, cond_true, iN, Int.toNat_natCast, h2, hw, wS (show i < 1000000000000 by omega)]
    rw [big9 (by simp; omega) (by decide), cond_true, told11 l hin rest (i + 1) m _ hl h3 (by omega) (by simp at hn; omega) (by simp; omega)]
    simp only [List.map_cons, List.append_assoc, List.singleton_append]
    rfl
theorem told4 (l : List Rw) (k : List Rc) (hin : l.all rowIn = true) (hk : k.all recIn = true) (hkl : k.length ≤ 100000000) : ∀ (rest : List Rw) (i n : Nat) (acc : List (List UInt8 × Unit)), l.length ≤ 100000000 → l.drop i = rest → i ≤ l.length → rest.length + k.length + 5 ≤ n → acc.length ≤ i →
    ref45_Told_i4 n l k acc (i : Int) = some (acc ++ (rest.map fun r => (rowT r, ())) ++ k.map fun r => (recT r, ()), ())
  | [], i, n, acc, hl, h, hi, hn, ha => by
    obtain ⟨m, rfl⟩ : ∃ m, n = m + 1 + 1 := ⟨n - 2, by simp at hn; omega⟩
    have := drop_end h hi
    rw [ref45_Told_i4]
    unfold ref45_Told_c4
    simp only [Int.ofNat_eq_natCast, iG (show ¬ i < l.length by omega), cond_false, List.map_nil, List.append_nil]
    rw [ref45_Told_i2]
    unfold ref45_Told_c2
    exact told11 k hk k 0 m acc hkl rfl (by omega) (by simp at hn; omega) (by omega)
  | r :: rest, i, n, acc, hl, h, hi, hn, ha => by
    obtain ⟨m, rfl⟩ : ∃ m, n = m + 1 := ⟨n - 1, by simp at hn; omega⟩
    obtain ⟨h1, h2, h3⟩ := drop_get h
    have hr := List.all_eq_true.1 hin r (List.mem_of_getElem? h2)
    have hw := written_eq (rowIn_all hr)
    rw [ref45_Told_i4]
    unfold ref45_Told_c4
    simp only [Int.ofNat_eq_natCast, iL h1, cond_true, iN, Int.toNat_natCast, h2, hw, wS (show i < 1000000000000 by omega)]
    rw [big9 (by simp; omega) (by decide), cond_true, told4 l k hin hk hkl rest (i + 1) m _ hl h3 (by omega) (by simp at hn; omega) (by simp; omega)]
    simp only [List.map_cons, List.append_assoc, List.cons_append]
    rfl
theorem told_eq (x : Ou) (h1 : x.1.all rowIn = true) (h2 : x.2.1.all recIn = true) (h3 : x.1.length ≤ 100000000) (h4 : x.2.1.length ≤ 100000000) : ref45_Told x = some ((x.1.map fun r => (rowT r, ())) ++ x.2.1.map fun r => (recT r, ()), ()) := by
  have := told4 x.1 x.2.1 h1 h2 h4 x.1 0 fuel [] h3 rfl (by omega) (by have := fuel_ge; omega) (by simp)
  rw [List.nil_append] at this
  exact this
theorem joined4 (l : List (List UInt8 × Unit)) (hw : ∀ w ∈ l, w.1.length ≤ 1000) : ∀ (rest : List (List UInt8 × Unit)) (i n : Nat) (acc : List UInt8), l.length ≤ 1000000000 → l.drop i = rest → i ≤ l.length → rest.length + 2 ≤ n → acc.length ≤ 1001 * i →
    ref45_Joined_i4 n l acc (i : Int) = some (acc ++ rest.flatMap fun w => w.1 ++ [10], ())
  | [], i, n, acc, hl, h, hi, hn, ha => by
    obtain ⟨m, rfl⟩ : ∃ m, n = m + 1 := ⟨n - 1, by simp at hn; omega⟩
    have := drop_end h hi
    rw [ref45_Joined_i4]
    unfold ref45_Joined_c4
    simp only [Int.ofNat_eq_natCast, iG (show ¬ i < l.length by omega), cond_false, List.flatMap_nil, List.append_nil]
  | w :: rest, i, n, acc, hl, h, hi, hn, ha => by
    obtain ⟨m, rfl⟩ : ∃ m, n = m + 1 := ⟨n - 1, by simp at hn; omega⟩
    obtain ⟨h1, h2, h3⟩ := drop_get h
    have hr := hw w (List.mem_of_getElem? h2)
    rw [ref45_Joined_i4]
    unfold ref45_Joined_c4
    simp only [Int.ofNat_eq_natCast, iL h1, cond_true, iN, Int.toNat_natCast, h2, wS (show i < 1000000000000 by omega)]
    rw [decide_eq_true (show List.length w.1 + 1 ≤ 9223372036854775807 by omega), cond_true, decide_eq_true (show List.length acc + List.length (w.1 ++ [(10 : UInt8)]) ≤ 9223372036854775807 by simp; omega), cond_true]
    rw [joined4 l hw rest (i + 1) m _ hl h3 (by omega) (by simp at hn; omega) (by simp; omega)]
    simp
theorem rowT_len {r : Rw} (h : rowIn r = true) : (rowT r).length ≤ 120 := by
  simp only [rowIn, Bool.and_eq_true] at h
  have := numsF_len (ns := [r.1, r.2.1, r.2.2.1, r.2.2.2.1, r.2.2.2.2.1]) (by simp [h.1, h.2.1, h.2.2.1, h.2.2.2.1, h.2.2.2.2])
  simp only [List.length_cons, List.length_nil] at this
  unfold rowT
  simp
  omega
theorem recT_len {r : Rc} (h : recIn r = true) : (recT r).length ≤ 120 := by
  simp only [recIn, Bool.and_eq_true] at h
  have := numsF_len (ns := [r.1, r.2.1, r.2.2.1]) (by simp [h.1, h.2.1, h.2.2])
  simp only [List.length_cons, List.length_nil] at this
  unfold recT
  simp
  omega
theorem routs_eq (x : Ou) (h1 : x.1.all rowIn = true) (h2 : x.2.1.all recIn = true) (h3 : x.1.length ≤ 100000000) (h4 : x.2.1.length ≤ 100000000) : ref45_Outputs x = some (outP x) := by
  unfold ref45_Outputs outP
  have e1 : decide (Int.ofNat (List.length x.1) > 4000) = decide (x.1.length > 4000) := by
    rw [decide_eq_decide]
    simp
    omega
  have e2 : decide (Int.ofNat (List.length x.2.1) > 4000) = decide (x.2.1.length > 4000) := by
    rw [decide_eq_decide]
    simp
    omega
  rw [e1, e2, right_eq x (by omega) (by omega), told_eq x h1 h2 h3 h4]
  cases decide (x.1.length > 4000) with
  | true => rfl
  | false =>
    cases decide (x.2.1.length > 4000) with
    | true => rfl
    | false =>
      simp only [cond_false, Bool.or_false]
      cases hr : (x.1.all rowOk && x.2.1.all recOk) with
      | false => rfl
      | true =>
        simp only [Bool.not_true, cond_false, cond_true]
        have := joined4 ((x.1.map fun r => (rowT r, ())) ++ x.2.1.map fun r => (recT r, ())) (fun w hw => by
          rcases List.mem_append.1 hw with hw | hw
          · obtain ⟨r, hr, rfl⟩ := List.mem_map.1 hw
            have := rowT_len (List.all_eq_true.1 h1 r hr)
            show (rowT r).length ≤ _
            omega
          · obtain ⟨r, hr, rfl⟩ := List.mem_map.1 hw
            have := recT_len (List.all_eq_true.1 h2 r hr)
            show (recT r).length ≤ _
            omega) _ 0 fuel [] (by simp; omega) rfl (by omega) (by have := fuel_ge; simp; omega) (by simp)
        have e : ref45_Joined ((x.1.map fun r => (rowT r, ())) ++ x.2.1.map fun r => (recT r, ())) = some (outT x, ()) := by
          refine this.trans ?_
          unfold outT
          rw [List.nil_append, List.drop_zero, List.flatMap_append, List.flatMap_map, List.flatMap_map]
        rw [e]
theorem louts_eq (x : Ou) (h1 : x.1.all rowIn = true) (h2 : x.2.1.all recIn = true) (h3 : x.1.length ≤ 4000000000) (h4 : x.2.1.length ≤ 4000000000) : lines_Outputs x = some (outP x) := by
  unfold lines_Outputs
  rw [h1, h2, decide_eq_true (show x.1.length ≤ 4611686018427387904 by omega), decide_eq_true (show x.2.1.length ≤ 4611686018427387904 by omega)]
  rfl
/-! lines -/
theorem split5 (s : List UInt8) (by_ : UInt8) (hs : s.length ≤ 1000000000) : ∀ (rest : List UInt8) (i f n : Nat) (acc : List (List UInt8 × Unit)), s.drop i = rest → i ≤ s.length → f ≤ i → rest.length + 2 ≤ n → acc.length ≤ i →
    ref45_Split_i5 n s (by_.toNat : Int) acc (f : Int) (i : Int) = some (acc ++ ((splitG by_ ((s.take i).drop f) rest).dropLast).map (fun x => (x, ())), ())
  | [], i, f, n, acc, h, hi, hf, hn, ha => by
    obtain ⟨m, rfl⟩ : ∃ m, n = m + 1 := ⟨n - 1, by simp at hn; omega⟩
    have hie := drop_end h hi
    rw [ref45_Split_i5]
    unfold ref45_Split_c5
    simp only [Int.ofNat_eq_natCast, iG (show ¬ i < s.length by omega), cond_false, splitG_nil]
    simp
  | b :: rest, i, f, n, acc, h, hi, hf, hn, ha => by
    obtain ⟨m, rfl⟩ : ∃ m, n = m + 1 := ⟨n - 1, by simp at hn; omega⟩
    obtain ⟨h1, h2, h3⟩ := drop_get h
    have hst := drop_take_step hf h
    rw [ref45_Split_i5]
    unfold ref45_Split_c5
    simp only [Int.ofNat_eq_natCast, iL h1, cond_true, iN, Int.toNat_natCast, h2, decide_eq_true hf, decide_eq_true hi, Bool.and_true, wS (show i < 1000000000000 by omega)]
    cases hb : ((b.toNat : Int) == (by_.toNat : Int)) with
    | true =>
      have hb32 : b = by_ := by
        have : (b.toNat : Int) = by_.toNat := by simpa using hb
        exact UInt8.toNat.inj (by omega)
      subst hb32
      simp only [cond_true]
      rw [big9 (by simp; omega) (by decide), cond_true, splitG_hit]
      rw [split5 s b hs rest (i + 1) (i + 1) m (acc ++ [((s.take i).drop f, ())]) h3 (by omega) (Nat.le_refl _) (by simp at hn; omega) (by simp; omega)]
      have : (s.take (i + 1)).drop (i + 1) = [] := List.drop_eq_nil_of_le (by rw [List.length_take]; omega)
      rw [this, splitG_z]
      have hne := splitF_ne b rest
      rw [List.dropLast_cons_of_ne_nil hne]
      simp
    | false =>
      have hb32 : (b == by_) = false := by
        rw [beq_eq_false_iff_ne]
        rintro rfl
        simp at hb
      simp only [cond_false]
      rw [split5 s by_ hs rest (i + 1) f m acc h3 (by omega) (by omega) (by simp at hn; omega) (by omega)]
      rw [splitG_miss hb32, hst]
theorem split_eq (s : List UInt8) (by_ : UInt8) (hs : s.length ≤ 1000000000) : ref45_Split s (by_.toNat : Int) = some (((splitF by_ s).dropLast).map (fun x => (x, ())), ()) := by
  have := split5 s by_ hs s 0 0 fuel [] rfl (by omega) (by omega) (by have := fuel_ge; omega) (by simp)
  rw [show (List.take 0 s).drop 0 = [] by simp, splitG_z, List.nil_append] at this
  exact this
end Tg

/- Outputs read: the program and the reference alike. -/
set_option linter.unusedVariables false
set_option linter.unusedSimpArgs false
namespace Tg
open Go
open Go.Abs (fuel bigOk)
abbrev Ro := Ou × Int × Unit
def badO : Ro := (([], [], ()), 12, ())
def rd (w : List UInt8) : Ms × Int × Unit := match message_Read w with | some r => r | none => bad12
theorem rd_s (w : List UInt8) (hw : w.length ≤ 1000000000) : message_Read w = some (rd w) ∧ ref25_Read w = some (rd w) ∧ (rd w = bad12 ∨ ∃ m, rd w = (m, 0, ()) ∧ vm m = true ∧ mText m = w) := by
  obtain ⟨r, h1, h2, h3⟩ := read_same w hw
  have : rd w = r := by
    unfold rd
    rw [h1]
  rw [this]
  exact ⟨h1, h2, h3⟩
def addM (m : Ms) (x : Ou) : Ou := bif m.1 == 3 then (x.1 ++ [m.2.2.2.2.2], x.2.1, ()) else bif m.1 == 4 then (x.1, x.2.1 ++ [(m.2.1, m.2.2.1, m.2.2.2.1, ())], ()) else (x.1, x.2.1, ())
def foldR : List (List UInt8) → Ou → Option Ou
  | [], x => some (x.1, x.2.1, ())
  | w :: ws, x => bif (rd w).2.1 != 0 then none else foldR ws (addM (rd w).1 x)
def finO (s : List UInt8) (x : Ou) : Ro := bif (outP x).2.1 != 0 then badO else bif !((outP x).1 == s) then badO else (x, 0, ())
def readO (s : List UInt8) (l : List (List UInt8)) (x : Ou) : Ro := match foldR l x with
  | none => badO
  | some y => finO s y
def okO (x : Ou) (k : Nat) : Prop := x.1.all rowIn = true ∧ x.2.1.all recIn = true ∧ x.1.length ≤ k ∧ x.2.1.length ≤ k
theorem vm_row {m : Ms} (h : vm m = true) : rowIn m.2.2.2.2.2 = true ∧ recIn (m.2.1, m.2.2.1, m.2.2.2.1, ()) = true := by
  have := (vm_kinds h).1
  simp only [allIn, Bool.and_eq_true] at this
  obtain ⟨h0, h1, h2, h3, h4, h5, h6, h7, h8, h9⟩ := this
  simp [rowIn, recIn, h1, h2, h3, h5, h6, h7, h8, h9]
theorem addM_ok {m : Ms} {x : Ou} {k : Nat} (hm : vm m = true) (h : okO x k) : okO (addM m x) (k + 1) := by
  obtain ⟨h1, h2, h3, h4⟩ := h
  obtain ⟨g1, g2⟩ := vm_row hm
  unfold addM
  cases m.1 == 3 with
  | true =>
    simp only [cond_true]
    exact ⟨by simp only [List.all_append, h1, List.all_cons, g1, List.all_nil, Bool.and_self], h2, by simp; omega, by show x.2.1.length ≤ k + 1; omega⟩
  | false =>
    simp only [cond_false]
    cases m.1 == 4 with
    | true =>
      simp only [cond_true]
      exact ⟨h1, by simp only [List.all_append, h2, List.all_cons, g2, List.all_nil, Bool.and_self], by show x.1.length ≤ k + 1; omega, by simp; omega⟩
    | false => exact ⟨h1, h2, by show x.1.length ≤ k + 1; omega, by show x.2.1.length ≤ k + 1; omega⟩
theorem rend4 (n : Nat) (s : List UInt8) (x : Ou) (h : okO x 100000000) : ref45_ReadOutputs_i4 (n + 1) s x.1 x.2.1 = some (finO s x) := by
  obtain ⟨h1, h2, h3, h4⟩ := h
  rw [ref45_ReadOutputs_i4]
  unfold ref45_ReadOutputs_c4 finO
  rw [show ((x.1, x.2.1, ()) : Ou) = x from rfl, routs_eq x h1 h2 h3 h4]
  simp only
  cases (outP x).2.1 != 0 with
  | true => rfl
  | false =>
    cases (outP x).1 == s <;> rfl
theorem rread6 (s : List UInt8) (l : List (List UInt8 × Unit)) (hl : l.length ≤ 10000000) (hw : ∀ w ∈ l, w.1.length ≤ 1000000000) : ∀ (rest : List (List UInt8)) (i n : Nat) (x : Ou), l.drop i = rest.map (fun w => (w, ())) → i ≤ l.length → rest.length + 3 ≤ n → okO x i →
    ref45_ReadOutputs_i6 n s x.1 x.2.1 l (i : Int) = some (readO s rest x)
  | [], i, n, x, h, hi, hn, ho => by
    obtain ⟨m, rfl⟩ : ∃ m, n = m + 1 + 1 := ⟨n - 2, by simp at hn; omega⟩
    have := drop_end h hi
    rw [ref45_ReadOutputs_i6]
    unfold ref45_ReadOutputs_c6
    simp only [Int.ofNat_eq_natCast, iG (show ¬ i < l.length by omega), cond_false]
    exact rend4 m s x ⟨ho.1, ho.2.1, by have := ho.2.2.1; omega, by have := ho.2.2.2; omega⟩
  | w :: rest, i, n, x, h, hi, hn, ho => by
    obtain ⟨m, rfl⟩ : ∃ m, n = m + 1 := ⟨n - 1, by simp at hn; omega⟩
    rw [List.map_cons] at h
    obtain ⟨h1, h2, h3⟩ := drop_get h
    obtain ⟨_, hr, hk⟩ := rd_s w (hw _ (List.mem_of_getElem? h2))
    have hrl := ho.2.2.1
    have hcl := ho.2.2.2
    rw [ref45_ReadOutputs_i6]
    unfold ref45_ReadOutputs_c6 readO foldR
    simp only [Int.ofNat_eq_natCast, iL h1, cond_true, iN, Int.toNat_natCast, decide_eq_true h1, h2, hr, wS (show i < 1000000000000 by omega)]
    rcases hk with hk | ⟨q, hk, hq, _⟩
    · rw [hk]
      rfl
    · rw [hk]
      have hok := addM_ok hq ho
      have ih := rread6 s l hl hw rest (i + 1) m (addM q x) h3 (by omega) (by simp at hn; omega) hok
      unfold readO at ih
      have e0 : ((0 : Int) != 0) = false := rfl
      simp only [e0, cond_false]
      rw [← ih]
      unfold addM
      cases q.1 == 3 with
      | true =>
        simp only [cond_true]
        rw [big9 (by simp; omega) (by decide), cond_true]
      | false =>
        simp only [cond_false]
        cases q.1 == 4 with
        | true =>
          simp only [cond_true]
          rw [big9 (by simp; omega) (by decide), cond_true]
        | false => rfl
theorem rro_eq (s : List UInt8) (hs : s.length ≤ 1000000) : ref45_ReadOutputs s = some (readO s (splitF 10 s).dropLast ([], [], ())) := by
  have hlen := splitF_len 10 s
  unfold ref45_ReadOutputs ref45_ReadOutputs_c
  have e : ref45_Split s 10 = _ := split_eq s 10 (by omega)
  rw [e]
  refine rread6 s _ ?_ ?_ _ 0 fuel ([], [], ()) rfl (by omega) (by have := fuel_ge; rw [List.length_dropLast]; omega) ⟨rfl, rfl, by simp, by simp⟩
  · rw [List.length_map, List.length_dropLast]
    omega
  · intro w hw
    obtain ⟨y, hy, rfl⟩ := List.mem_map.1 hw
    have := hlen.2 y (List.dropLast_subset _ hy)
    show y.length ≤ _
    omega
/-! the program -/
theorem suf_eq (v : List UInt8) (b : UInt8) (hv : v.length ≤ 1000000000) : internal_stringslite_HasSuffix (v ++ [b]) [10] = some (b == 10, ()) ∧ Go.IntKind.wrap Go.IntKind.i64 (Int.ofNat (List.length (v ++ [b])) - Int.ofNat (List.length [(10 : UInt8)])) = (v.length : Int) := by
  have e : Go.IntKind.wrap Go.IntKind.i64 (Int.ofNat (List.length (v ++ [b])) - Int.ofNat (List.length [(10 : UInt8)])) = (v.length : Int) := by
    have : Int.ofNat (List.length (v ++ [b])) - Int.ofNat (List.length [(10 : UInt8)]) = (v.length : Int) := by simp
    rw [this]
    exact w64 (by omega) (by omega)
  refine ⟨?_, e⟩
  unfold internal_stringslite_HasSuffix
  rw [e]
  have e1 : decide (Int.ofNat (List.length (v ++ [b])) ≥ Int.ofNat (List.length [(10 : UInt8)])) = true := decide_eq_true (by simp; omega)
  have e2 : decide (Int.toNat (v.length : Int) ≤ List.length (v ++ [b])) = true := decide_eq_true (by simp)
  have e3 : List.drop (Int.toNat (v.length : Int)) (List.take (List.length (v ++ [b])) (v ++ [b])) = [b] := by rw [List.take_length]; simp
  rw [e1, cond_true, iN, cond_true, e2, cond_true, e3]
  simp
theorem trim_hit (w : List UInt8) (hw : w.length ≤ 1000000000) : strings_TrimSuffix (w ++ [10]) [10] = some (w, ()) := by
  obtain ⟨h, e⟩ := suf_eq w 10 hw
  unfold strings_TrimSuffix internal_stringslite_TrimSuffix
  rw [h, e]
  have e2 : decide (Int.toNat (w.length : Int) ≤ List.length (w ++ [(10 : UInt8)])) = true := decide_eq_true (by simp)
  simp only [beq_self_eq_true, cond_true, iN, e2, Nat.zero_le, decide_true, Bool.and_self]
  simp
theorem trim_miss (w : List UInt8) (hw : w.length ≤ 1000000000) (hn : (10 : UInt8) ∉ w) (h0 : w ≠ []) : strings_TrimSuffix w [10] = some (w, ()) := by
  obtain ⟨v, b, rfl⟩ : ∃ v b, w = v ++ [b] := ⟨w.dropLast, w.getLast h0, (List.dropLast_concat_getLast h0).symm⟩
  have hb : (b == 10) = false := by
    rw [beq_eq_false_iff_ne]
    exact fun h => hn (by simp [h])
  obtain ⟨h, e⟩ := suf_eq v b (by simp at hw; omega)
  unfold strings_TrimSuffix internal_stringslite_TrimSuffix
  rw [h, hb]
  rfl
theorem pend2 (n : Nat) (s : List UInt8) (x : Ou) (h : okO x 100000000) : lines_ReadOutputs_i2 (n + 1) s x.1 x.2.1 = some (finO s x) := by
  obtain ⟨h1, h2, h3, h4⟩ := h
  rw [lines_ReadOutputs_i2]
  unfold lines_ReadOutputs_c2 finO
  rw [show ((x.1, x.2.1, ()) : Ou) = x from rfl, louts_eq x h1 h2 (by omega) (by omega)]
  simp only
  cases (outP x).2.1 != 0 with
  | true => rfl
  | false =>
    cases (outP x).1 == s <;> rfl
def trimE : List (List UInt8) → List (List UInt8)
  | [] => []
  | w :: ws => match ws with
    | [] => bif w.isEmpty then [] else [w]
    | _ :: _ => w :: trimE ws
theorem idx_at (c : UInt8) : ∀ (l : List UInt8) (i : Nat), Lib.indexByte l c = i → ∃ r, l = l.take i ++ c :: r ∧ r = l.drop (i + 1) ∧ c ∉ l.take i
  | [], i, h => by
    unfold Lib.indexByte at h
    omega
  | b :: l, i, h => by
    unfold Lib.indexByte at h
    split at h
    · rename_i hb
      have : i = 0 := by omega
      subst this
      exact ⟨l, by rw [eq_of_beq hb]; rfl, rfl, by simp⟩
    · rename_i hb
      split at h
      · omega
      · obtain ⟨k, rfl⟩ : ∃ k, i = k + 1 := ⟨i - 1, by have := Lib.indexByte_ge l c; rename_i h1; have h1 : Lib.indexByte l c ≠ -1 := (by simpa using h1); omega⟩
        obtain ⟨r, h1, h2, h3⟩ := idx_at c l k (by omega)
        refine ⟨r, by rw [List.take_succ_cons, List.cons_append, ← h1], h2, ?_⟩
        rw [List.take_succ_cons, List.mem_cons]
        rintro (h4 | h4)
        · subst h4
          simp at hb
        · exact h3 h4
theorem idx_no (c : UInt8) : ∀ l : List UInt8, Lib.indexByte l c = -1 → c ∉ l
  | [], _ => by simp
  | b :: l, h => by
    unfold Lib.indexByte at h
    split at h
    · cases h
    · rename_i hb
      split at h
      · rename_i h1
        rw [List.mem_cons]
        rintro (h4 | h4)
        · subst h4
          simp at hb
        · exact idx_no c l (by simpa using h1) h4
      · have := Lib.indexByte_ge l c
        rename_i h1
        have h1 : Lib.indexByte l c ≠ -1 := by simpa using h1
        omega
theorem step12 (m : Nat) (s w line t : List UInt8) (ht : strings_TrimSuffix line [10] = some (w, ())) (hw : w.length ≤ 1000000000) (rest : List (List UInt8)) (x : Ou) (k : Nat) (hk : k ≤ 90000000) (ho : okO x k)
    (ih : ∀ y, okO y (k + 1) → lines_ReadOutputs_i8 m t s y.1 y.2.1 = some (readO s rest y)) : lines_ReadOutputs_i12 (m + 1) t line s x.1 x.2.1 = some (readO s (w :: rest) x) := by
  obtain ⟨hr, _, hq⟩ := rd_s w hw
  have hrl := ho.2.2.1
  have hcl := ho.2.2.2
  rw [lines_ReadOutputs_i12]
  unfold lines_ReadOutputs_c12 readO foldR
  simp only [ht, hr]
  rcases hq with hq | ⟨q, hq, hv, _⟩
  · rw [hq]
    rfl
  · rw [hq]
    have ih := ih (addM q x) (addM_ok hv ho)
    unfold readO at ih
    have e0 : ((0 : Int) != 0) = false := rfl
    simp only [e0, cond_false]
    rw [← ih]
    unfold addM
    cases q.1 == 3 with
    | true =>
      simp only [cond_true]
      rw [big9 (by simp; omega) (by decide), cond_true]
    | false =>
      simp only [cond_false]
      cases q.1 == 4 with
      | true =>
        simp only [cond_true]
        rw [big9 (by simp; omega) (by decide), cond_true]
      | false => rfl
theorem pread8 (s : List UInt8) (N : Nat) : ∀ (t : List UInt8) (n k : Nat) (x : Ou), t.length ≤ N → t.length + k ≤ 80000000 → 2 * t.length + 6 ≤ n → okO x k → lines_ReadOutputs_i8 n t s x.1 x.2.1 = some (readO s (trimE (splitF 10 t)) x) := by
  induction N with
  | zero =>
    intro t n k x hN hk hn ho
    obtain rfl : t = [] := List.length_eq_zero_iff.1 (by omega)
    obtain ⟨m, rfl⟩ : ∃ m, n = m + 1 + 1 := ⟨n - 2, by omega⟩
    rw [lines_ReadOutputs_i8]
    unfold lines_ReadOutputs_c8
    exact pend2 m s x ⟨ho.1, ho.2.1, by have := ho.2.2.1; simp at hk; omega, by have := ho.2.2.2; simp at hk; omega⟩
  | succ N ihN =>
    intro t n k x hN hk hn ho
    obtain ⟨m, rfl⟩ : ∃ m, n = m + 1 + 1 := ⟨n - 2, by omega⟩
    by_cases h0 : t = []
    · subst h0
      rw [lines_ReadOutputs_i8]
      unfold lines_ReadOutputs_c8
      exact pend2 m s x ⟨ho.1, ho.2.1, by have := ho.2.2.1; simp at hk; omega, by have := ho.2.2.2; simp at hk; omega⟩
    · have hpos : 0 < t.length := List.length_pos_iff.2 h0
      rw [lines_ReadOutputs_i8]
      unfold lines_ReadOutputs_c8
      rw [decide_eq_true (show Int.ofNat t.length > 0 by simp; omega), cond_true]
      have e10 : Nat.toUInt8 (Int.toNat (10 : Int)) = 10 := rfl
      rw [e10]
      by_cases e : Lib.indexByte t 10 = -1
      · rw [e]
        have en : decide ((-1 : Int) ≥ 0) = false := rfl
        rw [en, cond_false]
        have hno := idx_no 10 t e
        rw [splitF_miss 10 t e]
        have et : trimE [t] = [t] := by
          unfold trimE
          rw [show t.isEmpty = false by simpa using h0]
          rfl
        rw [et]
        refine step12 m s t t [] (trim_miss t (by omega) hno h0) (by omega) [] x k (by omega) ho fun y hy => ?_
        have := ihN [] m (k + 1) y (by simp) (by simp; omega) (by simp; omega) hy
        exact this
      · have hge := Lib.indexByte_ge t 10
        obtain ⟨i, hi⟩ : ∃ i : Nat, Lib.indexByte t 10 = i := ⟨(Lib.indexByte t 10).toNat, by omega⟩
        obtain ⟨r, g1, g2, g3⟩ := idx_at 10 t i hi
        have hil : i < t.length := by
          have := congrArg List.length g1
          rw [List.length_append, List.length_take] at this
          simp at this
          omega
        rw [hi, wS (show i < 1000000000000 by omega)]
        rw [decide_eq_true (show (i : Int) ≥ 0 by omega), cond_true]
        simp only [iN, Int.toNat_natCast, decide_eq_true (show 0 ≤ i + 1 by omega), decide_eq_true (show i + 1 ≤ t.length by omega), Bool.and_self, cond_true, List.take_length, List.drop_zero]
        have eline : t.take (i + 1) = t.take i ++ [10] := by
          rw [List.take_add_one]
          congr 1
          rw [g1]
          rw [List.getElem?_append_right (by rw [List.length_take]; omega)]
          rw [List.length_take, show i - min i t.length = 0 by omega]
          rfl
        rw [splitF_hit 10 t i hi, eline]
        have et : trimE (t.take i :: splitF 10 (t.drop (i + 1))) = t.take i :: trimE (splitF 10 (t.drop (i + 1))) := by
          obtain ⟨w, ws, hw⟩ := splitF_cons 10 (t.drop (i + 1))
          rw [hw]
          rfl
        rw [et]
        refine step12 m s (t.take i) (t.take i ++ [10]) _ (trim_hit _ (by rw [List.length_take]; omega)) (by rw [List.length_take]; omega) _ x k (by omega) ho fun y hy => ?_
        exact ihN (t.drop (i + 1)) m (k + 1) y (by rw [List.length_drop]; omega) (by rw [List.length_drop]; omega) (by rw [List.length_drop]; omega) hy
theorem pro_eq (s : List UInt8) (hs : s.length ≤ 1000000) : lines_ReadOutputs s = some (readO s (trimE (splitF 10 s)) ([], [], ())) := by
  unfold lines_ReadOutputs lines_ReadOutputs_c
  exact pread8 s s.length s fuel 0 ([], [], ()) (Nat.le_refl _) (by omega) (by have := fuel_ge; omega) ⟨rfl, rfl, by simp, by simp⟩
/-! both alike -/
theorem foldR_app : ∀ (a b : List (List UInt8)) (x : Ou), foldR (a ++ b) x = match foldR a x with | none => none | some y => foldR b y
  | [], b, x => rfl
  | w :: a, b, x => by
    rw [List.cons_append, foldR, foldR]
    cases (rd w).2.1 != 0 with
    | true => rfl
    | false => exact foldR_app a b _
theorem split_snoc (c : UInt8) : ∀ l, splitF c (l ++ [c]) = splitF c l ++ [[]]
  | [] => by simp [splitF]
  | b :: l => by
    rw [List.cons_append, splitF, splitF, split_snoc c l]
    cases b == c with
    | true => rfl
    | false =>
      simp only [cond_false]
      cases h : splitF c l with
      | nil => exact absurd h (splitF_ne c l)
      | cons x y => rfl
theorem outT_end (x : Ou) : outT x = [] ∨ ∃ p, outT x = p ++ [10] := by
  have key : ∀ l : List (List UInt8), (l.flatMap fun w => w ++ [10]) = [] ∨ ∃ p, (l.flatMap fun w => w ++ [10]) = p ++ [10] := by
    intro l
    induction l with
    | nil => exact .inl rfl
    | cons w l ih =>
      right
      rw [List.flatMap_cons]
      rcases ih with h | ⟨p, h⟩
      · rw [h]
        exact ⟨w, by simp⟩
      · rw [h]
        exact ⟨w ++ [10] ++ p, by simp⟩
  have := key (x.1.map rowT ++ x.2.1.map recT)
  rw [List.flatMap_append, List.flatMap_map, List.flatMap_map] at this
  exact this
theorem finO_bad {s : List UInt8} (h0 : s ≠ []) (h1 : ¬ ∃ p, s = p ++ [10]) (x : Ou) : finO s x = badO := by
  unfold finO
  cases he : (outP x).2.1 != 0 with
  | true => rfl
  | false =>
    have hne : ¬ (outP x).1 = s := by
      unfold outP at he ⊢
      cases ha : (decide (x.1.length > 4000) || decide (x.2.1.length > 4000)) with
      | true => simp [ha] at he
      | false =>
        cases hb : (x.1.all rowOk && x.2.1.all recOk) with
        | false => simp [ha, hb] at he
        | true =>
          simp only [cond_false, cond_true]
          intro e
          rcases outT_end x with h | ⟨p, h⟩
          · exact h0 (e.symm.trans h)
          · exact h1 ⟨p, e.symm.trans h⟩
    rw [show ((outP x).1 == s) = false by simpa using hne]
    rfl
theorem trimE_eq : ∀ (l : List (List UInt8)) (h : l ≠ []), trimE l = l.dropLast ++ bif (l.getLast h).isEmpty then [] else [l.getLast h]
  | [], h => absurd rfl h
  | [w], h => rfl
  | w :: x :: l, h => by
    have := trimE_eq (x :: l) (by simp)
    rw [show trimE (w :: x :: l) = w :: trimE (x :: l) from rfl, this]
    rfl
theorem readO_same (s : List UInt8) (x : Ou) : readO s (trimE (splitF 10 s)) x = readO s (splitF 10 s).dropLast x := by
  have hne := splitF_ne 10 s
  rw [trimE_eq _ hne]
  cases hl : ((splitF 10 s).getLast hne).isEmpty with
  | true => rw [cond_true, List.append_nil]
  | false =>
    rw [cond_false]
    have h0 : s ≠ [] := by
      rintro rfl
      simp [splitF] at hl
    have h1 : ¬ ∃ p, s = p ++ [10] := by
      rintro ⟨p, rfl⟩
      simp only [split_snoc] at hl
      simp at hl
    have hb := finO_bad h0 h1
    unfold readO
    rw [foldR_app]
    cases hf : foldR (splitF 10 s).dropLast x with
    | none => rfl
    | some y =>
      simp only [hb]
      cases foldR [(splitF 10 s).getLast hne] y <;> rfl
theorem ro_same (s : List UInt8) (hs : s.length ≤ 1000000) : lines_ReadOutputs s = some (readO s (splitF 10 s).dropLast ([], [], ())) ∧ ref45_ReadOutputs s = some (readO s (splitF 10 s).dropLast ([], [], ())) :=
  ⟨by rw [pro_eq s hs, readO_same], rro_eq s hs⟩
end Tg

/- The law of LinesOutputs, told plainly. -/
set_option linter.unusedVariables false
set_option linter.unusedSimpArgs false
namespace Tg
open Go
open Go.Abs (fuel bigOk)
theorem rowB (e0 e1 : Rw) : (e0.1 == e1.1 && (e0.2.1 == e1.2.1 && (e0.2.2.1 == e1.2.2.1 && (e0.2.2.2.1 == e1.2.2.2.1 && (e0.2.2.2.2.1 == e1.2.2.2.2.1 && true))))) = decide (e0 = e1) := by
  obtain ⟨a, b, c, d, e, u⟩ := e0
  obtain ⟨a', b', c', d', e', u'⟩ := e1
  rw [Bool.eq_iff_iff]
  simp
theorem recB (e0 e1 : Rc) : (e0.1 == e1.1 && (e0.2.1 == e1.2.1 && (e0.2.2.1 == e1.2.2.1 && true))) = decide (e0 = e1) := by
  obtain ⟨a, b, c, u⟩ := e0
  obtain ⟨a', b', c', u'⟩ := e1
  rw [Bool.eq_iff_iff]
  simp
theorem sameRows6 (l k : List Rw) (hl : l.length ≤ 1000000000) (hlk : l.length = k.length) : ∀ (rl rk : List Rw) (i n : Nat), l.drop i = rl → k.drop i = rk → i ≤ l.length → rl.length + 2 ≤ n → ref34_SameRows_i6 n l k (i : Int) = some (decide (rl = rk), ())
  | [], rk, i, n, h, h', hi, hn => by
    obtain ⟨m, rfl⟩ : ∃ m, n = m + 1 := ⟨n - 1, by simp at hn; omega⟩
    have := drop_end h hi
    have hk : rk = [] := by rw [← h']; exact List.drop_eq_nil_of_le (by omega)
    subst hk
    rw [ref34_SameRows_i6]
    unfold ref34_SameRows_c6
    simp only [Int.ofNat_eq_natCast, iG (show ¬ i < l.length by omega), cond_false, decide_true]
  | a :: rl, rk, i, n, h, h', hi, hn => by
    obtain ⟨m, rfl⟩ : ∃ m, n = m + 1 := ⟨n - 1, by simp at hn; omega⟩
    obtain ⟨h1, h2, h3⟩ := drop_get h
    cases rk with
    | nil =>
      have := drop_end h' (by omega)
      omega
    | cons b rk =>
      obtain ⟨g1, g2, g3⟩ := drop_get h'
      rw [ref34_SameRows_i6]
      unfold ref34_SameRows_c6
      simp only [Int.ofNat_eq_natCast, iL h1, cond_true, iN, Int.toNat_natCast, h2, g2, rowB, wS (show i < 1000000000000 by omega)]
      rw [sameRows6 l k hl hlk rl rk (i + 1) m h3 g3 (by omega) (by simp at hn; omega)]
      by_cases e : a = b
      · subst e
        simp
      · simp [e]
theorem sameRows_eq (l k : List Rw) (hl : l.length ≤ 1000000000) : ref34_SameRows l k = some (decide (l = k), ()) := by
  unfold ref34_SameRows ref34_SameRows_c
  by_cases e : l.length = k.length
  · have e1 : (Int.ofNat l.length != Int.ofNat k.length) = false := by simp [e]
    rw [e1, cond_false]
    exact sameRows6 l k hl e l k 0 fuel rfl rfl (by omega) (by have := fuel_ge; omega)
  · have e1 : (Int.ofNat l.length != Int.ofNat k.length) = true := by simp; omega
    rw [e1, cond_true, decide_eq_false (fun h => e (by rw [h]))]
theorem sameRecs6 (l k : List Rc) (hl : l.length ≤ 1000000000) (hlk : l.length = k.length) : ∀ (rl rk : List Rc) (i n : Nat), l.drop i = rl → k.drop i = rk → i ≤ l.length → rl.length + 2 ≤ n → ref34_SameRecords_i6 n l k (i : Int) = some (decide (rl = rk), ())
  | [], rk, i, n, h, h', hi, hn => by
    obtain ⟨m, rfl⟩ : ∃ m, n = m + 1 := ⟨n - 1, by simp at hn; omega⟩
    have := drop_end h hi
    have hk : rk = [] := by rw [← h']; exact List.drop_eq_nil_of_le (by omega)
    subst hk
    rw [ref34_SameRecords_i6]
    unfold ref34_SameRecords_c6
    simp only [Int.ofNat_eq_natCast, iG (show ¬ i < l.length by omega), cond_false, decide_true]
  | a :: rl, rk, i, n, h, h', hi, hn => by
    obtain ⟨m, rfl⟩ : ∃ m, n = m + 1 := ⟨n - 1, by simp at hn; omega⟩
    obtain ⟨h1, h2, h3⟩ := drop_get h
    cases rk with
    | nil =>
      have := drop_end h' (by omega)
      omega
    | cons b rk =>
      obtain ⟨g1, g2, g3⟩ := drop_get h'
      rw [ref34_SameRecords_i6]
      unfold ref34_SameRecords_c6
      simp only [Int.ofNat_eq_natCast, iL h1, cond_true, iN, Int.toNat_natCast, h2, g2, recB, wS (show i < 1000000000000 by omega)]
      rw [sameRecs6 l k hl hlk rl rk (i + 1) m h3 g3 (by omega) (by simp at hn; omega)]
      by_cases e : a = b
      · subst e
        simp
      · simp [e]
theorem sameRecs_eq (l k : List Rc) (hl : l.length ≤ 1000000000) : ref34_SameRecords l k = some (decide (l = k), ()) := by
  unfold ref34_SameRecords ref34_SameRecords_c
  by_cases e : l.length = k.length
  · have e1 : (Int.ofNat l.length != Int.ofNat k.length) = false := by simp [e]
    rw [e1, cond_false]
    exact sameRecs6 l k hl e l k 0 fuel rfl rfl (by omega) (by have := fuel_ge; omega)
  · have e1 : (Int.ofNat l.length != Int.ofNat k.length) = true := by simp; omega
    rw [e1, cond_true, decide_eq_false (fun h => e (by rw [h]))]
theorem equal_eq (x y : Ou) (h1 : x.1.length ≤ 1000000000) (h2 : x.2.1.length ≤ 1000000000) : ref40_Equal x y = some (decide (x.1 = y.1) && decide (x.2.1 = y.2.1), ()) := by
  obtain ⟨a, b, u⟩ := x
  obtain ⟨c, d, u'⟩ := y
  unfold ref40_Equal
  rw [sameRows_eq a c h1, sameRecs_eq b d h2]
  cases decide (a = c) <;> rfl
theorem great_s (x : Ou) : ∃ b, ref40_Great x = some (b, ()) ∧ (b = false → x.1.length ≤ 4010 ∧ x.2.1.length ≤ 4010) := by
  have e1 : decide (Int.ofNat (List.length x.1) > 4010) = decide (x.1.length > 4010) := by
    rw [decide_eq_decide]; simp; omega
  have e2 : decide (Int.ofNat (List.length x.2.1) > 4010) = decide (x.2.1.length > 4010) := by
    rw [decide_eq_decide]; simp; omega
  unfold ref40_Great
  rw [e1, e2]
  by_cases h1 : x.1.length > 4010
  · refine ⟨true, ?_, fun h => by cases h⟩
    rw [decide_eq_true h1]
    cases decide (Int.ofNat (List.length x.1) > 100) <;> cases decide (Int.ofNat (List.length x.1) ≤ 4000) <;> rfl
  · rw [decide_eq_false h1]
    by_cases h2 : x.2.1.length > 4010
    · refine ⟨true, ?_, fun h => by cases h⟩
      rw [decide_eq_true h2]
      cases decide (Int.ofNat (List.length x.1) > 100) <;> cases decide (Int.ofNat (List.length x.1) ≤ 4000) <;> cases decide (Int.ofNat (List.length x.2.1) > 100) <;> cases decide (Int.ofNat (List.length x.2.1) ≤ 4000) <;> rfl
    · rw [decide_eq_false h2]
      cases decide (Int.ofNat (List.length x.1) > 100) <;> cases decide (Int.ofNat (List.length x.1) ≤ 4000) <;> cases decide (Int.ofNat (List.length x.2.1) > 100) <;> cases decide (Int.ofNat (List.length x.2.1) ≤ 4000) <;> exact ⟨_, rfl, fun _ => ⟨by omega, by omega⟩⟩
theorem foldR_ok : ∀ (l : List (List UInt8)) (x : Ou) (k : Nat), (∀ w ∈ l, w.length ≤ 1000000000) → okO x k → ∀ y, foldR l x = some y → okO y (k + l.length)
  | [], x, k, hw, h, y, hy => by
    obtain rfl := Option.some.inj hy
    exact h
  | w :: l, x, k, hw, h, y, hy => by
    rw [foldR] at hy
    obtain ⟨_, _, hr⟩ := rd_s w (hw w (by simp))
    rcases hr with hr | ⟨m, hr, hm, _⟩
    · rw [hr] at hy
      cases hy
    · rw [hr] at hy
      have := foldR_ok l (addM m x) (k + 1) (fun u hu => hw u (by simp [hu])) (addM_ok hm h) y hy
      rw [show k + (w :: l).length = k + 1 + l.length by simp; omega]
      exact this
theorem readO_len (s : List UInt8) (hs : s.length ≤ 1000000) : okO (readO s (splitF 10 s).dropLast ([], [], ())).1 2000000 := by
  have hlen := splitF_len 10 s
  unfold readO
  cases hf : foldR (splitF 10 s).dropLast ([], [], ()) with
  | none => exact ⟨rfl, rfl, by simp [badO], by simp [badO]⟩
  | some y =>
    have hy := foldR_ok _ _ 0 (fun w hw => by have := hlen.2 w (List.dropLast_subset _ hw); omega) (show okO ([], [], ()) 0 from ⟨rfl, rfl, by simp, by simp⟩) y hf
    have hl : 0 + (splitF 10 s).dropLast.length ≤ 2000000 := by rw [List.length_dropLast]; omega
    simp only [finO]
    cases (outP y).2.1 != 0 with
    | true => exact ⟨rfl, rfl, by simp [badO], by simp [badO]⟩
    | false =>
      cases (outP y).1 == s with
      | false => exact ⟨rfl, rfl, by simp [badO], by simp [badO]⟩
      | true => exact ⟨hy.1, hy.2.1, Nat.le_trans hy.2.2.1 hl, Nat.le_trans hy.2.2.2 hl⟩
theorem outputs_true (x : Ou) (s : List UInt8) (h1 : x.1.all rowIn = true) (h2 : x.2.1.all recIn = true) : law45_LinesOutputs x s = some (true, ()) := by
  obtain ⟨b, hg, hb⟩ := great_s x
  unfold law45_LinesOutputs
  rw [hg]
  cases b with
  | true => rfl
  | false =>
    obtain ⟨l1, l2⟩ := hb rfl
    simp only [cond_false]
    by_cases hs : s.length > 1000
    · rw [decide_eq_true (show Int.ofNat s.length > 1000 by simp; omega)]
      rfl
    · rw [decide_eq_false (show ¬ Int.ofNat s.length > 1000 by simp; omega)]
      obtain ⟨r1, r2⟩ := ro_same s (by omega)
      have hl := readO_len s (by omega)
      rw [louts_eq x h1 h2 (by omega) (by omega), routs_eq x h1 h2 (by omega) (by omega), r1, r2]
      simp only [cond_false, beq_self_eq_true, cond_true]
      rw [equal_eq _ _ (by have := hl.2.2.1; omega) (by have := hl.2.2.2; omega)]
      simp
/-! what is known of arguments -/
open Go.Abs in
theorem wf64 {n : Int} (h : (Lit.int .i64 n).wf = true) : in64 n = true := by
  simp only [Lit.wf, Bool.and_eq_true, decide_eq_true_eq] at h
  exact in64_i h.1 h.2
end Tg
