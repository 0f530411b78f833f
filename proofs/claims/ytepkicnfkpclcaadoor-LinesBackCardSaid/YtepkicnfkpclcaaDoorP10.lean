import Derived.Test.YtepkicnfkpclcaaDoorP
/- Picks as texts, told plainly. -/
set_option linter.unusedVariables false
set_option linter.unusedSimpArgs false
namespace Tg
open Go
open Go.Abs (fuel bigOk)
abbrev Pk := Int × Int × Unit
def pickIn (p : Pk) : Bool := in64 p.1 && in64 p.2.1
def pickOk (p : Pk) : Bool := decide (0 ≤ p.1) && (decide (p.1 < 20) && (decide (-1 ≤ p.2.1) && decide (p.2.1 < 4)))
def pickT (p : Pk) : List UInt8 := itoaF p.1 ++ bif decide (0 ≤ p.2.1) then 46 :: itoaF p.2.1 else []
def chkP (l : List Pk) : Int := bif decide (l.length > 2000) then 4 else bif l.all pickOk then 0 else 2
theorem pick_eq {p : Pk} (h : pickIn p = true) : lines_pick p = some (pickT p, ()) := by
  simp only [pickIn, Bool.and_eq_true] at h
  have l1 := itoaF_len h.1
  have l2 := itoaF_len h.2
  unfold lines_pick pickT strconv_Itoa
  rw [h.1, h.2]
  simp only [cond_true]
  rw [show decide (p.2.1 ≥ 0) = decide (0 ≤ p.2.1) from rfl, decide_eq_true (show 1 + List.length (itoaF p.2.1) ≤ 9223372036854775807 by omega), decide_eq_true (show List.length (itoaF p.1) + List.length ([(46 : UInt8)] ++ itoaF p.2.1) ≤ 9223372036854775807 by simp; omega)]
  cases decide (0 ≤ p.2.1) with
  | true => rfl
  | false => simp
theorem pickOk_in {p : Pk} (h : pickOk p = true) : pickIn p = true := by
  simp only [pickOk, Bool.and_eq_true, decide_eq_true_eq] at h
  simp only [pickIn, Bool.and_eq_true]
  exact ⟨in64_i (by omega) (by omega), in64_i (by omega) (by omega)⟩
theorem pickT_len {p : Pk} (h : pickIn p = true) : (pickT p).length ≤ 50 := by
  simp only [pickIn, Bool.and_eq_true] at h
  have l1 := itoaF_len h.1
  have l2 := itoaF_len h.2
  unfold pickT
  cases decide (0 ≤ p.2.1) <;> simp <;> omega
theorem rchk6 (l : List Pk) (hl : l.length ≤ 1000000000) : ∀ (rest : List Pk) (i n : Nat), l.drop i = rest → i ≤ l.length → rest.length + 2 ≤ n → ref37_Check_i6 n l (i : Int) = some (bif rest.all pickOk then 0 else 2, ())
  | [], i, n, h, hi, hn => by
    obtain ⟨m, rfl⟩ : ∃ m, n = m + 1 := ⟨n - 1, by simp at hn; omega⟩
    have := drop_end h hi
    rw [ref37_Check_i6]
    unfold ref37_Check_c6
    simp only [Int.ofNat_eq_natCast, iG (show ¬ i < l.length by omega), cond_false, List.all_nil, cond_true]
  | p :: rest, i, n, h, hi, hn => by
    obtain ⟨m, rfl⟩ : ∃ m, n = m + 1 := ⟨n - 1, by simp at hn; omega⟩
    obtain ⟨h1, h2, h3⟩ := drop_get h
    rw [ref37_Check_i6]
    unfold ref37_Check_c6
    simp only [Int.ofNat_eq_natCast, iL h1, cond_true, iN, Int.toNat_natCast, h2, wS (show i < 1000000000000 by omega), List.all_cons]
    rw [rchk6 l hl rest (i + 1) m h3 (by omega) (by simp at hn; omega)]
    have e1 : decide (p.1 < 0) = !decide (0 ≤ p.1) := by rw [Bool.eq_iff_iff]; simp
    have e2 : decide (p.1 ≥ 20) = !decide (p.1 < 20) := by rw [Bool.eq_iff_iff]; simp
    have e3 : decide (p.2.1 < -1) = !decide (-1 ≤ p.2.1) := by rw [Bool.eq_iff_iff]; simp
    have e4 : decide (p.2.1 ≥ 4) = !decide (p.2.1 < 4) := by rw [Bool.eq_iff_iff]; simp
    rw [e1, e2, e3, e4]
    unfold pickOk
    cases decide (0 ≤ p.1) <;> cases decide (p.1 < 20) <;> cases decide (-1 ≤ p.2.1) <;> cases decide (p.2.1 < 4) <;> rfl
theorem rchk_eq (l : List Pk) (hl : l.length ≤ 1000000000) : ref37_Check l = some (chkP l, ()) := by
  have e : decide (Int.ofNat l.length > 2000) = decide (l.length > 2000) := by
    rw [decide_eq_decide]; simp; omega
  unfold ref37_Check ref37_Check_c chkP
  rw [e]
  cases decide (l.length > 2000) with
  | true => rfl
  | false => exact rchk6 l hl l 0 fuel rfl (by omega) (by have := fuel_ge; omega)
theorem pchk13 (l : List Pk) (hl : l.length ≤ 1000000000) : ∀ (rest : List Pk) (i n : Nat), l.drop i = rest → i ≤ l.length → rest.length + 2 ≤ n → run_Check_i13 n l (l.length : Int) (i : Int) = some (bif rest.all pickOk then 0 else 2, ())
  | [], i, n, h, hi, hn => by
    obtain ⟨m, rfl⟩ : ∃ m, n = m + 1 := ⟨n - 1, by simp at hn; omega⟩
    have := drop_end h hi
    rw [run_Check_i13]
    unfold run_Check_c13
    simp only [iG (show ¬ i < l.length by omega), cond_false, List.all_nil, cond_true]
  | p :: rest, i, n, h, hi, hn => by
    obtain ⟨m, rfl⟩ : ∃ m, n = m + 1 := ⟨n - 1, by simp at hn; omega⟩
    obtain ⟨h1, h2, h3⟩ := drop_get h
    rw [run_Check_i13]
    unfold run_Check_c13
    have e0 : decide ((i : Int) ≥ 0) = true := decide_eq_true (by omega)
    simp only [iL h1, cond_true, iN, Int.toNat_natCast, h2, wS (show i < 1000000000000 by omega), List.all_cons, e0]
    rw [pchk13 l hl rest (i + 1) m h3 (by omega) (by simp at hn; omega)]
    have e1 : decide (p.1 < 0) = !decide (0 ≤ p.1) := by rw [Bool.eq_iff_iff]; simp
    have e2 : decide (p.1 ≥ 20) = !decide (p.1 < 20) := by rw [Bool.eq_iff_iff]; simp
    have e3 : decide (p.2.1 < -1) = !decide (-1 ≤ p.2.1) := by rw [Bool.eq_iff_iff]; simp
    have e4 : decide (p.2.1 ≥ 4) = !decide (p.2.1 < 4) := by rw [Bool.eq_iff_iff]; simp
    rw [e1, e2, e3, e4]
    unfold pickOk
    cases decide (0 ≤ p.1) <;> cases decide (p.1 < 20) <;> cases decide (-1 ≤ p.2.1) <;> cases decide (p.2.1 < 4) <;> rfl
theorem pchk_eq (l : List Pk) (hl : l.length ≤ 1000000000) : run_Check l = some (chkP l, ()) := by
  have e : decide (Int.ofNat l.length > 2000) = decide (l.length > 2000) := by
    rw [decide_eq_decide]; simp; omega
  unfold run_Check run_Check_c chkP
  rw [e]
  cases decide (l.length > 2000) with
  | true => rfl
  | false => exact pchk13 l hl l 0 fuel rfl (by omega) (by have := fuel_ge; omega)
theorem chkP_ok {l : List Pk} (h : chkP l = 0) : l.length ≤ 2000 ∧ l.all pickOk = true := by
  unfold chkP at h
  by_cases h1 : l.length > 2000
  · rw [decide_eq_true h1] at h
    cases h
  · rw [decide_eq_false h1] at h
    cases h2 : l.all pickOk with
    | true => exact ⟨by omega, rfl⟩
    | false => rw [h2] at h; cases h
theorem chkP_of {l : List Pk} (h1 : l.length ≤ 2000) (h2 : l.all pickOk = true) : chkP l = 0 := by
  unfold chkP
  rw [decide_eq_false (show ¬ l.length > 2000 by omega), h2]
  rfl
/-! a script's text -/
def scriptT (l : List Pk) : List UInt8 := joinF [32] (l.map fun p => (pickT p, ()))
theorem script9 (l : List Pk) (hl : l.length ≤ 2000) (hok : l.all pickOk = true) : ∀ (rest : List Pk) (i n : Nat) (done : List (List UInt8 × Unit)), l.drop i = rest → i ≤ l.length → rest.length + 2 ≤ n → done.length = i →
    lines_Script_i9 n (done ++ List.replicate rest.length ([], ())) l (l.length : Int) (i : Int) = match strings_Join (done ++ rest.map fun p => (pickT p, ())) [32] with | none => none | some e0 => some (e0.1, 0, ())
  | [], i, n, done, h, hi, hn, hd => by
    obtain ⟨m, rfl⟩ : ∃ m, n = m + 1 := ⟨n - 1, by simp at hn; omega⟩
    have := drop_end h hi
    rw [lines_Script_i9]
    unfold lines_Script_c9
    simp only [iG (show ¬ i < l.length by omega), cond_false, List.length_nil, List.replicate_zero, List.map_nil]
    rfl
  | p :: rest, i, n, done, h, hi, hn, hd => by
    obtain ⟨m, rfl⟩ : ∃ m, n = m + 1 := ⟨n - 1, by simp at hn; omega⟩
    obtain ⟨h1, h2, h3⟩ := drop_get h
    have hp := pick_eq (pickOk_in (List.all_eq_true.1 hok p (List.mem_of_getElem? h2)))
    have hg : (done ++ List.replicate (p :: rest).length (([] : List UInt8), ()))[i]? = some ([], ()) := by
      rw [List.getElem?_append_right (by omega), hd, Nat.sub_self]
      rfl
    have hs : (done ++ List.replicate (p :: rest).length (([] : List UInt8), ())).set i (pickT p, ()) = (done ++ [(pickT p, ())]) ++ List.replicate rest.length ([], ()) := by
      rw [List.set_append_right _ _ (by omega), hd, Nat.sub_self]
      simp [List.replicate_succ]
    rw [lines_Script_i9]
    unfold lines_Script_c9
    rw [iL h1, cond_true, iN, cond_true, Int.toNat_natCast, h2]
    simp only [hp, cond_true]
    rw [decide_eq_true (show i < (done ++ List.replicate (p :: rest).length (([] : List UInt8), ())).length by simp; omega), hg]
    simp only [cond_true, hs, wS (show i < 1000000000000 by omega)]
    rw [script9 l hl hok rest (i + 1) m (done ++ [(pickT p, ())]) h3 (by omega) (by simp at hn; omega) (by simp [hd])]
    simp
theorem joinF_len (l : List (List UInt8 × Unit)) (k : Nat) (h : ∀ w ∈ l, w.1.length ≤ k) : (joinF [32] l).length ≤ (k + 1) * l.length := by
  induction l with
  | nil => simp [joinF]
  | cons w l ih =>
    have h1 := h w (by simp)
    have h2 := ih fun v hv => h v (by simp [hv])
    cases l with
    | nil =>
      simp only [joinF, List.length_cons, List.length_nil]
      omega
    | cons v l =>
      rw [show joinF [32] (w :: v :: l) = w.1 ++ ([32] ++ joinF [32] (v :: l)) from rfl]
      simp only [List.length_append, List.length_cons, List.length_nil, Nat.mul_succ] at h2 ⊢
      omega
theorem script_eq (l : List Pk) (hl : l.length ≤ 1000000000) : lines_Script l = some (bif chkP l != 0 then ([], chkP l, ()) else (scriptT l, 0, ())) := by
  unfold lines_Script lines_Script_c
  rw [pchk_eq l hl]
  simp only
  by_cases hc : chkP l = 0
  · obtain ⟨h1, h2⟩ := chkP_ok hc
    rw [hc]
    have e0 : ((0 : Int) != 0) = false := rfl
    simp only [e0, cond_false]
    rw [decide_eq_true (show 16 * Int.toNat (Int.ofNat (List.length l)) ≤ 281474976710656 by simp; omega), decide_eq_true (show Int.toNat (Int.ofNat (List.length l)) ≤ 9223372036854775807 by simp; omega), decide_eq_true (Nat.le_refl _)]
    simp only [Bool.and_self, cond_true]
    have hs := script9 l h1 h2 l 0 fuel [] rfl (by omega) (by have := fuel_ge; omega) rfl
    rw [List.nil_append, List.nil_append] at hs
    have hj : strings_Join (l.map fun p => (pickT p, ())) [32] = some (scriptT l, ()) := by
      have hb := joinF_len (l.map fun p => (pickT p, ())) 50 fun w hw => by
        obtain ⟨p, hp, rfl⟩ := List.mem_map.1 hw
        exact pickT_len (pickOk_in (List.all_eq_true.1 h2 p hp))
      rw [List.length_map] at hb
      unfold strings_Join
      rw [decide_eq_true (show (joinF [32] (l.map fun p => (pickT p, ()))).length ≤ 140737488355328 by omega), decide_eq_true (show (l.map fun p => (pickT p, ())).length ≤ 140737488355328 by rw [List.length_map]; omega)]
      rfl
    rw [hj] at hs
    exact hs
  · have e0 : (chkP l != 0) = true := by simpa using hc
    rw [e0]
    rfl
/-! a script read -/
def rdP (w : List UInt8) : Option Pk := match Lib.atoiAll (cutF 46 w).1 with
  | .ok a => bif (cutF 46 w).2.2.1 then (match Lib.atoiAll (cutF 46 w).2.1 with
    | .ok b => bif pickT (a, b, ()) == w then some (a, b, ()) else none
    | _ => none)
    else bif pickT (a, -1, ()) == w then some (a, -1, ()) else none
  | _ => none
theorem atoi_eq : ∀ (M acc : Nat) (l : List UInt8), Lib.parseUintM 18446744073709551615 acc l = Lib.parseUint10 acc l
  | M, acc, [] => rfl
  | M, acc, c :: l => by
    unfold Lib.parseUintM Lib.parseUint10
    split
    · split
      · rfl
      · by_cases h : 18446744073709551616 ≤ acc * 10 + (c.toNat - 48)
        · rw [if_pos h, if_pos (by omega)]
        · rw [if_neg h, if_neg (by omega)]
          exact atoi_eq M _ l
    · rfl
theorem atoi_parse (l : List UInt8) : Lib.atoiAll l = Lib.parseIntB 64 l := by
  unfold Lib.atoiAll Lib.parseIntB
  cases l with
  | nil => rfl
  | cons c r =>
    have e : ∀ q, Lib.parseMag q = Lib.parseUintB 64 q := fun q => by
      unfold Lib.parseMag Lib.parseUintB
      split
      · rfl
      · exact (atoi_eq 0 0 q).symm
    simp only [e]
    rfl
theorem atoi_in {w : List UInt8} {v : Int} (h : Lib.atoiAll w = .ok v) : in64 v = true := parse_in (by rw [← atoi_parse]; exact h)
theorem atoi_itoa {v : Int} (h : in64 v = true) : Lib.atoiAll (itoaF v) = .ok v := by
  obtain ⟨h0, h1⟩ := in64_s h
  rw [atoi_parse, itoaF_eq h0 h1]
  exact parse_itoa h0 h1
theorem rdP_s {w : List UInt8} {p : Pk} (h : rdP w = some p) : pickIn p = true ∧ pickT p = w := by
  unfold rdP at h
  split at h
  · rename_i a ha
    cases hc : (cutF 46 w).2.2.1 with
    | true =>
      rw [hc, cond_true] at h
      split at h
      · rename_i b hb
        cases he : pickT (a, b, ()) == w with
        | true =>
          rw [he, cond_true] at h
          obtain rfl := Option.some.inj h
          exact ⟨by unfold pickIn; rw [atoi_in ha, atoi_in hb]; rfl, eq_of_beq he⟩
        | false => rw [he] at h; cases h
      · cases h
    | false =>
      rw [hc, cond_false] at h
      cases he : pickT (a, -1, ()) == w with
      | true =>
        rw [he, cond_true] at h
        obtain rfl := Option.some.inj h
        exact ⟨by unfold pickIn; rw [atoi_in ha]; rfl, eq_of_beq he⟩
      | false => rw [he] at h; cases h
  · cases h
theorem cut_no (c : UInt8) : ∀ w : List UInt8, c ∉ w → cutF c w = (w, [], false, ())
  | [], _ => rfl
  | b :: w, h => by
    have hb : (b == c) = false := by
      rw [beq_eq_false_iff_ne]
      rintro rfl
      exact h (by simp)
    rw [cutF, hb, cut_no c w fun h' => h (by simp [h'])]
    rfl
theorem cut_at (c : UInt8) : ∀ (w r : List UInt8), c ∉ w → cutF c (w ++ c :: r) = (w, r, true, ())
  | [], r, _ => by simp [cutF]
  | b :: w, r, h => by
    have hb : (b == c) = false := by
      rw [beq_eq_false_iff_ne]
      rintro rfl
      exact h (by simp)
    rw [List.cons_append, cutF, hb, cut_at c w r fun h' => h (by simp [h'])]
    rfl
theorem rdP_c {p : Pk} (h : pickOk p = true) : rdP (pickT p) = some p := by
  have hi := pickOk_in h
  simp only [pickIn, Bool.and_eq_true] at hi
  simp only [pickOk, Bool.and_eq_true, decide_eq_true_eq] at h
  have n1 : (46 : UInt8) ∉ itoaF p.1 := itoaF_no hi.1 (by unfold isD; decide) (by decide)
  obtain ⟨a, b, u⟩ := p
  by_cases hb : 0 ≤ b
  · have e : pickT (a, b, ()) = itoaF a ++ 46 :: itoaF b := by
      unfold pickT
      rw [decide_eq_true hb]
      rfl
    unfold rdP
    rw [e, cut_at 46 _ _ n1]
    simp only [atoi_itoa hi.1, atoi_itoa hi.2, cond_true, e, beq_self_eq_true]
  · have hb1 : b = -1 := by
      have := h.2.2.1
      have : -1 ≤ b := this
      omega
    subst hb1
    have e : pickT (a, -1, ()) = itoaF a := by
      unfold pickT
      simp
    unfold rdP
    rw [e, cut_no 46 _ n1]
    simp only [atoi_itoa hi.1, cond_false, e, beq_self_eq_true, cond_true]
abbrev Rs := List Pk × Int × Unit
def badS : Rs := ([], 12, ())
def readS : List (List UInt8) → List Pk → Rs
  | [], x => bif chkP x != 0 then badS else (x, 0, ())
  | w :: ws, x => match rdP w with
    | none => badS
    | some p => readS ws (x ++ [p])
theorem step64 (m : Nat) (x : List Pk) (w : List UInt8) (a b : Int) (hi : pickIn (a, b, ()) = true) (hx : x.length ≤ 100000000) : lines_ReadScript_i64 (m + 1) x w a b = some (bif pickT (a, b, ()) == w then readS [] (x ++ [(a, b, ())]) else badS) := by
  rw [lines_ReadScript_i64]
  unfold lines_ReadScript_c64
  rw [pick_eq hi]
  simp only
  cases hb : pickT (a, b, ()) == w with
  | false => rfl
  | true =>
    simp only [Bool.not_true, cond_false, cond_true]
    rw [big9 (by simp; omega) (by decide), cond_true, pchk_eq _ (by simp; omega)]
    simp only [readS]
    cases chkP (x ++ [(a, b, ())]) != 0 <;> rfl
theorem cutF_len (c : UInt8) : ∀ w : List UInt8, (cutF c w).1.length ≤ w.length ∧ (cutF c w).2.1.length ≤ w.length
  | [] => by simp [cutF]
  | b :: w => by
    have ih := cutF_len c w
    unfold cutF
    cases b == c with
    | true => simp
    | false =>
      simp only [cond_false]
      exact ⟨by simp; omega, by simp; omega⟩
theorem step25 (m : Nat) (x : List Pk) (w : List UInt8) (hw : w.length ≤ 1000000000) (hx : x.length ≤ 100000000) : lines_ReadScript_i25 (m + 1 + 1) w x = some (readS [w] x) := by
  have hl := cutF_len 46 w
  rw [lines_ReadScript_i25]
  unfold lines_ReadScript_c25 strings_Cut readS rdP strconv_Atoi
  simp only
  rw [decide_eq_true (show w.length < 4294967281 by omega)]
  simp only [cond_true]
  rw [decide_eq_true (show (cutF 46 w).1.length ≤ 281474976710656 by omega), decide_eq_true (show (cutF 46 w).2.1.length ≤ 281474976710656 by omega)]
  simp only [cond_true]
  cases ha : Lib.atoiAll (cutF 46 w).1
  case range => rfl
  case ok a =>
    simp only [cond_false]
    cases (cutF 46 w).2.2.1 with
    | false =>
      simp only [cond_false]
      rw [step64 m x w a (-1) (by unfold pickIn; rw [atoi_in ha]; rfl) hx]
      cases pickT (a, -1, ()) == w <;> rfl
    | true =>
      simp only [cond_true]
      cases hb : Lib.atoiAll (cutF 46 w).2.1
      case range => rfl
      case ok b =>
        simp only [cond_false]
        rw [step64 m x w a b (by unfold pickIn; rw [atoi_in ha, atoi_in hb]; rfl) hx]
        cases pickT (a, b, ()) == w <;> rfl
      rfl
  rfl
theorem step44 (m : Nat) (x : List Pk) (w t : List UInt8) (i : Nat) (a b : Int) (hi : pickIn (a, b, ()) = true) (hx : x.length ≤ 100000000) (hit : i < t.length) (ht : t.length ≤ 1000000000) (rest : List (List UInt8))
    (ih : ∀ y : List Pk, y.length = x.length + 1 → lines_ReadScript_i26 m [32] (t.drop (i + 1)) 0 y = some (readS rest y)) : lines_ReadScript_i44 (m + 1) x w a b [32] t 0 (i : Int) = some (bif pickT (a, b, ()) == w then readS rest (x ++ [(a, b, ())]) else badS) := by
  rw [lines_ReadScript_i44]
  unfold lines_ReadScript_c44
  rw [pick_eq hi]
  simp only
  cases hb : pickT (a, b, ()) == w with
  | false => rfl
  | true =>
    have e : (i : Int) + Int.ofNat (List.length [(32 : UInt8)]) = (i : Int) + 1 := rfl
    simp only [Bool.not_true, cond_false, cond_true, e, wS (show i < 1000000000000 by omega), iN, Int.toNat_natCast, decide_eq_true (show i + 1 ≤ t.length by omega), List.take_length]
    rw [big9 (by simp; omega) (by decide), cond_true]
    exact ih _ (by simp)
theorem step26 (N : Nat) : ∀ (t : List UInt8) (n : Nat) (x : List Pk), t.length ≤ N → t.length + x.length ≤ 90000000 → 2 * t.length + 8 ≤ n → lines_ReadScript_i26 n [32] t 0 x = some (readS (splitF 32 t) x) := by
  induction N with
  | zero =>
    intro t n x hN hx hn
    obtain rfl : t = [] := List.length_eq_zero_iff.1 (by omega)
    obtain ⟨m, rfl⟩ : ∃ m, n = m + 1 + 1 + 1 := ⟨n - 3, by omega⟩
    rw [lines_ReadScript_i26]
    exact step25 m x [] (by simp) (by omega)
  | succ N ihN =>
    intro t n x hN hx hn
    obtain ⟨m, rfl⟩ : ∃ m, n = m + 1 + 1 + 1 := ⟨n - 3, by omega⟩
    rw [lines_ReadScript_i26]
    unfold lines_ReadScript_c26 strings_Index
    simp only
    by_cases e : Lib.indexByte t 32 = -1
    · rw [e, splitF_miss 32 t e]
      have en : decide ((-1 : Int) < 0) = true := rfl
      rw [en, cond_true]
      exact step25 m x t (by omega) (by omega)
    · have hge := Lib.indexByte_ge t 32
      obtain ⟨i, hi⟩ : ∃ i : Nat, Lib.indexByte t 32 = i := ⟨(Lib.indexByte t 32).toNat, by omega⟩
      obtain ⟨r, g1, g2, g3⟩ := idx_at 32 t i hi
      have hil : i < t.length := by
        have := congrArg List.length g1
        rw [List.length_append, List.length_take] at this
        simp at this
        omega
      have hl := cutF_len 46 (t.take i)
      rw [List.length_take] at hl
      have ew : Go.IntKind.wrap Go.IntKind.i64 ((i : Int) + 0) = (i : Int) := by rw [w64 (by omega) (by omega)]; omega
      rw [hi, decide_eq_false (show ¬ (i : Int) < 0 by omega), splitF_hit 32 t i hi]
      simp only [cond_false, ew, iN, cond_true, Int.toNat_natCast, Nat.zero_le, decide_true, decide_eq_true (show i ≤ t.length by omega), Bool.and_self, List.drop_zero]
      unfold strings_Cut strconv_Atoi
      simp only
      rw [decide_eq_true (show (t.take i).length < 4294967281 by rw [List.length_take]; omega)]
      simp only [cond_true]
      rw [decide_eq_true (show (cutF 46 (t.take i)).1.length ≤ 281474976710656 by omega), decide_eq_true (show (cutF 46 (t.take i)).2.1.length ≤ 281474976710656 by omega)]
      have ih : ∀ y : List Pk, y.length = x.length + 1 → lines_ReadScript_i26 (m + 1) [32] (t.drop (i + 1)) 0 y = some (readS (splitF 32 (t.drop (i + 1))) y) := fun y hy =>
        ihN (t.drop (i + 1)) (m + 1) y (by rw [List.length_drop]; omega) (by rw [List.length_drop, hy]; omega) (by rw [List.length_drop]; omega)
      rw [readS]
      unfold rdP
      simp only [cond_true]
      cases ha : Lib.atoiAll (cutF 46 (t.take i)).1
      case range => rfl
      case ok a =>
        simp only [cond_false]
        cases (cutF 46 (t.take i)).2.2.1 with
        | false =>
          simp only [cond_false]
          rw [step44 (m + 1) x (t.take i) t i a (-1) (by unfold pickIn; rw [atoi_in ha]; rfl) (by omega) hil (by omega) _ ih]
          cases pickT (a, -1, ()) == t.take i <;> rfl
        | true =>
          simp only [cond_true]
          cases hb : Lib.atoiAll (cutF 46 (t.take i)).2.1
          case range => rfl
          case ok b =>
            simp only [cond_false]
            rw [step44 (m + 1) x (t.take i) t i a b (by unfold pickIn; rw [atoi_in ha, atoi_in hb]; rfl) (by omega) hil (by omega) _ ih]
            cases pickT (a, b, ()) == t.take i <;> rfl
          rfl
      rfl
theorem rscript_eq (s : List UInt8) (hs : s.length ≤ 1000000) : lines_ReadScript s = some (bif s == [] then ([], 0, ()) else readS (splitF 32 s) []) := by
  unfold lines_ReadScript lines_ReadScript_c
  cases s == [] with
  | true => rfl
  | false => exact step26 s.length s fuel [] (Nat.le_refl _) (by simp; omega) (by have := fuel_ge; omega)
end Tg
