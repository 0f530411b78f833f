import Derived.Test.YtodnlpaialbceaaGreatDoorQS
import Derived.Test.YtodnlpaialbceaaGreatDoorlpA
/- Plain laws of the texts: what is read, and what is written. -/
set_option linter.unusedVariables false
set_option linter.unusedSimpArgs false
namespace Tg
open Go
open Go.Abs (fuel bigOk cloned tmm dropD)
theorem fuel_ge : 1000000000000 ≤ fuel := by unfold fuel; decide
theorem in64_i {n : Int} (h0 : -9223372036854775808 ≤ n) (h1 : n ≤ 9223372036854775807) : in64 n = true := by
 simp [in64, h0, h1]
theorem dec_step {u : Nat} (h : ¬ u < 10) : Lib.decDigits u = Lib.decDigits (u / 10) ++ [UInt8.ofNat (48 + u % 10)] := by
 rw [Lib.decDigits, dif_neg h]
theorem dec_len (u : Nat) : 1 ≤ (Lib.decDigits u).length := by
 rw [Lib.decDigits]
 split <;> simp
def dStep (a : Nat) (b : UInt8) : Nat := a * 10 + (b.toNat - 48)
def valD (acc : Nat) (l : List UInt8) : Nat := l.foldl dStep acc
theorem valD_nil (acc : Nat) : valD acc [] = acc := rfl
theorem valD_cons (acc : Nat) (b : UInt8) (l : List UInt8) : valD acc (b :: l) = valD (acc * 10 + (b.toNat - 48)) l := by
 unfold valD
 rw [List.foldl_cons, dStep]
def isD (b : UInt8) : Prop := 48 ≤ b.toNat ∧ b.toNat ≤ 57
theorem ofNat_val {k : Nat} (h : k < 10) : (UInt8.ofNat (48 + k)).toNat = 48 + k := by
 rw [UInt8.toNat_ofNat']
 exact Nat.mod_eq_of_lt (by omega)
theorem dec_dig (n : Nat) : ∀ u, u ≤ n → ∀ b ∈ Lib.decDigits u, isD b := by
 induction n with
 | zero =>
  intro u hn b hb
  rw [Lib.decDigits, dif_pos (by omega)] at hb
  obtain rfl := List.mem_singleton.1 hb
  have := ofNat_val (k := u) (by omega)
  unfold isD
  omega
 | succ n ih =>
  intro u hn b hb
  by_cases h : u < 10
  · rw [Lib.decDigits, dif_pos h] at hb
    obtain rfl := List.mem_singleton.1 hb
    have := ofNat_val (k := u) (by omega)
    unfold isD
    omega
  · rw [dec_step h, List.mem_append] at hb
    rcases hb with hb | hb
    · exact ih (u / 10) (by omega) b hb
    · have hb := List.mem_singleton.1 hb
      have h2 := ofNat_val (k := u % 10) (by omega)
      rw [← hb] at h2
      unfold isD
      omega
theorem valD_app (l : List UInt8) (acc : Nat) (b : UInt8) : valD acc (l ++ [b]) = valD acc l * 10 + (b.toNat - 48) := by
 unfold valD
 rw [List.foldl_append]
 rfl
theorem valD_dec (n : Nat) : ∀ u, u ≤ n → valD 0 (Lib.decDigits u) = u := by
 induction n with
 | zero =>
  intro u hn
  rw [Lib.decDigits, dif_pos (by omega), valD_cons, valD_nil, ofNat_val (by omega)]
  omega
 | succ n ih =>
  intro u hn
  by_cases h : u < 10
  · rw [Lib.decDigits, dif_pos h, valD_cons, valD_nil, ofNat_val h]
    omega
  · rw [dec_step h, valD_app, ih (u / 10) (by omega), ofNat_val (Nat.mod_lt _ (by decide))]
    omega
theorem valD_ge : ∀ (l : List UInt8) (acc : Nat), acc ≤ valD acc l
 | [], acc => by rw [valD_nil]; exact Nat.le_refl _
 | b :: l, acc => by
  have := valD_ge l (acc * 10 + (b.toNat - 48))
  rw [valD_cons]
  omega
theorem parse_dig (M : Nat) : ∀ (l : List UInt8) (acc : Nat), (∀ b ∈ l, isD b) → valD acc l ≤ M → M < 18446744073709551616 → Lib.parseUintM M acc l = .ok (valD acc l)
 | [], acc, _, _, _ => by rw [Lib.parseUintM, valD_nil]
 | b :: l, acc, hd, hv, hM => by
  have h1 := hd b (by simp)
  have h2 := valD_ge l (acc * 10 + (b.toNat - 48))
  rw [valD_cons] at hv ⊢
  rw [Lib.parseUintM, if_pos (show 48 ≤ b.toNat ∧ b.toNat ≤ 57 from h1), if_neg (by omega), if_neg (by omega)]
  exact parse_dig M l _ (fun c hc => hd c (by simp [hc])) hv hM
theorem dec_no (u : Nat) (c : UInt8) (hc : ¬ isD c) : c ∉ Lib.decDigits u := fun h => hc (dec_dig u u (Nat.le_refl _) c h)
theorem parse_itoa {n : Int} (h0 : -9223372036854775808 ≤ n) (h1 : n ≤ 9223372036854775807) : Lib.parseIntB 64 (Lib.itoa n) = .ok n := by
 unfold Lib.itoa
 by_cases hn : n < 0
 · rw [if_pos hn]
   unfold Lib.parseIntB
   have e45 : (45 : UInt8).toNat = 45 := rfl
   simp only [e45, or_true, if_true]
   unfold Lib.parseUintB
   have hne : Lib.decDigits n.natAbs ≠ [] := by
    have := dec_len n.natAbs
    intro h
    rw [h] at this
    simp at this
   rw [if_neg hne, parse_dig _ _ _ (dec_dig _ _ (Nat.le_refl _)) (by rw [valD_dec _ _ (Nat.le_refl _)]; omega) (by decide), valD_dec _ _ (Nat.le_refl _)]
   simp only [not_true_eq_false, false_and, if_false, true_and]
   rw [if_neg (by omega)]
   congr 1
   omega
 · rw [if_neg hn]
   have hd := dec_dig n.toNat n.toNat (Nat.le_refl _)
   have hv := valD_dec n.toNat n.toNat (Nat.le_refl _)
   generalize hl : Lib.decDigits n.toNat = l at hd hv
   cases l with
   | nil =>
    have := dec_len n.toNat
    rw [hl] at this
    simp at this
   | cons b l =>
    have hb := hd b (by simp)
    unfold isD at hb
    unfold Lib.parseIntB
    simp only
    rw [if_neg (by omega)]
    unfold Lib.parseUintB
    rw [if_neg (by simp), parse_dig _ _ _ hd (by rw [hv]; omega) (by decide), hv]
    simp only
    rw [if_neg (by omega), if_neg (by omega), if_neg (by omega)]
    congr 1
    omega
theorem big9 {n b : Nat} (hn : n ≤ 2000000000) (hb : b ≤ 1000) : bigOk n b = true := by
 have : n * b ≤ 2000000000 * 1000 := Nat.mul_le_mul hn hb
 simp only [bigOk, Bool.and_eq_true, decide_eq_true_eq]
 exact ⟨by show n * b ≤ 140737488355328; omega, by show n ≤ 9223372036854775807; omega⟩
def splitG (c : UInt8) (w l : List UInt8) : List (List UInt8) := match splitF c l with
 | [] => [w]
 | h :: t => (w ++ h) :: t
theorem splitG_nil (c : UInt8) (w : List UInt8) : splitG c w [] = [w] := by simp [splitG, splitF]
theorem splitG_hit (c : UInt8) (w l : List UInt8) : splitG c w (c :: l) = w :: splitG c [] l := by
 have hne := splitF_ne c l
 unfold splitG
 rw [splitF, beq_self_eq_true]
 simp only [cond_true, List.append_nil]
 cases h : splitF c l with
 | nil => exact absurd h hne
 | cons a b => rfl
theorem splitG_miss {c b : UInt8} (h : (b == c) = false) (w l : List UInt8) : splitG c w (b :: l) = splitG c (w ++ [b]) l := by
 have hne := splitF_ne c l
 unfold splitG
 rw [splitF, h]
 simp only [cond_false]
 cases h2 : splitF c l with
 | nil => exact absurd h2 hne
 | cons x y => simp
theorem splitG_z (c : UInt8) (l : List UInt8) : splitG c [] l = splitF c l := by
 have hne := splitF_ne c l
 unfold splitG
 cases h : splitF c l with
 | nil => exact absurd h hne
 | cons a b => rfl
theorem splitG_word {c : UInt8} : ∀ (w v rest : List UInt8), c ∉ w → splitG c v (w ++ rest) = splitG c (v ++ w) rest
 | [], v, rest, _ => by simp
 | b :: w, v, rest, h => by
  have hb : (b == c) = false := by
   rw [beq_eq_false_iff_ne]
   rintro rfl
   exact h (by simp)
  rw [List.cons_append, splitG_miss hb, splitG_word w _ rest fun h' => h (by simp [h'])]
  simp
theorem itoaF_no {n : Int} (h : in64 n = true) {c : UInt8} (hc : ¬ isD c) (hc2 : c ≠ 45) : c ∉ itoaF n := by
 obtain ⟨h0, h1⟩ := in64_s h
 rw [itoaF_eq h0 h1]
 unfold Lib.itoa
 split
 · rw [List.mem_cons]
   rintro (h | h)
   · exact hc2 h
   · exact dec_no _ c hc h
 · exact dec_no _ c hc
theorem parse_in {w : List UInt8} {v : Int} (h : Lib.parseIntB 64 w = .ok v) : in64 v = true := by
 unfold Lib.parseIntB at h
 cases w with
 | nil => cases h
 | cons c r =>
  simp only at h
  split at h
  · cases h
  · cases h
  · split at h
    · cases h
    · split at h
      · cases h
      · injection h with h
        apply in64_i <;> (split at h <;> omega)
theorem idx_at (c : UInt8) : ∀ (l : List UInt8) (i : Nat), Lib.indexByte l c = i → ∃ r, l = l.take i ++ c :: r ∧ r = l.drop (i + 1) ∧ c ∉ l.take i
 | [], i, h => by
  unfold Lib.indexByte at h
  omega
 | b :: l, i, h => by
  unfold Lib.indexByte at h
  split at h
  · rename_i hb
    have : i = 0 := by omega
    subst this
    exact ⟨l, by rw [eq_of_beq hb]; rfl, rfl, by simp⟩
  · rename_i hb
    split at h
    · omega
    · obtain ⟨k, rfl⟩ : ∃ k, i = k + 1 := ⟨i - 1, by have := Lib.indexByte_ge l c; rename_i h1; have h1 : Lib.indexByte l c ≠ -1 := (by simpa using h1); omega⟩
      obtain ⟨r, h1, h2, h3⟩ := idx_at c l k (by omega)
      refine ⟨r, by rw [List.take_succ_cons, List.cons_append, ← h1], h2, ?_⟩
      rw [List.take_succ_cons, List.mem_cons]
      rintro (h4 | h4)
      · subst h4
        simp at hb
      · exact h3 h4
abbrev Pk := Int × Int × Unit
def pickIn (p : Pk) : Bool := in64 p.1 && in64 p.2.1
def pickOk (p : Pk) : Bool := decide (0 ≤ p.1) && (decide (p.1 < 20) && (decide (-1 ≤ p.2.1) && decide (p.2.1 < 4)))
def pickT (p : Pk) : List UInt8 := itoaF p.1 ++ bif decide (0 ≤ p.2.1) then 46 :: itoaF p.2.1 else []
def chkP (l : List Pk) : Int := bif decide (l.length > 2000) then 4 else bif l.all pickOk then 0 else 2
theorem pick_eq {p : Pk} (h : pickIn p = true) : lines_pick p = some (pickT p, ()) := by
 simp only [pickIn, Bool.and_eq_true] at h
 have l1 := itoaF_len h.1
 have l2 := itoaF_len h.2
 unfold lines_pick pickT strconv_Itoa
 rw [h.1, h.2]
 simp only [cond_true]
 rw [show decide (p.2.1 ≥ 0) = decide (0 ≤ p.2.1) from rfl, decide_eq_true (show 1 + List.length (itoaF p.2.1) ≤ 9223372036854775807 by omega), decide_eq_true (show List.length (itoaF p.1) + List.length ([(46 : UInt8)] ++ itoaF p.2.1) ≤ 9223372036854775807 by simp; omega)]
 cases decide (0 ≤ p.2.1) with
 | true => rfl
 | false => simp
theorem pickOk_in {p : Pk} (h : pickOk p = true) : pickIn p = true := by
 simp only [pickOk, Bool.and_eq_true, decide_eq_true_eq] at h
 simp only [pickIn, Bool.and_eq_true]
 exact ⟨in64_i (by omega) (by omega), in64_i (by omega) (by omega)⟩
theorem pickT_len {p : Pk} (h : pickIn p = true) : (pickT p).length ≤ 50 := by
 simp only [pickIn, Bool.and_eq_true] at h
 have l1 := itoaF_len h.1
 have l2 := itoaF_len h.2
 unfold pickT
 cases decide (0 ≤ p.2.1) <;> simp <;> omega
theorem pchk13 (l : List Pk) (hl : l.length ≤ 1000000000) : ∀ (rest : List Pk) (i n : Nat), l.drop i = rest → i ≤ l.length → rest.length + 2 ≤ n → run_Check_i13 n l (l.length : Int) (i : Int) = some (bif rest.all pickOk then 0 else 2, ())
 | [], i, n, h, hi, hn => by
  obtain ⟨m, rfl⟩ : ∃ m, n = m + 1 := ⟨n - 1, by simp at hn; omega⟩
  have := drop_end h hi
  rw [run_Check_i13]
  unfold run_Check_c13
  simp only [iG (show ¬ i < l.length by omega), cond_false, List.all_nil, cond_true]
 | p :: rest, i, n, h, hi, hn => by
  obtain ⟨m, rfl⟩ : ∃ m, n = m + 1 := ⟨n - 1, by simp at hn; omega⟩
  obtain ⟨h1, h2, h3⟩ := drop_get h
  rw [run_Check_i13]
  unfold run_Check_c13
  have e0 : decide ((i : Int) ≥ 0) = true := decide_eq_true (by omega)
  simp only [iL h1, cond_true, iN, Int.toNat_natCast, h2, wS (show i < 1000000000000 by omega), List.all_cons, e0]
  rw [pchk13 l hl rest (i + 1) m h3 (by omega) (by simp at hn; omega)]
  have e1 : decide (p.1 < 0) = !decide (0 ≤ p.1) := by rw [Bool.eq_iff_iff]; simp
  have e2 : decide (p.1 ≥ 20) = !decide (p.1 < 20) := by rw [Bool.eq_iff_iff]; simp
  have e3 : decide (p.2.1 < -1) = !decide (-1 ≤ p.2.1) := by rw [Bool.eq_iff_iff]; simp
  have e4 : decide (p.2.1 ≥ 4) = !decide (p.2.1 < 4) := by rw [Bool.eq_iff_iff]; simp
  rw [e1, e2, e3, e4]
  unfold pickOk
  cases decide (0 ≤ p.1) <;> cases decide (p.1 < 20) <;> cases decide (-1 ≤ p.2.1) <;> cases decide (p.2.1 < 4) <;> rfl
theorem pchk_eq (l : List Pk) (hl : l.length ≤ 1000000000) : run_Check l = some (chkP l, ()) := by
 have e : decide (Int.ofNat l.length > 2000) = decide (l.length > 2000) := by
  rw [decide_eq_decide]; simp; omega
 unfold run_Check run_Check_c chkP
 rw [e]
 cases decide (l.length > 2000) with
 | true => rfl
 | false => exact pchk13 l hl l 0 fuel rfl (by omega) (by have := fuel_ge; omega)
theorem chkP_ok {l : List Pk} (h : chkP l = 0) : l.length ≤ 2000 ∧ l.all pickOk = true := by
 unfold chkP at h
 by_cases h1 : l.length > 2000
 · rw [decide_eq_true h1] at h
   cases h
 · rw [decide_eq_false h1] at h
   cases h2 : l.all pickOk with
   | true => exact ⟨by omega, rfl⟩
   | false => rw [h2] at h; cases h
def scriptT (l : List Pk) : List UInt8 := joinF [32] (l.map fun p => (pickT p, ()))
theorem script9 (l : List Pk) (hl : l.length ≤ 2000) (hok : l.all pickOk = true) : ∀ (rest : List Pk) (i n : Nat) (done : List (List UInt8 × Unit)), l.drop i = rest → i ≤ l.length → rest.length + 2 ≤ n → done.length = i →
    lines_Script_i9 n (done ++ List.replicate rest.length ([], ())) l (l.length : Int) (i : Int) = match strings_Join (done ++ rest.map fun p => (pickT p, ())) [32] with | none => none | some e0 => some (e0.1, 0, ())
  | [], i, n, done, h, hi, hn, hd => by
   obtain ⟨m, rfl⟩ : ∃ m, n = m + 1 := ⟨n - 1, by simp at hn; omega⟩
   have := drop_end h hi
   rw [lines_Script_i9]
   unfold lines_Script_c9
   simp only [iG (show ¬ i < l.length by omega), cond_false, List.length_nil, List.replicate_zero, List.map_nil]
   rfl
  | p :: rest, i, n, done, h, hi, hn, hd => by
   obtain ⟨m, rfl⟩ : ∃ m, n = m + 1 := ⟨n - 1, by simp at hn; omega⟩
   obtain ⟨h1, h2, h3⟩ := drop_get h
   have hp := pick_eq (pickOk_in (List.all_eq_true.1 hok p (List.mem_of_getElem? h2)))
   have hg : (done ++ List.replicate (p :: rest).length (([] : List UInt8), ()))[i]? = some ([], ()) := by
    rw [List.getElem?_append_right (by omega), hd, Nat.sub_self]
    rfl
   have hs : (done ++ List.replicate (p :: rest).length (([] : List UInt8), ())).set i (pickT p, ()) = (done ++ [(pickT p, ())]) ++ List.replicate rest.length ([], ()) := by
    rw [List.set_append_right _ _ (by omega), hd, Nat.sub_self]
    simp [List.replicate_succ]
   rw [lines_Script_i9]
   unfold lines_Script_c9
   rw [iL h1, cond_true, iN, cond_true, Int.toNat_natCast, h2]
   simp only [hp, cond_true]
   rw [decide_eq_true (show i < (done ++ List.replicate (p :: rest).length (([] : List UInt8), ())).length by simp; omega), hg]
   simp only [cond_true, hs, wS (show i < 1000000000000 by omega)]
   rw [script9 l hl hok rest (i + 1) m (done ++ [(pickT p, ())]) h3 (by omega) (by simp at hn; omega) (by simp [hd])]
   simp
theorem joinF_len (l : List (List UInt8 × Unit)) (k : Nat) (h : ∀ w ∈ l, w.1.length ≤ k) : (joinF [32] l).length ≤ (k + 1) * l.length := by
 induction l with
 | nil => simp [joinF]
 | cons w l ih =>
  have h1 := h w (by simp)
  have h2 := ih fun v hv => h v (by simp [hv])
  cases l with
  | nil =>
   simp only [joinF, List.length_cons, List.length_nil]
   omega
  | cons v l =>
   rw [show joinF [32] (w :: v :: l) = w.1 ++ ([32] ++ joinF [32] (v :: l)) from rfl]
   simp only [List.length_append, List.length_cons, List.length_nil, Nat.mul_succ] at h2 ⊢
   omega
theorem script_eq (l : List Pk) (hl : l.length ≤ 1000000000) : lines_Script l = some (bif chkP l != 0 then ([], chkP l, ()) else (scriptT l, 0, ())) := by
 unfold lines_Script lines_Script_c
 rw [pchk_eq l hl]
 simp only
 by_cases hc : chkP l = 0
 · obtain ⟨h1, h2⟩ := chkP_ok hc
   rw [hc]
   have e0 : ((0 : Int) != 0) = false := rfl
   simp only [e0, cond_false]
   rw [decide_eq_true (show 16 * Int.toNat (Int.ofNat (List.length l)) ≤ 281474976710656 by simp; omega), decide_eq_true (show Int.toNat (Int.ofNat (List.length l)) ≤ 9223372036854775807 by simp; omega), decide_eq_true (Nat.le_refl _)]
   simp only [Bool.and_self, cond_true]
   have hs := script9 l h1 h2 l 0 fuel [] rfl (by omega) (by have := fuel_ge; omega) rfl
   rw [List.nil_append, List.nil_append] at hs
   have hj : strings_Join (l.map fun p => (pickT p, ())) [32] = some (scriptT l, ()) := by
    have hb := joinF_len (l.map fun p => (pickT p, ())) 50 fun w hw => by
     obtain ⟨p, hp, rfl⟩ := List.mem_map.1 hw
     exact pickT_len (pickOk_in (List.all_eq_true.1 h2 p hp))
    rw [List.length_map] at hb
    unfold strings_Join
    rw [decide_eq_true (show (joinF [32] (l.map fun p => (pickT p, ()))).length ≤ 140737488355328 by omega), decide_eq_true (show (l.map fun p => (pickT p, ())).length ≤ 140737488355328 by rw [List.length_map]; omega)]
    rfl
   rw [hj] at hs
   exact hs
 · have e0 : (chkP l != 0) = true := by simpa using hc
   rw [e0]
   rfl
def rdP (w : List UInt8) : Option Pk := match Lib.atoiAll (cutF 46 w).1 with
 | .ok a => bif (cutF 46 w).2.2.1 then (match Lib.atoiAll (cutF 46 w).2.1 with
  | .ok b => bif pickT (a, b, ()) == w then some (a, b, ()) else none
  | _ => none)
  else bif pickT (a, -1, ()) == w then some (a, -1, ()) else none
 | _ => none
theorem atoi_eq : ∀ (M acc : Nat) (l : List UInt8), Lib.parseUintM 18446744073709551615 acc l = Lib.parseUint10 acc l
 | M, acc, [] => rfl
 | M, acc, c :: l => by
  unfold Lib.parseUintM Lib.parseUint10
  split
  · split
    · rfl
    · by_cases h : 18446744073709551616 ≤ acc * 10 + (c.toNat - 48)
      · rw [if_pos h, if_pos (by omega)]
      · rw [if_neg h, if_neg (by omega)]
        exact atoi_eq M _ l
  · rfl
theorem atoi_parse (l : List UInt8) : Lib.atoiAll l = Lib.parseIntB 64 l := by
 unfold Lib.atoiAll Lib.parseIntB
 cases l with
 | nil => rfl
 | cons c r =>
  have e : ∀ q, Lib.parseMag q = Lib.parseUintB 64 q := fun q => by
   unfold Lib.parseMag Lib.parseUintB
   split
   · rfl
   · exact (atoi_eq 0 0 q).symm
  simp only [e]
  rfl
theorem atoi_in {w : List UInt8} {v : Int} (h : Lib.atoiAll w = .ok v) : in64 v = true := parse_in (by rw [← atoi_parse]; exact h)
theorem atoi_itoa {v : Int} (h : in64 v = true) : Lib.atoiAll (itoaF v) = .ok v := by
 obtain ⟨h0, h1⟩ := in64_s h
 rw [atoi_parse, itoaF_eq h0 h1]
 exact parse_itoa h0 h1
theorem cut_no (c : UInt8) : ∀ w : List UInt8, c ∉ w → cutF c w = (w, [], false, ())
 | [], _ => rfl
 | b :: w, h => by
  have hb : (b == c) = false := by
   rw [beq_eq_false_iff_ne]
   rintro rfl
   exact h (by simp)
  rw [cutF, hb, cut_no c w fun h' => h (by simp [h'])]
  rfl
theorem cut_at (c : UInt8) : ∀ (w r : List UInt8), c ∉ w → cutF c (w ++ c :: r) = (w, r, true, ())
 | [], r, _ => by simp [cutF]
 | b :: w, r, h => by
  have hb : (b == c) = false := by
   rw [beq_eq_false_iff_ne]
   rintro rfl
   exact h (by simp)
  rw [List.cons_append, cutF, hb, cut_at c w r fun h' => h (by simp [h'])]
  rfl
theorem rdP_c {p : Pk} (h : pickOk p = true) : rdP (pickT p) = some p := by
 have hi := pickOk_in h
 simp only [pickIn, Bool.and_eq_true] at hi
 simp only [pickOk, Bool.and_eq_true, decide_eq_true_eq] at h
 have n1 : (46 : UInt8) ∉ itoaF p.1 := itoaF_no hi.1 (by unfold isD; decide) (by decide)
 obtain ⟨a, b, u⟩ := p
 by_cases hb : 0 ≤ b
 · have e : pickT (a, b, ()) = itoaF a ++ 46 :: itoaF b := by
    unfold pickT
    rw [decide_eq_true hb]
    rfl
   unfold rdP
   rw [e, cut_at 46 _ _ n1]
   simp only [atoi_itoa hi.1, atoi_itoa hi.2, cond_true, e, beq_self_eq_true]
 · have hb1 : b = -1 := by
    have := h.2.2.1
    have : -1 ≤ b := this
    omega
   subst hb1
   have e : pickT (a, -1, ()) = itoaF a := by
    unfold pickT
    simp
   unfold rdP
   rw [e, cut_no 46 _ n1]
   simp only [atoi_itoa hi.1, cond_false, e, beq_self_eq_true, cond_true]
abbrev Rs := List Pk × Int × Unit
def badS : Rs := ([], 12, ())
def readS : List (List UInt8) → List Pk → Rs
 | [], x => bif chkP x != 0 then badS else (x, 0, ())
 | w :: ws, x => match rdP w with
  | none => badS
  | some p => readS ws (x ++ [p])
theorem step64 (m : Nat) (x : List Pk) (w : List UInt8) (a b : Int) (hi : pickIn (a, b, ()) = true) (hx : x.length ≤ 100000000) : lines_ReadScript_i64 (m + 1) x w a b = some (bif pickT (a, b, ()) == w then readS [] (x ++ [(a, b, ())]) else badS) := by
 rw [lines_ReadScript_i64]
 unfold lines_ReadScript_c64
 rw [pick_eq hi]
 simp only
 cases hb : pickT (a, b, ()) == w with
 | false => rfl
 | true =>
  simp only [Bool.not_true, cond_false, cond_true]
  rw [big9 (by simp; omega) (by decide), cond_true, pchk_eq _ (by simp; omega)]
  simp only [readS]
  cases chkP (x ++ [(a, b, ())]) != 0 <;> rfl
theorem cutF_len (c : UInt8) : ∀ w : List UInt8, (cutF c w).1.length ≤ w.length ∧ (cutF c w).2.1.length ≤ w.length
 | [] => by simp [cutF]
 | b :: w => by
  have ih := cutF_len c w
  unfold cutF
  cases b == c with
  | true => simp
  | false =>
   simp only [cond_false]
   exact ⟨by simp; omega, by simp; omega⟩
theorem step25 (m : Nat) (x : List Pk) (w : List UInt8) (hw : w.length ≤ 1000000000) (hx : x.length ≤ 100000000) : lines_ReadScript_i25 (m + 1 + 1) w x = some (readS [w] x) := by
 have hl := cutF_len 46 w
 rw [lines_ReadScript_i25]
 unfold lines_ReadScript_c25 strings_Cut readS rdP strconv_Atoi
 simp only
 rw [decide_eq_true (show w.length < 4294967281 by omega)]
 simp only [cond_true]
 rw [decide_eq_true (show (cutF 46 w).1.length ≤ 281474976710656 by omega), decide_eq_true (show (cutF 46 w).2.1.length ≤ 281474976710656 by omega)]
 simp only [cond_true]
 cases ha : Lib.atoiAll (cutF 46 w).1
 case range => rfl
 case ok a =>
  simp only [cond_false]
  cases (cutF 46 w).2.2.1 with
  | false =>
   simp only [cond_false]
   rw [step64 m x w a (-1) (by unfold pickIn; rw [atoi_in ha]; rfl) hx]
   cases pickT (a, -1, ()) == w <;> rfl
  | true =>
   simp only [cond_true]
   cases hb : Lib.atoiAll (cutF 46 w).2.1
   case range => rfl
   case ok b =>
    simp only [cond_false]
    rw [step64 m x w a b (by unfold pickIn; rw [atoi_in ha, atoi_in hb]; rfl) hx]
    cases pickT (a, b, ()) == w <;> rfl
   rfl
 rfl
theorem step44 (m : Nat) (x : List Pk) (w t : List UInt8) (i : Nat) (a b : Int) (hi : pickIn (a, b, ()) = true) (hx : x.length ≤ 100000000) (hit : i < t.length) (ht : t.length ≤ 1000000000) (rest : List (List UInt8))
    (ih : ∀ y : List Pk, y.length = x.length + 1 → lines_ReadScript_i26 m [32] (t.drop (i + 1)) 0 y = some (readS rest y)) : lines_ReadScript_i44 (m + 1) x w a b [32] t 0 (i : Int) = some (bif pickT (a, b, ()) == w then readS rest (x ++ [(a, b, ())]) else badS) := by
  rw [lines_ReadScript_i44]
  unfold lines_ReadScript_c44
  rw [pick_eq hi]
  simp only
  cases hb : pickT (a, b, ()) == w with
  | false => rfl
  | true =>
   have e : (i : Int) + Int.ofNat (List.length [(32 : UInt8)]) = (i : Int) + 1 := rfl
   simp only [Bool.not_true, cond_false, cond_true, e, wS (show i < 1000000000000 by omega), iN, Int.toNat_natCast, decide_eq_true (show i + 1 ≤ t.length by omega), List.take_length]
   rw [big9 (by simp; omega) (by decide), cond_true]
   exact ih _ (by simp)
theorem step26 (N : Nat) : ∀ (t : List UInt8) (n : Nat) (x : List Pk), t.length ≤ N → t.length + x.length ≤ 90000000 → 2 * t.length + 8 ≤ n → lines_ReadScript_i26 n [32] t 0 x = some (readS (splitF 32 t) x) := by
 induction N with
 | zero =>
  intro t n x hN hx hn
  obtain rfl : t = [] := List.length_eq_zero_iff.1 (by omega)
  obtain ⟨m, rfl⟩ : ∃ m, n = m + 1 + 1 + 1 := ⟨n - 3, by omega⟩
  rw [lines_ReadScript_i26]
  exact step25 m x [] (by simp) (by omega)
 | succ N ihN =>
  intro t n x hN hx hn
  obtain ⟨m, rfl⟩ : ∃ m, n = m + 1 + 1 + 1 := ⟨n - 3, by omega⟩
  rw [lines_ReadScript_i26]
  unfold lines_ReadScript_c26 strings_Index
  simp only
  by_cases e : Lib.indexByte t 32 = -1
  · rw [e, splitF_miss 32 t e]
    have en : decide ((-1 : Int) < 0) = true := rfl
    rw [en, cond_true]
    exact step25 m x t (by omega) (by omega)
  · have hge := Lib.indexByte_ge t 32
    obtain ⟨i, hi⟩ : ∃ i : Nat, Lib.indexByte t 32 = i := ⟨(Lib.indexByte t 32).toNat, by omega⟩
    obtain ⟨r, g1, g2, g3⟩ := idx_at 32 t i hi
    have hil : i < t.length := by
     have := congrArg List.length g1
     rw [List.length_append, List.length_take] at this
     simp at this
     omega
    have hl := cutF_len 46 (t.take i)
    rw [List.length_take] at hl
    have ew : Go.IntKind.wrap Go.IntKind.i64 ((i : Int) + 0) = (i : Int) := by rw [w64 (by omega) (by omega)]; omega
    rw [hi, decide_eq_false (show ¬ (i : Int) < 0 by omega), splitF_hit 32 t i hi]
    simp only [cond_false, ew, iN, cond_true, Int.toNat_natCast, Nat.zero_le, decide_true, decide_eq_true (show i ≤ t.length by omega), Bool.and_self, List.drop_zero]
    unfold strings_Cut strconv_Atoi
    simp only
    rw [decide_eq_true (show (t.take i).length < 4294967281 by rw [List.length_take]; omega)]
    simp only [cond_true]
    rw [decide_eq_true (show (cutF 46 (t.take i)).1.length ≤ 281474976710656 by omega), decide_eq_true (show (cutF 46 (t.take i)).2.1.length ≤ 281474976710656 by omega)]
    have ih : ∀ y : List Pk, y.length = x.length + 1 → lines_ReadScript_i26 (m + 1) [32] (t.drop (i + 1)) 0 y = some (readS (splitF 32 (t.drop (i + 1))) y) := fun y hy =>
     ihN (t.drop (i + 1)) (m + 1) y (by rw [List.length_drop]; omega) (by rw [List.length_drop, hy]; omega) (by rw [List.length_drop]; omega)
    rw [readS]
    unfold rdP
    simp only [cond_true]
    cases ha : Lib.atoiAll (cutF 46 (t.take i)).1
    case range => rfl
    case ok a =>
     simp only [cond_false]
     cases (cutF 46 (t.take i)).2.2.1 with
     | false =>
      simp only [cond_false]
      rw [step44 (m + 1) x (t.take i) t i a (-1) (by unfold pickIn; rw [atoi_in ha]; rfl) (by omega) hil (by omega) _ ih]
      cases pickT (a, -1, ()) == t.take i <;> rfl
     | true =>
      simp only [cond_true]
      cases hb : Lib.atoiAll (cutF 46 (t.take i)).2.1
      case range => rfl
      case ok b =>
       simp only [cond_false]
       rw [step44 (m + 1) x (t.take i) t i a b (by unfold pickIn; rw [atoi_in ha, atoi_in hb]; rfl) (by omega) hil (by omega) _ ih]
       cases pickT (a, b, ()) == t.take i <;> rfl
      rfl
    rfl
theorem rscript_eq (s : List UInt8) (hs : s.length ≤ 1000000) : lines_ReadScript s = some (bif s == [] then ([], 0, ()) else readS (splitF 32 s) []) := by
 unfold lines_ReadScript lines_ReadScript_c
 cases s == [] with
 | true => rfl
 | false => exact step26 s.length s fuel [] (Nat.le_refl _) (by simp; omega) (by have := fuel_ge; omega)
theorem pickT_no {p : Pk} (h : pickIn p = true) {c : UInt8} (hc : ¬ isD c) (h2 : c ≠ 45) (h3 : c ≠ 46) : c ∉ pickT p := by
 simp only [pickIn, Bool.and_eq_true] at h
 have h4 := itoaF_no h.1 hc h2
 have h5 := itoaF_no h.2 hc h2
 unfold pickT
 cases decide (0 ≤ p.2.1) with
 | false => simpa using h4
 | true =>
  simp only [cond_true, List.mem_append, List.mem_cons]
  rintro (h6 | h6 | h6)
  · exact h4 h6
  · exact h3 h6
  · exact h5 h6
theorem itoaF_ne {n : Int} (h : in64 n = true) : itoaF n ≠ [] := by
 obtain ⟨h0, h1⟩ := in64_s h
 rw [itoaF_eq h0 h1]
 unfold Lib.itoa
 split
 · simp
 · intro e
   have := dec_len n.toNat
   rw [e] at this
   simp at this
theorem pickT_ne {p : Pk} (h : pickIn p = true) : pickT p ≠ [] := by
 simp only [pickIn, Bool.and_eq_true] at h
 have := itoaF_ne h.1
 unfold pickT
 intro e
 exact this (List.append_eq_nil_iff.1 e).1
theorem split_join : ∀ (w : List UInt8) (ws : List (List UInt8)), (∀ v ∈ w :: ws, (32 : UInt8) ∉ v) → splitF 32 (joinF [32] ((w :: ws).map fun x => (x, ()))) = w :: ws
 | w, [], h => by
  have := splitG_word (c := 32) w [] [] (h w (by simp))
  rw [List.append_nil, List.nil_append, splitG_nil, splitG_z] at this
  exact this
 | w, v :: ws, h => by
  have e : joinF [32] ((w :: v :: ws).map fun x => (x, ())) = w ++ 32 :: joinF [32] ((v :: ws).map fun x => (x, ())) := rfl
  rw [e, ← splitG_z, splitG_word _ _ _ (h w (by simp)), List.nil_append, splitG_hit, splitG_z, split_join v ws fun u hu => h u (by simp [hu])]
theorem readS_c : ∀ (l x : List Pk), l.all pickOk = true → readS (l.map pickT) x = bif chkP (x ++ l) != 0 then badS else (x ++ l, 0, ())
 | [], x, _ => by simp [readS]
 | p :: l, x, h => by
  rw [List.all_cons, Bool.and_eq_true] at h
  rw [List.map_cons, readS, rdP_c h.1]
  simp only
  rw [readS_c l _ h.2]
  simp
theorem rscript_c {l : List Pk} (h : chkP l = 0) : lines_ReadScript (scriptT l) = some (l, 0, ()) ∧ (scriptT l).length ≤ 1000000 := by
 obtain ⟨h1, h2⟩ := chkP_ok h
 have hb := joinF_len (l.map fun p => (pickT p, ())) 50 fun w hw => by
  obtain ⟨p, hp, rfl⟩ := List.mem_map.1 hw
  exact pickT_len (pickOk_in (List.all_eq_true.1 h2 p hp))
 rw [List.length_map] at hb
 have hl : (scriptT l).length ≤ 1000000 := by
  unfold scriptT
  omega
 refine ⟨?_, hl⟩
 rw [rscript_eq _ hl]
 cases l with
 | nil => rfl
 | cons p l =>
  have hw : ∀ v ∈ pickT p :: l.map pickT, (32 : UInt8) ∉ v := fun v hv => by
   rw [← List.map_cons (f := pickT)] at hv
   obtain ⟨q, hq, rfl⟩ := List.mem_map.1 hv
   exact pickT_no (pickOk_in (List.all_eq_true.1 h2 q hq)) (by unfold isD; decide) (by decide) (by decide)
  have e : scriptT (p :: l) = joinF [32] ((pickT p :: l.map pickT).map fun x => (x, ())) := by
   unfold scriptT
   rw [List.map_cons, List.map_cons, List.map_map]
   rfl
  have hsp := split_join (pickT p) (l.map pickT) hw
  rw [← e] at hsp
  have hne : (scriptT (p :: l) == []) = false := by
   cases hc : scriptT (p :: l) with
   | cons a b => rfl
   | nil =>
    rw [hc] at hsp
    have : [] = pickT p := (List.cons.inj (show ([] : List UInt8) :: [] = pickT p :: l.map pickT from hsp)).1
    exact absurd this.symm (pickT_ne (pickOk_in (List.all_eq_true.1 h2 p (by simp))))
  rw [hne, cond_false, hsp]
  have := readS_c (p :: l) [] h2
  rw [List.map_cons] at this
  rw [this, List.nil_append, h]
  rfl
theorem pkB (e0 e1 : Pk) : (e0.1 == e1.1 && (e0.2.1 == e1.2.1 && true)) = decide (e0 = e1) := by
 obtain ⟨a, b, u⟩ := e0
 obtain ⟨a', b', u'⟩ := e1
 rw [Bool.eq_iff_iff]
 simp
theorem samePk6 (l k : List Pk) (hl : l.length ≤ 1000000000) (hlk : l.length = k.length) : ∀ (rl rk : List Pk) (i n : Nat), l.drop i = rl → k.drop i = rk → i ≤ l.length → rl.length + 2 ≤ n → ref45_SamePicks_i6 n l k (i : Int) = some (decide (rl = rk), ())
 | [], rk, i, n, h, h', hi, hn => by
  obtain ⟨m, rfl⟩ : ∃ m, n = m + 1 := ⟨n - 1, by simp at hn; omega⟩
  have := drop_end h hi
  have hk : rk = [] := by rw [← h']; exact List.drop_eq_nil_of_le (by omega)
  subst hk
  rw [ref45_SamePicks_i6]
  unfold ref45_SamePicks_c6
  simp only [Int.ofNat_eq_natCast, iG (show ¬ i < l.length by omega), cond_false, decide_true]
 | a :: rl, rk, i, n, h, h', hi, hn => by
  obtain ⟨m, rfl⟩ : ∃ m, n = m + 1 := ⟨n - 1, by simp at hn; omega⟩
  obtain ⟨h1, h2, h3⟩ := drop_get h
  cases rk with
  | nil =>
   have := drop_end h' (by omega)
   omega
  | cons b rk =>
   obtain ⟨g1, g2, g3⟩ := drop_get h'
   rw [ref45_SamePicks_i6]
   unfold ref45_SamePicks_c6
   simp only [Int.ofNat_eq_natCast, iL h1, cond_true, iN, Int.toNat_natCast, h2, g2, pkB, wS (show i < 1000000000000 by omega)]
   rw [samePk6 l k hl hlk rl rk (i + 1) m h3 g3 (by omega) (by simp at hn; omega)]
   by_cases e : a = b
   · subst e
     simp
   · simp [e]
theorem samePk_eq (l k : List Pk) (hl : l.length ≤ 1000000000) : ref45_SamePicks l k = some (decide (l = k), ()) := by
 unfold ref45_SamePicks ref45_SamePicks_c
 by_cases e : l.length = k.length
 · have e1 : (Int.ofNat l.length != Int.ofNat k.length) = false := by simp [e]
   rw [e1, cond_false]
   exact samePk6 l k hl e l k 0 fuel rfl rfl (by omega) (by have := fuel_ge; omega)
 · have e1 : (Int.ofNat l.length != Int.ofNat k.length) = true := by simp; omega
   rw [e1, cond_true, decide_eq_false (fun h => e (by rw [h]))]
theorem many_s (l : List Pk) : ∃ b, ref37_Many l = some (b, ()) ∧ (b = false → l.length ≤ 2010) := by
 have e1 : decide (Int.ofNat (List.length l) > 2010) = decide (l.length > 2010) := by
  rw [decide_eq_decide]; simp; omega
 unfold ref37_Many
 rw [e1]
 by_cases h1 : l.length > 2010
 · refine ⟨true, ?_, fun h => by cases h⟩
   rw [decide_eq_true h1]
   cases decide (Int.ofNat (List.length l) > 60) <;> cases decide (Int.ofNat (List.length l) ≤ 2000) <;> rfl
 · rw [decide_eq_false h1]
   cases decide (Int.ofNat (List.length l) > 60) <;> cases decide (Int.ofNat (List.length l) ≤ 2000) <;> exact ⟨_, rfl, fun _ => by omega⟩
end Tg

/- Plain laws of the texts: what is read, and what is written. -/
set_option linter.unusedVariables false
set_option linter.unusedSimpArgs false
namespace Tg
open Go
open Go.Abs (fuel bigOk cloned tmm dropD)
def valK (kd k t v a b c d e f : Int) : Bool :=
 bif kd == 1 || kd == 4 then recOk (k, t, v, ()) && (a == 0 && (b == 0 && (c == 0 && (d == 0 && (e == 0 && f == 0)))))
 else bif kd == 2 then (decide (-1099511627776 ≤ a) && decide (a ≤ 1099511627776) || a == 9223372036854775807) && (k == 0 && (t == 0 && (v == 0 && (b == 0 && (c == 0 && (d == 0 && (e == 0 && f == 0)))))))
 else bif kd == 3 then rowOk (b, c, d, e, f, ()) && (k == 0 && (t == 0 && (v == 0 && a == 0)))
 else false
abbrev Ms := Int × Int × Int × Int × Int × Int × Int × Int × Int × Int × Unit
def valM (m : Ms) : Bool := valK m.1 m.2.1 m.2.2.1 m.2.2.2.1 m.2.2.2.2.1 m.2.2.2.2.2.1 m.2.2.2.2.2.2.1 m.2.2.2.2.2.2.2.1 m.2.2.2.2.2.2.2.2.1 m.2.2.2.2.2.2.2.2.2.1
theorem isTime_eq (t : Int) : message_isTime t = some (decide (-1099511627776 ≤ t) && decide (t ≤ 1099511627776), ()) := by
 unfold message_isTime
 rw [show decide (t ≥ -1099511627776) = decide (-1099511627776 ≤ t) from rfl]
 cases decide (-1099511627776 ≤ t) <;> rfl
theorem isMark_eq (t : Int) : message_isMark t = some (decide (-1099511627776 ≤ t) && decide (t ≤ 1099511627776) || t == 9223372036854775807, ()) := by
 unfold message_isMark
 rw [isTime_eq]
 cases decide (-1099511627776 ≤ t) && decide (t ≤ 1099511627776) <;> rfl
theorem ck3 (n : Nat) (x0 x1 x2 x3 x4 x5 x6 x7 x8 x9 : Int) (x10 : Bool) (x11 x12 x13 x14 x15 x16 x17 x18 x19 x20 : Int) :
    message_Check_i3 (n + 1) x0 x1 x2 x3 x4 x5 x6 x7 x8 x9 x10 x11 x12 x13 x14 x15 x16 x17 x18 x19 x20 = some (bif x10 && (x0 == x11 && (x1 == x12 && (x2 == x13 && (x3 == x14 && (x4 == x15 && (x5 == x16 && (x6 == x17 && (x7 == x18 && (x8 == x19 && (x9 == x20 && true)))))))))) then 0 else 8, ()) := by
  rw [message_Check_i3]
  unfold message_Check_c3
  generalize (x0 == x11 && (x1 == x12 && (x2 == x13 && (x3 == x14 && (x4 == x15 && (x5 == x16 && (x6 == x17 && (x7 == x18 && (x8 == x19 && (x9 == x20 && true)))))))))) = z
  cases x10 <;> cases z <;> rfl
theorem ck5 (n : Nat) (kd k t v a b c d e f : Int) (g : Bool) : message_Check_i5 (n + 1 + 1) kd k t v a b c d e f false kd 0 0 0 0 0 0 0 0 0 kd g = some (bif (bif g then recOk (k, t, v, ()) && (a == 0 && (b == 0 && (c == 0 && (d == 0 && (e == 0 && f == 0)))))
 else bif kd == 2 then (decide (-1099511627776 ≤ a) && decide (a ≤ 1099511627776) || a == 9223372036854775807) && (k == 0 && (t == 0 && (v == 0 && (b == 0 && (c == 0 && (d == 0 && (e == 0 && f == 0)))))))
 else bif kd == 3 then rowOk (b, c, d, e, f, ()) && (k == 0 && (t == 0 && (v == 0 && a == 0)))
 else false) then 0 else 8, ()) := by
 rw [message_Check_i5]
 unfold message_Check_c5
 simp only [isTime_eq, isMark_eq, ck3, beq_self_eq_true, Bool.true_and, Bool.and_true, recOk, rowOk]
 cases g
 · cases kd == 2
   · cases kd == 3
     · rfl
     · cases decide (-2199023255552 ≤ c) <;> cases decide (c < d) <;> cases decide (d ≤ 2199023255552) <;> rfl
   · simp only [cond_true, cond_false]
 · simp only [cond_true]
theorem check_eq (m : Ms) : message_Check m = some (bif valM m then 0 else 8, ()) := by
 obtain ⟨kd, k, t, v, a, b, c, d, e, f, u⟩ := m
 obtain ⟨n, hn⟩ : ∃ n, fuel = n + 1 + 1 := ⟨1152921504606846974, rfl⟩
 unfold message_Check message_Check_c
 rw [hn]
 generalize h1 : (kd == 1) = z1
 cases z1 with
 | true =>
  rw [cond_true, ck5]
  simp only [valM, valK, h1, Bool.true_or]
 | false =>
  rw [cond_false, ck5]
  simp only [valM, valK, h1, Bool.false_or]
theorem numsF_len {ns : List Int} (hn : ∀ n ∈ ns, in64 n = true) : (numsF ns).length ≤ 22 * ns.length := by
 induction ns with
 | nil => simp [numsF]
 | cons n l ih =>
  have h1 := itoaF_len (hn n (by simp))
  have h2 := ih fun m hm => hn m (by simp [hm])
  simp only [numsF, List.flatMap_cons, List.length_append, List.length_cons] at h2 ⊢
  omega
theorem rowT_len {r : Rw} (h : rowIn r = true) : (rowT r).length ≤ 120 := by
 simp only [rowIn, Bool.and_eq_true] at h
 have := numsF_len (ns := [r.1, r.2.1, r.2.2.1, r.2.2.2.1, r.2.2.2.2.1]) (by simp [h.1, h.2.1, h.2.2.1, h.2.2.2.1, h.2.2.2.2])
 simp only [List.length_cons, List.length_nil] at this
 unfold rowT
 simp
 omega
theorem recT_len {r : Rc} (h : recIn r = true) : (recT r).length ≤ 120 := by
 simp only [recIn, Bool.and_eq_true] at h
 have := numsF_len (ns := [r.1, r.2.1, r.2.2.1]) (by simp [h.1, h.2.1, h.2.2])
 simp only [List.length_cons, List.length_nil] at this
 unfold recT
 simp
 omega
theorem louts_eq (x : Ou) (h1 : x.1.all rowIn = true) (h2 : x.2.1.all recIn = true) (h3 : x.1.length ≤ 4000000000) (h4 : x.2.1.length ≤ 4000000000) : lines_Outputs x = some (outP x) := by
 unfold lines_Outputs
 rw [h1, h2, decide_eq_true (show x.1.length ≤ 4611686018427387904 by omega), decide_eq_true (show x.2.1.length ≤ 4611686018427387904 by omega)]
 rfl
theorem flat_len {α : Type} (f : α → List UInt8) (k : Nat) : ∀ (l : List α), (∀ a ∈ l, (f a).length ≤ k) → (l.flatMap f).length ≤ k * l.length
 | [], _ => by simp
 | a :: l, h => by
  have h1 := h a (by simp)
  have h2 := flat_len f k l fun b hb => h b (by simp [hb])
  rw [List.flatMap_cons, List.length_append, List.length_cons, Nat.mul_succ]
  omega
theorem outT_len (x : Ou) (h1 : x.1.all rowIn = true) (h2 : x.2.1.all recIn = true) : (outT x).length ≤ 121 * (x.1.length + x.2.1.length) := by
 have a := flat_len (fun r => rowT r ++ [10]) 121 x.1 fun r hr => by
  have := rowT_len (List.all_eq_true.1 h1 r hr)
  simp
  omega
 have b := flat_len (fun r => recT r ++ [10]) 121 x.2.1 fun r hr => by
  have := recT_len (List.all_eq_true.1 h2 r hr)
  simp
  omega
 unfold outT
 rw [List.length_append]
 omega
theorem numsF_no {c : UInt8} (hc : ¬ isD c) (h2 : c ≠ 45) (h3 : c ≠ 32) : ∀ ns : List Int, (∀ n ∈ ns, in64 n = true) → c ∉ numsF ns
 | [], _ => by simp [numsF]
 | n :: ns, h => by
  have h1 := itoaF_no (h n (by simp)) hc h2
  have ih := numsF_no hc h2 h3 ns fun m hm => h m (by simp [hm])
  have e : numsF (n :: ns) = 32 :: (itoaF n ++ numsF ns) := by simp [numsF]
  rw [e, List.mem_cons, List.mem_append]
  rintro (h4 | h4 | h4)
  · exact h3 h4
  · exact h1 h4
  · exact ih h4
theorem rowT_no {r : Rw} (h : rowIn r = true) : (10 : UInt8) ∉ rowT r := by
 simp only [rowIn, Bool.and_eq_true] at h
 have := numsF_no (c := 10) (by unfold isD; decide) (by decide) (by decide) [r.1, r.2.1, r.2.2.1, r.2.2.2.1, r.2.2.2.2.1] (by simp [h.1, h.2.1, h.2.2.1, h.2.2.2.1, h.2.2.2.2])
 unfold rowT
 rw [List.mem_append]
 rintro (h4 | h4)
 · revert h4
   decide
 · exact this h4
theorem recT_no {r : Rc} (h : recIn r = true) : (10 : UInt8) ∉ recT r := by
 simp only [recIn, Bool.and_eq_true] at h
 have := numsF_no (c := 10) (by unfold isD; decide) (by decide) (by decide) [r.1, r.2.1, r.2.2.1] (by simp [h.1, h.2.1, h.2.2])
 unfold recT
 rw [List.mem_append]
 rintro (h4 | h4)
 · revert h4
   decide
 · exact this h4
theorem split_lines (c : UInt8) : ∀ ws : List (List UInt8), (∀ w ∈ ws, c ∉ w) → splitF c (ws.flatMap fun w => w ++ [c]) = ws ++ [[]]
 | [], _ => by simp [splitF]
 | w :: ws, h => by
  rw [← splitG_z, List.flatMap_cons, List.append_assoc, splitG_word _ _ _ (h w (by simp)), List.nil_append, List.singleton_append, splitG_hit, splitG_z, split_lines c ws fun v hv => h v (by simp [hv])]
  rfl
theorem outT_lines (x : Ou) : outT x = (x.1.map rowT ++ x.2.1.map recT).flatMap fun w => w ++ [10] := by
 rw [List.flatMap_append, List.flatMap_map, List.flatMap_map]
 rfl
end Tg

/- Plain laws of the texts: what is read, and what is written. -/
set_option linter.unusedVariables false
set_option linter.unusedSimpArgs false
namespace Tg
open Go
open Go.Abs (fuel bigOk cloned tmm dropD)
theorem split_nums : ∀ (ns : List Int) (w : List UInt8), (∀ n ∈ ns, in64 n = true) → splitG 32 w (numsF ns) = w :: ns.map itoaF
 | [], w, _ => by rw [numsF]; simp [splitG_nil]
 | n :: ns, w, h => by
  have e : numsF (n :: ns) = 32 :: (itoaF n ++ numsF ns) := by simp [numsF]
  rw [e, splitG_hit, splitG_word _ _ _ (itoaF_no (h n (by simp)) (by unfold isD; decide) (by decide)), List.nil_append, split_nums ns _ fun m hm => h m (by simp [hm])]
  rfl
theorem rowB (e0 e1 : Rw) : (e0.1 == e1.1 && (e0.2.1 == e1.2.1 && (e0.2.2.1 == e1.2.2.1 && (e0.2.2.2.1 == e1.2.2.2.1 && (e0.2.2.2.2.1 == e1.2.2.2.2.1 && true))))) = decide (e0 = e1) := by
 obtain ⟨a, b, c, d, e, u⟩ := e0
 obtain ⟨a', b', c', d', e', u'⟩ := e1
 rw [Bool.eq_iff_iff]
 simp
theorem recB (e0 e1 : Rc) : (e0.1 == e1.1 && (e0.2.1 == e1.2.1 && (e0.2.2.1 == e1.2.2.1 && true))) = decide (e0 = e1) := by
 obtain ⟨a, b, c, u⟩ := e0
 obtain ⟨a', b', c', u'⟩ := e1
 rw [Bool.eq_iff_iff]
 simp
theorem sameRows6 (l k : List Rw) (hl : l.length ≤ 1000000000) (hlk : l.length = k.length) : ∀ (rl rk : List Rw) (i n : Nat), l.drop i = rl → k.drop i = rk → i ≤ l.length → rl.length + 2 ≤ n → ref34_SameRows_i6 n l k (i : Int) = some (decide (rl = rk), ())
 | [], rk, i, n, h, h', hi, hn => by
  obtain ⟨m, rfl⟩ : ∃ m, n = m + 1 := ⟨n - 1, by simp at hn; omega⟩
  have := drop_end h hi
  have hk : rk = [] := by rw [← h']; exact List.drop_eq_nil_of_le (by omega)
  subst hk
  rw [ref34_SameRows_i6]
  unfold ref34_SameRows_c6
  simp only [Int.ofNat_eq_natCast, iG (show ¬ i < l.length by omega), cond_false, decide_true]
 | a :: rl, rk, i, n, h, h', hi, hn => by
  obtain ⟨m, rfl⟩ : ∃ m, n = m + 1 := ⟨n - 1, by simp at hn; omega⟩
  obtain ⟨h1, h2, h3⟩ := drop_get h
  cases rk with
  | nil =>
   have := drop_end h' (by omega)
   omega
  | cons b rk =>
   obtain ⟨g1, g2, g3⟩ := drop_get h'
   rw [ref34_SameRows_i6]
   unfold ref34_SameRows_c6
   simp only [Int.ofNat_eq_natCast, iL h1, cond_true, iN, Int.toNat_natCast, h2, g2, rowB, wS (show i < 1000000000000 by omega)]
   rw [sameRows6 l k hl hlk rl rk (i + 1) m h3 g3 (by omega) (by simp at hn; omega)]
   by_cases e : a = b
   · subst e
     simp
   · simp [e]
theorem sameRows_eq (l k : List Rw) (hl : l.length ≤ 1000000000) : ref34_SameRows l k = some (decide (l = k), ()) := by
 unfold ref34_SameRows ref34_SameRows_c
 by_cases e : l.length = k.length
 · have e1 : (Int.ofNat l.length != Int.ofNat k.length) = false := by simp [e]
   rw [e1, cond_false]
   exact sameRows6 l k hl e l k 0 fuel rfl rfl (by omega) (by have := fuel_ge; omega)
 · have e1 : (Int.ofNat l.length != Int.ofNat k.length) = true := by simp; omega
   rw [e1, cond_true, decide_eq_false (fun h => e (by rw [h]))]
theorem sameRecs6 (l k : List Rc) (hl : l.length ≤ 1000000000) (hlk : l.length = k.length) : ∀ (rl rk : List Rc) (i n : Nat), l.drop i = rl → k.drop i = rk → i ≤ l.length → rl.length + 2 ≤ n → ref34_SameRecords_i6 n l k (i : Int) = some (decide (rl = rk), ())
 | [], rk, i, n, h, h', hi, hn => by
  obtain ⟨m, rfl⟩ : ∃ m, n = m + 1 := ⟨n - 1, by simp at hn; omega⟩
  have := drop_end h hi
  have hk : rk = [] := by rw [← h']; exact List.drop_eq_nil_of_le (by omega)
  subst hk
  rw [ref34_SameRecords_i6]
  unfold ref34_SameRecords_c6
  simp only [Int.ofNat_eq_natCast, iG (show ¬ i < l.length by omega), cond_false, decide_true]
 | a :: rl, rk, i, n, h, h', hi, hn => by
  obtain ⟨m, rfl⟩ : ∃ m, n = m + 1 := ⟨n - 1, by simp at hn; omega⟩
  obtain ⟨h1, h2, h3⟩ := drop_get h
  cases rk with
  | nil =>
   have := drop_end h' (by omega)
   omega
  | cons b rk =>
   obtain ⟨g1, g2, g3⟩ := drop_get h'
   rw [ref34_SameRecords_i6]
   unfold ref34_SameRecords_c6
   simp only [Int.ofNat_eq_natCast, iL h1, cond_true, iN, Int.toNat_natCast, h2, g2, recB, wS (show i < 1000000000000 by omega)]
   rw [sameRecs6 l k hl hlk rl rk (i + 1) m h3 g3 (by omega) (by simp at hn; omega)]
   by_cases e : a = b
   · subst e
     simp
   · simp [e]
theorem sameRecs_eq (l k : List Rc) (hl : l.length ≤ 1000000000) : ref34_SameRecords l k = some (decide (l = k), ()) := by
 unfold ref34_SameRecords ref34_SameRecords_c
 by_cases e : l.length = k.length
 · have e1 : (Int.ofNat l.length != Int.ofNat k.length) = false := by simp [e]
   rw [e1, cond_false]
   exact sameRecs6 l k hl e l k 0 fuel rfl rfl (by omega) (by have := fuel_ge; omega)
 · have e1 : (Int.ofNat l.length != Int.ofNat k.length) = true := by simp; omega
   rw [e1, cond_true, decide_eq_false (fun h => e (by rw [h]))]
theorem equal_eq (x y : Ou) (h1 : x.1.length ≤ 1000000000) (h2 : x.2.1.length ≤ 1000000000) : ref40_Equal x y = some (decide (x.1 = y.1) && decide (x.2.1 = y.2.1), ()) := by
 obtain ⟨a, b, u⟩ := x
 obtain ⟨c, d, u'⟩ := y
 unfold ref40_Equal
 rw [sameRows_eq a c h1, sameRecs_eq b d h2]
 cases decide (a = c) <;> rfl
theorem great_s (x : Ou) : ∃ b, ref40_Great x = some (b, ()) ∧ (b = false → x.1.length ≤ 4010 ∧ x.2.1.length ≤ 4010) := by
 have e1 : decide (Int.ofNat (List.length x.1) > 4010) = decide (x.1.length > 4010) := by
  rw [decide_eq_decide]; simp; omega
 have e2 : decide (Int.ofNat (List.length x.2.1) > 4010) = decide (x.2.1.length > 4010) := by
  rw [decide_eq_decide]; simp; omega
 unfold ref40_Great
 rw [e1, e2]
 by_cases h1 : x.1.length > 4010
 · refine ⟨true, ?_, fun h => by cases h⟩
   rw [decide_eq_true h1]
   cases decide (Int.ofNat (List.length x.1) > 100) <;> cases decide (Int.ofNat (List.length x.1) ≤ 4000) <;> rfl
 · rw [decide_eq_false h1]
   by_cases h2 : x.2.1.length > 4010
   · refine ⟨true, ?_, fun h => by cases h⟩
     rw [decide_eq_true h2]
     cases decide (Int.ofNat (List.length x.1) > 100) <;> cases decide (Int.ofNat (List.length x.1) ≤ 4000) <;> cases decide (Int.ofNat (List.length x.2.1) > 100) <;> cases decide (Int.ofNat (List.length x.2.1) ≤ 4000) <;> rfl
   · rw [decide_eq_false h2]
     cases decide (Int.ofNat (List.length x.1) > 100) <;> cases decide (Int.ofNat (List.length x.1) ≤ 4000) <;> cases decide (Int.ofNat (List.length x.2.1) > 100) <;> cases decide (Int.ofNat (List.length x.2.1) ≤ 4000) <;> exact ⟨_, rfl, fun _ => ⟨by omega, by omega⟩⟩
end Tg
