import Derived.Test.YtepkicnfkpclcaaDoorP9
import Derived.Test.YtepkicnfkpclcaaDoorP10
import Derived.Test.YtepkicnfkpclcaaDoorlbA
/- The law of LinesBack, told plainly. -/
set_option linter.unusedVariables false
set_option linter.unusedSimpArgs false
namespace Tg
open Go
open Go.Abs (fuel bigOk)
theorem numsF_no {c : UInt8} (hc : ¬ isD c) (h2 : c ≠ 45) (h3 : c ≠ 32) : ∀ ns : List Int, (∀ n ∈ ns, in64 n = true) → c ∉ numsF ns
  | [], _ => by simp [numsF]
  | n :: ns, h => by
    have h1 := itoaF_no (h n (by simp)) hc h2
    have ih := numsF_no hc h2 h3 ns fun m hm => h m (by simp [hm])
    have e : numsF (n :: ns) = 32 :: (itoaF n ++ numsF ns) := by simp [numsF]
    rw [e, List.mem_cons, List.mem_append]
    rintro (h4 | h4 | h4)
    · exact h3 h4
    · exact h1 h4
    · exact ih h4
theorem rowT_no {r : Rw} (h : rowIn r = true) : (10 : UInt8) ∉ rowT r := by
  simp only [rowIn, Bool.and_eq_true] at h
  have := numsF_no (c := 10) (by unfold isD; decide) (by decide) (by decide) [r.1, r.2.1, r.2.2.1, r.2.2.2.1, r.2.2.2.2.1] (by simp [h.1, h.2.1, h.2.2.1, h.2.2.2.1, h.2.2.2.2])
  unfold rowT
  rw [List.mem_append]
  rintro (h4 | h4)
  · revert h4
    decide
  · exact this h4
theorem recT_no {r : Rc} (h : recIn r = true) : (10 : UInt8) ∉ recT r := by
  simp only [recIn, Bool.and_eq_true] at h
  have := numsF_no (c := 10) (by unfold isD; decide) (by decide) (by decide) [r.1, r.2.1, r.2.2.1] (by simp [h.1, h.2.1, h.2.2])
  unfold recT
  rw [List.mem_append]
  rintro (h4 | h4)
  · revert h4
    decide
  · exact this h4
theorem split_lines (c : UInt8) : ∀ ws : List (List UInt8), (∀ w ∈ ws, c ∉ w) → splitF c (ws.flatMap fun w => w ++ [c]) = ws ++ [[]]
  | [], _ => by simp [splitF]
  | w :: ws, h => by
    rw [← splitG_z, List.flatMap_cons, List.append_assoc, splitG_word _ _ _ (h w (by simp)), List.nil_append, List.singleton_append, splitG_hit, splitG_z, split_lines c ws fun v hv => h v (by simp [hv])]
    rfl
theorem outT_lines (x : Ou) : outT x = (x.1.map rowT ++ x.2.1.map recT).flatMap fun w => w ++ [10] := by
  rw [List.flatMap_append, List.flatMap_map, List.flatMap_map]
  rfl
theorem rd_row {r : Rw} (h1 : rowIn r = true) (h2 : rowOk r = true) : rd (rowT r) = ((3, 0, 0, 0, 0, r), 0, ()) := by
  have hv : vm (3, 0, 0, 0, 0, r) = true := by
    rw [vm, rowIn_all h1, Bool.and_true]
    have : valM (3, 0, 0, 0, 0, r) = rowOk r := by
      obtain ⟨a, b, c, d, e, u⟩ := r
      simp [valM, valK, rowOk]
    rw [this, h2]
  have := mread_c hv
  unfold rd
  rw [show rowT r = mText (3, 0, 0, 0, 0, r) from rfl, this]
theorem rd_rec {r : Rc} (h1 : recIn r = true) (h2 : recOk r = true) : rd (recT r) = ((4, r.1, r.2.1, r.2.2.1, 0, 0, 0, 0, 0, 0, ()), 0, ()) := by
  have hv : vm (4, r.1, r.2.1, r.2.2.1, 0, 0, 0, 0, 0, 0, ()) = true := by
    rw [vm, recIn_all h1, Bool.and_true]
    have : valM (4, r.1, r.2.1, r.2.2.1, 0, 0, 0, 0, 0, 0, ()) = recOk r := by
      obtain ⟨a, b, c, u⟩ := r
      simp [valM, valK, recOk]
    rw [this, h2]
  have := mread_c hv
  unfold rd
  rw [show recT r = mText (4, r.1, r.2.1, r.2.2.1, 0, 0, 0, 0, 0, 0, ()) from rfl, this]
theorem foldR_rows (rest : List (List UInt8)) : ∀ (rows : List Rw) (x : Ou), rows.all rowIn = true → rows.all rowOk = true → foldR (rows.map rowT ++ rest) x = foldR rest (x.1 ++ rows, x.2.1, ())
  | [], x, _, _ => by simp
  | r :: rows, x, h1, h2 => by
    rw [List.all_cons, Bool.and_eq_true] at h1 h2
    rw [List.map_cons, List.cons_append, foldR, rd_row h1.1 h2.1]
    have e0 : ((0 : Int) != 0) = false := rfl
    simp only [e0, cond_false]
    rw [foldR_rows rest rows _ h1.2 h2.2]
    simp [addM]
theorem foldR_recs : ∀ (recs : List Rc) (x : Ou), recs.all recIn = true → recs.all recOk = true → foldR (recs.map recT) x = some (x.1, x.2.1 ++ recs, ())
  | [], x, _, _ => by simp [foldR]
  | r :: recs, x, h1, h2 => by
    rw [List.all_cons, Bool.and_eq_true] at h1 h2
    rw [List.map_cons, foldR, rd_rec h1.1 h2.1]
    have e0 : ((0 : Int) != 0) = false := rfl
    simp only [e0, cond_false]
    rw [foldR_recs recs _ h1.2 h2.2]
    obtain ⟨a, b, c, u⟩ := r
    simp [addM]
theorem readback (x : Ou) (i1 : x.1.all rowIn = true) (i2 : x.2.1.all recIn = true) {a : List UInt8} {e : Unit} (h : outP x = (a, 0, e)) : readO a (splitF 10 a).dropLast ([], [], ()) = (x, 0, ()) ∧ a = outT x ∧ x.1.length ≤ 4000 ∧ x.2.1.length ≤ 4000 := by
  have h0 := h
  unfold outP at h
  by_cases l1 : x.1.length > 4000
  · rw [decide_eq_true l1] at h; cases h
  by_cases l2 : x.2.1.length > 4000
  · rw [decide_eq_true l2, Bool.or_true] at h; cases h
  rw [decide_eq_false l1, decide_eq_false l2] at h
  cases o1 : x.1.all rowOk with
  | false => rw [o1] at h; cases h
  | true =>
    cases o2 : x.2.1.all recOk with
    | false => rw [o1, o2] at h; cases h
    | true =>
      rw [o1, o2] at h
      have ha : outT x = a := (Prod.mk.inj h).1
      refine ⟨?_, ha.symm, by omega, by omega⟩
      subst ha
      have hs : (splitF 10 (outT x)).dropLast = x.1.map rowT ++ x.2.1.map recT := by
        rw [outT_lines, split_lines]
        · exact List.dropLast_concat
        · intro w hw
          rcases List.mem_append.1 hw with hw | hw
          · obtain ⟨r, hr, rfl⟩ := List.mem_map.1 hw
            exact rowT_no (List.all_eq_true.1 i1 r hr)
          · obtain ⟨r, hr, rfl⟩ := List.mem_map.1 hw
            exact recT_no (List.all_eq_true.1 i2 r hr)
      unfold readO
      rw [hs, foldR_rows _ _ _ i1 o1, foldR_recs _ _ i2 o2]
      simp only [List.nil_append]
      unfold finO
      rw [show ((x.1, x.2.1, ()) : Ou) = x from rfl, h0]
      simp
theorem says_true (x : Ou) (i1 : x.1.all rowIn = true) (i2 : x.2.1.all recIn = true) {a : List UInt8} {e : Unit} (h : outP x = (a, 0, e)) (hl : a.length ≤ 1000000) : law45_says x a = some (true, ()) := by
  obtain ⟨h1, h2, h3, h4⟩ := readback x i1 i2 h
  unfold law45_says
  rw [louts_eq x i1 i2 (by omega) (by omega), h, (ro_same a hl).1, h1]
  simp only [beq_self_eq_true, cond_true]
  rw [equal_eq x x (by omega) (by omega)]
  simp
/-! scripts -/
theorem pickT_no {p : Pk} (h : pickIn p = true) {c : UInt8} (hc : ¬ isD c) (h2 : c ≠ 45) (h3 : c ≠ 46) : c ∉ pickT p := by
  simp only [pickIn, Bool.and_eq_true] at h
  have h4 := itoaF_no h.1 hc h2
  have h5 := itoaF_no h.2 hc h2
  unfold pickT
  cases decide (0 ≤ p.2.1) with
  | false => simpa using h4
  | true =>
    simp only [cond_true, List.mem_append, List.mem_cons]
    rintro (h6 | h6 | h6)
    · exact h4 h6
    · exact h3 h6
    · exact h5 h6
theorem itoaF_ne {n : Int} (h : in64 n = true) : itoaF n ≠ [] := by
  obtain ⟨h0, h1⟩ := in64_s h
  rw [itoaF_eq h0 h1]
  unfold Lib.itoa
  split
  · simp
  · intro e
    have := dec_len n.toNat
    rw [e] at this
    simp at this
theorem pickT_ne {p : Pk} (h : pickIn p = true) : pickT p ≠ [] := by
  simp only [pickIn, Bool.and_eq_true] at h
  have := itoaF_ne h.1
  unfold pickT
  intro e
  exact this (List.append_eq_nil_iff.1 e).1
theorem split_join : ∀ (w : List UInt8) (ws : List (List UInt8)), (∀ v ∈ w :: ws, (32 : UInt8) ∉ v) → splitF 32 (joinF [32] ((w :: ws).map fun x => (x, ()))) = w :: ws
  | w, [], h => by
    have := splitG_word (c := 32) w [] [] (h w (by simp))
    rw [List.append_nil, List.nil_append, splitG_nil, splitG_z] at this
    exact this
  | w, v :: ws, h => by
    have e : joinF [32] ((w :: v :: ws).map fun x => (x, ())) = w ++ 32 :: joinF [32] ((v :: ws).map fun x => (x, ())) := rfl
    rw [e, ← splitG_z, splitG_word _ _ _ (h w (by simp)), List.nil_append, splitG_hit, splitG_z, split_join v ws fun u hu => h u (by simp [hu])]
theorem join_split : ∀ (ws : List (List UInt8)), joinF [32] (ws.map fun x => (x, ())) = unS 32 ws
  | [] => rfl
  | [w] => rfl
  | w :: v :: ws => by
    have ih := join_split (v :: ws)
    have e : joinF [32] ((w :: v :: ws).map fun x => (x, ())) = w ++ 32 :: joinF [32] ((v :: ws).map fun x => (x, ())) := rfl
    rw [e, ih]
    rfl
theorem readS_c : ∀ (l x : List Pk), l.all pickOk = true → readS (l.map pickT) x = bif chkP (x ++ l) != 0 then badS else (x ++ l, 0, ())
  | [], x, _ => by simp [readS]
  | p :: l, x, h => by
    rw [List.all_cons, Bool.and_eq_true] at h
    rw [List.map_cons, readS, rdP_c h.1]
    simp only
    rw [readS_c l _ h.2]
    simp
theorem readS_s : ∀ (ws : List (List UInt8)) (x : List Pk), readS ws x = badS ∨ ∃ l, readS ws x = (x ++ l, 0, ()) ∧ chkP (x ++ l) = 0 ∧ l.map pickT = ws
  | [], x => by
    rw [readS]
    cases hc : chkP x != 0 with
    | true => exact .inl rfl
    | false => exact .inr ⟨[], by simp, by simpa using hc, rfl⟩
  | w :: ws, x => by
    rw [readS]
    cases hr : rdP w with
    | none => exact .inl rfl
    | some p =>
      rcases readS_s ws (x ++ [p]) with h | ⟨l, h1, h2, h3⟩
      · exact .inl h
      · refine .inr ⟨p :: l, by simp only; rw [h1]; simp, by simpa using h2, ?_⟩
        rw [List.map_cons, h3, (rdP_s hr).2]
theorem rscript_s (s : List UInt8) (hs : s.length ≤ 1000000) : ∃ r, lines_ReadScript s = some r ∧ (r = badS ∨ ∃ l, r = (l, 0, ()) ∧ chkP l = 0 ∧ scriptT l = s) := by
  refine ⟨_, rscript_eq s hs, ?_⟩
  cases h : s == [] with
  | true =>
    obtain rfl := eq_of_beq h
    exact .inr ⟨[], rfl, rfl, rfl⟩
  | false =>
    rw [cond_false]
    rcases readS_s (splitF 32 s) [] with h | ⟨l, h1, h2, h3⟩
    · exact .inl h
    · rw [List.nil_append] at h1 h2
      refine .inr ⟨l, h1, h2, ?_⟩
      have := unS_split 32 s []
      rw [splitG_z, List.nil_append, ← h3, ← join_split, List.map_map] at this
      exact this
theorem rscript_c {l : List Pk} (h : chkP l = 0) : lines_ReadScript (scriptT l) = some (l, 0, ()) ∧ (scriptT l).length ≤ 1000000 := by
  obtain ⟨h1, h2⟩ := chkP_ok h
  have hb := joinF_len (l.map fun p => (pickT p, ())) 50 fun w hw => by
    obtain ⟨p, hp, rfl⟩ := List.mem_map.1 hw
    exact pickT_len (pickOk_in (List.all_eq_true.1 h2 p hp))
  rw [List.length_map] at hb
  have hl : (scriptT l).length ≤ 1000000 := by
    unfold scriptT
    omega
  refine ⟨?_, hl⟩
  rw [rscript_eq _ hl]
  cases l with
  | nil => rfl
  | cons p l =>
    have hw : ∀ v ∈ pickT p :: l.map pickT, (32 : UInt8) ∉ v := fun v hv => by
      rw [← List.map_cons (f := pickT)] at hv
      obtain ⟨q, hq, rfl⟩ := List.mem_map.1 hv
      exact pickT_no (pickOk_in (List.all_eq_true.1 h2 q hq)) (by unfold isD; decide) (by decide) (by decide)
    have e : scriptT (p :: l) = joinF [32] ((pickT p :: l.map pickT).map fun x => (x, ())) := by
      unfold scriptT
      rw [List.map_cons, List.map_cons, List.map_map]
      rfl
    have hsp := split_join (pickT p) (l.map pickT) hw
    rw [← e] at hsp
    have hne : (scriptT (p :: l) == []) = false := by
      cases hc : scriptT (p :: l) with
      | cons a b => rfl
      | nil =>
        rw [hc] at hsp
        have : [] = pickT p := (List.cons.inj (show ([] : List UInt8) :: [] = pickT p :: l.map pickT from hsp)).1
        exact absurd this.symm (pickT_ne (pickOk_in (List.all_eq_true.1 h2 p (by simp))))
    rw [hne, cond_false, hsp]
    have := readS_c (p :: l) [] h2
    rw [List.map_cons] at this
    rw [this, List.nil_append, h]
    rfl
theorem pkB (e0 e1 : Pk) : (e0.1 == e1.1 && (e0.2.1 == e1.2.1 && true)) = decide (e0 = e1) := by
  obtain ⟨a, b, u⟩ := e0
  obtain ⟨a', b', u'⟩ := e1
  rw [Bool.eq_iff_iff]
  simp
theorem samePk6 (l k : List Pk) (hl : l.length ≤ 1000000000) (hlk : l.length = k.length) : ∀ (rl rk : List Pk) (i n : Nat), l.drop i = rl → k.drop i = rk → i ≤ l.length → rl.length + 2 ≤ n → ref45_SamePicks_i6 n l k (i : Int) = some (decide (rl = rk), ())
  | [], rk, i, n, h, h', hi, hn => by
    obtain ⟨m, rfl⟩ : ∃ m, n = m + 1 := ⟨n - 1, by simp at hn; omega⟩
    have := drop_end h hi
    have hk : rk = [] := by rw [← h']; exact List.drop_eq_nil_of_le (by omega)
    subst hk
    rw [ref45_SamePicks_i6]
    unfold ref45_SamePicks_c6
    simp only [Int.ofNat_eq_natCast, iG (show ¬ i < l.length by omega), cond_false, decide_true]
  | a :: rl, rk, i, n, h, h', hi, hn => by
    obtain ⟨m, rfl⟩ : ∃ m, n = m + 1 := ⟨n - 1, by simp at hn; omega⟩
    obtain ⟨h1, h2, h3⟩ := drop_get h
    cases rk with
    | nil =>
      have := drop_end h' (by omega)
      omega
    | cons b rk =>
      obtain ⟨g1, g2, g3⟩ := drop_get h'
      rw [ref45_SamePicks_i6]
      unfold ref45_SamePicks_c6
      simp only [Int.ofNat_eq_natCast, iL h1, cond_true, iN, Int.toNat_natCast, h2, g2, pkB, wS (show i < 1000000000000 by omega)]
      rw [samePk6 l k hl hlk rl rk (i + 1) m h3 g3 (by omega) (by simp at hn; omega)]
      by_cases e : a = b
      · subst e
        simp
      · simp [e]
theorem samePk_eq (l k : List Pk) (hl : l.length ≤ 1000000000) : ref45_SamePicks l k = some (decide (l = k), ()) := by
  unfold ref45_SamePicks ref45_SamePicks_c
  by_cases e : l.length = k.length
  · have e1 : (Int.ofNat l.length != Int.ofNat k.length) = false := by simp [e]
    rw [e1, cond_false]
    exact samePk6 l k hl e l k 0 fuel rfl rfl (by omega) (by have := fuel_ge; omega)
  · have e1 : (Int.ofNat l.length != Int.ofNat k.length) = true := by simp; omega
    rw [e1, cond_true, decide_eq_false (fun h => e (by rw [h]))]
theorem picks_true {l : List Pk} (h : chkP l = 0) : law45_picks l (scriptT l) = some (true, ()) := by
  obtain ⟨h1, _⟩ := chkP_ok h
  unfold law45_picks
  rw [script_eq l (by omega), (rscript_c h).1, h]
  have e0 : ((0 : Int) != 0) = false := rfl
  simp only [e0, cond_false, beq_self_eq_true, cond_true]
  rw [samePk_eq l l (by omega)]
  simp
theorem many_s (l : List Pk) : ∃ b, ref37_Many l = some (b, ()) ∧ (b = false → l.length ≤ 2010) := by
  have e1 : decide (Int.ofNat (List.length l) > 2010) = decide (l.length > 2010) := by
    rw [decide_eq_decide]; simp; omega
  unfold ref37_Many
  rw [e1]
  by_cases h1 : l.length > 2010
  · refine ⟨true, ?_, fun h => by cases h⟩
    rw [decide_eq_true h1]
    cases decide (Int.ofNat (List.length l) > 60) <;> cases decide (Int.ofNat (List.length l) ≤ 2000) <;> rfl
  · rw [decide_eq_false h1]
    cases decide (Int.ofNat (List.length l) > 60) <;> cases decide (Int.ofNat (List.length l) ≤ 2000) <;> exact ⟨_, rfl, fun _ => by omega⟩
theorem joinF_no {c : UInt8} (hc : c ≠ 32) : ∀ (l : List (List UInt8 × Unit)), (∀ w ∈ l, c ∉ w.1) → c ∉ joinF [32] l
  | [], _ => by simp [joinF]
  | [w], h => h w (by simp)
  | w :: v :: l, h => by
    have ih := joinF_no hc (v :: l) fun u hu => h u (by simp [hu])
    rw [show joinF [32] (w :: v :: l) = w.1 ++ ([32] ++ joinF [32] (v :: l)) from rfl, List.mem_append, List.mem_append]
    rintro (h1 | h1 | h1)
    · exact h w (by simp) h1
    · exact hc (by simpa using h1)
    · exact ih h1
theorem readO_s (s : List UInt8) (hs : s.length ≤ 1000000) : readO s (splitF 10 s).dropLast ([], [], ()) = badO ∨ ∃ x, readO s (splitF 10 s).dropLast ([], [], ()) = (x, 0, ()) ∧ outP x = (s, 0, ()) ∧ x.1.all rowIn = true ∧ x.2.1.all recIn = true := by
  have hok := readO_len s hs
  unfold readO at hok ⊢
  cases hf : foldR (splitF 10 s).dropLast ([], [], ()) with
  | none => exact .inl rfl
  | some y =>
    rw [hf] at hok
    simp only [finO] at hok ⊢
    cases h1 : (outP y).2.1 != 0 with
    | true => exact .inl rfl
    | false =>
      cases h2 : (outP y).1 == s with
      | false => exact .inl rfl
      | true =>
        rw [h1, h2] at hok
        refine .inr ⟨y, rfl, ?_, hok.1, hok.2.1⟩
        have e1 : (outP y).2.1 = 0 := by simpa using h1
        have e2 := eq_of_beq h2
        exact Prod.ext e2 (Prod.ext e1 rfl)
theorem back_true (x : Ou) (l : List Pk) (s : List UInt8) (i1 : x.1.all rowIn = true) (i2 : x.2.1.all recIn = true) : law45_LinesBack x l s = some (true, ()) := by
  obtain ⟨b1, g1, q1⟩ := great_s x
  obtain ⟨b2, g2, q2⟩ := many_s l
  obtain ⟨n, hn⟩ : ∃ n, fuel = n + 1 + 1 + 1 + 1 + 1 + 1 + 1 := ⟨1152921504606846969, rfl⟩
  unfold law45_LinesBack law45_LinesBack_c
  rw [hn, g1, g2]
  cases b1 with
  | true => rfl
  | false =>
    cases b2 with
    | true => rfl
    | false =>
      obtain ⟨l1, l2⟩ := q1 rfl
      have l3 := q2 rfl
      simp only [cond_false]
      by_cases hs : s.length > 1000
      · rw [decide_eq_true (show Int.ofNat s.length > 1000 by simp; omega)]
        rfl
      rw [decide_eq_false (show ¬ Int.ofNat s.length > 1000 by simp; omega), cond_false]
      -- the end
      have fin : law45_LinesBack_i17 (n + 1 + 1 + 1) s true = some (true, ()) := by
        rw [law45_LinesBack_i17]
        unfold law45_LinesBack_c17
        obtain ⟨r, hr, hr2⟩ := rscript_s s (by omega)
        rw [(ro_same s (by omega)).1, hr]
        have key : ∀ (y : Ou) (g : Int) (k : List Pk) (h : Int), (g = 12 ∨ g = 0 ∧ law45_says (y.1, y.2.1, ()) s = some (true, ())) → (h = 12 ∨ h = 0 ∧ law45_picks k s = some (true, ())) → (g = 0 → h = 0 → s = []) → law45_LinesBack_i24 (n + 1 + 1) s true y.1 y.2.1 g k h = some (true, ()) := by
          intro y g k h hg hh hgh
          rw [law45_LinesBack_i24]
          unfold law45_LinesBack_c24
          simp only [law45_LinesBack_i26, law45_LinesBack_c26, cond_true]
          rcases hg with rfl | ⟨rfl, hg⟩ <;> rcases hh with rfl | ⟨rfl, hh⟩
          · rfl
          · simp [hh]
          · simp [hg]
          · have := hgh rfl rfl
            subst this
            simp [hg, hh]
        rcases readO_s s (by omega) with ho | ⟨y, ho, hy, j1, j2⟩
        · rw [ho]
          rcases hr2 with rfl | ⟨k, rfl, hk, hk2⟩
          · exact key ([], [], ()) 12 [] 12 (.inl rfl) (.inl rfl) (fun h => by cases h)
          · exact key ([], [], ()) 12 k 0 (.inl rfl) (.inr ⟨rfl, by rw [← hk2]; exact picks_true hk⟩) (fun h => by cases h)
        · rw [ho]
          have hsay := says_true y j1 j2 hy (by omega)
          rcases hr2 with rfl | ⟨k, rfl, hk, hk2⟩
          · exact key y 0 [] 12 (.inr ⟨rfl, hsay⟩) (.inl rfl) (fun _ h => by cases h)
          · refine key y 0 k 0 (.inr ⟨rfl, hsay⟩) (.inr ⟨rfl, by rw [← hk2]; exact picks_true hk⟩) fun _ _ => ?_
            obtain ⟨_, e1, _, _⟩ := readback y j1 j2 hy
            rcases outT_end y with h | ⟨p, h⟩
            · rw [e1, h]
            · exfalso
              have hin : (10 : UInt8) ∈ scriptT k := by
                rw [hk2, e1, h]
                simp
              refine joinF_no (c := 10) (by decide) _ (fun w hw => ?_) hin
              obtain ⟨p, hp, rfl⟩ := List.mem_map.1 hw
              exact pickT_no (pickOk_in (List.all_eq_true.1 (chkP_ok hk).2 p hp)) (by unfold isD; decide) (by decide) (by decide)
      have hout := louts_eq (x.1, x.2.1, ()) i1 i2 (by show x.1.length ≤ _; omega) (by show x.2.1.length ≤ _; omega)
      rw [law45_LinesBack_i3]
      unfold law45_LinesBack_c3
      rw [hout, script_eq l (by omega)]
      simp only
      -- what is told of the two texts
      have hO : ∀ a e u, outP (x.1, x.2.1, ()) = (a, e, u) → e = 0 → law45_says (x.1, x.2.1, ()) a = some (true, ()) := fun a e u h he => by
        subst he
        obtain ⟨_, e1, e2, e3⟩ := readback (x.1, x.2.1, ()) i1 i2 h
        have := outT_len (x.1, x.2.1, ()) i1 i2
        exact says_true (x.1, x.2.1, ()) i1 i2 h (by rw [e1]; simp only at this e2 e3 ⊢; omega)
      have hE : ((outP (x.1, x.2.1, ())).2.1 == 0) = (bif decide (x.1.length ≤ 4000) then (bif decide (x.2.1.length ≤ 4000) then x.1.all rowOk && x.2.1.all recOk else false) else false) := by
        unfold outP
        by_cases k1 : x.1.length > 4000
        · rw [decide_eq_true k1, decide_eq_false (show ¬ x.1.length ≤ 4000 by omega)]
          rfl
        · rw [decide_eq_false k1, decide_eq_true (show x.1.length ≤ 4000 by omega)]
          by_cases k2 : x.2.1.length > 4000
          · rw [decide_eq_true k2, decide_eq_false (show ¬ x.2.1.length ≤ 4000 by omega)]
            rfl
          · rw [decide_eq_false k2, decide_eq_true (show x.2.1.length ≤ 4000 by omega)]
            cases hh : (x.1.all rowOk && x.2.1.all recOk) <;> simp only [cond_true, cond_false, Bool.or_false, hh] <;> rfl
      generalize hp : outP (x.1, x.2.1, ()) = P at hO hE
      obtain ⟨a, e, u⟩ := P
      have hO := hO a e u rfl
      have mid : ∀ (b : List UInt8) (f : Int), (f = 0 → law45_picks l b = some (true, ())) → law45_LinesBack_i12 (n + 1 + 1 + 1 + 1) l s x.1 x.2.1 true a e b f = some (true, ()) := by
        intro b f hf
        rw [law45_LinesBack_i12]
        unfold law45_LinesBack_c12
        by_cases he : e = 0
        · rw [show (e == 0) = true by simpa using he, cond_true, hO he]
          by_cases hf0 : f = 0
          · rw [show (f == 0) = true by simpa using hf0]
            simp only [cond_true, Bool.not_true, cond_false, hf hf0]
            exact fin
          · rw [show (f == 0) = false by simpa using hf0]
            simp only [Bool.not_true, cond_false]
            exact fin
        · rw [show (e == 0) = false by simpa using he, cond_false]
          by_cases hf0 : f = 0
          · rw [show (f == 0) = true by simpa using hf0]
            simp only [cond_true, Bool.not_true, cond_false, hf hf0]
            exact fin
          · rw [show (f == 0) = false by simpa using hf0, cond_false]
            exact fin
      have top : ∀ (b : List UInt8) (f : Int), (f == 0) = (chkP l == 0) → (f = 0 → law45_picks l b = some (true, ())) → law45_LinesBack_i10 (n + 1 + 1 + 1 + 1 + 1) l s x.1 x.2.1 true a e b f = some (true, ()) := by
        intro b f hf0 hf
        rw [law45_LinesBack_i10]
        unfold law45_LinesBack_c10
        rw [rchk_eq l (by omega), right_eq (x.1, x.2.1, ()) (by show x.1.length ≤ _; omega) (by show x.2.1.length ≤ _; omega)]
        have d1 : decide (Int.ofNat (List.length x.1) ≤ 4000) = decide (x.1.length ≤ 4000) := by rw [decide_eq_decide]; simp; omega
        have d2 : decide (Int.ofNat (List.length x.2.1) ≤ 4000) = decide (x.2.1.length ≤ 4000) := by rw [decide_eq_decide]; simp; omega
        simp only [d1, d2, hf0]
        simp only at hE
        rw [hE]
        have m := mid b f hf
        cases decide (x.1.length ≤ 4000) with
        | false =>
          simp only [cond_false, beq_self_eq_true, Bool.not_true]
          exact m
        | true =>
          cases decide (x.2.1.length ≤ 4000) with
          | false =>
            simp only [cond_false, cond_true, beq_self_eq_true, Bool.not_true]
            exact m
          | true =>
            simp only [cond_true, beq_self_eq_true, Bool.not_true, cond_false]
            exact m
      by_cases hc : chkP l = 0
      · rw [hc]
        have e0 : ((0 : Int) != 0) = false := rfl
        simp only [e0, cond_false]
        exact top (scriptT l) 0 (by rw [hc]) fun _ => picks_true hc
      · have e0 : (chkP l != 0) = true := by simpa using hc
        simp only [e0, cond_true]
        exact top [] (chkP l) rfl fun h => absurd h hc
end Tg
