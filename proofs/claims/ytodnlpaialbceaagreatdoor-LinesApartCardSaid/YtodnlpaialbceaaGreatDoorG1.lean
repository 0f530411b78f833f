import Derived.Test.YtodnlpaialbceaaGreatDoorNO
/- Graphs without circles: what Kahn's order says. -/
set_option linter.unusedVariables false
set_option linter.unusedSimpArgs false
namespace Tg
open Go Go.RowKit Tn
inductive Pth (E : List Ch) : Int → Int → Prop
 | one (c : Ch) (h : c ∈ E) : Pth E c.1 c.2.2.1
 | step (a : Int) (c : Ch) (p : Pth E a c.1) (h : c ∈ E) : Pth E a c.2.2.1
theorem Pth.trans {E : List Ch} {a b c : Int} (h1 : Pth E a b) (h2 : Pth E b c) : Pth E a c := by
 induction h2 with
 | one x h => exact .step a x h1 h
 | step b x p h ih => exact .step a x (ih h1) h
theorem least {E : List Ch} (hE : ∀ x, ¬ Pth E x x) : ∀ (n : Nat) (R : List Int), R.length ≤ n → R ≠ [] → ∃ m ∈ R, ∀ z ∈ R, ¬ Pth E z m := by
 intro n
 induction n with
 | zero => intro R h h0; exact absurd (List.length_eq_zero_iff.1 (by omega)) h0
 | succ n ih =>
  intro R h h0
  cases R with
  | nil => exact absurd rfl h0
  | cons x R =>
   by_cases hx : ∃ y ∈ R, Pth E y x
   · have hdec : ∀ y, Decidable (Pth E y x) := fun y => Classical.propDecidable _
     let S := R.filter fun y => @decide (Pth E y x) (hdec y)
     have hS : S ≠ [] := by
      obtain ⟨y, hy, hp⟩ := hx
      have : y ∈ S := List.mem_filter.2 ⟨hy, by simpa using hp⟩
      intro e
      rw [e] at this
      cases this
     have hl : S.length ≤ n := by
      have := List.length_filter_le (fun y => @decide (Pth E y x) (hdec y)) R
      simp only [List.length_cons] at h
      show (R.filter _).length ≤ n
      omega
     obtain ⟨m, hm, hmin⟩ := ih S hl hS
     obtain ⟨hmR, hmx⟩ := List.mem_filter.1 hm
     have hmx : Pth E m x := by simpa using hmx
     refine ⟨m, by simp [hmR], fun z hz hzm => ?_⟩
     rcases List.mem_cons.1 hz with rfl | hz
     · exact hE z (hzm.trans hmx)
     · exact hmin z (List.mem_filter.2 ⟨hz, by simpa using hzm.trans hmx⟩) hzm
   · refine ⟨x, by simp, fun z hz hzx => ?_⟩
     rcases List.mem_cons.1 hz with rfl | hz
     · exact hE _ hzx
     · exact hx ⟨z, hz, hzx⟩
theorem w64' {x : Int} (h1 : -9223372036854775808 ≤ x) (h2 : x ≤ 9223372036854775807) : RowKit.wrap64 x = x := Go.IntWalk.wrap64_in x ⟨h1, h2⟩
def cntW (E : List Ch) (R : List Int) (k : Int) : Nat := (E.filter fun c => decide (c.2.2.1 = k) && R.contains c.1).length
theorem cntW_le (E : List Ch) (R : List Int) (k : Int) : cntW E R k ≤ E.length := List.length_filter_le _ _
def keys (W : List (Int × Int)) : List Int := W.map (·.1)
theorem look_keys {W : List (Int × Int)} (k : Int) : (lookW k W).isSome = true ↔ k ∈ keys W := by
 induction W with
 | nil => simp [lookW, keys]
 | cons p W ih =>
  obtain ⟨a, v⟩ := p
  unfold lookW keys
  by_cases h : a = k
  · subst h; simp
  · rw [if_neg h, ih]
    simp only [List.map_cons, List.mem_cons, keys]
    constructor
    · exact .inr
    · rintro (rfl | h')
      · exact absurd rfl h
      · exact h'
structure Inv (E : List Ch) (W : List (Int × Int)) : Prop where
 nd : (keys W).Nodup
 cnt : ∀ k ∈ keys W, lookW k W = some (cntW E (keys W) k : Int)
 cl : ∀ c ∈ E, c.1 ∈ keys W → c.2.2.1 ∈ keys W
 pos : Pos W
def outW (nx k : Int) (l : List Ch) : Nat := (l.filter fun c => decide (c.2.2.1 = k) && decide (c.1 = nx)).length
theorem outW_cons (nx k : Int) (c : Ch) (l : List Ch) : outW nx k (c :: l) = (if c.2.2.1 = k ∧ c.1 = nx then 1 else 0) + outW nx k l := by
 unfold outW
 rw [List.filter_cons]
 by_cases h1 : c.2.2.1 = k <;> by_cases h2 : c.1 = nx <;> simp [h1, h2] <;> omega
theorem decs_look (nx : Int) : ∀ (l : List Ch) (W : List (Int × Int)), (∀ c ∈ l, c.1 = nx → c.2.2.1 ∈ keys W) → (∀ k v, lookW k W = some v → -1000000 + (l.length : Int) ≤ v ∧ v ≤ 1000000) →
    ∀ k, lookW k (decsW nx l W) = (lookW k W).map fun v => v - (outW nx k l : Int)
  | [], W, _, _, k => by
   rw [decsW]
   cases lookW k W with
   | none => rfl
   | some v => simp [outW]
  | c :: l, W, hk, hb, k => by
   rw [decsW]
   by_cases hc : c.1 = nx
   · rw [if_pos hc]
     have hm := hk c (by simp) hc
     obtain ⟨v, hv⟩ := Option.isSome_iff_exists.1 ((look_keys c.2.2.1).2 hm)
     obtain ⟨b1, b2⟩ := hb _ v hv
     simp only [List.length_cons] at b1
     rw [hv, Option.getD_some, w64' (by omega) (by omega)]
     rw [decs_look nx l (setW c.2.2.1 (v - 1) W) (fun d hd hn => by
      rw [← look_keys, lookW_set]
      split
      · rfl
      · exact (look_keys _).2 (hk d (by simp [hd]) hn)) (fun j u hu => by
        rw [lookW_set] at hu
        split at hu
        · obtain rfl := Option.some.inj hu
          omega
        · have := hb j u hu
          simp only [List.length_cons] at this
          omega) k]
     rw [lookW_set, outW_cons]
     by_cases hk2 : k = c.2.2.1
     · subst hk2
       rw [if_pos rfl, if_pos ⟨rfl, hc⟩, hv]
       simp only [Option.map_some, Option.some.injEq]
       omega
     · rw [if_neg hk2, if_neg (fun h => hk2 h.1.symm)]
       simp
   · rw [if_neg hc, decs_look nx l W (fun d hd hn => hk d (by simp [hd]) hn) (fun j u hu => by
      have := hb j u hu
      simp only [List.length_cons] at this
      omega) k, outW_cons, if_neg (fun h => hc h.2)]
     simp
def toW (k : Int) (l : List Ch) : Nat := (l.filter fun c => decide (c.2.2.1 = k)).length
theorem toW_cons (k : Int) (c : Ch) (l : List Ch) : toW k (c :: l) = (if c.2.2.1 = k then 1 else 0) + toW k l := by
 unfold toW
 rw [List.filter_cons]
 by_cases h1 : c.2.2.1 = k <;> simp [h1] <;> omega
theorem incs_look : ∀ (l : List Ch) (W : List (Int × Int)), (∀ c ∈ l, c.2.2.1 ∈ keys W) → (∀ k v, lookW k W = some v → 0 ≤ v ∧ v + (l.length : Int) ≤ 1000000) →
    ∀ k, lookW k (incsW l W) = (lookW k W).map fun v => v + (toW k l : Int)
  | [], W, _, _, k => by
   rw [incsW]
   cases lookW k W with
   | none => rfl
   | some v => simp [toW]
  | c :: l, W, hk, hb, k => by
   rw [incsW]
   obtain ⟨v, hv⟩ := Option.isSome_iff_exists.1 ((look_keys c.2.2.1).2 (hk c (by simp)))
   obtain ⟨b1, b2⟩ := hb _ v hv
   simp only [List.length_cons] at b2
   rw [hv, Option.getD_some, w64' (by omega) (by omega)]
   rw [incs_look l (setW c.2.2.1 (v + 1) W) (fun d hd => by
    rw [← look_keys, lookW_set]
    split
    · rfl
    · exact (look_keys _).2 (hk d (by simp [hd]))) (fun j u hu => by
      rw [lookW_set] at hu
      split at hu
      · obtain rfl := Option.some.inj hu
        omega
      · have := hb j u hu
        simp only [List.length_cons] at this
        omega) k]
   rw [lookW_set, toW_cons]
   by_cases hk2 : k = c.2.2.1
   · subst hk2
     rw [if_pos rfl, if_pos rfl, hv]
     simp only [Option.map_some, Option.some.injEq]
     omega
   · rw [if_neg hk2, if_neg (fun h => hk2 h.symm)]
     simp
theorem nodup_decs (nx : Int) : ∀ (l : List Ch) (W : List (Int × Int)), (keys W).Nodup → (keys (decsW nx l W)).Nodup
 | [], W, h => h
 | c :: l, W, h => by
  rw [decsW]
  apply nodup_decs nx l
  split
  · exact nodup_set _ _ _ h
  · exact h
theorem nodup_incs : ∀ (l : List Ch) (W : List (Int × Int)), (keys W).Nodup → (keys (incsW l W)).Nodup
 | [], W, h => h
 | c :: l, W, h => by
  rw [incsW]
  exact nodup_incs l _ (nodup_set _ _ _ h)
theorem cnt_split (E : List Ch) (R S : List Int) (nx k : Int) (h : ∀ x, x ∈ R ↔ x = nx ∨ x ∈ S) (hn : nx ∉ S) : cntW E R k = cntW E S k + outW nx k E := by
 unfold cntW outW
 induction E with
 | nil => rfl
 | cons c E ih =>
  simp only [List.filter_cons]
  have hR : R.contains c.1 = (decide (c.1 = nx) || S.contains c.1) := by
   rw [Bool.eq_iff_iff]
   simp [h]
  by_cases h1 : c.2.2.1 = k
  · by_cases h2 : c.1 = nx
    · have h3 : S.contains nx = false := by simpa using hn
      have h4 : R.contains nx = true := by simp [h]
      simp only [h1, h2, decide_true, Bool.true_and, if_true, h3, h4, Bool.false_eq_true, if_false, List.length_cons]
      omega
    · cases h3 : S.contains c.1 <;> simp only [h1, hR, h2, h3, decide_true, decide_false, Bool.true_and, Bool.false_or, Bool.and_false, Bool.false_eq_true, if_true, if_false, List.length_cons] <;> omega
  · simp only [h1, decide_false, Bool.false_and, Bool.false_eq_true, if_false]
    exact ih
theorem cnt_zero {E : List Ch} {R : List Int} {k : Int} (h : cntW E R k = 0) {c : Ch} (hc : c ∈ E) (h1 : c.2.2.1 = k) : c.1 ∉ R := by
 intro h2
 have : c ∈ E.filter fun c => decide (c.2.2.1 = k) && R.contains c.1 := List.mem_filter.2 ⟨hc, by simp [h1, h2]⟩
 have h3 : E.filter (fun c => decide (c.2.2.1 = k) && R.contains c.1) = [] := List.length_eq_zero_iff.1 h
 rw [h3] at this
 cases this
theorem cnt_pos {E : List Ch} {R : List Int} {k : Int} (h : cntW E R k ≠ 0) : ∃ c ∈ E, c.2.2.1 = k ∧ c.1 ∈ R := by
 unfold cntW at h
 cases hf : E.filter (fun c => decide (c.2.2.1 = k) && R.contains c.1) with
 | nil => rw [hf] at h; exact absurd rfl h
 | cons c l =>
  have : c ∈ E.filter fun c => decide (c.2.2.1 = k) && R.contains c.1 := by rw [hf]; simp
  obtain ⟨h1, h2⟩ := List.mem_filter.1 this
  simp only [Bool.and_eq_true, decide_eq_true_eq, List.contains_iff_mem] at h2
  exact ⟨c, h1, h2.1, h2.2⟩
theorem pth_in {E : List Ch} {R : List Int} (hcl : ∀ c ∈ E, c.1 ∈ R → c.2.2.1 ∈ R) {a b : Int} (h : Pth E a b) (ha : a ∈ R) : b ∈ R := by
 induction h with
 | one c h => exact hcl c h ha
 | step a c p h ih => exact hcl c h (ih ha)
theorem pth_last {E : List Ch} {a b : Int} (h : Pth E a b) : ∃ c ∈ E, c.2.2.1 = b ∧ (c.1 = a ∨ Pth E a c.1) := by
 cases h with
 | one c h => exact ⟨c, h, rfl, .inl rfl⟩
 | step a c p h => exact ⟨c, h, rfl, .inr p⟩
theorem kahn {E : List Ch} (hE : E.length ≤ 1000) : ∀ (m : Nat) (W : List (Int × Int)) (out : List Int), W.length < m → Inv E W →
    ∃ r, orderW E m W out = some r ∧ r.length ≤ out.length + W.length ∧ (r.length = out.length + W.length ↔ ∀ x ∈ keys W, ¬ Pth E x x) := by
  intro m
  induction m with
  | zero => intro W out h; omega
  | succ m ih =>
   intro W out hm hI
   cases W with
   | nil => exact ⟨out, rfl, by simp, by simp [keys]⟩
   | cons p W' =>
    generalize hW : p :: W' = W at hm hI
    have hne : W ≠ [] := by rw [← hW]; simp
    have hkne : keys W ≠ [] := by rw [← hW]; simp [keys]
    have hdef : orderW E (m + 1) W out = if nextW W < 0 then some out else orderW E m (decsW (nextW W) E (dropW (nextW W) W)) (out ++ [nextW W]) := by rw [← hW]; rfl
    have hlen : W.length = W'.length + 1 := by rw [← hW]; rfl
    rcases NX.next hI.nd hI.pos with ⟨h0, h1⟩ | ⟨h0, h1, _, _⟩
    · rw [hdef, if_pos (by omega)]
      refine ⟨out, rfl, by omega, ?_⟩
      constructor
      · intro h
        omega
      · intro h
        exfalso
        -- without circles there is a least one
        have hR : ∀ x, ¬ Pth (E.filter fun c => (keys W).contains c.1) x x := fun x hx => by
         have hsub : ∀ a b, Pth (E.filter fun c => (keys W).contains c.1) a b → Pth E a b ∧ a ∈ keys W := by
          intro a b hp
          induction hp with
          | one c hc =>
           obtain ⟨g1, g2⟩ := List.mem_filter.1 hc
           exact ⟨.one c g1, by simpa using g2⟩
          | step a c p hc ih2 => exact ⟨.step a c ih2.1 (List.mem_filter.1 hc).1, ih2.2⟩
         obtain ⟨g1, g2⟩ := hsub x x hx
         exact h x g2 g1
        obtain ⟨k, hk, hmin⟩ := least hR _ (keys W) (Nat.le_refl _) hkne
        have hc := hI.cnt k hk
        by_cases hz : cntW E (keys W) k = 0
        · rw [hz] at hc
          have := h1 k hc
          cases this
        · obtain ⟨c, g1, g2, g3⟩ := cnt_pos hz
          refine hmin c.1 g3 ?_
          rw [← g2]
          exact .one c (List.mem_filter.2 ⟨g1, by simpa using g3⟩)
    · rw [hdef, if_neg (by omega)]
      generalize hnx : nextW W = nx at h0 h1
      have hkn : nx ∈ keys W := (look_keys nx).1 (by rw [h1]; rfl)
      have hcz : cntW E (keys W) nx = 0 := by
       have := hI.cnt nx hkn
       rw [h1] at this
       have := Option.some.inj this
       omega
      have hself : ∀ c ∈ E, c.2.2.1 = nx → c.1 ∉ keys W := fun c hc h => cnt_zero hcz hc h
      have hmem : ∀ x, x ∈ keys (dropW nx W) ↔ x ≠ nx ∧ x ∈ keys W := fun x => by
       rw [← look_keys, lookW_drop hI.nd]
       by_cases e : x = nx
       · simp [e]
       · rw [if_neg e, look_keys]
         simp [e]
      have hout : ∀ c ∈ E, c.1 = nx → c.2.2.1 ∈ keys (dropW nx W) := fun c hc h => by
       rw [hmem]
       refine ⟨fun e => hself c hc e (by rw [h]; exact hkn), hI.cl c hc (by rw [h]; exact hkn)⟩
      have hlook := decs_look nx E (dropW nx W) hout (fun k v hv => by
       rw [lookW_drop hI.nd] at hv
       split at hv
       · cases hv
       · have hk : k ∈ keys W := (look_keys k).1 (by rw [hv]; rfl)
         have := hI.cnt k hk
         rw [hv] at this
         have := Option.some.inj this
         have := cntW_le E (keys W) k
         omega)
      have hkeys : ∀ x, x ∈ keys (decsW nx E (dropW nx W)) ↔ x ≠ nx ∧ x ∈ keys W := fun x => by
       rw [← look_keys, hlook, ← hmem, ← look_keys]
       cases lookW x (dropW nx W) <;> simp
      have hInd : (keys (decsW nx E (dropW nx W))).Nodup := nodup_decs nx E _ (List.Nodup.sublist (keys_drop nx W) hI.nd)
      have hlenD : (decsW nx E (dropW nx W)).length + 1 = W.length := by
       have e1 : (keys W).Perm (nx :: keys (decsW nx E (dropW nx W))) := by
        refine (List.perm_ext_iff_of_nodup hI.nd (List.nodup_cons.2 ⟨fun h => ((hkeys nx).1 h).1 rfl, hInd⟩)).2 fun x => ?_
        rw [List.mem_cons, hkeys]
        by_cases e : x = nx
        · simp [e, hkn]
        · simp [e]
       have := e1.length_eq
       simpa [keys] using this.symm
      have hI2 : Inv E (decsW nx E (dropW nx W)) := by
       refine ⟨hInd, fun k hk => ?_, fun c hc h => ?_, fun k hk => ?_⟩
       · obtain ⟨g1, g2⟩ := (hkeys k).1 hk
         rw [hlook, lookW_drop hI.nd, if_neg g1, hI.cnt k g2]
         simp only [Option.map_some, Option.some.injEq]
         have := cnt_split E (keys W) (keys (decsW nx E (dropW nx W))) nx k (fun x => by
          rw [hkeys]
          by_cases e : x = nx
          · simp [e, hkn]
          · simp [e]) (fun h => ((hkeys nx).1 h).1 rfl)
         omega
       · obtain ⟨g1, g2⟩ := (hkeys c.1).1 h
         exact (hkeys _).2 ⟨fun e => hself c hc e g2, hI.cl c hc g2⟩
       · have := (hkeys k).1 ((look_keys k).1 hk)
         exact hI.pos k ((look_keys k).2 this.2)
      obtain ⟨r, hr1, hr2, hr3⟩ := ih (decsW nx E (dropW nx W)) (out ++ [nx]) (by omega) hI2
      refine ⟨r, hr1, by rw [List.length_append] at hr2; simp at hr2; omega, ?_⟩
      rw [List.length_append] at hr3
      simp only [List.length_cons, List.length_nil] at hr3
      rw [show out.length + W.length = out.length + (0 + 1) + (decsW nx E (dropW nx W)).length by omega, hr3]
      constructor
      · intro h x hx hp
        by_cases e : x = nx
        · subst e
          obtain ⟨c, g1, g2, g3⟩ := pth_last hp
          refine hself c g1 g2 ?_
          rcases g3 with g3 | g3
          · rw [g3]; exact hx
          · exact pth_in hI.cl g3 hx
        · exact h x ((hkeys x).2 ⟨e, hx⟩) hp
      · intro h x hx
        exact h x ((hkeys x).1 hx).2
theorem zer_look : ∀ (n : Nat) (k : Int), lookW k (zer n) = if 0 ≤ k ∧ k < n then some 0 else none
 | 0, k => by
  rw [zer, if_neg (by omega)]
  rfl
 | n + 1, k => by
  rw [zer, lookW_set, zer_look n k]
  by_cases h : k = n
  · rw [if_pos h, if_pos (by omega)]
  · rw [if_neg h]
    by_cases h2 : 0 ≤ k ∧ k < n
    · rw [if_pos h2, if_pos (by omega)]
    · rw [if_neg h2, if_neg (by omega)]
theorem nodup_zer : ∀ n, (keys (zer n)).Nodup
 | 0 => List.nodup_nil
 | n + 1 => nodup_set _ _ _ (nodup_zer n)
theorem len_zer : ∀ n, (zer n).length = n
 | 0 => rfl
 | n + 1 => by
  have e : lookW (n : Int) (zer n) = none := by rw [zer_look, if_neg (by omega)]
  rw [zer, length_set, e, len_zer n]
  rfl
theorem len_incs : ∀ (l : List Ch) (W : List (Int × Int)), (∀ c ∈ l, c.2.2.1 ∈ keys W) → (incsW l W).length = W.length
 | [], W, _ => rfl
 | c :: l, W, h => by
  rw [incsW, len_incs l _ (fun d hd => by
   rw [← look_keys, lookW_set]
   split
   · rfl
   · exact (look_keys _).2 (h d (by simp [hd]))), length_set, if_pos ((look_keys _).2 (h c (by simp)))]
theorem order_all (n : Nat) (E : List Ch) (hn : n ≤ 1000) (hE : E.length ≤ 1000) (h : ∀ c ∈ E, 0 ≤ c.1 ∧ c.1 < n ∧ 0 ≤ c.2.2.1 ∧ c.2.2.1 < n) (m : Nat) (hm : n < m) :
    ∃ r, orderW E m (incsW E (zer n)) [] = some r ∧ (r.length = n ↔ ∀ x : Int, 0 ≤ x → x < n → ¬ Pth E x x) := by
  have hz : ∀ k, k ∈ keys (zer n) ↔ 0 ≤ k ∧ k < n := fun k => by
   rw [← look_keys, zer_look]
   split
   · rename_i h; simp [h]
   · rename_i h; simp [h]
  have hto : ∀ c ∈ E, c.2.2.1 ∈ keys (zer n) := fun c hc => (hz _).2 ⟨(h c hc).2.2.1, (h c hc).2.2.2⟩
  have hlook := incs_look E (zer n) hto (fun k v hv => by
   rw [zer_look] at hv
   split at hv
   · obtain rfl := Option.some.inj hv
     omega
   · cases hv)
  have hk : ∀ k, k ∈ keys (incsW E (zer n)) ↔ 0 ≤ k ∧ k < n := fun k => by
   rw [← look_keys, hlook, ← hz, ← look_keys]
   cases lookW k (zer n) <;> simp
  have hlen : (incsW E (zer n)).length = n := by rw [len_incs E _ hto, len_zer]
  have hI : Inv E (incsW E (zer n)) := by
   refine ⟨nodup_incs E _ (nodup_zer n), fun k hk1 => ?_, fun c hc _ => (hk _).2 ⟨(h c hc).2.2.1, (h c hc).2.2.2⟩, fun k hk1 => ?_⟩
   · rw [hlook, zer_look, if_pos ((hk k).1 hk1)]
     simp only [Option.map_some, Option.some.injEq]
     have : toW k E = cntW E (keys (incsW E (zer n))) k := by
      unfold toW cntW
      congr 1
      apply List.filter_congr
      intro c hc
      have : (keys (incsW E (zer n))).contains c.1 = true := by
       rw [List.contains_iff_mem]
       exact (hk _).2 ⟨(h c hc).1, (h c hc).2.1⟩
      rw [this, Bool.and_true]
     omega
   · have := (hk k).1 ((look_keys k).1 hk1)
     omega
  obtain ⟨r, h1, h2, h3⟩ := kahn hE m (incsW E (zer n)) [] (by omega) hI
  refine ⟨r, h1, ?_⟩
  rw [hlen] at h3
  simp only [List.length_nil, Nat.zero_add] at h3
  rw [h3]
  constructor
  · intro g x hx1 hx2
    exact g x ((hk x).2 ⟨hx1, hx2⟩)
  · intro g x hx
    exact g x ((hk x).1 hx).1 ((hk x).1 hx).2
end Tg
