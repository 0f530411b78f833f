import Derived.Test.YtodnlpaialbceaaGreatDoorPS
/- Different outputs, scripts and graphs have different texts; how many lines there are. -/
set_option linter.unusedVariables false
set_option linter.unusedSimpArgs false
namespace Tg
open Go
open Go.Abs (fuel bigOk)
theorem count4 (s : List UInt8) (hs : s.length ≤ 1000000000) : ∀ (rest : List UInt8) (i n a : Nat), s.drop i = rest → i ≤ s.length → rest.length + 1 ≤ n → a ≤ i → law45_count_i4 n s (a : Int) (i : Int) = some ((a : Int) + (rest.count 10 : Nat), ())
 | [], i, n, a, h, hi, hn, ha => by
  obtain ⟨m, rfl⟩ : ∃ m, n = m + 1 := ⟨n - 1, by simp at hn; omega⟩
  have := drop_end h hi
  rw [law45_count_i4]
  unfold law45_count_c4
  simp only [Int.ofNat_eq_natCast, iG (show ¬ i < s.length by omega), cond_false]
  simp
 | b :: rest, i, n, a, h, hi, hn, ha => by
  obtain ⟨m, rfl⟩ : ∃ m, n = m + 1 := ⟨n - 1, by simp at hn; omega⟩
  obtain ⟨h1, h2, h3⟩ := drop_get h
  rw [law45_count_i4]
  unfold law45_count_c4
  simp only [Int.ofNat_eq_natCast, iL h1, cond_true, iN, Int.toNat_natCast, h2, wS (show i < 1000000000000 by omega), wS (show a < 1000000000000 by omega)]
  have e : ((UInt8.toNat b : Int) == (10 : Int)) = (b == 10) := by
   rw [Bool.eq_iff_iff, beq_iff_eq, beq_iff_eq]
   constructor
   · intro h
     apply UInt8.toNat_inj.1
     show b.toNat = 10
     omega
   · rintro rfl
     rfl
  rw [e, count4 s hs rest (i + 1) m (a + 1) h3 (by omega) (by simp at hn; omega) (by omega), count4 s hs rest (i + 1) m a h3 (by omega) (by simp at hn; omega) (by omega), List.count_cons]
  cases hb : b == 10 with
  | true => simp; omega
  | false => simp
theorem count_eq (s : List UInt8) (hs : s.length ≤ 1000000000) : law45_count s = some (((s.count 10 : Nat) : Int), ()) := by
 obtain ⟨n, hn⟩ := fuel_s
 have := count4 s hs s 0 fuel 0 rfl (by omega) (by rw [hn]; omega) (by omega)
 simpa [law45_count, law45_count_c] using this
theorem lines_count : ∀ ws : List (List UInt8), (∀ w ∈ ws, (10 : UInt8) ∉ w) → (ws.flatMap fun w => w ++ [10]).count 10 = ws.length
 | [], _ => rfl
 | w :: ws, h => by
  rw [List.flatMap_cons, List.count_append, List.count_append, lines_count ws fun v hv => h v (by simp [hv]), List.count_eq_zero_of_not_mem (h w (by simp))]
  simp
  omega
theorem cnB (d c : Cn) : (d.1 == c.1 && (d.2.1 == c.2.1 && (d.2.2.1 == c.2.2.1 && (d.2.2.2.1 == c.2.2.2.1 && (d.2.2.2.2.1 == c.2.2.2.2.1 && true))))) = decide (d = c) := by
 obtain ⟨a1, a2, a3, a4, a5, _⟩ := d
 obtain ⟨b1, b2, b3, b4, b5, _⟩ := c
 rw [Bool.eq_iff_iff]
 simp
theorem same14 (l k : List Cn) (hl : l.length ≤ 1000000000) (hlk : l.length = k.length) : ∀ (rl rk : List Cn) (i n : Nat), l.drop i = rl → k.drop i = rk → i ≤ l.length → rl.length + 2 ≤ n → ref24_Same_i14 n l k (i : Int) = some (decide (rl = rk), ())
 | [], rk, i, n, h, h', hi, hn => by
  obtain ⟨m, rfl⟩ : ∃ m, n = m + 1 := ⟨n - 1, by simp at hn; omega⟩
  have := drop_end h hi
  rw [ref24_Same_i14]
  unfold ref24_Same_c14
  have hk : rk = [] := by rw [← h', List.drop_eq_nil_of_le (by omega)]
  subst hk
  simp only [Int.ofNat_eq_natCast, iG (show ¬ i < l.length by omega), cond_false]
  rfl
 | b :: rl, [], i, n, h, h', hi, hn => by
  obtain ⟨h1, h2, h3⟩ := drop_get h
  have := drop_end h' (by omega)
  omega
 | b :: rl, d :: rk, i, n, h, h', hi, hn => by
  obtain ⟨m, rfl⟩ : ∃ m, n = m + 1 := ⟨n - 1, by simp at hn; omega⟩
  obtain ⟨h1, h2, h3⟩ := drop_get h
  obtain ⟨g1, g2, g3⟩ := drop_get h'
  rw [ref24_Same_i14]
  unfold ref24_Same_c14
  simp only [Int.ofNat_eq_natCast, iL h1, cond_true, iN, Int.toNat_natCast, h2, g2, wS (show i < 1000000000000 by omega), cnB]
  rw [same14 l k hl hlk rl rk (i + 1) m h3 g3 (by omega) (by simp at hn; omega)]
  by_cases e : b = d
  · subst e; simp
  · simp [e]
theorem same6 (l k : List Op) (c d : List Cn) (hl : l.length ≤ 1000000000) (hlk : l.length = k.length) (hc : c.length ≤ 1000000000) (hcd : c.length = d.length) : ∀ (rl rk : List Op) (i n : Nat), l.drop i = rl → k.drop i = rk → i ≤ l.length → rl.length + c.length + 5 ≤ n → ref24_Same_i6 n l c k d (i : Int) = some (decide (rl = rk) && decide (c = d), ())
 | [], rk, i, n, h, h', hi, hn => by
  obtain ⟨m, rfl⟩ : ∃ m, n = m + 1 + 1 := ⟨n - 2, by simp at hn; omega⟩
  have := drop_end h hi
  rw [ref24_Same_i6]
  unfold ref24_Same_c6
  have hk : rk = [] := by rw [← h', List.drop_eq_nil_of_le (by omega)]
  subst hk
  simp only [Int.ofNat_eq_natCast, iG (show ¬ i < l.length by omega), cond_false]
  rw [ref24_Same_i4]
  unfold ref24_Same_c4
  have := same14 c d hc hcd c d 0 m rfl rfl (by omega) (by simp at hn; omega)
  rw [show ((0 : Nat) : Int) = 0 from rfl] at this
  rw [this]
  simp
 | b :: rl, [], i, n, h, h', hi, hn => by
  obtain ⟨h1, h2, h3⟩ := drop_get h
  have := drop_end h' (by omega)
  omega
 | b :: rl, e :: rk, i, n, h, h', hi, hn => by
  obtain ⟨m, rfl⟩ : ∃ m, n = m + 1 := ⟨n - 1, by simp at hn; omega⟩
  obtain ⟨h1, h2, h3⟩ := drop_get h
  obtain ⟨g1, g2, g3⟩ := drop_get h'
  rw [ref24_Same_i6]
  unfold ref24_Same_c6
  simp only [Int.ofNat_eq_natCast, iL h1, cond_true, iN, Int.toNat_natCast, h2, g2, wS (show i < 1000000000000 by omega), pkB]
  rw [same6 l k c d hl hlk hc hcd rl rk (i + 1) m h3 g3 (by omega) (by simp at hn; omega)]
  by_cases q : b = e
  · subst q; simp
  · simp [q]
theorem same_eq (g h : Gr) (h1 : g.1.length ≤ 1000000) (h2 : g.2.1.length ≤ 1000000) : ref24_Same g h = some (decide (g.1 = h.1) && decide (g.2.1 = h.2.1), ()) := by
 obtain ⟨n, hn⟩ := fuel_s
 unfold ref24_Same ref24_Same_c
 by_cases e1 : g.1.length = h.1.length
 · by_cases e2 : g.2.1.length = h.2.1.length
   · rw [show (Int.ofNat g.1.length != Int.ofNat h.1.length) = false by simp [e1], show (Int.ofNat g.2.1.length != Int.ofNat h.2.1.length) = false by simp [e2]]
     exact same6 g.1 h.1 g.2.1 h.2.1 (by omega) e1 (by omega) e2 g.1 h.1 0 fuel rfl rfl (by omega) (by rw [hn]; omega)
   · rw [show (Int.ofNat g.1.length != Int.ofNat h.1.length) = false by simp [e1], show (Int.ofNat g.2.1.length != Int.ofNat h.2.1.length) = true by simp; omega]
     rw [dF (show ¬ g.2.1 = h.2.1 from fun e => e2 (by rw [e])), Bool.and_false]
     rfl
 · rw [show (Int.ofNat g.1.length != Int.ofNat h.1.length) = true by simp; omega, dF (show ¬ g.1 = h.1 from fun e => e1 (by rw [e]))]
   rfl
/-! one text, one meaning -/
theorem itoaF_inj {a b : Int} (ha : in64 a = true) (hb : in64 b = true) (h : itoaF a = itoaF b) : a = b := by
 have h1 := atoi_itoa ha
 rw [h, atoi_itoa hb] at h1
 cases h1
 rfl
theorem itoas_inj : ∀ (a b : List Int), (∀ n ∈ a, in64 n = true) → (∀ n ∈ b, in64 n = true) → a.map itoaF = b.map itoaF → a = b
 | [], [], _, _, _ => rfl
 | [], _ :: _, _, _, h => by cases h
 | _ :: _, [], _, _, h => by cases h
 | x :: a, y :: b, ha, hb, h => by
  rw [List.map_cons, List.map_cons] at h
  obtain ⟨h1, h2⟩ := List.cons.inj h
  rw [itoaF_inj (ha x (by simp)) (hb y (by simp)) h1, itoas_inj a b (fun n hn => ha n (by simp [hn])) (fun n hn => hb n (by simp [hn])) h2]
theorem numsF_inj {a b : List Int} (ha : ∀ n ∈ a, in64 n = true) (hb : ∀ n ∈ b, in64 n = true) (h : numsF a = numsF b) : a = b := by
 have h1 := split_nums a [] ha
 rw [h, split_nums b [] hb] at h1
 exact (itoas_inj b a hb ha (List.cons.inj h1).2).symm
theorem rowIn_l {r : Rw} (h : rowIn r = true) : ∀ n ∈ [r.1, r.2.1, r.2.2.1, r.2.2.2.1, r.2.2.2.2.1], in64 n = true := by
 simp only [rowIn, Bool.and_eq_true] at h
 intro n hn
 simp only [List.mem_cons, List.not_mem_nil, or_false] at hn
 rcases hn with rfl | rfl | rfl | rfl | rfl
 · exact h.1
 · exact h.2.1
 · exact h.2.2.1
 · exact h.2.2.2.1
 · exact h.2.2.2.2
theorem recIn_l {r : Rc} (h : recIn r = true) : ∀ n ∈ [r.1, r.2.1, r.2.2.1], in64 n = true := by
 simp only [recIn, Bool.and_eq_true] at h
 intro n hn
 simp only [List.mem_cons, List.not_mem_nil, or_false] at hn
 rcases hn with rfl | rfl | rfl
 · exact h.1
 · exact h.2.1
 · exact h.2.2
theorem rowT_inj {a b : Rw} (ha : rowIn a = true) (hb : rowIn b = true) (h : rowT a = rowT b) : a = b := by
 have := numsF_inj (rowIn_l ha) (rowIn_l hb) (List.append_cancel_left h)
 obtain ⟨a1, a2, a3, a4, a5, _⟩ := a
 obtain ⟨b1, b2, b3, b4, b5, _⟩ := b
 simp at this
 simp [this]
theorem recT_inj {a b : Rc} (ha : recIn a = true) (hb : recIn b = true) (h : recT a = recT b) : a = b := by
 have := numsF_inj (recIn_l ha) (recIn_l hb) (List.append_cancel_left h)
 obtain ⟨a1, a2, a3, _⟩ := a
 obtain ⟨b1, b2, b3, _⟩ := b
 simp at this
 simp [this]
theorem lists_inj {α β : Type} {f : α → List UInt8} {g : β → List UInt8} {p : α → Bool} {q : β → Bool} (hf : ∀ a b, p a = true → p b = true → f a = f b → a = b) (hg : ∀ a b, q a = true → q b = true → g a = g b → a = b) (hfg : ∀ a b, p a = true → q b = true → f a ≠ g b) :
    ∀ (a b : List α) (c d : List β), a.all p = true → b.all p = true → c.all q = true → d.all q = true → a.map f ++ c.map g = b.map f ++ d.map g → a = b ∧ c = d
  | [], [], [], [], _, _, _, _, _ => ⟨rfl, rfl⟩
  | [], [], [], _ :: _, _, _, _, _, h => by simp at h
  | [], [], _ :: _, [], _, _, _, _, h => by simp at h
  | [], [], x :: c, y :: d, ha, hb, hc, hd, h => by
   rw [List.all_cons, Bool.and_eq_true] at hc hd
   simp only [List.map_nil, List.nil_append, List.map_cons] at h
   obtain ⟨h1, h2⟩ := List.cons.inj h
   have := lists_inj hf hg hfg [] [] c d ha hb hc.2 hd.2 (by simpa using h2)
   exact ⟨rfl, by rw [hg x y hc.1 hd.1 h1, this.2]⟩
  | [], y :: b, [], d, _, _, _, _, h => by simp at h
  | [], y :: b, x :: c, d, ha, hb, hc, hd, h => by
   rw [List.all_cons, Bool.and_eq_true] at hc hb
   simp only [List.map_nil, List.nil_append, List.map_cons, List.cons_append] at h
   exact absurd (List.cons.inj h).1.symm (hfg y x hb.1 hc.1)
  | x :: a, [], c, [], _, _, _, _, h => by simp at h
  | x :: a, [], c, y :: d, ha, hb, hc, hd, h => by
   rw [List.all_cons, Bool.and_eq_true] at ha hd
   simp only [List.map_nil, List.nil_append, List.map_cons, List.cons_append] at h
   exact absurd (List.cons.inj h).1 (hfg x y ha.1 hd.1)
  | x :: a, y :: b, c, d, ha, hb, hc, hd, h => by
   rw [List.all_cons, Bool.and_eq_true] at ha hb
   simp only [List.map_cons, List.cons_append] at h
   obtain ⟨h1, h2⟩ := List.cons.inj h
   have := lists_inj hf hg hfg a b c d ha.2 hb.2 hc hd h2
   exact ⟨by rw [hf x y ha.1 hb.1 h1, this.1], this.2⟩
theorem outL_no (x : Ou) (i1 : x.1.all rowIn = true) (i2 : x.2.1.all recIn = true) : ∀ w ∈ x.1.map rowT ++ x.2.1.map recT, (10 : UInt8) ∉ w := fun w hw => by
 rcases List.mem_append.1 hw with hw | hw
 · obtain ⟨r, hr, rfl⟩ := List.mem_map.1 hw
   exact rowT_no (List.all_eq_true.1 i1 r hr)
 · obtain ⟨r, hr, rfl⟩ := List.mem_map.1 hw
   exact recT_no (List.all_eq_true.1 i2 r hr)
theorem outT_inj {x y : Ou} (i1 : x.1.all rowIn = true) (i2 : x.2.1.all recIn = true) (j1 : y.1.all rowIn = true) (j2 : y.2.1.all recIn = true) (h : outT x = outT y) : x.1 = y.1 ∧ x.2.1 = y.2.1 := by
 have h1 := split_lines 10 _ (outL_no x i1 i2)
 rw [← outT_lines, h, outT_lines, split_lines 10 _ (outL_no y j1 j2)] at h1
 have := lists_inj (p := rowIn) (q := recIn) (fun a b => rowT_inj) (fun a b => recT_inj) (fun a b _ _ e => by
  have := congrArg List.head? e
  simp [rowT, recT] at this) y.1 x.1 y.2.1 x.2.1 j1 i1 j2 i2 (List.append_cancel_right h1)
 exact ⟨this.1.symm, this.2.symm⟩
theorem outT_count (x : Ou) (i1 : x.1.all rowIn = true) (i2 : x.2.1.all recIn = true) : (outT x).count 10 = x.1.length + x.2.1.length := by
 rw [outT_lines, lines_count _ (outL_no x i1 i2)]
 simp
theorem scriptT_inj {l k : List Pk} (hl : chkP l = 0) (hk : chkP k = 0) (h : scriptT l = scriptT k) : l = k := by
 have h1 := (rscript_c hl).1
 rw [h, (rscript_c hk).1] at h1
 have := Option.some.inj h1
 cases this
 rfl
/-! graphs -/
def opIn (o : Op) : Bool := decide (1 ≤ o.1) && (decide (o.1 ≤ 7) && (decide (0 ≤ o.2.1) && decide (o.2.1 ≤ 3)))
def cnIn (c : Cn) : Bool := in64 c.1 && (in64 c.2.1 && (in64 c.2.2.1 && (in64 c.2.2.2.1 && in64 c.2.2.2.2.1)))
theorem name_no : ((List.range 8).all fun k => (nameF (k : Int)).all fun c => c != 10 && (c != 32 && c != 46)) = true := by decide +kernel
theorem name_inj : ((List.range 8).all fun a => (List.range 8).all fun b => a == 0 || (b == 0 || (a == b || nameF (a : Int) != nameF (b : Int)))) = true := by decide +kernel
theorem opIn_s {o : Op} (h : opIn o = true) : ∃ k : Nat, o.1 = k ∧ 1 ≤ k ∧ k < 8 ∧ in64 o.2.1 = true ∧ (10 : UInt8) ∉ nameF o.1 ∧ (32 : UInt8) ∉ nameF o.1 ∧ (46 : UInt8) ∉ nameF o.1 := by
 simp only [opIn, Bool.and_eq_true, decide_eq_true_eq] at h
 have e : ((o.1.toNat : Nat) : Int) = o.1 := by omega
 have hn := List.all_eq_true.1 name_no o.1.toNat (by simp; omega)
 rw [e] at hn
 have hn := List.all_eq_true.1 hn
 refine ⟨o.1.toNat, e.symm, by omega, by omega, in64_i (by omega) (by omega), fun h => ?_, fun h => ?_, fun h => ?_⟩ <;> simpa using hn _ h
theorem opT_inj {a b : Op} (ha : opIn a = true) (hb : opIn b = true) (h : opT a = opT b) : a = b := by
 obtain ⟨k, e1, k1, k2, i1, _, n1, _⟩ := opIn_s ha
 obtain ⟨m, e2, m1, m2, i2, _, n2, _⟩ := opIn_s hb
 have h1 := cut_at 32 (nameF a.1) (itoaF a.2.1) n1
 rw [show nameF a.1 ++ 32 :: itoaF a.2.1 = nameF b.1 ++ 32 :: itoaF b.2.1 from h, cut_at 32 (nameF b.1) (itoaF b.2.1) n2] at h1
 simp only [Prod.mk.injEq] at h1
 have hk := List.all_eq_true.1 (List.all_eq_true.1 name_inj m (by simp; omega)) k (by simp; omega)
 rw [← e1, ← e2, h1.1] at hk
 have hmk : m = k := by
  simp at hk
  omega
 have := itoaF_inj i2 i1 h1.2.1
 obtain ⟨a1, a2, _⟩ := a
 obtain ⟨b1, b2, _⟩ := b
 simp only at e1 e2 this
 rw [e1, e2, hmk, this]
theorem opT_no {o : Op} (h : opIn o = true) : (10 : UInt8) ∉ opT o ∧ (46 : UInt8) ∉ opT o := by
 obtain ⟨k, e1, k1, k2, i1, n0, n1, n2⟩ := opIn_s h
 have a := itoaF_no i1 (c := 10) (by unfold isD; decide) (by decide)
 have b := itoaF_no i1 (c := 46) (by unfold isD; decide) (by decide)
 simp [opT, n0, n2, a, b]
theorem endT_inj {a b c d : Int} (ha : in64 a = true) (hb : in64 b = true) (hc : in64 c = true) (hd : in64 d = true) (h : endT a b = endT c d) : a = c ∧ b = d := by
 have h1 := cut_at 46 (itoaF a) (itoaF b) (itoaF_no ha (by unfold isD; decide) (by decide))
 rw [show itoaF a ++ 46 :: itoaF b = itoaF c ++ 46 :: itoaF d from h, cut_at 46 (itoaF c) (itoaF d) (itoaF_no hc (by unfold isD; decide) (by decide))] at h1
 simp only [Prod.mk.injEq] at h1
 exact ⟨(itoaF_inj hc ha h1.1).symm, (itoaF_inj hd hb h1.2.1).symm⟩
theorem endT_no {a b : Int} (ha : in64 a = true) (hb : in64 b = true) : (32 : UInt8) ∉ endT a b ∧ (10 : UInt8) ∉ endT a b := by
 have a1 := itoaF_no ha (c := 32) (by unfold isD; decide) (by decide)
 have a2 := itoaF_no ha (c := 10) (by unfold isD; decide) (by decide)
 have b1 := itoaF_no hb (c := 32) (by unfold isD; decide) (by decide)
 have b2 := itoaF_no hb (c := 10) (by unfold isD; decide) (by decide)
 simp [endT, a1, a2, b1, b2]
theorem cnT_inj {a b : Cn} (ha : cnIn a = true) (hb : cnIn b = true) (h : cnT a = cnT b) : a = b := by
 obtain ⟨a1, a2, a3, a4, a5, _⟩ := a
 obtain ⟨b1, b2, b3, b4, b5, _⟩ := b
 simp only [cnIn, Bool.and_eq_true] at ha hb
 obtain ⟨p1, p2, p3, p4, p5⟩ := ha
 obtain ⟨q1, q2, q3, q4, q5⟩ := hb
 simp only [cnT] at h
 have h1 := cut_at 32 (endT a1 a2) (endT a3 a4 ++ 32 :: itoaF a5) (endT_no p1 p2).1
 rw [h, cut_at 32 (endT b1 b2) _ (endT_no q1 q2).1] at h1
 simp only [Prod.mk.injEq] at h1
 obtain ⟨r1, r2, _⟩ := h1
 have h2 := cut_at 32 (endT a3 a4) (itoaF a5) (endT_no p3 p4).1
 rw [← r2, cut_at 32 (endT b3 b4) _ (endT_no q3 q4).1] at h2
 simp only [Prod.mk.injEq] at h2
 obtain ⟨r3, r4, _⟩ := h2
 obtain ⟨s1, s2⟩ := endT_inj q1 q2 p1 p2 r1
 obtain ⟨s3, s4⟩ := endT_inj q3 q4 p3 p4 r3
 have s5 := itoaF_inj q5 p5 r4
 rw [s1, s2, s3, s4, s5]
theorem cnT_no {c : Cn} (h : cnIn c = true) : (10 : UInt8) ∉ cnT c ∧ (46 : UInt8) ∈ cnT c := by
 simp only [cnIn, Bool.and_eq_true] at h
 obtain ⟨p1, p2, p3, p4, p5⟩ := h
 have a := (endT_no p1 p2).2
 have b := (endT_no p3 p4).2
 have d := itoaF_no p5 (c := 10) (by unfold isD; decide) (by decide)
 exact ⟨by simp [cnT, a, b, d], by simp [cnT, endT]⟩
theorem gok_in {x : Gr} (h : gChk x = 0) : x.1.all opIn = true ∧ x.2.1.all cnIn = true := by
 obtain ⟨l1, l2, hg⟩ := gchk_zero h
 refine ⟨List.all_eq_true.2 fun o ho => ?_, List.all_eq_true.2 fun c hc => ?_⟩
 · have := gok_ops hg o ho
   simp only [opIn, Bool.and_eq_true, decide_eq_true_eq]
   exact this
 · have := gok_chs hg l1 l2 c hc
   simp only [cnIn, in64, Bool.and_eq_true, decide_eq_true_eq]
   omega
theorem graphL_no {x : Gr} (h1 : x.1.all opIn = true) (h2 : x.2.1.all cnIn = true) : ∀ w ∈ graphL x, (10 : UInt8) ∉ w := fun w hw => by
 rcases List.mem_append.1 hw with hw | hw
 · obtain ⟨r, hr, rfl⟩ := List.mem_map.1 hw
   exact (opT_no (List.all_eq_true.1 h1 r hr)).1
 · obtain ⟨r, hr, rfl⟩ := List.mem_map.1 hw
   exact (cnT_no (List.all_eq_true.1 h2 r hr)).1
theorem graphT_inj {x y : Gr} (hx : gChk x = 0) (hy : gChk y = 0) (h : graphT x = graphT y) : x.1 = y.1 ∧ x.2.1 = y.2.1 := by
 obtain ⟨i1, i2⟩ := gok_in hx
 obtain ⟨j1, j2⟩ := gok_in hy
 have h1 := split_lines 10 _ (graphL_no i1 i2)
 rw [show ((graphL x).flatMap fun w => w ++ [10]) = (graphL y).flatMap fun w => w ++ [10] from h, split_lines 10 _ (graphL_no j1 j2)] at h1
 have := lists_inj (p := opIn) (q := cnIn) (fun a b => opT_inj) (fun a b => cnT_inj) (fun a b ha hb e => (opT_no ha).2 (by rw [e]; exact (cnT_no hb).2)) y.1 x.1 y.2.1 x.2.1 j1 i1 j2 i2 (List.append_cancel_right h1)
 exact ⟨this.1.symm, this.2.symm⟩
theorem graphT_count {x : Gr} (hx : gChk x = 0) : (graphT x).count 10 = x.1.length + x.2.1.length := by
 obtain ⟨i1, i2⟩ := gok_in hx
 rw [graphT, lines_count _ (graphL_no i1 i2)]
 simp [graphL]
end Tg

/- The law of LinesApart, in plain words. -/
set_option linter.unusedVariables false
set_option linter.unusedSimpArgs false
namespace Tg
open Go
open Go.Abs (fuel bigOk)
theorem gr24_s (x : Gr) : ∃ b, ref24_Great x = some (b, ()) ∧ (b = false → x.1.length ≤ 30 ∧ x.2.1.length ≤ 120) := by
 unfold ref24_Great
 by_cases h : Int.ofNat x.1.length > 30
 · rw [dT h]
   exact ⟨true, rfl, fun h => by cases h⟩
 · rw [dF h]
   refine ⟨_, rfl, fun h2 => ?_⟩
   have h2 := of_decide_eq_false h2
   simp only [Int.ofNat_eq_natCast] at h h2
   omega
theorem outP_zero {x : Ou} {a : List UInt8} {e : Unit} (h : outP x = (a, 0, e)) : a = outT x := by
 unfold outP at h
 cases h1 : decide (x.1.length > 4000) || decide (x.2.1.length > 4000) with
 | true => rw [h1] at h; cases h
 | false =>
  rw [h1] at h
  cases h2 : x.1.all rowOk && x.2.1.all recOk with
  | true => rw [h2] at h; exact (congrArg Prod.fst h).symm
  | false => rw [h2] at h; cases h
theorem graphL_len2 {x : Gr} (h : gOkB x = true) (h1 : x.1.length ≤ 20) (h2 : x.2.1.length ≤ 100) : ∀ w ∈ graphL x, w.length ≤ 1000 := fun w hw => by
 have nl : ∀ k : Int, (nameF k).length ≤ 6 := fun k => by
  unfold nameF
  repeat' split
  all_goals decide
 have dl : ∀ n : Int, 0 ≤ n → n < 1000000 → (itoaF n).length ≤ 21 := fun n a b => itoaF_len (in64_i (by omega) (by omega))
 unfold graphL at hw
 rcases List.mem_append.1 hw with hw | hw
 · obtain ⟨o, ho, rfl⟩ := List.mem_map.1 hw
   obtain ⟨a0, a1, a2, a3⟩ := gok_ops h o ho
   have := nl o.1
   have := dl _ a2 (by omega)
   simp only [opT, List.length_append, List.length_cons]
   omega
 · obtain ⟨c, hc, rfl⟩ := List.mem_map.1 hw
   obtain ⟨⟨a0, a1⟩, ⟨a2, a3⟩, ⟨a4, a5⟩, ⟨a6, a7⟩, a8, a9⟩ := gok_chs h h1 h2 c hc
   have := dl _ a0 (by omega)
   have := dl _ a2 (by omega)
   have := dl _ a4 (by omega)
   have := dl _ a6 (by omega)
   have := dl c.2.2.2.2.1 (by omega) (by omega)
   simp only [cnT, endT, List.length_append, List.length_cons]
   omega
theorem nq (a b : Bool) (h : a = b) : (!a == b) = false := by subst h; cases a <;> rfl
theorem apart_true (x y : Ou) (l k : List Pk) (g h : Gr) (i1 : x.1.all rowIn = true) (i2 : x.2.1.all recIn = true) (j1 : y.1.all rowIn = true) (j2 : y.2.1.all recIn = true) : law45_LinesApart x y l k g h = some (true, ()) := by
 obtain ⟨b1, g1, q1⟩ := great_s x
 obtain ⟨b2, g2, q2⟩ := great_s y
 obtain ⟨b3, g3, q3⟩ := many_s l
 obtain ⟨b4, g4, q4⟩ := many_s k
 obtain ⟨b5, g5, q5⟩ := gr24_s g
 obtain ⟨b6, g6, q6⟩ := gr24_s h
 obtain ⟨n, hn⟩ : ∃ n, fuel = n + 1 + 1 + 1 + 1 + 1 + 1 + 1 := ⟨1152921504606846969, rfl⟩
 unfold law45_LinesApart law45_LinesApart_c
 rw [hn, g1, g2, g3, g4, g5, g6]
 cases b1 with
 | true => rfl
 | false =>
 cases b2 with
 | true => rfl
 | false =>
 cases b3 with
 | true => rfl
 | false =>
 cases b4 with
 | true => rfl
 | false =>
 cases b5 with
 | true => rfl
 | false =>
 cases b6 with
 | true => rfl
 | false =>
 obtain ⟨l1, l2⟩ := q1 rfl
 obtain ⟨l3, l4⟩ := q2 rfl
 have l5 := q3 rfl
 have l6 := q4 rfl
 obtain ⟨l7, l8⟩ := q5 rfl
 obtain ⟨l9, l10⟩ := q6 rfl
 clear g1 g2 g3 g4 g5 g6 q1 q2 q3 q4 q5 q6 hn
 simp only [cond_false]
 have gL : ∀ z : Gr, z.1.length ≤ 30 → z.2.1.length ≤ 120 → lines_Graph z = some (bif gChk z != 0 then ([], gChk z, ()) else (graphT z, 0, ())) := fun z a b => by
  unfold lines_Graph
  rw [dT (by omega), dT (by omega)]
  rfl
 -- graphs
 have f3 : ∀ n, law45_LinesApart_i23 (n + 1 + 1) g.1 g.2.1 h.1 h.2.1 true = some (true, ()) := fun n => by
  rw [law45_LinesApart_i23]
  unfold law45_LinesApart_c23
  simp only [gL (g.1, g.2.1, ()) l7 l8]
  rw [law45_LinesApart_i27]
  unfold law45_LinesApart_c27
  simp only [gL (h.1, h.2.1, ()) l9 l10, cond_true]
  cases hg : gChk (g.1, g.2.1, ()) != 0 with
  | true => simp only [cond_true, hg]
  | false =>
   have hg' : gChk (g.1, g.2.1, ()) = 0 := by simpa using hg
   cases hh : gChk (h.1, h.2.1, ()) != 0 with
   | true => simp only [cond_true, cond_false, hh, bne_self_eq_false]
   | false =>
    have hh' : gChk (h.1, h.2.1, ()) = 0 := by simpa using hh
    have hc := graphT_count hg'
    have hlen : (graphT (g.1, g.2.1, ())).length ≤ 1000000000 := by
     obtain ⟨m1, m2, hok⟩ := gchk_zero hg'
     have := flat_len (fun w : List UInt8 => w ++ [10]) 1001 (graphL (g.1, g.2.1, ())) (fun w hw => by
      have := graphL_len2 hok m1 m2 w hw
      simp; omega)
     have hL : (graphL (g.1, g.2.1, ())).length = g.1.length + g.2.1.length := by simp [graphL]
     rw [hL] at this
     unfold graphT
     omega
    simp only [cond_false, bne_self_eq_false, same_eq (g.1, g.2.1, ()) (h.1, h.2.1, ()) (by show g.1.length ≤ _; omega) (by show g.2.1.length ≤ _; omega), count_eq _ hlen, hc]
    have e : (graphT (g.1, g.2.1, ()) == graphT (h.1, h.2.1, ())) = (decide (g.1 = h.1) && decide (g.2.1 = h.2.1)) := by
     rw [Bool.eq_iff_iff, beq_iff_eq, Bool.and_eq_true, decide_eq_true_eq, decide_eq_true_eq]
     constructor
     · exact fun e => graphT_inj hg' hh' e
     · rintro ⟨e1, e2⟩
       rw [e1, e2]
    rw [e, beq_self_eq_true, cond_true]
    have : Go.IntKind.wrap Go.IntKind.i64 (Int.ofNat g.1.length + Int.ofNat g.2.1.length) = (((g.1.length + g.2.1.length : Nat)) : Int) := by
     rw [w64 (by simp only [Int.ofNat_eq_natCast]; omega) (by simp only [Int.ofNat_eq_natCast]; omega)]
     simp
    rw [this, beq_self_eq_true]
 -- scripts
 have f2 : ∀ n, law45_LinesApart_i16 (n + 1 + 1 + 1 + 1) l k g.1 g.2.1 h.1 h.2.1 true = some (true, ()) := fun n => by
  rw [law45_LinesApart_i16]
  unfold law45_LinesApart_c16
  simp only [script_eq l (by omega)]
  rw [law45_LinesApart_i19]
  unfold law45_LinesApart_c19
  simp only [script_eq k (by omega), samePk_eq l k (by omega), f3]
  cases hl : chkP l != 0 with
  | true =>
   have : (chkP l == 0) = false := by simpa using hl
   simp only [cond_true, this, cond_false]
  | false =>
   have hl' : chkP l = 0 := by simpa using hl
   simp only [cond_false, beq_self_eq_true, cond_true]
   cases hk : chkP k != 0 with
   | true =>
    have : (chkP k == 0) = false := by simpa using hk
    simp only [cond_true, this, cond_false]
   | false =>
    have hk' : chkP k = 0 := by simpa using hk
    have e : (scriptT l == scriptT k) = decide (l = k) := by
     rw [Bool.eq_iff_iff, beq_iff_eq, decide_eq_true_eq]
     exact ⟨fun e => scriptT_inj hl' hk' e, fun e => by rw [e]⟩
    simp only [cond_false, beq_self_eq_true, cond_true, nq _ _ e]
 -- outputs
 rw [law45_LinesApart_i3]
 unfold law45_LinesApart_c3
 rw [louts_eq (x.1, x.2.1, ()) i1 i2 (by show x.1.length ≤ _; omega) (by show x.2.1.length ≤ _; omega)]
 simp only
 rw [law45_LinesApart_i12]
 unfold law45_LinesApart_c12
 rw [louts_eq (y.1, y.2.1, ()) j1 j2 (by show y.1.length ≤ _; omega) (by show y.2.1.length ≤ _; omega)]
 simp only [f2, equal_eq (x.1, x.2.1, ()) (y.1, y.2.1, ()) (by show x.1.length ≤ _; omega) (by show x.2.1.length ≤ _; omega)]
 rcases hx : outP (x.1, x.2.1, ()) with ⟨a, e, u⟩
 rcases hy : outP (y.1, y.2.1, ()) with ⟨b, f, v⟩
 simp only
 cases he : e == 0 with
 | false => simp only [cond_false]
 | true =>
  obtain rfl := eq_of_beq he
  cases hf : f == 0 with
  | false => simp only [cond_false, cond_true]
  | true =>
   obtain rfl := eq_of_beq hf
   obtain rfl := outP_zero hx
   obtain rfl := outP_zero hy
   have q : (outT (x.1, x.2.1, ()) == outT (y.1, y.2.1, ())) = (decide (x.1 = y.1) && decide (x.2.1 = y.2.1)) := by
    rw [Bool.eq_iff_iff, beq_iff_eq, Bool.and_eq_true, decide_eq_true_eq, decide_eq_true_eq]
    constructor
    · exact fun e => outT_inj (x := (x.1, x.2.1, ())) (y := (y.1, y.2.1, ())) i1 i2 j1 j2 e
    · rintro ⟨e1, e2⟩
      rw [e1, e2]
   have hc := outT_count (x.1, x.2.1, ()) i1 i2
   have hl := outT_len (x.1, x.2.1, ()) i1 i2
   have : Go.IntKind.wrap Go.IntKind.i64 (Int.ofNat x.1.length + Int.ofNat x.2.1.length) = (((x.1.length + x.2.1.length : Nat)) : Int) := by
    rw [w64 (by simp only [Int.ofNat_eq_natCast]; omega) (by simp only [Int.ofNat_eq_natCast]; omega)]
    simp
   simp only [cond_true, nq _ _ q, cond_false, count_eq _ (show (outT (x.1, x.2.1, ())).length ≤ 1000000000 by simp only at hl; omega), hc, this, bne_self_eq_false]
end Tg
