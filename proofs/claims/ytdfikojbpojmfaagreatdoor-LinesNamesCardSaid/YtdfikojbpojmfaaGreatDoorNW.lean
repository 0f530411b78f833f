import Derived.Maps.OwnSet
import Derived.Maps.Views
/- graph.order: its plain function, and maps that read as lists of pairs. -/
set_option linter.unusedVariables false
namespace Tn
open Go Go.RowKit Go.Maps
abbrev Ch := Int × Int × Int × Int × Int
def lookW (k : Int) : List (Int × Int) → Option Int
  | [] => none
  | (a, v) :: r => if a = k then some v else lookW k r
def setW (k v : Int) : List (Int × Int) → List (Int × Int)
  | [] => [(k, v)]
  | (a, u) :: r => if a = k then (k, v) :: r else (a, u) :: setW k v r
def dropW (k : Int) : List (Int × Int) → List (Int × Int)
  | [] => []
  | (a, u) :: r => if a = k then r else (a, u) :: dropW k r
def zer : Nat → List (Int × Int)
  | 0 => []
  | n + 1 => setW n 0 (zer n)
def incsW : List Ch → List (Int × Int) → List (Int × Int)
  | [], W => W
  | c :: chs, W => incsW chs (setW c.2.2.1 (wrap64 ((lookW c.2.2.1 W).getD 0 + 1)) W)
def decsW (nx : Int) : List Ch → List (Int × Int) → List (Int × Int)
  | [], W => W
  | c :: chs, W => decsW nx chs (if c.1 = nx then setW c.2.2.1 (wrap64 ((lookW c.2.2.1 W).getD 0 - 1)) W else W)
def nextW : List (Int × Int) → Int
  | [] => -1
  | (k, v) :: r => if v = 0 ∧ (nextW r < 0 ∨ k < nextW r) then k else nextW r
def orderW (chs : List Ch) : Nat → List (Int × Int) → List Int → Option (List Int)
  | 0, _, _ => none
  | n + 1, W, out => match W with
    | [] => some out
    | p :: W' => if nextW (p :: W') < 0 then some out else orderW chs n (decsW (nextW (p :: W')) chs (dropW (nextW (p :: W')) (p :: W'))) (out ++ [nextW (p :: W')])
structure MR (D : DataW Unit) (W : List (Int × Int)) : Prop where
  tidy : Tidy D
  nd : (W.map (·.1)).Nodup
  has : ∀ k, has D (.int .i64 k) = (lookW k W).isSome
  at_ : ∀ k v, lookW k W = some v → ∀ zd, D.atKey (.int .i64 k) zd = .lit (.int .i64 v)
  size : Maps.size D = W.length
theorem MR.empty : MR (.map []) [] := ⟨tidy_empty, List.nodup_nil, fun k => rfl, fun k v h => (by cases h), rfl⟩
theorem lookW_set (k v : Int) : ∀ (W : List (Int × Int)) (j : Int), lookW j (setW k v W) = if j = k then some v else lookW j W
  | [], j => by
    simp only [setW, lookW]
    by_cases h : j = k
    · simp [h]
    · rw [if_neg h, if_neg (fun e => h e.symm)]
  | (a, u) :: r, j => by
    simp only [setW]
    by_cases ha : a = k
    · subst ha
      simp only [if_true, lookW]
      by_cases h : j = a
      · simp [h]
      · rw [if_neg (fun e => h e.symm), if_neg h, if_neg (fun e => h e.symm)]
    · rw [if_neg ha]
      simp only [lookW, lookW_set k v r j]
      by_cases h : j = k
      · subst h
        simp [ha]
      · simp [h]
theorem mem_keys_set (k v : Int) : ∀ (W : List (Int × Int)) (j : Int), j ∈ (setW k v W).map (·.1) → j = k ∨ j ∈ W.map (·.1)
  | [], j, h => by simpa [setW] using h
  | (a, u) :: r, j, h => by
    simp only [setW] at h
    by_cases ha : a = k
    · subst ha
      simp only [if_true, List.map_cons, List.mem_cons] at h ⊢
      rcases h with h | h
      · exact .inl h
      · exact .inr (.inr h)
    · rw [if_neg ha] at h
      simp only [List.map_cons, List.mem_cons] at h ⊢
      rcases h with h | h
      · exact .inr (.inl h)
      · rcases mem_keys_set k v r j h with h | h
        · exact .inl h
        · exact .inr (.inr h)
theorem nodup_set (k v : Int) : ∀ (W : List (Int × Int)), (W.map (·.1)).Nodup → ((setW k v W).map (·.1)).Nodup
  | [], _ => by simp [setW]
  | (a, u) :: r, h => by
    simp only [List.map_cons, List.nodup_cons] at h
    simp only [setW]
    by_cases ha : a = k
    · subst ha
      simpa using h
    · rw [if_neg ha]
      simp only [List.map_cons, List.nodup_cons]
      refine ⟨fun hm => ?_, nodup_set k v r h.2⟩
      rcases mem_keys_set k v r a hm with e | e
      · exact ha e
      · exact h.1 e
theorem length_set (k v : Int) : ∀ (W : List (Int × Int)), (setW k v W).length = if (lookW k W).isSome then W.length else W.length + 1
  | [] => rfl
  | (a, u) :: r => by
    by_cases ha : a = k
    · simp [setW, lookW, ha]
    · have e1 : setW k v ((a, u) :: r) = (a, u) :: setW k v r := if_neg ha
      have e2 : lookW k ((a, u) :: r) = lookW k r := if_neg ha
      rw [e1, e2, List.length_cons, List.length_cons, length_set k v r]
      split <;> rfl
theorem MR.set {D : DataW Unit} {W : List (Int × Int)} (h : MR D W) (k v : Int) : MR (D.put (.int .i64 k) (.lit (.int .i64 v))) (setW k v W) := by
  have hk : WideAt.IsKeyLit (.int .i64 k) := trivial
  refine ⟨h.tidy.put hk _, nodup_set k v W h.nd, fun j => ?_, fun j u hj zd => ?_, ?_⟩
  · rw [lookW_set]
    by_cases e : j = k
    · subst e
      rw [has_put_same h.tidy.isMap hk]
      simp
    · rw [has_put_other (by simpa using e), h.has j, if_neg e]
  · rw [lookW_set] at hj
    by_cases e : j = k
    · subst e
      simp only [if_true, Option.some.injEq] at hj
      subst hj
      exact atKey_put_same h.tidy.isMap hk _ _
    · rw [if_neg e] at hj
      rw [atKey_put_other (by simpa using e)]
      exact h.at_ j u hj zd
  · rw [size_put h.tidy, h.has k, length_set, h.size]
theorem lookW_drop {W : List (Int × Int)} (h : (W.map (·.1)).Nodup) (k j : Int) : lookW j (dropW k W) = if j = k then none else lookW j W := by
  induction W with
  | nil => simp [dropW, lookW]
  | cons p r ih =>
    obtain ⟨a, u⟩ := p
    simp only [List.map_cons, List.nodup_cons] at h
    have hnone : ∀ (r : List (Int × Int)) (x : Int), x ∉ r.map (·.1) → lookW x r = none := by
      intro r x
      induction r with
      | nil => intro _; rfl
      | cons q r ih2 =>
        intro hx
        simp only [List.map_cons, List.mem_cons, not_or] at hx
        simp only [lookW]
        rw [if_neg (fun e => hx.1 e.symm)]
        exact ih2 hx.2
    simp only [dropW]
    by_cases ha : a = k
    · subst ha
      simp only [if_true, lookW]
      by_cases e : j = a
      · subst e
        simp [hnone r j h.1]
      · rw [if_neg e, if_neg (fun e' => e e'.symm)]
    · rw [if_neg ha]
      simp only [lookW, ih h.2]
      by_cases e : j = k
      · subst e
        simp [ha]
      · simp [e]
theorem keys_drop (k : Int) : ∀ (W : List (Int × Int)), ((dropW k W).map (·.1)).Sublist (W.map (·.1))
  | [] => List.Sublist.refl _
  | (a, u) :: r => by
    simp only [dropW]
    by_cases ha : a = k
    · rw [if_pos ha]; exact List.sublist_cons_self _ _
    · rw [if_neg ha]; exact (keys_drop k r).cons_cons _
theorem length_drop (k : Int) : ∀ (W : List (Int × Int)), (dropW k W).length + (if (lookW k W).isSome then 1 else 0) = W.length
  | [] => rfl
  | (a, u) :: r => by
    by_cases ha : a = k
    · simp [dropW, lookW, ha]
    · have e1 : dropW k ((a, u) :: r) = (a, u) :: dropW k r := if_neg ha
      have e2 : lookW k ((a, u) :: r) = lookW k r := if_neg ha
      rw [e1, e2, List.length_cons, List.length_cons, ← length_drop k r]
      omega
theorem MR.drop {D : DataW Unit} {W : List (Int × Int)} (h : MR D W) (k : Int) : MR (D.del (.int .i64 k)) (dropW k W) := by
  refine ⟨h.tidy.del _, h.nd.sublist (keys_drop k W), fun j => ?_, fun j u hj zd => ?_, ?_⟩
  · rw [lookW_drop h.nd]
    by_cases e : j = k
    · subst e
      rw [has_del_same]
      simp
    · rw [has_del_other (by simpa using e), h.has j, if_neg e]
  · rw [lookW_drop h.nd] at hj
    by_cases e : j = k
    · rw [if_pos e] at hj; cases hj
    · rw [if_neg e] at hj
      rw [atKey_del_other (by simpa using e)]
      exact h.at_ j u hj zd
  · have h1 := size_del (k := .int .i64 k) h.tidy
    have h2 := length_drop k W
    rw [h.has k, h.size] at h1
    omega
def NX (W : List (Int × Int)) (p : Int → Bool) (nx : Int) : Prop :=
  (nx = -1 ∧ ∀ k, lookW k W = some 0 → p k = false) ∨ (0 ≤ nx ∧ lookW nx W = some 0 ∧ p nx = true ∧ ∀ k, lookW k W = some 0 → p k = true → nx ≤ k)
theorem NX.uniq {W : List (Int × Int)} {p : Int → Bool} {a b : Int} (ha : NX W p a) (hb : NX W p b) : a = b := by
  rcases ha with ⟨rfl, h1⟩ | ⟨h0, h1, h2, h3⟩ <;> rcases hb with ⟨rfl, g1⟩ | ⟨g0, g1, g2, g3⟩
  · rfl
  · rw [h1 _ g1] at g2; cases g2
  · rw [g1 _ h1] at h2; cases h2
  · have := h3 _ g1 g2
    have := g3 _ h1 h2
    omega
def Pos (W : List (Int × Int)) : Prop := ∀ k, (lookW k W).isSome = true → 0 ≤ k ∧ k ≤ 1000
theorem NX.next : ∀ {W : List (Int × Int)}, (W.map (·.1)).Nodup → Pos W → NX W (fun _ => true) (nextW W)
  | [], _, _ => .inl ⟨rfl, fun k h => by cases h⟩
  | (a, v) :: r, hn, hp => by
    simp only [List.map_cons, List.nodup_cons] at hn
    have hnone : ∀ (r : List (Int × Int)) (x : Int), x ∉ r.map (·.1) → lookW x r = none := by
      intro r x
      induction r with
      | nil => intro _; rfl
      | cons q r ih2 =>
        intro hx
        simp only [List.map_cons, List.mem_cons, not_or] at hx
        simp only [lookW]
        rw [if_neg (fun e => hx.1 e.symm)]
        exact ih2 hx.2
    have hp' : Pos r := fun k hk => hp k (by simp only [lookW]; split <;> simp [hk])
    have ih := NX.next hn.2 hp'
    have ha : 0 ≤ a := (hp a (by simp [lookW])).1
    have hla : ∀ k, lookW k ((a, v) :: r) = if a = k then some v else lookW k r := fun k => rfl
    have hane : ∀ k, lookW k r = some 0 → a ≠ k := fun k hk e => by subst e; rw [hnone r a hn.1] at hk; cases hk
    simp only [nextW]
    split
    · rename_i hc
      obtain ⟨rfl, hc⟩ := hc
      refine .inr ⟨ha, by simp [lookW], rfl, fun k hk _ => ?_⟩
      rw [hla] at hk
      split at hk
      · rename_i e; omega
      · rcases ih with ⟨e, h1⟩ | ⟨h0, h1, _, h3⟩
        · have := h1 k hk; cases this
        · have := h3 k hk rfl; omega
    · rename_i hc
      rcases ih with ⟨e, h1⟩ | ⟨h0, h1, _, h3⟩
      · refine .inl ⟨e, fun k hk => ?_⟩
        rw [hla] at hk
        split at hk
        · rename_i e2
          simp only [Option.some.injEq] at hk
          exact absurd ⟨hk, .inl (by omega)⟩ hc
        · exact h1 k hk
      · refine .inr ⟨h0, by rw [hla, if_neg (hane _ h1)]; exact h1, rfl, fun k hk _ => ?_⟩
        rw [hla] at hk
        split at hk
        · rename_i e2
          simp only [Option.some.injEq] at hk
          subst e2
          have : ¬ a < nextW r := fun hlt => hc ⟨hk, .inr hlt⟩
          omega
        · exact h3 k hk rfl
end Tn
namespace Tn
open Go Go.RowKit Go.Maps
theorem MR.val {D : DataW Unit} {W : List (Int × Int)} (h : MR D W) {k v : Int} (hv : D.atKey (.int .i64 k) (.lit (.int .i64 0)) = .lit (.int .i64 v)) : v = (lookW k W).getD 0 := by
  cases hl : lookW k W with
  | none =>
    have hh := h.has k
    rw [hl] at hh
    rw [atKey_of_not_has hh] at hv
    simp only [DataW.lit.injEq, Lit.int.injEq, true_and] at hv
    simp [hv]
  | some u =>
    rw [h.at_ k u hl] at hv
    simp only [DataW.lit.injEq, Lit.int.injEq, true_and] at hv
    simp [hv]
theorem MR.isVal {D : DataW Unit} {W : List (Int × Int)} (h : MR D W) {k c : Int} (hv : ∀ zd, D.atKey (.int .i64 k) zd = .lit (.int .i64 c)) : lookW k W = some c := by
  cases hl : lookW k W with
  | none =>
    have hh := h.has k
    rw [hl] at hh
    have h1 := hv (.lit (.bool true))
    rw [atKey_of_not_has hh] at h1
    cases h1
  | some u =>
    have h1 := hv (.lit (.int .i64 0))
    rw [h.at_ k u hl] at h1
    simp only [DataW.lit.injEq, Lit.int.injEq, true_and] at h1
    rw [h1]
theorem incsW_snoc (c : Ch) : ∀ (l : List Ch) (W : List (Int × Int)), incsW (l ++ [c]) W = setW c.2.2.1 (wrap64 ((lookW c.2.2.1 (incsW l W)).getD 0 + 1)) (incsW l W)
  | [], W => rfl
  | x :: l, W => incsW_snoc c l _
theorem decsW_snoc (nx : Int) (c : Ch) : ∀ (l : List Ch) (W : List (Int × Int)), decsW nx (l ++ [c]) W = if c.1 = nx then setW c.2.2.1 (wrap64 ((lookW c.2.2.1 (decsW nx l W)).getD 0 - 1)) (decsW nx l W) else decsW nx l W
  | [], W => rfl
  | x :: l, W => decsW_snoc nx c l _
theorem incsW_take {chs : List Ch} {j : Nat} {c : Ch} (h : chs[j]? = some c) (W : List (Int × Int)) : incsW (chs.take (j + 1)) W = setW c.2.2.1 (wrap64 ((lookW c.2.2.1 (incsW (chs.take j) W)).getD 0 + 1)) (incsW (chs.take j) W) := by
  have e : chs.take (j + 1) = chs.take j ++ [c] := by rw [List.take_add_one, h]; rfl
  rw [e, incsW_snoc]
theorem decsW_take {chs : List Ch} {j : Nat} {c : Ch} (nx : Int) (h : chs[j]? = some c) (W : List (Int × Int)) : decsW nx (chs.take (j + 1)) W = if c.1 = nx then setW c.2.2.1 (wrap64 ((lookW c.2.2.1 (decsW nx (chs.take j) W)).getD 0 - 1)) (decsW nx (chs.take j) W) else decsW nx (chs.take j) W := by
  have e : chs.take (j + 1) = chs.take j ++ [c] := by rw [List.take_add_one, h]; rfl
  rw [e, decsW_snoc]
theorem Pos.set {W : List (Int × Int)} (h : Pos W) {k : Int} (hk : 0 ≤ k ∧ k ≤ 1000) (v : Int) : Pos (setW k v W) := fun j hj => by
  rw [lookW_set] at hj
  by_cases e : j = k
  · subst e; exact hk
  · rw [if_neg e] at hj; exact h j hj
theorem Pos.zer : ∀ n, n ≤ 1000 → Pos (zer n)
  | 0, _ => fun k h => by cases h
  | n + 1, hn => (Pos.zer n (by omega)).set ⟨Int.natCast_nonneg n, by omega⟩ 0
theorem Pos.incs : ∀ {chs : List Ch} {W : List (Int × Int)}, (∀ c ∈ chs, 0 ≤ c.2.2.1 ∧ c.2.2.1 ≤ 1000) → Pos W → Pos (incsW chs W)
  | [], W, _, h => h
  | c :: chs, W, hc, h => Pos.incs (chs := chs) (W := setW c.2.2.1 (wrap64 ((lookW c.2.2.1 W).getD 0 + 1)) W) (fun d hd => hc d (List.mem_cons_of_mem _ hd)) (h.set (hc c (List.mem_cons_self ..)) _)
theorem Pos.decs {nx : Int} : ∀ {chs : List Ch} {W : List (Int × Int)}, (∀ c ∈ chs, 0 ≤ c.2.2.1 ∧ c.2.2.1 ≤ 1000) → Pos W → Pos (decsW nx chs W)
  | [], W, _, h => h
  | c :: chs, W, hc, h => Pos.decs (chs := chs) (W := if c.1 = nx then setW c.2.2.1 (wrap64 ((lookW c.2.2.1 W).getD 0 - 1)) W else W) (fun d hd => hc d (List.mem_cons_of_mem _ hd)) (by
    split
    · exact h.set (hc c (List.mem_cons_self ..)) _
    · exact h)
theorem Pos.drop {W : List (Int × Int)} (hn : (W.map (·.1)).Nodup) (h : Pos W) (k : Int) : Pos (dropW k W) := fun j hj => by
  rw [lookW_drop hn] at hj
  by_cases e : j = k
  · rw [if_pos e] at hj; cases hj
  · rw [if_neg e] at hj; exact h j hj
theorem NX.step {W : List (Int × Int)} {p : Int → Bool} {nx x c : Int} (hp : Pos W) (h : NX W p nx) (hx : lookW x W = some c) :
    NX W (fun k => p k || k == x) (if c = 0 ∧ (nx < 0 ∨ x < nx) then x else nx) := by
  have hx0 : 0 ≤ x := (hp x (by rw [hx]; rfl)).1
  split
  · rename_i hc
    obtain ⟨rfl, hc⟩ := hc
    refine .inr ⟨hx0, hx, by simp, fun k hk hpk => ?_⟩
    simp only [Bool.or_eq_true, beq_iff_eq] at hpk
    rcases hpk with hpk | hpk
    · rcases h with ⟨e, h1⟩ | ⟨h0, h1, h2, h3⟩
      · rw [h1 k hk] at hpk; cases hpk
      · have := h3 k hk hpk; omega
    · omega
  · rename_i hc
    have hno : ∀ k, lookW k W = some 0 → k = x → ¬ (nx < 0 ∨ x < nx) := fun k hk e => by
      subst e
      rw [hx] at hk
      simp only [Option.some.injEq] at hk
      exact fun h => hc ⟨hk, h⟩
    rcases h with ⟨rfl, h1⟩ | ⟨h0, h1, h2, h3⟩
    · refine .inl ⟨rfl, fun k hk => ?_⟩
      have hkx : k ≠ x := fun e => hno k hk e (.inl (by omega))
      simp [h1 k hk, hkx]
    · refine .inr ⟨h0, h1, by simp [h2], fun k hk hpk => ?_⟩
      simp only [Bool.or_eq_true, beq_iff_eq] at hpk
      rcases hpk with hpk | hpk
      · exact h3 k hk hpk
      · have := hno k hk hpk
        omega
theorem NX.congr {W : List (Int × Int)} {p q : Int → Bool} {nx : Int} (h : NX W p nx) (hpq : ∀ k, (lookW k W).isSome = true → p k = q k) : NX W q nx := by
  rcases h with ⟨e, h1⟩ | ⟨h0, h1, h2, h3⟩
  · exact .inl ⟨e, fun k hk => by rw [← hpq k (by rw [hk]; rfl)]; exact h1 k hk⟩
  · exact .inr ⟨h0, h1, by rw [← hpq nx (by rw [h1]; rfl)]; exact h2, fun k hk hq => h3 k hk (by rw [hpq k (by rw [hk]; rfl)]; exact hq)⟩
end Tn
namespace Tn
theorem orderW_stop {chs : List Ch} {m : Nat} {W : List (Int × Int)} {out r : List Int} (hW : W ≠ []) (hn : nextW W < 0) (h : orderW chs m W out = some r) : out = r := by
  cases m with
  | zero => cases h
  | succ m => cases W with
    | nil => exact absurd rfl hW
    | cons p W =>
      simp only [orderW, if_pos hn, Option.some.injEq] at h
      exact h
theorem orderW_step {chs : List Ch} {m : Nat} {W : List (Int × Int)} {out r : List Int} (hW : W ≠ []) (hn : ¬ nextW W < 0) (h : orderW chs m W out = some r) :
    ∃ m', m = m' + 1 ∧ orderW chs m' (decsW (nextW W) chs (dropW (nextW W) W)) (out ++ [nextW W]) = some r := by
  cases m with
  | zero => cases h
  | succ m => cases W with
    | nil => exact absurd rfl hW
    | cons p W =>
      simp only [orderW, if_neg hn] at h
      exact ⟨m, rfl, h⟩
end Tn
