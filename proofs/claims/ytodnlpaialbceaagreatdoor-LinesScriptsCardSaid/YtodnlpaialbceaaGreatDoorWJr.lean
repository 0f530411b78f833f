import Derived.Test.YtodnlpaialbceaaGreatDoorWJ0
import Derived.Test.YtodnlpaialbceaaGreatDoorWJ2
/- Two families of rows that a call has built: what appends and stores do to them. -/
set_option linter.unusedVariables false
set_option linter.unusedSimpArgs false
namespace Tj
open Go Go.RowKit Go.Proofs
def upd {α : Type} (Y : Bool → Nat → α) (b0 : Bool) (j0 : Nat) (v : α) : Bool → Nat → α := fun b j => if b = b0 ∧ j = j0 then v else Y b j
theorem upd_eq {α : Type} (Y : Bool → Nat → α) (b : Bool) (j : Nat) (v : α) : upd Y b j v b j = v := by simp [upd]
theorem upd_ne {α : Type} (Y : Bool → Nat → α) {b b0 : Bool} {j j0 : Nat} (v : α) (h : ¬(b = b0 ∧ j = j0)) : upd Y b0 j0 v b j = Y b j := by simp [upd, h]
structure Rws (B n : Nat) (D : Bool → Nat → Prop) (Y : Bool → Nat → Value) (C : Bool → Nat → List Int) (w : World) : Prop where
  row : ∀ b j, j < n → D b j → w.ownsRow B 3 1 (Y b j) (C b j).length ((C b j).map (.int .i64))
  apart : ∀ b j b' j' g, j < n → j' < n → (Y b j).ownBlock = some g → (Y b' j').ownBlock = some g → b = b' ∧ j = j'
  size : B ≤ w.heap.size
theorem row_at {w : World} {base e size n : Nat} {v : Value} {xs : List Value} (h : w.ownsRow base e size v n xs) {g : Nat} (hg : v.ownBlock = some g) : base ≤ g ∧ g < w.heap.size := by
  obtain ⟨h1, h2⟩ := h
  rcases h2 with ⟨rfl, _⟩ | ⟨g', cap, cur, rfl, b, c, _⟩
  · cases hg
  · simp only [Value.ownBlock, Option.some.injEq] at hg
    subst hg
    exact ⟨b, heap_lt c⟩
theorem Rws.kept {B n : Nat} {D : Bool → Nat → Prop} {Y : Bool → Nat → Value} {C : Bool → Nat → List Int} {w w' : World} (h : Rws B n D Y C w) (hg : w.grownBy w' none) : Rws B n D Y C w' :=
  ⟨fun b j hj hd => (h.row b j hj hd).kept hg (by cases Value.ownBlock _ <;> simp), h.apart, Nat.le_trans h.size hg.size⟩
theorem Rws.alloc {B n : Nat} {D : Bool → Nat → Prop} {Y : Bool → Nat → Value} {C : Bool → Nat → List Int} {w : World} (h : Rws B n D Y C w) (o : Obj) : Rws B n D Y C (w.alloc o) := h.kept (World.grownBy_alloc _ _ _)
theorem Rws.drew {B n : Nat} {D : Bool → Nat → Prop} {Y : Bool → Nat → Value} {C : Bool → Nat → List Int} {w : World} (h : Rws B n D Y C w) : Rws B n D Y C w.drew :=
  ⟨fun b j hj hd => (h.row b j hj hd).drew, h.apart, h.size⟩
theorem Rws.less {B n : Nat} {D D' : Bool → Nat → Prop} {Y : Bool → Nat → Value} {C : Bool → Nat → List Int} {w : World} (h : Rws B n D Y C w) (hd : ∀ b j, j < n → D' b j → D b j) : Rws B n D' Y C w :=
  ⟨fun b j hj hd' => h.row b j hj (hd b j hj hd'), h.apart, h.size⟩
theorem Rws.lost {B n : Nat} {D D' : Bool → Nat → Prop} {Y : Bool → Nat → Value} {C : Bool → Nat → List Int} {w w' : World} (h : Rws B n D Y C w) {b0 : Bool} {j0 : Nat} (h0 : j0 < n) (hg : w.grownBy w' (Y b0 j0).ownBlock)
    (hd : ∀ b j, j < n → D' b j → D b j ∧ ¬(b = b0 ∧ j = j0)) : Rws B n D' Y C w' :=
  ⟨fun b j hj hd' => (h.row b j hj (hd b j hj hd').1).kept hg (by
    cases hb : (Y b j).ownBlock with
    | none => exact .inl rfl
    | some g => exact .inr fun e => (hd b j hj hd').2 (h.apart _ _ _ _ g hj h0 hb e.symm)), h.apart, Nat.le_trans h.size hg.size⟩
theorem Rws.append {B n : Nat} {D : Bool → Nat → Prop} {Y : Bool → Nat → Value} {C : Bool → Nat → List Int} {w w' : World} (h : Rws B n D Y C w) {b0 : Bool} {j0 : Nat} (h0 : j0 < n) (hlive : ∀ b j, j < n → D b j) {x : Int} {g cap m H : Nat} (hm : m = (C b0 j0).length + 1)
    (hown : w'.ownsRow B 3 1 (.slice (some ⟨g, 0, none⟩) m cap) m ((C b0 j0).map (.int .i64) ++ [.int .i64 x])) (hg : w.grownBy w' (Y b0 j0).ownBlock) (hat : (Y b0 j0).ownBlock = some g ∨ g = H) (hH : w.heap.size ≤ H) :
    Rws B n D (upd Y b0 j0 (.slice (some ⟨g, 0, none⟩) m cap)) (upd C b0 j0 (C b0 j0 ++ [x])) w' := by
  subst hm
  refine ⟨fun b j hj hd => ?_, fun b j b' j' q hj hj' h1 h2 => ?_, Nat.le_trans h.size hg.size⟩
  · by_cases e : b = b0 ∧ j = j0
    · obtain ⟨rfl, rfl⟩ := e
      rw [upd_eq, upd_eq]
      simpa using hown
    · rw [upd_ne _ _ e, upd_ne _ _ e]
      refine (h.row b j hj hd).kept hg ?_
      cases hb : (Y b j).ownBlock with
      | none => exact .inl rfl
      | some q => exact .inr fun e' => e (h.apart _ _ _ _ q hj h0 hb e'.symm)
  · have key : ∀ (b : Bool) (j : Nat), j < n → ¬(b = b0 ∧ j = j0) → (Y b j).ownBlock = some g → False := fun b j hj e hb => by
      rcases hat with hat | hat
      · exact e (h.apart _ _ _ _ g hj h0 hb hat)
      · have := (row_at (h.row b j hj (hlive b j hj)) hb).2
        omega
    by_cases e : b = b0 ∧ j = j0
    · by_cases e' : b' = b0 ∧ j' = j0
      · exact ⟨e.1.trans e'.1.symm, e.2.trans e'.2.symm⟩
      · rw [upd_ne _ _ e'] at h2
        obtain ⟨rfl, rfl⟩ := e
        rw [upd_eq] at h1
        have hq : g = q := by simpa [Value.ownBlock] using h1
        subst hq
        exact (key b' j' hj' e' h2).elim
    · rw [upd_ne _ _ e] at h1
      by_cases e' : b' = b0 ∧ j' = j0
      · obtain ⟨rfl, rfl⟩ := e'
        rw [upd_eq] at h2
        have hq : g = q := by simpa [Value.ownBlock] using h2
        subst hq
        exact (key b j hj e h1).elim
      · rw [upd_ne _ _ e'] at h2
        exact h.apart _ _ _ _ q hj hj' h1 h2
theorem Rws.store {B n : Nat} {D : Bool → Nat → Prop} {Y : Bool → Nat → Value} {C : Bool → Nat → List Int} {w : World} (h : Rws B n D Y C w) (a : Addr) (ha : a.block < B) (v : Value) : Rws B n D Y C (w.setCell a v) := by
  refine ⟨fun b j hj hd => ?_, h.apart, by simpa using h.size⟩
  have hr := h.row b j hj hd
  refine hr.kept (row := some a.block) ⟨rfl, rfl, rfl, by simp, fun k hk hne => Deep.blk_setCell_other _ _ _ _ (fun e => hne (by rw [e]))⟩ ?_
  cases hb : (Y b j).ownBlock with
  | none => exact .inl rfl
  | some q =>
    refine .inr fun e => ?_
    have := (row_at hr hb).1
    injection e with e
    omega
def Hds (n : Nat) (hb : Bool → Nat) (Y : Bool → Nat → Value) (w : World) : Prop := ∀ b, w.rowIs (hb b) 107 n (Y b)
theorem Hds.kept {n : Nat} {hb : Bool → Nat} {Y : Bool → Nat → Value} {w w' : World} {r : Option Nat} (h : Hds n hb Y w) (hg : w.grownBy w' r) (hr : ∀ b, some (hb b) ≠ r) : Hds n hb Y w' :=
  fun b => (h b).of_block (hg.block _ (h b).lt (hr b))
theorem Hds.alloc {n : Nat} {hb : Bool → Nat} {Y : Bool → Nat → Value} {w : World} (h : Hds n hb Y w) (o : Obj) : Hds n hb Y (w.alloc o) := fun b => (h b).alloc o
theorem Hds.drew {n : Nat} {hb : Bool → Nat} {Y : Bool → Nat → Value} {w : World} (h : Hds n hb Y w) : Hds n hb Y w.drew := fun b => (h b).drew
theorem Hds.store {n : Nat} {hb : Bool → Nat} {Y : Bool → Nat → Value} {w : World} (h : Hds n hb Y w) (hne : hb true ≠ hb false) (b0 : Bool) (j0 : Nat) (v : Value) : Hds n hb (upd Y b0 j0 v) (w.setCell ⟨hb b0, j0, none⟩ v) := fun b => by
  by_cases e : b = b0
  · subst e
    refine ((h b).set j0 v).congr fun i hi => ?_
    by_cases hij : i = j0
    · subst hij
      rw [if_pos rfl, upd_eq]
    · rw [if_neg hij, upd_ne _ _ (fun e => hij e.2)]
  · refine ((h b).setOther (a := ⟨hb b0, j0, none⟩) (fun e' => ?_) v).congr fun i hi => ?_
    · cases b <;> cases b0 <;> simp_all
    · rw [upd_ne _ _ (fun e' => e e'.1)]
def lst (b : Bool) (j : Nat) (l : List Chn) : List Int := l.filterMap fun c => if (cond b c.2.2.1 c.1) = (j : Int) then some (cond b c.2.2.2.1 c.2.1) else none
theorem lst_snoc (l : List Chn) (c : Chn) (t f : Nat) (h1 : c.2.2.1 = t) (h2 : c.1 = f) : (fun b j => lst b j (l ++ [c])) = upd (upd (fun b j => lst b j l) true t (lst true t l ++ [c.2.2.2.1])) false f (lst false f l ++ [c.2.1]) := by
  funext b j
  unfold lst
  rw [List.filterMap_append]
  cases b with
  | true =>
    rw [upd_ne _ _ (by simp)]
    by_cases e : j = t
    · subst e
      rw [upd_eq]
      simp [h1]
    · rw [upd_ne _ _ (by simp [e])]
      have : ¬ ((t : Int) = j) := by omega
      simp [h1, this]
  | false =>
    by_cases e : j = f
    · subst e
      rw [upd_eq]
      simp [h2]
    · rw [upd_ne _ _ (by simp [e]), upd_ne _ _ (by simp)]
      have : ¬ ((f : Int) = j) := by omega
      simp [h2, this]
def okC (n : Nat) (c : Chn) : Bool := decide (0 ≤ min c.1 c.2.2.1) && (decide (max c.1 c.2.2.1 < n) && (decide (1 ≤ c.2.2.2.2.1) && decide (c.2.2.2.2.1 ≤ 8)))
def inc (p c : Chn) : Bool := decide (p.1 < c.1) || (decide (p.1 = c.1) && decide (p.2.1 < c.2.1))
def chk (n : Nat) : Option Chn → List Chn → Bool
  | _, [] => true
  | p, c :: l => okC n c && ((match p with | none => true | some p => inc p c) && chk n (some c) l)
def fin (chs : List Chn) : Nat → List Opr → Bool
  | _, [] => true
  | j, o :: l => endsP (lst true j chs) (bnd o.1).1 (bnd o.1).2.1 && (endsP (lst false j chs) (bnd o.1).2.2.1 (bnd o.1).2.2.2 && fin chs (j + 1) l)
def joinedP (ops : List Opr) (chs : List Chn) : Bool := chk ops.length none chs && fin chs 0 ops
theorem drop_cons {α : Type} {xs : List α} {q : Nat} {x : α} (h : xs[q]? = some x) : xs.drop q = x :: xs.drop (q + 1) := by
  obtain ⟨hl, he⟩ := List.getElem?_eq_some_iff.1 h
  rw [List.drop_eq_getElem_cons hl, he]
def incO : Option Chn → Chn → Bool
  | none, _ => true
  | some p, c => inc p c
theorem chk_cons (n : Nat) (p : Option Chn) (c : Chn) (l : List Chn) : chk n p (c :: l) = (okC n c && (incO p c && chk n (some c) l)) := by cases p <;> rfl
theorem bad_ok {ops : List Opr} {chs : List Chn} {k n : Nat} {p : Option Chn} {c : Chn} (hn : n = ops.length) (h : chk n none chs = chk n p (chs.drop k)) (hc : chs[k]? = some c) (ho : okC n c = false) : joinedP ops chs = false := by
  rw [drop_cons hc, chk_cons, ho, Bool.false_and] at h
  rw [joinedP, ← hn, h, Bool.false_and]
theorem bad_inc {ops : List Opr} {chs : List Chn} {k n : Nat} {p c : Chn} (hn : n = ops.length) (h : chk n none chs = chk n (some p) (chs.drop k)) (hc : chs[k]? = some c) (ho : inc p c = false) : joinedP ops chs = false := by
  rw [drop_cons hc, chk_cons, show incO (some p) c = false from ho, Bool.false_and, Bool.and_false] at h
  rw [joinedP, ← hn, h, Bool.false_and]
theorem good_step {chs : List Chn} {k n : Nat} {p : Option Chn} {c : Chn} (h : chk n none chs = chk n p (chs.drop k)) (hc : chs[k]? = some c) (ho : okC n c = true) (hi : ∀ q, p = some q → inc q c = true) : chk n none chs = chk n (some c) (chs.drop (k + 1)) := by
  rw [h, drop_cons hc, chk_cons, ho]
  cases p with
  | none => simp [incO]
  | some q => simp [incO, hi q rfl]
end Tj
