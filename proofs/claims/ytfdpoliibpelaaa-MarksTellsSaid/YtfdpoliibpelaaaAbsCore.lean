/- Abstract values, their relation to the model's values, and the frame lemmas. -/
import Derived.ProofKit
import Derived.WalkKit
import Derived.WalkLawsBesides
import Derived.Maps.AppendAt
set_option linter.unusedVariables false
namespace Go.Abs
open Go.RowKit (Below)

/-- Pure values: one cell each. -/
inductive PV where
  | bool (b : Bool)
  | int (k : IntKind) (n : Int)
  | str (s : List UInt8)
  | sl (elems : List (List PV))
  deriving Inhabited

inductive PRel (w : World) (O : Nat → Prop) : PV → Value → Prop where
  | bool (b : Bool) : PRel w O (.bool b) (.bool b)
  | int (k : IntKind) (n : Int) : PRel w O (.int k n) (.int k n)
  | str (s : List UInt8) : PRel w O (.str s) (.string ⟨s.toArray⟩)
  | nil (a : Option Addr) (c : Nat) : PRel w O (.sl []) (.slice a 0 c)
  | sl (elems : List (List PV)) (a : Addr) (n c size : Nat) (u : Nat → Nat → Value) (hO : ¬ O a.block) (hlt : a.block < w.heap.size) (hn : n = elems.length)
      (hc : n ≤ c) (hsz : ∀ (i : Nat) (e : List PV), elems[i]? = some e → e.length = size)
      (hcell : ∀ (i : Nat) (e : List PV), elems[i]? = some e → ∀ (j : Nat) (x : PV), e[j]? = some x → w.cell? (a.add (i * size + j)) = some (u i j))
      (hrel : ∀ (i : Nat) (e : List PV), elems[i]? = some e → ∀ (j : Nat) (x : PV), e[j]? = some x → PRel w O x (u i j)) : PRel w O (.sl elems) (.slice (some a) n c)

theorem block_of_add (a : Addr) (n : Nat) : (a.add n).block = a.block := by unfold Addr.add; split <;> rfl
theorem add_of_add (a : Addr) (i j : Nat) : (a.add i).add j = a.add (i + j) := by
  unfold Addr.add
  by_cases hi : i = 0 <;> by_cases hj : j = 0 <;> simp [hi, hj, Nat.add_assoc]

/-- What does not turn between two worlds: blocks that are not owned. -/
structure Fix (w : World) (O : Nat → Prop) (w' : World) (O' : Nat → Prop) : Prop where
  size : w.heap.size ≤ w'.heap.size
  heap : ∀ g, g < w.heap.size → ¬ O g → w'.heap[g]? = w.heap[g]?
  own : ∀ g, g < w.heap.size → ¬ O g → ¬ O' g

theorem Fix.refl (w : World) (O : Nat → Prop) : Fix w O w O := ⟨Nat.le_refl _, fun _ _ _ => rfl, fun _ _ h => h⟩
theorem Fix.trans {w w' w'' : World} {O O' O'' : Nat → Prop} (h : Fix w O w' O') (k : Fix w' O' w'' O'') : Fix w O w'' O'' :=
  ⟨Nat.le_trans h.size k.size, fun g hg ho => (k.heap g (Nat.lt_of_lt_of_le hg h.size) (h.own g hg ho)).trans (h.heap g hg ho), fun g hg ho => k.own g (Nat.lt_of_lt_of_le hg h.size) (h.own g hg ho)⟩
theorem Fix.cell {w w' : World} {O O' : Nat → Prop} (h : Fix w O w' O') {a : Addr} {v : Value} (ho : ¬ O a.block) (hc : w.cell? a = some v) : w'.cell? a = some v :=
  (World.cell?_of_block (h.heap a.block (World.block_lt_of_cell? w a hc) ho)).trans hc

theorem PRel.fix {w w' : World} {O O' : Nat → Prop} (h : Fix w O w' O') {x : PV} {v : Value} (hr : PRel w O x v) : PRel w' O' x v := by
  induction hr with
  | bool b => exact .bool b
  | int k n => exact .int k n
  | str s => exact .str s
  | nil a c => exact .nil a c
  | sl elems a n c size u hO hlt hn hc hsz hcell _ ih =>
    exact .sl elems a n c size u (h.own _ hlt hO) (Nat.lt_of_lt_of_le hlt h.size) hn hc hsz (fun i e he j x hx => h.cell (by rw [block_of_add]; exact hO) (hcell i e he j x hx)) ih

theorem PRel.oneCell {w : World} {O : Nat → Prop} {x : PV} {v : Value} (h : PRel w O x v) : v.oneCell' = true := by
  cases h <;> rfl

/-- Abstract values. -/
inductive AV where
  | any
  | u
  | p (v : PV)
  | nil
  | ne
  | nl
  | e0
  | xf (elems : List (List PV))
  | row (t ver : Nat)
  | sl (t ver lo len : Nat) (ex : Bool)
  | ptr (t ver i off : Nat)
  | nptr
  | fptr (cells : List PV)
  | agg (cells : List AV)
  | tuple (vs : List AV)
  | fn (f : FuncId) (caps : List AV)
  | nilf
  deriving Inhabited

structure AObj where
  ver : Nat
  e : TypeId
  size : Nat
  elems : List (List AV)
  deriving Inhabited

/-- Where the tags lie, and which older blocks may turn. -/
structure Em where
  at_ : Nat → Value
  O : Nat → Prop
instance : CoeFun Em (fun _ => Nat → Value) := ⟨Em.at_⟩

def Own (n : Nat) (ι : Em) (g : Nat) : Prop := ι.O g ∨ ∃ t, t < n ∧ (ι t).ownBlock = some g

/-- A part of a row. -/
def SubSl (o : AObj) (sv : Value) (lo len : Nat) (ex : Bool) (v : Value) : Prop :=
  ∃ g N C c, sv = .slice (some ⟨g, 0, none⟩) N C ∧ v = .slice (some ⟨g, lo * o.size, none⟩) len c ∧ len ≤ c ∧ (ex = true → c = len) ∧ lo + len ≤ o.elems.length

def PtrTo (o : AObj) (sv : Value) (i off : Nat) (v : Value) : Prop :=
  ∃ g N C, sv = .slice (some ⟨g, 0, none⟩) N C ∧ v = .pointer (some ⟨g, i * o.size + off, none⟩) ∧ i < o.elems.length

inductive VRel (h : List AObj) (ι : Em) (w : World) (O : Nat → Prop) : AV → Value → Prop where
  | any (v : Value) : VRel h ι w O .any v
  | u : VRel h ι w O .u undef
  | p (x : PV) (v : Value) (hp : PRel w O x v) : VRel h ι w O (.p x) v
  | nil : VRel h ι w O .nil (.slice none 0 0)
  | ne (a : Addr) (c : Nat) : VRel h ι w O .ne (.slice (some a) 0 c)
  | nl (c : Nat) : VRel h ι w O .nl (.slice none 0 c)
  | e0 (a : Option Addr) : VRel h ι w O .e0 (.slice a 0 0)
  | xf (elems : List (List PV)) (a : Option Addr) (n : Nat) (hp : PRel w O (.sl elems) (.slice a n n)) : VRel h ι w O (.xf elems) (.slice a n n)
  | row (t ver : Nat) (v : Value) (ht : t < h.length) (hv : v.oneCell' = true) (ho : ∀ o, h[t]? = some o → ver ≤ o.ver ∧ (o.ver = ver → v = ι t)) : VRel h ι w O (.row t ver) v
  | sl (t ver lo len : Nat) (ex : Bool) (v : Value) (ht : t < h.length) (hv : v.oneCell' = true) (ho : ∀ o, h[t]? = some o → ver ≤ o.ver ∧ (o.ver = ver → SubSl o (ι t) lo len ex v)) : VRel h ι w O (.sl t ver lo len ex) v
  | ptr (t ver i off : Nat) (v : Value) (ht : t < h.length) (hv : v.oneCell' = true) (ho : ∀ o, h[t]? = some o → ver ≤ o.ver ∧ (o.ver = ver → PtrTo o (ι t) i off v)) : VRel h ι w O (.ptr t ver i off) v
  | nptr : VRel h ι w O .nptr (.pointer none)
  | fptr (cells : List PV) (a : Addr) (u : Nat → Value) (hO : ¬ O a.block) (hlt : a.block < w.heap.size) (hcell : ∀ (j : Nat) (x : PV), cells[j]? = some x → w.cell? (a.add j) = some (u j))
      (hrel : ∀ (j : Nat) (x : PV), cells[j]? = some x → PRel w O x (u j)) : VRel h ι w O (.fptr cells) (.pointer (some a))
  | agg (cs : List AV) (vs : Array Value) (hl : vs.size = cs.length) (hr : ∀ (i : Nat) (x : AV) (v : Value), cs[i]? = some x → vs[i]? = some v → VRel h ι w O x v) : VRel h ι w O (.agg cs) (.agg vs)
  | tuple (cs : List AV) (vs : Array Value) (hl : vs.size = cs.length) (hr : ∀ (i : Nat) (x : AV) (v : Value), cs[i]? = some x → vs[i]? = some v → VRel h ι w O x v) : VRel h ι w O (.tuple cs) (.tuple vs)
  | fn (f : FuncId) (cs : List AV) (vs : Array Value) (hl : vs.size = cs.length) (hr : ∀ (i : Nat) (x : AV) (v : Value), cs[i]? = some x → vs[i]? = some v → VRel h ι w O x v) : VRel h ι w O (.fn f cs) (.func (.func f) #[] vs)
  | nilf : VRel h ι w O .nilf .nilFunc

/-- Is it the value of one cell? -/
def AV.isCell : AV → Bool
  | .any | .u | .agg _ | .tuple _ => false
  | _ => true

theorem VRel.oneCell {h : List AObj} {ι : Em} {w : World} {O : Nat → Prop} {x : AV} {v : Value} (hr : VRel h ι w O x v) (hx : x.isCell = true) : v.oneCell' = true := by
  cases hr <;> first | rfl | assumption | (simp [AV.isCell] at hx) | skip
  case p x hp => exact hp.oneCell

/-- Between two configurations every old relation stands. -/
structure Ext (h : List AObj) (ι : Em) (w : World) (O : Nat → Prop) (h' : List AObj) (ι' : Em) (w' : World) (O' : Nat → Prop) : Prop where
  fix : Fix w O w' O'
  len : h.length ≤ h'.length
  oeq : ι'.O = ι.O
  obj : ∀ t o', t < h.length → h'[t]? = some o' → ∃ o, h[t]? = some o ∧ ((o'.ver = o.ver ∧ o'.size = o.size ∧ o'.elems.length = o.elems.length ∧ ι' t = ι t) ∨ o.ver < o'.ver)

theorem Ext.refl (h : List AObj) (ι : Em) (w : World) (O : Nat → Prop) : Ext h ι w O h ι w O :=
  ⟨.refl _ _, Nat.le_refl _, rfl, fun t o' _ ho => ⟨o', ho, .inl ⟨rfl, rfl, rfl, rfl⟩⟩⟩

theorem Ext.trans {h h' h'' : List AObj} {ι ι' ι'' : Em} {w w' w'' : World} {O O' O'' : Nat → Prop} (a : Ext h ι w O h' ι' w' O') (b : Ext h' ι' w' O' h'' ι'' w'' O'') : Ext h ι w O h'' ι'' w'' O'' := by
  refine ⟨a.fix.trans b.fix, Nat.le_trans a.len b.len, b.oeq.trans a.oeq, fun t o'' ht ho'' => ?_⟩
  obtain ⟨o', ho', hb⟩ := b.obj t o'' (Nat.lt_of_lt_of_le ht a.len) ho''
  obtain ⟨o, ho, ha⟩ := a.obj t o' ht ho'
  refine ⟨o, ho, ?_⟩
  rcases ha with ⟨a1, a2, a3, a4⟩ | ha <;> rcases hb with ⟨b1, b2, b3, b4⟩ | hb
  · exact .inl ⟨b1.trans a1, b2.trans a2, b3.trans a3, b4.trans a4⟩
  · exact .inr (by omega)
  · exact .inr (by omega)
  · exact .inr (by omega)

theorem Ext.rel {h h' : List AObj} {ι ι' : Em} {w w' : World} {O O' : Nat → Prop} (a : Ext h ι w O h' ι' w' O') {x : AV} {v : Value} (hr : VRel h ι w O x v) : VRel h' ι' w' O' x v := by
  induction hr with
  | any v => exact .any v
  | u => exact .u
  | p x v hp => exact .p x v (hp.fix a.fix)
  | nil => exact .nil
  | ne ad c => exact .ne ad c
  | nl c => exact .nl c
  | e0 ad => exact .e0 ad
  | xf elems ad n hp => exact .xf elems ad n (hp.fix a.fix)
  | row t ver v ht hv ho =>
    refine .row t ver v (Nat.lt_of_lt_of_le ht a.len) hv fun o' ho' => ?_
    obtain ⟨o, h0, hc⟩ := a.obj t o' ht ho'
    obtain ⟨h1, h2⟩ := ho o h0
    rcases hc with ⟨c1, c2, c3, c4⟩ | hc
    · exact ⟨by omega, fun e => by rw [c4]; exact h2 (by omega)⟩
    · exact ⟨by omega, fun e => by omega⟩
  | sl t ver lo len ex v ht hv ho =>
    refine .sl t ver lo len ex v (Nat.lt_of_lt_of_le ht a.len) hv fun o' ho' => ?_
    obtain ⟨o, h0, hc⟩ := a.obj t o' ht ho'
    obtain ⟨h1, h2⟩ := ho o h0
    rcases hc with ⟨c1, c2, c3, c4⟩ | hc
    · refine ⟨by omega, fun e => ?_⟩
      have := h2 (by omega)
      unfold SubSl at this ⊢
      rw [c4, c2, c3]; exact this
    · exact ⟨by omega, fun e => by omega⟩
  | ptr t ver i off v ht hv ho =>
    refine .ptr t ver i off v (Nat.lt_of_lt_of_le ht a.len) hv fun o' ho' => ?_
    obtain ⟨o, h0, hc⟩ := a.obj t o' ht ho'
    obtain ⟨h1, h2⟩ := ho o h0
    rcases hc with ⟨c1, c2, c3, c4⟩ | hc
    · refine ⟨by omega, fun e => ?_⟩
      have := h2 (by omega)
      unfold PtrTo at this ⊢
      rw [c4, c2, c3]; exact this
    · exact ⟨by omega, fun e => by omega⟩
  | nptr => exact .nptr
  | fptr cells ad u hO hlt hcell hrel =>
    exact .fptr cells ad u (a.fix.own _ hlt hO) (Nat.lt_of_lt_of_le hlt a.fix.size) (fun j x hx => a.fix.cell (by rw [block_of_add]; exact hO) (hcell j x hx)) (fun j x hx => (hrel j x hx).fix a.fix)
  | agg cs vs hl _ ih => exact .agg cs vs hl ih
  | tuple cs vs hl _ ih => exact .tuple cs vs hl ih
  | fn f cs vs hl _ ih => exact .fn f cs vs hl ih
  | nilf => exact .nilf

/-- The abstract heap stands for the world. -/
structure HRel (B : Nat) (w0 : World) (h : List AObj) (ι : Em) (w : World) : Prop where
  below : Below B w0 w
  base : B ≤ w0.heap.size
  old : ∀ g, ι.O g → g < B
  objs : ∀ t o, h[t]? = some o → (o.size = 0 ∧ (ι t).ownBlock = none) ∨ 0 < o.size ∧ ∃ xs, w.ownsRow B o.e o.size (ι t) o.elems.length xs ∧
    ∀ (i : Nat) (e : List AV), o.elems[i]? = some e → e.length = o.size ∧ ∀ (j : Nat) (x : AV), e[j]? = some x → ∃ v, xs[i * o.size + j]? = some v ∧ VRel h ι w (Own h.length ι) x v
  inj : ∀ t t' g, t < h.length → t' < h.length → (ι t).ownBlock = some g → (ι t').ownBlock = some g → t = t'

theorem HRel.size {B : Nat} {w0 w : World} {h : List AObj} {ι : Em} (hr : HRel B w0 h ι w) : B ≤ w.heap.size := Nat.le_trans hr.base hr.below.size

/-- The blocks of tags lie from B on, below the heap's size. -/
theorem HRel.own {B : Nat} {w0 w : World} {h : List AObj} {ι : Em} (hr : HRel B w0 h ι w) {g t : Nat} (ht : t < h.length) (hg : (ι t).ownBlock = some g) : B ≤ g ∧ g < w.heap.size := by
  rcases hr.objs t h[t] (List.getElem?_eq_getElem ht) with ⟨_, h0⟩ | ⟨_, xs, ho, _⟩
  · rw [h0] at hg
    cases hg
  · exact ho.lt g hg

/-- A draw. -/
theorem HRel.drew {B : Nat} {w0 w : World} {h : List AObj} {ι : Em} (hr : HRel B w0 h ι w) : HRel B w0 h ι w.drew ∧ Ext h ι w (Own h.length ι) h ι w.drew (Own h.length ι) := by
  have hx : Ext h ι w (Own h.length ι) h ι w.drew (Own h.length ι) := ⟨⟨Nat.le_refl _, fun _ _ _ => rfl, fun _ _ h => h⟩, Nat.le_refl _, rfl, fun t o' _ ho => ⟨o', ho, .inl ⟨rfl, rfl, rfl, rfl⟩⟩⟩
  refine ⟨⟨hr.below.drew, hr.base, hr.old, fun t o ho => ?_, hr.inj⟩, hx⟩
  rcases hr.objs t o ho with h0 | ⟨hs, xs, h1, h2⟩
  · exact .inl h0
  exact .inr ⟨hs, xs, h1, fun i e he => ⟨(h2 i e he).1, fun j x hj => by
    obtain ⟨v, hv, hvr⟩ := (h2 i e he).2 j x hj
    exact ⟨v, hv, hx.rel hvr⟩⟩⟩

def upd (ι : Em) (t : Nat) (v : Value) : Em := ⟨fun s => if s = t then v else ι s, ι.O⟩
theorem upd_same (ι : Em) (t : Nat) (v : Value) : upd ι t v t = v := by simp [upd]
theorem upd_other (ι : Em) {t s : Nat} (v : Value) (h : s ≠ t) : upd ι t v s = ι s := by simp [upd, h]

/-- A new object at the heap's end. xs: its cells in the world after. -/
theorem HRel.push {B : Nat} {w0 w w' : World} {h : List AObj} {ι : Em} (hr : HRel B w0 h ι w) (o : AObj) (sv : Value) (xs : List Value)
    (hg : w.grownBy w' none) (hnew : ∀ g, sv.ownBlock = some g → w.heap.size ≤ g) (hs : 0 < o.size) (hown : w'.ownsRow B o.e o.size sv o.elems.length xs)
    (hx : ∀ (i : Nat) (e : List AV), o.elems[i]? = some e → e.length = o.size ∧ ∀ (j : Nat) (x : AV), e[j]? = some x → ∃ v, xs[i * o.size + j]? = some v ∧ VRel h ι w (Own h.length ι) x v) :
    HRel B w0 (h ++ [o]) (upd ι h.length sv) w' ∧ Ext h ι w (Own h.length ι) (h ++ [o]) (upd ι h.length sv) w' (Own (h ++ [o]).length (upd ι h.length sv)) := by
  have hB := hr.size
  have hext : Ext h ι w (Own h.length ι) (h ++ [o]) (upd ι h.length sv) w' (Own (h ++ [o]).length (upd ι h.length sv)) := by
    refine ⟨⟨hg.size, fun g hlt _ => hg.block g hlt (by simp), fun g hlt hno => ?_⟩, by simp, rfl, fun t o' ht ho' => ?_⟩
    · rintro (hO | ⟨t, ht, hb⟩)
      · exact hno (.inl hO)
      simp only [List.length_append, List.length_cons, List.length_nil, Nat.zero_add] at ht
      by_cases e : t = h.length
      · subst e
        rw [upd_same] at hb
        have := hnew g hb
        omega
      · rw [upd_other _ _ e] at hb
        exact hno (.inr ⟨t, by omega, hb⟩)
    · rw [List.getElem?_append_left ht] at ho'
      exact ⟨o', ho', .inl ⟨rfl, rfl, rfl, upd_other _ _ (by omega)⟩⟩
  refine ⟨⟨hr.below.grown hg hB (by simp), hr.base, hr.old, fun t o' ho' => ?_, fun t t' g ht ht' h1 h2 => ?_⟩, hext⟩
  · by_cases ht : t < h.length
    · rw [List.getElem?_append_left ht] at ho'
      rcases hr.objs t o' ho' with ⟨h0, h00⟩ | ⟨hs', ys, h1, h2⟩
      · exact .inl ⟨h0, by rw [upd_other _ _ (by omega)]; exact h00⟩
      refine .inr ⟨hs', ys, ?_, fun i e he => ⟨(h2 i e he).1, fun j x hj => ?_⟩⟩
      · rw [upd_other _ _ (by omega)]
        exact h1.kept hg (by cases (ι t).ownBlock <;> simp)
      · obtain ⟨v, hv, hvr⟩ := (h2 i e he).2 j x hj
        exact ⟨v, hv, hext.rel hvr⟩
    · rw [List.getElem?_append_right (by omega)] at ho'
      have e : t = h.length := by
        have := (List.getElem?_eq_some_iff.1 ho').1
        simp at this
        omega
      subst e
      simp at ho'
      subst ho'
      refine .inr ⟨hs, xs, by rw [upd_same]; exact hown, fun i e he => ⟨(hx i e he).1, fun j x hj => ?_⟩⟩
      obtain ⟨v, hv, hvr⟩ := (hx i e he).2 j x hj
      exact ⟨v, hv, hext.rel hvr⟩
  · simp only [List.length_append, List.length_cons, List.length_nil, Nat.zero_add] at ht ht'
    by_cases e : t = h.length <;> by_cases e' : t' = h.length
    · omega
    · subst e
      rw [upd_same] at h1
      rw [upd_other _ _ e'] at h2
      have := hnew g h1
      have := (hr.own (t := t') (by omega) h2).2
      omega
    · subst e'
      rw [upd_same] at h2
      rw [upd_other _ _ e] at h1
      have := hnew g h2
      have := (hr.own (t := t) (by omega) h1).2
      omega
    · rw [upd_other _ _ e] at h1
      rw [upd_other _ _ e'] at h2
      exact hr.inj t t' g (by omega) (by omega) h1 h2

/-- An object is changed: in place (same version, same length), or anew (a later version). -/
theorem HRel.change {B : Nat} {w0 w w' : World} {h : List AObj} {ι : Em} (hr : HRel B w0 h ι w) (t : Nat) (o o' : AObj) (ho : h[t]? = some o) (sv : Value) (xs : List Value)
    (hg : w.grownBy w' (ι t).ownBlock) (hsv : ∀ g, sv.ownBlock = some g → (ι t).ownBlock = some g ∨ w.heap.size ≤ g)
    (hver : (o'.ver = o.ver ∧ o'.size = o.size ∧ o'.elems.length = o.elems.length ∧ sv = ι t) ∨ o.ver < o'.ver)
    (hs : 0 < o'.size) (hown : w'.ownsRow B o'.e o'.size sv o'.elems.length xs)
    (hx : ∀ (i : Nat) (e : List AV), o'.elems[i]? = some e → e.length = o'.size ∧ ∀ (j : Nat) (x : AV), e[j]? = some x → ∃ v, xs[i * o'.size + j]? = some v ∧ VRel h ι w (Own h.length ι) x v) :
    HRel B w0 (h.set t o') (upd ι t sv) w' ∧ Ext h ι w (Own h.length ι) (h.set t o') (upd ι t sv) w' (Own (h.set t o').length (upd ι t sv)) := by
  have hB := hr.size
  have htl : t < h.length := (List.getElem?_eq_some_iff.1 ho).1
  have hset : (h.set t o')[t]? = some o' := by rw [List.getElem?_set_self htl]
  have hext : Ext h ι w (Own h.length ι) (h.set t o') (upd ι t sv) w' (Own (h.set t o').length (upd ι t sv)) := by
    refine ⟨⟨hg.size, fun g hlt hno => hg.block g hlt (fun e => hno (.inr ⟨t, htl, e.symm⟩)), fun g hlt hno => ?_⟩, by simp, rfl, fun s p hs' hp => ?_⟩
    · rintro (hO | ⟨s, hs', hb⟩)
      · exact hno (.inl hO)
      simp only [List.length_set] at hs'
      by_cases e : s = t
      · subst e
        rw [upd_same] at hb
        rcases hsv g hb with h1 | h1
        · exact hno (.inr ⟨s, hs', h1⟩)
        · omega
      · rw [upd_other _ _ e] at hb
        exact hno (.inr ⟨s, hs', hb⟩)
    · by_cases e : s = t
      · subst e
        rw [hset] at hp
        obtain rfl := Option.some.inj hp
        refine ⟨o, ho, ?_⟩
        rcases hver with ⟨a, b, c, d⟩ | hv
        · exact .inl ⟨a, b, c, by rw [upd_same]; exact d⟩
        · exact .inr hv
      · rw [List.getElem?_set_ne (Ne.symm e)] at hp
        exact ⟨p, hp, .inl ⟨rfl, rfl, rfl, upd_other _ _ e⟩⟩
  refine ⟨⟨hr.below.grown hg hB (fun k hk => (hr.own htl hk).1), hr.base, hr.old, fun s p hp => ?_, fun s s' g hs1 hs2 h1 h2 => ?_⟩, hext⟩
  · by_cases e : s = t
    · subst e
      rw [hset] at hp
      obtain rfl := Option.some.inj hp
      refine .inr ⟨hs, xs, by rw [upd_same]; exact hown, fun i e he => ⟨(hx i e he).1, fun j x hj => ?_⟩⟩
      obtain ⟨v, hv, hvr⟩ := (hx i e he).2 j x hj
      exact ⟨v, hv, hext.rel hvr⟩
    · rw [List.getElem?_set_ne (Ne.symm e)] at hp
      have hsl : s < h.length := (List.getElem?_eq_some_iff.1 hp).1
      rcases hr.objs s p hp with ⟨h0, h00⟩ | ⟨hs', ys, h1, h2⟩
      · exact .inl ⟨h0, by rw [upd_other _ _ e]; exact h00⟩
      refine .inr ⟨hs', ys, ?_, fun i e' he => ⟨(h2 i e' he).1, fun j x hj => ?_⟩⟩
      · rw [upd_other _ _ e]
        refine h1.kept hg ?_
        by_cases hb : (ι s).ownBlock = none
        · exact .inl hb
        · right
          intro heq
          obtain ⟨g, hgg⟩ := Option.ne_none_iff_exists'.1 hb
          exact e (hr.inj s t g hsl htl hgg (by rw [← heq]; exact hgg))
      · obtain ⟨v, hv, hvr⟩ := (h2 i e' he).2 j x hj
        exact ⟨v, hv, hext.rel hvr⟩
  · simp only [List.length_set] at hs1 hs2
    by_cases e : s = t <;> by_cases e' : s' = t
    · omega
    · subst e
      rw [upd_same] at h1
      rw [upd_other _ _ e'] at h2
      rcases hsv g h1 with h3 | h3
      · exact hr.inj s s' g hs1 hs2 h3 h2
      · have := (hr.own hs2 h2).2
        omega
    · subst e'
      rw [upd_same] at h2
      rw [upd_other _ _ e] at h1
      rcases hsv g h2 with h3 | h3
      · exact hr.inj s s' g hs1 hs2 h1 h3
      · have := (hr.own hs1 h1).2
        omega
    · rw [upd_other _ _ e] at h1
      rw [upd_other _ _ e'] at h2
      exact hr.inj s s' g hs1 hs2 h1 h2

end Go.Abs
