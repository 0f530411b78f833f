/- States, one step, contracts. -/
import Derived.Test.YtfdpoliibpelaaaAbsSound11
set_option linter.unusedVariables false
set_option linter.unusedSimpArgs false
set_option linter.unnecessarySimpa false
set_option linter.unusedSectionVars false
set_option linter.constructorNameAsVariable false
namespace Go.Abs
open Go.RowKit (Below)

structure St where
  slots : List AV
  heap : List AObj

structure SR (B : Nat) (w0 : World) (st : St) (ι : Em) (a : Act) (w : World) : Prop where
  heap : HRel B w0 st.heap ι w
  len : a.tmps.size = st.slots.length
  slot : ∀ (i : Nat) (x : AV) (v : Value), st.slots[i]? = some x → a.tmps[i]? = some v → VR st.heap ι w x v
  defers : a.defers = []

def effH (h : List AObj) : Eff → List AObj
  | .none => h
  | .new o => h ++ [o]
  | .upd t o => h.set t o

def setD (s : List AV) (d : Option Nat) (v : AV) : List AV :=
  match d with
  | none => s
  | some d => s.set d v

abbrev EX (h : List AObj) (ι : Em) (w : World) (h' : List AObj) (ι' : Em) (w' : World) : Prop := Ext h ι w (Own h.length ι) h' ι' w' (Own h'.length ι')

theorem put_slots {slots : List AV} {a : Act} {h : List AObj} {ι : Em} {w : World} (hl : a.tmps.size = slots.length) (hsl : ∀ (i : Nat) (x : AV) (v : Value), slots[i]? = some x → a.tmps[i]? = some v → VR h ι w x v) (d : Option Nat) {y : AV} {cv : Value} (hy : VR h ι w y cv) :
    (a.put d cv).tmps.size = (setD slots d y).length ∧ ∀ (i : Nat) (x : AV) (v : Value), (setD slots d y)[i]? = some x → (a.put d cv).tmps[i]? = some v → VR h ι w x v := by
  cases d with
  | none => exact ⟨hl, hsl⟩
  | some d =>
    refine ⟨by simp [Act.put, setD, hl], fun i x v hx hv => ?_⟩
    simp only [Act.put, setD] at hx hv
    by_cases e : d = i
    · subst e
      have hlt : d < slots.length := by
        have := (List.getElem?_eq_some_iff.1 hx).1
        simpa using this
      rw [List.getElem?_set_self hlt] at hx
      rw [Array.getElem?_setIfInBounds_self_of_lt (by omega)] at hv
      obtain rfl := Option.some.inj hx
      obtain rfl := Option.some.inj hv
      exact hy
    · rw [List.getElem?_set_ne e] at hx
      rw [Array.getElem?_setIfInBounds_ne e] at hv
      exact hsl i x v hx hv

section
variable {P : Program} {B : Nat} {w0 w : World}

/-- what a run of an operation does to a state -/
theorem res_step {st : St} {ι : Em} {a : Act} (hs : SR B w0 st ι a w) {y : AV} {eff : Eff} {cv : Value} {w' : World} (hres : Res B st.heap ι w st.heap.length y eff cv w') (d : Option Nat) :
    ∃ ι', SR B w0 ⟨setD st.slots d y, effH st.heap eff⟩ ι' (a.put d cv) w' ∧ EX st.heap ι w (effH st.heap eff) ι' w' := by
  have fin : ∀ (h' : List AObj) (ι' : Em), HRel B w0 h' ι' w' → EX st.heap ι w h' ι' w' → VR h' ι' w' y cv → SR B w0 ⟨setD st.slots d y, h'⟩ ι' (a.put d cv) w' := by
    intro h' ι' hh hx hy
    obtain ⟨h1, h2⟩ := put_slots hs.len (fun i x v hx' hv => hx.rel (hs.slot i x v hx' hv)) d hy
    exact ⟨hh, h1, h2, by cases d <;> exact hs.defers⟩
  cases eff with
  | none =>
    obtain ⟨rfl, hy⟩ := hres
    exact ⟨ι, fin _ _ hs.heap (.refl _ _ _ _) hy, .refl _ _ _ _⟩
  | new o =>
    obtain ⟨hver, sv, ⟨xs, h1, h2, h3, h4, h5⟩, hy⟩ := hres
    obtain ⟨hh, hx⟩ := hs.heap.push o sv xs h1 h2 h3 h4 h5
    refine ⟨_, fin _ _ hh hx ?_, hx⟩
    have hget : (st.heap ++ [o])[st.heap.length]? = some o := by simp
    have hone : sv.oneCell' = true := by
      rcases h4.2 with ⟨rfl, _⟩ | ⟨g, cap, cur, rfl, _⟩ <;> rfl
    rcases hy with ⟨rfl, rfl⟩ | ⟨rfl, g, N, C, hsv, hcv, hlt⟩
    · refine .row _ _ _ (by simp [effH]) hone fun o' ho' => ?_
      rw [effH, hget] at ho'
      obtain rfl := Option.some.inj ho'
      exact ⟨by omega, fun _ => by rw [upd_same]⟩
    · refine .ptr _ _ _ _ _ (by simp [effH]) (by rw [hcv]; rfl) fun o' ho' => ?_
      rw [effH, hget] at ho'
      obtain rfl := Option.some.inj ho'
      exact ⟨by omega, fun _ => ⟨g, N, C, by rw [upd_same]; exact hsv, hcv, hlt⟩⟩
  | upd t o' =>
    obtain ⟨sv, ⟨o, xs, h0, h1, h2, h3, h4, h5, h6⟩, hy⟩ := hres
    obtain ⟨hh, hx⟩ := hs.heap.change t o o' h0 sv xs h1 h2 h3 h4 h5 h6
    refine ⟨_, fin _ _ hh hx ?_, hx⟩
    rcases hy with ⟨rfl, rfl⟩ | hy
    · have htl : t < st.heap.length := (List.getElem?_eq_some_iff.1 h0).1
      have hone : cv.oneCell' = true := by
        rcases h5.2 with ⟨rfl, _⟩ | ⟨g, cap, cur, rfl, _⟩ <;> rfl
      refine .row _ _ _ (by simpa [effH] using htl) hone fun p hp => ?_
      rw [effH, List.getElem?_set_self htl] at hp
      obtain rfl := Option.some.inj hp
      exact ⟨Nat.le_refl _, fun _ => by rw [upd_same]⟩
    · exact hx.rel hy
end

structure AStep where
  dst : Option Nat
  guard : Option (Nat × Bool)
  op : SOp
  deriving Inhabited

def compStep (P : Program) (ops : Array Oper) (o : Oper) : Option AStep :=
  match compS P o with
  | none => none
  | some ao =>
    match o.guard with
    | none => some ⟨o.dst, none, ao⟩
    | some (j, b) =>
      match (ops[j]?).bind (·.dst) with
      | some d => some ⟨o.dst, some (d, b), ao⟩
      | none => none

def wantedA (s : List AV) : Option (Nat × Bool) → Option Bool
  | none => some true
  | some (d, b) =>
    match s[d]? with
    | some (.p (.bool b')) => some (b' == b)
    | some .u => some false
    | _ => none

theorem wanted_rel {P : Program} {ops : Array Oper} {o : Oper} {s : AStep} (hc : compStep P ops o = some s) {slots : List AV} {a : Act} {h : List AObj} {ι : Em} {w : World} (hl : a.tmps.size = slots.length)
    (hsl : ∀ (i : Nat) (x : AV) (v : Value), slots[i]? = some x → a.tmps[i]? = some v → VR h ι w x v) {b : Bool} (hw : wantedA slots s.guard = some b) : Region.wanted o (yielded ops a.tmps) = b ∧ s.dst = o.dst ∧ compS P o = some s.op := by
  unfold compStep at hc
  split at hc
  · cases hc
  · rename_i ao hao
    split at hc
    · rename_i hg
      obtain rfl := Option.some.inj hc
      simp only [wantedA, Option.some.injEq] at hw
      subst hw
      exact ⟨by simp [Region.wanted, hg], rfl, hao⟩
    · rename_i j b' hg
      split at hc
      · rename_i d hd
        obtain rfl := Option.some.inj hc
        refine ⟨?_, rfl, hao⟩
        simp only [wantedA] at hw
        simp only [Region.wanted, hg, yielded, hd, Option.bind_some]
        split at hw
        · rename_i x hx
          obtain rfl := Option.some.inj hw
          have hlt : d < a.tmps.size := by rw [hl]; exact (List.getElem?_eq_some_iff.1 hx).1
          have hv := hsl d _ _ hx (Array.getElem?_eq_getElem hlt)
          rw [Array.getElem?_eq_getElem hlt]
          generalize a.tmps[d] = v at hv
          cases hv with | p _ _ hv => cases hv; simp
        · rename_i hx
          obtain rfl := Option.some.inj hw
          have hlt : d < a.tmps.size := by rw [hl]; exact (List.getElem?_eq_some_iff.1 hx).1
          have hv := hsl d _ _ hx (Array.getElem?_eq_getElem hlt)
          rw [Array.getElem?_eq_getElem hlt]
          generalize a.tmps[d] = v at hv
          cases hv
          rfl
        · cases hw
      · cases hc

/- Contracts. -/
inductive PA where
  | c (x : PV)
  | a (cells : List PV)
  deriving Inhabited

inductive PARel (w : World) (O : Nat → Prop) : PA → Value → Prop where
  | c (x : PV) (v : Value) (h : PRel w O x v) : PARel w O (.c x) v
  | a (cs : List PV) (vs : Array Value) (hl : vs.size = cs.length) (hr : ∀ (i : Nat) (x : PV) (v : Value), cs[i]? = some x → vs[i]? = some v → PRel w O x v) : PARel w O (.a cs) (.agg vs)

def PARels (w : World) (O : Nat → Prop) (ps : List PA) (vs : Array Value) : Prop :=
  vs.size = ps.length ∧ ∀ (i : Nat) (x : PA) (v : Value), ps[i]? = some x → vs[i]? = some v → PARel w O x v

inductive RC where
  | c (v : PV)
  | s (e size : Nat) (elems : List (List PV))
  deriving Inhabited
inductive RA where
  | c (x : RC)
  | a (cells : List RC)
  deriving Inhabited

def rcObj : RC → List AObj
  | .c _ => []
  | .s e size es => [⟨1, e, size, es.map (·.map .p)⟩]
def rcsObj : List RC → List AObj
  | [] => []
  | x :: xs => rcObj x ++ rcsObj xs
def raObj : RA → List AObj
  | .c x => rcObj x
  | .a xs => rcsObj xs
def rasObj : List RA → List AObj
  | [] => []
  | x :: xs => raObj x ++ rasObj xs
def rcVal (T : Nat) : RC → AV
  | .c v => .p v
  | .s _ _ _ => .row T 1
def rcsVal : Nat → List RC → List AV
  | _, [] => []
  | T, x :: xs => rcVal T x :: rcsVal (T + (rcObj x).length) xs
def raVal (T : Nat) : RA → AV
  | .c x => rcVal T x
  | .a xs => .agg (rcsVal T xs)
def rasVal : Nat → List RA → List AV
  | _, [] => []
  | T, x :: xs => raVal T x :: rasVal (T + (raObj x).length) xs
def retV : List AV → AV
  | [x] => x
  | xs => .tuple xs

/-- F called with args comes back with rs; nothing that was there has turned. -/
def Spec (P : Program) (f : FuncId) (args : List PA) (rs : List RA) : Prop :=
  ∀ (O : Nat → Prop) (w : World) (cargs : Array Value), (∀ g, O g → g < w.heap.size) → PARels w O args cargs →
    Calls P f cargs w fun e w' => ∃ v ι, e = .returned v ∧ ι.O = O ∧ HRel w.heap.size w (rasObj rs) ι w' ∧ VR (rasObj rs) ι w' (retV (rasVal 0 rs)) v

def PV.flat : PV → Bool
  | .sl es => es.isEmpty
  | _ => true
def RC.flat : RC → Bool
  | .c v => v.flat
  | .s _ _ es => es.all fun e => e.all PV.flat
def RA.flat : RA → Bool
  | .c x => x.flat
  | .a xs => xs.all RC.flat

theorem PRel.of_flat {w w' : World} {O O' : Nat → Prop} {x : PV} {v : Value} (hf : x.flat = true) (h : PRel w O x v) : PRel w' O' x v := by
  cases h with
  | bool b => exact .bool b
  | int k n => exact .int k n
  | str s => exact .str s
  | nil a c => exact .nil a c
  | sl elems a n c size u hO hlt hn hc hsz hcell hrel =>
    simp only [PV.flat, List.isEmpty_iff] at hf
    subst hf
    simp only [List.length_nil] at hn
    subst hn
    exact .nil _ _

/-- Two heaps side by side. -/
def joinE (n : Nat) (ι κ : Em) : Em := ⟨fun t => if t < n then ι t else κ (t - n), ι.O⟩

theorem join_old {n : Nat} {ι κ : Em} {t : Nat} (h : t < n) : joinE n ι κ t = ι t := by
  show (if t < n then ι t else κ (t - n)) = _
  rw [if_pos h]
theorem join_new {n : Nat} {ι κ : Em} {t : Nat} : joinE n ι κ (n + t) = κ t := by
  show (if n + t < n then ι (n + t) else κ (n + t - n)) = _
  rw [if_neg (by omega), Nat.add_sub_cancel_left]

/-- objects whose cells are pure -/
def pureObj (o : AObj) : Prop := ∀ (i : Nat) (e : List AV), o.elems[i]? = some e → ∀ (j : Nat) (x : AV), e[j]? = some x → ∃ y, x = .p y

theorem rcObj_pure (x : RC) : ∀ o ∈ rcObj x, pureObj o := by
  intro o ho
  cases x with
  | c v => simp [rcObj] at ho
  | s e size es =>
    simp only [rcObj, List.mem_singleton] at ho
    subst ho
    intro i el he j y hy
    simp only [List.getElem?_map, Option.map_eq_some_iff] at he
    obtain ⟨el', _, rfl⟩ := he
    simp only [List.getElem?_map, Option.map_eq_some_iff] at hy
    obtain ⟨z, _, rfl⟩ := hy
    exact ⟨z, rfl⟩
theorem rcsObj_pure : ∀ (xs : List RC), ∀ o ∈ rcsObj xs, pureObj o
  | [], o, ho => by simp [rcsObj] at ho
  | x :: xs, o, ho => by
    simp only [rcsObj, List.mem_append] at ho
    rcases ho with ho | ho
    · exact rcObj_pure x o ho
    · exact rcsObj_pure xs o ho
theorem raObj_pure (x : RA) : ∀ o ∈ raObj x, pureObj o := by
  cases x with
  | c x => exact rcObj_pure x
  | a xs => exact rcsObj_pure xs
theorem rasObj_pure : ∀ (xs : List RA), ∀ o ∈ rasObj xs, pureObj o
  | [], o, ho => by simp [rasObj] at ho
  | x :: xs, o, ho => by
    simp only [rasObj, List.mem_append] at ho
    rcases ho with ho | ho
    · exact raObj_pure x o ho
    · exact rasObj_pure xs o ho

section
variable {P : Program} {B : Nat} {w0 w w' : World} {h k : List AObj} {ι κ : Em}

theorem VRel.shift {O O' : Nat → Prop} {G : PV → Prop} (hO : ∀ x v, G x → PRel w' O x v → PRel w' O' x v) : ∀ {x : RC} {T : Nat} {v : Value}, (∀ y, x = .c y → G y) → VRel k κ w' O (rcVal T x) v → VRel (h ++ k) (joinE h.length ι κ) w' O' (rcVal (h.length + T) x) v := by
  intro x T v hG hv
  cases x with
  | c pv =>
    simp only [rcVal] at hv ⊢
    cases hv with | p _ _ hp => exact .p _ _ (hO _ _ (hG _ rfl) hp)
  | s e size es =>
    simp only [rcVal] at hv ⊢
    cases hv with
    | row _ _ _ ht hone hob =>
      refine .row _ _ _ (by simp; omega) hone fun o ho => ?_
      rw [List.getElem?_append_right (by omega), Nat.add_sub_cancel_left] at ho
      obtain ⟨h1, h2⟩ := hob o ho
      exact ⟨h1, fun e => by rw [join_new]; exact h2 e⟩

theorem rcsVal_len : ∀ (T : Nat) (xs : List RC), (rcsVal T xs).length = xs.length
  | _, [] => rfl
  | T, x :: xs => by simp [rcsVal, rcsVal_len]
theorem rasVal_len : ∀ (T : Nat) (xs : List RA), (rasVal T xs).length = xs.length
  | _, [] => rfl
  | T, x :: xs => by simp [rasVal, rasVal_len]

theorem rcsVal_get : ∀ (xs : List RC) (T n i : Nat) (y : AV), (rcsVal (n + T) xs)[i]? = some y → ∃ (x : RC) (U : Nat), y = rcVal (n + U) x ∧ (rcsVal T xs)[i]? = some (rcVal U x) ∧ x ∈ xs
  | [], _, _, i, y, hy => by simp [rcsVal] at hy
  | x :: xs, T, n, i, y, hy => by
    cases i with
    | zero =>
      simp only [rcsVal, List.getElem?_cons_zero, Option.some.injEq] at hy
      exact ⟨x, T, hy.symm, by simp [rcsVal], by simp⟩
    | succ i =>
      simp only [rcsVal, List.getElem?_cons_succ] at hy ⊢
      rw [Nat.add_assoc] at hy
      obtain ⟨z, U, h1, h2, h3⟩ := rcsVal_get xs _ n i y hy
      exact ⟨z, U, h1, h2, by simp [h3]⟩

/-- the pure values of a result -/
inductive InRs : List RA → PV → Prop where
  | c (x : PV) (rs : List RA) : InRs (.c (.c x) :: rs) x
  | a (x : PV) (cs : List RC) (rs : List RA) (hm : RC.c x ∈ cs) : InRs (.a cs :: rs) x
  | tl (x : PV) (r : RA) (rs : List RA) (hm : InRs rs x) : InRs (r :: rs) x

theorem InRs.mem {r : RA} {rs : List RA} {x : PV} (h : InRs [r] x) (hr : r ∈ rs) : InRs rs x := by
  induction rs with
  | nil => cases hr
  | cons q rs ih =>
    rcases List.mem_cons.1 hr with rfl | hr
    · cases h with
      | c => exact .c _ _
      | a _ cs _ hm => exact .a _ _ _ hm
      | tl _ _ _ hm => cases hm
    · exact .tl _ _ _ (ih hr)

theorem VRel.shiftA {O O' : Nat → Prop} {G : PV → Prop} (hO : ∀ x v, G x → PRel w' O x v → PRel w' O' x v) {x : RA} {T : Nat} {v : Value} (hG : ∀ y, InRs [x] y → G y) (hv : VRel k κ w' O (raVal T x) v) : VRel (h ++ k) (joinE h.length ι κ) w' O' (raVal (h.length + T) x) v := by
  cases x with
  | c x => exact VRel.shift hO (fun y e => hG y (by subst e; exact .c _ _)) hv
  | a xs =>
    simp only [raVal] at hv ⊢
    cases hv with
    | agg _ vs hl hr =>
      refine .agg _ _ (by rw [hl, rcsVal_len, rcsVal_len]) fun i y u hy hu => ?_
      obtain ⟨x, U, rfl, hx, hm⟩ := rcsVal_get xs T h.length i y hy
      exact VRel.shift hO (fun y e => hG y (by subst e; exact .a _ _ _ hm)) (hr i _ u hx hu)

theorem rasVal_get : ∀ (xs : List RA) (T n i : Nat) (y : AV), (rasVal (n + T) xs)[i]? = some y → ∃ (x : RA) (U : Nat), y = raVal (n + U) x ∧ (rasVal T xs)[i]? = some (raVal U x) ∧ x ∈ xs
  | [], _, _, i, y, hy => by simp [rasVal] at hy
  | x :: xs, T, n, i, y, hy => by
    cases i with
    | zero =>
      simp only [rasVal, List.getElem?_cons_zero, Option.some.injEq] at hy
      exact ⟨x, T, hy.symm, by simp [rasVal], by simp⟩
    | succ i =>
      simp only [rasVal, List.getElem?_cons_succ] at hy ⊢
      rw [Nat.add_assoc] at hy
      obtain ⟨z, U, h1, h2, h3⟩ := rasVal_get xs _ n i y hy
      exact ⟨z, U, h1, h2, by simp [h3]⟩

theorem VRel.shiftR {O O' : Nat → Prop} {G : PV → Prop} (hO : ∀ x v, G x → PRel w' O x v → PRel w' O' x v) {rs : List RA} {v : Value} (hG : ∀ y, InRs rs y → G y) (hv : VRel k κ w' O (retV (rasVal 0 rs)) v) : VRel (h ++ k) (joinE h.length ι κ) w' O' (retV (rasVal h.length rs)) v := by
  have tup : ∀ {rs : List RA} {v : Value}, (∀ y, InRs rs y → G y) → VRel k κ w' O (.tuple (rasVal 0 rs)) v → VRel (h ++ k) (joinE h.length ι κ) w' O' (.tuple (rasVal h.length rs)) v := by
    intro rs v hG hv
    cases hv with
    | tuple _ vs hl hr =>
      refine .tuple _ _ (by rw [hl, rasVal_len, rasVal_len]) fun i y u hy hu => ?_
      obtain ⟨x, U, rfl, hx, hm⟩ := rasVal_get rs 0 h.length i y (by simpa using hy)
      exact VRel.shiftA hO (fun y hy => hG y (hy.mem hm)) (hr i _ u hx hu)
  match rs, hG, hv with
  | [], hG, hv => exact tup (rs := []) hG hv
  | [x], hG, hv => exact VRel.shiftA (T := 0) hO hG hv
  | x :: y :: rs, hG, hv => exact tup (rs := x :: y :: rs) hG hv

/-- the heap of a call beside the caller's -/
theorem HRel.join (hr : HRel B w0 h ι w) (hk : HRel w.heap.size w k κ w') (hpure : ∀ o ∈ k, pureObj o) (hO : ∀ (x : PV) (v : Value), VR k κ w' (.p x) v → (∃ (t : Nat) (o : AObj) (i : Nat) (e : List AV) (j : Nat), k[t]? = some o ∧ o.elems[i]? = some e ∧ e[j]? = some (AV.p x)) → PRel w' (Own (h ++ k).length (joinE h.length ι κ)) x v) :
    HRel B w0 (h ++ k) (joinE h.length ι κ) w' ∧ EX h ι w (h ++ k) (joinE h.length ι κ) w' := by
  have hnewblk : ∀ t g, t < k.length → (κ t).ownBlock = some g → w.heap.size ≤ g := fun t g ht hg => (hk.own ht hg).1
  have hext : EX h ι w (h ++ k) (joinE h.length ι κ) w' := by
    refine ⟨⟨hk.below.size, fun g hg _ => hk.below.block g hg, fun g hg hno => ?_⟩, by simp, rfl, fun t o' ht ho' => ?_⟩
    · rintro (hOO | ⟨t, ht, hb⟩)
      · exact hno (.inl hOO)
      · by_cases htl : t < h.length
        · rw [join_old htl] at hb
          exact hno (.inr ⟨t, htl, hb⟩)
        · obtain ⟨s, rfl⟩ : ∃ s, t = h.length + s := ⟨t - h.length, by omega⟩
          rw [join_new] at hb
          have := hnewblk s g (by simp at ht; omega) hb
          omega
    · rw [List.getElem?_append_left ht] at ho'
      exact ⟨o', ho', .inl ⟨rfl, rfl, rfl, join_old ht⟩⟩
  refine ⟨⟨hr.below.trans (hk.below.mono hr.size), hr.base, hr.old, fun t o ho => ?_, fun t t' g ht ht' h1 h2 => ?_⟩, hext⟩
  · by_cases htl : t < h.length
    · rw [List.getElem?_append_left htl] at ho
      rw [join_old htl]
      rcases hr.objs t o ho with h0 | ⟨hs, xs, h1, h2⟩
      · exact .inl h0
      · refine .inr ⟨hs, xs, h1.kept (row := none) ⟨hk.below.os, hk.below.tape, hk.below.output, hk.below.size, fun g hg _ => hk.below.block g hg⟩ (by cases (ι t).ownBlock <;> simp), fun i e he => ⟨(h2 i e he).1, fun j x hj => ?_⟩⟩
        obtain ⟨v, hv, hvr⟩ := (h2 i e he).2 j x hj
        exact ⟨v, hv, hext.rel hvr⟩
    · obtain ⟨s, rfl⟩ : ∃ s, t = h.length + s := ⟨t - h.length, by omega⟩
      rw [List.getElem?_append_right (by omega), Nat.add_sub_cancel_left] at ho
      rw [join_new]
      rcases hk.objs s o ho with h0 | ⟨hs, xs, h1, h2⟩
      · exact .inl h0
      · refine .inr ⟨hs, xs, ?_, fun i e he => ⟨(h2 i e he).1, fun j x hj => ?_⟩⟩
        · obtain ⟨g1, g2⟩ := h1
          refine ⟨g1, ?_⟩
          rcases g2 with g2 | ⟨g, cap, cur, hv, hb, rest⟩
          · exact .inl g2
          · exact .inr ⟨g, cap, cur, hv, Nat.le_trans hr.size hb, rest⟩
        · obtain ⟨v, hv, hvr⟩ := (h2 i e he).2 j x hj
          obtain ⟨y, rfl⟩ := hpure o (List.mem_of_getElem? ho) i e he j x hj
          exact ⟨v, hv, .p _ _ (hO y v hvr ⟨s, o, i, e, j, ho, he, hj⟩)⟩
  · by_cases a1 : t < h.length <;> by_cases a2 : t' < h.length
    · rw [join_old a1] at h1
      rw [join_old a2] at h2
      exact hr.inj t t' g a1 a2 h1 h2
    · obtain ⟨s, rfl⟩ : ∃ s, t' = h.length + s := ⟨t' - h.length, by omega⟩
      rw [join_old a1] at h1
      rw [join_new] at h2
      have := (hr.own a1 h1).2
      have := hnewblk s g (by simp at ht'; omega) h2
      omega
    · obtain ⟨s, rfl⟩ : ∃ s, t = h.length + s := ⟨t - h.length, by omega⟩
      rw [join_old a2] at h2
      rw [join_new] at h1
      have := (hr.own a2 h2).2
      have := hnewblk s g (by simp at ht; omega) h1
      omega
    · obtain ⟨s, rfl⟩ : ∃ s, t = h.length + s := ⟨t - h.length, by omega⟩
      obtain ⟨s', rfl⟩ : ∃ s', t' = h.length + s' := ⟨t' - h.length, by omega⟩
      rw [join_new] at h1 h2
      rw [hk.inj s s' g (by simp at ht; omega) (by simp at ht'; omega) h1 h2]
end
end Go.Abs
