/- The rules of code; functions. -/
import Derived.Test.YtfdpoliibpelaaaAbsCtl4
set_option linter.unusedVariables false
set_option linter.unusedSimpArgs false
set_option linter.unnecessarySimpa false
set_option linter.unusedSectionVars false
set_option linter.constructorNameAsVariable false
namespace Go.Abs
open Go.RowKit (Below)

def Post (B : Nat) (w0 : World) (n : Nat) (h : List AObj) (ι : Em) (w : World) (Q : Exit → St → Prop) (e : Exit) (a' : Act) (w' : World) : Prop :=
  ∃ (st' : St) (ι' : Em), SR B w0 st' ι' a' w' ∧ ExtN n h ι w st'.heap ι' w' ∧ Q e st'

/-- the abstract code, from an abstract state, comes to Q -/
def AW (P : Program) (n : Nat) (ac : ACode) (Q : Exit → St → Prop) (st : St) : Prop :=
  ∀ c, comp P c = some ac → ∀ B w0 ι a w, SR B w0 st ι a w → n ≤ st.heap.length → c.wp P (Post B w0 n st.heap ι w Q) a w

/-- st' says less than st -/
def Weak (n : Nat) (st st' : St) : Prop :=
  n ≤ st'.heap.length ∧ ∀ B w0 ι a w, SR B w0 st ι a w → n ≤ st.heap.length → ∃ ι', SR B w0 st' ι' a w ∧ ExtN n st.heap ι w st'.heap ι' w

section
variable {P : Program} {n : Nat} {Q : Exit → St → Prop} {st : St}

theorem post_here {B : Nat} {w0 : World} {ι : Em} {a : Act} {w : World} (hs : SR B w0 st ι a w) (hn : n ≤ st.heap.length) {e : Exit} (h : Q e st) : Post B w0 n st.heap ι w Q e a w := ⟨st, ι, hs, .refl hn ι w, h⟩

theorem post_trans {B : Nat} {w0 : World} {h h1 : List AObj} {ι ι1 : Em} {w w1 : World} (hx : ExtN n h ι w h1 ι1 w1) {e : Exit} {a' : Act} {w' : World} (hp : Post B w0 n h1 ι1 w1 Q e a' w') : Post B w0 n h ι w Q e a' w' := by
  obtain ⟨st', ι', h1, h2, h3⟩ := hp
  exact ⟨st', ι', h1, hx.trans h2, h3⟩

theorem AW.mono {ac : ACode} {Q' : Exit → St → Prop} (h : AW P n ac Q st) (hq : ∀ e s, Q e s → Q' e s) : AW P n ac Q' st := fun c hc B w0 ι a w hs hn =>
  wp_mono (h c hc B w0 ι a w hs hn) fun e a' w' ⟨st', ι', h1, h2, h3⟩ => ⟨st', ι', h1, h2, hq e st' h3⟩

theorem AW.weak {ac : ACode} {st' : St} (hw : Weak n st st') (h : AW P n ac Q st') : AW P n ac Q st := fun c hc B w0 ι a w hs hn => by
  obtain ⟨κ, h1, h2⟩ := hw.2 B w0 ι a w hs hn
  exact wp_mono (h c hc B w0 κ a w h1 hw.1) fun e a' w' hp => post_trans h2 hp

theorem AW.post {ac : ACode} {Q' : Exit → St → Prop} (h : AW P n ac Q' st) (hq : ∀ e s, Q' e s → ∃ s', Weak n s s' ∧ Q e s') : AW P n ac Q st := fun c hc B w0 ι a w hs hn =>
  wp_mono (h c hc B w0 ι a w hs hn) fun e a' w' ⟨st', ι', h1, h2, h3⟩ => by
    obtain ⟨s', hw, hQ⟩ := hq e st' h3
    obtain ⟨κ, g1, g2⟩ := hw.2 B w0 ι' a' w' h1 h2.len
    exact ⟨s', κ, g1, h2.trans g2, hQ⟩

theorem AW.skip (h : Q .normal st) : AW P n .skip Q st := fun c hc B w0 ι a w hs hn => by
  cases c <;> simp only [comp] at hc
  case skip => exact wp_skip (post_here hs hn h)
  case region id ops d =>
    unfold compReg at hc
    split at hc
    · cases hc
    · split at hc
      · split at hc <;> cases hc
      · cases hc
  case cond => split at hc <;> cases hc
  all_goals (first | cases hc | (split at hc <;> cases hc))

theorem comp_shape {c : Code} {ac : ACode} (hc : comp P c = some ac) : match ac with
    | .skip => c = .skip
    | .reg p ss => ∃ id ops d, c = .region id ops d ∧ compReg P ops d = some (.reg p ss)
    | .seq x y => ∃ a b, c = .seq a b ∧ comp P a = some x ∧ comp P b = some y
    | .cond z x y => ∃ o a b, c = .cond o a b ∧ opd o = some z ∧ comp P a = some x ∧ comp P b = some y
    | .block id x => ∃ a, c = .block id a ∧ comp P a = some x
    | .loop x => ∃ a, c = .loop a ∧ comp P a = some x
    | .exit id => c = .exit id
    | .ret => c = .ret
    | .bad => True := by
  cases c <;> simp only [comp] at hc
  case skip => obtain rfl := Option.some.inj hc; rfl
  case region id ops d =>
    have hc0 := hc
    unfold compReg at hc
    split at hc
    · obtain rfl := Option.some.inj hc
      trivial
    · split at hc
      · split at hc
        · obtain rfl := Option.some.inj hc
          exact ⟨id, ops, d, rfl, hc0⟩
        · obtain rfl := Option.some.inj hc
          trivial
      · obtain rfl := Option.some.inj hc
        exact ⟨id, ops, d, rfl, hc0⟩
  case seq a b =>
    split at hc
    · rename_i x y hx hy
      obtain rfl := Option.some.inj hc
      exact ⟨a, b, rfl, hx, hy⟩
    · cases hc
  case cond o a b =>
    split at hc
    · rename_i z x y hz hx hy
      obtain rfl := Option.some.inj hc
      exact ⟨o, a, b, rfl, hz, hx, hy⟩
    · cases hc
  case block id a =>
    split at hc
    · rename_i x hx
      obtain rfl := Option.some.inj hc
      exact ⟨a, rfl, hx⟩
    · cases hc
  case loop a =>
    split at hc
    · rename_i x hx
      obtain rfl := Option.some.inj hc
      exact ⟨a, rfl, hx⟩
    · cases hc
  case exit id => obtain rfl := Option.some.inj hc; rfl
  case ret => obtain rfl := Option.some.inj hc; rfl
  all_goals (obtain rfl := Option.some.inj hc; trivial)

theorem AW.ret (h : Q .ret st) : AW P n .ret Q st := fun c hc B w0 ι a w hs hn => by
  have hsh := comp_shape hc
  dsimp only at hsh
  subst hsh
  exact wp_ret (post_here hs hn h)

theorem AW.exit {id : Nat} (h : Q (.exit id) st) : AW P n (.exit id) Q st := fun c hc B w0 ι a w hs hn => by
  have hsh := comp_shape hc
  dsimp only at hsh
  subst hsh
  exact wp_exit (post_here hs hn h)

def thenQ (P : Program) (n : Nat) (b : ACode) (Q : Exit → St → Prop) : Exit → St → Prop
  | .normal, s => AW P n b Q s
  | e, s => Q e s

theorem AW.seq {x y : ACode} (h : AW P n x (thenQ P n y Q) st) : AW P n (.seq x y) Q st := fun c hc B w0 ι a w hs hn => by
  obtain ⟨c1, c2, rfl, h1, h2⟩ := comp_shape hc
  refine wp_seq (wp_mono (h c1 h1 B w0 ι a w hs hn) fun e a' w' hp => ?_)
  obtain ⟨st', ι', g1, g2, g3⟩ := hp
  cases e with
  | normal => exact wp_mono (g3 c2 h2 B w0 ι' a' w' g1 g2.len) fun e a2 w2 hp => post_trans g2 hp
  | _ => exact ⟨st', ι', g1, g2, g3⟩

theorem AW.cond {z : AOpd} {x y : ACode} {t : Bool} (hz : z.eval st.slots = .p (.bool t)) (h : AW P n (if t then x else y) Q st) : AW P n (.cond z x y) Q st := fun c hc B w0 ι a w hs hn => by
  obtain ⟨o, c1, c2, rfl, h0, h1, h2⟩ := comp_shape hc
  have hv := opd_rel (a := a) hs.slot hs.len h0
  rw [hz] at hv
  have he : a.eval o = .bool t := by
    generalize a.eval o = v at hv
    cases hv with | p _ _ hv => cases hv; rfl
  refine wp_cond he ?_
  cases t
  · exact h c2 h2 B w0 ι a w hs hn
  · exact h c1 h1 B w0 ι a w hs hn

def blockQ (id : Nat) (Q : Exit → St → Prop) : Exit → St → Prop
  | .exit id', s => if id' = id then Q .normal s else Q (.exit id') s
  | e, s => Q e s

theorem AW.block {id : Nat} {x : ACode} (h : AW P n x (blockQ id Q) st) : AW P n (.block id x) Q st := fun c hc B w0 ι a w hs hn => by
  obtain ⟨c1, rfl, h1⟩ := comp_shape hc
  refine wp_block (wp_mono (h c1 h1 B w0 ι a w hs hn) fun e a' w' hp => ?_)
  obtain ⟨st', ι', g1, g2, g3⟩ := hp
  cases e with
  | exit id' =>
    simp only [Exit.inBlock]
    simp only [blockQ] at g3
    split
    · rename_i he
      rw [if_pos he] at g3
      exact ⟨st', ι', g1, g2, g3⟩
    · rename_i he
      rw [if_neg he] at g3
      exact ⟨st', ι', g1, g2, g3⟩
  | _ => exact ⟨st', ι', g1, g2, g3⟩

theorem AW.reg {ss : List AStep} {st' : St} (h : ASteps P ss st st') (hq : Q .normal st') : AW P n (.reg none ss) Q st := fun c hc B w0 ι a w hs hn => by
  obtain ⟨id, ops, d, rfl, h1⟩ := comp_shape hc
  unfold compReg at h1
  split at h1
  · cases h1
  · rename_i ss' hss
    split at h1
    · split at h1 <;> cases h1
    · rename_i hd
      simp only [Option.some.injEq, ACode.reg.injEq, true_and] at h1
      subst h1
      have hd : d = false := by simpa using hd
      subst hd
      exact wp_region_list (steps_sound ops h hss hs fun ι' a' w' g1 g2 => ⟨st', ι', g1, .of hn g2, hq⟩)

def loopQ (n k : Nat) (I : Nat → St → Prop) (Q : Exit → St → Prop) : Exit → St → Prop
  | .normal, s => ∃ k' s', k' < k ∧ Weak n s s' ∧ I k' s'
  | e, s => Q e s

theorem AW.loop {x : ACode} (I : Nat → St → Prop) (k : Nat) (h0 : I k st) (hround : ∀ k s, I k s → AW P n x (loopQ n k I Q) s) : AW P n (.loop x) Q st := fun c hc B w0 ι a w hs hn => by
  obtain ⟨c1, rfl, h1⟩ := comp_shape hc
  let J : Nat → Act → World → Prop := fun k a' w' => ∃ s ι', I k s ∧ SR B w0 s ι' a' w' ∧ ExtN n st.heap ι w s.heap ι' w'
  have hJ : J k a w := ⟨st, ι, h0, hs, .refl hn ι w⟩
  have ex : ∀ a' w', (∃ k, J k a' w') → ∃ k, J k a' w' ∧ ∀ m, m < k → ¬ J m a' w' := by
    intro a' w' ⟨k, hk⟩
    induction k using Nat.strongRecOn with
    | _ k ih =>
      by_cases hm : ∃ m, m < k ∧ J m a' w'
      · obtain ⟨m, hmk, hjm⟩ := hm
        exact ih m hmk hjm
      · exact ⟨k, hk, fun m hmk hjm => hm ⟨m, hmk, hjm⟩⟩
  open Classical in
  let μ : Act → World → Nat := fun a' w' => if h : ∃ k, J k a' w' then Classical.choose (ex a' w' h) else 0
  have hμ : ∀ a' w', (∃ k, J k a' w') → J (μ a' w') a' w' ∧ ∀ m, m < μ a' w' → ¬ J m a' w' := by
    intro a' w' h
    show J (if h : ∃ k, J k a' w' then Classical.choose (ex a' w' h) else 0) a' w' ∧ _
    simp only [μ, h, dif_pos]
    exact Classical.choose_spec (ex a' w' h)
  refine wp_loop (fun a' w' => ∃ k, J k a' w') μ ⟨k, hJ⟩ fun a' w' hI => ?_
  obtain ⟨⟨s, ι', hIs, hss, hxx⟩, _⟩ := hμ a' w' hI
  refine wp_mono (hround _ s hIs c1 h1 B w0 ι' a' w' hss hxx.len) fun e a2 w2 hp => ?_
  obtain ⟨s2, ι2, g1, g2, g3⟩ := hp
  cases e with
  | normal =>
    obtain ⟨k', s', hlt, hw, hI'⟩ := g3
    obtain ⟨κ, g4, g5⟩ := hw.2 B w0 ι2 a2 w2 g1 g2.len
    have hj : J k' a2 w2 := ⟨s', κ, hI', g4, (hxx.trans g2).trans g5⟩
    refine ⟨⟨k', hj⟩, ?_⟩
    have := (hμ a2 w2 ⟨k', hj⟩).2 k'
    rcases Nat.lt_or_ge k' (μ a2 w2) with h3 | h3
    · exact absurd hj (this h3)
    · omega
  | _ => exact ⟨s2, ι2, g1, hxx.trans g2, g3⟩
end

/- forgetting -/
mutual
def AV.bel (m : Nat) : AV → Bool
  | .row t _ => decide (t < m)
  | .sl t _ _ _ _ => decide (t < m)
  | .ptr t _ _ _ => decide (t < m)
  | .agg cs => belowL m cs
  | .tuple cs => belowL m cs
  | .fn _ cs => belowL m cs
  | _ => true
def belowL (m : Nat) : List AV → Bool
  | [] => true
  | x :: xs => x.bel m && belowL m xs
end

theorem belowL_get {m : Nat} : ∀ {xs : List AV}, belowL m xs = true → ∀ {i : Nat} {x : AV}, xs[i]? = some x → x.bel m = true
  | [], _, i, x, hx => by simp at hx
  | y :: ys, h, i, x, hx => by
    simp only [belowL, Bool.and_eq_true] at h
    cases i with
    | zero =>
      simp at hx
      subst hx
      exact h.1
    | succ i => exact belowL_get h.2 (by simpa using hx)

def belowO (m : Nat) (o : AObj) : Bool := o.elems.all (belowL m)

theorem VRel.takeN {h : List AObj} {ι : Em} {w : World} {m : Nat} {O O' : Nat → Prop} (hO : ∀ g, O' g → O g) {x : AV} {v : Value} (hr : VRel h ι w O x v) : x.bel m = true → VRel (h.take m) ι w O' x v := by
  have hf : Fix w O w O' := ⟨Nat.le_refl _, fun _ _ _ => rfl, fun g _ hn h' => hn (hO g h')⟩
  have hget : ∀ t o, t < m → (h.take m)[t]? = some o → h[t]? = some o := fun t o ht ho => by
    rw [List.getElem?_take, if_pos ht] at ho
    exact ho
  have hlen : ∀ t, t < m → t < h.length → t < (h.take m).length := fun t h1 h2 => by simp; omega
  induction hr with
  | any v => exact fun _ => .any v
  | u => exact fun _ => .u
  | p x v hp => exact fun _ => .p x v (hp.fix hf)
  | nil => exact fun _ => .nil
  | ne ad c => exact fun _ => .ne ad c
  | nl c => exact fun _ => .nl c
  | e0 ad => exact fun _ => .e0 ad
  | xf elems ad k hp => exact fun _ => .xf elems ad k (hp.fix hf)
  | row t ver v ht hv ho =>
    intro hb
    simp only [AV.bel, decide_eq_true_eq] at hb
    exact .row t ver v (hlen t hb ht) hv fun o hoo => ho o (hget t o hb hoo)
  | sl t ver lo len ex v ht hv ho =>
    intro hb
    simp only [AV.bel, decide_eq_true_eq] at hb
    exact .sl t ver lo len ex v (hlen t hb ht) hv fun o hoo => ho o (hget t o hb hoo)
  | ptr t ver i off v ht hv ho =>
    intro hb
    simp only [AV.bel, decide_eq_true_eq] at hb
    exact .ptr t ver i off v (hlen t hb ht) hv fun o hoo => ho o (hget t o hb hoo)
  | nptr => exact fun _ => .nptr
  | fptr cells ad u hO1 hlt hcell hrel => exact fun _ => .fptr cells ad u (fun h' => hO1 (hO _ h')) hlt hcell fun j x hx => (hrel j x hx).fix hf
  | agg cs vs hl _ ih => exact fun hb => .agg cs vs hl fun i x v hx hv => ih i x v hx hv (belowL_get (by simpa [AV.bel] using hb) hx)
  | tuple cs vs hl _ ih => exact fun hb => .tuple cs vs hl fun i x v hx hv => ih i x v hx hv (belowL_get (by simpa [AV.bel] using hb) hx)
  | fn f cs vs hl _ ih => exact fun hb => .fn f cs vs hl fun i x v hx hv => ih i x v hx hv (belowL_get (by simpa [AV.bel] using hb) hx)
  | nilf => exact fun _ => .nilf

/-- slots: each as it was, or forgotten -/
def slotsLe : List AV → List AV → Prop
  | [], [] => True
  | x :: xs, y :: ys => (y = .any ∨ y = x) ∧ slotsLe xs ys
  | _, _ => False

theorem slotsLe_get : ∀ {xs ys : List AV}, slotsLe xs ys → xs.length = ys.length ∧ ∀ (i : Nat) (x y : AV), xs[i]? = some x → ys[i]? = some y → y = .any ∨ y = x
  | [], [], _ => ⟨rfl, fun i x y hx => by simp at hx⟩
  | [], _ :: _, h => h.elim
  | _ :: _, [], h => h.elim
  | x :: xs, y :: ys, h => by
    obtain ⟨h1, h2⟩ := h
    obtain ⟨h3, h4⟩ := slotsLe_get h2
    refine ⟨by simp [h3], fun i u v hu hv => ?_⟩
    cases i with
    | zero =>
      simp at hu hv
      subst hu; subst hv
      exact h1
    | succ i => exact h4 i u v (by simpa using hu) (by simpa using hv)

/-- slots forgotten, the heap cut back to m objects -/
theorem Weak.of {n m : Nat} {s s' : List AV} {h h' : List AObj} (hs : slotsLe s s') (hh : h' = h.take m) (hm : m ≤ h.length) (hn : n ≤ m) (hb : belowL m s' = true) (ho : h'.all (belowO m) = true) : Weak n ⟨s, h⟩ ⟨s', h'⟩ := by
  subst hh
  have hlen : (h.take m).length = m := by simp; omega
  refine ⟨by simp only [hlen]; exact hn, fun B w0 ι a w hsr hnl => ?_⟩
  obtain ⟨g1, g2⟩ := slotsLe_get hs
  have hO : ∀ g, Own (h.take m).length ι g → Own h.length ι g := by
    rintro g (hg | ⟨t, ht, hg⟩)
    · exact .inl hg
    · exact .inr ⟨t, by omega, hg⟩
  have hget : ∀ t o, (h.take m)[t]? = some o → h[t]? = some o := fun t o ho => by
    rw [List.getElem?_take] at ho
    split at ho
    · exact ho
    · cases ho
  refine ⟨ι, ⟨⟨hsr.heap.below, hsr.heap.base, hsr.heap.old, fun t o hto => ?_, fun t t' g ht ht' => hsr.heap.inj t t' g (by simp at ht ⊢; omega) (by simp at ht' ⊢; omega)⟩, by rw [hsr.len]; exact g1, fun i y v hy hv => ?_, hsr.defers⟩, ⟨⟨Nat.le_refl _, fun _ _ _ => rfl, fun g _ hno h' => hno (hO g h')⟩, by simp only [hlen]; exact hn, rfl, fun t o' ht ho' => ⟨o', hget t o' ho', .inl ⟨rfl, rfl, rfl, rfl⟩⟩⟩⟩
  · rcases hsr.heap.objs t o (hget t o hto) with h0 | ⟨k1, xs, k2, k3⟩
    · exact .inl h0
    · refine .inr ⟨k1, xs, k2, fun i e he => ⟨(k3 i e he).1, fun j x hj => ?_⟩⟩
      obtain ⟨v, hv, hvr⟩ := (k3 i e he).2 j x hj
      refine ⟨v, hv, VRel.takeN hO hvr ?_⟩
      have h1 := List.all_eq_true.1 ho o (List.mem_of_getElem? hto)
      exact belowL_get (List.all_eq_true.1 h1 e (List.mem_of_getElem? he)) hj
  · have hi : i < s.length := by rw [g1]; exact (List.getElem?_eq_some_iff.1 hy).1
    rcases g2 i _ y (List.getElem?_eq_getElem hi) hy with rfl | rfl
    · exact .any v
    · exact VRel.takeN hO (hsr.slot i _ v (List.getElem?_eq_getElem hi) hv) (belowL_get hb hy)

/-- an empty slice is nil or not -/
theorem AW.split {P : Program} {n : Nat} {ac : ACode} {Q : Exit → St → Prop} {st : St} (i : Nat) (hi : st.slots[i]? = some (.p (.sl []))) (h1 : AW P n ac Q ⟨st.slots.set i .nl, st.heap⟩) (h2 : AW P n ac Q ⟨st.slots.set i .ne, st.heap⟩) : AW P n ac Q st := fun c hc B w0 ι a w hs hn => by
  have hlt : i < st.slots.length := (List.getElem?_eq_some_iff.1 hi).1
  have hlt' : i < a.tmps.size := by rw [hs.len]; exact hlt
  have hv := hs.slot i _ _ hi (Array.getElem?_eq_getElem hlt')
  have fin : ∀ y, VR st.heap ι w y a.tmps[i] → SR B w0 ⟨st.slots.set i y, st.heap⟩ ι a w := fun y hy => ⟨hs.heap, by rw [hs.len]; simp, fun j x v hx hjv => by
    by_cases e : i = j
    · subst e
      rw [List.getElem?_set_self hlt] at hx
      obtain rfl := Option.some.inj hx
      rw [Array.getElem?_eq_getElem (by rw [hs.len]; exact hlt)] at hjv
      obtain rfl := Option.some.inj hjv
      exact hy
    · rw [List.getElem?_set_ne e] at hx
      exact hs.slot j x v hx hjv, hs.defers⟩
  generalize a.tmps[i] = v at hv fin
  cases hv with
  | p _ _ hp =>
    cases hp with
    | nil ad k =>
      cases ad with
      | none => exact h1 c hc B w0 ι a w (fin _ (.nl k)) hn
      | some ad => exact h2 c hc B w0 ι a w (fin _ (.ne ad k)) hn
    | sl _ ad m k size u hO hlt2 hm hck =>
      simp only [List.length_nil] at hm
      subst hm
      exact h2 c hc B w0 ι a w (fin _ (.ne ad k)) hn

/-- nil as a row of its own -/
theorem Weak.nilrow {n i : Nat} {slots : List AV} {h : List AObj} {e : TypeId} {size : Nat} (hi : slots[i]? = some .nil) (hs : 0 < size) (hn : n ≤ h.length) : Weak n ⟨slots, h⟩ ⟨slots.set i (.row h.length 1), h ++ [⟨1, e, size, []⟩]⟩ := by
  refine ⟨by simp; omega, fun B w0 ι a w hsr hnl => ?_⟩
  have hlt : i < slots.length := (List.getElem?_eq_some_iff.1 hi).1
  obtain ⟨hh, hx⟩ := hsr.heap.push (w' := w) ⟨1, e, size, []⟩ (.slice none 0 0) [] ⟨rfl, rfl, rfl, Nat.le_refl _, fun _ _ _ => rfl⟩ (fun g hg => by simp [Value.ownBlock] at hg) hs ⟨by simp, .inl ⟨rfl, rfl⟩⟩ (fun i e he => by simp at he)
  refine ⟨_, ⟨hh, by rw [hsr.len]; simp, fun j x v hx' hv => ?_, hsr.defers⟩, .of hn hx⟩
  by_cases e : i = j
  · subst e
    simp only at hx'
    rw [List.getElem?_set_self hlt] at hx'
    obtain rfl := Option.some.inj hx'
    have hvr := hsr.slot i _ v hi hv
    cases hvr
    refine .row _ _ _ (by simp) rfl fun o ho => ?_
    rw [List.getElem?_append_right (Nat.le_refl _), Nat.sub_self] at ho
    simp only [List.getElem?_cons_zero, Option.some.injEq] at ho
    subst ho
    exact ⟨Nat.le_refl _, fun _ => by rw [upd_same]⟩
  · simp only at hx'
    rw [List.getElem?_set_ne e] at hx'
    exact hx.rel (hsr.slot j x v hx' hv)

/- functions -/
inductive ARes where
  | tmp (t : Nat)
  | cell (t : Nat) (m : Option Nat)
  deriving Inhabited

structure AFun where
  nt : Nat
  res : List ARes
  body : ACode
  deriving Inhabited

def compRes (P : Program) : List ResultVar → Option (List ARes)
  | [] => some []
  | .tmp t :: rest => match compRes P rest with | some r => some (.tmp t :: r) | none => none
  | .cell t ty :: rest => match aggSize P ty, compRes P rest with | some m, some r => some (.cell t m :: r) | _, _ => none

def compFun (P : Program) (f : FuncId) : Option AFun :=
  match P.funcs[f]? with
  | some fn =>
    match fn.body with
    | some c =>
      match comp P c, compRes P fn.results.toList with
      | some b, some r => some ⟨fn.ntmps, r, b⟩
      | _, _ => none
    | none => none
  | none => none

def res1 (s : St) : ARes → Option AV
  | .tmp t => some (s.slots.getD t .any)
  | .cell t (some n) => match readCells s.heap n (s.slots.getD t .any) with | some cs => some (.agg cs) | none => none
  | .cell t none => match readCells s.heap 1 (s.slots.getD t .any) with | some [c] => some c | _ => none

def resV (s : St) : List ARes → Option (List AV)
  | [] => some []
  | r :: rs => match res1 s r, resV s rs with | some x, some xs => some (x :: xs) | _, _ => none

theorem getElem_one {v : Value} (h : (#[v] : Array Value).size = 1) : (#[v] : Array Value)[0] = v := rfl

theorem results_run {P : Program} {B : Nat} {w0 : World} {s : St} {ι : Em} {a : Act} {w : World} (hs : SR B w0 s ι a w) : ∀ {rl : List ResultVar} {rs : List ARes} {xs : List AV}, compRes P rl = some rs → resV s rs = some xs →
    ∃ vs : List Value, (rl.mapM (fun r => match r with | .tmp t => pure (a.tmps.getD t undef) | .cell p t => do loadVar t (← asAddr (a.tmps.getD p undef))) : Sem (List Value)).run P w = .ok vs w ∧ vs.length = xs.length ∧ ∀ (i : Nat) (x : AV) (v : Value), xs[i]? = some x → vs[i]? = some v → VR s.heap ι w x v
  | [], rs, xs, hc, hx => by
    simp only [compRes, Option.some.injEq] at hc
    subst hc
    simp only [resV, Option.some.injEq] at hx
    subst hx
    exact ⟨[], by simp, rfl, fun i x v hx => by simp at hx⟩
  | .tmp t :: rl, rs, xs, hc, hx => by
    simp only [compRes] at hc
    split at hc
    · rename_i r hr
      obtain rfl := Option.some.inj hc
      simp only [resV, res1] at hx
      split at hx
      · rename_i y ys hy hys
        obtain rfl := Option.some.inj hx
        obtain rfl := Option.some.inj hy
        obtain ⟨vs, h1, h2, h3⟩ := results_run hs hr hys
        refine ⟨a.tmps.getD t undef :: vs, ?_, by simp [h2], fun i x v hx hv => ?_⟩
        · rw [List.mapM_cons]
          simp only [Sem.run_bind, Sem.run_pure, Result.andThen_ok, h1]
        · cases i with
          | zero =>
            simp only [List.getElem?_cons_zero, Option.some.injEq] at hx hv
            subst hx; subst hv
            exact slot_rel hs.slot hs.len t
          | succ i => exact h3 i x v (by simpa using hx) (by simpa using hv)
      · cases hx
    · cases hc
  | .cell t ty :: rl, rs, xs, hc, hx => by
    simp only [compRes] at hc
    split at hc
    · rename_i m r hm hr
      obtain rfl := Option.some.inj hc
      simp only [resV] at hx
      split at hx
      · rename_i y ys hy hys
        obtain rfl := Option.some.inj hx
        obtain ⟨vs, h1, h2, h3⟩ := results_run hs hr hys
        have hv0 := slot_rel hs.slot hs.len t
        have hld : aexec s.heap 0 (AOpd.eval s.slots) (.load m (.t t)) = some (y, .none) := by
          cases m with
          | none =>
            simp only [res1] at hy
            simp only [aexec, AOpd.eval]
            split at hy
            · rename_i c hcs
              obtain rfl := Option.some.inj hy
              rw [hcs]
            · cases hy
          | some k =>
            simp only [res1] at hy
            simp only [aexec, AOpd.eval]
            split at hy
            · rename_i c hcs
              obtain rfl := Option.some.inj hy
              rw [hcs]
            · cases hy
        obtain ⟨_, cv, hrun, hvr⟩ := run_loadAt hs.heap hm hv0 rfl hld
        have hptr : ∃ ad, a.tmps.getD t undef = .pointer (some ad) := by
          generalize a.tmps.getD t undef = v at hrun
          unfold Instr.loadAt Instr.sureAddr at hrun
          split at hrun
          · exact ⟨_, rfl⟩
          · simp at hrun
        obtain ⟨ad, had⟩ := hptr
        refine ⟨cv :: vs, ?_, by simp [h2], fun i x v hx hv => ?_⟩
        · rw [List.mapM_cons]
          rw [had] at hrun
          simp only [Instr.loadAt, Instr.sureAddr, Sem.run_bind, Sem.run_pure, Result.andThen_ok] at hrun
          show ((do loadVar ty (← asAddr (a.tmps.getD t undef)) : Sem Value) >>= fun x => (List.mapM _ rl) >>= fun xs => pure (x :: xs)).run P w = _
          rw [had]
          have ha : (asAddr (.pointer (some ad))).run P w = .ok ad w := rfl
          simp only [Sem.run_bind, ha, Sem.run_pure, Result.andThen_ok, hrun, h1]
        · cases i with
          | zero =>
            simp only [List.getElem?_cons_zero, Option.some.injEq] at hx hv
            subst hx; subst hv
            exact hvr
          | succ i => exact h3 i x v (by simpa using hx) (by simpa using hv)
      · cases hx
    · cases hc

def PA.av : PA → AV
  | .c x => .p x
  | .a cs => .agg (cs.map .p)

def start (nt : Nat) (args : List AV) : List AV := args ++ List.replicate (nt - args.length) .u

/-- what a body must come to -/
def RetQ (res : List ARes) (own : Bool) (rs : List RA) (e : Exit) (s : St) : Prop := (e = .normal ∨ e = .ret) ∧ ∃ xs, resV s res = some xs ∧ rasOf s.heap own xs = some rs

theorem results_eq {P : Program} {fn : Func} {a : Act} {w : World} {vs : List Value} (h : (fn.results.toList.mapM (fun r => match r with | .tmp t => pure (a.tmps.getD t undef) | .cell p t => do loadVar t (← asAddr (a.tmps.getD p undef))) : Sem (List Value)).run P w = .ok vs w) :
    (results fn a.tmps).run P w = .ok (retC vs) w := by
  have h2 : (fn.results.mapM (fun r => match r with | .tmp t => pure (a.tmps.getD t undef) | .cell p t => do loadVar t (← asAddr (a.tmps.getD p undef))) : Sem (Array Value)).run P w = .ok vs.toArray w := by
    rw [← Array.toArray_toList (xs := fn.results), List.mapM_toArray]
    simp only [Sem.run_map, h, Result.andThen_ok]
  unfold results
  rw [Sem.run_bind]
  refine (congrArg (fun r => Result.andThen r _) h2).trans ?_
  simp only [Result.andThen_ok]
  match vs with
  | [] => rfl
  | [v] => rfl
  | v :: v' :: vs => rfl

theorem start_slots {O : Nat → Prop} {h : List AObj} {ι : Em} {w : World} {args : List AV} {cargs : Array Value} {nt : Nat} (hl : cargs.size = args.length) (hr : ∀ (i : Nat) (x : AV) (v : Value), args[i]? = some x → cargs[i]? = some v → VRel h ι w O x v) :
    (cargs ++ Array.replicate (nt - cargs.size) undef).size = (start nt args).length ∧ ∀ (i : Nat) (x : AV) (v : Value), (start nt args)[i]? = some x → (cargs ++ Array.replicate (nt - cargs.size) undef)[i]? = some v → VRel h ι w O x v := by
  refine ⟨by simp [start, hl], fun i x v hx hv => ?_⟩
  unfold start at hx
  by_cases hi : i < args.length
  · rw [List.getElem?_append_left hi] at hx
    rw [Array.getElem?_append_left (by omega)] at hv
    exact hr i x v hx hv
  · rw [List.getElem?_append_right (by omega), List.getElem?_replicate] at hx
    rw [Array.getElem?_append_right (by omega), Array.getElem?_replicate] at hv
    split at hx
    · split at hv
      · obtain rfl := Option.some.inj hx
        obtain rfl := Option.some.inj hv
        exact .u
      · cases hv
    · cases hx

theorem Spec_of {P : Program} {f : FuncId} {af : AFun} (hf : compFun P f = some af) {args : List PA} {rs : List RA} {own : Bool} (h : AW P 0 af.body (RetQ af.res own rs) ⟨start af.nt (args.map PA.av), []⟩) : Spec P f args rs := by
  unfold compFun at hf
  split at hf
  · rename_i fn hfn
    split at hf
    · rename_i c hb
      split at hf
      · rename_i b r hcb hcr
        obtain rfl := Option.some.inj hf
        intro O w cargs hO hargs
        refine calls_of_wp hfn hb ?_
        let ι : Em := ⟨fun _ => .slice none 0 0, O⟩
        have hh : HRel w.heap.size w [] ι w := ⟨.refl _ _, Nat.le_refl _, hO, fun t o ho => by simp at ho, fun t t' g ht => by simp at ht⟩
        have hOw : Own ([] : List AObj).length ι = O := by
          funext g
          refine propext ⟨?_, fun h => .inl h⟩
          rintro (h | ⟨t, ht, _⟩)
          · exact h
          · simp at ht
        have hrel : ∀ (i : Nat) (x : AV) (v : Value), (args.map PA.av)[i]? = some x → cargs[i]? = some v → VR [] ι w x v := by
          intro i x v hx hv
          rw [List.getElem?_map, Option.map_eq_some_iff] at hx
          obtain ⟨p, hp, rfl⟩ := hx
          have hpr := hargs.2 i p v hp hv
          rw [← hOw] at hpr
          cases hpr with
          | c y _ hy => exact .p _ _ hy
          | a cs vs hl hr =>
            refine .agg _ _ (by simpa using hl) fun j z u hz hu => ?_
            rw [List.getElem?_map, Option.map_eq_some_iff] at hz
            obtain ⟨q, hq, rfl⟩ := hz
            exact .p _ _ (hr j q u hq hu)
        obtain ⟨g1, g2⟩ := start_slots (nt := fn.ntmps) (by rw [hargs.1]; simp) hrel
        refine wp_mono (h c hcb w.heap.size w ι _ w ⟨hh, g1, g2, rfl⟩ (Nat.zero_le _)) fun e a' w' hp => ?_
        obtain ⟨s', ι', k1, k2, hee, xs, hxs, hrs⟩ := hp
        obtain ⟨vs, m1, m2, m3⟩ := results_run k1 hcr hxs
        obtain ⟨κ, q1, q2, q3⟩ := ret_rel k1.heap hrs m2 m3
        have hret : bodyPost P fn (fun e w' => ∃ v ι, e = .returned v ∧ ι.O = O ∧ HRel w.heap.size w (rasObj rs) ι w' ∧ VR (rasObj rs) ι w' (retV (rasVal 0 rs)) v) .ret a' w' :=
          ⟨k1.defers, _, results_eq m1, _, κ, rfl, q1.trans k2.oeq, q2, q3⟩
        rcases hee with rfl | rfl
        · exact hret
        · exact hret
      · cases hf
    · cases hf
  · cases hf

/-- a call in the caller's own heap -/
theorem ACall_of {P : Program} {f : FuncId} {af : AFun} (hf : compFun P f = some af) {args : List AV} {h h' : List AObj} {y : AV} (hw : AW P h.length af.body (fun e s => (e = .normal ∨ e = .ret) ∧ ∃ xs, resV s af.res = some xs ∧ y = retV xs ∧ h' = s.heap) ⟨start af.nt args, h⟩) : ACall P f args h y h' := by
  unfold compFun at hf
  split at hf
  · rename_i fn hfn
    split at hf
    · rename_i c hb
      split at hf
      · rename_i b r hcb hcr
        obtain rfl := Option.some.inj hf
        intro B w0 ι w cargs hh hl hrel
        refine calls_of_wp hfn hb ?_
        obtain ⟨g1, g2⟩ := start_slots (nt := fn.ntmps) hl hrel
        refine wp_mono (hw c hcb B w0 ι _ w ⟨hh, g1, g2, rfl⟩ (Nat.le_refl _)) fun e a' w' hp => ?_
        obtain ⟨s', ι', k1, k2, hee, xs, hxs, rfl, rfl⟩ := hp
        obtain ⟨vs, m1, m2, m3⟩ := results_run k1 hcr hxs
        have hv : VR s'.heap ι' w' (retV xs) (retC vs) := by
          have tup : VR s'.heap ι' w' (.tuple xs) (.tuple vs.toArray) := .tuple _ _ (by simp [m2]) fun i y u hy hu => m3 i y u hy (by simpa using hu)
          match xs, vs, m2, m3, tup with
          | [], [], _, _, tup => exact tup
          | [x], [v], _, m3, _ => exact m3 0 x v rfl rfl
          | x :: x' :: xs, v :: v' :: vs, _, _, tup => exact tup
        have hret : bodyPost P fn (fun e w' => ∃ v ι2, e = .returned v ∧ HRel B w0 s'.heap ι2 w' ∧ EX h ι w s'.heap ι2 w' ∧ VR s'.heap ι2 w' (retV xs) v) .ret a' w' :=
          ⟨k1.defers, _, results_eq m1, _, ι', rfl, k1.heap, k2.ext, hv⟩
        rcases hee with rfl | rfl
        · exact hret
        · exact hret
      · cases hf
    · cases hf
  · cases hf
end Go.Abs
