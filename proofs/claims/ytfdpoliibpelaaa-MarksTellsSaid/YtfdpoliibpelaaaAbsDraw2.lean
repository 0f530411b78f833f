/- A region in whatever order: one trace in the order of the text stands for all. -/
import Derived.Test.YtfdpoliibpelaaaAbsDraw1
set_option linter.unusedVariables false
set_option linter.unusedSimpArgs false
set_option linter.unnecessarySimpa false
set_option linter.unusedSectionVars false
set_option linter.constructorNameAsVariable false
namespace Go.Abs
open Go.RowKit (Below)

structure Ev where
  y : AV
  T : Nat
  wr : List (Nat × AObj)
  tau : List Nat

/-- the objects of tau alone -/
def maskH (tau : List Nat) : Nat → List AObj → List AObj
  | _, [] => []
  | i, o :: os => (if tau.contains i then o else deadO) :: maskH tau (i + 1) os

theorem maskH_get (tau : List Nat) : ∀ (h : List AObj) (i t : Nat), (maskH tau i h)[t]? = h[t]?.map fun o => if tau.contains (i + t) then o else deadO
  | [], i, t => by simp [maskH]
  | o :: os, i, t => by
    cases t with
    | zero => simp [maskH]
    | succ t =>
      rw [maskH, List.getElem?_cons_succ, List.getElem?_cons_succ, maskH_get tau os (i + 1) t, show i + 1 + t = i + (t + 1) by omega]

theorem maskH_row {tau : List Nat} {h : List AObj} {t ver : Nat} {o : AObj} (hg : getRow (maskH tau 0 h) t ver = some o) : tau.contains t = true ∧ getRow h t ver = some o := by
  unfold getRow at hg ⊢
  rw [maskH_get] at hg
  cases hh : h[t]? with
  | none => simp [hh] at hg
  | some p =>
    simp only [hh, Option.map_some, Nat.zero_add] at hg
    by_cases hc : tau.contains t = true
    · rw [if_pos hc] at hg
      exact ⟨hc, hg⟩
    · rw [if_neg hc] at hg
      simp [deadO] at hg

def SOp.opds : SOp → List AOpd
  | .op ao => ao.opds
  | .call _ args => args
  | .callv x args => x :: args
def AOpd.tmp? : AOpd → Option Nat
  | .t n => some n
  | .c _ => none
def AStep.reads (s : AStep) : List Nat := (match s.guard with | some (d, _) => [d] | none => []) ++ s.op.opds.filterMap AOpd.tmp?

inductive StepD (P : Program) (s : AStep) (ev : Ev) (st : St) : Prop where
  | skip (hw : wantedA st.slots s.guard = some false) (hy : ev.y = .u) (hwr : ev.wr = []) : StepD P s ev st
  | op (ao : AOp) (eff : Eff) (ho : s.op = .op ao) (hw : wantedA st.slots s.guard = some true) (he : aexec (maskH ev.tau 0 st.heap) ev.T (AOpd.eval st.slots) ao = some (ev.y, eff)) (hwr : ev.wr = effWr ev.T eff)
      (hn : ∀ o, eff = .new o → st.heap[ev.T]? = some deadO) : StepD P s ev st
  | call (f : FuncId) (args : List AOpd) (mode : Bool) (pas : List PA) (rs : List RA) (ho : s.op = .call f args) (hw : wantedA st.slots s.guard = some true)
      (hp : argsOf (maskH ev.tau 0 st.heap) mode (args.map (AOpd.eval st.slots)) = some pas) (hs : Spec P f pas rs) (hm : mode = true ∨ flatRs rs = true) (hy : ev.y = retV (rasVal ev.T rs)) (hwr : ev.wr = tagged ev.T (rasObj rs))
      (hn : ∀ j, j < (rasObj rs).length → st.heap[ev.T + j]? = some deadO) : StepD P s ev st

def ap (st : St) (s : AStep) (ev : Ev) : St := ⟨setD st.slots s.dst ev.y, wrH st.heap ev.wr⟩

def TraceD (P : Program) : List (AStep × Ev) → St → St → Prop
  | [], st, st' => st' = st
  | p :: r, st, st' => StepD P p.1 p.2 st ∧ TraceD P r (ap st p.1 p.2) st'

def ordP (pre : List Nat) (i k : Nat) : Bool := (pre.getD i 0).testBit k || (pre.getD k 0).testBit i

def ordOK (pre : List Nat) (L : List (AStep × Ev)) : Bool :=
  (L.all fun p => p.2.wr.all fun q => p.2.tau.contains q.1) &&
  (List.range L.length).all fun i => (List.range L.length).all fun k => i == k || match L[i]?, L[k]? with
    | some p, some q =>
      (match q.1.dst with | some d => !(p.1.dst == some d) && (!(p.1.reads.contains d) || ordP pre i k) | none => true) &&
      ((q.2.wr.all fun x => !(p.2.tau.contains x.1)) || ordP pre i k)
    | _, _ => false

theorem ordOK_get {pre : List Nat} {L : List (AStep × Ev)} (h : ordOK pre L = true) :
    (∀ (i : Nat) (p : AStep × Ev), L[i]? = some p → ∀ x ∈ p.2.wr, p.2.tau.contains x.1 = true) ∧
    ∀ (i k : Nat) (p q : AStep × Ev), L[i]? = some p → L[k]? = some q → i ≠ k →
      (∀ d, q.1.dst = some d → p.1.dst ≠ some d ∧ (p.1.reads.contains d = true → ordP pre i k = true)) ∧ (∀ x ∈ q.2.wr, p.2.tau.contains x.1 = true → ordP pre i k = true) := by
  simp only [ordOK, Bool.and_eq_true, List.all_eq_true] at h
  obtain ⟨h1, h2⟩ := h
  refine ⟨fun i p hp x hx => h1 p (List.mem_of_getElem? hp) x hx, fun i k p q hp hq hne => ?_⟩
  have hi := (List.getElem?_eq_some_iff.1 hp).1
  have hk := (List.getElem?_eq_some_iff.1 hq).1
  have h3 := h2 i (List.mem_range.2 hi) k (List.mem_range.2 hk)
  simp only [Bool.or_eq_true, beq_iff_eq, hne, false_or, hp, hq, Bool.and_eq_true] at h3
  obtain ⟨h4, h5⟩ := h3
  refine ⟨fun d hd => ?_, fun x hx ht => ?_⟩
  · simp only [hd, Bool.and_eq_true, Bool.not_eq_true', Bool.or_eq_true] at h4
    refine ⟨fun e => ?_, fun hr => ?_⟩
    · rw [e] at h4; simp at h4
    · rcases h4.2 with h6 | h6
      · rw [hr] at h6; cases h6
      · exact h6
  · rcases h5 with h6 | h6
    · have h7 := List.all_eq_true.1 h6 x hx
      rw [ht] at h7; cases h7
    · exact h6

def foldD (D : Nat → Bool) : Nat → List (AStep × Ev) → St → St
  | _, [], st => st
  | i, p :: r, st => foldD D (i + 1) r (if D i then ap st p.1 p.2 else st)

theorem foldD_none {D : Nat → Bool} : ∀ (L : List (AStep × Ev)) (i : Nat) (st : St), (∀ k, k < L.length → D (i + k) = false) → foldD D i L st = st
  | [], i, st, _ => rfl
  | p :: r, i, st, h => by
    have h0 := h 0 (by simp)
    rw [foldD, if_neg (by simpa using h0)]
    exact foldD_none r (i + 1) st fun k hk => by
      have := h (k + 1) (by simp; omega)
      rwa [show i + 1 + k = i + (k + 1) by omega]

theorem foldD_all {P : Program} {D : Nat → Bool} : ∀ (L : List (AStep × Ev)) (i : Nat) (st st' : St), TraceD P L st st' → (∀ k, k < L.length → D (i + k) = true) → foldD D i L st = st'
  | [], i, st, st', ht, _ => by simp only [TraceD] at ht; rw [foldD, ht]
  | p :: r, i, st, st', ht, h => by
    have h0 := h 0 (by simp)
    rw [foldD, if_pos (by simpa using h0)]
    exact foldD_all r (i + 1) _ st' ht.2 fun k hk => by
      have := h (k + 1) (by simp; omega)
      rwa [show i + 1 + k = i + (k + 1) by omega]

theorem trace_at {P : Program} : ∀ (L : List (AStep × Ev)) (i k : Nat) (st st' : St) (p : AStep × Ev), TraceD P L st st' → L[k]? = some p → StepD P p.1 p.2 (foldD (fun j => decide (j < i + k)) i L st)
  | [], i, k, st, st', p, ht, hk => by simp at hk
  | q :: r, i, k, st, st', p, ht, hk => by
    cases k with
    | zero =>
      simp only [List.getElem?_cons_zero, Option.some.injEq] at hk
      subst hk
      rw [foldD_none]
      · exact ht.1
      · intro k _
        simp
    | succ k =>
      rw [List.getElem?_cons_succ] at hk
      rw [foldD, if_pos (by simp)]
      have := trace_at r (i + 1) k (ap st q.1 q.2) st' p ht.2 hk
      have e : (fun j => decide (j < i + (k + 1))) = fun j => decide (j < i + 1 + k) := by
        funext j
        rw [show i + (k + 1) = i + 1 + k by omega]
      rw [e]
      exact this

theorem setD_get {s s' : List AV} {d : Option Nat} {y : AV} {x : Nat} (h : s[x]? = s'[x]?) : (setD s d y)[x]? = (setD s' d y)[x]? := by
  cases d with
  | none => exact h
  | some d =>
    simp only [setD]
    by_cases e : d = x
    · subst e
      rw [List.getElem?_set_self', List.getElem?_set_self', h]
    · rw [List.getElem?_set_ne e, List.getElem?_set_ne e]
      exact h
theorem setD_other {s : List AV} {d : Option Nat} {y : AV} {x : Nat} (h : d ≠ some x) : (setD s d y)[x]? = s[x]? := by
  cases d with
  | none => rfl
  | some d =>
    simp only [setD]
    rw [List.getElem?_set_ne (fun e => h (by rw [e]))]
theorem wrH_get : ∀ {wr : List (Nat × AObj)} {h h' : List AObj} {t : Nat}, h[t]? = h'[t]? → (wrH h wr)[t]? = (wrH h' wr)[t]?
  | [], h, h', t, e => e
  | p :: ps, h, h', t, e => by
    rw [wrH, wrH]
    refine wrH_get ?_
    by_cases c : p.1 = t
    · subst c
      rw [List.getElem?_set_self', List.getElem?_set_self', e]
    · rw [List.getElem?_set_ne c, List.getElem?_set_ne c]
      exact e
theorem wrH_other : ∀ {wr : List (Nat × AObj)} {h : List AObj} {t : Nat}, (∀ x ∈ wr, x.1 ≠ t) → (wrH h wr)[t]? = h[t]?
  | [], h, t, _ => rfl
  | p :: ps, h, t, hn => by
    rw [wrH, wrH_other (fun x hx => hn x (by simp [hx])), List.getElem?_set_ne (hn p (by simp))]

theorem foldD_slot {D D' : Nat → Bool} {x : Nat} : ∀ (L : List (AStep × Ev)) (i : Nat) (st st' : St), (∀ (k : Nat) (p : AStep × Ev), L[k]? = some p → p.1.dst = some x → D (i + k) = D' (i + k)) → st.slots[x]? = st'.slots[x]? → (foldD D i L st).slots[x]? = (foldD D' i L st').slots[x]?
  | [], i, st, st', _, h => h
  | p :: r, i, st, st', ha, h => by
    rw [foldD, foldD]
    refine foldD_slot r (i + 1) _ _ (fun k q hk hd => by
      have := ha (k + 1) q (by simpa using hk) hd
      rwa [show i + 1 + k = i + (k + 1) by omega]) ?_
    by_cases hd : p.1.dst = some x
    · have h0 := ha 0 p rfl hd
      simp only [Nat.add_zero] at h0
      rw [h0]
      split
      · exact setD_get h
      · exact h
    · have h1 : ∀ (b : Bool) (s : St), (if b then ap s p.1 p.2 else s).slots[x]? = s.slots[x]? := fun b s => by
        cases b
        · rfl
        · exact setD_other hd
      rw [h1, h1]
      exact h

theorem foldD_heap {D D' : Nat → Bool} {t : Nat} : ∀ (L : List (AStep × Ev)) (i : Nat) (st st' : St), (∀ (k : Nat) (p : AStep × Ev), L[k]? = some p → (∃ x ∈ p.2.wr, x.1 = t) → D (i + k) = D' (i + k)) → st.heap[t]? = st'.heap[t]? → (foldD D i L st).heap[t]? = (foldD D' i L st').heap[t]?
  | [], i, st, st', _, h => h
  | p :: r, i, st, st', ha, h => by
    rw [foldD, foldD]
    refine foldD_heap r (i + 1) _ _ (fun k q hk hd => by
      have := ha (k + 1) q (by simpa using hk) hd
      rwa [show i + 1 + k = i + (k + 1) by omega]) ?_
    by_cases hd : ∃ x ∈ p.2.wr, x.1 = t
    · have h0 := ha 0 p rfl hd
      simp only [Nat.add_zero] at h0
      rw [h0]
      split
      · exact wrH_get h
      · exact h
    · have h1 : ∀ (b : Bool) (s : St), (if b then ap s p.1 p.2 else s).heap[t]? = s.heap[t]? := fun b s => by
        cases b
        · rfl
        · exact wrH_other fun x hx e => hd ⟨x, hx, e⟩
      rw [h1, h1]
      exact h

def Apart (p q : AStep × Ev) : Prop := (∀ d, p.1.dst = some d → q.1.dst ≠ some d) ∧ ∀ x ∈ p.2.wr, ∀ y ∈ q.2.wr, x.1 ≠ y.1

theorem wrH_set_comm : ∀ (wr : List (Nat × AObj)) (h : List AObj) (t : Nat) (o : AObj), (∀ x ∈ wr, x.1 ≠ t) → wrH (h.set t o) wr = (wrH h wr).set t o
  | [], h, t, o, _ => rfl
  | p :: ps, h, t, o, hn => by
    rw [wrH, wrH, List.set_comm _ _ (Ne.symm (hn p (by simp))), wrH_set_comm ps _ t o fun x hx => hn x (by simp [hx])]
theorem wrH_comm : ∀ (a b : List (Nat × AObj)) (h : List AObj), (∀ x ∈ a, ∀ y ∈ b, x.1 ≠ y.1) → wrH (wrH h a) b = wrH (wrH h b) a
  | [], b, h, _ => rfl
  | p :: ps, b, h, hn => by
    rw [wrH, wrH_comm ps b _ fun x hx => hn x (by simp [hx]), wrH_set_comm b h p.1 p.2 fun y hy e => hn p (by simp) y hy e.symm, wrH]
theorem ap_comm {st : St} {p q : AStep × Ev} (h : Apart p q) : ap (ap st p.1 p.2) q.1 q.2 = ap (ap st q.1 q.2) p.1 p.2 := by
  simp only [ap, St.mk.injEq]
  refine ⟨?_, wrH_comm _ _ _ h.2⟩
  cases hp : p.1.dst with
  | none => rfl
  | some d =>
    cases hq : q.1.dst with
    | none => rfl
    | some e =>
      simp only [setD]
      exact List.set_comm _ _ fun he => h.1 d hp (by rw [hq, he])

theorem foldD_ap {D : Nat → Bool} {p : AStep × Ev} : ∀ (L : List (AStep × Ev)) (i : Nat) (st : St), (∀ (k : Nat) (q : AStep × Ev), L[k]? = some q → D (i + k) = true → Apart p q) → foldD D i L (ap st p.1 p.2) = ap (foldD D i L st) p.1 p.2
  | [], i, st, _ => rfl
  | q :: r, i, st, ha => by
    rw [foldD, foldD]
    have ih := fun s => foldD_ap (D := D) (p := p) r (i + 1) s fun k q' hk hd => ha (k + 1) q' (by simpa using hk) (by rwa [show i + (k + 1) = i + 1 + k by omega])
    cases hD : D i with
    | false => simp only [Bool.false_eq_true, if_false]; exact ih st
    | true =>
      simp only [if_true]
      rw [ap_comm (ha 0 q rfl (by simpa using hD)), ih]

theorem foldD_congr {D D' : Nat → Bool} : ∀ (L : List (AStep × Ev)) (i : Nat) (st : St), (∀ k, k < L.length → D (i + k) = D' (i + k)) → foldD D i L st = foldD D' i L st
  | [], i, st, _ => rfl
  | p :: r, i, st, h => by
    have h0 := h 0 (by simp)
    simp only [Nat.add_zero] at h0
    rw [foldD, foldD, h0]
    exact foldD_congr r (i + 1) _ fun k hk => by
      have := h (k + 1) (by simp; omega)
      rwa [show i + 1 + k = i + (k + 1) by omega]

theorem foldD_ins {D D' : Nat → Bool} {p : AStep × Ev} : ∀ (L : List (AStep × Ev)) (i k0 : Nat) (st : St), L[k0]? = some p → D (i + k0) = false → D' (i + k0) = true → (∀ j, j ≠ i + k0 → D' j = D j) →
    (∀ (k : Nat) (q : AStep × Ev), L[k]? = some q → k ≠ k0 → D (i + k) = true → k0 < k → Apart p q) → foldD D' i L st = ap (foldD D i L st) p.1 p.2
  | [], i, k0, st, hp, _, _, _, _ => by simp at hp
  | q :: r, i, k0, st, hp, h0, h1, hD, ha => by
    rw [foldD, foldD]
    cases k0 with
    | zero =>
      simp only [List.getElem?_cons_zero, Option.some.injEq] at hp
      subst hp
      simp only [Nat.add_zero] at h0 h1
      rw [h0, h1]
      simp only [if_true, Bool.false_eq_true, if_false]
      rw [foldD_congr (D := D') (D' := D) r (i + 1) _ fun k _ => hD _ (by omega)]
      exact foldD_ap r (i + 1) st fun k q' hk hd => ha (k + 1) q' (by simpa using hk) (by omega) (by rwa [show i + (k + 1) = i + 1 + k by omega]) (by omega)
    | succ k0 =>
      rw [hD i (by omega)]
      rw [List.getElem?_cons_succ] at hp
      exact foldD_ins r (i + 1) k0 _ hp (by rwa [show i + 1 + k0 = i + (k0 + 1) by omega]) (by rwa [show i + 1 + k0 = i + (k0 + 1) by omega]) (fun j hj => hD j (by omega))
        fun k q' hk hne hd hlt => ha (k + 1) q' (by simpa using hk) (by omega) (by rwa [show i + (k + 1) = i + 1 + k by omega]) (by omega)

theorem count_set : ∀ (xs : List Bool) (i : Nat), xs[i]? = some false → (xs.set i true).count false + 1 = xs.count false
  | [], i, h => by simp at h
  | b :: xs, 0, h => by
    simp only [List.getElem?_cons_zero, Option.some.injEq] at h
    subst h
    simp
  | b :: xs, i + 1, h => by
    rw [List.getElem?_cons_succ] at h
    have := count_set xs i h
    rw [List.set_cons_succ, List.count_cons, List.count_cons]
    omega

section
variable {P : Program} {B : Nat} {w0 w : World} {ops : Array Oper}

theorem eval_agree {s s' : List AV} {xs : List AOpd} (h : ∀ d ∈ xs.filterMap AOpd.tmp?, s[d]? = s'[d]?) : ∀ x ∈ xs, AOpd.eval s x = AOpd.eval s' x := by
  intro x hx
  cases x with
  | c v => rfl
  | t n =>
    have := h n (List.mem_filterMap.2 ⟨_, hx, rfl⟩)
    simp only [AOpd.eval, List.getD_eq_getElem?_getD, this]

/-- one operation, in its turn -/
theorem stepD_sound {s : AStep} {ev : Ev} {stT st : St} (hst : StepD P s ev stT) (hslot : ∀ d ∈ s.reads, stT.slots[d]? = st.slots[d]?) (hheap : ∀ t, ev.tau.contains t = true → stT.heap[t]? = st.heap[t]?) (hwt : ∀ x ∈ ev.wr, ev.tau.contains x.1 = true)
    {ι : Em} {a : Act} (hs : SR B w0 st ι a w) {i : Nat} {o : Oper} (hi : ops[i]? = some o) (hcs : compStep P ops o = some s) {K : Act → World → Prop} {Q : Exit → Act → World → Prop}
    (hK : ∀ ι' a' w', SR B w0 (ap st s ev) ι' a' w' → EX st.heap ι w (ap st s ev).heap ι' w' → K a' w') : wpOp P ops Q i K a w := by
  have hg : wantedA st.slots s.guard = wantedA stT.slots s.guard := by
    cases hgd : s.guard with
    | none => rfl
    | some p =>
      have := hslot p.1 (by simp [AStep.reads, hgd])
      simp only [wantedA, this]
  have hopds : ∀ x ∈ s.op.opds, AOpd.eval stT.slots x = AOpd.eval st.slots x := eval_agree fun d hd => hslot d (by simp only [AStep.reads, List.mem_append]; exact .inr hd)
  have hm : ∀ t ver o, getRow (maskH ev.tau 0 stT.heap) t ver = some o → getRow st.heap t ver = some o := fun t ver o hgr => by
    obtain ⟨h1, h2⟩ := maskH_row hgr
    unfold getRow at h2 ⊢
    rw [← hheap t h1]
    exact h2
  have htagT : ∀ o, ev.wr = [(ev.T, o)] → ∀ q, stT.heap[ev.T]? = some q → st.heap[ev.T]? = some q := fun o he q hq => by
    rw [← hheap ev.T (hwt (ev.T, o) (by rw [he]; simp))]
    exact hq
  unfold wpOp
  simp only [hi]
  cases hst with
  | skip hw hy hwr =>
    rw [← hg] at hw
    obtain ⟨h1, h2, h3⟩ := wanted_rel hcs hs.len hs.slot hw
    rw [h1]
    simp only [Bool.false_eq_true, if_false]
    obtain ⟨g1, g2⟩ := put_slots hs.len hs.slot o.dst (VRel.u (h := st.heap) (ι := ι) (w := w) (O := Own st.heap.length ι))
    rw [← h2] at g1 g2 ⊢
    have e : ap st s ev = ⟨setD st.slots s.dst .u, st.heap⟩ := by simp only [ap, hy, hwr, wrH]
    exact hK ι _ _ (by rw [e]; exact ⟨hs.heap, g1, g2, by cases s.dst <;> exact hs.defers⟩) (by rw [e]; exact .refl _ _ _ _)
  | op ao eff ho hw he hwr hn =>
    rw [← hg] at hw
    obtain ⟨h1, h2, h3⟩ := wanted_rel hcs hs.len hs.slot hw
    rw [h1]
    simp only [if_true]
    left
    rw [ho] at h3
    have he2 := aexec_mono hm he
    rw [aexec_congr (ρ' := AOpd.eval st.slots) (by rw [ho] at hopds; exact hopds)] at he2
    obtain ⟨cv, w', hrun, hres⟩ := op_sound hs.heap hs.slot hs.len ((compS_op h3).resolve_right (by rintro rfl; simp [aexec] at he)) he2
    obtain ⟨ι', hs2, hx2⟩ := res_place hs hres (fun p hp => htagT p (by rw [hwr, hp]; rfl) _ (hn p hp)) s.dst
    rw [← hwr] at hs2 hx2
    have fin := hK ι' _ _ hs2 hx2
    rw [h2] at fin
    unfold Oper.wp
    rcases hrun with hrun | ⟨hrun, rfl⟩
    · rw [hrun]
      simp only [Oper.upon_value]
      exact fin
    · rw [hrun]
      simp only [Oper.upon_skip]
      exact fin
  | call f args mode pas rs ho hw hp hsp hmo hy hwr hn =>
    rw [← hg] at hw
    obtain ⟨h1, h2, h3⟩ := wanted_rel hcs hs.len hs.slot hw
    rw [h1]
    simp only [if_true]
    left
    rw [ho] at h3
    have hp2 := argsOf_mono hm hp
    have hargs : args.map (AOpd.eval stT.slots) = args.map (AOpd.eval st.slots) := List.map_congr_left fun x hx => hopds x (by rw [ho]; exact hx)
    rw [hargs] at hp2
    have hdead : ∀ j, j < (rasObj rs).length → st.heap[ev.T + j]? = some deadO := fun j hj => by
      have hmem : ∀ (k : List AObj) (T j : Nat), j < k.length → ∃ o, (T + j, o) ∈ tagged T k := by
        intro k
        induction k with
        | nil => intro T j hj; simp at hj
        | cons o k ih =>
          intro T j hj
          cases j with
          | zero => exact ⟨o, by simp [tagged]⟩
          | succ j =>
            obtain ⟨o', ho'⟩ := ih (T + 1) j (by simpa using hj)
            exact ⟨o', by simp only [tagged, List.mem_cons]; right; rwa [show T + (j + 1) = T + 1 + j by omega]⟩
      obtain ⟨q, hq⟩ := hmem (rasObj rs) ev.T j hj
      rw [← hheap (ev.T + j) (hwt _ (by rw [hwr]; exact hq))]
      exact hn j hj
    have hT : ev.T + (rasObj rs).length ≤ st.heap.length ∨ (rasObj rs).length = 0 := by
      by_cases hz : (rasObj rs).length = 0
      · exact .inr hz
      · have := (List.getElem?_eq_some_iff.1 (hdead ((rasObj rs).length - 1) (by omega))).1
        left; omega
    obtain ⟨cargs, ts, hop, hcb, hxs⟩ := compCall_static (compS_call h3)
    have hx : (execOp a.eval o).run P w = .ok (.enter f (cargs.map a.eval)) w := by
      simp only [execOp, hop, resolve, Sem.run_bind, Deferred.ofValue, Act.eval, Sem.run_pure, Result.andThen_ok, invoke, Array.empty_append, Array.append_empty]
      exact callable_run hcb _ w
    obtain ⟨hl, hrel⟩ := mapM_rel (a := a) (fun i x v hx hv => hs.slot i x v hx hv) hs.len hxs
    have hrel' : ∀ (i : Nat) (x : AV) (v : Value), (args.map (AOpd.eval st.slots))[i]? = some x → (cargs.map a.eval)[i]? = some v → VR st.heap ι w x v := fun i x v h1 h2 => hrel i x v h1 (by simpa using h2)
    have hsz : (cargs.map a.eval).size = (args.map (AOpd.eval st.slots)).length := by rw [← hl]; simp
    have fin : ∀ (O : Nat → Prop), (∀ g, O g → g < w.heap.size) → PARels w O pas (cargs.map a.eval) → (flatRs rs = true ∨ O = Own st.heap.length ι) → o.wp P a w K Q := by
      intro O hOs hpr hm
      unfold Oper.wp
      rw [hx]
      simp only [Oper.upon_enter]
      refine (hsp O w _ hOs hpr).mono fun e w' he => ?_
      obtain ⟨v, κ, rfl, hkO, hk, hv⟩ := he
      rcases hT with hT | hz
      · obtain ⟨h5, h6⟩ := join_place hs hk hv (hm.imp id (fun e => by rw [hkO, e])) hT hdead s.dst
        rw [← hwr, ← hy] at h5
        rw [← hwr] at h6
        have := hK _ _ _ h5 h6
        rwa [h2] at this
      · have hnil : rasObj rs = [] := List.eq_nil_of_length_eq_zero hz
        obtain ⟨h5, h6⟩ := join_step hs hk hv (hm.imp id (fun e => by rw [hkO, e])) s.dst
        have hval : retV (rasVal st.heap.length rs) = ev.y := by
          rw [hy]
          have : ∀ (rs : List RA) (T T' : Nat), rasObj rs = [] → rasVal T rs = rasVal T' rs := by
            intro rs
            induction rs with
            | nil => intro T T' _; rfl
            | cons r rs ih =>
              intro T T' hr
              simp only [rasObj, List.append_eq_nil_iff] at hr
              have hc : ∀ (x : RC) (T T' : Nat), rcObj x = [] → rcVal T x = rcVal T' x := by
                intro x T T' hx
                cases x with
                | c v => rfl
                | s e size es => simp [rcObj] at hx
              have hcs : ∀ (xs : List RC) (T T' : Nat), rcsObj xs = [] → rcsVal T xs = rcsVal T' xs := by
                intro xs
                induction xs with
                | nil => intro T T' _; rfl
                | cons x xs ih =>
                  intro T T' hx
                  simp only [rcsObj, List.append_eq_nil_iff] at hx
                  simp only [rcsVal]
                  rw [hc x T T' hx.1, ih _ _ hx.2]
              simp only [rasVal]
              have hr1 : raVal T r = raVal T' r := by
                cases r with
                | c x => exact hc x T T' hr.1
                | a xs =>
                  simp only [raVal]
                  rw [hcs xs T T' hr.1]
              rw [hr1, ih _ (T' + (raObj r).length) hr.2]
          rw [this rs _ ev.T hnil]
        have hw0 : wrH st.heap ev.wr = st.heap ++ rasObj rs := by rw [hwr, hnil]; simp [tagged, wrH]
        have e : ap st s ev = ⟨setD st.slots s.dst ev.y, st.heap ++ rasObj rs⟩ := by simp only [ap, hw0]
        rw [hval] at h5
        have := hK _ _ _ (by rw [e]; exact h5) (by rw [e]; exact h6)
        rwa [h2] at this
    unfold argsOf at hp2
    cases mode with
    | true =>
      simp only [if_true] at hp2
      exact fin _ (fun g hg => by
        rcases hg with hg | ⟨t, ht, hb⟩
        · exact Nat.lt_of_lt_of_le (hs.heap.old g hg) hs.heap.size
        · exact (hs.heap.own ht hb).2) (toPAs_rel (fun x v y hv hf => frzP_rel hv hf) hsz hrel' hp2) (.inr rfl)
    | false =>
      simp only [Bool.false_eq_true, if_false] at hp2
      exact fin (fun _ => False) (fun _ h => h.elim) (toPAs_rel (fun x v y hv hf => frz_rel hs.heap (fun _ h => h.elim) (fun _ _ _ _ _ h => h) 6 hv hf) hsz hrel' hp2) (.inl (by simpa using hmo))
end
end Go.Abs
