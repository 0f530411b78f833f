/- Code and its rules. -/
import Derived.Test.YtfdpoliibpelaaaAbsCtl3
import Derived.CheckFast
set_option linter.unusedVariables false
set_option linter.unusedSimpArgs false
set_option linter.unnecessarySimpa false
set_option linter.unusedSectionVars false
set_option linter.constructorNameAsVariable false
namespace Go.Abs
open Go.RowKit (Below)

inductive ACode where
  | skip
  | reg (pre : Option (List Nat)) (steps : List AStep)
  | seq (a b : ACode)
  | cond (c : AOpd) (a b : ACode)
  | block (id : Nat) (c : ACode)
  | loop (c : ACode)
  | exit (id : Nat)
  | ret
  | bad
  deriving Inhabited

def compSteps (P : Program) (ops : Array Oper) : List Oper → Option (List AStep)
  | [] => some []
  | o :: rest => match compStep P ops o, compSteps P ops rest with | some s, some r => some (s :: r) | _, _ => none

/-- who must stand before each, checked against the edges; no select -/
def preOK (ops : Array Oper) (b : List Nat) : Bool :=
  (List.range ops.size).all fun i =>
    match ops[i]? with
    | none => false
    | some oi =>
      (oi.after.all fun e => !(Region.binds .any e) || decide (e.on < i)) &&
      ((List.range ops.size).all fun j => !((b.getD i 0).testBit j) || (oi.after.any fun e => Region.binds .any e && (e.on == j || (b.getD e.on 0).testBit j)))

def compReg (P : Program) (ops : Array Oper) (draw : Bool) : Option ACode :=
  match compSteps P ops ops.toList with
  | none => some .bad
  | some ss =>
    if draw then
      if P.follows .mixedOrders && preOK ops (CheckFast.beforeF ops).toList then some (.reg (some (CheckFast.beforeF ops).toList) ss) else some .bad
    else some (.reg none ss)

def comp (P : Program) : Code → Option ACode
  | .skip => some .skip
  | .region _ ops d => compReg P ops d
  | .seq a b => match comp P a, comp P b with | some x, some y => some (.seq x y) | _, _ => none
  | .cond c a b => match opd c, comp P a, comp P b with | some z, some x, some y => some (.cond z x y) | _, _, _ => none
  | .block id c => match comp P c with | some x => some (.block id x) | none => none
  | .loop c => match comp P c with | some x => some (.loop x) | none => none
  | .exit id => some (.exit id)
  | .ret => some .ret
  | _ => some .bad

/-- between two configurations the first n objects stand -/
structure ExtN (n : Nat) (h : List AObj) (ι : Em) (w : World) (h' : List AObj) (ι' : Em) (w' : World) : Prop where
  fix : Fix w (Own h.length ι) w' (Own h'.length ι')
  len : n ≤ h'.length
  oeq : ι'.O = ι.O
  obj : ∀ t o', t < n → h'[t]? = some o' → ∃ o, h[t]? = some o ∧ ((o'.ver = o.ver ∧ o'.size = o.size ∧ o'.elems.length = o.elems.length ∧ ι' t = ι t) ∨ o.ver < o'.ver)

theorem ExtN.of {n : Nat} {h h' : List AObj} {ι ι' : Em} {w w' : World} (hn : n ≤ h.length) (hx : EX h ι w h' ι' w') : ExtN n h ι w h' ι' w' :=
  ⟨hx.fix, Nat.le_trans hn hx.len, hx.oeq, fun t o' ht ho' => hx.obj t o' (by omega) ho'⟩

theorem ExtN.refl {n : Nat} {h : List AObj} (hn : n ≤ h.length) (ι : Em) (w : World) : ExtN n h ι w h ι w := .of hn (.refl _ _ _ _)

theorem ExtN.trans {n : Nat} {h h' h'' : List AObj} {ι ι' ι'' : Em} {w w' w'' : World} (a : ExtN n h ι w h' ι' w') (b : ExtN n h' ι' w' h'' ι'' w'') : ExtN n h ι w h'' ι'' w'' := by
  refine ⟨a.fix.trans b.fix, b.len, b.oeq.trans a.oeq, fun t o'' ht ho'' => ?_⟩
  obtain ⟨o', ho', hb⟩ := b.obj t o'' ht ho''
  obtain ⟨o, ho, ha⟩ := a.obj t o' ht ho'
  refine ⟨o, ho, ?_⟩
  rcases ha with ⟨a1, a2, a3, a4⟩ | ha <;> rcases hb with ⟨b1, b2, b3, b4⟩ | hb
  · exact .inl ⟨b1.trans a1, b2.trans a2, b3.trans a3, b4.trans a4⟩
  · exact .inr (by omega)
  · exact .inr (by omega)
  · exact .inr (by omega)

theorem ExtN.ext {h h' : List AObj} {ι ι' : Em} {w w' : World} (a : ExtN h.length h ι w h' ι' w') : EX h ι w h' ι' w' := ⟨a.fix, a.len, a.oeq, a.obj⟩

/-- a call that goes on in the caller's own heap -/
def ACall (P : Program) (f : FuncId) (args : List AV) (h : List AObj) (y : AV) (h' : List AObj) : Prop :=
  ∀ (B : Nat) (w0 : World) (ι : Em) (w : World) (cargs : Array Value), HRel B w0 h ι w → cargs.size = args.length → (∀ (i : Nat) (x : AV) (v : Value), args[i]? = some x → cargs[i]? = some v → VR h ι w x v) →
    Calls P f cargs w fun e w' => ∃ v ι', e = .returned v ∧ HRel B w0 h' ι' w' ∧ EX h ι w h' ι' w' ∧ VR h' ι' w' y v

inductive ASteps (P : Program) : List AStep → St → St → Prop where
  | nil (st : St) : ASteps P [] st st
  | skip (s : AStep) (rest : List AStep) (st st' : St) (hw : wantedA st.slots s.guard = some false) (hr : ASteps P rest ⟨setD st.slots s.dst .u, st.heap⟩ st') : ASteps P (s :: rest) st st'
  | op (s : AStep) (ao : AOp) (rest : List AStep) (st : St) (y : AV) (eff : Eff) (st' : St) (ho : s.op = .op ao) (hw : wantedA st.slots s.guard = some true) (he : aexec st.heap st.heap.length (AOpd.eval st.slots) ao = some (y, eff))
      (hr : ASteps P rest ⟨setD st.slots s.dst y, effH st.heap eff⟩ st') : ASteps P (s :: rest) st st'
  | call (s : AStep) (f : FuncId) (args : List AOpd) (mode : Bool) (pas : List PA) (rs : List RA) (rest : List AStep) (st st' : St) (ho : s.op = .call f args) (hw : wantedA st.slots s.guard = some true)
      (hp : argsOf st.heap mode (args.map (AOpd.eval st.slots)) = some pas) (hs : Spec P f pas rs) (hm : mode = true ∨ flatRs rs = true)
      (hr : ASteps P rest ⟨setD st.slots s.dst (retV (rasVal st.heap.length rs)), st.heap ++ rasObj rs⟩ st') : ASteps P (s :: rest) st st'
  | inl (s : AStep) (f : FuncId) (args : List AOpd) (y : AV) (h' : List AObj) (rest : List AStep) (st st' : St) (ho : s.op = .call f args) (hw : wantedA st.slots s.guard = some true)
      (hs : ACall P f (args.map (AOpd.eval st.slots)) st.heap y h') (hr : ASteps P rest ⟨setD st.slots s.dst y, h'⟩ st') : ASteps P (s :: rest) st st'
  | inv (s : AStep) (x : AOpd) (f : FuncId) (caps : List AV) (args : List AOpd) (y : AV) (h' : List AObj) (rest : List AStep) (st st' : St) (ho : s.op = .callv x args) (hw : wantedA st.slots s.guard = some true) (hx : x.eval st.slots = .fn f caps) (hcb : callable P f = true)
      (hs : ACall P f (args.map (AOpd.eval st.slots) ++ caps) st.heap y h') (hr : ASteps P rest ⟨setD st.slots s.dst y, h'⟩ st') : ASteps P (s :: rest) st st'

section
variable {P : Program} {B : Nat} {w0 w : World}

theorem compS_op {o : Oper} {ao : AOp} (hc : compS P o = some (.op ao)) : compOp P o = some ao ∨ ao = .bad := by
  unfold compS at hc
  split at hc
  · rename_i s hs
    obtain rfl := Option.some.inj hc
    exfalso
    unfold compCall at hs
    split at hs
    · split at hs
      · split at hs
        · rw [Option.map_eq_some_iff] at hs
          obtain ⟨_, _, h⟩ := hs
          cases h
        · cases hs
      · split at hs <;> cases hs
      · cases hs
    · cases hs
  · injection hc with hc
    injection hc with hc
    cases h : compOp P o with
    | none => rw [h] at hc; exact .inr hc.symm
    | some x => rw [h] at hc; subst hc; exact .inl rfl
theorem compS_call {o : Oper} {f : FuncId} {args : List AOpd} (hc : compS P o = some (.call f args)) : compCall P o = some (.call f args) := by
  unfold compS at hc
  split at hc
  · rename_i s hs
    obtain rfl := Option.some.inj hc
    exact hs
  · injection hc with hc
    cases hc
theorem compS_callv {o : Oper} {x : AOpd} {args : List AOpd} (hc : compS P o = some (.callv x args)) : compCall P o = some (.callv x args) := by
  unfold compS at hc
  split at hc
  · rename_i s hs
    obtain rfl := Option.some.inj hc
    exact hs
  · injection hc with hc
    cases hc

theorem inl_fin {st : St} {ι : Em} {a : Act} (hs : SR B w0 st ι a w) {o : Oper} {f : FuncId} {cargs : Array Value} {args : List AV} {y : AV} {h' : List AObj} (hsz : cargs.size = args.length) (hrel : ∀ (i : Nat) (x : AV) (v : Value), args[i]? = some x → cargs[i]? = some v → VR st.heap ι w x v)
    (hx : (execOp a.eval o).run P w = .ok (.enter f cargs) w) (hcall : ACall P f args st.heap y h') {K : Act → World → Prop} {Q : Exit → Act → World → Prop}
    (hK : ∀ ι' a' w', SR B w0 ⟨setD st.slots o.dst y, h'⟩ ι' a' w' → EX st.heap ι w h' ι' w' → K a' w') : o.wp P a w K Q := by
  unfold Oper.wp
  rw [hx]
  simp only [Oper.upon_enter]
  refine (hcall B w0 ι w cargs hs.heap hsz hrel).mono fun e w' he => ?_
  obtain ⟨v, ι', rfl, hh, hext, hv⟩ := he
  obtain ⟨h1, h2⟩ := put_slots hs.len (fun i x v hx' hv => hext.rel (hs.slot i x v hx' hv)) o.dst hv
  exact hK _ _ _ ⟨hh, h1, h2, by cases o.dst <;> exact hs.defers⟩ hext

theorem compCall_static {o : Oper} {f : FuncId} {args : List AOpd} (hc : compCall P o = some (.call f args)) : ∃ cargs ts, o.op = .call { callee := .value (.func f), args := cargs, argTypes := ts } ∧ callable P f = true ∧ cargs.toList.mapM opd = some args := by
  unfold compCall at hc
  split at hc
  · rename_i c hop
    obtain ⟨callee, cargs, ts⟩ := c
    dsimp only at hc
    split at hc
    · split at hc
      · rename_i hcb
        rw [Option.map_eq_some_iff] at hc
        obtain ⟨xs, hxs, he⟩ := hc
        injection he with h1 h2
        subst h1; subst h2
        exact ⟨cargs, ts, hop, hcb, hxs⟩
      · cases hc
    · split at hc
      · injection hc with hc
        cases hc
      · cases hc
    · cases hc
  · cases hc

theorem compCall_value {o : Oper} {x : AOpd} {args : List AOpd} (hc : compCall P o = some (.callv x args)) : ∃ g cargs ts, o.op = .call { callee := .value g, args := cargs, argTypes := ts } ∧ opd g = some x ∧ cargs.toList.mapM opd = some args := by
  unfold compCall at hc
  split at hc
  · rename_i c hop
    obtain ⟨callee, cargs, ts⟩ := c
    dsimp only at hc
    split at hc
    · split at hc
      · rw [Option.map_eq_some_iff] at hc
        obtain ⟨_, _, he⟩ := hc
        cases he
      · cases hc
    · split at hc
      · rename_i y ys hy hys
        injection hc with hc
        injection hc with h1 h2
        subst h1; subst h2
        exact ⟨_, cargs, ts, hop, hy, hys⟩
      · cases hc
    · cases hc
  · cases hc

/-- a region in the order of the text -/
theorem steps_sound (ops : Array Oper) : ∀ {ss : List AStep} {st st' : St}, ASteps P ss st st' → ∀ {l : List Oper}, compSteps P ops l = some ss → ∀ {ι : Em} {a : Act} {w : World}, SR B w0 st ι a w →
    ∀ {Q : Exit → Act → World → Prop}, (∀ ι' a' w', SR B w0 st' ι' a' w' → EX st.heap ι w st'.heap ι' w' → Q .normal a' w') → wpList P ops Q l a w := by
  intro ss st st' hss
  induction hss with
  | nil st =>
    intro l hl ι a w hs Q hQ
    cases l with
    | nil => exact hQ ι a w hs (.refl _ _ _ _)
    | cons o l =>
      simp only [compSteps] at hl
      split at hl <;> cases hl
  | skip s rest st st' hw hr ih =>
    intro l hl ι a w hs Q hQ
    cases l with
    | nil => simp [compSteps] at hl
    | cons o l =>
      simp only [compSteps] at hl
      split at hl
      · rename_i s' r hs' hr'
        simp only [Option.some.injEq, List.cons.injEq] at hl
        obtain ⟨rfl, rfl⟩ := hl
        obtain ⟨h1, h2, h3⟩ := wanted_rel hs' hs.len hs.slot hw
        refine wpList_step fun K hK => ?_
        rw [if_neg (by rw [h1]; simp)]
        obtain ⟨g1, g2⟩ := put_slots hs.len hs.slot o.dst (VRel.u (h := st.heap) (ι := ι) (w := w) (O := Own st.heap.length ι))
        rw [← h2] at g1 g2 ⊢
        exact hK _ _ (ih hr' (ι := ι) ⟨hs.heap, g1, g2, by cases s'.dst <;> exact hs.defers⟩ hQ)
      · cases hl
  | op s ao rest st y eff st' ho hw he hr ih =>
    intro l hl ι a w hs Q hQ
    cases l with
    | nil => simp [compSteps] at hl
    | cons o l =>
      simp only [compSteps] at hl
      split at hl
      · rename_i s' r hs' hr'
        simp only [Option.some.injEq, List.cons.injEq] at hl
        obtain ⟨rfl, rfl⟩ := hl
        obtain ⟨h1, h2, h3⟩ := wanted_rel hs' hs.len hs.slot hw
        rw [ho] at h3
        obtain ⟨cv, w', hrun, hres⟩ := op_sound hs.heap hs.slot hs.len ((compS_op h3).resolve_right (by rintro rfl; simp [aexec] at he)) he
        obtain ⟨ι', hs2, hx2⟩ := res_step hs hres s'.dst
        refine wpList_step fun K hK => ?_
        rw [if_pos h1]
        have fin := ih hr' hs2 (Q := Q) (fun ι2 a2 w2 h4 h5 => hQ ι2 a2 w2 h4 (hx2.trans h5))
        unfold Oper.wp
        rcases hrun with hrun | ⟨hrun, rfl⟩
        · rw [hrun]
          simp only [Oper.upon_value]
          rw [← h2]
          exact hK _ _ fin
        · rw [hrun]
          simp only [Oper.upon_skip]
          rw [← h2]
          exact hK _ _ fin
      · cases hl
  | call s f args mode pas rs rest st st' ho hw hp hsp hm hr ih =>
    intro l hl ι a w hs Q hQ
    cases l with
    | nil => simp [compSteps] at hl
    | cons o l =>
      simp only [compSteps] at hl
      split at hl
      · rename_i s' r hs' hr'
        simp only [Option.some.injEq, List.cons.injEq] at hl
        obtain ⟨rfl, rfl⟩ := hl
        obtain ⟨h1, h2, h3⟩ := wanted_rel hs' hs.len hs.slot hw
        rw [ho] at h3
        refine wpList_step fun K hK => ?_
        rw [if_pos h1]
        refine call_step hs (compS_call h3) hp hsp hm fun ι' a' w' h4 h5 => hK _ _ ?_
        rw [← h2] at h4
        exact ih hr' h4 (fun ι2 a2 w2 h6 h7 => hQ ι2 a2 w2 h6 (h5.trans h7))
      · cases hl
  | inl s f args y h' rest st st' ho hw hcall hr ih =>
    intro l hl ι a w hs Q hQ
    cases l with
    | nil => simp [compSteps] at hl
    | cons o l =>
      simp only [compSteps] at hl
      split at hl
      · rename_i s' r hs' hr'
        simp only [Option.some.injEq, List.cons.injEq] at hl
        obtain ⟨rfl, rfl⟩ := hl
        obtain ⟨h1, h2, h3⟩ := wanted_rel hs' hs.len hs.slot hw
        rw [ho] at h3
        obtain ⟨cargs, ts, hop, hcb, hxs⟩ := compCall_static (compS_call h3)
        obtain ⟨hl2, hrel⟩ := mapM_rel (a := a) hs.slot hs.len hxs
        have hx : (execOp a.eval o).run P w = .ok (.enter f (cargs.map a.eval)) w := by
          simp only [execOp, hop, resolve, Sem.run_bind, Deferred.ofValue, Act.eval, Sem.run_pure, Result.andThen_ok, invoke, Array.empty_append, Array.append_empty]
          exact callable_run hcb _ w
        refine wpList_step fun K hK => ?_
        rw [if_pos h1]
        refine inl_fin hs (by rw [← hl2]; simp) (fun i x v g1 g2 => hrel i x v g1 (by simpa using g2)) hx hcall fun ι' a' w' h4 h5 => hK _ _ ?_
        rw [← h2] at h4
        exact ih hr' h4 (fun ι2 a2 w2 h6 h7 => hQ ι2 a2 w2 h6 (h5.trans h7))
      · cases hl
  | inv s x f caps args y h' rest st st' ho hw hxe hcb hcall hr ih =>
    intro l hl ι a w hs Q hQ
    cases l with
    | nil => simp [compSteps] at hl
    | cons o l =>
      simp only [compSteps] at hl
      split at hl
      · rename_i s' r hs' hr'
        simp only [Option.some.injEq, List.cons.injEq] at hl
        obtain ⟨rfl, rfl⟩ := hl
        obtain ⟨h1, h2, h3⟩ := wanted_rel hs' hs.len hs.slot hw
        rw [ho] at h3
        obtain ⟨g, cargs, ts, hop, hg, hxs⟩ := compCall_value (compS_callv h3)
        obtain ⟨hl2, hrel⟩ := mapM_rel (a := a) hs.slot hs.len hxs
        have hgv := opd_rel (a := a) hs.slot hs.len hg
        rw [hxe] at hgv
        generalize hev : a.eval g = gv at hgv
        cases hgv with
        | fn _ _ vs k1 k2 =>
          have hx : (execOp a.eval o).run P w = .ok (.enter f (cargs.map a.eval ++ vs)) w := by
            simp only [execOp, hop, resolve, Sem.run_bind, hev, Deferred.ofValue, Sem.run_pure, Result.andThen_ok, invoke, Array.empty_append]
            exact callable_run hcb _ w
          have hsz : (cargs.map a.eval).size = (args.map (AOpd.eval st.slots)).length := by rw [← hl2]; simp
          refine wpList_step fun K hK => ?_
          rw [if_pos h1]
          refine inl_fin hs (args := args.map (AOpd.eval st.slots) ++ caps) (by rw [Array.size_append, List.length_append, hsz, k1]) (fun i x v g1 g2 => ?_) hx hcall fun ι' a' w' h4 h5 => hK _ _ ?_
          · by_cases hi : i < (args.map (AOpd.eval st.slots)).length
            · rw [List.getElem?_append_left hi] at g1
              rw [Array.getElem?_append_left (by omega)] at g2
              exact hrel i x v g1 (by simpa using g2)
            · rw [List.getElem?_append_right (by omega)] at g1
              rw [Array.getElem?_append_right (by omega), hsz] at g2
              exact k2 _ x v g1 g2
          · rw [← h2] at h4
            exact ih hr' h4 (fun ι2 a2 w2 h6 h7 => hQ ι2 a2 w2 h6 (h5.trans h7))
      · cases hl
end
end Go.Abs
