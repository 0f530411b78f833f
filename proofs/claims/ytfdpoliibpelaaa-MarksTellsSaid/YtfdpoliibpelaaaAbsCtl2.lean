/- Calls by contract. -/
import Derived.Test.YtfdpoliibpelaaaAbsCtl1
set_option linter.unusedVariables false
set_option linter.unusedSimpArgs false
set_option linter.unnecessarySimpa false
set_option linter.unusedSectionVars false
set_option linter.constructorNameAsVariable false
namespace Go.Abs
open Go.RowKit (Below)

def frzL (f : AV → Option PV) : List AV → Option (List PV)
  | [] => some []
  | x :: xs => match f x, frzL f xs with | some a, some b => some (a :: b) | _, _ => none
def frzE (f : AV → Option PV) : List (List AV) → Option (List (List PV))
  | [] => some []
  | x :: xs => match frzL f x, frzE f xs with | some a, some b => some (a :: b) | _, _ => none

/-- a value made pure: what its rows hold now -/
def frz (h : List AObj) (bad : List Nat) : Nat → AV → Option PV
  | 0, _ => none
  | n + 1, x =>
    match x with
    | .p v => some v
    | .xf es => some (.sl es)
    | .nil => some (.sl [])
    | .ne => some (.sl [])
    | .nl => some (.sl [])
    | .e0 => some (.sl [])
    | .row t ver => if bad.contains t then none else match getRow h t ver with | some o => (match frzE (frz h bad n) o.elems with | some es => some (.sl es) | none => none) | none => none
    | .sl t ver lo len _ => if bad.contains t then none else match getRow h t ver with | some o => (match frzE (frz h bad n) ((o.elems.drop lo).take len) with | some es => some (.sl es) | none => none) | none => none
    | _ => none

def frzP : AV → Option PV
  | .p v => some v
  | .xf es => some (.sl es)
  | .nil => some (.sl [])
  | .ne => some (.sl [])
  | .nl => some (.sl [])
  | .e0 => some (.sl [])
  | _ => none

def toPA (f : AV → Option PV) : AV → Option PA
  | .agg cs => match frzL f cs with | some l => some (.a l) | none => none
  | x => match f x with | some v => some (.c v) | none => none

def toPAs (f : AV → Option PV) : List AV → Option (List PA)
  | [] => some []
  | x :: xs => match toPA f x, toPAs f xs with | some a, some b => some (a :: b) | _, _ => none

theorem frzL_get {f : AV → Option PV} : ∀ {xs : List AV} {ys : List PV}, frzL f xs = some ys → ys.length = xs.length ∧ ∀ (i : Nat) (x : AV) (y : PV), xs[i]? = some x → ys[i]? = some y → f x = some y
  | [], ys, h => by
    simp only [frzL, Option.some.injEq] at h
    subst h
    exact ⟨rfl, fun i x y hx => by simp at hx⟩
  | x :: xs, ys, h => by
    simp only [frzL] at h
    split at h
    · rename_i a b ha hb
      obtain rfl := Option.some.inj h
      obtain ⟨h1, h2⟩ := frzL_get hb
      refine ⟨by simp [h1], fun i u y hu hy => ?_⟩
      cases i with
      | zero =>
        simp at hu hy
        subst hu; subst hy
        exact ha
      | succ i => exact h2 i u y (by simpa using hu) (by simpa using hy)
    · cases h
theorem frzE_get {f : AV → Option PV} : ∀ {xs : List (List AV)} {ys : List (List PV)}, frzE f xs = some ys → ys.length = xs.length ∧ ∀ (i : Nat) (x : List AV) (y : List PV), xs[i]? = some x → ys[i]? = some y → frzL f x = some y
  | [], ys, h => by
    simp only [frzE, Option.some.injEq] at h
    subst h
    exact ⟨rfl, fun i x y hx => by simp at hx⟩
  | x :: xs, ys, h => by
    simp only [frzE] at h
    split at h
    · rename_i a b ha hb
      obtain rfl := Option.some.inj h
      obtain ⟨h1, h2⟩ := frzE_get hb
      refine ⟨by simp [h1], fun i u y hu hy => ?_⟩
      cases i with
      | zero =>
        simp at hu hy
        subst hu; subst hy
        exact ha
      | succ i => exact h2 i u y (by simpa using hu) (by simpa using hy)
    · cases h
theorem toPAs_get {f : AV → Option PV} : ∀ {xs : List AV} {ys : List PA}, toPAs f xs = some ys → ys.length = xs.length ∧ ∀ (i : Nat) (x : AV) (y : PA), xs[i]? = some x → ys[i]? = some y → toPA f x = some y
  | [], ys, h => by
    simp only [toPAs, Option.some.injEq] at h
    subst h
    exact ⟨rfl, fun i x y hx => by simp at hx⟩
  | x :: xs, ys, h => by
    simp only [toPAs] at h
    split at h
    · rename_i a b ha hb
      obtain rfl := Option.some.inj h
      obtain ⟨h1, h2⟩ := toPAs_get hb
      refine ⟨by simp [h1], fun i u y hu hy => ?_⟩
      cases i with
      | zero =>
        simp at hu hy
        subst hu; subst hy
        exact ha
      | succ i => exact h2 i u y (by simpa using hu) (by simpa using hy)
    · cases h

section
variable {P : Program} {B : Nat} {w0 w : World} {h : List AObj} {ι : Em}

theorem PRel.weak {O : Nat → Prop} {x : PV} {v : Value} (hp : PRel w O x v) : PRel w (fun _ => False) x v :=
  hp.fix ⟨Nat.le_refl _, fun _ _ _ => rfl, fun _ _ _ h => h⟩

theorem frz_rel (hr : HRel B w0 h ι w) {bad : List Nat} {O : Nat → Prop} (hO : ∀ g, O g → Own h.length ι g) (hbad : ∀ t g, t < h.length → bad.contains t = false → (ι t).ownBlock = some g → ¬ O g) : ∀ (n : Nat) {x : AV} {v : Value} {y : PV}, VR h ι w x v → frz h bad n x = some y → PRel w O y v := by
  have wk : ∀ {x : PV} {v : Value}, PRel w (Own h.length ι) x v → PRel w O x v := fun hp => hp.fix ⟨Nat.le_refl _, fun _ _ _ => rfl, fun g _ h h' => h (hO g h')⟩
  intro n
  induction n with
  | zero => intro x v y _ hf; simp [frz] at hf
  | succ n ih =>
    intro x v y hv hf
    have rows : ∀ (es : List (List AV)) (ps : List (List PV)), elemsOf h x = some es → (∃ t, t < h.length ∧ bad.contains t = false ∧ ∀ (a : Addr) (n c : Nat), v = .slice (some a) n c → (ι t).ownBlock = some a.block) → frzE (frz h bad n) es = some ps → y = .sl ps → PRel w O y v := by
      intro es ps he hblk hp hy
      subst hy
      obtain ⟨a, c, rfl, hc, hrest⟩ := slice_view hr hv he
      obtain ⟨hl, hg⟩ := frzE_get hp
      by_cases hne : es = []
      · subst hne
        have : ps = [] := List.eq_nil_of_length_eq_zero (by simpa using hl)
        subst this
        exact .nil _ _
      · obtain ⟨sz, ad, u, blk, rfl, hel, hcell⟩ := hrest hne
        have pair : ∀ (i : Nat) (e : List PV), ps[i]? = some e → ∃ e' : List AV, es[i]? = some e' ∧ frzL (frz h bad n) e' = some e := fun i e hie => by
          have hi : i < es.length := by rw [← hl]; exact (List.getElem?_eq_some_iff.1 hie).1
          exact ⟨es[i], List.getElem?_eq_getElem hi, hg i _ e (List.getElem?_eq_getElem hi) hie⟩
        rw [← hl] at hc ⊢
        obtain ⟨tt, htt, hbt, hblk⟩ := hblk
        refine .sl ps ad _ c sz u (hbad tt _ htt hbt (hblk ad _ _ rfl)) blk rfl hc (fun i e hie => ?_) (fun i e hie j z hz => ?_) (fun i e hie j z hz => ?_)
        · obtain ⟨e', he', hfe⟩ := pair i e hie
          rw [(frzL_get hfe).1, hel i e' he']
        · obtain ⟨e', he', hfe⟩ := pair i e hie
          have hj : j < e'.length := by rw [← (frzL_get hfe).1]; exact (List.getElem?_eq_some_iff.1 hz).1
          exact (hcell i e' he' j _ (List.getElem?_eq_getElem hj)).1
        · obtain ⟨e', he', hfe⟩ := pair i e hie
          have hj : j < e'.length := by rw [← (frzL_get hfe).1]; exact (List.getElem?_eq_some_iff.1 hz).1
          have h2 := (frzL_get hfe).2 j _ z (List.getElem?_eq_getElem hj) hz
          exact ih (hcell i e' he' j _ (List.getElem?_eq_getElem hj)).2 h2
    cases x <;> simp only [frz] at hf
    case p v' =>
      obtain rfl := Option.some.inj hf
      cases hv with | p _ _ hp => exact wk hp
    case xf es =>
      obtain rfl := Option.some.inj hf
      cases hv with | xf _ _ _ hp => exact wk hp
    case nil =>
      obtain rfl := Option.some.inj hf
      cases hv
      exact .nil _ _
    case ne =>
      obtain rfl := Option.some.inj hf
      cases hv
      exact .nil _ _
    case nl =>
      obtain rfl := Option.some.inj hf
      cases hv
      exact .nil _ _
    case e0 =>
      obtain rfl := Option.some.inj hf
      cases hv
      exact .nil _ _
    case row t ver =>
      split at hf
      · cases hf
      rename_i hbt
      split at hf
      · rename_i o hgo
        split at hf
        · rename_i ps hps
          obtain rfl := Option.some.inj hf
          refine rows o.elems ps (by simp [elemsOf, hgo]) ?_ hps rfl
          obtain ⟨hot, hov⟩ := getRow_some hgo
          cases hv with
          | row _ _ _ ht _ hob => exact ⟨t, ht, by simpa using hbt, fun a n c e => by rw [← (hob o hot).2 hov, e]; rfl⟩
        · cases hf
      · cases hf
    case sl t ver lo len ex =>
      split at hf
      · cases hf
      rename_i hbt
      split at hf
      · rename_i o hgo
        split at hf
        · rename_i ps hps
          obtain rfl := Option.some.inj hf
          refine rows _ ps (by simp [elemsOf, hgo]) ?_ hps rfl
          obtain ⟨hot, hov⟩ := getRow_some hgo
          cases hv with
          | sl _ _ _ _ _ _ ht _ hob =>
            refine ⟨t, ht, by simpa using hbt, fun a n c e => ?_⟩
            obtain ⟨g, N, C, c2, hsv, hvv, _⟩ := (hob o hot).2 hov
            rw [hvv] at e
            simp only [Value.slice.injEq, Option.some.injEq] at e
            obtain ⟨rfl, _, _⟩ := e
            rw [hsv]; rfl
        · cases hf
      · cases hf
    all_goals cases hf

theorem frzP_rel {x : AV} {v : Value} {y : PV} (hv : VR h ι w x v) (hf : frzP x = some y) : PRel w (Own h.length ι) y v := by
  unfold frzP at hf
  split at hf
  · obtain rfl := Option.some.inj hf
    cases hv with | p _ _ hp => exact hp
  · obtain rfl := Option.some.inj hf
    cases hv with | xf _ _ _ hp => exact hp
  · obtain rfl := Option.some.inj hf
    cases hv
    exact .nil _ _
  · obtain rfl := Option.some.inj hf
    cases hv
    exact .nil _ _
  · obtain rfl := Option.some.inj hf
    cases hv
    exact .nil _ _
  · obtain rfl := Option.some.inj hf
    cases hv
    exact .nil _ _
  · cases hf

theorem toPA_rel {f : AV → Option PV} {O : Nat → Prop} (hf : ∀ (x : AV) (v : Value) (y : PV), VR h ι w x v → f x = some y → PRel w O y v) {x : AV} {v : Value} {y : PA} (hv : VR h ι w x v) (hp : toPA f x = some y) : PARel w O y v := by
  have one : ∀ (v' : PV), f x = some v' → PARel w O (.c v') v := fun v' h' => .c _ _ (hf x v v' hv h')
  unfold toPA at hp
  split at hp
  · rename_i cs
    split at hp
    · rename_i l hl
      obtain rfl := Option.some.inj hp
      obtain ⟨h1, h2⟩ := frzL_get hl
      cases hv with
      | agg _ vs h3 h4 =>
        refine .a _ _ (by omega) fun i z u hz hu => ?_
        have hi : i < cs.length := by rw [← h1]; exact (List.getElem?_eq_some_iff.1 hz).1
        exact hf _ u z (h4 i _ u (List.getElem?_eq_getElem hi) hu) (h2 i _ z (List.getElem?_eq_getElem hi) hz)
    · cases hp
  · split at hp
    · rename_i v' h'
      obtain rfl := Option.some.inj hp
      exact one v' h'
    · cases hp

theorem toPAs_rel {f : AV → Option PV} {O : Nat → Prop} (hf : ∀ (x : AV) (v : Value) (y : PV), VR h ι w x v → f x = some y → PRel w O y v) {xs : List AV} {vs : Array Value} {ys : List PA} (hl : vs.size = xs.length) (hv : ∀ (i : Nat) (x : AV) (v : Value), xs[i]? = some x → vs[i]? = some v → VR h ι w x v)
    (hp : toPAs f xs = some ys) : PARels w O ys vs := by
  obtain ⟨h1, h2⟩ := toPAs_get hp
  refine ⟨by omega, fun i y v hy hv' => ?_⟩
  have hi : i < xs.length := by rw [← h1]; exact (List.getElem?_eq_some_iff.1 hy).1
  exact toPA_rel hf (hv i _ v (List.getElem?_eq_getElem hi) hv') (h2 i _ y (List.getElem?_eq_getElem hi) hy)

def flatRs (rs : List RA) : Bool := rs.all RA.flat

theorem rcObj_flat {x : RC} (hf : x.flat = true) : ∀ o ∈ rcObj x, ∀ (i : Nat) (e : List AV), o.elems[i]? = some e → ∀ (j : Nat) (y : PV), e[j]? = some (AV.p y) → y.flat = true := by
  intro o ho i e he j y hy
  cases x with
  | c v => simp [rcObj] at ho
  | s e' size es =>
    simp only [rcObj, List.mem_singleton] at ho
    subst ho
    simp only [List.getElem?_map, Option.map_eq_some_iff] at he
    obtain ⟨el, hel, rfl⟩ := he
    simp only [List.getElem?_map, Option.map_eq_some_iff] at hy
    obtain ⟨z, hz, hzy⟩ := hy
    injection hzy with hzy
    subst hzy
    simp only [RC.flat, List.all_eq_true] at hf
    exact hf el (List.mem_of_getElem? hel) z (List.mem_of_getElem? hz)
theorem rcsObj_flat : ∀ {xs : List RC}, xs.all RC.flat = true → ∀ o ∈ rcsObj xs, ∀ (i : Nat) (e : List AV), o.elems[i]? = some e → ∀ (j : Nat) (y : PV), e[j]? = some (AV.p y) → y.flat = true
  | [], _, o, ho => by simp [rcsObj] at ho
  | x :: xs, hf, o, ho => by
    simp only [List.all_cons, Bool.and_eq_true] at hf
    simp only [rcsObj, List.mem_append] at ho
    rcases ho with ho | ho
    · exact rcObj_flat hf.1 o ho
    · exact rcsObj_flat hf.2 o ho
theorem rasObj_flat : ∀ {xs : List RA}, flatRs xs = true → ∀ o ∈ rasObj xs, ∀ (i : Nat) (e : List AV), o.elems[i]? = some e → ∀ (j : Nat) (y : PV), e[j]? = some (AV.p y) → y.flat = true
  | [], _, o, ho => by simp [rasObj] at ho
  | x :: xs, hf, o, ho => by
    simp only [flatRs, List.all_cons, Bool.and_eq_true] at hf
    simp only [rasObj, List.mem_append] at ho
    rcases ho with ho | ho
    · cases x with
      | c x => exact rcObj_flat hf.1 o ho
      | a ys => exact rcsObj_flat hf.1 o ho
    · exact rasObj_flat (xs := xs) hf.2 o ho

theorem inRs_flat {rs : List RA} {x : PV} (hf : flatRs rs = true) (hm : InRs rs x) : x.flat = true := by
  induction hm with
  | c x rs =>
    simp only [flatRs, List.all_cons, Bool.and_eq_true] at hf
    exact hf.1
  | a x cs rs hm =>
    simp only [flatRs, List.all_cons, Bool.and_eq_true, RA.flat, List.all_eq_true] at hf
    exact hf.1 _ hm
  | tl x r rs _ ih =>
    simp only [flatRs, List.all_cons, Bool.and_eq_true] at hf
    exact ih hf.2


theorem callable_run {f : FuncId} (hc : callable P f = true) (args : Array Value) (w : World) : (callFunc f args).run P w = .ok (.enter f args) w := by
  unfold callable at hc
  split at hc
  · rename_i fn hf
    simp only [Bool.and_eq_true, Bool.not_eq_true'] at hc
    obtain ⟨h1, h2⟩ := hc
    have h3 : fn.body.isNone = false := by cases h : fn.body <;> simp_all
    simp only [callFunc, Sem.run_bind, run_program, Result.andThen_ok, hf, h2, h3, Bool.false_eq_true, if_false, Sem.run_pure]
  · cases hc

/-- the state behind a call by contract -/
theorem join_step {st : St} {ι κ : Em} {a : Act} {w' : World} (hs : SR B w0 st ι a w) {rs : List RA} {v : Value} (hk : HRel w.heap.size w (rasObj rs) κ w') (hv : VR (rasObj rs) κ w' (retV (rasVal 0 rs)) v)
    (hmode : flatRs rs = true ∨ κ.O = Own st.heap.length ι) (d : Option Nat) :
    SR B w0 ⟨setD st.slots d (retV (rasVal st.heap.length rs)), st.heap ++ rasObj rs⟩ (joinE st.heap.length ι κ) (a.put d v) w' ∧ EX st.heap ι w (st.heap ++ rasObj rs) (joinE st.heap.length ι κ) w' := by
  have hO : ∀ (x : PV) (u : Value), (x.flat = true ∨ κ.O = Own st.heap.length ι) → PRel w' (Own (rasObj rs).length κ) x u → PRel w' (Own (st.heap ++ rasObj rs).length (joinE st.heap.length ι κ)) x u := by
    intro x u hm hp
    rcases hm with hm | hm
    · exact hp.of_flat hm
    · refine hp.fix ⟨Nat.le_refl _, fun _ _ _ => rfl, fun g hg hno => ?_⟩
      rintro (hOO | ⟨t, ht, hb⟩)
      · exact hno (.inl (by rw [hm]; exact .inl hOO))
      · by_cases htl : t < st.heap.length
        · rw [join_old htl] at hb
          exact hno (.inl (by rw [hm]; exact .inr ⟨t, htl, hb⟩))
        · obtain ⟨s, rfl⟩ : ∃ s, t = st.heap.length + s := ⟨t - st.heap.length, by omega⟩
          rw [join_new] at hb
          exact hno (.inr ⟨s, by simp at ht; omega, hb⟩)
  obtain ⟨hh, hx⟩ := hs.heap.join hk (rasObj_pure rs) (fun x u hvr hin => by
    cases hvr with
    | p _ _ hp =>
      refine hO x u ?_ hp
      rcases hmode with hm | hm
      · obtain ⟨t, o, i, e, j, h1, h2, h3⟩ := hin
        exact .inl (rasObj_flat hm o (List.mem_of_getElem? h1) i e h2 j x h3)
      · exact .inr hm)
  have hvr : VR (st.heap ++ rasObj rs) (joinE st.heap.length ι κ) w' (retV (rasVal st.heap.length rs)) v :=
    VRel.shiftR (G := fun x => x.flat = true ∨ κ.O = Own st.heap.length ι) hO (fun y hy => by
      rcases hmode with hm | hm
      · exact .inl (inRs_flat hm hy)
      · exact .inr hm) hv
  obtain ⟨h1, h2⟩ := put_slots hs.len (fun i x v hx' hv => hx.rel (hs.slot i x v hx' hv)) d hvr
  exact ⟨⟨hh, h1, h2, by cases d <;> exact hs.defers⟩, hx⟩

/-- how the arguments are read: mode false: as they are now (the result is flat); true: none of them can turn -/
def argsOf (h : List AObj) (mode : Bool) (xs : List AV) : Option (List PA) := if mode then toPAs frzP xs else toPAs (frz h [] 6) xs

theorem call_step {st : St} {ι : Em} {a : Act} (hs : SR B w0 st ι a w) {o : Oper} {f : FuncId} {args : List AOpd} (hc : compCall P o = some (.call f args)) {mode : Bool} {pas : List PA} {rs : List RA} (hp : argsOf st.heap mode (args.map (AOpd.eval st.slots)) = some pas) (hsp : Spec P f pas rs)
    (hmode : mode = true ∨ flatRs rs = true) {K : Act → World → Prop} {Q : Exit → Act → World → Prop}
    (hK : ∀ ι' a' w', SR B w0 ⟨setD st.slots o.dst (retV (rasVal st.heap.length rs)), st.heap ++ rasObj rs⟩ ι' a' w' → EX st.heap ι w (st.heap ++ rasObj rs) ι' w' → K a' w') : o.wp P a w K Q := by
  have hop : ∃ cargs ts, o.op = .call { callee := .value (.func f), args := cargs, argTypes := ts } ∧ callable P f = true ∧ cargs.toList.mapM opd = some args := by
    unfold compCall at hc
    split at hc
    · rename_i c hop
      obtain ⟨callee, cargs, ts⟩ := c
      dsimp only at hc
      split at hc
      · split at hc
        · rename_i hcb
          rw [Option.map_eq_some_iff] at hc
          obtain ⟨xs, hxs, he⟩ := hc
          injection he with h1 h2
          subst h1; subst h2
          exact ⟨cargs, ts, hop, hcb, hxs⟩
        · cases hc
      · split at hc
        · injection hc with hc
          cases hc
        · cases hc
      · cases hc
    · cases hc
  obtain ⟨cargs, ts, hop, hcb, hxs⟩ := hop
  have hx : (execOp a.eval o).run P w = .ok (.enter f (cargs.map a.eval)) w := by
    have := callable_run (P := P) hcb (cargs.map a.eval) w
    simp only [execOp, hop, resolve, Sem.run_bind, Deferred.ofValue, Act.eval, Sem.run_pure, Result.andThen_ok, invoke, Array.empty_append, Array.append_empty]
    exact this
  obtain ⟨hl, hrel⟩ := mapM_rel (a := a) (fun i x v hx hv => hs.slot i x v hx hv) hs.len hxs
  have hrel' : ∀ (i : Nat) (x : AV) (v : Value), (args.map (AOpd.eval st.slots))[i]? = some x → (cargs.map a.eval)[i]? = some v → VR st.heap ι w x v := fun i x v h1 h2 => hrel i x v h1 (by simpa using h2)
  have hsz : (cargs.map a.eval).size = (args.map (AOpd.eval st.slots)).length := by rw [← hl]; simp
  have fin : ∀ (O : Nat → Prop), (∀ g, O g → g < w.heap.size) → PARels w O pas (cargs.map a.eval) → (flatRs rs = true ∨ O = Own st.heap.length ι) → o.wp P a w K Q := by
    intro O hOs hpr hm
    unfold Oper.wp
    rw [hx]
    simp only [Oper.upon_enter]
    refine (hsp O w _ hOs hpr).mono fun e w' he => ?_
    obtain ⟨v, κ, rfl, hkO, hk, hv⟩ := he
    obtain ⟨h1, h2⟩ := join_step hs hk hv (hm.imp id (fun e => by rw [hkO, e])) o.dst
    exact hK _ _ _ h1 h2
  unfold argsOf at hp
  cases mode with
  | true =>
    simp only [if_true] at hp
    exact fin _ (fun g hg => by
      rcases hg with hg | ⟨t, ht, hb⟩
      · exact Nat.lt_of_lt_of_le (hs.heap.old g hg) hs.heap.size
      · exact (hs.heap.own ht hb).2) (toPAs_rel (fun x v y hv hf => frzP_rel hv hf) hsz hrel' hp) (.inr rfl)
  | false =>
    simp only [Bool.false_eq_true, if_false] at hp
    exact fin (fun _ => False) (fun _ h => h.elim) (toPAs_rel (fun x v y hv hf => frz_rel hs.heap (fun _ h => h.elim) (fun _ _ _ _ _ h => h) 6 hv hf) hsz hrel' hp) (.inl (by simpa using hmode))
end
end Go.Abs
