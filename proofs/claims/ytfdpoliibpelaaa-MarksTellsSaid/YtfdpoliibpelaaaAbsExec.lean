/- A run of whole functions, for closed arguments. -/
import Derived.Test.YtfdpoliibpelaaaAbsRun
import Derived.Test.YtfdpoliibpelaaaAbsDraw4
set_option linter.unusedVariables false
set_option linter.unusedSimpArgs false
set_option linter.unnecessarySimpa false
set_option linter.unusedSectionVars false
set_option linter.constructorNameAsVariable false
namespace Go.Abs

inductive EX' where
  | normal
  | exit (id : Nat)
  | ret
  deriving DecidableEq

def EX'.to : EX' → Exit
  | .normal => .normal
  | .exit id => .exit id
  | .ret => .ret

/-- the results of a call whose arguments are pure -/
def finF (af : AFun) (r : Option (EX' × St)) : Option (List RA) :=
  match r with
  | some (e, s) =>
    match e with
    | .exit _ => none
    | _ => match resV s af.res with
      | some xs => match rasOf s.heap true xs with
        | some rs => some rs
        | none => rasOf s.heap false xs
      | none => none
  | none => none

def finI (af : AFun) (r : Option (EX' × St)) : Option (AV × List AObj) :=
  match r with
  | some (e, s) =>
    match e with
    | .exit _ => none
    | _ => match resV s af.res with
      | some xs => some (retV xs, s.heap)
      | none => none
  | none => none

def runSteps (callF : FuncId → List PA → Option (List RA)) (callI : FuncId → List AV → List AObj → Option (AV × List AObj)) (cb : FuncId → Bool) : List AStep → St → Option St
  | [], st => some st
  | s :: rest, st =>
    match wantedA st.slots s.guard with
    | some false => runSteps callF callI cb rest ⟨setD st.slots s.dst .u, st.heap⟩
    | some true =>
      match s.op with
      | .op ao =>
        match aexec st.heap st.heap.length (AOpd.eval st.slots) ao with
        | some (y, eff) => runSteps callF callI cb rest ⟨setD st.slots s.dst y, effH st.heap eff⟩
        | none => none
      | .call f args =>
        match argsOf st.heap true (args.map (AOpd.eval st.slots)) with
        | some pas =>
          match callF f pas with
          | some rs => runSteps callF callI cb rest ⟨setD st.slots s.dst (retV (rasVal st.heap.length rs)), st.heap ++ rasObj rs⟩
          | none => none
        | none =>
          match argsOf st.heap false (args.map (AOpd.eval st.slots)) with
          | some pas =>
            match callF f pas with
            | some rs =>
              match flatRs rs with
              | true => runSteps callF callI cb rest ⟨setD st.slots s.dst (retV (rasVal st.heap.length rs)), st.heap ++ rasObj rs⟩
              | false =>
                match callI f (args.map (AOpd.eval st.slots)) st.heap with
                | some (y, h') => runSteps callF callI cb rest ⟨setD st.slots s.dst y, h'⟩
                | none => none
            | none => none
          | none =>
            match callI f (args.map (AOpd.eval st.slots)) st.heap with
            | some (y, h') => runSteps callF callI cb rest ⟨setD st.slots s.dst y, h'⟩
            | none => none
      | .callv x args =>
        match x.eval st.slots with
        | .fn f caps =>
          match cb f with
          | true =>
            match callI f (args.map (AOpd.eval st.slots) ++ caps) st.heap with
            | some (y, h') => runSteps callF callI cb rest ⟨setD st.slots s.dst y, h'⟩
            | none => none
          | false => none
        | _ => none
    | none => none

/-- one operation of a drawn region -/
def stepX (callF : FuncId → List PA → Option (List RA)) (s : AStep) (st : St) : Option (AV × List (Nat × AObj) × List Nat × List AObj) :=
  match wantedA st.slots s.guard with
  | some false => some (.u, [], [], st.heap)
  | some true =>
    match s.op with
    | .op ao =>
      match aexec (maskH (touch (AOpd.eval st.slots) ao) 0 st.heap) st.heap.length (AOpd.eval st.slots) ao with
      | some (y, eff) =>
        match eff with
        | .none => some (y, [], touch (AOpd.eval st.slots) ao, st.heap)
        | .new o => some (y, [(st.heap.length, o)], st.heap.length :: touch (AOpd.eval st.slots) ao, st.heap ++ [o])
        | .upd t o => match decide (t < st.heap.length) with
          | true => some (y, [(t, o)], touch (AOpd.eval st.slots) ao, st.heap.set t o)
          | false => none
      | none => none
    | .call f args =>
      match argsOf st.heap true (args.map (AOpd.eval st.slots)) with
      | some pas =>
        match callF f pas with
        | some rs => some (retV (rasVal st.heap.length rs), tagged st.heap.length (rasObj rs), (tagged st.heap.length (rasObj rs)).map (·.1), st.heap ++ rasObj rs)
        | none => none
      | none =>
        match argsOf (maskH ((args.map (AOpd.eval st.slots)).flatMap (reachV st.heap 6)) 0 st.heap) false (args.map (AOpd.eval st.slots)) with
        | some pas =>
          match callF f pas with
          | some rs =>
            match flatRs rs with
            | true => some (retV (rasVal st.heap.length rs), tagged st.heap.length (rasObj rs), (args.map (AOpd.eval st.slots)).flatMap (reachV st.heap 6) ++ (tagged st.heap.length (rasObj rs)).map (·.1), st.heap ++ rasObj rs)
            | false => none
          | none => none
        | none => none
    | .callv _ _ => none
  | none => none

def runX (callF : FuncId → List PA → Option (List RA)) : List AStep → St → Option (List (AStep × Ev) × St)
  | [], st => some ([], st)
  | s :: rest, st =>
    match stepX callF s st with
    | some (y, wr, tau, h1) =>
      match runX callF rest ⟨setD st.slots s.dst y, h1⟩ with
      | some (L, st') => some ((s, ⟨y, st.heap.length, wr, tau⟩) :: L, st')
      | none => none
    | none => none

def runDraw (callF : FuncId → List PA → Option (List RA)) (pre : List Nat) (ss : List AStep) (st : St) : Option St :=
  match runX callF ss st with
  | some (L, st') => match ordOK pre L with
    | true => some st'
    | false => none
  | none => none

/-- a loop, so many rounds -/
def runLoop (body : St → Option (EX' × St)) : Nat → St → Option (EX' × St)
  | 0, _ => none
  | k + 1, st =>
    match body st with
    | some (.normal, s) => runLoop body k s
    | r => r

def runCode (k : Nat) (steps : List AStep → St → Option St) (draw : List Nat → List AStep → St → Option St) : ACode → St → Option (EX' × St)
  | .skip, st => some (.normal, st)
  | .reg none ss, st => match steps ss st with | some s => some (.normal, s) | none => none
  | .reg (some pre) ss, st => match draw pre ss st with | some s => some (.normal, s) | none => none
  | .seq a b, st =>
    match runCode k steps draw a st with
    | some (.normal, s) => runCode k steps draw b s
    | r => r
  | .cond z a b, st =>
    match z.eval st.slots with
    | .p (.bool true) => runCode k steps draw a st
    | .p (.bool false) => runCode k steps draw b st
    | _ => none
  | .block id a, st =>
    match runCode k steps draw a st with
    | some (.exit id', s) => if id' = id then some (.normal, s) else some (.exit id', s)
    | r => r
  | .loop a, st => runLoop (runCode k steps draw a) k st
  | .exit id, st => some (.exit id, st)
  | .ret, st => some (.ret, st)
  | .bad, _ => none

mutual
/-- calls, so deep; a loop, so long; K: contracts that are known -/
def runF (K : FuncId → List PA → Option (List RA)) (F : FuncId → Option AFun) (cb : FuncId → Bool) (k : Nat) : Nat → FuncId → List PA → Option (List RA)
  | 0, _, _ => none
  | d + 1, f, pas =>
    match K f pas with
    | some rs => some rs
    | none =>
      match F f with
      | some af => finF af (runCode k (runSteps (runF K F cb k d) (runI K F cb k d) cb) (runDraw (runF K F cb k d)) af.body ⟨start af.nt (pas.map PA.av), []⟩)
      | none => none
def runI (K : FuncId → List PA → Option (List RA)) (F : FuncId → Option AFun) (cb : FuncId → Bool) (k : Nat) : Nat → FuncId → List AV → List AObj → Option (AV × List AObj)
  | 0, _, _, _ => none
  | d + 1, f, avs, h =>
    match F f with
    | some af => finI af (runCode k (runSteps (runF K F cb k d) (runI K F cb k d) cb) (runDraw (runF K F cb k d)) af.body ⟨start af.nt avs, h⟩)
    | none => none
end

def noK (_ : FuncId) (_ : List PA) : Option (List RA) := none

section
variable {P : Program} {callF : FuncId → List PA → Option (List RA)} {callI : FuncId → List AV → List AObj → Option (AV × List AObj)} {cb : FuncId → Bool}

theorem runSteps_sound (hF : ∀ f pas rs, callF f pas = some rs → Spec P f pas rs) (hI : ∀ f avs h y h', callI f avs h = some (y, h') → ACall P f avs h y h') (hcb : ∀ f, cb f = true → callable P f = true) :
    ∀ (ss : List AStep) (st st' : St), runSteps callF callI cb ss st = some st' → ASteps P ss st st'
  | [], st, st', h => by
    simp only [runSteps, Option.some.injEq] at h
    subst h
    exact .nil _
  | s :: ss, st, st', h => by
    have ih := runSteps_sound hF hI hcb ss
    simp only [runSteps] at h
    split at h
    · rename_i hw
      exact .skip _ _ _ _ hw (ih _ _ h)
    · rename_i hw
      split at h
      · rename_i ao ho
        split at h
        · rename_i y eff he
          exact .op _ ao _ _ y eff _ ho hw he (ih _ _ h)
        · cases h
      · rename_i f args ho
        split at h
        · rename_i pas hp
          split at h
          · rename_i rs hrs
            exact .call _ f args true pas rs _ _ _ ho hw hp (hF _ _ _ hrs) (.inl rfl) (ih _ _ h)
          · cases h
        · split at h
          · rename_i pas hp
            split at h
            · rename_i rs hrs
              split at h
              · rename_i hfl
                exact .call _ f args false pas rs _ _ _ ho hw hp (hF _ _ _ hrs) (.inr hfl) (ih _ _ h)
              · split at h
                · rename_i y h' hc
                  exact .inl _ f args y h' _ _ _ ho hw (hI _ _ _ _ _ hc) (ih _ _ h)
                · cases h
            · cases h
          · split at h
            · rename_i y h' hc
              exact .inl _ f args y h' _ _ _ ho hw (hI _ _ _ _ _ hc) (ih _ _ h)
            · cases h
      · rename_i x args ho
        split at h
        · rename_i f caps hx
          split at h
          · rename_i hcbf
            split at h
            · rename_i y h' hc
              exact .inv _ x f caps args y h' _ _ _ ho hw hx (hcb f hcbf) (hI _ _ _ _ _ hc) (ih _ _ h)
            · cases h
          · cases h
        · cases h
    · cases h

theorem argsOf_true {h h' : List AObj} {xs : List AV} {ys : List PA} (ha : argsOf h true xs = some ys) : argsOf h' true xs = some ys := by
  simp only [argsOf, if_true] at ha ⊢
  exact ha

theorem maskH_sub {t1 t2 : List Nat} (hs : ∀ t, t1.contains t = true → t2.contains t = true) {h : List AObj} : ∀ t ver o, getRow (maskH t1 0 h) t ver = some o → getRow (maskH t2 0 h) t ver = some o := fun t ver o hg => by
  obtain ⟨a, b⟩ := maskH_row hg
  exact maskH_row' (hs t a) b

theorem stepX_sound (hF : ∀ f pas rs, callF f pas = some rs → Spec P f pas rs) {s : AStep} {st : St} {y : AV} {wr : List (Nat × AObj)} {tau : List Nat} {h1 : List AObj} (h : stepX callF s st = some (y, wr, tau, h1)) : StepS P s tau st y wr h1 := by
  unfold stepX at h
  split at h
  · rename_i hw
    simp only [Option.some.injEq, Prod.mk.injEq] at h
    obtain ⟨rfl, rfl, rfl, rfl⟩ := h
    exact .skip hw
  · rename_i hw
    split at h
    · rename_i ao ho
      split at h
      · rename_i y' eff he
        split at h
        · simp only [Option.some.injEq, Prod.mk.injEq] at h
          obtain ⟨rfl, rfl, rfl, rfl⟩ := h
          exact .op ao _ .none ho hw he (fun t o e => by cases e)
        · rename_i o
          simp only [Option.some.injEq, Prod.mk.injEq] at h
          obtain ⟨rfl, rfl, rfl, rfl⟩ := h
          exact .op ao _ (.new o) ho hw (aexec_mono (maskH_sub fun t ht => by simp only [List.contains_iff_mem, List.mem_cons] at ht ⊢; exact .inr ht) he) (fun t o e => by cases e)
        · rename_i t o
          split at h
          · rename_i hd
            simp only [Option.some.injEq, Prod.mk.injEq] at h
            obtain ⟨rfl, rfl, rfl, rfl⟩ := h
            exact .op ao _ (.upd t o) ho hw he (fun t o e => by cases e; exact of_decide_eq_true hd)
          · cases h
      · cases h
    · rename_i f args ho
      split at h
      · rename_i pas hp
        split at h
        · rename_i rs hrs
          simp only [Option.some.injEq, Prod.mk.injEq] at h
          obtain ⟨rfl, rfl, rfl, rfl⟩ := h
          exact .call f args true pas rs ho hw (argsOf_true hp) (hF _ _ _ hrs) (.inl rfl)
        · cases h
      · split at h
        · rename_i pas hp
          split at h
          · rename_i rs hrs
            split at h
            · rename_i hfl
              simp only [Option.some.injEq, Prod.mk.injEq] at h
              obtain ⟨rfl, rfl, rfl, rfl⟩ := h
              exact .call f args false pas rs ho hw (argsOf_mono (maskH_sub fun t ht => by simp only [List.contains_iff_mem, List.mem_append] at ht ⊢; exact .inl ht) hp) (hF _ _ _ hrs) (.inr hfl)
            · cases h
          · cases h
        · cases h
    · cases h
  · cases h

theorem runX_sound (hF : ∀ f pas rs, callF f pas = some rs → Spec P f pas rs) : ∀ (ss : List AStep) (st st' : St) (L : List (AStep × Ev)), runX callF ss st = some (L, st') → TraceS P L st st' ∧ L.map (·.1) = ss
  | [], st, st', L, h => by
    simp only [runX, Option.some.injEq, Prod.mk.injEq] at h
    obtain ⟨rfl, rfl⟩ := h
    exact ⟨.nil _, rfl⟩
  | s :: ss, st, st', L, h => by
    simp only [runX] at h
    split at h
    · rename_i y wr tau h1 hx
      split at h
      · rename_i L' st2 hr
        simp only [Option.some.injEq, Prod.mk.injEq] at h
        obtain ⟨rfl, rfl⟩ := h
        obtain ⟨a, b⟩ := runX_sound hF ss _ _ _ hr
        exact ⟨.cons s y wr tau h1 L' st st2 (stepX_sound hF hx) a, by rw [List.map_cons, b]⟩
      · cases h
    · cases h

theorem AW.len {n : Nat} {ac : ACode} {Q : Exit → St → Prop} {st : St} (h : AW P n ac Q st) : AW P n ac (fun e s => n ≤ s.heap.length ∧ Q e s) st := fun c hc B w0 ι a w hs hn =>
  wp_mono (h c hc B w0 ι a w hs hn) fun e a' w' ⟨st', ι', h1, h2, h3⟩ => ⟨st', ι', h1, h2, h2.len, h3⟩

theorem Weak.refl {n : Nat} {st : St} (hn : n ≤ st.heap.length) : Weak n st st := ⟨hn, fun B w0 ι a w hs hl => ⟨ι, hs, .refl hl ι w⟩⟩

theorem runCode_sound {n k : Nat} {steps : List AStep → St → Option St} {draw : List Nat → List AStep → St → Option St} (hsteps : ∀ ss st st', steps ss st = some st' → ASteps P ss st st')
    (hdraw : ∀ pre ss st st', draw pre ss st = some st' → ∃ L, TraceS P L st st' ∧ L.map (·.1) = ss ∧ ordOK pre L = true) :
    ∀ (ac : ACode) (st s : St) (e : EX'), runCode k steps draw ac st = some (e, s) → AW P n ac (fun e' s' => e' = e.to ∧ s' = s) st := by
  intro ac
  induction ac with
  | skip =>
    intro st s e h
    simp only [runCode, Option.some.injEq, Prod.mk.injEq] at h
    obtain ⟨rfl, rfl⟩ := h
    exact .skip ⟨rfl, rfl⟩
  | reg pre ss =>
    intro st s e h
    cases pre with
    | none =>
      simp only [runCode] at h
      split at h
      · rename_i s' hs'
        simp only [Option.some.injEq, Prod.mk.injEq] at h
        obtain ⟨rfl, rfl⟩ := h
        exact .reg (hsteps _ _ _ hs') ⟨rfl, rfl⟩
      · cases h
    | some pre =>
      simp only [runCode] at h
      split at h
      · rename_i s' hs'
        simp only [Option.some.injEq, Prod.mk.injEq] at h
        obtain ⟨rfl, rfl⟩ := h
        obtain ⟨L, h1, h2, h3⟩ := hdraw _ _ _ _ hs'
        exact .drawS h1 h2 h3 ⟨rfl, rfl⟩
      · cases h
  | seq x y ihx ihy =>
    intro st s e h
    simp only [runCode] at h
    split at h
    · rename_i s1 h1
      refine .seq ((ihx _ _ _ h1).mono fun e' s' ⟨a, b⟩ => ?_)
      subst a; subst b
      exact ihy _ _ _ h
    · rename_i hne
      refine .seq ((ihx _ _ _ h).mono fun e' s' ⟨a, b⟩ => ?_)
      subst a; subst b
      cases e with
      | normal => exact absurd h (hne s')
      | exit id => exact ⟨rfl, rfl⟩
      | ret => exact ⟨rfl, rfl⟩
  | cond z x y ihx ihy =>
    intro st s e h
    simp only [runCode] at h
    split at h
    · rename_i hz
      exact .cond hz (ihx _ _ _ h)
    · rename_i hz
      exact .cond hz (ihy _ _ _ h)
    · cases h
  | block id x ih =>
    intro st s e h
    simp only [runCode] at h
    split at h
    · rename_i id' s1 h1
      refine .block ((ih _ _ _ h1).mono fun e' s' ⟨a, b⟩ => ?_)
      subst a; subst b
      simp only [EX'.to, blockQ]
      split at h
      · rename_i hid
        simp only [Option.some.injEq, Prod.mk.injEq] at h
        obtain ⟨rfl, rfl⟩ := h
        rw [if_pos hid]
        exact ⟨rfl, rfl⟩
      · rename_i hid
        simp only [Option.some.injEq, Prod.mk.injEq] at h
        obtain ⟨rfl, rfl⟩ := h
        rw [if_neg hid]
        exact ⟨rfl, rfl⟩
    · rename_i hne
      refine .block ((ih _ _ _ h).mono fun e' s' ⟨a, b⟩ => ?_)
      subst a; subst b
      cases e with
      | normal => exact ⟨rfl, rfl⟩
      | exit id => exact absurd h (hne id s')
      | ret => exact ⟨rfl, rfl⟩
  | loop x ih =>
    intro st s e h
    simp only [runCode] at h
    refine .loop (fun j s' => runLoop (runCode k steps draw x) j s' = some (e, s)) k h fun j s0 hj => ?_
    cases j with
    | zero => simp [runLoop] at hj
    | succ j =>
      simp only [runLoop] at hj
      split at hj
      · rename_i s1 h1
        refine (ih _ _ _ h1).len.mono fun e' s' ⟨hl, a, b⟩ => ?_
        subst a; subst b
        exact ⟨j, s', Nat.lt_succ_self j, .refl hl, hj⟩
      · rename_i hne
        refine (ih _ _ _ hj).mono fun e' s' ⟨a, b⟩ => ?_
        subst a; subst b
        cases e with
        | normal => exact absurd hj (hne s')
        | exit id => exact ⟨rfl, rfl⟩
        | ret => exact ⟨rfl, rfl⟩
  | exit id =>
    intro st s e h
    simp only [runCode, Option.some.injEq, Prod.mk.injEq] at h
    obtain ⟨rfl, rfl⟩ := h
    exact .exit ⟨rfl, rfl⟩
  | ret =>
    intro st s e h
    simp only [runCode, Option.some.injEq, Prod.mk.injEq] at h
    obtain ⟨rfl, rfl⟩ := h
    exact .ret ⟨rfl, rfl⟩
  | bad =>
    intro st s e h
    simp [runCode] at h

theorem run_sound {K : FuncId → List PA → Option (List RA)} (hK : ∀ f pas rs, K f pas = some rs → Spec P f pas rs) {F : FuncId → Option AFun} (hAF : ∀ f af, F f = some af → compFun P f = some af) (hcb : ∀ f, cb f = true → callable P f = true) (k : Nat) : ∀ d,
    (∀ f pas rs, runF K F cb k d f pas = some rs → Spec P f pas rs) ∧ (∀ f avs h y h', runI K F cb k d f avs h = some (y, h') → ACall P f avs h y h') := by
  intro d
  induction d with
  | zero => exact ⟨fun f pas rs h => by simp [runF] at h, fun f avs h y h' hh => by simp [runI] at hh⟩
  | succ d ih =>
    obtain ⟨ihF, ihI⟩ := ih
    have hsteps := runSteps_sound (P := P) ihF ihI hcb
    have hdraw : ∀ pre ss st st', runDraw (runF K F cb k d) pre ss st = some st' → ∃ L, TraceS P L st st' ∧ L.map (·.1) = ss ∧ ordOK pre L = true := by
      intro pre ss st st' h
      unfold runDraw at h
      split at h
      · rename_i L st2 hx
        split at h
        · rename_i hord
          obtain rfl := Option.some.inj h
          obtain ⟨a, b⟩ := runX_sound ihF _ _ _ _ hx
          exact ⟨L, a, b, hord⟩
        · cases h
      · cases h
    refine ⟨fun f pas rs h => ?_, fun f avs h y h' hh => ?_⟩
    · simp only [runF] at h
      split at h
      · rename_i rs' hk
        obtain rfl := Option.some.inj h
        exact hK _ _ _ hk
      split at h
      · rename_i af haf
        generalize hr : runCode k (runSteps (runF K F cb k d) (runI K F cb k d) cb) (runDraw (runF K F cb k d)) af.body ⟨start af.nt (pas.map PA.av), []⟩ = r at h
        unfold finF at h
        split at h
        · rename_i e s
          have hs := runCode_sound (n := 0) hsteps hdraw _ _ _ _ hr
          have fin : (∀ id, e ≠ .exit id) → (match resV s af.res with
              | some xs => match rasOf s.heap true xs with
                | some rs => some rs
                | none => rasOf s.heap false xs
              | none => none) = some rs → Spec P f pas rs := by
            intro hne h
            have hee : e.to = .normal ∨ e.to = .ret := by
              cases e with
              | normal => exact .inl rfl
              | exit id => exact absurd rfl (hne id)
              | ret => exact .inr rfl
            split at h
            · rename_i xs hxs
              split at h
              · rename_i rs' hrs
                obtain rfl := Option.some.inj h
                exact Spec_of (own := true) (hAF f af haf) (hs.mono fun e' s' ⟨a, b⟩ => by subst a; subst b; exact ⟨hee, xs, hxs, hrs⟩)
              · exact Spec_of (own := false) (hAF f af haf) (hs.mono fun e' s' ⟨a, b⟩ => by subst a; subst b; exact ⟨hee, xs, hxs, h⟩)
            · cases h
          cases e with
          | normal => exact fin (fun id e => by cases e) h
          | exit id => simp at h
          | ret => exact fin (fun id e => by cases e) h
        · cases h
      · cases h
    · simp only [runI] at hh
      split at hh
      · rename_i af haf
        generalize hr : runCode k (runSteps (runF K F cb k d) (runI K F cb k d) cb) (runDraw (runF K F cb k d)) af.body ⟨start af.nt avs, h⟩ = r at hh
        unfold finI at hh
        split at hh
        · rename_i e s
          have hs := runCode_sound (n := h.length) hsteps hdraw _ _ _ _ hr
          have fin : (∀ id, e ≠ .exit id) → (match resV s af.res with
              | some xs => some (retV xs, s.heap)
              | none => none) = some (y, h') → ACall P f avs h y h' := by
            intro hne hh
            have hee : e.to = .normal ∨ e.to = .ret := by
              cases e with
              | normal => exact .inl rfl
              | exit id => exact absurd rfl (hne id)
              | ret => exact .inr rfl
            split at hh
            · rename_i xs hxs
              simp only [Option.some.injEq, Prod.mk.injEq] at hh
              obtain ⟨rfl, rfl⟩ := hh
              exact ACall_of (hAF f af haf) (hs.mono fun e' s' ⟨a, b⟩ => by subst a; subst b; exact ⟨hee, xs, hxs, rfl, rfl⟩)
            · cases hh
          cases e with
          | normal => exact fin (fun id e => by cases e) hh
          | exit id => simp at hh
          | ret => exact fin (fun id e => by cases e) hh
        · cases hh
      · cases hh
end
end Go.Abs
