/- Rules for symbolic runs, a bit at a time. -/
import Derived.Test.YtfdpoliibpelaaaAbsExec
set_option linter.unusedVariables false
set_option linter.unusedSimpArgs false
namespace Go.Abs

/-- at most so many operations, none a call -/
def arunN : Nat → List AStep → St → Option (List AStep × St)
  | 0, ss, st => some (ss, st)
  | _ + 1, [], st => some ([], st)
  | n + 1, s :: rest, st =>
    match wantedA st.slots s.guard with
    | some false => arunN n rest ⟨setD st.slots s.dst .u, st.heap⟩
    | some true =>
      match s.op with
      | .op ao =>
        match aexec st.heap st.heap.length (AOpd.eval st.slots) ao with
        | some (y, eff) => arunN n rest ⟨setD st.slots s.dst y, effH st.heap eff⟩
        | none => none
      | _ => none
    | none => none

theorem ASteps.runN {P : Program} : ∀ {n : Nat} {ss rest : List AStep} {st st1 st' : St}, arunN n ss st = some (rest, st1) → ASteps P rest st1 st' → ASteps P ss st st'
  | 0, ss, rest, st, st1, st', h, hr => by
    simp only [arunN, Option.some.injEq, Prod.mk.injEq] at h
    obtain ⟨rfl, rfl⟩ := h
    exact hr
  | n + 1, [], rest, st, st1, st', h, hr => by
    simp only [arunN, Option.some.injEq, Prod.mk.injEq] at h
    obtain ⟨rfl, rfl⟩ := h
    exact hr
  | n + 1, s :: ss, rest, st, st1, st', h, hr => by
    simp only [arunN] at h
    split at h
    · rename_i hw
      exact .skip _ _ _ _ hw (ASteps.runN h hr)
    · rename_i hw
      split at h
      · rename_i ao ho
        split at h
        · rename_i y eff he
          exact .op _ ao _ _ y eff _ ho hw he (ASteps.runN h hr)
        · cases h
      · cases h
    · cases h

/-- operations of a region, in the order of the text, come to Φ -/
def SE (P : Program) (ss : List AStep) (st : St) (Φ : St → Prop) : Prop := ∃ st', ASteps P ss st st' ∧ Φ st'

section
variable {P : Program} {ss rest : List AStep} {st st1 : St} {Φ : St → Prop}

theorem SE.nil (h : Φ st) : SE P [] st Φ := ⟨st, .nil _, h⟩
theorem SE.run (n : Nat) (h : arunN n ss st = some (rest, st1)) (hr : SE P rest st1 Φ) : SE P ss st Φ := by
  obtain ⟨st', h1, h2⟩ := hr
  exact ⟨st', .runN h h1, h2⟩
theorem SE.op {s : AStep} (hss : ss = s :: rest) {ao : AOp} {y : AV} {eff : Eff} (ho : s.op = .op ao) (hw : wantedA st.slots s.guard = some true) (he : aexec st.heap st.heap.length (AOpd.eval st.slots) ao = some (y, eff))
    (hst : (⟨setD st.slots s.dst y, effH st.heap eff⟩ : St) = st1) (hr : SE P rest st1 Φ) : SE P ss st Φ := by
  subst hss; subst hst
  obtain ⟨st', h1, h2⟩ := hr
  exact ⟨st', .op _ ao _ _ y eff _ ho hw he h1, h2⟩
theorem SE.call {s : AStep} (hss : ss = s :: rest) {f : FuncId} {args : List AOpd} (mode : Bool) {pas : List PA} {rs : List RA} (ho : s.op = .call f args) (hw : wantedA st.slots s.guard = some true)
    (hp : argsOf st.heap mode (args.map (AOpd.eval st.slots)) = some pas) (hs : Spec P f pas rs) (hm : (mode || flatRs rs) = true) (hst : (⟨setD st.slots s.dst (retV (rasVal st.heap.length rs)), st.heap ++ rasObj rs⟩ : St) = st1) (hr : SE P rest st1 Φ) : SE P ss st Φ := by
  subst hss; subst hst
  obtain ⟨st', h1, h2⟩ := hr
  exact ⟨st', .call _ f args mode pas rs _ _ _ ho hw hp hs (by simpa using hm) h1, h2⟩
theorem SE.inl {s : AStep} (hss : ss = s :: rest) {f : FuncId} {args : List AOpd} {y : AV} {h' : List AObj} (ho : s.op = .call f args) (hw : wantedA st.slots s.guard = some true)
    (hs : ACall P f (args.map (AOpd.eval st.slots)) st.heap y h') (hst : (⟨setD st.slots s.dst y, h'⟩ : St) = st1) (hr : SE P rest st1 Φ) : SE P ss st Φ := by
  subst hss; subst hst
  obtain ⟨st', h1, h2⟩ := hr
  exact ⟨st', .inl _ f args y h' _ _ _ ho hw hs h1, h2⟩

theorem AW.regE {n : Nat} {Q : Exit → St → Prop} (h : SE P ss st (fun s => Q .normal s)) : AW P n (.reg none ss) Q st := by
  obtain ⟨st', h1, h2⟩ := h
  exact .reg h1 h2
end

/- regions whose order is drawn -/
def evI (p : AStep × Ev) : List Nat × List Nat := (p.2.wr.map (·.1), p.2.tau)

def ordT (pre : List Nat) (ss : List AStep) (L : List (List Nat × List Nat)) : Bool :=
  (L.all fun p => p.1.all fun q => p.2.contains q) &&
  (List.range ss.length).all fun i => (List.range ss.length).all fun k => i == k || match ss[i]?, ss[k]?, L[i]?, L[k]? with
    | some s, some s', some p, some q =>
      (match s'.dst with | some d => !(s.dst == some d) && (!(s.reads.contains d) || ordP pre i k) | none => true) &&
      ((q.1.all fun x => !(p.2.contains x)) || ordP pre i k)
    | _, _, _, _ => false

theorem ordT_ok {pre : List Nat} {ss : List AStep} {L : List (AStep × Ev)} (hL : L.map (·.1) = ss) (h : ordT pre ss (L.map evI) = true) : ordOK pre L = true := by
  subst hL
  simp only [ordT, Bool.and_eq_true, List.all_eq_true, List.length_map] at h
  obtain ⟨h1, h2⟩ := h
  simp only [ordOK, Bool.and_eq_true, List.all_eq_true]
  refine ⟨fun p hp q hq => ?_, fun i hi k hk => ?_⟩
  · exact h1 (evI p) (List.mem_map.2 ⟨p, hp, rfl⟩) q.1 (List.mem_map.2 ⟨q, hq, rfl⟩)
  · have h3 := h2 i hi k hk
    have hi' := List.mem_range.1 hi
    have hk' := List.mem_range.1 hk
    simp only [List.getElem?_map, List.getElem?_eq_getElem hi', List.getElem?_eq_getElem hk', Option.map_some] at h3 ⊢
    simp [evI, List.all_map, Function.comp_def] at h3 ⊢
    exact h3

def DE (P : Program) (pre : List Nat) (all : List AStep) (done : List (List Nat × List Nat)) (ss : List AStep) (st : St) (Φ : St → Prop) : Prop :=
  ∃ L st', TraceS P L st st' ∧ L.map (·.1) = ss ∧ ordT pre all (done ++ L.map evI) = true ∧ Φ st'

section
variable {P : Program} {pre : List Nat} {all : List AStep} {done I : List (List Nat × List Nat)} {ss rest : List AStep} {st st1 : St} {Φ : St → Prop}

theorem DE.nil (ho : ordT pre all done = true) (h : Φ st) : DE P pre all done [] st Φ := ⟨[], st, .nil _, rfl, by simpa using ho, h⟩

theorem DE.step {s : AStep} {y : AV} {wr : List (Nat × AObj)} {tau : List Nat} {h1 : List AObj} (hs : StepS P s tau st y wr h1) (hr : DE P pre all (done ++ [(wr.map (·.1), tau)]) rest ⟨setD st.slots s.dst y, h1⟩ Φ) : DE P pre all done (s :: rest) st Φ := by
  obtain ⟨L, st', a, b, c, d⟩ := hr
  refine ⟨_, st', .cons s y wr tau h1 L st st' hs a, by rw [List.map_cons, b], ?_, d⟩
  rw [List.append_assoc] at c
  exact c

theorem DE.call {s : AStep} (hss : ss = s :: rest) {i : List Nat × List Nat} {f : FuncId} {args : List AOpd} (mode : Bool) (tau : List Nat) {pas : List PA} {rs : List RA} (ho : s.op = .call f args) (hw : wantedA st.slots s.guard = some true)
    (hp : argsOf (maskH tau 0 st.heap) mode (args.map (AOpd.eval st.slots)) = some pas) (hs : Spec P f pas rs) (hm : (mode || flatRs rs) = true) (hst : (⟨setD st.slots s.dst (retV (rasVal st.heap.length rs)), st.heap ++ rasObj rs⟩ : St) = st1)
    (hI : ((tagged st.heap.length (rasObj rs)).map (·.1), tau) = i) (hr : DE P pre all (done ++ [i]) rest st1 Φ) : DE P pre all done ss st Φ := by
  subst hss; subst hst; subst hI
  exact .step (.call f args mode pas rs ho hw hp hs (by simpa using hm)) hr

theorem AW.drawE {n : Nat} {Q : Exit → St → Prop} (h : DE P pre ss [] ss st (fun s => Q .normal s)) : AW P n (.reg (some pre) ss) Q st := by
  obtain ⟨L, st', h1, h2, h3, h4⟩ := h
  exact .drawS h1 h2 (ordT_ok h2 (by simpa using h3)) h4
end
end Go.Abs
