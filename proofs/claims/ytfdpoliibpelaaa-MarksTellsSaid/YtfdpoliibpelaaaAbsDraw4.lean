/- Traces that grow the heap, and the rule. -/
import Derived.Test.YtfdpoliibpelaaaAbsDraw3
set_option linter.unusedVariables false
set_option linter.unusedSimpArgs false
set_option linter.unnecessarySimpa false
set_option linter.unusedSectionVars false
set_option linter.constructorNameAsVariable false
namespace Go.Abs

/-- one operation of a trace: its value, what it writes, the heap behind it -/
inductive StepS (P : Program) (s : AStep) (tau : List Nat) (st : St) : AV → List (Nat × AObj) → List AObj → Prop where
  | skip (hw : wantedA st.slots s.guard = some false) : StepS P s tau st .u [] st.heap
  | op (ao : AOp) (y : AV) (eff : Eff) (ho : s.op = .op ao) (hw : wantedA st.slots s.guard = some true) (he : aexec (maskH tau 0 st.heap) st.heap.length (AOpd.eval st.slots) ao = some (y, eff))
      (hu : ∀ t o, eff = .upd t o → t < st.heap.length) : StepS P s tau st y (effWr st.heap.length eff) (effH st.heap eff)
  | call (f : FuncId) (args : List AOpd) (mode : Bool) (pas : List PA) (rs : List RA) (ho : s.op = .call f args) (hw : wantedA st.slots s.guard = some true)
      (hp : argsOf (maskH tau 0 st.heap) mode (args.map (AOpd.eval st.slots)) = some pas) (hs : Spec P f pas rs) (hm : mode = true ∨ flatRs rs = true) :
      StepS P s tau st (retV (rasVal st.heap.length rs)) (tagged st.heap.length (rasObj rs)) (st.heap ++ rasObj rs)

inductive TraceS (P : Program) : List (AStep × Ev) → St → St → Prop where
  | nil (st : St) : TraceS P [] st st
  | cons (s : AStep) (y : AV) (wr : List (Nat × AObj)) (tau : List Nat) (h1 : List AObj) (r : List (AStep × Ev)) (st st' : St) (hs : StepS P s tau st y wr h1) (hr : TraceS P r ⟨setD st.slots s.dst y, h1⟩ st') :
      TraceS P ((s, ⟨y, st.heap.length, wr, tau⟩) :: r) st st'

theorem maskH_row' {tau : List Nat} {h : List AObj} {t ver : Nat} {o : AObj} (hc : tau.contains t = true) (hg : getRow h t ver = some o) : getRow (maskH tau 0 h) t ver = some o := by
  unfold getRow at hg ⊢
  rw [maskH_get]
  cases hh : h[t]? with
  | none => simp [hh] at hg
  | some p =>
    simp only [hh, Option.map_some, Nat.zero_add] at hg ⊢
    rw [if_pos hc]
    exact hg

theorem getRow_app {h k : List AObj} {t ver : Nat} {o : AObj} (hg : getRow h t ver = some o) : getRow (h ++ k) t ver = some o := by
  unfold getRow at hg ⊢
  cases hh : h[t]? with
  | none => simp [hh] at hg
  | some p =>
    rw [List.getElem?_append_left (List.getElem?_eq_some_iff.1 hh).1, hh]
    simpa [hh] using hg

theorem set_app_dead (h : List AObj) (n : Nat) (o : AObj) : (h ++ List.replicate (n + 1) deadO).set h.length o = (h ++ [o]) ++ List.replicate n deadO := by
  rw [List.set_append_right _ _ (Nat.le_refl _), Nat.sub_self, List.replicate_succ, List.set_cons_zero, List.append_assoc]
  rfl

theorem wrH_app_dead : ∀ (k h : List AObj) (n : Nat), wrH (h ++ List.replicate (k.length + n) deadO) (tagged h.length k) = (h ++ k) ++ List.replicate n deadO
  | [], h, n => by simp [tagged, wrH]
  | o :: k, h, n => by
    rw [tagged, wrH]
    have e : (o :: k).length + n = (k.length + n) + 1 := by simp; omega
    rw [e, set_app_dead]
    have := wrH_app_dead k (h ++ [o]) n
    rw [List.length_append, List.length_singleton] at this
    rw [this]
    simp

theorem StepS.len {P : Program} {s : AStep} {tau : List Nat} {st : St} {y : AV} {wr : List (Nat × AObj)} {h1 : List AObj} (h : StepS P s tau st y wr h1) : st.heap.length ≤ h1.length := by
  cases h with
  | skip => exact Nat.le_refl _
  | op ao y eff => cases eff <;> simp [effH]
  | call => simp

theorem TraceS.len {P : Program} {L : List (AStep × Ev)} {st st' : St} (h : TraceS P L st st') : st.heap.length ≤ st'.heap.length := by
  induction h with
  | nil => exact Nat.le_refl _
  | cons s y wr tau h1 r st st' hs hr ih => exact Nat.le_trans hs.len ih

theorem TraceS.pad {P : Program} {L : List (AStep × Ev)} {st st' : St} (h : TraceS P L st st') : TraceD P L ⟨st.slots, st.heap ++ List.replicate (st'.heap.length - st.heap.length) deadO⟩ st' := by
  induction h with
  | nil st => simp [TraceD]
  | cons s y wr tau h1 r st st' hs hr ih =>
    have hl1 := hs.len
    have hl2 := hr.len
    simp only at hl2
    refine ⟨?_, ?_⟩
    · simp only
      have hm : ∀ t ver o, getRow (maskH tau 0 st.heap) t ver = some o → getRow (maskH tau 0 (st.heap ++ List.replicate (st'.heap.length - st.heap.length) deadO)) t ver = some o := fun t ver o hg => by
        obtain ⟨a, b⟩ := maskH_row hg
        exact maskH_row' a (getRow_app b)
      have hdead : ∀ j, st.heap.length + j < h1.length → (st.heap ++ List.replicate (st'.heap.length - st.heap.length) deadO)[st.heap.length + j]? = some deadO := fun j hj => by
        rw [List.getElem?_append_right (by omega), List.getElem?_replicate, if_pos (by omega)]
      cases hs with
      | skip hw => exact .skip hw rfl rfl
      | op ao _ eff ho hw he hu => exact .op ao eff ho hw (aexec_mono hm he) rfl fun o ho => hdead 0 (by subst ho; simp [effH])
      | call f args mode pas rs ho hw hp hsp hmo => exact .call f args mode pas rs ho hw (argsOf_mono hm hp) hsp hmo rfl rfl fun j hj => hdead j (by simp; omega)
    · have e : ap ⟨st.slots, st.heap ++ List.replicate (st'.heap.length - st.heap.length) deadO⟩ s ⟨y, st.heap.length, wr, tau⟩ = ⟨setD st.slots s.dst y, h1 ++ List.replicate (st'.heap.length - h1.length) deadO⟩ := by
        simp only [ap, St.mk.injEq, true_and]
        cases hs with
        | skip hw => rfl
        | op ao _ eff ho hw he hu =>
          cases eff with
          | none => rfl
          | new o =>
            simp only [effH, List.length_append, List.length_singleton] at hl2 ⊢
            simp only [effWr, wrH]
            rw [show st'.heap.length - st.heap.length = (st'.heap.length - (st.heap.length + 1)) + 1 by omega, set_app_dead]
          | upd t o =>
            simp only [effH, effWr, wrH, List.length_set]
            rw [List.set_append_left _ _ (hu t o rfl)]
        | call f args mode pas rs ho hw hp hsp hmo =>
          simp only [List.length_append] at hl2 ⊢
          rw [show st'.heap.length - st.heap.length = (rasObj rs).length + (st'.heap.length - (st.heap.length + (rasObj rs).length)) by omega, wrH_app_dead]
      simp only
      rw [e]
      exact ih

theorem AW.drawS {P : Program} {n : Nat} {Q : Exit → St → Prop} {st : St} {pre : List Nat} {ss : List AStep} {L : List (AStep × Ev)} {st' : St} (htr : TraceS P L st st') (hL : L.map (·.1) = ss) (hord : ordOK pre L = true) (hq : Q .normal st') : AW P n (.reg (some pre) ss) Q st :=
  AW.draw hL hord htr.pad hq

/- what an operation touches -/
def AV.tag : AV → List Nat
  | .row t _ => [t]
  | .sl t _ _ _ _ => [t]
  | .ptr t _ _ _ => [t]
  | _ => []

def touch (ρ : AOpd → AV) : AOp → List Nat
  | .load _ x => (ρ x).tag
  | .store _ a _ => (ρ a).tag
  | .nilchk x => (ρ x).tag
  | .eqnil _ x => (ρ x).tag
  | .slice _ x _ _ _ => (ρ x).tag
  | .fld _ x => (ρ x).tag
  | .ixa _ x _ => (ρ x).tag
  | .ixarr _ _ x _ => (ρ x).tag
  | .len x => (ρ x).tag
  | .append _ _ _ s x => (ρ s).tag ++ (ρ x).tag
  | .copy _ d s => (ρ d).tag ++ (ρ s).tag
  | _ => []

/-- the tags that a value leads to -/
def reachV (h : List AObj) : Nat → AV → List Nat
  | 0, _ => []
  | n + 1, x =>
    match x with
    | .row t _ => t :: (match h[t]? with | some o => o.elems.flatMap fun e => e.flatMap (reachV h n) | none => [])
    | .sl t _ _ _ _ => t :: (match h[t]? with | some o => o.elems.flatMap fun e => e.flatMap (reachV h n) | none => [])
    | .agg cs => cs.flatMap (reachV h n)
    | _ => []
end Go.Abs
