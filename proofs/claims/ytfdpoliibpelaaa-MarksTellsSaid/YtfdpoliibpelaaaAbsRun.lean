/- Running what needs no contract. -/
import Derived.Test.YtfdpoliibpelaaaAbsCtl5
set_option linter.unusedVariables false
namespace Go.Abs

/-- as far as the next call -/
def arun : List AStep → St → Option (List AStep × St)
  | [], st => some ([], st)
  | s :: rest, st =>
    match wantedA st.slots s.guard with
    | some false => arun rest ⟨setD st.slots s.dst .u, st.heap⟩
    | some true =>
      match s.op with
      | .op ao =>
        match aexec st.heap st.heap.length (AOpd.eval st.slots) ao with
        | some (y, eff) => arun rest ⟨setD st.slots s.dst y, effH st.heap eff⟩
        | none => none
      | _ => some (s :: rest, st)
    | none => none

theorem ASteps.run {P : Program} : ∀ {ss rest : List AStep} {st st1 st' : St}, arun ss st = some (rest, st1) → ASteps P rest st1 st' → ASteps P ss st st'
  | [], rest, st, st1, st', h, hr => by
    simp only [arun, Option.some.injEq, Prod.mk.injEq] at h
    obtain ⟨rfl, rfl⟩ := h
    exact hr
  | s :: ss, rest, st, st1, st', h, hr => by
    simp only [arun] at h
    split at h
    · rename_i hw
      exact .skip _ _ _ _ hw (ASteps.run h hr)
    · rename_i hw
      split at h
      · rename_i ao ho
        split at h
        · rename_i y eff he
          exact .op _ ao _ _ y eff _ ho hw he (ASteps.run h hr)
        · cases h
      · simp only [Option.some.injEq, Prod.mk.injEq] at h
        obtain ⟨rfl, rfl⟩ := h
        exact hr
    · cases h
end Go.Abs
