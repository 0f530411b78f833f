/- Typed regions whose order is drawn. -/
import Derived.Test.YtfdpoliibpelaaaAbsTStep
set_option linter.unusedVariables false
set_option linter.unusedSimpArgs false
set_option linter.unusedSectionVars false
namespace Go.Abs

theorem erH_set (h : List TObj) (t : Nat) (o : TObj) : erH (h.set t o) = (erH h).set t o.er := by simp [erH, List.map_set]
def deadT : TObj := ⟨0, 0, 0, .lit []⟩
def tmask (tau : List Nat) : Nat → List TObj → List TObj
  | _, [] => []
  | i, o :: os => (if tau.contains i then o else deadT) :: tmask tau (i + 1) os
theorem tmask_er (tau : List Nat) : ∀ (i : Nat) (h : List TObj), erH (tmask tau i h) = maskH tau i (erH h)
  | _, [] => rfl
  | i, o :: os => by
    have ih := tmask_er tau (i + 1) os
    simp only [tmask, erH, List.map_cons, maskH] at ih ⊢
    rw [ih]
    congr 1
    split <;> rfl

/-- the tags that a value leads to -/
def treach (h : List TObj) : Nat → TV → List Nat
  | 0, _ => []
  | n + 1, x =>
    match x with
    | .row t _ => t :: (match h[t]? with | some o => (match o.el with | .lit es => es.flatMap fun e => e.flatMap (treach h n) | .sym _ _ => []) | none => [])
    | .sl t _ _ _ _ => t :: (match h[t]? with | some o => (match o.el with | .lit es => es.flatMap fun e => e.flatMap (treach h n) | .sym _ _ => []) | none => [])
    | .agg cs => cs.flatMap (treach h n)
    | _ => []

section
variable {R : Type} {r : R} {P : Program} {tab : Tab}

/-- one operation: what it writes, what it touches -/
def txstep (s : AStep) (tab : Tab) (st : TSt) (k : TSt → List Nat → List Nat → Option R) : Option R :=
  tguard st s.guard fun b st =>
    match b with
    | false => k ⟨tsetD st.slots s.dst (.raw .u), st.heap⟩ [] []
    | true =>
      match s.op with
      | .op ao =>
        let τ := touch (fun o => (o.tev st.slots).er) ao
        texecF (tmask τ 0) st ao fun st y e => match e with
          | .none => k ⟨tsetD st.slots s.dst y, st.heap⟩ [] τ
          | .new o => k ⟨tsetD st.slots s.dst y, st.heap ++ [o]⟩ [st.heap.length] (st.heap.length :: τ)
          | .upd t o => match decide (t < st.heap.length) with
            | true => k ⟨tsetD st.slots s.dst y, st.heap.set t o⟩ [t] τ
            | false => none
      | .call f args =>
        match tab f with
        | none => none
        | some c =>
          match argVs [] c.args (args.map (AOpd.tev st.slots)) with
          | some a => match c.fn a with
            | some rs => k ⟨tsetD st.slots s.dst (retT (valR st.heap.length c.res rs)), st.heap ++ objR c.res rs⟩ (List.range' st.heap.length (cntR c.res)) (List.range' st.heap.length (cntR c.res))
            | none => none
          | none =>
            let τ := (args.map (AOpd.tev st.slots)).flatMap (treach st.heap 6) ++ List.range' st.heap.length (cntR c.res)
            match argVs (tmask τ 0 st.heap) c.args (args.map (AOpd.tev st.slots)) with
            | some a => if c.res.all RT.plain then (match c.fn a with
              | some rs => k ⟨tsetD st.slots s.dst (retT (valR st.heap.length c.res rs)), st.heap ++ objR c.res rs⟩ (List.range' st.heap.length (cntR c.res)) τ
              | none => none) else none
            | none => none
      | .callv _ _ => none

theorem tagged_fst : ∀ (os : List AObj) (T : Nat), (tagged T os).map (·.1) = List.range' T os.length
  | [], _ => rfl
  | o :: os, T => by simp [tagged, tagged_fst os, List.range'_succ]

theorem txstep_s (ht : tab.ok P) {s : AStep} {st : TSt} {k : TSt → List Nat → List Nat → Option R} (h : txstep s tab st k = some r) :
    ∃ (y : AV) (wr : List (Nat × AObj)) (tau : List Nat) (h1 : List AObj) (st' : TSt), StepS P s tau st.er y wr h1 ∧ st'.er = ⟨setD st.er.slots s.dst y, h1⟩ ∧ k st' (wr.map (·.1)) tau = some r := by
  unfold txstep at h
  obtain ⟨b, st1, h1, h2, h3⟩ := tguard_s h
  cases b with
  | false =>
    refine ⟨.u, [], [], st.er.heap, _, .skip h1, ?_, h3⟩
    rw [← h2]
    simp [TSt.er, tsetD_er, TV.er]
  | true =>
    simp only at h3
    split at h3
    · rename_i ao ho
      obtain ⟨st2, y, eff, h4, h5, h6⟩ := texecF_s (mask' := maskH (touch (fun o => (o.tev st1.slots).er) ao) 0) (fun h => tmask_er _ _ h) h3
      have hlen : st2.heap.length = st1.heap.length := by
        have := congrArg List.length (er_inj h4).2
        simpa [erH_length] using this
      have e1 : erL st2.slots = st.er.slots := by rw [(er_inj h4).1]; rw [← h2]; rfl
      have e2 : erH st2.heap = st.er.heap := by rw [(er_inj h4).2]; rw [← h2]; rfl
      have e3 : st1.heap.length = st.er.heap.length := by rw [← h2]; exact (erH_length _).symm
      have h5' : aexec (maskH (touch (fun o => (o.tev st1.slots).er) ao) 0 st.er.heap) st.er.heap.length (AOpd.eval st.er.slots) ao = some (y.er, eff.er) := by
        rw [← h2]; exact h5
      cases eff with
      | none =>
        refine ⟨y.er, [], _, st.er.heap, ⟨tsetD st2.slots s.dst y, st2.heap⟩, .op ao _ .none ho h1 h5' (fun t o e => by cases e), ?_, ?_⟩
        · simp only [TSt.er, tsetD_er, e1, e2]
        · simpa using h6
      | new o =>
        refine ⟨y.er, [(st.er.heap.length, o.er)], st1.heap.length :: touch (fun o => (o.tev st1.slots).er) ao, st.er.heap ++ [o.er], ⟨tsetD st2.slots s.dst y, st2.heap ++ [o]⟩, .op ao _ (.new o.er) ho h1 (aexec_mono (maskH_sub fun t ht => by simp only [List.contains_iff_mem, List.mem_cons] at ht ⊢; exact .inr ht) h5') (fun t o e => by cases e), ?_, ?_⟩
        · simp only [TSt.er, tsetD_er, erH_app, e1, e2]
          rfl
        · simp only [List.map_cons, List.map_nil, ← e3]
          simpa [hlen] using h6
      | upd t o =>
        simp only at h6
        split at h6
        · rename_i hd
          refine ⟨y.er, [(t, o.er)], _, st.er.heap.set t o.er, ⟨tsetD st2.slots s.dst y, st2.heap.set t o⟩, .op ao _ (.upd t o.er) ho h1 h5' (fun t' o' e => by
            cases e
            rw [← e3, ← hlen]
            exact of_decide_eq_true hd), ?_, ?_⟩
          · have h7 : erH (st2.heap.set t o) = st.er.heap.set t o.er := by rw [erH_set, e2]
            have h8 : erL (tsetD st2.slots s.dst y) = setD st.er.slots s.dst y.er := by rw [tsetD_er, e1]
            show (⟨_, _⟩ : St) = _
            rw [h7, h8]
          · simp only [List.map_cons, List.map_nil]
            simpa [hlen] using h6
        · cases h6
    · rename_i f args ho
      have e1 : erL st1.slots = st.er.slots := by rw [← h2]; rfl
      have e2 : erH st1.heap = st.er.heap := by rw [← h2]; rfl
      split at h3
      · cases h3
      · rename_i c hc
        have post : ∀ rs : denRs c.res, (⟨tsetD st1.slots s.dst (retT (valR st1.heap.length c.res rs)), st1.heap ++ objR c.res rs⟩ : TSt).er = ⟨setD st.er.slots s.dst (retV (rasVal st.er.heap.length (raL c.res rs))), st.er.heap ++ rasObj (raL c.res rs)⟩ := fun rs => by
          simp only [TSt.er, tsetD_er, erH_app, e1, e2, retT_er, valR_er, (objR_er c.res rs).1]
          rw [← erH_length, e2]
          rfl
        have tg : ∀ rs : denRs c.res, (tagged st.er.heap.length (rasObj (raL c.res rs))).map (·.1) = List.range' st1.heap.length (cntR c.res) := fun rs => by
          rw [tagged_fst, ← (objR_er c.res rs).1, erH_length, (objR_er c.res rs).2, ← e2, erH_length]
        split at h3
        · rename_i a ha
          split at h3
          · rename_i rs hrs
            refine ⟨_, _, List.range' st1.heap.length (cntR c.res), _, _, .call f args true (pasL c.args a) (raL c.res rs) ho h1 ?_ (ht f c hc a rs hrs) (.inl rfl), post rs, by rw [tg]; exact h3⟩
            have := argVs_er (fun t x v hv => frz_nil (show frz [] [] 6 _ = _ from frzT_er (h := []) hv)) ha
            rw [args_er, e1] at this
            simp only [argsOf, if_true]
            exact this
          · cases h3
        · split at h3
          · rename_i a ha
            split at h3
            · rename_i hp
              split at h3
              · rename_i rs hrs
                refine ⟨_, _, _, _, _, .call f args false (pasL c.args a) (raL c.res rs) ho h1 ?_ (ht f c hc a rs hrs) (.inr (raL_flat hp rs)), post rs, by rw [tg]; exact h3⟩
                have := argVs_er (fun t x v hv => frzT_er hv) ha
                rw [args_er, e1, tmask_er, e2] at this
                simp only [argsOf, Bool.false_eq_true, if_false]
                exact this
              · cases h3
            · cases h3
          · cases h3
    · cases h3

def txsteps (tab : Tab) (fin : List (List Nat × List Nat) → Bool) : List AStep → List (List Nat × List Nat) → TSt → (TSt → Option R) → Option R
  | [], done, st, k => cond (fin done) (k st) none
  | s :: ss, done, st, k => txstep s tab st fun st wr tau => txsteps tab fin ss (done ++ [(wr, tau)]) st k

theorem txsteps_s (ht : tab.ok P) {pre : List Nat} {all : List AStep} : ∀ {ss : List AStep} {done : List (List Nat × List Nat)} {st : TSt} {k : TSt → Option R}, txsteps tab (ordT pre all) ss done st k = some r → DE P pre all done ss st.er (fun s => ∃ ts : TSt, s = ts.er ∧ k ts = some r)
  | [], done, st, k, h => by
    obtain ⟨h1, h2⟩ := cond_t h
    exact .nil h1 ⟨st, rfl, h2⟩
  | s :: ss, done, st, k, h => by
    simp only [txsteps] at h
    obtain ⟨y, wr, tau, h1, st', h2, h3, h4⟩ := txstep_s ht h
    refine .step h2 ?_
    rw [← h3]
    exact txsteps_s ht h4
end
end Go.Abs
