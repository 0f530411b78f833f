/- Each operation of the model that the abstract machine reads does what the abstract one says: one by one. -/
import Derived.Test.YtfdpoliibpelaaaAbsSound8
set_option linter.unusedVariables false
set_option linter.unusedSimpArgs false
set_option linter.unnecessarySimpa false
set_option linter.unusedSectionVars false
namespace Go.Abs
open Go.RowKit (Below)
section
variable {P : Program} {B : Nat} {w0 w : World} {h : List AObj} {ι : Em} {slots : List AV} {a : Act} {o : Oper} {ao : AOp} {T : Nat} {y : AV} {eff : Eff}
variable (hr : HRel B w0 h ι w) (hsl : ∀ (i : Nat) (x : AV) (v : Value), slots[i]? = some x → a.tmps[i]? = some v → VR h ι w x v) (hl : a.tmps.size = slots.length)
variable (hc : compOp P o = some ao) (he : aexec h T (AOpd.eval slots) ao = some (y, eff))
include hr hsl hl hc he

theorem snd_move {x : Operand} (hop : o.op = .move x ∨ o.op = .assign x) : RunOK P B h ι w T a o y eff := by
  have hc' : (do return .mv (← opd x) : Option AOp) = some ao := by rcases hop with hop | hop <;> simpa only [compOp, hop] using hc
  obtain ⟨X, hX, rfl⟩ : ∃ X, opd x = some X ∧ AOp.mv X = ao := by simpa [Option.bind_eq_some_iff] using hc'
  simp only [aexec, Option.some.injEq, Prod.mk.injEq] at he
  obtain ⟨rfl, rfl⟩ := he
  exact ⟨a.eval x, w, .inl (by rcases hop with hop | hop <;> simp [execOp, hop]), rfl, opd_rel hsl hl hX⟩

theorem snd_pick {c x z : Operand} (hop : o.op = .pick c x z) : RunOK P B h ι w T a o y eff := by
  simp only [compOp, hop] at hc
  obtain ⟨C, hC, X, hX, Z, hZ, rfl⟩ : ∃ C, opd c = some C ∧ ∃ X, opd x = some X ∧ ∃ Z, opd z = some Z ∧ AOp.pick C X Z = ao := by simpa [Option.bind_eq_some_iff] using hc
  simp only [aexec] at he
  split at he
  · rename_i b hb
    simp only [Option.some.injEq, Prod.mk.injEq] at he
    obtain ⟨rfl, rfl⟩ := he
    have h1 := opd_rel hsl hl hC
    rw [hb] at h1
    generalize hv : a.eval c = cv at h1
    cases h1 with
    | p _ _ h1 =>
      cases h1
      refine ⟨if b then a.eval x else a.eval z, w, .inl (by simp [execOp, hop, hv, asBool]), rfl, ?_⟩
      cases b
      · exact opd_rel hsl hl hZ
      · exact opd_rel hsl hl hX
  · cases he

theorem snd_box_core {e n : Nat} {x : AOpd} {v : Value} (hao : ao = .box e n x) (hv : VR h ι w (x.eval slots) v) (hx : execOp a.eval o = (do pure (.value (← (do pure (.pointer (some (← newVar e v))) : Sem Value))) : Sem Next)) : RunOK P B h ι w T a o y eff := by
  subst hao
  simp only [aexec] at he
  split at he
  · rename_i cs hcs
    split at he
    · rename_i hcond
      simp only [Option.some.injEq, Prod.mk.injEq] at he
      obtain ⟨rfl, rfl⟩ := he
      refine runOK_v hx (cv := .pointer (some ⟨w.heap.size, 0, none⟩)) (w' := w.alloc (.cells v.cells e)) (by simp [newVar, newRow]) ⟨rfl, _, run_box (e := e) hr hv hcs hcond.1 hcond.2, .inr ⟨rfl, _, _, _, rfl, ?_, by simp⟩⟩
      simp
    · cases he
  · cases he

theorem snd_box {e : TypeId} {x : Operand} (hop : o.op = .box e x) : RunOK P B h ι w T a o y eff := by
  have hc0 := hc
  simp only [compOp, hop] at hc
  obtain ⟨n, hn, X, hX, rfl⟩ : ∃ n, sizeA P e = some n ∧ ∃ X, opd x = some X ∧ AOp.box e n X = ao := by simpa [Option.bind_eq_some_iff] using hc
  exact snd_box_core hr hsl hl hc0 he rfl (opd_rel hsl hl hX) (by simp only [execOp, hop, Instr.box])

theorem snd_alloc {e : TypeId} (hop : o.op = .alloc e) : RunOK P B h ι w T a o y eff := by
  simp only [compOp, hop] at hc
  obtain ⟨n, hn, z, hz, rfl⟩ : ∃ n, sizeA P e = some n ∧ ∃ z, zeroOf P e = some z ∧ AOp.box e n (.c z) = ao := by simpa [Option.bind_eq_some_iff] using hc
  simp only [aexec, AOpd.eval] at he
  split at he
  · rename_i cs hcs
    split at he
    · rename_i hcond
      simp only [Option.some.injEq, Prod.mk.injEq] at he
      obtain ⟨rfl, rfl⟩ := he
      obtain ⟨i, zv, hi, hzv, hcr, hvr, _⟩ := zero_cells (h := h) (ι := ι) (w := w) hz hcs
      refine runOK_v (s := Instr.alloc e true (.tuple #[])) (by simp only [execOp, hop]) (cv := .pointer (some ⟨w.heap.size, 0, none⟩)) (w' := w.alloc (.cells zv.cells e)) (by simp [Instr.alloc, newVar, newRow, run_zeroValue hi hzv]) ⟨rfl, _, run_box (e := e) hr hvr hcs hcond.1 hcond.2, .inr ⟨rfl, _, _, _, rfl, ?_, by simp⟩⟩
      simp
    · cases he
  · cases he

theorem snd_load {t : TypeId} {x : Operand} (hop : o.op = .load t x) : RunOK P B h ι w T a o y eff := by
  simp only [compOp, hop] at hc
  obtain ⟨m, hm, X, hX, rfl⟩ : ∃ m, aggSize P t = some m ∧ ∃ X, opd x = some X ∧ AOp.load m X = ao := by simpa [Option.bind_eq_some_iff] using hc
  obtain ⟨rfl, cv, hrun, hv⟩ := run_loadAt hr hm (opd_rel hsl hl hX) rfl he
  exact runOK_v (s := Instr.loadAt t (a.eval x)) (by simp only [execOp, hop]) hrun ⟨rfl, hv⟩

theorem snd_store {t : TypeId} {p x : Operand} (hop : o.op = .store t p x) : RunOK P B h ι w T a o y eff := by
  simp only [compOp, hop] at hc
  obtain ⟨n, hn, A, hA, X, hX, rfl⟩ : ∃ n, sizeA P t = some n ∧ ∃ A, opd p = some A ∧ ∃ X, opd x = some X ∧ AOp.store n A X = ao := by simpa [Option.bind_eq_some_iff] using hc
  obtain ⟨rfl, s, o', w', rfl, hrun, hupd⟩ := run_storeAt hr hn (opd_rel hsl hl hX) (opd_rel hsl hl hA) rfl rfl he
  exact ⟨undef, w', .inr ⟨by simp [execOp, hop, hrun], rfl⟩, _, hupd, .inr .u⟩

theorem snd_nil {x : Operand} (hop : o.op = .nilCheck x) : RunOK P B h ι w T a o y eff := by
  simp only [compOp, hop] at hc
  obtain ⟨X, hX, rfl⟩ : ∃ X, opd x = some X ∧ AOp.nilchk X = ao := by simpa [Option.bind_eq_some_iff] using hc
  have h1 := opd_rel hsl hl hX
  simp only [aexec] at he
  split at he
  · rename_i t ver i off hx
    split at he
    · rename_i o' hgo
      simp only [Option.some.injEq, Prod.mk.injEq] at he
      obtain ⟨rfl, rfl⟩ := he
      rw [hx] at h1
      obtain ⟨hot, hov⟩ := getRow_some hgo
      have h2 := h1
      cases h1 with
      | ptr _ _ _ _ _ ht hone hob =>
        obtain ⟨g, N, C, hsv, hv, hil⟩ := (hob o' hot).2 hov
        exact ⟨_, w, .inl (by simp [execOp, hop, hv]; rfl), rfl, by rw [← hv]; exact h2⟩
    · cases he
  · rename_i cs hx
    simp only [Option.some.injEq, Prod.mk.injEq] at he
    obtain ⟨rfl, rfl⟩ := he
    rw [hx] at h1
    generalize hv : a.eval x = v at h1
    have h2 := h1
    cases h1 with
    | fptr _ ad u _ _ _ _ => exact ⟨.pointer (some ad), w, .inl (by simp [execOp, hop, hv]), rfl, h2⟩
  · rename_i f cs hx
    simp only [Option.some.injEq, Prod.mk.injEq] at he
    obtain ⟨rfl, rfl⟩ := he
    rw [hx] at h1
    generalize hv : a.eval x = v at h1
    cases h1 with
    | fn _ _ vs h2 h3 => exact ⟨_, w, .inl (by simp [execOp, hop, hv]), rfl, .fn _ _ _ h2 h3⟩
  · cases he

theorem snd_un {op : UnOp} {t : TypeId} {x : Operand} (hop : o.op = .unOp op t x) : RunOK P B h ι w T a o y eff := by
  simp only [compOp, hop] at hc
  obtain ⟨X, hX, rfl⟩ : ∃ X, opd x = some X ∧ AOp.un op X = ao := by simpa [Option.bind_eq_some_iff] using hc
  have h1 := opd_rel hsl hl hX
  simp only [aexec] at he
  split at he
  · rename_i v hv
    simp only [Option.some.injEq, Prod.mk.injEq] at he
    obtain ⟨rfl, rfl⟩ := he
    generalize hev : a.eval x = cv at h1
    have hx : execOp a.eval o = (do pure (.value (← Op.unary op cv)) : Sem Next) := by simp only [execOp, hop, hev]
    unfold unA at hv
    split at hv
    · rename_i k n hx2
      rw [hx2] at h1
      cases h1 with | p _ _ h1 =>
        cases h1
        split at hv
        · obtain rfl := Option.some.inj hv
          exact runOK_v hx (by simp [Op.unary, Op.intArith]) ⟨rfl, .p _ _ (.int _ _)⟩
        · obtain rfl := Option.some.inj hv
          exact runOK_v hx (by simp only [Op.unary, intBits_xor, Sem.run_pure]) ⟨rfl, .p _ _ (.int _ _)⟩
        · cases hv
    · rename_i b hx2
      rw [hx2] at h1
      cases h1 with | p _ _ h1 =>
        cases h1
        split at hv
        · obtain rfl := Option.some.inj hv
          exact runOK_v hx (by simp [Op.unary]) ⟨rfl, .p _ _ (.bool _)⟩
        · cases hv
    · cases hv
  · cases he

theorem snd_convert {s d : TypeId} {x : Operand} (hop : o.op = .convert s d x) : RunOK P B h ι w T a o y eff := by
  simp only [compOp, hop] at hc
  obtain ⟨X, hX, hc⟩ := bind_some.1 hc
  obtain ⟨ds, hs, hc⟩ := bind_some.1 hc
  obtain ⟨dd, hd, hc⟩ := bind_some.1 hc
  have h1 := opd_rel hsl hl hX
  generalize hev : a.eval x = cv at h1
  have hx : execOp a.eval o = (do pure (.value (← convert s d cv)) : Sem Next) := by simp only [execOp, hop, hev]
  split at hc
  · rename_i k1 k
    simp only [pure, Option.some.injEq] at hc
    subst hc
    simp only [aexec] at he
    split at he
    · rename_i k2 n hn
      simp only [Option.some.injEq, Prod.mk.injEq] at he
      obtain ⟨rfl, rfl⟩ := he
      rw [hn] at h1
      cases h1 with | p _ _ h1 =>
        cases h1
        exact runOK_v hx (by simp [convert, run_underlying hs, run_underlying hd, Conv.intToInt]) ⟨rfl, .p _ _ (.int _ _)⟩
    · cases he
  · simp only [pure, Option.some.injEq] at hc
    subst hc
    simp only [aexec] at he
    split at he
    · rename_i n hn
      simp only [Option.some.injEq, Prod.mk.injEq] at he
      obtain ⟨rfl, rfl⟩ := he
      rw [hn] at h1
      cases h1 with | p _ _ h1 =>
        cases h1
        exact runOK_v hx (by simp [convert, run_underlying hs, run_underlying hd]) ⟨rfl, .p _ _ (.str _)⟩
    · cases he
  · cases hc

theorem snd_bin {op : BinOp} {t t' : TypeId} {x z : Operand} (hop : o.op = .binOp op t x z t') : RunOK P B h ι w T a o y eff := by
  simp only [compOp, hop] at hc
  obtain ⟨X, hX, hc⟩ := bind_some.1 hc
  obtain ⟨Z, hZ, hc⟩ := bind_some.1 hc
  have h1 := opd_rel hsl hl hX
  have h2 := opd_rel hsl hl hZ
  have plain : ao = .bin op X Z → RunOK P B h ι w T a o y eff := by
    rintro rfl
    simp only [aexec] at he
    split at he
    · rename_i v hv
      simp only [Option.some.injEq, Prod.mk.injEq] at he
      obtain ⟨rfl, rfl⟩ := he
      obtain ⟨cv, hrun, hvr⟩ := run_binA (P := P) (t := t) h1 h2 hv x z
      exact runOK_v (s := do eqGuard op t x z (a.eval x) (a.eval z); binOp op t (a.eval x) (a.eval z)) (by simp only [execOp, hop]) hrun ⟨rfl, hvr⟩
    · cases he
  have eq : ∀ neg : Bool, op = (if neg then .neq else .eql) → (∃ d, P.underlying t = some d ∧ (d = .bool ∧ ao = .beq neg X Z ∨ isAggD d = true ∧ P.eqGuardType P.depth t = false ∧ ∃ n ix, sizeA P t = some n ∧ eqCells P 100 t 0 = some ix ∧ ao = .eqagg neg n ix X Z)) → RunOK P B h ι w T a o y eff := by
    rintro neg hopn ⟨d, hd, ⟨rfl, rfl⟩ | ⟨hda, hg, n, ix, hn, hix, rfl⟩⟩
    · simp only [aexec] at he
      split at he
      · rename_i b1 b2 hb1 hb2
        simp only [Option.some.injEq, Prod.mk.injEq] at he
        obtain ⟨rfl, rfl⟩ := he
        rw [hb1] at h1
        rw [hb2] at h2
        generalize hv1 : a.eval x = v1 at h1
        generalize hv2 : a.eval z = v2 at h2
        cases h1 with | p _ _ h1 => cases h2 with | p _ _ h2 =>
          cases h1; cases h2
          refine runOK_v (s := do eqGuard op t x z (.bool b1) (.bool b2); binOp op t (.bool b1) (.bool b2)) (by simp only [execOp, hop, hv1, hv2]) (cv := .bool (if neg then !(b1 == b2) else b1 == b2)) (w' := w) ?_ ⟨rfl, .p _ _ (.bool _)⟩
          rw [eqGuard_at_bool, hopn]
          cases neg
          · simp [run_eql_bool w t b1 b2 hd]
          · simp [run_neq_bool w t b1 b2 hd]
      · cases he
    · simp only [aexec] at he
      split at he
      · rename_i xs ys hb1 hb2
        split at he
        · rename_i hlen
          split at he
          · rename_i r hr'
            simp only [Option.some.injEq, Prod.mk.injEq] at he
            obtain ⟨rfl, rfl⟩ := he
            rw [hb1] at h1
            rw [hb2] at h2
            have hrun := run_eqagg (P := P) h1 h2 hn hlen hix ⟨d, hd, hda⟩ hg hr' neg x z
            exact runOK_v (s := do eqGuard op t x z (a.eval x) (a.eval z); binOp op t (a.eval x) (a.eval z)) (by simp only [execOp, hop]) (by rw [hopn]; exact hrun) ⟨rfl, .p _ _ (.bool _)⟩
          · cases he
        · cases he
      · cases he
  have agg : ∀ neg : Bool, op = (if neg then .neq else .eql) → (op == .neq) = neg → (do
      match ← P.underlying t with
      | .int _ | .string => return .bin op X Z
      | .bool => return .beq (op == .neq) X Z
      | .slice _ => nilOp (op == .neq) X Z
      | .struct _ | .array _ _ => do
        if P.eqGuardType P.depth t then none else
        return .eqagg (op == .neq) (← sizeA P t) (← eqCells P 100 t 0) X Z
      | _ => none : Option AOp) = some ao → RunOK P B h ι w T a o y eff := by
    intro neg hopn hn hc
    obtain ⟨d, hd, hc⟩ := bind_some.1 hc
    have str : isAggD d = true → (do
        if P.eqGuardType P.depth t then none else
        return .eqagg (op == .neq) (← sizeA P t) (← eqCells P 100 t 0) X Z : Option AOp) = some ao → RunOK P B h ι w T a o y eff := by
      intro hda hc
      split at hc
      · cases hc
      · rename_i hg
        obtain ⟨n, hn', ix, hix, rfl⟩ : ∃ n, sizeA P t = some n ∧ ∃ ix, eqCells P 100 t 0 = some ix ∧ AOp.eqagg (op == .neq) n ix X Z = ao := by simpa [Option.bind_eq_some_iff] using hc
        exact eq neg hopn ⟨d, hd, .inr ⟨hda, by simpa using hg, n, ix, hn', hix, by rw [hn]⟩⟩
    split at hc
    · exact plain (Option.some.inj hc).symm
    · exact plain (Option.some.inj hc).symm
    · exact eq neg hopn ⟨_, hd, .inl ⟨rfl, by rw [← hn]; exact (Option.some.inj hc).symm⟩⟩
    · unfold nilOp at hc
      split at hc
      · obtain rfl := Option.some.inj hc
        simp only [aexec] at he
        split at he
        · rename_i b hb
          simp only [Option.some.injEq, Prod.mk.injEq] at he
          obtain ⟨rfl, rfl⟩ := he
          simp only [AOpd.eval] at h2
          generalize hv2 : a.eval z = v2 at h2
          cases h2 with
          | nil =>
            obtain ⟨ad, n, c, hv1, hnone⟩ := nilA_view hr h1 hb
            refine runOK_v (s := do eqGuard op t x z (.slice ad n c) (.slice none 0 0); binOp op t (.slice ad n c) (.slice none 0 0)) (by simp only [execOp, hop, hv1, hv2]) (cv := .bool (if neg then !b else b)) (w' := w) ?_ ⟨rfl, by rw [hn]; exact .p _ _ (.bool _)⟩
            exact run_eqnil_slice hd hopn hnone x z
        · cases he
      · cases hc
    · exact str rfl hc
    · exact str rfl hc
    · cases hc
  cases op
  case eql => exact agg false rfl rfl hc
  case neq => exact agg true rfl rfl hc
  all_goals exact plain (Option.some.inj hc).symm

theorem snd_extract {x : Operand} {i : Nat} (hop : o.op = .extract x i) : RunOK P B h ι w T a o y eff := by
  simp only [compOp, hop] at hc
  obtain ⟨X, hX, rfl⟩ : ∃ X, opd x = some X ∧ AOp.extract i X = ao := by simpa [Option.bind_eq_some_iff] using hc
  have h1 := opd_rel hsl hl hX
  simp only [aexec] at he
  split at he
  · rename_i vs hvs
    split at he
    · rename_i v hv
      simp only [Option.some.injEq, Prod.mk.injEq] at he
      obtain ⟨rfl, rfl⟩ := he
      rw [hvs] at h1
      generalize hev : a.eval x = cv at h1
      cases h1 with
      | tuple _ us h2 h3 =>
        have hlt : i < us.size := by rw [h2]; exact (List.getElem?_eq_some_iff.1 hv).1
        exact runOK_v (s := Instr.extract (.tuple us) i) (by simp only [execOp, hop, hev]) (by simp [Instr.extract, Array.getElem?_eq_getElem hlt]) ⟨rfl, h3 i _ _ hv (Array.getElem?_eq_getElem hlt)⟩
    · cases he
  · cases he
end
end Go.Abs
