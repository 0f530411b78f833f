/- Builtin calls; all operations together. -/
import Derived.Test.YtfdpoliibpelaaaAbsSound10
set_option linter.unusedVariables false
set_option linter.unusedSimpArgs false
set_option linter.unnecessarySimpa false
set_option linter.unusedSectionVars false
namespace Go.Abs
open Go.RowKit (Below)

theorem list1 {α : Type} {xs : Array α} {x : α} (h : xs.toList = [x]) : xs = #[x] := by cases xs; simp_all
theorem list2 {α : Type} {xs : Array α} {x y : α} (h : xs.toList = [x, y]) : xs = #[x, y] := by cases xs; simp_all

section
variable {P : Program} {B : Nat} {w0 w : World} {h : List AObj} {ι : Em} {slots : List AV} {a : Act} {o : Oper} {ao : AOp} {T : Nat} {y : AV} {eff : Eff}
variable (hr : HRel B w0 h ι w) (hsl : ∀ (i : Nat) (x : AV) (v : Value), slots[i]? = some x → a.tmps[i]? = some v → VR h ι w x v) (hl : a.tmps.size = slots.length)
variable (hc : compOp P o = some ao) (he : aexec h T (AOpd.eval slots) ao = some (y, eff))
include hr hsl hl hc he

theorem snd_len {t : TypeId} {x : Operand} (hop : o.op = .call { callee := .builtin .len, args := #[x], argTypes := #[t] }) : RunOK P B h ι w T a o y eff := by
  simp only [compOp, hop] at hc
  obtain ⟨d, hd, hc⟩ := bind_some.1 hc
  have hx : execOp a.eval o = (do pure (.value (← Builtin.len_ #[t] o.type #[a.eval x])) : Sem Next) := by
    simp [execOp, hop, resolve, invoke, builtin]
  split at hc
  · obtain ⟨X, hX, rfl⟩ : ∃ X, opd x = some X ∧ AOp.len X = ao := by simpa [Option.bind_eq_some_iff] using hc
    have h1 := opd_rel hsl hl hX
    simp only [aexec] at he
    split at he
    · rename_i n hn
      simp only [Option.some.injEq, Prod.mk.injEq] at he
      obtain ⟨rfl, rfl⟩ := he
      have hval : ∃ ad c, a.eval x = .slice ad n c := by
        unfold lenA at hn
        generalize hev : a.eval x = v at h1
        generalize hxe : X.eval slots = xe at h1 hn
        split at hn
        · obtain rfl := Option.some.inj hn
          cases h1 with | p _ _ h1 =>
            cases h1 with
            | nil a c => exact ⟨_, _, rfl⟩
            | sl _ _ _ _ _ _ _ _ hn => exact ⟨_, _, by rw [hn]⟩
        · obtain rfl := Option.some.inj hn
          cases h1 with | xf _ _ _ h1 =>
            cases h1 with
            | nil => exact ⟨_, _, rfl⟩
            | sl _ _ _ _ _ _ _ _ hn => exact ⟨_, _, by rw [← hn]⟩
        · obtain rfl := Option.some.inj hn
          cases h1
          exact ⟨_, _, rfl⟩
        · obtain rfl := Option.some.inj hn
          cases h1
          exact ⟨_, _, rfl⟩
        · obtain rfl := Option.some.inj hn
          cases h1
          exact ⟨_, _, rfl⟩
        · obtain rfl := Option.some.inj hn
          cases h1
          exact ⟨_, _, rfl⟩
        · rename_i tg ver
          rw [Option.map_eq_some_iff] at hn
          obtain ⟨ob, hgo, rfl⟩ := hn
          obtain ⟨hot, hov⟩ := getRow_some hgo
          cases h1 with
          | row _ _ _ htl hone hob =>
            obtain rfl := (hob ob hot).2 hov
            obtain ⟨hs, xs, hown, _⟩ := row_view hr hot (getRow_live hgo)
            rcases hown.2 with ⟨hv, h0⟩ | ⟨g, cap, cur, hv, _⟩
            · exact ⟨none, 0, by rw [hv, h0]⟩
            · exact ⟨_, cap, hv⟩
        · rename_i tg ver lo len ex
          rw [Option.map_eq_some_iff] at hn
          obtain ⟨ob, hgo, rfl⟩ := hn
          obtain ⟨hot, hov⟩ := getRow_some hgo
          cases h1 with
          | sl _ _ _ _ _ _ htl hone hob =>
            obtain ⟨g, N, C, c2, hsv, rfl, _⟩ := (hob ob hot).2 hov
            exact ⟨_, _, rfl⟩
        · cases hn
      obtain ⟨ad, c, hv⟩ := hval
      exact runOK_v hx (cv := .int .i64 n) (w' := w) (by simp [Builtin.len_, run_underlying hd, hv, goInt]) ⟨rfl, .p _ _ (.int _ _)⟩
    · cases he
  · obtain ⟨X, hX, rfl⟩ : ∃ X, opd x = some X ∧ AOp.lens X = ao := by simpa [Option.bind_eq_some_iff] using hc
    have h1 := opd_rel hsl hl hX
    simp only [aexec] at he
    split at he
    · rename_i s hs
      simp only [Option.some.injEq, Prod.mk.injEq] at he
      obtain ⟨rfl, rfl⟩ := he
      rw [hs] at h1
      generalize hev : a.eval x = v at h1 hx
      cases h1 with | p _ _ h1 =>
        cases h1
        have hsz : (ByteArray.mk s.toArray).size = s.length := by simp [ByteArray.size]
        exact runOK_v hx (cv := .int .i64 s.length) (w' := w) (by simp only [Builtin.len_, List.getElem?_toArray, List.getElem?_cons_zero, Sem.run_bind, run_underlying hd, Result.andThen_ok, goInt, hsz, Sem.run_pure]) ⟨rfl, .p _ _ (.int _ _)⟩
    · cases he
  · rename_i n e
    obtain rfl := Option.some.inj hc
    simp only [aexec, AOpd.eval, Option.some.injEq, Prod.mk.injEq] at he
    obtain ⟨rfl, rfl⟩ := he
    exact runOK_v hx (cv := .int .i64 n) (w' := w) (by simp [Builtin.len_, run_underlying hd, goInt]) ⟨rfl, .p _ _ (.int _ _)⟩
  · cases hc

theorem snd_append {t t' : TypeId} {s x : Operand} (hop : o.op = .call { callee := .builtin .append, args := #[s, x], argTypes := #[t, t'] }) : RunOK P B h ι w T a o y eff := by
  simp only [compOp, hop] at hc
  split at hc
  · cases hc
  · rename_i htt
    have htt : t = t' := by simpa using htt
    subst htt
    obtain ⟨d, hd, hc⟩ := bind_some.1 hc
    split at hc
    · rename_i e
      obtain ⟨z, hz, hc⟩ := bind_some.1 hc
      obtain ⟨zc, hzc, hc⟩ := bind_some.1 hc
      obtain ⟨n, hn, hc⟩ := bind_some.1 hc
      split at hc
      · cases hc
      · rename_i hzl
        have hzl : zc.length = n := by simpa using hzl
        obtain ⟨nb, hnb, S, hS, X, hX, rfl⟩ : ∃ nb, bytesA P e = some nb ∧ ∃ S, opd s = some S ∧ ∃ X, opd x = some X ∧ AOp.append e n nb S X = ao := by simpa [Option.bind_eq_some_iff] using hc
        obtain ⟨i, zv, hi, hzv, hcr, hvr, _⟩ := zero_cells (h := h) (ι := ι) (w := w) hz hzc
        obtain ⟨i2, hi2, hs2⟩ := sizeA_info hn
        rw [hi] at hi2
        obtain rfl := Option.some.inj hi2
        have hb2 : i.bytes = nb := by simpa [bytesA, hi] using hnb
        have hx : execOp a.eval o = (do pure (.value (← Builtin.append_ #[t, t] o.type #[a.eval s, a.eval x])) : Sem Next) := by
          simp [execOp, hop, resolve, invoke, builtin]
        simp only [aexec] at he
        split at he
        · rename_i es hes
          split at he
          · rename_i hpos
            obtain ⟨sv, w', hrun, hres⟩ := run_appendA (P := P) (ty := o.type) hr hd hi hzv hs2 hb2 (by rw [hcr.1, hzl]) hpos (opd_rel hsl hl hS) (opd_rel hsl hl hX) hes he
            rcases hres with ⟨rfl, rfl, hv⟩ | ⟨ob, rfl, h1, rfl, hok⟩ | ⟨tg, o', rfl, rfl, hok⟩
            · exact runOK_v hx hrun ⟨rfl, hv⟩
            · exact runOK_v hx hrun ⟨h1, sv, hok, .inl ⟨rfl, rfl⟩⟩
            · exact runOK_v hx hrun ⟨sv, hok, .inl ⟨rfl, rfl⟩⟩
          · cases he
        · cases he
    · cases hc

theorem snd_copy {t t' : TypeId} {d s : Operand} (hop : o.op = .call { callee := .builtin .copy, args := #[d, s], argTypes := #[t, t'] }) : RunOK P B h ι w T a o y eff := by
  simp only [compOp, hop] at hc
  obtain ⟨dt, hd, hc⟩ := bind_some.1 hc
  obtain ⟨dt', hd', hc⟩ := bind_some.1 hc
  split at hc
  · rename_i e _ _
    obtain ⟨n, hn, D, hD, S, hS, rfl⟩ : ∃ n, sizeA P e = some n ∧ ∃ D, opd d = some D ∧ ∃ S, opd s = some S ∧ AOp.copy n D S = ao := by simpa [Option.bind_eq_some_iff] using hc
    obtain ⟨i, hi, hs⟩ := sizeA_info hn
    have hx : execOp a.eval o = (do pure (.value (← Builtin.copy_ #[t, t'] o.type #[a.eval d, a.eval s])) : Sem Next) := by
      simp [execOp, hop, resolve, invoke, builtin]
    simp only [aexec] at he
    split at he
    · rename_i es hes
      obtain ⟨k, rfl, w', hrun, hres⟩ := run_copyA (P := P) (ty := o.type) (sT := t') hr hd hi hs (opd_rel hsl hl hD) (opd_rel hsl hl hS) hes he
      rcases hres with ⟨rfl, rfl⟩ | ⟨tg, o', rfl, hok⟩
      · exact runOK_v hx hrun ⟨rfl, .p _ _ (.int _ _)⟩
      · exact runOK_v hx hrun ⟨_, hok, .inr (.p _ _ (.int _ _))⟩
    · cases he
  · cases hc

theorem snd_mm {b : Builtin} {mx : Bool} (hb : b = if mx then .max else .min) {ts : Array TypeId} {x z : Operand} (hop : o.op = .call { callee := .builtin b, args := #[x, z], argTypes := ts }) : RunOK P B h ι w T a o y eff := by
  obtain ⟨X, hX, Z, hZ, rfl⟩ : ∃ X, opd x = some X ∧ ∃ Z, opd z = some Z ∧ AOp.mm mx X Z = ao := by
    cases mx <;> simp only [hb] at hop <;> simp only [compOp, hop] at hc <;> simpa [Option.bind_eq_some_iff] using hc
  have h1 := opd_rel hsl hl hX
  have h2 := opd_rel hsl hl hZ
  simp only [aexec] at he
  split at he
  · rename_i k m k' n hm hn
    simp only [Option.some.injEq, Prod.mk.injEq] at he
    obtain ⟨rfl, rfl⟩ := he
    rw [hm] at h1
    rw [hn] at h2
    generalize hv1 : a.eval x = v1 at h1
    generalize hv2 : a.eval z = v2 at h2
    cases h1 with | p _ _ h1 => cases h2 with | p _ _ h2 =>
      cases h1; cases h2
      cases mx
      · simp only [Bool.false_eq_true, if_false] at hb
        subst hb
        exact runOK_v (s := Builtin.min_ ts o.type #[.int k m, .int k' n]) (by simp [execOp, hop, resolve, invoke, builtin, hv1, hv2]) (run_min_int2 w ts o.type k k' m n) ⟨rfl, .p _ _ (.int _ _)⟩
      · simp only [if_true] at hb
        subst hb
        exact runOK_v (s := Builtin.max_ ts o.type #[.int k m, .int k' n]) (by simp [execOp, hop, resolve, invoke, builtin, hv1, hv2]) (run_max_int2 w ts o.type k k' m n) ⟨rfl, .p _ _ (.int _ _)⟩
  · cases he

theorem op_sound : RunOK P B h ι w T a o y eff := by
  cases hop : o.op
  case move x => exact snd_move hr hsl hl hc he (.inl hop)
  case assign x => exact snd_move hr hsl hl hc he (.inr hop)
  case pick c x z => exact snd_pick hr hsl hl hc he hop
  case alloc e => exact snd_alloc hr hsl hl hc he hop
  case box e x => exact snd_box hr hsl hl hc he hop
  case build t ps => exact snd_build hr hsl hl hc he hop
  case buildSlice t n ps => exact snd_bslice hr hsl hl hc he hop
  case load t x => exact snd_load hr hsl hl hc he hop
  case store t p x => exact snd_store hr hsl hl hc he hop
  case nilCheck x => exact snd_nil hr hsl hl hc he hop
  case binOp op t x z t' => exact snd_bin hr hsl hl hc he hop
  case unOp op t x => exact snd_un hr hsl hl hc he hop
  case convert s d x => exact snd_convert hr hsl hl hc he hop
  case makeSlice t l c => exact snd_mksl hr hsl hl hc he hop
  case slice t x lo hi mx => exact snd_slice hr hsl hl hc he hop
  case fieldAddr t x f => exact snd_fieldAddr hr hsl hl hc he hop
  case field t x f => exact snd_field hr hsl hl hc he hop
  case indexAddr t x i => exact snd_indexAddr hr hsl hl hc he hop
  case index t x i => exact snd_index hr hsl hl hc he hop
  case extract x i => exact snd_extract hr hsl hl hc he hop
  case makeFunc fn first caps => exact snd_mkfn hr hsl hl hc he hop
  case call c =>
    obtain ⟨callee, args, argTypes⟩ := c
    cases callee
    case value f => simp [compOp, hop] at hc
    case invoke => simp [compOp, hop] at hc
    case builtin b =>
      cases b
      case len =>
        simp only [compOp, hop] at hc
        split at hc
        · rename_i t x ht hx
          obtain rfl := list1 ht
          obtain rfl := list1 hx
          exact snd_len hr hsl hl (by simp only [compOp, hop]; exact hc) he hop
        · cases hc
      case append =>
        simp only [compOp, hop] at hc
        split at hc
        · rename_i t t' s x ht hx
          obtain rfl := list2 ht
          obtain rfl := list2 hx
          exact snd_append hr hsl hl (by simp only [compOp, hop]; exact hc) he hop
        · cases hc
      case copy =>
        simp only [compOp, hop] at hc
        split at hc
        · rename_i t t' s x ht hx
          obtain rfl := list2 ht
          obtain rfl := list2 hx
          exact snd_copy hr hsl hl (by simp only [compOp, hop]; exact hc) he hop
        · cases hc
      case max =>
        simp only [compOp, hop] at hc
        split at hc
        · rename_i x z hx
          obtain rfl := list2 hx
          exact snd_mm hr hsl hl (by simp only [compOp, hop]; exact hc) he (mx := true) rfl hop
        · cases hc
      case min =>
        simp only [compOp, hop] at hc
        split at hc
        · rename_i x z hx
          obtain rfl := list2 hx
          exact snd_mm hr hsl hl (by simp only [compOp, hop]; exact hc) he (mx := false) rfl hop
        · cases hc
      all_goals simp [compOp, hop] at hc
  all_goals simp [compOp, hop] at hc
end
end Go.Abs
