/- Each operation of the model that the abstract machine reads does what the abstract one says. -/
import Derived.Test.YtfdpoliibpelaaaAbsSound7
set_option linter.unusedVariables false
set_option linter.unusedSimpArgs false
set_option linter.unnecessarySimpa false
namespace Go.Abs
open Go.RowKit (Below)

def Res (B : Nat) (h : List AObj) (ι : Em) (w : World) (T : Nat) (y : AV) (eff : Eff) (cv : Value) (w' : World) : Prop :=
  match eff with
  | .none => w' = w ∧ VR h ι w y cv
  | .new o => o.ver = 1 ∧ ∃ sv, NewOK B h ι w o sv w' ∧ ((y = .row T 1 ∧ cv = sv) ∨ (y = .ptr T 1 0 0 ∧ PtrTo o sv 0 0 cv))
  | .upd t o' => ∃ sv, UpdOK B h ι w t o' sv w' ∧ ((y = .row t o'.ver ∧ cv = sv) ∨ VR h ι w y cv)

section
variable {P : Program} {B : Nat} {w0 w : World} {h : List AObj} {ι : Em}

def RunOK (P : Program) (B : Nat) (h : List AObj) (ι : Em) (w : World) (T : Nat) (a : Act) (o : Oper) (y : AV) (eff : Eff) : Prop :=
  ∃ cv w', ((execOp a.eval o).run P w = .ok (.value cv) w' ∨ ((execOp a.eval o).run P w = .ok .skip w' ∧ cv = undef)) ∧ Res B h ι w T y eff cv w'

theorem runOK_v {T : Nat} {a : Act} {o : Oper} {y : AV} {eff : Eff} {s : Sem Value} (hs : execOp a.eval o = (do pure (.value (← s)) : Sem Next)) {cv : Value} {w' : World} (hr : s.run P w = .ok cv w') (hres : Res B h ι w T y eff cv w') : RunOK P B h ι w T a o y eff :=
  ⟨cv, w', .inl (by rw [hs]; simp [hr]), hres⟩

theorem bind_some {α β : Type} {x : Option α} {f : α → Option β} {y : β} : (x >>= f) = some y ↔ ∃ a, x = some a ∧ f a = some y := by
  cases x <;> simp [bind, Option.bind]

theorem sizeA_info {t : TypeId} {n : Nat} (hs : sizeA P t = some n) : ∃ i, P.info? t = some i ∧ i.size = n := by simpa [sizeA] using hs

theorem run_equal_nil {t e : TypeId} (hd : P.underlying t = some (.slice e)) (w : World) (ad : Option Addr) (n c : Nat) : (Op.equal t (.slice ad n c) (.slice none 0 0)).run P w = .ok ad.isNone w := by
  show (Op.equalIn 10000 t (.slice ad n c) (.slice none 0 0)).run P w = _
  rw [show (10000 : Nat) = 9999 + 1 from rfl, Op.equalIn]
  simp only [Sem.run_bind, run_underlying hd, Result.andThen_ok]
  cases ad <;> rfl

theorem run_eqnil_slice {t e : TypeId} {op : BinOp} {neg b : Bool} {ad : Option Addr} {n c : Nat} (hd : P.underlying t = some (.slice e)) (hop : op = (if neg then .neq else .eql)) (hb : ad.isNone = b) (x z : Operand) :
    (do eqGuard op t x z (.slice ad n c) (.slice none 0 0); binOp op t (.slice ad n c) (.slice none 0 0) : Sem Value).run P w = .ok (.bool (if neg then !b else b)) w := by
  subst hb; subst hop
  have hg : ∀ (op : BinOp), (eqGuard op t x z (.slice ad n c) (.slice none 0 0)).run P w = .ok () w := fun op => by cases op <;> rfl
  have he := run_equal_nil (P := P) hd w ad n c
  rw [Sem.run_bind, hg, Result.andThen_ok]
  cases neg
  · show (do pure (.bool (← Op.equal t (.slice ad n c) (.slice none 0 0))) : Sem Value).run P w = _
    rw [Sem.run_bind, he]
    rfl
  · show (do pure (.bool (!(← Op.equal t (.slice ad n c) (.slice none 0 0)))) : Sem Value).run P w = _
    rw [Sem.run_bind, he]
    rfl

theorem nilA_view (hr : HRel B w0 h ι w) {x : AV} {v : Value} (hv : VR h ι w x v) {b : Bool} (hb : nilA h x = some b) : ∃ ad n c, v = .slice ad n c ∧ ad.isNone = b := by
  cases x
  case nil => cases hv; simp only [nilA, Option.some.injEq] at hb; subst hb; exact ⟨none, 0, 0, rfl, rfl⟩
  case ne => cases hv; simp only [nilA, Option.some.injEq] at hb; subst hb; exact ⟨_, _, _, rfl, rfl⟩
  case nl => cases hv; simp only [nilA, Option.some.injEq] at hb; subst hb; exact ⟨_, _, _, rfl, rfl⟩
  case p u =>
    cases u with
    | sl es =>
      cases es with
      | nil => simp [nilA] at hb
      | cons e es =>
        simp only [nilA, Option.some.injEq] at hb
        subst hb
        cases hv with | p _ _ hp => cases hp with | sl _ ad n c size u => exact ⟨some ad, n, c, rfl, rfl⟩
    | _ => simp [nilA] at hb
  case xf es =>
    cases es with
    | nil => simp [nilA] at hb
    | cons e es =>
      simp only [nilA, Option.some.injEq] at hb
      subst hb
      cases hv with | xf _ _ _ hp => cases hp with | sl _ ad n c size u => exact ⟨some ad, _, _, rfl, rfl⟩
  case row t ver =>
    simp only [nilA] at hb
    split at hb
    · rename_i o hgo
      split at hb
      · cases hb
      · rename_i hne
        simp only [Option.some.injEq] at hb
        subst hb
        obtain ⟨hot, hov⟩ := getRow_some hgo
        cases hv with
        | row _ _ _ ht hone hob =>
          have hvt := (hob o hot).2 hov
          rcases hr.objs t o hot with ⟨h0, _⟩ | ⟨hs, xs, ho, _⟩
          · exact absurd h0 (by have := getRow_live hgo; omega)
          · rcases ho.2 with ⟨_, h0⟩ | ⟨g, cap, cur, hv, _⟩
            · exact absurd (List.isEmpty_iff.2 (List.eq_nil_of_length_eq_zero h0)) hne
            · exact ⟨_, _, _, by rw [hvt, hv], rfl⟩
    · cases hb
  case sl t ver lo len ex =>
    simp only [nilA] at hb
    split at hb
    · rename_i o hgo
      simp only [Option.some.injEq] at hb
      subst hb
      obtain ⟨hot, hov⟩ := getRow_some hgo
      cases hv with
      | sl _ _ _ _ _ _ ht hone hob =>
        obtain ⟨g, N, C, c, hsv, hv, _⟩ := (hob o hot).2 hov
        exact ⟨_, _, _, hv, rfl⟩
    · cases hb
  all_goals simp [nilA] at hb

section
variable {slots : List AV} {a : Act} (hsl : ∀ (i : Nat) (x : AV) (v : Value), slots[i]? = some x → a.tmps[i]? = some v → VR h ι w x v) (hl : a.tmps.size = slots.length)
include hsl hl

theorem parts_rel : ∀ {ps : List (Nat × Operand)} {fs : Array Field} {qs : List (Nat × Nat × AOpd)}, compParts P fs ps = some qs →
    ps.length = qs.length ∧ (∀ f ∈ ps, ∃ g, fs[f.1]? = some g) ∧ ∀ (k : Nat) (p : Nat × Value) (q : Nat × Nat × AV), (ps.map fun p => (p.1, a.eval p.2))[k]? = some p → (qs.map fun q => (q.1, q.2.1, q.2.2.eval slots))[k]? = some q →
      (∃ f, fs[p.1]? = some f ∧ q.1 = f.offset ∧ sizeA P f.type = some q.2.1) ∧ VR h ι w q.2.2 p.2
  | [], fs, qs, hc => by
    simp only [compParts, Option.some.injEq] at hc
    subst hc
    exact ⟨rfl, by simp, fun k p q hp => by simp at hp⟩
  | (i, x) :: ps, fs, qs, hc => by
    simp only [compParts] at hc
    split at hc
    · rename_i f y r hf hy hr
      split at hc
      · rename_i s hs
        obtain rfl := Option.some.inj hc
        obtain ⟨h1, h2, h3⟩ := parts_rel hr
        refine ⟨by simp [h1], fun g hg => ?_, fun k p q hp hq => ?_⟩
        · rcases List.mem_cons.1 hg with rfl | hg
          · exact ⟨f, hf⟩
          · exact h2 g hg
        · cases k with
          | zero =>
            simp at hp hq
            subst hp; subst hq
            exact ⟨⟨f, hf, rfl, hs⟩, opd_rel hsl hl hy⟩
          | succ k => exact h3 k p q (by simpa using hp) (by simpa using hq)
      · cases hc
    · cases hc

theorem partsA_rel {size : Nat} : ∀ {ps : List (Nat × Operand)} {qs : List (Nat × Nat × AOpd)}, compPartsA size ps = some qs →
    ps.length = qs.length ∧ ∀ (k : Nat) (p : Nat × Value) (q : Nat × Nat × AV), (ps.map fun p => (p.1, a.eval p.2))[k]? = some p → (qs.map fun q => (q.1, q.2.1, q.2.2.eval slots))[k]? = some q →
      (q.1 = p.1 * size ∧ q.2.1 = size) ∧ VR h ι w q.2.2 p.2
  | [], qs, hc => by
    simp only [compPartsA, Option.some.injEq] at hc
    subst hc
    exact ⟨rfl, fun k p q hp => by simp at hp⟩
  | (i, x) :: ps, qs, hc => by
    simp only [compPartsA] at hc
    split at hc
    · rename_i y r hy hr
      obtain rfl := Option.some.inj hc
      obtain ⟨h1, h3⟩ := partsA_rel hr
      refine ⟨by simp [h1], fun k p q hp hq => ?_⟩
      cases k with
      | zero =>
        simp at hp hq
        subst hp; subst hq
        exact ⟨⟨rfl, rfl⟩, opd_rel hsl hl hy⟩
      | succ k => exact h3 k p q (by simpa using hp) (by simpa using hq)
    · cases hc

theorem partsS_rel : ∀ {ps : List (Nat × Operand)} {qs : List (Nat × AOpd)}, compPartsS ps = some qs →
    ps.length = qs.length ∧ ∀ (k : Nat) (p : Nat × Value) (q : Nat × AV), (ps.map fun p => (p.1, a.eval p.2))[k]? = some p → (qs.map fun q => (q.1, q.2.eval slots))[k]? = some q →
      p.1 = q.1 ∧ VR h ι w q.2 p.2
  | [], qs, hc => by
    simp only [compPartsS, Option.some.injEq] at hc
    subst hc
    exact ⟨rfl, fun k p q hp => by simp at hp⟩
  | (i, x) :: ps, qs, hc => by
    simp only [compPartsS] at hc
    split at hc
    · rename_i y r hy hr
      obtain rfl := Option.some.inj hc
      obtain ⟨h1, h3⟩ := partsS_rel hr
      refine ⟨by simp [h1], fun k p q hp hq => ?_⟩
      cases k with
      | zero =>
        simp at hp hq
        subst hp; subst hq
        exact ⟨rfl, opd_rel hsl hl hy⟩
      | succ k => exact h3 k p q (by simpa using hp) (by simpa using hq)
    · cases hc

theorem optO_rel {x : Option Operand} {y : Option AOpd} (hc : optO x = some y) : OptR h ι w (·.eval slots) y (x.map a.eval) := by
  cases x with
  | none =>
    simp only [optO, Option.some.injEq] at hc
    subst hc
    trivial
  | some x =>
    simp only [optO, Option.map_eq_some_iff] at hc
    obtain ⟨z, hz, rfl⟩ := hc
    exact opd_rel hsl hl hz

theorem mapM_rel {xs : List Operand} {ys : List AOpd} (hc : xs.mapM opd = some ys) : (xs.map a.eval).length = (ys.map (·.eval slots)).length ∧ ∀ (i : Nat) (x : AV) (v : Value), (ys.map (·.eval slots))[i]? = some x → (xs.map a.eval)[i]? = some v → VR h ι w x v := by
  obtain ⟨h1, h2⟩ := mapM_get hc
  refine ⟨by simp [h1], fun i x v hx hv => ?_⟩
  rw [List.getElem?_map, Option.map_eq_some_iff] at hx hv
  obtain ⟨y, hy, rfl⟩ := hx
  obtain ⟨o, ho, rfl⟩ := hv
  exact opd_rel hsl hl (h2 i o y ho hy)
end
end
end Go.Abs
