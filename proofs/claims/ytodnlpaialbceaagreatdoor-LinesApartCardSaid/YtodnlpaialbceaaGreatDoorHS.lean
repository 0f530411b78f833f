import Derived.Test.YtodnlpaialbceaaGreatDoorAbsB6
/- From contracts of the model to the machine's. -/
set_option linter.unusedVariables false
set_option linter.unusedSimpArgs false
set_option linter.unusedSectionVars false
namespace Go.Abs
open Go.RowKit (Below)
variable [Glob]
theorem Spec.still {P : Program} {f : FuncId} {pas : List PA} {y : PV} {v : Value} (hy : ∀ w O, PRel w O y v) (h : ∀ (O : Nat → Prop) (w : World) (cargs : Array Value), GlobOk w.heap.size w → PARels w O pas cargs → Calls P f cargs w fun e w' => e = .returned v ∧ Below w.heap.size w w') : Spec P f pas [.c (.c y)] := by
 intro O w cargs hO hgl hp
 refine (h O w cargs hgl hp).mono fun e w' he => ?_
 obtain ⟨rfl, hb⟩ := he
 refine ⟨v, ⟨fun _ => undef, O, 0, []⟩, rfl, rfl, ?_, .p _ _ (hy _ _)⟩
 exact ⟨hb, Nat.le_refl _, hO, hgl, fun t o ho => by simp [rasObj, raObj, rcObj] at ho, fun t t' g h1 => by simp [rasObj, raObj, rcObj] at h1⟩
theorem Spec.still2 {P : Program} {f : FuncId} {pas : List PA} {y z : PV} {v u : Value} (hy : ∀ w O, PRel w O y v) (hz : ∀ w O, PRel w O z u) (h : ∀ (O : Nat → Prop) (w : World) (cargs : Array Value), GlobOk w.heap.size w → PARels w O pas cargs → Calls P f cargs w fun e w' => e = .returned (.tuple #[v, u]) ∧ Below w.heap.size w w') : Spec P f pas [.c (.c y), .c (.c z)] := by
 intro O w cargs hO hgl hp
 refine (h O w cargs hgl hp).mono fun e w' he => ?_
 obtain ⟨rfl, hb⟩ := he
 refine ⟨_, ⟨fun _ => undef, O, 0, []⟩, rfl, rfl, ⟨hb, Nat.le_refl _, hO, hgl, fun t o ho => by simp [rasObj, raObj, rcObj] at ho, fun t t' g h1 => by simp [rasObj, raObj, rcObj] at h1⟩, ?_⟩
 refine .tuple _ _ rfl fun i x q hx hq => ?_
 match i, hx, hq with
 | 0, hx, hq =>
  simp [rasVal, raVal, rcVal] at hx hq
  subst hx; subst hq
  exact .p _ _ (hy _ _)
 | 1, hx, hq =>
  simp [rasVal, raVal, rcVal] at hx hq
  subst hx; subst hq
  exact .p _ _ (hz _ _)
 | i + 2, hx, hq => simp [rasVal] at hx
theorem Spec.errs {P : Program} {f : FuncId} {pas : List PA} {y : PV} {v : Value} (b : Bool) (hy : ∀ w O, PRel w O y v)
    (h : ∀ (O : Nat → Prop) (w : World) (cargs : Array Value), GlobOk w.heap.size w → PARels w O pas cargs → Calls P f cargs w fun e w' => ∃ iv, e = .returned (.tuple #[v, iv]) ∧ (match b with | true => ∃ t x, iv = .iface t x | false => iv = .nilIface) ∧ Below w.heap.size w w') :
    Spec P f pas [.c (.c y), .c (.e b)] := by
  intro O w cargs hO hgl hp
  refine (h O w cargs hgl hp).mono fun e w' he => ?_
  obtain ⟨iv, rfl, hi, hb⟩ := he
  refine ⟨_, ⟨fun _ => undef, O, 0, []⟩, rfl, rfl, ⟨hb, Nat.le_refl _, hO, hgl, fun t o ho => by simp [rasObj, raObj, rcObj] at ho, fun t t' g h1 => by simp [rasObj, raObj, rcObj] at h1⟩, ?_⟩
  refine .tuple _ _ rfl fun i x u hx hu => ?_
  match i, hx, hu with
  | 0, hx, hu =>
   simp [rasVal, raVal, rcVal] at hx hu
   subst hx; subst hu
   exact .p _ _ (hy _ _)
  | 1, hx, hu =>
   simp [rasVal, raVal, rcVal] at hx hu
   subst hx; subst hu
   cases b with
   | true =>
    obtain ⟨t, z, rfl⟩ := hi
    exact .if1 t z
   | false =>
    obtain rfl := hi
    exact .if0
  | i + 2, hx, hu => simp [rasVal] at hx
theorem Spec.row1 {P : Program} {f : FuncId} {pas : List PA} {e : TypeId} {α : Type} {l : List α} {pv : α → PV} {vv : α → Value} (hy : ∀ a w O, PRel w O (pv a) (vv a)) (h : ∀ (O : Nat → Prop) (w : World) (cargs : Array Value), GlobOk w.heap.size w → PARels w O pas cargs → Calls P f cargs w fun x w' => ∃ v, x = .returned v ∧ w'.ownsRow w.heap.size e 1 v l.length (l.map vv) ∧ Below w.heap.size w w') :
    Spec P f pas [.c (.s e 1 (l.map fun n => [pv n]))] := by
  intro O w cargs hO hgl hp
  refine (h O w cargs hgl hp).mono fun x w' he => ?_
  obtain ⟨v, rfl, hrow, hb⟩ := he
  have hone : v.oneCell' = true := by
   rcases hrow.2 with ⟨rfl, _⟩ | ⟨g, cap, cur, rfl, _⟩ <;> rfl
  have hobj : rasObj [.c (.s e 1 (l.map fun n => [pv n]))] = [⟨1, e, 1, l.map fun n => [AV.p (pv n)]⟩] := by
   simp [rasObj, raObj, rcObj]
  rw [hobj]
  refine ⟨v, ⟨fun _ => v, O, 0, []⟩, rfl, rfl, ⟨hb, Nat.le_refl _, hO, hgl, fun t o ho => ?_, fun t t' g h1 h2 _ _ => ?_⟩, ?_⟩
  · cases t with
    | zero =>
     simp only [List.getElem?_cons_zero, Option.some.injEq] at ho
     subst ho
     refine .inr ⟨Nat.zero_lt_one, l.map vv, by simpa using hrow, fun i c hc => ?_⟩
     simp only [List.getElem?_map, Option.map_eq_some_iff] at hc
     obtain ⟨n, hn, rfl⟩ := hc
     refine ⟨rfl, fun j y hj => ?_⟩
     cases j with
     | zero =>
      simp only [List.getElem?_cons_zero, Option.some.injEq] at hj
      subst hj
      exact ⟨vv n, by simp [hn], .p _ _ (hy _ _ _)⟩
     | succ j => simp at hj
    | succ t => simp at ho
  · simp at h1 h2
    omega
  · refine .row 0 1 v (by simp) hone fun o ho => ?_
    simp only [List.getElem?_cons_zero, Option.some.injEq] at ho
    subst ho
    exact ⟨Nat.le_refl _, fun _ => rfl⟩
theorem arg_1 {w : World} {O : Nat → Prop} {a : PV} {cargs : Array Value} (h : PARels w O [.c a] cargs) : ∃ u, cargs = #[u] ∧ PRel w O a u := by
 obtain ⟨h1, h2⟩ := h
 obtain ⟨l⟩ := cargs
 match l, h1 with
 | [u], _ =>
  have e1 := h2 0 _ u rfl rfl
  cases e1 with | c _ _ e1 => exact ⟨u, rfl, e1⟩
theorem arg_2 {w : World} {O : Nat → Prop} {a b : PV} {cargs : Array Value} (h : PARels w O [.c a, .c b] cargs) : ∃ u v, cargs = #[u, v] ∧ PRel w O a u ∧ PRel w O b v := by
 obtain ⟨h1, h2⟩ := h
 obtain ⟨l⟩ := cargs
 match l, h1 with
 | [u, v], _ =>
  have e1 := h2 0 _ u rfl rfl
  have e2 := h2 1 _ v rfl rfl
  cases e1 with | c _ _ e1 => cases e2 with | c _ _ e2 => exact ⟨u, v, rfl, e1, e2⟩
theorem arg_3 {w : World} {O : Nat → Prop} {a b c : PV} {cargs : Array Value} (h : PARels w O [.c a, .c b, .c c] cargs) : ∃ u v x, cargs = #[u, v, x] ∧ PRel w O a u ∧ PRel w O b v ∧ PRel w O c x := by
 obtain ⟨h1, h2⟩ := h
 obtain ⟨l⟩ := cargs
 match l, h1 with
 | [u, v, x], _ =>
  have e1 := h2 0 _ u rfl rfl
  have e2 := h2 1 _ v rfl rfl
  have e3 := h2 2 _ x rfl rfl
  cases e1 with | c _ _ e1 => cases e2 with | c _ _ e2 => cases e3 with | c _ _ e3 => exact ⟨u, v, x, rfl, e1, e2, e3⟩
end Go.Abs
