import Derived.Test.YtdfikojbpojmfaaGreatDoorAbsB3
import Derived.Test.YtdfikojbpojmfaaGreatDoorAbsClone
/- From contracts of the model to the machine's. -/
set_option linter.unusedVariables false
namespace Go.Abs
open Go.RowKit (Below)
variable [GTab] [Glob]
theorem Spec.still {P : Program} {f : FuncId} {pas : List PA} {y : PV} {v : Value} (hy : ∀ w O, PRel w O y v) (h : ∀ (O : Nat → Prop) (w : World) (cargs : Array Value), GlobOk w.heap.size w → PARels w O pas cargs → Calls P f cargs w fun e w' => e = .returned v ∧ Below w.heap.size w w') : Spec P f pas [.c (.c y)] := by
  intro O w cargs hO hgl hp
  refine (h O w cargs hgl hp).mono fun e w' he => ?_
  obtain ⟨rfl, hb⟩ := he
  refine ⟨v, ⟨fun _ => undef, O, 0, []⟩, rfl, rfl, ?_, .p _ _ (hy _ _)⟩
  exact ⟨hb, Nat.le_refl _, hO, hgl, fun t o ho => by simp [rasObj, raObj, rcObj] at ho, fun t t' g h1 => by simp [rasObj, raObj, rcObj] at h1, fun t o ho => by simp [rasObj, raObj, rcObj] at ho⟩
theorem Spec.rowI {P : Program} {f : FuncId} {pas : List PA} {e : TypeId} {k : IntKind} {l : List Int} (h : ∀ (O : Nat → Prop) (w : World) (cargs : Array Value), GlobOk w.heap.size w → PARels w O pas cargs → Calls P f cargs w fun x w' => ∃ v, x = .returned v ∧ w'.ownsRow w.heap.size e 1 v l.length (l.map (.int k)) ∧ Below w.heap.size w w') :
    Spec P f pas [.c (.s e 1 (l.map fun n => [.int k n]))] := by
  intro O w cargs hO hgl hp
  refine (h O w cargs hgl hp).mono fun x w' he => ?_
  obtain ⟨v, rfl, hrow, hb⟩ := he
  have hone : v.oneCell' = true := by
    rcases hrow.2 with ⟨rfl, _⟩ | ⟨g, cap, cur, rfl, _⟩ <;> rfl
  have hobj : rasObj [.c (.s e 1 (l.map fun n => [PV.int k n]))] = [⟨2, e, 1, l.map fun n => [AV.p (.int k n)]⟩] := by
    simp [rasObj, raObj, rcObj]
  rw [hobj]
  refine ⟨v, ⟨fun _ => v, O, 0, []⟩, rfl, rfl, ⟨hb, Nat.le_refl _, hO, hgl, fun t o ho => ?_, fun t t' g h1 h2 _ _ => ?_, fun t o ho hv => ?_⟩, ?_⟩
  · cases t with
    | zero =>
      simp only [List.getElem?_cons_zero, Option.some.injEq] at ho
      subst ho
      refine .inr ⟨Nat.zero_lt_one, l.map (.int k), by simpa using hrow, fun i c hc => ?_⟩
      simp only [List.getElem?_map, Option.map_eq_some_iff] at hc
      obtain ⟨n, hn, rfl⟩ := hc
      refine ⟨rfl, fun j y hy => ?_⟩
      cases j with
      | zero =>
        simp only [List.getElem?_cons_zero, Option.some.injEq] at hy
        subst hy
        exact ⟨.int k n, by simp [hn], .p _ _ (.int _ _)⟩
      | succ j => simp at hy
    | succ t => simp at ho
  · simp at h1 h2
    omega
  · cases t with
    | zero =>
      simp only [List.getElem?_cons_zero, Option.some.injEq] at ho
      subst ho
      simp at hv
    | succ t => simp at ho
  · refine .row 0 2 v (by simp) hone fun o ho => ?_
    simp only [List.getElem?_cons_zero, Option.some.injEq] at ho
    subst ho
    exact ⟨Nat.le_refl _, fun _ => rfl⟩
def TOK (P : Program) : List (FuncId × List PA × List RA) → Prop
  | [] => True
  | q :: r => Spec P q.1 q.2.1 q.2.2 ∧ TOK P r
theorem TOK.mem {P : Program} : ∀ {l : List (FuncId × List PA × List RA)}, TOK P l → ∀ q ∈ l, Spec P q.1 q.2.1 q.2.2
  | q :: r, h, x, hx => by
    rcases List.mem_cons.1 hx with rfl | hx
    · exact h.1
    · exact TOK.mem h.2 x hx
theorem TOK.app {P : Program} : ∀ {l m : List (FuncId × List PA × List RA)}, TOK P l → TOK P m → TOK P (l ++ m)
  | [], m, _, h => h
  | q :: r, m, h, h2 => ⟨h.1, TOK.app h.2 h2⟩
end Go.Abs
namespace Go.Abs
mutual
def pvEqB : PV → PV → Bool
  | .bool a, .bool b => a == b
  | .int k a, .int k' b => decide (k = k') && decide (a = b)
  | .str a, .str b => decide (a = b)
  | .sl a, .sl b => pvllEqB a b
  | _, _ => false
def pvllEqB : List (List PV) → List (List PV) → Bool
  | [], [] => true
  | a :: as, b :: bs => match pvlEqB a b with | true => pvllEqB as bs | false => false
  | _, _ => false
def pvlEqB : List PV → List PV → Bool
  | [], [] => true
  | a :: as, b :: bs => match pvEqB a b with | true => pvlEqB as bs | false => false
  | _, _ => false
end
mutual
theorem pvEqB_eq : ∀ {a b : PV}, pvEqB a b = true → a = b
  | .bool a, b, h => by cases b <;> simp [pvEqB] at h; rw [h]
  | .int k a, b, h => by cases b <;> simp [pvEqB] at h; rw [h.1, h.2]
  | .str a, b, h => by cases b <;> simp [pvEqB] at h; rw [h]
  | .sl a, b, h => by
    cases b with
    | sl b => rw [pvllEqB_eq (a := a) (b := b) (by simpa [pvEqB] using h)]
    | _ => simp [pvEqB] at h
theorem pvllEqB_eq : ∀ {a b : List (List PV)}, pvllEqB a b = true → a = b
  | [], b, h => by cases b <;> simp [pvllEqB] at h; rfl
  | x :: a, b, h => by
    cases b with
    | nil => simp [pvllEqB] at h
    | cons y b =>
      simp only [pvllEqB] at h
      split at h
      · rename_i hx
        rw [pvlEqB_eq hx, pvllEqB_eq h]
      · cases h
theorem pvlEqB_eq : ∀ {a b : List PV}, pvlEqB a b = true → a = b
  | [], b, h => by cases b <;> simp [pvlEqB] at h; rfl
  | x :: a, b, h => by
    cases b with
    | nil => simp [pvlEqB] at h
    | cons y b =>
      simp only [pvlEqB] at h
      split at h
      · rename_i hx
        rw [pvEqB_eq hx, pvlEqB_eq h]
      · cases h
end
def paEqB : PA → PA → Bool
  | .c a, .c b => pvEqB a b
  | .a a, .a b => pvlEqB a b
  | .q a, .q b => pvlEqB a b
  | _, _ => false
theorem paEqB_eq {a b : PA} (h : paEqB a b = true) : a = b := by
  cases a <;> cases b <;> simp only [paEqB] at h <;> first | (rw [pvEqB_eq h]) | (rw [pvlEqB_eq h]) | cases h
def pasEqB : List PA → List PA → Bool
  | [], [] => true
  | a :: as, b :: bs => match paEqB a b with | true => pasEqB as bs | false => false
  | _, _ => false
theorem pasEqB_eq : ∀ {a b : List PA}, pasEqB a b = true → a = b
  | [], b, h => by cases b <;> simp [pasEqB] at h; rfl
  | x :: a, b, h => by
    cases b with
    | nil => simp [pasEqB] at h
    | cons y b =>
      simp only [pasEqB] at h
      split at h
      · rename_i hx
        rw [paEqB_eq hx, pasEqB_eq h]
      · cases h
def lookK (f : FuncId) (pas : List PA) : List (FuncId × List PA × List RA) → Option (List RA)
  | [] => none
  | q :: r => match Nat.beq q.1 f with
    | true => match pasEqB q.2.1 pas with
      | true => some q.2.2
      | false => lookK f pas r
    | false => lookK f pas r
theorem lookK_mem {f : FuncId} {pas : List PA} {rs : List RA} : ∀ {l : List (FuncId × List PA × List RA)}, lookK f pas l = some rs → (f, pas, rs) ∈ l
  | [], h => by cases h
  | q :: r, h => by
    simp only [lookK] at h
    split at h
    · rename_i h1
      split at h
      · rename_i h2
        obtain ⟨g, ps, qs⟩ := q
        have e1 : g = f := Nat.eq_of_beq_eq_true h1
        have e2 : ps = pas := pasEqB_eq h2
        have e3 : qs = rs := Option.some.inj h
        subst e1; subst e2; subst e3
        exact List.mem_cons_self ..
      · exact List.mem_cons_of_mem _ (lookK_mem h)
    · exact List.mem_cons_of_mem _ (lookK_mem h)
end Go.Abs
