/- The abstract machine and its soundness, part B3. -/
import Derived.Test.YtdfikojbpojmfaaGreatDoorAbsB2
set_option linter.constructorNameAsVariable false
set_option linter.unusedVariables false
set_option linter.unusedSectionVars false
set_option linter.unusedSimpArgs false
namespace Go.Abs
variable [GTab] [Glob]

namespace Tr
variable {α : Type}
theorem get_upd (v : α) : ∀ (t : Tr α) (i j : Nat), (t.upd v i).get j = if i = j then (t.get j).map (fun _ => v) else t.get j
  | .nil, i, j => by simp [upd, get]
  | .node l x r, i, j => by
    cases i with
    | zero =>
      cases j with
      | zero => simp [upd, get]
      | succ j => simp [upd, get]
    | succ i =>
      have hl := get_upd v l (i / 2) (j.pred / 2)
      have hr := get_upd v r (i / 2) (j.pred / 2)
      rcases hi : i % 2 with _ | k
      · have e1 : (Tr.node l x r).upd v (i + 1) = .node (l.upd v (i / 2)) x r := by simp [upd, hi]
        rw [e1]
        cases j with
        | zero => simp [get]
        | succ j =>
          simp only [Nat.pred_succ] at hl
          rcases hj : j % 2 with _ | m
          · simp only [get, hj, hl, Nat.add_right_cancel_iff]
            by_cases h : i = j
            · subst h; simp
            · rw [if_neg h, if_neg (by omega)]
          · simp only [get, hj, Nat.add_right_cancel_iff]
            rw [if_neg (by omega)]
      · have e1 : (Tr.node l x r).upd v (i + 1) = .node l x (r.upd v (i / 2)) := by simp [upd, hi]
        rw [e1]
        cases j with
        | zero => simp [get]
        | succ j =>
          simp only [Nat.pred_succ] at hr
          rcases hj : j % 2 with _ | m
          · simp only [get, hj, Nat.add_right_cancel_iff]
            rw [if_neg (by omega)]
          · simp only [get, hj, hr, Nat.add_right_cancel_iff]
            by_cases h : i = j
            · subst h; simp
            · rw [if_neg h, if_neg (by omega)]

theorem get_push (v : α) : ∀ (t : Tr α) (n : Nat), (∀ i, i < n → (t.get i).isSome) → (∀ i, n ≤ i → t.get i = none) → ∀ j, (t.push v n).get j = if j = n then some v else t.get j
  | .nil, n, h1, h2, j => by
    have hn : n = 0 := by
      rcases Nat.eq_zero_or_pos n with h | h
      · exact h
      · have := h1 0 h
        simp [get] at this
    subst hn
    cases j with
    | zero => simp [push, get]
    | succ j => simp only [push, get]; split <;> simp
  | .node l x r, n, h1, h2, j => by
    cases n with
    | zero =>
      have := h2 0 (Nat.le_refl _)
      simp [get] at this
    | succ n =>
      rcases hn : n % 2 with _ | k
      · have e1 : (Tr.node l x r).push v (n + 1) = .node (l.push v (n / 2)) x r := by simp [push, hn]
        rw [e1]
        have ih := get_push v l (n / 2) (fun i hi => by
          have := h1 (2 * i + 1) (by omega)
          simpa [get, show 2 * i % 2 = 0 by omega, show 2 * i / 2 = i by omega] using this) (fun i hi => by
          have := h2 (2 * i + 1) (by omega)
          simpa [get, show 2 * i % 2 = 0 by omega, show 2 * i / 2 = i by omega] using this)
        cases j with
        | zero => simp [get]
        | succ j =>
          rcases hj : j % 2 with _ | m
          · simp only [get, hj, ih, Nat.add_right_cancel_iff]
            by_cases h : j = n
            · subst h; simp
            · rw [if_neg h, if_neg (by omega)]
          · simp only [get, hj, Nat.add_right_cancel_iff]
            rw [if_neg (by omega)]
      · have e1 : (Tr.node l x r).push v (n + 1) = .node l x (r.push v (n / 2)) := by simp [push, hn]
        rw [e1]
        have ih := get_push v r (n / 2) (fun i hi => by
          have := h1 (2 * i + 2) (by omega)
          simpa [get, show (2 * i + 1) % 2 = 1 by omega, show (2 * i + 1) / 2 = i by omega] using this) (fun i hi => by
          have := h2 (2 * i + 2) (by omega)
          simpa [get, show (2 * i + 1) % 2 = 1 by omega, show (2 * i + 1) / 2 = i by omega] using this)
        cases j with
        | zero => simp [get]
        | succ j =>
          rcases hj : j % 2 with _ | m
          · simp only [get, hj, Nat.add_right_cancel_iff]
            rw [if_neg (by omega)]
          · simp only [get, hj, ih, Nat.add_right_cancel_iff]
            by_cases h : j = n
            · subst h; simp
            · rw [if_neg h, if_neg (by omega)]

theorem all_get {p : α → Bool} : ∀ {t : Tr α}, t.all p = true → ∀ {i : Nat} {x : α}, t.get i = some x → p x = true
  | .nil, _, i, x, h => by simp [get] at h
  | .node l y r, ha, i, x, h => by
    simp only [all, Bool.and_eq_true] at ha
    cases i with
    | zero =>
      simp only [get, Option.some.injEq] at h
      subst h
      exact ha.1
    | succ i =>
      simp only [get] at h
      split at h
      · exact all_get ha.2.1 h
      · exact all_get ha.2.2 h

def Rel (t : Tr α) (l : List α) : Prop := ∀ i, t.get i = l[i]?
theorem Rel.nil : Rel (.nil : Tr α) [] := fun i => by simp [get]
theorem Rel.upd {t : Tr α} {l : List α} (h : Rel t l) (v : α) (i : Nat) : Rel (t.upd v i) (l.set i v) := fun j => by
  rw [get_upd, h j, List.getElem?_set]
  by_cases e : i = j
  · subst e
    simp only [if_true]
    by_cases hl : i < l.length
    · rw [if_pos hl, List.getElem?_eq_getElem hl]; rfl
    · rw [if_neg hl, List.getElem?_eq_none (by omega)]; rfl
  · rw [if_neg e, if_neg e]
theorem Rel.push {t : Tr α} {l : List α} (h : Rel t l) (v : α) : Rel (t.push v l.length) (l ++ [v]) := fun j => by
  rw [get_push v t l.length (fun i hi => by rw [h i, List.getElem?_eq_getElem hi]; rfl) (fun i hi => by rw [h i, List.getElem?_eq_none hi]), h j]
  by_cases e : j = l.length
  · subst e; simp
  · rw [if_neg e]
    by_cases hl : j < l.length
    · rw [List.getElem?_append_left hl]
    · rw [List.getElem?_eq_none (by omega), List.getElem?_eq_none (by simp; omega)]
theorem Rel.ofList : ∀ {xs : List α} {t : Tr α} {l : List α}, Rel t l → Rel (Tr.ofList xs l.length t) (l ++ xs)
  | [], t, l, h => by simpa [Tr.ofList] using h
  | x :: xs, t, l, h => by
    have := Rel.ofList (xs := xs) (h.push x)
    simp only [List.length_append, List.length_cons, List.length_nil, Nat.zero_add, List.append_assoc, List.cons_append, List.nil_append] at this
    exact this
theorem Rel.all {p : α → Bool} {t : Tr α} {l : List α} (h : Rel t l) (ha : t.all p = true) : l.all p = true := by
  rw [List.all_eq_true]
  intro x hx
  obtain ⟨i, hi⟩ := List.getElem?_of_mem hx
  exact all_get ha ((h i).trans hi)
end Tr

/-! ### operations -/
section
variable (h : List AObj)
theorem elemsG_eq : elemsG (getRow h) = elemsOf h := rfl
theorem readG_eq : readG (getRow h) = readCells h := rfl
theorem sliceG_eq : sliceG (getRow h) = sliceA h := rfl
theorem lenG_eq : lenG (getRow h) = lenA h := rfl
theorem ixG_eq : ixG (getRow h) = ixA h := rfl
theorem nilG_eq : nilG (getRow h) = nilA h := rfl
theorem nilPG_eq : nilPG (getRow h) = nilP h := rfl
theorem appendG_eq : appendG (getRow h) = appendA h := rfl
theorem copyG_eq : copyG (getRow h) = copyA h := rfl
theorem execG_eq (T : Nat) (ρ : AOpd → AV) (op : AOp) : execG (getRow h) T ρ op = aexec h T ρ op := by
  cases op <;> rfl
theorem frzG_eq (bad : List Nat) : ∀ n x, frzG (getRow h) bad n x = frz h bad n x
  | 0, x => rfl
  | n + 1, x => by
    have ih : frzG (getRow h) bad n = frz h bad n := funext (frzG_eq bad n)
    cases x <;> first | rfl | (simp only [frzG, frz, ih]; rfl)
theorem frzG_eq' (bad : List Nat) (n : Nat) : frzG (getRow h) bad n = frz h bad n := funext (frzG_eq h bad n)
theorem ptrG_eq : ptrG (getRow h) = ptrC h := by
  funext x
  cases x <;> first | rfl | (simp only [ptrG, ptrC, frzG_eq']; rfl)
theorem rcG_eq (bad : List Nat) (own : Bool) : rcG (getRow h) bad own = rcOf h bad own := by
  funext x
  cases x <;> (simp only [rcG, rcOf, frzG_eq']; try rfl)
theorem rcsG_eq (bad : List Nat) (own : Bool) : ∀ xs, rcsG (getRow h) bad own xs = rcsOf h bad own xs
  | [] => rfl
  | x :: xs => by simp only [rcsG, rcsOf, rcG_eq, rcsG_eq bad own xs]; rfl
theorem raG_eq (bad : List Nat) (own : Bool) : raG (getRow h) bad own = raOf h bad own := by
  funext x
  cases x <;> (simp only [raG, raOf, rcG_eq, rcsG_eq]; try rfl)
theorem rasG'_eq (bad : List Nat) (own : Bool) : ∀ xs, rasG' (getRow h) bad own xs = rasOf' h bad own xs
  | [] => rfl
  | x :: xs => by simp only [rasG', rasOf', raG_eq, rasG'_eq bad own xs]; rfl
theorem rasG_eq (own : Bool) (xs : List AV) : rasG (getRow h) own xs = rasOf h own xs := by
  simp only [rasG, rasOf, rasG'_eq]
theorem maskG_eq (tau : List Nat) : maskG tau (getRow h) = getRow (maskH tau 0 h) := by
  funext t ver
  unfold maskG getRow
  rw [maskH_get]
  simp only [Nat.zero_add]
  cases h[t]? with
  | none => simp
  | some o =>
    simp only [Option.map_some]
    split
    · rfl
    · rw [if_neg]
      rintro ⟨_, h2⟩
      exact h2 rfl
end

structure VS.Rel (st : VS) (s : St) : Prop where
  slots : Tr.Rel st.slots s.slots
  heap : Tr.Rel st.heap s.heap
  n : st.n = s.heap.length
def LRels : List (Tr AV) → List (List AV) → Prop
  | [], [] => True
  | t :: ts, l :: ls => Tr.Rel t l ∧ LRels ts ls
  | _, _ => False

section
variable {st : VS} {s : St}
theorem getT_eq {h : Tr AObj} {l : List AObj} (hr : Tr.Rel h l) : getT h = getRow l := by
  funext t ver
  show (match h.get t with | some o => if o.ver = ver ∧ o.size ≠ 0 then some o else none | none => none) = _
  rw [hr t]
  rfl
theorem slot_eq {t : Tr AV} {l : List AV} (hr : Tr.Rel t l) (n : Nat) : slot t n = l.getD n .any := by
  unfold slot
  rw [hr n, List.getD]
  cases l[n]? <;> rfl
theorem evalT_eq {t : Tr AV} {l : List AV} (hr : Tr.Rel t l) : evalT t = AOpd.eval l := by
  funext x
  cases x with
  | t n => exact slot_eq hr n
  | c v => rfl
theorem wantT_eq {t : Tr AV} {l : List AV} (hr : Tr.Rel t l) (gd : Option (Nat × Bool)) : wantT t gd = wantedA l gd := by
  cases gd with
  | none => rfl
  | some p =>
    obtain ⟨d, b⟩ := p
    show (match t.get d with | some (.p (.bool b')) => some (b' == b) | some .u => some false | _ => none) = _
    rw [hr d]
    rfl
theorem setT_rel {t : Tr AV} {l : List AV} (hr : Tr.Rel t l) (d : Option Nat) (v : AV) : Tr.Rel (setT t d v) (setD l d v) := by
  cases d with
  | none => exact hr
  | some d => exact hr.upd v d
theorem pushAll_rel : ∀ {k : List AObj} {h : Tr AObj} {l : List AObj} {n : Nat}, Tr.Rel h l → n = l.length → Tr.Rel (pushAll h n k).1 (l ++ k) ∧ (pushAll h n k).2 = (l ++ k).length
  | [], h, l, n, hr, hn => by simp only [pushAll, List.append_nil]; exact ⟨hr, hn⟩
  | o :: k, h, l, n, hr, hn => by
    subst hn
    have := pushAll_rel (k := k) (hr.push o) (n := l.length + 1) (by simp)
    simpa [pushAll] using this
theorem start_rel (nt : Nat) (args : List AV) : Tr.Rel (startT' nt args) (start nt args) := by
  have := Tr.Rel.ofList (xs := start nt args) (Tr.Rel.nil (α := AV))
  simpa [startT'] using this
theorem LRels.get : ∀ {ts : List (Tr AV)} {ls : List (List AV)}, LRels ts ls → ∀ {i : Nat} {t : Tr AV}, ts[i]? = some t → ∃ l, ls[i]? = some l ∧ Tr.Rel t l
  | [], _, _, i, t, ht => by simp at ht
  | t' :: ts, l' :: ls, ⟨h1, h2⟩, 0, t, ht => by
    simp at ht
    subst ht
    exact ⟨l', rfl, h1⟩
  | t' :: ts, l' :: ls, ⟨h1, h2⟩, i + 1, t, ht => LRels.get h2 (i := i) (by simpa using ht)
theorem LRels.set {t : Tr AV} {l : List AV} (hr : Tr.Rel t l) : ∀ {ts : List (Tr AV)} {ls : List (List AV)}, LRels ts ls → ∀ i, LRels (ts.set i t) (ls.set i l)
  | [], [], _, i => trivial
  | t' :: ts, l' :: ls, ⟨h1, h2⟩, 0 => ⟨hr, h2⟩
  | t' :: ts, l' :: ls, ⟨h1, h2⟩, i + 1 => ⟨h1, LRels.set hr h2 i⟩
theorem LRels.all {p : AV → Bool} : ∀ {ts : List (Tr AV)} {ls : List (List AV)}, LRels ts ls → ts.all (Tr.all p) = true → ls.all (fun l => l.all p) = true
  | [], [], _, _ => rfl
  | t :: ts, l :: ls, ⟨h1, h2⟩, h => by
    simp only [List.all_cons, Bool.and_eq_true] at h ⊢
    exact ⟨h1.all h.1, LRels.all h2 h.2⟩
theorem noYL_all : ∀ (l : List AV), noYL l = l.all AV.noY
  | [] => rfl
  | x :: xs => by simp only [noYL, List.all_cons, noYL_all xs]
theorem pend_rel' (p : Nat) : Tr.Rel (pend p) [.p (.int .u64 (Int.ofNat p))] := fun i => by
  cases i with
  | zero => rfl
  | succ i => simp only [pend, Tr.get]; split <;> simp
theorem putPs_relT : ∀ {ps : List (Nat × AV)} {t : Tr AV} {l : List AV}, Tr.Rel t l → Tr.Rel (putPsT t ps) (putPs l ps)
  | [], t, l, h => h
  | (a, v) :: ps, t, l, h => putPs_relT (ps := ps) (h.upd v a)
theorem noYT_eq {lows : List (Tr AV)} {ls : List (List AV)} (hs : st.Rel s) (hl : LRels lows ls) (h : noYT st lows = true) : (noYL s.slots && s.heap.all noYO && ls.all noYL) = true := by
  simp only [noYT, Bool.and_eq_true] at h
  obtain ⟨h1, h2, h3⟩ := h
  have e : noYL = fun l => l.all AV.noY := funext noYL_all
  simp only [Bool.and_eq_true]
  refine ⟨⟨?_, hs.heap.all h2⟩, ?_⟩
  · rw [noYL_all]; exact hs.slots.all h1
  · rw [e]; exact hl.all h3
end

section
variable {P : Program} {callF : FuncId → List PA → Option (List RA)} {V : VP}
theorem evalM {st : VS} {s : St} (hs : st.Rel s) (args : List AOpd) : args.map (evalT st.slots) = args.map (AOpd.eval s.slots) := by rw [evalT_eq hs.slots]

theorem tagged_fst' : ∀ (os : List AObj) (T : Nat), (tagged T os).map (·.1) = List.range' T os.length
  | [], _ => rfl
  | o :: os, T => by simp [tagged, tagged_fst' os, List.range'_succ]

theorem called_rel {st : VS} {s : St} (hs : st.Rel s) (dst : Option Nat) (rs : List RA) : (backT st dst rs).Rel ⟨setD s.slots dst (retV (rasVal s.heap.length rs)), s.heap ++ rasObj rs⟩ := by
  obtain ⟨h1, h2⟩ := pushAll_rel (k := rasObj rs) hs.heap hs.n
  refine ⟨?_, h1, h2⟩
  show Tr.Rel (setT st.slots dst (retV (rasVal st.n rs))) _
  rw [hs.n]
  exact setT_rel hs.slots _ _

theorem drawCall_sound (hF : ∀ f pas rs, callF f pas = some rs → Spec P f pas rs) {a : AStep} {f : FuncId} {avs : List AV} {st st1 : VS} {s : St} (hs : st.Rel s) (hcd : Called P a.op s.slots f avs) (hw : wantedA s.slots a.guard = some true) {y : AV} {wr tau : List Nat}
    (h : drawCall callF f avs a.dst st = some (y, wr, tau, st1)) : ∃ wr' h1, StepS P a tau s y wr' h1 ∧ wr'.map (·.1) = wr ∧ st1.Rel ⟨setD s.slots a.dst y, h1⟩ := by
  unfold drawCall at h
  split at h
  · rename_i pas hp
    split at h
    · rename_i rs hrs
      simp only [Option.some.injEq, Prod.mk.injEq] at h
      obtain ⟨rfl, rfl, rfl, rfl⟩ := h
      have hst := StepS.call (tau := List.range' st.n (rasObj rs).length) f avs true pas rs hcd hw (by simp only [argsOf, if_true]; exact hp) (hF _ _ _ hrs) (.inl rfl)
      have := called_rel hs a.dst rs
      rw [hs.n] at hst ⊢
      exact ⟨_, _, hst, tagged_fst' _ _, this⟩
    · cases h
  · have e : maskG (avs.flatMap (reachG (fun t => st.heap.get t) 6)) (getT st.heap) = getRow (maskH (avs.flatMap (reachG (fun t => st.heap.get t) 6)) 0 s.heap) := by rw [getT_eq hs.heap, maskG_eq]
    rw [e] at h
    split at h
    · rename_i pas hp
      rw [frzG_eq', ptrG_eq] at hp
      split at h
      · rename_i rs hrs
        split at h
        · rename_i hfl
          simp only [Option.some.injEq, Prod.mk.injEq] at h
          obtain ⟨rfl, rfl, rfl, rfl⟩ := h
          have hst := StepS.call (tau := avs.flatMap (reachG (fun t => st.heap.get t) 6) ++ List.range' st.n (rasObj rs).length) f avs false pas rs hcd hw (by
            refine argsOf_mono (maskH_sub fun t ht => by simp only [List.contains_iff_mem, List.mem_append] at ht ⊢; exact .inl ht) ?_
            simp only [argsOf, Bool.false_eq_true, if_false]
            exact hp) (hF _ _ _ hrs) (.inr hfl)
          have := called_rel hs a.dst rs
          rw [hs.n] at hst ⊢
          exact ⟨_, _, hst, tagged_fst' _ _, this⟩
        · cases h
      · cases h
    · cases h

theorem drawStep_sound (hF : ∀ f pas rs, callF f pas = some rs → Spec P f pas rs) (hcb : ∀ f, V.cb f = true → callable P f = true) {a : AStep} {st st1 : VS} {s : St} (hs : st.Rel s) {y : AV} {wr tau : List Nat}
    {pl : Bool} (h : drawStep callF V pl a st = some (y, wr, tau, st1)) : ∃ wr' h1, StepS P a tau s y wr' h1 ∧ wr'.map (·.1) = wr ∧ st1.Rel ⟨setD s.slots a.dst y, h1⟩ := by
  unfold drawStep at h
  rw [wantT_eq hs.slots] at h
  split at h
  · rename_i hw
    simp only [Option.some.injEq, Prod.mk.injEq] at h
    obtain ⟨rfl, rfl, rfl, rfl⟩ := h
    exact ⟨_, _, .skip hw, rfl, setT_rel hs.slots _ _, hs.heap, hs.n⟩
  · rename_i hw
    split at h
    · rename_i ao ho
      rw [getT_eq hs.heap, evalT_eq hs.slots, maskG_eq, hs.n, execG_eq] at h
      split at h
      · rename_i y' eff he
        split at h
        · simp only [Option.some.injEq, Prod.mk.injEq] at h
          obtain ⟨rfl, rfl, rfl, rfl⟩ := h
          exact ⟨_, _, .op ao _ .none ho hw he (fun t o e => by cases e), rfl, setT_rel hs.slots _ _, hs.heap, rfl⟩
        · simp only [Option.some.injEq, Prod.mk.injEq] at h
          obtain ⟨rfl, rfl, rfl, rfl⟩ := h
          exact ⟨_, _, .op ao _ .grow ho hw he (fun t o e => by cases e), rfl, setT_rel hs.slots _ _, hs.heap, rfl⟩
        · rename_i o
          split at h
          · rename_i es hes
            simp only [Option.some.injEq, Prod.mk.injEq] at h
            obtain ⟨rfl, rfl, rfl, rfl⟩ := h
            unfold litE at hes
            split at hes
            · split at hes
              · exact ⟨_, _, .lit ao _ _ o es ho hw he hes, rfl, setT_rel hs.slots _ _, hs.heap, rfl⟩
              · cases hes
            · cases hes
          simp only [Option.some.injEq, Prod.mk.injEq] at h
          obtain ⟨rfl, rfl, rfl, rfl⟩ := h
          refine ⟨_, _, .op ao _ (.new o) ho hw (aexec_mono (maskH_sub fun t ht => by simp only [List.contains_iff_mem, List.mem_cons] at ht ⊢; exact .inr ht) he) (fun t o e => by cases e), rfl, setT_rel hs.slots _ _, ?_, ?_⟩
          · exact hs.heap.push o
          · simp [effH]
        · rename_i t o
          split at h
          · rename_i hlt
            simp only [Option.some.injEq, Prod.mk.injEq] at h
            obtain ⟨rfl, rfl, rfl, rfl⟩ := h
            refine ⟨_, _, .op ao _ (.upd t o) ho hw he (fun t' o' e => by cases e; exact Nat.blt_eq.mp hlt), rfl, setT_rel hs.slots _ _, ?_, ?_⟩
            · exact hs.heap.upd o t
            · simp [effH]
          · cases h
      · cases h
    · rename_i f args ho
      rw [evalM hs] at h
      exact drawCall_sound hF hs (.st args ho) hw h
    · rename_i x args ho
      rw [evalT_eq hs.slots] at h
      split at h
      · rename_i f caps hx
        split at h
        · rename_i hc
          exact drawCall_sound hF hs (.vl x args caps ho hx (hcb f hc)) hw h
        · cases h
      · cases h
  · cases h

theorem drawGo_sound {pl : Bool} (hF : ∀ f pas rs, callF f pas = some rs → Spec P f pas rs) (hcb : ∀ f, V.cb f = true → callable P f = true) : ∀ {ss : List AStep} {st st1 : VS} {s : St} {L : List (List Nat × List Nat)}, st.Rel s → drawGo callF V pl ss st = some (L, st1) →
    ∃ L' s1, TraceS P L' s s1 ∧ L'.map (·.1) = ss ∧ L'.map evI = L ∧ st1.Rel s1
  | [], st, st1, s, L, hs, h => by
    simp only [drawGo, Option.some.injEq, Prod.mk.injEq] at h
    obtain ⟨rfl, rfl⟩ := h
    exact ⟨[], s, .nil _, rfl, rfl, hs⟩
  | a :: ss, st, st1, s, L, hs, h => by
    simp only [drawGo] at h
    split at h
    · rename_i y wr tau st2 h1
      split at h
      · rename_i L2 st3 h2
        simp only [Option.some.injEq, Prod.mk.injEq] at h
        obtain ⟨rfl, rfl⟩ := h
        obtain ⟨wr', h3, g1, g2, g3⟩ := drawStep_sound hF hcb hs h1
        obtain ⟨L', s1, k1, k2, k3, k4⟩ := drawGo_sound hF hcb g3 h2
        exact ⟨_, s1, .cons a y wr' tau h3 L' s s1 g1 k1, by rw [List.map_cons, k2], by rw [List.map_cons, k3, ← g2]; rfl, k4⟩
      · cases h
    · cases h

theorem opsT_sound : ∀ {ss rest : List AStep} {st st1 : VS} {s : St}, st.Rel s → opsT ss st = (rest, st1) → ∃ pre s1, ss = pre ++ rest ∧ ASteps P pre s s1 ∧ st1.Rel s1
  | [], rest, st, st1, s, hs, h => by
    simp only [opsT, Prod.mk.injEq] at h
    obtain ⟨rfl, rfl⟩ := h
    exact ⟨[], s, rfl, .nil _, hs⟩
  | a :: ss, rest, st, st1, s, hs, h => by
    have stop : ((a :: ss, st) : List AStep × VS) = (rest, st1) → ∃ pre s1, a :: ss = pre ++ rest ∧ ASteps P pre s s1 ∧ st1.Rel s1 := fun h => by
      simp only [Prod.mk.injEq] at h
      obtain ⟨rfl, rfl⟩ := h
      exact ⟨[], s, rfl, .nil _, hs⟩
    simp only [opsT] at h
    rw [wantT_eq hs.slots] at h
    split at h
    · rename_i hw
      obtain ⟨pre, s1, rfl, k1, k2⟩ := opsT_sound (st := ⟨setT st.slots a.dst .u, st.heap, st.n⟩) (s := ⟨setD s.slots a.dst .u, s.heap⟩) ⟨setT_rel hs.slots _ _, hs.heap, hs.n⟩ h
      exact ⟨a :: pre, s1, rfl, .skip _ _ _ _ hw k1, k2⟩
    · rename_i hw
      split at h
      · rename_i ao ho
        rw [getT_eq hs.heap, evalT_eq hs.slots, hs.n, execG_eq] at h
        split at h
        · rename_i y eff he
          have go : ∀ st2 : VS, st2.Rel ⟨setD s.slots a.dst y, effH s.heap eff⟩ → opsT ss st2 = (rest, st1) → ∃ pre s1, a :: ss = pre ++ rest ∧ ASteps P pre s s1 ∧ st1.Rel s1 := fun st2 h2 h3 => by
            obtain ⟨pre, s1, rfl, k1, k2⟩ := opsT_sound h2 h3
            exact ⟨a :: pre, s1, rfl, .op _ ao _ _ y eff _ ho hw he k1, k2⟩
          split at h
          · exact go ⟨setT st.slots a.dst y, st.heap, s.heap.length⟩ ⟨setT_rel hs.slots _ _, hs.heap, rfl⟩ h
          · exact go ⟨setT st.slots a.dst y, st.heap, s.heap.length⟩ ⟨setT_rel hs.slots _ _, hs.heap, rfl⟩ h
          · rename_i o
            exact go ⟨setT st.slots a.dst y, st.heap.push o s.heap.length, s.heap.length + 1⟩ ⟨setT_rel hs.slots _ _, hs.heap.push o, by simp [effH]⟩ h
          · rename_i t o
            exact go ⟨setT st.slots a.dst y, st.heap.upd o t, s.heap.length⟩ ⟨setT_rel hs.slots _ _, hs.heap.upd o t, by simp [effH]⟩ h
        · exact stop h
      · exact stop h
    · exact stop h
end

/-! ### one step -/
def StepOK (P : Program) (frs : List Fr) (s : St) (ls : List (List AV)) : VRes → Prop
  | .next frs' st' lows' => ∃ s' ls', st'.Rel s' ∧ LRels lows' ls' ∧ ∀ Q, KAW P frs' Q s' ls' → KAW P frs Q s ls
  | .done e st' => ∃ s', st'.Rel s' ∧ (∀ id, e ≠ .exit id) ∧ ∀ Q : Exit → St → Prop, Q e.to s' → KAW P frs Q s ls
  | .stuck _ => True

section
variable {P : Program} {callF : FuncId → List PA → Option (List RA)} {V : VP} {frs : List Fr} {st : VS} {s : St} {lows : List (Tr AV)} {ls : List (List AV)}
theorem resG_eq (hs : st.Rel s) : ∀ res, resG (getT st.heap) (slot st.slots) res = resV s res
  | [] => rfl
  | r :: rs => by
    have h1 : res1G (getT st.heap) (slot st.slots) r = res1 s r := by
      have e : slot st.slots = fun n => s.slots.getD n .any := funext (slot_eq hs.slots)
      rw [getT_eq hs.heap, e]
      cases r with
      | tmp t => rfl
      | cell t m => cases m <;> rfl
    simp only [resG, resV, h1, resG_eq hs rs]; rfl
theorem pend0 {pd : Tr AV} {l : List AV} (h : Tr.Rel pd l) {p : Int} (hp : pd.get 0 = some (.p (.int .u64 p))) (h1 : pd.get 1 = none) : l = [.p (.int .u64 p)] := by
  rw [h 0] at hp
  rw [h 1] at h1
  match l, hp, h1 with
  | [x], hp, _ => simp at hp; rw [hp]
  | x :: y :: l, _, h1 => simp at h1
  | [], hp, _ => simp at hp

theorem retTo_sound (hs : st.Rel s) (hl : LRels lows ls) {frs0 : List Fr} (hgo : ∀ Q, botF frs = [] → Q .ret s → KAW P frs0 Q s ls) (hret : ∀ Q, KRet P (botF frs) Q s ls → KAW P frs0 Q s ls) : StepOK P frs0 s ls (retTo frs st lows) := by
  unfold retTo
  split
  · rename_i hb
    exact ⟨s, hs, (fun id e => by cases e), fun Q hq => hgo Q hb hq⟩
  · rename_i res dst fr2 hb
    rw [hb] at hret
    split
    · rename_i low lows'
      cases ls with
      | nil => exact hl.elim
      | cons l ls =>
        obtain ⟨h1, h2⟩ := hl
        rw [resG_eq hs]
        split
        · rename_i xs hx
          exact ⟨⟨setD l dst (retV xs), s.heap⟩, ls, ⟨setT_rel h1 _ _, hs.heap, hs.n⟩, h2, fun Q hk => hret Q (.fn hx hk)⟩
        · trivial
    · trivial
  · rename_i ps ac bc fr2 hb
    rw [hb] at hret
    split
    · rename_i pd low lows'
      match ls, hl with
      | l0 :: l :: ls, ⟨h0, h1, h2⟩ =>
        split
        · rename_i hnr
          have key : ∀ p : Int, l0 = [.p (.int .u64 p)] → ∀ (frs' : List Fr), (∀ Q, KAW P frs' Q ⟨l, s.heap⟩ ls → KRet P (.rf ps ac bc :: fr2) Q s ([.p (.int .u64 p)] :: l :: ls)) → StepOK P frs0 s (l0 :: l :: ls) (.next frs' ⟨low, st.heap, st.n⟩ lows') := by
            intro p e frs' hk
            subst e
            exact ⟨⟨l, s.heap⟩, ls, ⟨h1, hs.heap, hs.n⟩, h2, fun Q hq => hret Q (hk Q hq)⟩
          split
          · rename_i p hp
            split
            · rename_i hl1
              have e := pend0 h0 hp hl1
              split
              · exact key _ e _ fun Q hq => .rf (fun _ => hq) (fun e => by cases e) (fun id e => absurd (show ((0 : Nat) : Int) = (id : Int) + 2 from e) (by omega)) hnr
              · exact key _ e _ fun Q hq => .rf (fun e => by cases e) (fun _ => hq) (fun id e => absurd (show ((1 : Nat) : Int) = (id : Int) + 2 from e) (by omega)) hnr
              · rename_i id
                exact key _ e _ fun Q hq => .rf (fun e => absurd (show ((id + 2 : Nat) : Int) = 0 from e) (by omega)) (fun e => absurd (show ((id + 2 : Nat) : Int) = 1 from e) (by omega)) (fun id' e => by
                  have : id' = id := by have : ((id + 2 : Nat) : Int) = (id' : Int) + 2 := e; omega
                  subst this; exact hq) hnr
              · trivial
            · trivial
          · trivial
        · trivial
    · trivial
  · trivial

theorem enterT_sound (hF : ∀ f af, V.F f = some af → compFun P f = some af) {f : FuncId} {avs : List AV} {a : AStep} {rest : List AStep} (hs : st.Rel s) (hl : LRels lows ls)
    (hk : ∀ af, compFun P f = some af → ∀ Q, KAW P (.code af.body :: .fn af.res a.dst :: .steps rest :: frs) Q ⟨start af.nt avs, s.heap⟩ (s.slots :: ls) → KAW P (.steps (a :: rest) :: frs) Q s ls) :
    StepOK P (.steps (a :: rest) :: frs) s ls (enterT V f avs a rest frs st lows) := by
  unfold enterT
  split
  · rename_i af haf
    exact ⟨⟨start af.nt avs, s.heap⟩, s.slots :: ls, ⟨start_rel _ _, hs.heap, hs.n⟩, ⟨hs.slots, hl⟩, hk af (hF f af haf)⟩
  · trivial

/-! ### objects that become pure -/
theorem subL_map (F : List Nat) (fz : AV → Option PV) : ∀ cs : List AV, subL F fz cs = cs.map (subV F fz)
  | [] => rfl
  | x :: xs => by simp only [subL, List.map_cons, subL_map F fz xs]
def fzL (h : List AObj) (F : List Nat) : AV → Option PV := frzG (maskG F (getRow h)) [] 6
def kapF (F : List Nat) (ι : Em) : Em := ⟨fun t => if F.contains t then .bool true else ι t, ι.O, ι.Y, ι.D⟩
def frzH (h : List AObj) (F : List Nat) : List AObj := h.mapIdx (frzO F (fzL h F))
theorem frzH_len (h : List AObj) (F : List Nat) : (frzH h F).length = h.length := by simp [frzH]
theorem frzH_get (h : List AObj) (F : List Nat) (t : Nat) : (frzH h F)[t]? = (h[t]?).map (frzO F (fzL h F) t) := by simp [frzH]
theorem kap_on {F : List Nat} {ι : Em} {t : Nat} (h : F.contains t = true) : kapF F ι t = .bool true := if_pos h
theorem kap_off {F : List Nat} {ι : Em} {t : Nat} (h : ¬ F.contains t = true) : kapF F ι t = ι t := if_neg h
theorem own_sub {h : List AObj} {F : List Nat} {ι : Em} {g : Nat} (ho : Own (frzH h F).length (kapF F ι) g) : Own h.length ι g := by
  rcases ho with ho | ⟨t, ht, hb⟩
  · exact .inl ho
  · by_cases hF : F.contains t = true
    · rw [kap_on hF] at hb
      cases hb
    · rw [kap_off hF] at hb
      exact .inr ⟨t, by rw [frzH_len] at ht; exact ht, hb⟩
def badF (h : List AObj) (F : List Nat) : List Nat := (List.range h.length).filter fun t => !F.contains t
theorem badF_on {h : List AObj} {F : List Nat} {t : Nat} (hF : F.contains t = true) : (badF h F).contains t = false := by
  cases hb : (badF h F).contains t with
  | false => rfl
  | true =>
    rw [List.contains_iff_mem] at hb
    simp only [badF, List.mem_filter, hF, Bool.not_true, Bool.false_eq_true, and_false] at hb
theorem badF_off {h : List AObj} {F : List Nat} {t : Nat} (ht : t < h.length) (hb : (badF h F).contains t = false) : F.contains t = true := by
  cases hF : F.contains t with
  | true => rfl
  | false =>
    have : (badF h F).contains t = true := by
      rw [List.contains_iff_mem]
      simp [badF, ht, -List.contains_eq_mem, hF]
    rw [this] at hb
    cases hb
theorem frz_mask {h : List AObj} {F : List Nat} : ∀ (n : Nat) {x : AV} {y : PV}, frzG (maskG F (getRow h)) [] n x = some y → frz h (badF h F) n x = some y
  | 0, x, y, hf => by simp [frzG] at hf
  | n + 1, x, y, hf => by
    have ih : ∀ x y, frzG (maskG F (getRow h)) [] n x = some y → frz h (badF h F) n x = some y := fun x y => frz_mask n
    have key : ∀ (t ver : Nat) (sel : AObj → List (List AV)), (if ([] : List Nat).contains t then none else match maskG F (getRow h) t ver with | some o => (match frzE (frzG (maskG F (getRow h)) [] n) (sel o) with | some es => some (PV.sl es) | none => none) | none => none) = some y →
        (if (badF h F).contains t then none else match getRow h t ver with | some o => (match frzE (frz h (badF h F) n) (sel o) with | some es => some (PV.sl es) | none => none) | none => none) = some y := by
      intro t ver sel hf
      simp only [List.contains_nil, Bool.false_eq_true, if_false] at hf
      unfold maskG at hf
      split at hf
      · rename_i o ho
        split at ho
        · rename_i hF
          rw [badF_on hF]
          simp only [Bool.false_eq_true, if_false, ho]
          split at hf
          · rename_i es hes
            rw [frzE_mono (h := h) (h' := h) (fun _ _ _ e => e) ih hes]
            exact hf
          · cases hf
        · cases ho
      · cases hf
    cases x with
    | row t ver => exact key t ver _ hf
    | sl t ver lo len ex => exact key t ver (fun o => (o.elems.drop lo).take len) hf
    | _ => exact hf

section
variable {B : Nat} {w0 w : World} {h : List AObj} {ι : Em} {F : List Nat}
theorem frz_pure (hr : HRel B w0 h ι w) {x : AV} {v : Value} {y : PV} (hv : VR h ι w x v) (hf : fzL h F x = some y) : PRel w (Own (frzH h F).length (kapF F ι)) y v := by
  refine frz_rel hr (fun g => own_sub) (fun t g ht hb hg ho => ?_) 6 hv (frz_mask 6 hf)
  have hF := badF_off ht hb
  rcases ho with ho | ⟨t', ht', hb'⟩
  · have h1 := hr.old g ho
    have h2 := (hr.own ht hg).1
    omega
  · by_cases hF' : F.contains t' = true
    · rw [kap_on hF'] at hb'
      cases hb'
    · rw [kap_off hF'] at hb'
      rw [frzH_len] at ht'
      have := hr.inj t t' g ht ht' hg hb'
      subst this
      exact hF' hF
theorem sub_rel (hr : HRel B w0 h ι w) {x : AV} {v : Value} (hv : VR h ι w x v) : VR (frzH h F) (kapF F ι) w (subV F (fzL h F) x) v := by
  have hfix : Fix w (Own h.length ι) w (Own (frzH h F).length (kapF F ι)) := ⟨Nat.le_refl _, fun _ _ _ => rfl, fun g _ hn ho => hn (own_sub ho)⟩
  induction hv with
  | any v => exact .any v
  | u => exact .u
  | p x v hp => exact .p x v (hp.fix hfix)
  | nil => exact .nil
  | ne ad c => exact .ne ad c
  | nl c => exact .nl c
  | e0 ad => exact .e0 ad
  | xf elems ad n hp => exact .xf elems ad n (hp.fix hfix)
  | row t ver v ht hv ho =>
    simp only [subV]
    by_cases hF : F.contains t = true
    · rw [if_pos hF]
      split
      · rename_i y hy
        exact .p _ _ (frz_pure hr (.row t ver v ht hv ho) hy)
      · refine .row t ver v (by rw [frzH_len]; exact ht) hv fun o' ho' => ?_
        rw [frzH_get, Option.map_eq_some_iff] at ho'
        obtain ⟨o, h0, rfl⟩ := ho'
        have := (ho o h0).1
        simp only [frzO, if_pos hF]
        exact ⟨by omega, fun e => by omega⟩
    · rw [if_neg hF]
      refine .row t ver v (by rw [frzH_len]; exact ht) hv fun o' ho' => ?_
      rw [frzH_get, Option.map_eq_some_iff] at ho'
      obtain ⟨o, h0, rfl⟩ := ho'
      simp only [frzO, if_neg hF]
      exact ⟨(ho o h0).1, fun e => by rw [kap_off hF]; exact (ho o h0).2 e⟩
  | sl t ver lo len ex v ht hv ho =>
    simp only [subV]
    by_cases hF : F.contains t = true
    · rw [if_pos hF]
      split
      · rename_i y hy
        exact .p _ _ (frz_pure hr (.sl t ver lo len ex v ht hv ho) hy)
      · refine .sl t ver lo len ex v (by rw [frzH_len]; exact ht) hv fun o' ho' => ?_
        rw [frzH_get, Option.map_eq_some_iff] at ho'
        obtain ⟨o, h0, rfl⟩ := ho'
        have := (ho o h0).1
        simp only [frzO, if_pos hF]
        exact ⟨by omega, fun e => by omega⟩
    · rw [if_neg hF]
      refine .sl t ver lo len ex v (by rw [frzH_len]; exact ht) hv fun o' ho' => ?_
      rw [frzH_get, Option.map_eq_some_iff] at ho'
      obtain ⟨o, h0, rfl⟩ := ho'
      simp only [frzO, if_neg hF]
      refine ⟨(ho o h0).1, fun e => ?_⟩
      have := (ho o h0).2 e
      unfold SubSl at this ⊢
      rw [kap_off hF]
      simpa using this
  | ptr t ver i off v ht hv ho =>
    refine .ptr t ver i off v (by rw [frzH_len]; exact ht) hv fun o' ho' => ?_
    rw [frzH_get, Option.map_eq_some_iff] at ho'
    obtain ⟨o, h0, rfl⟩ := ho'
    by_cases hF : F.contains t = true
    · have := (ho o h0).1
      simp only [frzO, if_pos hF]
      exact ⟨by omega, fun e => by omega⟩
    · simp only [frzO, if_neg hF]
      refine ⟨(ho o h0).1, fun e => ?_⟩
      have := (ho o h0).2 e
      unfold PtrTo at this ⊢
      rw [kap_off hF]
      simpa using this
  | nptr => exact .nptr
  | fptr cells ad u hO hlt hcell hrel => exact .fptr cells ad u (fun h' => hO (own_sub h')) hlt hcell fun j x hx => (hrel j x hx).fix hfix
  | agg cs vs hl _ ih =>
    simp only [subV, subL_map]
    refine .agg _ vs (by simpa using hl) fun i x v hx hv => ?_
    rw [List.getElem?_map, Option.map_eq_some_iff] at hx
    obtain ⟨x0, h0, rfl⟩ := hx
    exact ih i x0 v h0 hv
  | tuple cs vs hl _ ih =>
    simp only [subV, subL_map]
    refine .tuple _ vs (by simpa using hl) fun i x v hx hv => ?_
    rw [List.getElem?_map, Option.map_eq_some_iff] at hx
    obtain ⟨x0, h0, rfl⟩ := hx
    exact ih i x0 v h0 hv
  | fn f cs vs hl _ ih =>
    simp only [subV, subL_map]
    refine .fn f _ vs (by simpa using hl) fun i x v hx hv => ?_
    rw [List.getElem?_map, Option.map_eq_some_iff] at hx
    obtain ⟨x0, h0, rfl⟩ := hx
    exact ih i x0 v h0 hv
  | fb f cs vs hl _ ih =>
    simp only [subV, subL_map]
    refine .fb f _ vs (by simpa using hl) fun i x v hx hv => ?_
    rw [List.getElem?_map, Option.map_eq_some_iff] at hx
    obtain ⟨x0, h0, rfl⟩ := hx
    exact ih i x0 v h0 hv
  | nilf => exact .nilf
  | yl => exact .yl
  | if0 => exact .if0
  | if1 t x => exact .if1 t x
  | gp g off => exact .gp g off

theorem frzH_rel (hr : HRel B w0 h ι w) : HRel B w0 (frzH h F) (kapF F ι) w := by
  refine ⟨hr.below, hr.base, hr.old, hr.glob, fun t o' ho' => ?_, fun t t' g ht ht' h1 h2 => ?_, fun t o' ho' hv => by
    rw [frzH_get, Option.map_eq_some_iff] at ho'
    obtain ⟨o, h0, rfl⟩ := ho'
    by_cases hF : F.contains t = true
    · exact .inl (by simp only [frzO, if_pos hF])
    · simp only [frzO, if_neg hF] at hv ⊢
      rw [kap_off hF]
      exact hr.ex t o h0 hv⟩
  · rw [frzH_get, Option.map_eq_some_iff] at ho'
    obtain ⟨o, h0, rfl⟩ := ho'
    by_cases hF : F.contains t = true
    · exact .inl ⟨by simp only [frzO, if_pos hF], by rw [kap_on hF]; rfl⟩
    · simp only [frzO, if_neg hF]
      rcases hr.objs t o h0 with ⟨a, b⟩ | ⟨hs, xs, hx, hu⟩
      · exact .inl ⟨a, by rw [kap_off hF]; exact b⟩
      · refine .inr ⟨hs, xs, by rw [kap_off hF]; simpa using hx, fun i e he => ?_⟩
        rw [List.getElem?_map, Option.map_eq_some_iff] at he
        obtain ⟨e0, he0, rfl⟩ := he
        obtain ⟨k1, k2⟩ := hu i e0 he0
        refine ⟨by rw [subL_map]; simpa using k1, fun j x hx => ?_⟩
        rw [subL_map, List.getElem?_map, Option.map_eq_some_iff] at hx
        obtain ⟨x0, hx0, rfl⟩ := hx
        obtain ⟨v, hv, hvr⟩ := k2 j x0 hx0
        exact ⟨v, hv, sub_rel hr hvr⟩
  · rw [frzH_len] at ht ht'
    by_cases hF : F.contains t = true
    · rw [kap_on hF] at h1
      cases h1
    · by_cases hF' : F.contains t' = true
      · rw [kap_on hF'] at h2
        cases h2
      · rw [kap_off hF] at h1
        rw [kap_off hF'] at h2
        exact hr.inj t t' g ht ht' h1 h2
end
def frzS (F : List Nat) (s : St) : St := ⟨s.slots.map (subV F (fzL s.heap F)), frzH s.heap F⟩
def frzLs (F : List Nat) (s : St) (ls : List (List AV)) : List (List AV) := ls.map (List.map (subV F (fzL s.heap F)))
theorem frz_lrel {F : List Nat} {h : List AObj} {ι : Em} {B : Nat} {w0 w : World} (hr : HRel B w0 h ι w) : ∀ {ls : List (List AV)} {lt : List (List Value)}, LRel h ι w ls lt → LRel (frzH h F) (kapF F ι) w (ls.map (List.map (subV F (fzL h F)))) lt
  | [], [], _ => trivial
  | x :: xs, v :: vs, ⟨⟨h1, h2⟩, h3⟩ => by
    refine ⟨⟨by simpa using h1, fun i y u hy hu => ?_⟩, frz_lrel hr h3⟩
    rw [List.getElem?_map, Option.map_eq_some_iff] at hy
    obtain ⟨y0, h0, rfl⟩ := hy
    exact sub_rel hr (h2 i y0 u h0 hu)
  | [], _ :: _, h => h.elim
  | _ :: _, [], h => h.elim
theorem frz_weakL (F : List Nat) (s : St) (ls : List (List AV)) : WeakL s ls (frzS F s) (frzLs F s ls) := by
  intro B w0 ι a w lt hs hl
  refine ⟨kapF F ι, ⟨frzH_rel hs.heap, by simpa [frzS] using hs.len, fun i x v hx hv => ?_, hs.defers⟩, frz_lrel hs.heap hl, rfl, rfl⟩
  simp only [frzS] at hx
  rw [List.getElem?_map, Option.map_eq_some_iff] at hx
  obtain ⟨x0, h0, rfl⟩ := hx
  exact sub_rel hs.heap (hs.slot i x0 v h0 hv)

namespace Tr
variable {α : Type}
theorem get_mapIx (f : Nat → α → α) : ∀ (t : Tr α) (g : Nat → Nat) (i : Nat), (mapIx f g t).get i = (t.get i).map (f (g i))
  | .nil, g, i => rfl
  | .node l x r, g, i => by
    cases i with
    | zero => rfl
    | succ i =>
      rcases hi : i % 2 with _ | k
      · simp only [mapIx, get, hi, get_mapIx f l]
        rw [show 2 * (i / 2) + 1 = i + 1 by omega]
      · simp only [mapIx, get, hi, get_mapIx f r]
        rw [show 2 * (i / 2) + 2 = i + 1 by omega]
theorem get_map (f : α → α) : ∀ (t : Tr α) (i : Nat), (map f t).get i = (t.get i).map f
  | .nil, i => rfl
  | .node l x r, i => by
    cases i with
    | zero => rfl
    | succ i => simp only [map, get]; split <;> exact get_map f _ _
theorem Rel.map {t : Tr α} {l : List α} (h : Rel t l) (f : α → α) : Rel (Tr.map f t) (l.map f) := fun i => by rw [get_map, h i, List.getElem?_map]
end Tr
theorem freezeT_rel {st : VS} {s : St} (hs : st.Rel s) (F : List Nat) : (freezeT F st).Rel (frzS F s) := by
  have e : frzG (maskG F (getT st.heap)) [] 6 = fzL s.heap F := by rw [getT_eq hs.heap]; rfl
  refine ⟨?_, fun i => ?_, ?_⟩
  · show Tr.Rel (Tr.map (subV F (frzG (maskG F (getT st.heap)) [] 6)) st.slots) _
    rw [e]
    exact hs.slots.map _
  · show (Tr.mapIx (frzO F (frzG (maskG F (getT st.heap)) [] 6)) (fun n => n) st.heap).get i = (frzH s.heap F)[i]?
    rw [e, Tr.get_mapIx, frzH_get, hs.heap i]
  · show st.n = (frzH s.heap F).length
    rw [frzH_len]
    exact hs.n
theorem freezeLs_rel {st : VS} {s : St} (hs : st.Rel s) (F : List Nat) : ∀ {lows : List (Tr AV)} {ls : List (List AV)}, LRels lows ls → LRels (freezeLs F st lows) (frzLs F s ls) := by
  have e : frzG (maskG F (getT st.heap)) [] 6 = fzL s.heap F := by rw [getT_eq hs.heap]; rfl
  intro lows ls hl
  simp only [freezeLs, frzLs, e]
  induction lows generalizing ls with
  | nil => cases ls with
    | nil => trivial
    | cons l ls => exact hl.elim
  | cons t ts ih => cases ls with
    | nil => exact hl.elim
    | cons l ls => exact ⟨hl.1.map _, ih hl.2⟩
theorem wanted_frz {F : List Nat} {s : St} {gd : Option (Nat × Bool)} (h : wantedA s.slots gd = some true) : wantedA (frzS F s).slots gd = some true := by
  cases gd with
  | none => rfl
  | some q =>
    obtain ⟨d, b⟩ := q
    simp only [wantedA, frzS, List.getElem?_map] at h ⊢
    split at h
    · rename_i b' hd
      rw [hd]
      exact h
    · cases h
    · cases h

theorem loneT_sound (hC : ∀ f pas rs, callF f pas = some rs → Spec P f pas rs) {f : FuncId} {args : List AOpd} {a : AStep} {rest : List AStep} (hs : st.Rel s) (hl : LRels lows ls) (ho : a.op = .call f args) (hw : wantedA s.slots a.guard = some true) :
    StepOK P (.steps (a :: rest) :: frs) s ls (loneT callF f args a rest frs st lows) := by
  have key : ∀ {st : VS} {s : St} {lows : List (Tr AV)} {ls : List (List AV)}, st.Rel s → LRels lows ls → wantedA s.slots a.guard = some true → ∀ (mode : Bool) (pas : List PA) (rs : List RA), argsOf s.heap mode (args.map (AOpd.eval s.slots)) = some pas → callF f pas = some rs → (mode = true ∨ flatRs rs = true) → StepOK P (.steps (a :: rest) :: frs) s ls (.next (.steps rest :: frs) (backT st a.dst rs) lows) :=
    fun hs hl hw mode pas rs hp hr hm => ⟨_, _, called_rel hs a.dst rs, hl, fun Q hq => KAW.steps (s1 := [a]) (.call _ f args mode pas rs _ _ _ ho hw hp (hC _ _ _ hr) hm (.nil _)) hq⟩
  unfold loneT
  dsimp only
  split
  · rename_i pas hp
    rw [evalM hs] at hp
    split
    · rename_i rs hr
      exact key hs hl hw true pas rs (by simp only [argsOf, if_true]; exact hp) hr (.inl rfl)
    · trivial
  · have hs1 := freezeT_rel hs (tagsOf st (args.map (evalT st.slots)))
    have hl1 := freezeLs_rel hs (tagsOf st (args.map (evalT st.slots))) hl
    generalize tagsOf st (args.map (evalT st.slots)) = F at hs1 hl1
    split
    · rename_i pas hp
      rw [evalM hs1] at hp
      split
      · rename_i rs hr
        obtain ⟨s', ls', q1, q2, q3⟩ := key hs1 hl1 (wanted_frz hw) true pas rs (by simp only [argsOf, if_true]; exact hp) hr (.inl rfl)
        exact ⟨s', ls', q1, q2, fun Q hq => .weak (frz_weakL F s ls) (q3 Q hq)⟩
      · trivial
    · split
      · rename_i pas hp
        rw [evalM hs, getT_eq hs.heap, frzG_eq', ptrG_eq] at hp
        split
        · rename_i rs hr
          split
          · rename_i hf
            exact key hs hl hw false pas rs (by simp only [argsOf, Bool.false_eq_true, if_false]; exact hp) hr (.inr hf)
          · trivial
        · trivial
      · trivial

theorem drawT_sound {pl : Bool} (hC : ∀ f pas rs, callF f pas = some rs → Spec P f pas rs) (hcb : ∀ f, V.cb f = true → callable P f = true) {pre : List Nat} {ss : List AStep} {st st' : VS} {s : St} (hs : st.Rel s) (h : drawT callF V pl pre ss st = some st') :
    ∃ s1, st'.Rel s1 ∧ ∀ {ls : List (List AV)} {frs : List Fr} (Q : Exit → St → Prop), KAW P frs Q s1 ls → KAW P (.code (.reg (some pre) ss) :: frs) Q s ls := by
  unfold drawT at h
  split at h
  · rename_i L st1 hd
    split at h
    · rename_i ho
      obtain rfl := Option.some.inj h
      obtain ⟨L', s1, k1, k2, k3, k4⟩ := drawGo_sound hC hcb hs hd
      exact ⟨s1, k4, fun Q hq => .drawn ⟨L', s1, k1, k2, by rw [k3]; exact ho, hq⟩⟩
    · cases h
  · cases h

theorem splitL_eq : ∀ {ss s1 : List AStep} {s : AStep}, splitL ss = some (s1, s) → ss = s1 ++ [s]
  | [], s1, s, h => by cases h
  | x :: r, s1, s, h => by
    simp only [splitL] at h
    split at h
    · rename_i hr
      simp only [Option.some.injEq, Prod.mk.injEq] at h
      obtain ⟨rfl, rfl⟩ := h
      cases r with
      | nil => rfl
      | cons y r =>
        exfalso
        simp only [splitL] at hr
        split at hr <;> cases hr
    · rename_i a b hr
      simp only [Option.some.injEq, Prod.mk.injEq] at h
      obtain ⟨rfl, rfl⟩ := h
      rw [splitL_eq hr]
      rfl

theorem drawL_sound {b : Bool} (hC : ∀ f pas rs, callF f pas = some rs → Spec P f pas rs) (hcb : ∀ f, V.cb f = true → callable P f = true) {pre : List Nat} {ss : List AStep} {st st' : VS} {s : St} (hs : st.Rel s) (h : drawL callF V b pre ss st = some st') :
    ∃ s1, st'.Rel s1 ∧ ∀ {ls : List (List AV)} {frs : List Fr} (Q : Exit → St → Prop), KAW P frs Q s1 ls → KAW P (.code (.reg (some pre) ss) :: frs) Q s ls := by
  cases b with
  | true => exact drawT_sound hC hcb hs h
  | false => cases h

theorem updAll_rel : ∀ {ups : List (Nat × AObj)} {t : Tr AObj} {h : List AObj}, Tr.Rel t h → Tr.Rel (updAll t ups) (wrH h ups)
  | [], _, _, hr => hr
  | p :: ps, _, _, hr => updAll_rel (ups := ps) (hr.upd p.2 p.1)
def HOK (P : Program) (V : VP) : Prop := ∀ f hf, V.H f = some hf → ∀ avs h y ups, hf avs (getRow h) = some (y, ups) → ACall P f avs h y (wrH h ups)

theorem vstep_sound (hH : HOK P V) (hC : ∀ f pas rs, callF f pas = some rs → Spec P f pas rs) (hF : ∀ f af, V.F f = some af → compFun P f = some af) (hcb : ∀ f, V.cb f = true → callable P f = true)
    (hs : st.Rel s) (hl : LRels lows ls) : StepOK P frs s ls (vstep callF V frs st lows) := by
  unfold vstep
  split
  · exact ⟨s, hs, (fun id e => by cases e), fun Q hq => .here hq⟩
  · rename_i c frs
    split
    · exact ⟨s, ls, hs, hl, fun Q hq => .skip hq⟩
    · exact ⟨s, ls, hs, hl, fun Q hq => .seq hq⟩
    · rename_i z a b
      rw [evalT_eq hs.slots]
      split
      · rename_i hz
        exact ⟨s, ls, hs, hl, fun Q hq => .cond hz hq⟩
      · rename_i hz
        exact ⟨s, ls, hs, hl, fun Q hq => .cond hz hq⟩
      · trivial
    · exact ⟨s, ls, hs, hl, fun Q hq => .block hq⟩
    · exact ⟨s, ls, hs, hl, fun Q hq => .scope hq⟩
    · exact ⟨s, ls, hs, hl, fun Q hq => .loop hq⟩
    · exact ⟨s, ls, hs, hl, fun Q hq => .reg hq⟩
    · rename_i pre ss
      split
      · rename_i st' hd
        obtain ⟨s1, k4, k5⟩ := drawL_sound hC hcb (freezeT_rel hs (regTags ss st)) hd
        exact ⟨s1, _, k4, freezeLs_rel hs (regTags ss st) hl, fun Q hq => .weak (frz_weakL (regTags ss st) s ls) (k5 Q hq)⟩
      split
      · rename_i st' hd
        obtain ⟨s1, k4, k5⟩ := drawT_sound hC hcb hs hd
        exact ⟨s1, ls, k4, hl, fun Q hq => k5 Q hq⟩
      · split
        · rename_i st' hd
          obtain ⟨s1, k4, k5⟩ := drawT_sound hC hcb (freezeT_rel hs (regTags ss st)) hd
          exact ⟨s1, _, k4, freezeLs_rel hs (regTags ss st) hl, fun Q hq => .weak (frz_weakL (regTags ss st) s ls) (k5 Q hq)⟩
        · split
          · rename_i s1 sl hsp
            split
            · rename_i hl1
              split
              · rename_i st' hd
                obtain rfl := splitL_eq hsp
                simp only [Bool.and_eq_true] at hl1
                unfold drawT at hd
                split at hd
                · rename_i L st1 hg
                  split at hd
                  · rename_i ho
                    obtain rfl := Option.some.inj hd
                    obtain ⟨L', s1', k1, k2, k3, k4⟩ := drawGo_sound hC hcb hs hg
                    exact ⟨s1', ls, k4, hl, fun Q hq => .drawnL k1 k2 (by rw [k3]; exact ho) hl1.1 hq⟩
                  · cases hd
                · cases hd
              · trivial
            · trivial
          · trivial
    · rename_i id
      split
      · rename_i frs' hx
        exact ⟨s, ls, hs, hl, fun Q hq => .exit hx hq⟩
      · rename_i hx
        split
        · rename_i hnb
          split
          · rename_i dst pos frs0 hb
            split
            · rename_i hnr
              split
              · rename_i low lows'
                cases ls with
                | nil => exact hl.elim
                | cons l ls =>
                  obtain ⟨h1, h2⟩ := hl
                  exact ⟨⟨_, s.heap⟩, _, ⟨setT_rel h1 _ _, hs.heap, hs.n⟩, h2.set (pend_rel' (id + 2)) pos, fun Q hq => .rndX hx hnb hb hnr hq⟩
              · trivial
            · trivial
          · trivial
        · trivial
    · split
      · rename_i dst pos frs0 hb
        split
        · rename_i hnr
          split
          · rename_i low lows'
            cases ls with
            | nil => exact hl.elim
            | cons l ls =>
              obtain ⟨h1, h2⟩ := hl
              exact ⟨⟨_, s.heap⟩, _, ⟨setT_rel h1 _ _, hs.heap, hs.n⟩, h2.set (pend_rel' 1) pos, fun Q hq => .rndR hb hnr hq⟩
          · trivial
        · trivial
      · split
        · rename_i hnb
          exact retTo_sound hs hl (fun Q hb hq => .retB hb hq) (fun Q hk => .retK rfl hnb hk)
        · trivial
    · rename_i z ps ac bc
      rw [evalT_eq hs.slots]
      split
      · rename_i f caps hz
        split
        · rename_i af h1 h2 h3
          simp only [Bool.and_eq_true] at h3
          split
          · rename_i hres
            exact ⟨⟨start af.nt (.yl :: caps), s.heap⟩, [.p (.int .u64 0)] :: s.slots :: ls, ⟨start_rel _ _, hs.heap, hs.n⟩, ⟨pend_rel' 0, hs.slots, hl⟩, fun Q hq => .range hz (hF _ _ h2) (hcb _ h1) hres h3.1 (noYT_eq hs hl h3.2) hq⟩
          · trivial
        · trivial
      · trivial
    · trivial
  · exact ⟨s, ls, hs, hl, fun Q hq => .unblk hq⟩
  · exact ⟨s, ls, hs, hl, fun Q hq => .unscp hq⟩
  · exact ⟨s, ls, hs, hl, fun Q hq => .again hq⟩
  · split
    · rename_i h1 h2
      exact ⟨s, ls, hs, hl, fun Q hq => .brd h2 h1 hq⟩
    · trivial
  · rename_i dst pos frs0
    split
    · rename_i hnr
      split
      · rename_i low lows'
        cases ls with
        | nil => exact hl.elim
        | cons l ls =>
          obtain ⟨h1, h2⟩ := hl
          exact ⟨⟨_, s.heap⟩, _, ⟨setT_rel h1 _ _, hs.heap, hs.n⟩, h2.set (pend_rel' 0) pos, fun Q hq => .rndN hnr hq⟩
      · trivial
    · trivial
  · trivial
  · exact retTo_sound hs hl (fun Q hb hq => by cases hb) (fun Q hk => .endK rfl hk)
  · exact retTo_sound hs hl (fun Q hb hq => by cases hb) (fun Q hk => .endK rfl hk)
  · rename_i ss frs
    generalize hops : opsT ss st = r
    obtain ⟨rest, st1⟩ := r
    obtain ⟨pre, s1, rfl, k1, k2⟩ := opsT_sound hs hops
    have lift : ∀ r : VRes, StepOK P (.steps rest :: frs) s1 ls r → StepOK P (.steps (pre ++ rest) :: frs) s ls r := by
      intro r hr
      cases r with
      | next frs' st' lows' =>
        obtain ⟨s', ls', a, b, c⟩ := hr
        exact ⟨s', ls', a, b, fun Q hq => .steps k1 (c Q hq)⟩
      | done e st' =>
        obtain ⟨s', a, b, c⟩ := hr
        exact ⟨s', a, b, fun Q hq => .steps k1 (c Q hq)⟩
      | stuck n => trivial
    refine lift _ ?_
    clear lift hops k1
    split
    · rename_i heq
      simp only [Prod.mk.injEq] at heq
      obtain ⟨rfl, rfl⟩ := heq
      exact ⟨s1, ls, k2, hl, fun Q hq => .steps_nil hq⟩
    · rename_i a rest' st' heq
      simp only [Prod.mk.injEq] at heq
      obtain ⟨rfl, rfl⟩ := heq
      rw [wantT_eq k2.slots]
      split
      · rename_i hw
        split
        · rename_i f args ho
          split
          · rename_i hf hh
            rw [evalM k2, getT_eq k2.heap]
            split
            · rename_i y ups hy
              exact ⟨⟨setD s1.slots a.dst y, wrH s1.heap ups⟩, ls, ⟨setT_rel k2.slots _ _, updAll_rel k2.heap, by rw [wrH_len]; exact k2.n⟩, hl, fun Q hq => .steps (s1 := [a]) (.inl a f args y _ [] _ _ ho hw (hH _ _ hh _ _ _ _ hy) (.nil _)) hq⟩
            · trivial
          split
          · exact loneT_sound hC k2 hl ho hw
          · rw [evalM k2]
            exact enterT_sound hF k2 hl fun af haf Q hq => .callS haf hw ho hq
        · rename_i x args ho
          rw [evalT_eq k2.slots]
          split
          · rename_i f caps hx
            split
            · rename_i hc
              exact enterT_sound hF k2 hl fun af haf Q hq => .callV haf (hcb _ hc) hw ho hx hq
            · trivial
          · rename_i f firsts hx
            split
            · rename_i hc
              exact enterT_sound hF k2 hl fun af haf Q hq => .callB haf (hcb _ hc) hw ho hx hq
            · trivial
          · rename_i hx
            split
            · rename_i pos ps ac bc hnr hrf
              split
              · rename_i pd lsl hp1 hp2
                split
                · rename_i hp
                  split
                  · rename_i hlen hlen1
                    obtain ⟨l0, g1, g2⟩ := hl.get hp1
                    obtain ⟨l1, g3, g4⟩ := hl.get hp2
                    obtain rfl := pend0 g2 hp hlen1
                    exact ⟨⟨_, s1.heap⟩, s1.slots :: ls, ⟨putPs_relT g4, k2.heap, k2.n⟩, ⟨k2.slots, hl⟩, fun Q hq => .yield hw ho hx hnr hrf g1 g3 (by simpa using Nat.eq_of_beq_eq_true hlen) hq⟩
                  · trivial
                · trivial
              · trivial
            · trivial
          · trivial
        · trivial
      · trivial

theorem vrun_sound (hH : HOK P V) (hC : ∀ f pas rs, callF f pas = some rs → Spec P f pas rs) (hF : ∀ f af, V.F f = some af → compFun P f = some af) (hcb : ∀ f, V.cb f = true → callable P f = true) :
    ∀ (n : Nat) {frs : List Fr} {st : VS} {s : St} {lows : List (Tr AV)} {ls : List (List AV)} {e : EX'} {st' : VS}, st.Rel s → LRels lows ls → vrun callF V n frs st lows = some (e, st') →
      ∃ s', st'.Rel s' ∧ (∀ id, e ≠ .exit id) ∧ ∀ Q : Exit → St → Prop, Q e.to s' → KAW P frs Q s ls
  | 0, frs, st, s, lows, ls, e, st', hs, hl, h => by simp [vrun] at h
  | n + 1, frs, st, s, lows, ls, e, st', hs, hl, h => by
    simp only [vrun] at h
    have hstep := vstep_sound (frs := frs) hH hC hF hcb hs hl
    split at h
    · rename_i frs1 st1 lows1 hv
      rw [hv] at hstep
      obtain ⟨s1, ls1, k1, k2, k3⟩ := hstep
      obtain ⟨s', a, b, c⟩ := vrun_sound hH hC hF hcb n k1 k2 h
      exact ⟨s', a, b, fun Q hq => k3 Q (c Q hq)⟩
    · rename_i e1 st1 hv
      rw [hv] at hstep
      simp only [Option.some.injEq, Prod.mk.injEq] at h
      obtain ⟨rfl, rfl⟩ := h
      exact hstep
    · cases h

theorem frzL_pureX {g : AV → Option PV} (hg : ∀ x, g (.p x) = some x) : ∀ (l : List PV), frzL g (l.map AV.p) = some l
  | [] => rfl
  | x :: l => by rw [List.map_cons, frzL, hg, frzL_pureX hg l]
theorem frzE_pureX {g : AV → Option PV} (hg : ∀ x, g (.p x) = some x) : ∀ (es : List (List PV)), frzE g (es.map (·.map AV.p)) = some es
  | [] => rfl
  | x :: es => by rw [List.map_cons, frzE, frzL_pureX hg, frzE_pureX hg es]
theorem raOf_noagg {h : List AObj} {bad : List Nat} {own : Bool} {a : AV} {v : RC} (hn : ∀ cs, a ≠ .agg cs) (hf : rcOf h bad own a = some v) : raOf h bad own a = some (.c v) := by
  unfold raOf
  split
  · rename_i cs
    exact absurd rfl (hn cs)
  · rw [hf]
theorem rc_frz {h : List AObj} {x : RC} {T : Nat} (hs : match x with | .s _ size _ => 0 < size | _ => True) (hh : ∀ (i : Nat) (o : AObj), (rcObj x)[i]? = some o → h[T + i]? = some o) : rcOf h [] false (rcVal T x) = some x.frz := by
  cases x with
  | c v => rfl
  | e b => rfl
  | s e size es =>
    have h0 := hh 0 ⟨2, e, size, es.map (·.map .p)⟩ rfl
    have hs : 0 < size := hs
    have : getRow h T 2 = some ⟨2, e, size, es.map (·.map .p)⟩ := by
      unfold getRow
      rw [show h[T]? = some ⟨2, e, size, es.map (·.map .p)⟩ from h0]
      simp; omega
    have h6 : Go.Abs.frz h [] 6 (.row T 2) = some (.sl es) := by
      show (if ([] : List Nat).contains T then none else match getRow h T 2 with | some o => (match frzE (Go.Abs.frz h [] 5) o.elems with | some es => some (PV.sl es) | none => none) | none => none) = _
      rw [this]
      simp [frzE_pureX (g := Go.Abs.frz h [] 5) (fun x => rfl)]
    simp only [rcVal, rcOf, Bool.false_eq_true, if_false, h6, RC.frz]

def RC.pos : RC → Prop
  | .s _ size _ => 0 < size
  | _ => True
def RA.pos : RA → Prop
  | .c x => x.pos
  | .a xs => ∀ x ∈ xs, x.pos

theorem rcs_frz {h : List AObj} : ∀ {xs : List RC} {T : Nat}, (∀ x ∈ xs, x.pos) → (∀ (i : Nat) (o : AObj), (rcsObj xs)[i]? = some o → h[T + i]? = some o) → rcsOf h [] false (rcsVal T xs) = some (xs.map RC.frz)
  | [], _, _, _ => rfl
  | x :: xs, T, hp, hh => by
    have h1 := rc_frz (h := h) (x := x) (T := T) (by have := hp x (by simp); cases x <;> exact this) (fun i o ho => hh i o (by
      simp only [rcsObj]
      rw [List.getElem?_append_left (List.getElem?_eq_some_iff.1 ho).1]
      exact ho))
    have h2 := rcs_frz (h := h) (xs := xs) (T := T + (rcObj x).length) (fun y hy => hp y (by simp [hy])) (fun i o ho => by
      rw [Nat.add_assoc]
      exact hh _ o (by
        simp only [rcsObj]
        rw [List.getElem?_append_right (by omega), Nat.add_sub_cancel_left]
        exact ho))
    simp only [rcsVal, rcsOf, h1, h2, List.map_cons]
theorem rcVal_noagg {T : Nat} {x : RC} : ∀ cs, rcVal T x ≠ .agg cs := by
  intro cs e
  cases x <;> cases e
theorem ra_frz {h : List AObj} {x : RA} {T : Nat} (hp : x.pos) (hh : ∀ (i : Nat) (o : AObj), (raObj x)[i]? = some o → h[T + i]? = some o) : raOf h [] false (raVal T x) = some x.frz := by
  cases x with
  | c x =>
    refine raOf_noagg rcVal_noagg (rc_frz (by cases x <;> exact hp) hh)
  | a xs =>
    simp only [raVal, raOf, rcs_frz hp hh]
    rfl
theorem ras_frz {h : List AObj} : ∀ {xs : List RA} {T : Nat}, (∀ x ∈ xs, x.pos) → (∀ (i : Nat) (o : AObj), (rasObj xs)[i]? = some o → h[T + i]? = some o) → rasOf' h [] false (rasVal T xs) = some (xs.map RA.frz)
  | [], _, _, _ => rfl
  | x :: xs, T, hp, hh => by
    have h1 := ra_frz (h := h) (x := x) (T := T) (hp x (by simp)) (fun i o ho => hh i o (by
      simp only [rasObj]
      rw [List.getElem?_append_left (List.getElem?_eq_some_iff.1 ho).1]
      exact ho))
    have h2 := ras_frz (h := h) (xs := xs) (T := T + (raObj x).length) (fun y hy => hp y (by simp [hy])) (fun i o ho => by
      rw [Nat.add_assoc]
      exact hh _ o (by
        simp only [rasObj]
        rw [List.getElem?_append_right (by omega), Nat.add_sub_cancel_left]
        exact ho))
    simp only [rasVal, rasOf', h1, h2, List.map_cons]

theorem Spec.frz {P : Program} {f : FuncId} {pas : List PA} {rs : List RA} (hp : ∀ x ∈ rs, x.pos) (h : Spec P f pas rs) : Spec P f pas (rs.map RA.frz) := fun O w cargs hO hgl ha =>
  (h O w cargs hO hgl ha).mono fun e w' ⟨v, ι, he, hι, hh, hv⟩ => by
    have hx : rasOf (rasObj rs) false (rasVal 0 rs) = some (rs.map RA.frz) := by
      simp only [rasOf, Bool.false_eq_true, if_false]
      exact ras_frz hp (fun i o ho => by simpa using ho)
    have hvs : ∃ vs : List Value, retC vs = v ∧ vs.length = (rasVal 0 rs).length ∧ ∀ (i : Nat) (x : AV) (u : Value), (rasVal 0 rs)[i]? = some x → vs[i]? = some u → VR (rasObj rs) ι w' x u := by
      generalize rasVal 0 rs = xs at hv
      have tup : xs.length ≠ 1 → VR (rasObj rs) ι w' (.tuple xs) v → ∃ vs : List Value, retC vs = v ∧ vs.length = xs.length ∧ ∀ (i : Nat) (x : AV) (u : Value), xs[i]? = some x → vs[i]? = some u → VR (rasObj rs) ι w' x u := fun hl hv => by
        cases hv with
        | tuple _ vs hl2 hr =>
          refine ⟨vs.toList, ?_, by simp [hl2], fun i x u hx hu => hr i x u hx (by simpa using hu)⟩
          unfold retC
          split
          · rename_i a ha
            have := congrArg List.length ha
            simp at this
            omega
          · simp
      match xs, hv, tup with
      | [], hv, tup => exact tup (by simp) hv
      | [x], hv, _ => exact ⟨[v], rfl, rfl, fun i y u hy hu => by
          cases i with
          | zero => simp at hy hu; subst hy; subst hu; exact hv
          | succ i => simp at hy⟩
      | x :: y :: xs, hv, tup => exact tup (by simp) hv
    obtain ⟨vs, rfl, hl, hr⟩ := hvs
    obtain ⟨κ, q1, q2, q3⟩ := ret_rel hh hx hl hr
    exact ⟨_, κ, he, q1.trans hι, q2, q3⟩

theorem RC.pos_of {x : RC} (h : x.posB = true) : x.pos := by
  cases x with
  | s e size es => simpa [RC.posB, RC.pos] using h
  | _ => trivial
theorem RA.pos_of {x : RA} (h : x.posB = true) : x.pos := by
  cases x with
  | c x => exact RC.pos_of h
  | a xs => exact fun y hy => RC.pos_of (List.all_eq_true.1 h y hy)
theorem frzRs_sound {P : Program} {f : FuncId} {pas : List PA} {b : Bool} {r : Option (List RA)} {rs : List RA} (hr : ∀ rs', r = some rs' → Spec P f pas rs') (h : frzRs b r = some rs) : Spec P f pas rs := by
  unfold frzRs at h
  split at h
  · exact hr _ h
  · split at h
    · rename_i rs'
      split at h
      · rename_i hp
        obtain rfl := Option.some.inj h
        exact (hr _ rfl).frz fun x hx => RA.pos_of (List.all_eq_true.1 hp x hx)
      · cases h
    · cases h

theorem vcall_sound (hH : HOK P V) (hK : ∀ f pas rs, V.K f pas = some rs → Spec P f pas rs) (hF : ∀ f af, V.F f = some af → compFun P f = some af) (hcb : ∀ f, V.cb f = true → callable P f = true) (k : Nat) :
    ∀ (d : Nat) (f : FuncId) (pas : List PA) (rs : List RA), vcall V k d f pas = some rs → Spec P f pas rs
  | 0, f, pas, rs, h => by simp [vcall] at h
  | d + 1, f, pas, rs, h => by
    have ih := vcall_sound hH hK hF hcb k d
    simp only [vcall] at h
    split at h
    · rename_i rs' hk
      obtain rfl := Option.some.inj h
      exact hK _ _ _ hk
    · split at h
      · rename_i af haf
        generalize hr : vrun (vcall V k d) V k [.code af.body] ⟨startT' af.nt (pas.map PA.av), .nil, 0⟩ [] = r at h
        refine frzRs_sound (r := vfin af r) (fun rs1 h1 => ?_) h
        clear h
        revert h1
        intro h
        unfold vfin at h
        split at h
        · rename_i e st
          obtain ⟨s', a, b, c⟩ := vrun_sound (s := ⟨start af.nt (pas.map PA.av), []⟩) (lows := []) (ls := []) hH ih hF hcb k ⟨start_rel _ _, .nil, rfl⟩ trivial hr
          rw [resG_eq a] at h
          have hee : e.to = .normal ∨ e.to = .ret := by
            cases e with
            | normal => exact .inl rfl
            | exit id => exact absurd rfl (b id)
            | ret => exact .inr rfl
          split at h
          · rename_i xs hxs
            rw [getT_eq a.heap, rasG_eq, rasG_eq] at h
            split at h
            · rename_i rs' hrs
              obtain rfl := Option.some.inj h
              exact SpecK_of (own := true) (hF f af haf) (c _ ⟨hee, xs, hxs, hrs⟩)
            · exact SpecK_of (own := false) (hF f af haf) (c _ ⟨hee, xs, hxs, h⟩)
          · cases h
        · cases h
      · cases h
end
end Go.Abs
