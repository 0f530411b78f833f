/- What comes back; code; its rules. -/
import Derived.Test.YtfdpoliibpelaaaAbsCtl2
set_option linter.unusedVariables false
set_option linter.unusedSimpArgs false
set_option linter.unnecessarySimpa false
set_option linter.unusedSectionVars false
set_option linter.constructorNameAsVariable false
namespace Go.Abs
open Go.RowKit (Below)

/- results -/
def topC : AV → List Nat
  | .row t _ => [t]
  | _ => []
def topA : AV → List Nat
  | .agg cs => cs.flatMap topC
  | x => topC x
def tops (xs : List AV) : List Nat := xs.flatMap topA

def rcOf (h : List AObj) (bad : List Nat) (own : Bool) : AV → Option RC
  | .row t ver =>
    if own then match getRow h t ver with
      | some o => (match frzE (frz h bad 6) o.elems with | some es => some (.s o.e o.size es) | none => none)
      | none => none
    else match frz h bad 6 (.row t ver) with | some v => some (.c v) | none => none
  | x => match frz h bad 6 x with | some v => some (.c v) | none => none
def rcsOf (h : List AObj) (bad : List Nat) (own : Bool) : List AV → Option (List RC)
  | [] => some []
  | x :: xs => match rcOf h bad own x, rcsOf h bad own xs with | some a, some b => some (a :: b) | _, _ => none
def raOf (h : List AObj) (bad : List Nat) (own : Bool) : AV → Option RA
  | .agg cs => match rcsOf h bad own cs with | some l => some (.a l) | none => none
  | x => match rcOf h bad own x with | some v => some (.c v) | none => none
def rasOf' (h : List AObj) (bad : List Nat) (own : Bool) : List AV → Option (List RA)
  | [] => some []
  | x :: xs => match raOf h bad own x, rasOf' h bad own xs with | some a, some b => some (a :: b) | _, _ => none
def nodupB : List Nat → Bool
  | [] => true
  | x :: xs => !xs.contains x && nodupB xs
/-- the results of a state as a contract tells them; own: rows stay rows -/
def rasOf (h : List AObj) (own : Bool) (xs : List AV) : Option (List RA) :=
  if own then (if nodupB (tops xs) then rasOf' h (tops xs) true xs else none) else rasOf' h [] false xs

def retC : List Value → Value
  | [v] => v
  | vs => .tuple vs.toArray

theorem nodupB_nodup : ∀ {l : List Nat}, nodupB l = true → l.Nodup
  | [], _ => List.nodup_nil
  | x :: xs, h => by
    simp only [nodupB, Bool.and_eq_true, Bool.not_eq_true'] at h
    exact List.nodup_cons.2 ⟨by simpa using h.1, nodupB_nodup h.2⟩

section
variable {B : Nat} {w0 w : World} {h : List AObj} {ι : Em}

/-- the tags of a result, and what becomes of each -/
structure RowsOK (B : Nat) (w : World) (O : Nat → Prop) (ι : Em) (ts : List Nat) (os : List AObj) : Prop where
  len : os.length = ts.length
  obj : ∀ (i t : Nat) (o : AObj), ts[i]? = some t → os[i]? = some o → o.ver = 1 ∧ 0 < o.size ∧ ∃ xs, w.ownsRow B o.e o.size (ι t) o.elems.length xs ∧
    ∀ (i : Nat) (e : List AV), o.elems[i]? = some e → e.length = o.size ∧ ∀ (j : Nat) (x : AV), e[j]? = some x → ∃ v y, xs[i * o.size + j]? = some v ∧ x = .p y ∧ PRel w O y v

theorem RowsOK.nil (B : Nat) (w : World) (O : Nat → Prop) (ι : Em) : RowsOK B w O ι [] [] := ⟨rfl, fun i t o ht => by simp at ht⟩
theorem RowsOK.app {O : Nat → Prop} {t1 t2 : List Nat} {o1 o2 : List AObj} (a : RowsOK B w O ι t1 o1) (b : RowsOK B w O ι t2 o2) : RowsOK B w O ι (t1 ++ t2) (o1 ++ o2) := by
  refine ⟨by simp [a.len, b.len], fun i t o ht ho => ?_⟩
  by_cases hi : i < t1.length
  · rw [List.getElem?_append_left hi] at ht
    rw [List.getElem?_append_left (by rw [a.len]; exact hi)] at ho
    exact a.obj i t o ht ho
  · rw [List.getElem?_append_right (by omega)] at ht
    rw [List.getElem?_append_right (by rw [a.len]; omega), a.len] at ho
    exact b.obj _ t o ht ho

/-- κ tells where the rows of a result lie -/
def KOK (κ ι : Em) (T : Nat) (ts : List Nat) : Prop := ∀ i t : Nat, ts[i]? = some t → κ (T + i) = ι t

theorem KOK.left {κ ι : Em} {T : Nat} {a b : List Nat} (h : KOK κ ι T (a ++ b)) : KOK κ ι T a := fun i t ht =>
  h i t (by rw [List.getElem?_append_left (List.getElem?_eq_some_iff.1 ht).1]; exact ht)
theorem KOK.right {κ ι : Em} {T : Nat} {a b : List Nat} (h : KOK κ ι T (a ++ b)) : KOK κ ι (T + a.length) b := fun i t ht => by
  rw [Nat.add_assoc]
  exact h _ t (by rw [List.getElem?_append_right (by omega), Nat.add_sub_cancel_left]; exact ht)

variable {bad : List Nat} {O : Nat → Prop}

theorem rcOf_ok (hr : HRel B w0 h ι w) (hO : ∀ g, O g → Own h.length ι g) (hbad : ∀ t g, t < h.length → bad.contains t = false → (ι t).ownBlock = some g → ¬ O g) {own : Bool} {x : AV} {v : Value} (hv : VR h ι w x v) {r : RC} (hx : rcOf h bad own x = some r) :
    RowsOK B w O ι (if own then topC x else []) (rcObj r) ∧ ∀ (k : List AObj) (κ : Em) (T : Nat), T + (rcObj r).length ≤ k.length → (∀ (i : Nat) (o : AObj), (rcObj r)[i]? = some o → k[T + i]? = some o) → KOK κ ι T (if own then topC x else []) → VRel k κ w O (rcVal T r) v := by
  have pure : ∀ {y : PV}, frz h bad 6 x = some y → r = .c y → (if own then topC x else []) = [] → RowsOK B w O ι (if own then topC x else []) (rcObj r) ∧ ∀ (k : List AObj) (κ : Em) (T : Nat), T + (rcObj r).length ≤ k.length → (∀ (i : Nat) (o : AObj), (rcObj r)[i]? = some o → k[T + i]? = some o) → KOK κ ι T (if own then topC x else []) → VRel k κ w O (rcVal T r) v := by
    intro y hy hry ht
    subst hry
    rw [ht]
    exact ⟨.nil _ _ _ _, fun k κ T _ _ _ => .p _ _ (frz_rel hr hO hbad 6 hv hy)⟩
  unfold rcOf at hx
  split at hx
  · rename_i t ver
    split at hx
    · rename_i how
      simp only [how, if_true, topC]
      split at hx
      · rename_i o hgo
        split at hx
        · rename_i es hes
          obtain rfl := Option.some.inj hx
          obtain ⟨hot, hov⟩ := getRow_some hgo
          obtain ⟨hs, xs, hown, hel, u, hu⟩ := row_view hr hot (getRow_live hgo)
          obtain ⟨hl, hg⟩ := frzE_get hes
          have hv2 := hv
          cases hv with
          | row _ _ _ ht hone hob =>
            have hvt := (hob o hot).2 hov
            refine ⟨⟨rfl, fun i t' o' ht' ho' => ?_⟩, fun k κ T hk hkk hκ => ?_⟩
            · cases i with
              | succ i => simp at ht'
              | zero =>
                simp only [List.getElem?_cons_zero, Option.some.injEq] at ht'
                subst ht'
                simp only [rcObj, List.getElem?_cons_zero, Option.some.injEq] at ho'
                subst ho'
                refine ⟨rfl, hs, xs, by simpa [hl] using hown, fun i e he => ?_⟩
                simp only [List.getElem?_map, Option.map_eq_some_iff] at he
                obtain ⟨e', he', rfl⟩ := he
                have hi : i < o.elems.length := by rw [← hl]; exact (List.getElem?_eq_some_iff.1 he').1
                have hfe := hg i _ e' (List.getElem?_eq_getElem hi) he'
                obtain ⟨g1, g2⟩ := frzL_get hfe
                have hle := hel i _ (List.getElem?_eq_getElem hi)
                refine ⟨by simp [g1, hle], fun j z hz => ?_⟩
                simp only [List.getElem?_map, Option.map_eq_some_iff] at hz
                obtain ⟨q, hq, rfl⟩ := hz
                have hj : j < (o.elems[i]).length := by rw [← g1]; exact (List.getElem?_eq_some_iff.1 hq).1
                obtain ⟨h5, h6⟩ := hu i _ (List.getElem?_eq_getElem hi) j _ (List.getElem?_eq_getElem hj)
                exact ⟨_, q, h5, rfl, frz_rel hr hO hbad 6 h6 (g2 j _ q (List.getElem?_eq_getElem hj) hq)⟩
            · refine .row _ _ _ (by simp [rcObj] at hk; omega) hone fun o' ho' => ?_
              have h7 := hkk 0 _ (by simp [rcObj]; rfl)
              rw [Nat.add_zero, ho'] at h7
              obtain rfl := Option.some.inj h7
              refine ⟨Nat.le_refl _, fun _ => ?_⟩
              have := hκ 0 t rfl
              rw [Nat.add_zero] at this
              rw [this]
              exact hvt
        · cases hx
      · cases hx
    · rename_i how
      split at hx
      · rename_i v' hv'
        exact pure hv' (Option.some.inj hx).symm (by simp [how])
      · cases hx
  · rename_i hnr
    split at hx
    · rename_i v' hv'
      refine pure hv' (Option.some.inj hx).symm ?_
      split
      · cases x <;> first | rfl | exact absurd rfl (hnr _ _)
      · rfl
    · cases hx

theorem rcsOf_ok (hr : HRel B w0 h ι w) (hO : ∀ g, O g → Own h.length ι g) (hbad : ∀ t g, t < h.length → bad.contains t = false → (ι t).ownBlock = some g → ¬ O g) {own : Bool} : ∀ {xs : List AV} {rs : List RC}, rcsOf h bad own xs = some rs →
    ∀ {vs : List Value}, vs.length = xs.length → (∀ (i : Nat) (x : AV) (v : Value), xs[i]? = some x → vs[i]? = some v → VR h ι w x v) →
    rs.length = xs.length ∧ RowsOK B w O ι (if own then xs.flatMap topC else []) (rcsObj rs) ∧ ∀ (k : List AObj) (κ : Em) (T : Nat), T + (rcsObj rs).length ≤ k.length → (∀ (i : Nat) (o : AObj), (rcsObj rs)[i]? = some o → k[T + i]? = some o) → KOK κ ι T (if own then xs.flatMap topC else []) →
      ∀ (i : Nat) (y : AV) (v : Value), (rcsVal T rs)[i]? = some y → vs[i]? = some v → VRel k κ w O y v
  | [], rs, hx, vs, hl, hv => by
    simp only [rcsOf, Option.some.injEq] at hx
    subst hx
    refine ⟨rfl, by cases own <;> exact .nil _ _ _ _, fun k κ T _ _ _ i y v hy => by simp [rcsVal] at hy⟩
  | x :: xs, rs, hx, vs, hl, hv => by
    simp only [rcsOf] at hx
    split at hx
    · rename_i r rs' hr1 hr2
      obtain rfl := Option.some.inj hx
      cases vs with
      | nil => simp at hl
      | cons v vs =>
        obtain ⟨a1, a2⟩ := rcOf_ok hr hO hbad (hv 0 x v rfl rfl) hr1
        obtain ⟨b0, b1, b2⟩ := rcsOf_ok hr hO hbad hr2 (vs := vs) (by simpa using hl) (fun i x v hx hv' => hv (i + 1) x v (by simpa using hx) (by simpa using hv'))
        have hts : (if own then (x :: xs).flatMap topC else []) = (if own then topC x else []) ++ (if own then xs.flatMap topC else []) := by cases own <;> simp
        rw [hts]
        refine ⟨by simp [b0], a1.app b1, fun k κ T hk hkk hκ i y u hy hu => ?_⟩
        have hlen := a1.len
        cases i with
        | zero =>
          simp only [rcsVal, List.getElem?_cons_zero, Option.some.injEq] at hy hu
          subst hy; subst hu
          refine a2 k κ T (by simp only [rcsObj, List.length_append] at hk; omega) (fun i o ho => hkk i o (by simp only [rcsObj]; rw [List.getElem?_append_left (List.getElem?_eq_some_iff.1 ho).1]; exact ho)) hκ.left
        | succ i =>
          simp only [rcsVal, List.getElem?_cons_succ] at hy hu
          refine b2 k κ (T + (rcObj r).length) (by simp only [rcsObj, List.length_append] at hk; omega) (fun i o ho => ?_) (by rw [hlen]; exact hκ.right) i y u hy hu
          rw [Nat.add_assoc]
          exact hkk _ o (by simp only [rcsObj]; rw [List.getElem?_append_right (by omega), Nat.add_sub_cancel_left]; exact ho)
    · cases hx

theorem raOf_ok (hr : HRel B w0 h ι w) (hO : ∀ g, O g → Own h.length ι g) (hbad : ∀ t g, t < h.length → bad.contains t = false → (ι t).ownBlock = some g → ¬ O g) {own : Bool} {x : AV} {v : Value} (hv : VR h ι w x v) {r : RA} (hx : raOf h bad own x = some r) :
    RowsOK B w O ι (if own then topA x else []) (raObj r) ∧ ∀ (k : List AObj) (κ : Em) (T : Nat), T + (raObj r).length ≤ k.length → (∀ (i : Nat) (o : AObj), (raObj r)[i]? = some o → k[T + i]? = some o) → KOK κ ι T (if own then topA x else []) → VRel k κ w O (raVal T r) v := by
  unfold raOf at hx
  split at hx
  · rename_i cs
    split at hx
    · rename_i l hl
      obtain rfl := Option.some.inj hx
      cases hv with
      | agg _ vs h1 h2 =>
        obtain ⟨b0, b1, b2⟩ := rcsOf_ok hr hO hbad hl (vs := vs.toList) (by simpa using h1) (fun i x v hx hv => h2 i x v hx (by simpa using hv))
        refine ⟨b1, fun k κ T hk hkk hκ => .agg _ _ (by rw [rcsVal_len, b0, h1]) fun i y u hy hu => b2 k κ T hk hkk hκ i y u hy (by simpa using hu)⟩
    · cases hx
  · rename_i hna
    split at hx
    · rename_i v' hv'
      obtain rfl := Option.some.inj hx
      have ht : topA x = topC x := by cases x <;> first | rfl | exact absurd rfl (hna _)
      rw [ht]
      exact rcOf_ok hr hO hbad hv hv'
    · cases hx

theorem rasOf_ok (hr : HRel B w0 h ι w) (hO : ∀ g, O g → Own h.length ι g) (hbad : ∀ t g, t < h.length → bad.contains t = false → (ι t).ownBlock = some g → ¬ O g) {own : Bool} : ∀ {xs : List AV} {rs : List RA}, rasOf' h bad own xs = some rs →
    ∀ {vs : List Value}, vs.length = xs.length → (∀ (i : Nat) (x : AV) (v : Value), xs[i]? = some x → vs[i]? = some v → VR h ι w x v) →
    rs.length = xs.length ∧ RowsOK B w O ι (if own then xs.flatMap topA else []) (rasObj rs) ∧ ∀ (k : List AObj) (κ : Em) (T : Nat), T + (rasObj rs).length ≤ k.length → (∀ (i : Nat) (o : AObj), (rasObj rs)[i]? = some o → k[T + i]? = some o) → KOK κ ι T (if own then xs.flatMap topA else []) →
      ∀ (i : Nat) (y : AV) (v : Value), (rasVal T rs)[i]? = some y → vs[i]? = some v → VRel k κ w O y v
  | [], rs, hx, vs, hl, hv => by
    simp only [rasOf', Option.some.injEq] at hx
    subst hx
    refine ⟨rfl, by cases own <;> exact .nil _ _ _ _, fun k κ T _ _ _ i y v hy => by simp [rasVal] at hy⟩
  | x :: xs, rs, hx, vs, hl, hv => by
    simp only [rasOf'] at hx
    split at hx
    · rename_i r rs' hr1 hr2
      obtain rfl := Option.some.inj hx
      cases vs with
      | nil => simp at hl
      | cons v vs =>
        obtain ⟨a1, a2⟩ := raOf_ok hr hO hbad (hv 0 x v rfl rfl) hr1
        obtain ⟨b0, b1, b2⟩ := rasOf_ok hr hO hbad hr2 (vs := vs) (by simpa using hl) (fun i x v hx hv' => hv (i + 1) x v (by simpa using hx) (by simpa using hv'))
        have hts : (if own then (x :: xs).flatMap topA else []) = (if own then topA x else []) ++ (if own then xs.flatMap topA else []) := by cases own <;> simp
        rw [hts]
        refine ⟨by simp [b0], a1.app b1, fun k κ T hk hkk hκ i y u hy hu => ?_⟩
        have hlen := a1.len
        cases i with
        | zero =>
          simp only [rasVal, List.getElem?_cons_zero, Option.some.injEq] at hy hu
          subst hy; subst hu
          refine a2 k κ T (by simp only [rasObj, List.length_append] at hk; omega) (fun i o ho => hkk i o (by simp only [rasObj]; rw [List.getElem?_append_left (List.getElem?_eq_some_iff.1 ho).1]; exact ho)) hκ.left
        | succ i =>
          simp only [rasVal, List.getElem?_cons_succ] at hy hu
          refine b2 k κ (T + (raObj r).length) (by simp only [rasObj, List.length_append] at hk; omega) (fun i o ho => ?_) (by rw [hlen]; exact hκ.right) i y u hy hu
          rw [Nat.add_assoc]
          exact hkk _ o (by simp only [rasObj]; rw [List.getElem?_append_right (by omega), Nat.add_sub_cancel_left]; exact ho)
    · cases hx

/-- The results of a call as its contract tells them. -/
theorem ret_rel (hr : HRel B w0 h ι w) {own : Bool} {xs : List AV} {rs : List RA} (hx : rasOf h own xs = some rs) {vs : List Value} (hl : vs.length = xs.length) (hv : ∀ (i : Nat) (x : AV) (v : Value), xs[i]? = some x → vs[i]? = some v → VR h ι w x v) :
    ∃ κ : Em, κ.O = ι.O ∧ HRel B w0 (rasObj rs) κ w ∧ VR (rasObj rs) κ w (retV (rasVal 0 rs)) (retC vs) := by
  have main : ∀ (bad ts : List Nat), rasOf' h bad own xs = some rs → ts = (if own then xs.flatMap topA else []) → (∀ t, bad.contains t = false → ¬ t ∈ ts) → ts.Nodup → ∃ κ : Em, κ.O = ι.O ∧ HRel B w0 (rasObj rs) κ w ∧ VR (rasObj rs) κ w (retV (rasVal 0 rs)) (retC vs) := by
    intro bad ts hx hts hbt hnd
    have htl : ∀ t ∈ ts, t < h.length := by
      intro t ht
      rw [hts] at ht
      split at ht
      · obtain ⟨x, hx1, hx2⟩ := List.mem_flatMap.1 ht
        obtain ⟨i, hi⟩ := List.getElem?_of_mem hx1
        have hi2 : i < vs.length := by rw [hl]; exact (List.getElem?_eq_some_iff.1 hi).1
        have hvr := hv i x _ hi (List.getElem?_eq_getElem hi2)
        have one : ∀ (y : AV) (u : Value), VR h ι w y u → t ∈ topC y → t < h.length := by
          intro y u hyu hty
          cases hyu <;> simp [topC] at hty
          subst hty
          assumption
        generalize vs[i] = u at hvr
        unfold topA at hx2
        split at hx2
        · obtain ⟨c, hc1, hc2⟩ := List.mem_flatMap.1 hx2
          cases hvr with
          | agg _ us h1 h2 =>
            obtain ⟨j, hj⟩ := List.getElem?_of_mem hc1
            have hj2 : j < us.size := by rw [h1]; exact (List.getElem?_eq_some_iff.1 hj).1
            exact one c _ (h2 j c _ hj (Array.getElem?_eq_getElem hj2)) hc2
        · exact one x u hvr hx2
      · cases ht
    let κ : Em := ⟨fun i => ι (ts.getD i 0), ι.O⟩
    have hO : ∀ g, (ι.O g ∨ ∃ t ∈ ts, (ι t).ownBlock = some g) → Own h.length ι g := by
      rintro g (hg | ⟨t, ht, hg⟩)
      · exact .inl hg
      · exact .inr ⟨t, htl t ht, hg⟩
    have hbad : ∀ t g, t < h.length → bad.contains t = false → (ι t).ownBlock = some g → ¬ (ι.O g ∨ ∃ t ∈ ts, (ι t).ownBlock = some g) := by
      rintro t g ht hb hg (hOO | ⟨t', ht', hg'⟩)
      · have := hr.old g hOO
        have := (hr.own ht hg).1
        omega
      · have := hr.inj t t' g ht (htl t' ht') hg hg'
        subst this
        exact hbt t hb ht'
    obtain ⟨b0, b1, b2⟩ := rasOf_ok hr hO hbad hx hl hv
    rw [← hts] at b1 b2
    have hκ : ∀ i t, ts[i]? = some t → κ i = ι t := fun i t ht => by
      show ι (ts.getD i 0) = ι t
      rw [List.getD_eq_getElem?_getD, ht]
      rfl
    have hOwn : ∀ g, Own (rasObj rs).length κ g ↔ (ι.O g ∨ ∃ t ∈ ts, (ι t).ownBlock = some g) := by
      intro g
      constructor
      · rintro (hg | ⟨i, hi, hg⟩)
        · exact .inl hg
        · have hi2 : i < ts.length := by rw [← b1.len]; exact hi
          rw [hκ i _ (List.getElem?_eq_getElem hi2)] at hg
          exact .inr ⟨_, List.getElem_mem hi2, hg⟩
      · rintro (hg | ⟨t, ht, hg⟩)
        · exact .inl hg
        · obtain ⟨i, hi⟩ := List.getElem?_of_mem ht
          exact .inr ⟨i, by rw [b1.len]; exact (List.getElem?_eq_some_iff.1 hi).1, by rw [hκ i t hi]; exact hg⟩
    have hOeq : Own (rasObj rs).length κ = fun g => (ι.O g ∨ ∃ t ∈ ts, (ι t).ownBlock = some g) := funext fun g => propext (hOwn g)
    have vals := b2 (rasObj rs) κ 0 (by omega) (fun i o ho => by rw [Nat.zero_add]; exact ho) (fun i t ht => by rw [Nat.zero_add]; exact hκ i t ht)
    rw [← hOeq] at vals
    refine ⟨κ, rfl, ⟨hr.below, hr.base, hr.old, fun i o ho => ?_, fun i i' g hi hi' h1 h2 => ?_⟩, ?_⟩
    · have hi2 : i < ts.length := by rw [← b1.len]; exact (List.getElem?_eq_some_iff.1 ho).1
      obtain ⟨_, hs, ys, h1, h2⟩ := b1.obj i _ o (List.getElem?_eq_getElem hi2) ho
      right
      refine ⟨hs, ys, by rw [hκ i _ (List.getElem?_eq_getElem hi2)]; exact h1, fun k e he => ⟨(h2 k e he).1, fun j x hj => ?_⟩⟩
      obtain ⟨v, y, hv1, rfl, hv2⟩ := (h2 k e he).2 j x hj
      exact ⟨v, hv1, .p _ _ (by rw [hOeq]; exact hv2)⟩
    · have hi2 : i < ts.length := by rw [← b1.len]; exact hi
      have hi2' : i' < ts.length := by rw [← b1.len]; exact hi'
      rw [hκ i _ (List.getElem?_eq_getElem hi2)] at h1
      rw [hκ i' _ (List.getElem?_eq_getElem hi2')] at h2
      have heq := hr.inj _ _ g (htl _ (List.getElem_mem hi2)) (htl _ (List.getElem_mem hi2')) h1 h2
      rcases Nat.lt_trichotomy i i' with hlt | rfl | hlt
      · exact absurd heq (List.pairwise_iff_getElem.1 hnd i i' hi2 hi2' hlt)
      · rfl
      · exact absurd heq.symm (List.pairwise_iff_getElem.1 hnd i' i hi2' hi2 hlt)
    · have hlv : (rasVal 0 rs).length = vs.length := by rw [rasVal_len, b0, hl]
      have tup : VR (rasObj rs) κ w (.tuple (rasVal 0 rs)) (.tuple vs.toArray) := .tuple _ _ (by simp [hlv]) fun i y u hy hu => vals i y u hy (by simpa using hu)
      match rs, vs, hlv, vals, tup with
      | [], [], _, _, tup => exact tup
      | [r], [v], _, vals, _ => exact vals 0 _ v rfl rfl
      | r :: r' :: rs, v :: v' :: vs, _, _, tup => exact tup
  unfold rasOf at hx
  cases own with
  | true =>
    simp only [if_true] at hx
    split at hx
    · rename_i hnd
      exact main (tops xs) (tops xs) hx (by simp [tops]) (fun t ht hm => by simp_all) (nodupB_nodup hnd)
    · cases hx
  | false =>
    simp only [Bool.false_eq_true, if_false] at hx
    exact main [] [] hx (by simp) (fun t _ hm => by cases hm) List.nodup_nil
end
end Go.Abs
