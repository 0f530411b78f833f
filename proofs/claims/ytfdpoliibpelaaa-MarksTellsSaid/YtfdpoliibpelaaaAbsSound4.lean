/- copy, literals, make. -/
import Derived.Test.YtfdpoliibpelaaaAbsSound3
set_option linter.unusedVariables false
set_option linter.unusedSimpArgs false
set_option linter.unnecessarySimpa false
namespace Go.Abs
open Go.RowKit (Below)
section
variable {P : Program} {B : Nat} {w0 w : World} {h : List AObj} {ι : Em}

/-- a part of a row is written anew -/
theorem row_splice (hr : HRel B w0 h ι w) {tg : Nat} {o : AObj} (hot : h[tg]? = some o) (hlv : o.size ≠ 0) (lo m : Nat) (es : List (List AV)) (vs : List Value) (hle : lo + m ≤ o.elems.length) (hm : m = es.length) (hvl : vs.length = m * o.size)
    (hvr : ∀ (i : Nat) (e : List AV), es[i]? = some e → e.length = o.size ∧ ∀ (j : Nat) (y : AV), e[j]? = some y → ∃ u, vs[i * o.size + j]? = some u ∧ VR h ι w y u) (h1 : ∀ u ∈ vs, u.oneCell' = true) (hpos : 0 < m) :
    ∃ g C, ι tg = .slice (some ⟨g, 0, none⟩) o.elems.length C ∧ ∃ w', (storeCells ⟨g, lo * o.size, none⟩ vs).run P w = .ok () w' ∧
      UpdOK B h ι w tg { o with elems := o.elems.take lo ++ (es ++ o.elems.drop (lo + m)) } (ι tg) w' := by
  obtain ⟨hs, xs, hown, hes, u, hu⟩ := row_view hr hot hlv
  obtain ⟨g, C, hsv, hc⟩ := own_form hown (by omega)
  have hown' := hown
  rw [hsv] at hown'
  have hmul : lo * o.size + m * o.size ≤ o.elems.length * o.size := by rw [← Nat.add_mul]; exact Nat.mul_le_mul_right _ hle
  have hoff : lo * o.size + vs.length ≤ xs.length := by rw [hown.1, hvl]; exact hmul
  obtain ⟨cur, hcur, hcle, hown2, hgrow⟩ := ownsRow_setRow hown' hoff
  have hst := run_storeCells_at P g (lo * o.size) o.e vs 0 cur w hcur (by simpa using hcle) h1
  simp only [Nat.add_zero] at hst
  have hlen : (o.elems.take lo ++ (es ++ o.elems.drop (lo + m))).length = o.elems.length := by simp; omega
  refine ⟨g, C, hsv, _, hst, o, xs.take (lo * o.size) ++ vs ++ xs.drop (lo * o.size + vs.length), hot, by rw [hsv]; exact hgrow, fun _ h => .inl h, .inl ⟨rfl, rfl, hlen, rfl⟩, hs, by rw [hsv]; simpa [hlen] using hown2, fun i e he => ?_⟩
  dsimp only at he ⊢
  by_cases h1 : i < lo
  · rw [List.getElem?_append_left (by simp; omega), List.getElem?_take, if_pos h1] at he
    refine ⟨hes i e he, fun j y hy => ?_⟩
    have hj : j < o.size := by rw [← hes i e he]; exact (List.getElem?_eq_some_iff.1 hy).1
    rw [splice_get _ _ _ _ hoff, if_pos (idx_lt h1 hj)]
    exact ⟨_, hu i e he j y hy⟩
  · rw [List.getElem?_append_right (by simp; omega)] at he
    have hl1 : (o.elems.take lo).length = lo := by simp; omega
    rw [hl1] at he
    by_cases h2 : i - lo < es.length
    · rw [List.getElem?_append_left h2] at he
      obtain ⟨h3, h4⟩ := hvr _ e he
      refine ⟨h3, fun j y hy => ?_⟩
      obtain ⟨u', hu', hvr'⟩ := h4 j y hy
      refine ⟨u', ?_, hvr'⟩
      have heq : i * o.size + j = lo * o.size + ((i - lo) * o.size + j) := by
        rw [← Nat.add_assoc, ← Nat.add_mul]
        congr 2
        omega
      have hlt := (List.getElem?_eq_some_iff.1 hu').1
      rw [splice_get _ _ _ _ hoff, if_neg (by omega), if_pos (by omega), heq, Nat.add_sub_cancel_left]
      exact hu'
    · rw [List.getElem?_append_right (by omega), List.getElem?_drop] at he
      rw [show lo + m + (i - lo - es.length) = i from by omega] at he
      refine ⟨hes i e he, fun j y hy => ?_⟩
      have hge : lo * o.size + m * o.size ≤ i * o.size := by rw [← Nat.add_mul]; exact Nat.mul_le_mul_right _ (by omega)
      rw [splice_get _ _ _ _ hoff, if_neg (by omega), if_neg (by omega)]
      exact ⟨_, hu i e he j y hy⟩

theorem updOK_self (hr : HRel B w0 h ι w) {tg : Nat} {o : AObj} (hot : h[tg]? = some o) (hlv : o.size ≠ 0) : UpdOK B h ι w tg o (ι tg) w := by
  obtain ⟨hs, xs, hown, hes, u, hu⟩ := row_view hr hot hlv
  exact ⟨o, xs, hot, ⟨rfl, rfl, rfl, Nat.le_refl _, fun _ _ _ => rfl⟩, fun _ h => .inl h, .inl ⟨rfl, rfl, rfl, rfl⟩, hs, hown, fun i e he => ⟨hes i e he, fun j y hy => ⟨_, hu i e he j y hy⟩⟩⟩

theorem copy_core (hr : HRel B w0 h ι w) {dT sT ty e e' : TypeId} {i : TypeInfo} {size : Nat} (hd : P.underlying dT = some (.slice e)) (hi : P.info? e = some i) (hsize : i.size = size) (hs : 0 < size)
    {x : AV} {v : Value} (hv : VR h ι w x v) {es : List (List AV)} (he : elemsOf h x = some es) (hsz : sizesOk size es = true)
    {tg : Nat} {o : AObj} (hot : h[tg]? = some o) (hos : o.size = size) (lo len cap : Nat) (a : Option Addr) (hlo : lo + len ≤ o.elems.length)
    (ha : 0 < len → ∃ g C, ι tg = .slice (some ⟨g, 0, none⟩) o.elems.length C ∧ a = some ⟨g, lo * o.size, none⟩) :
    ∃ w', (Builtin.copy_ #[dT, sT] ty #[.slice a len cap, v]).run P w = .ok (.int .i64 (min es.length len : Nat)) w' ∧
      UpdOK B h ι w tg { o with elems := o.elems.take lo ++ (es.take (min es.length len) ++ o.elems.drop (lo + min es.length len)) } (ι tg) w' := by
  obtain ⟨a', c', news, rfl, hc', hnl, hnc, hn1, hnr⟩ := slice_news hr hv he hsz hs
  have hlv : o.size ≠ 0 := by omega
  subst hsize
  rcases Nat.eq_zero_or_pos (min es.length len) with h0 | hpos
  · have hf : (Builtin.firstCells i.size 0 (.slice a' es.length c')).run P w = .ok #[] w := by
      cases a' <;> simp [Builtin.firstCells, loadCells, loadCellsFrom]
    refine ⟨w, ?_, ?_⟩
    · rw [h0]
      cases a <;> simp [Builtin.copy_, run_underlying hd, Builtin.lenOf, sizeOf, typeInfo, hi, Nat.min_def] <;> simp only [Nat.min_def] at h0 <;> rw [h0] <;> simp [hf, storeCells, goInt]
    · rw [h0]
      simp only [List.take_zero, List.nil_append, Nat.add_zero, List.take_append_drop]
      exact updOK_self hr hot hlv
  · have hlen : 0 < len := by omega
    obtain ⟨g, C, hsv, rfl⟩ := ha hlen
    obtain ⟨ad, rfl, hcell⟩ := hnc (by intro h; subst h; simp at hpos)
    have hmle : min es.length len * i.size ≤ news.length := by rw [hnl]; exact Nat.mul_le_mul_right _ (Nat.min_le_left _ _)
    obtain ⟨g', C', hsv', w', hst, hupd⟩ := row_splice (P := P) hr hot hlv lo (min es.length len) (es.take (min es.length len)) (news.take (min es.length len * i.size)) (by omega) (by simp) (by rw [hos, List.length_take]; omega)
      (fun k e he' => by
        rw [List.getElem?_take] at he'
        split at he'
        · rename_i hk
          rw [hos]
          refine ⟨(sizesOk_get hsz he').1, fun j y hy => ?_⟩
          obtain ⟨u, hu, hvr⟩ := hnr k e he' j y hy
          have hj : j < i.size := by rw [← (sizesOk_get hsz he').1]; exact (List.getElem?_eq_some_iff.1 hy).1
          exact ⟨u, by rw [List.getElem?_take, if_pos (idx_lt hk hj)]; exact hu, hvr⟩
        · cases he') (fun u hu => hn1 u (List.mem_of_mem_take hu)) hpos
    rw [hsv] at hsv'
    simp only [Value.slice.injEq, Option.some.injEq, Addr.mk.injEq, and_true, true_and] at hsv'
    obtain ⟨rfl, rfl⟩ := hsv'
    refine ⟨w', ?_, hupd⟩
    have hf := run_firstCells_some (P := P) w i.size (min es.length len) ad es.length c' (news.take (min es.length len * i.size)) (by rw [List.length_take]; omega) (fun j u hj => by
      rw [List.getElem?_take] at hj
      split at hj
      · exact hcell j u hj
      · cases hj)
    have hmin : Nat.min es.length len = min es.length len := rfl
    simp only [Builtin.copy_, List.getElem?_toArray, List.getElem?_cons_zero, List.getElem?_cons_succ, Sem.run_bind, run_underlying hd, Result.andThen_ok, Builtin.lenOf, Sem.run_pure, hmin, run_sizeOf hi, hf, hst, goInt]

/-- copy -/
theorem run_copyA (hr : HRel B w0 h ι w) {dT sT ty e : TypeId} {i : TypeInfo} {size : Nat} (hd : P.underlying dT = some (.slice e)) (hi : P.info? e = some i) (hsize : i.size = size)
    {d : AV} {vd : Value} (hvd : VR h ι w d vd) {x : AV} {v : Value} (hv : VR h ι w x v) {es : List (List AV)} (he : elemsOf h x = some es) {y : AV} {eff : Eff} (ha : copyA h size d es = some (y, eff)) :
    ∃ n : Nat, y = .p (.int .i64 n) ∧ ∃ w', (Builtin.copy_ #[dT, sT] ty #[vd, v]).run P w = .ok (.int .i64 n) w' ∧ ((eff = .none ∧ w' = w) ∨ ∃ tg o', eff = .upd tg o' ∧ UpdOK B h ι w tg o' (ι tg) w') := by
  unfold copyA at ha
  split at ha
  · simp only [Option.some.injEq, Prod.mk.injEq] at ha
    obtain ⟨rfl, rfl⟩ := ha
    cases hvd
    obtain ⟨a', c', rfl, hc', _⟩ := slice_view hr hv he
    have hf : (Builtin.firstCells i.size 0 (.slice a' es.length c')).run P w = .ok #[] w := by
      cases a' <;> simp [Builtin.firstCells, loadCells, loadCellsFrom]
    refine ⟨0, rfl, w, ?_, .inl ⟨rfl, rfl⟩⟩
    have hmin : Nat.min es.length 0 = 0 := Nat.min_zero _
    simp only [Builtin.copy_, List.getElem?_toArray, List.getElem?_cons_zero, List.getElem?_cons_succ, Sem.run_bind, run_underlying hd, Result.andThen_ok, Builtin.lenOf, Sem.run_pure, hmin, run_sizeOf hi, hf, goInt]
  · rename_i tg ver
    split at ha
    · rename_i o hgo
      dsimp only at ha
      split at ha
      · rename_i hc
        obtain ⟨hos, hsz⟩ := hc
        simp only [Option.some.injEq, Prod.mk.injEq] at ha
        obtain ⟨rfl, rfl⟩ := ha
        obtain ⟨hot, hov⟩ := getRow_some hgo
        cases hvd with
        | row _ _ _ htl hone hob =>
          obtain rfl := (hob o hot).2 hov
          obtain ⟨hs, xs, hown, _⟩ := row_view hr hot (getRow_live hgo)
          have hform : ∃ a c, ι tg = .slice a o.elems.length c ∧ (0 < o.elems.length → ∃ g C, ι tg = .slice (some ⟨g, 0, none⟩) o.elems.length C ∧ a = some ⟨g, 0 * o.size, none⟩) := by
            rcases hown.2 with ⟨hv, h0⟩ | ⟨g, cap, cur, hv, _, _, hc, _⟩
            · exact ⟨none, 0, by rw [hv, h0], fun h => by omega⟩
            · exact ⟨_, cap, hv, fun _ => ⟨g, cap, hv, by simp⟩⟩
          obtain ⟨a, c, hform, hfa⟩ := hform
          obtain ⟨w', h1, h2⟩ := copy_core (e' := e) hr hd hi hsize (by rw [← hos]; exact hs) hv he hsz hot hos 0 o.elems.length c a (by omega) hfa (sT := sT) (ty := ty)
          refine ⟨_, rfl, w', by rw [hform]; exact h1, .inr ⟨tg, _, rfl, by simpa using h2⟩⟩
      · cases ha
    · cases ha
  · rename_i tg ver lo len ex
    split at ha
    · rename_i o hgo
      dsimp only at ha
      split at ha
      · rename_i hc
        obtain ⟨hos, hsz, hlo⟩ := hc
        simp only [Option.some.injEq, Prod.mk.injEq] at ha
        obtain ⟨rfl, rfl⟩ := ha
        obtain ⟨hot, hov⟩ := getRow_some hgo
        cases hvd with
        | sl _ _ _ _ _ _ htl hone hob =>
          obtain ⟨g, N, C, c2, hsv, rfl, h3, hxc, h4⟩ := (hob o hot).2 hov
          obtain ⟨hs, xs, hown, _⟩ := row_view hr hot (getRow_live hgo)
          obtain ⟨w', h1, h2⟩ := copy_core (e' := e) hr hd hi hsize (by rw [← hos]; exact hs) hv he hsz hot hos lo len c2 (some ⟨g, lo * o.size, none⟩) hlo (fun hl => by
            obtain ⟨g', cap', hform, _⟩ := own_form hown (by omega)
            rw [hsv] at hform
            simp only [Value.slice.injEq, Option.some.injEq, Addr.mk.injEq, and_true] at hform
            obtain ⟨rfl, rfl, rfl⟩ := hform
            exact ⟨g, C, hsv, rfl⟩) (sT := sT) (ty := ty)
          exact ⟨_, rfl, w', h1, .inr ⟨tg, _, rfl, h2⟩⟩
      · cases ha
    · cases ha
  · cases ha

theorem cav1_rel {v : Value} {x : AV} (hc : cav1 v = some x) (h : List AObj) (ι : Em) (w : World) (O : Nat → Prop) : VRel h ι w O x v ∧ x.isCell = true := by
  unfold cav1 at hc
  split at hc <;> first | (obtain rfl := Option.some.inj hc) | cases hc
  · exact ⟨.p _ _ (.bool _), rfl⟩
  · exact ⟨.p _ _ (.int _ _), rfl⟩
  · rename_i s
    refine ⟨.p _ _ ?_, rfl⟩
    have : (Value.string s) = .string ⟨s.data.toList.toArray⟩ := by cases s; simp
    rw [this]
    exact .str _
  · exact ⟨.nil, rfl⟩
  · exact ⟨.nptr, rfl⟩
  · exact ⟨.nilf, rfl⟩

theorem mapM_get {α β : Type} {f : α → Option β} : ∀ {l : List α} {r : List β}, l.mapM f = some r → r.length = l.length ∧ ∀ (i : Nat) (x : α) (y : β), l[i]? = some x → r[i]? = some y → f x = some y
  | [], r, h => by
    simp at h
    subst h
    exact ⟨rfl, fun i x y hx => by simp at hx⟩
  | a :: l, r, h => by
    rw [List.mapM_cons] at h
    simp only [bind, Option.bind_eq_some_iff, pure, Option.some.injEq] at h
    obtain ⟨b, hb, r', hr, rfl⟩ := h
    obtain ⟨h1, h2⟩ := mapM_get hr
    refine ⟨by simp [h1], fun i x y hx hy => ?_⟩
    cases i with
    | zero =>
      simp at hx hy
      subst hx; subst hy
      exact hb
    | succ i => exact h2 i x y (by simpa using hx) (by simpa using hy)

theorem cav_rel {v : Value} {x : AV} (hc : cav v = some x) (h : List AObj) (ι : Em) (w : World) (O : Nat → Prop) : VRel h ι w O x v := by
  unfold cav at hc
  split at hc
  · rename_i cs
    split at hc
    · rename_i l hl
      obtain rfl := Option.some.inj hc
      obtain ⟨h1, h2⟩ := mapM_get hl
      refine .agg _ _ (by simpa using h1.symm) fun i y u hy hu => ?_
      exact (cav1_rel (h2 i u y (by simpa using hu) hy) h ι w O).1
    · cases hc
  · exact (cav1_rel hc h ι w O).1

theorem slot_rel {slots : List AV} {tmps : Array Value} (hsl : ∀ (i : Nat) (x : AV) (v : Value), slots[i]? = some x → tmps[i]? = some v → VR h ι w x v) (hl : tmps.size = slots.length) (t : Nat) : VR h ι w (slots.getD t .any) (tmps.getD t undef) := by
  by_cases ht : t < slots.length
  · have h1 : slots[t]? = some slots[t] := List.getElem?_eq_getElem ht
    have ht2 : t < tmps.size := by omega
    have h2 : tmps[t]? = some tmps[t] := Array.getElem?_eq_getElem ht2
    rw [List.getD_eq_getElem?_getD, h1, Array.getD_eq_getD_getElem?, h2]
    exact hsl t _ _ h1 h2
  · rw [List.getD_eq_getElem?_getD, List.getElem?_eq_none (by omega)]
    exact .any _

theorem opd_rel {slots : List AV} {a : Act} (hsl : ∀ (i : Nat) (x : AV) (v : Value), slots[i]? = some x → a.tmps[i]? = some v → VR h ι w x v) (hl : a.tmps.size = slots.length) {o : Operand} {y : AOpd} (ho : opd o = some y) : VR h ι w (y.eval slots) (a.eval o) := by
  unfold opd at ho
  split at ho
  · rename_i t
    obtain rfl := Option.some.inj ho
    exact slot_rel hsl hl t
  · rename_i v
    rw [Option.map_eq_some_iff] at ho
    obtain ⟨x, hx, rfl⟩ := ho
    exact cav_rel hx h ι w _
  · rename_i f
    obtain rfl := Option.some.inj ho
    exact .fn f [] #[] rfl (by simp)
  · cases ho

theorem foldl_set (off : Nat) : ∀ (l : List Value) (k : Nat) (cells : Array Value), off + k + l.length ≤ cells.size →
    (((l.zipIdx k).foldl (fun cs (q : Value × Nat) => cs.setIfInBounds (off + q.2) q.1) cells).toList = cells.toList.take (off + k) ++ l ++ cells.toList.drop (off + k + l.length))
  | [], k, cells, _ => by simp
  | v :: l, k, cells, hle => by
    simp only [List.length_cons] at hle
    simp only [List.zipIdx_cons, List.foldl_cons]
    rw [foldl_set off l (k + 1) (cells.setIfInBounds (off + k) v) (by simp; omega)]
    have := list_seg_step cells.toList (off + k) v l (by simp; omega)
    simpa [Array.toList_setIfInBounds, Nat.add_assoc] using this

/-- cells of an aggregate, one for one -/
def CellsR (h : List AObj) (ι : Em) (w : World) (cs : List AV) (vs : Array Value) : Prop :=
  vs.size = cs.length ∧ ∀ (i : Nat) (x : AV) (v : Value), cs[i]? = some x → vs[i]? = some v → VR h ι w x v

theorem cellsR_splice {cs xs : List AV} {vs us vs' : Array Value} (h1 : CellsR h ι w cs vs) (h2 : CellsR h ι w xs us) {off : Nat} (hle : off + xs.length ≤ cs.length)
    (hv : vs'.toList = vs.toList.take off ++ us.toList ++ vs.toList.drop (off + us.toList.length)) : CellsR h ι w (spl cs off xs) vs' := by
  have hl : us.toList.length = xs.length := by simpa using h2.1
  have hs : vs.toList.length = cs.length := by simpa using h1.1
  have he : spl cs off xs = cs.take off ++ xs ++ cs.drop (off + xs.length) := by simp [spl]
  refine ⟨?_, fun i x v hx hv' => ?_⟩
  · rw [← Array.length_toList, hv, splice_len _ _ _ (by omega), he, splice_len _ _ _ hle, hs]
  · rw [he, splice_get _ _ _ _ hle] at hx
    rw [← Array.getElem?_toList, hv, splice_get _ _ _ _ (by omega), hl] at hv'
    by_cases c1 : i < off
    · rw [if_pos c1] at hx hv'
      exact h1.2 i x v hx (by simpa using hv')
    · rw [if_neg c1] at hx hv'
      by_cases c2 : i < off + xs.length
      · rw [if_pos c2] at hx hv'
        exact h2.2 _ x v hx (by simpa using hv')
      · rw [if_neg c2] at hx hv'
        exact h1.2 i x v hx (by simpa using hv')

theorem run_fillA (place : Nat → Option (Nat × Nat)) : ∀ (ps : List (Nat × Value)) (qs : List (Nat × Nat × AV)) (cs : List AV) (vs : Array Value) (r : List AV), ps.length = qs.length →
    (∀ (k : Nat) (p : Nat × Value) (q : Nat × Nat × AV), ps[k]? = some p → qs[k]? = some q → place p.1 = some (q.1, q.2.1) ∧ VR h ι w q.2.2 p.2) → CellsR h ι w cs vs → fillA qs cs = some r →
    ∃ us, Instr.fill place vs ps = some us ∧ CellsR h ι w r us
  | [], [], cs, vs, r, _, _, hcr, hf => by
    simp only [fillA, Option.some.injEq] at hf
    subst hf
    exact ⟨vs, rfl, hcr⟩
  | [], _ :: _, _, _, _, hl, _, _, _ => by simp at hl
  | _ :: _, [], _, _, _, hl, _, _, _ => by simp at hl
  | (i, v) :: ps, (off, size, x) :: qs, cs, vs, r, hl, hpq, hcr, hf => by
    obtain ⟨hp, hv⟩ := hpq 0 _ _ rfl rfl
    simp only [fillA] at hf
    split at hf
    · rename_i xs hxs
      split at hf
      · rename_i hc
        obtain ⟨h1, h2⟩ := hc
        obtain ⟨hsz, _, hrel⟩ := cells_rel hv hxs
        have hcr2 : CellsR h ι w xs v.cells := ⟨hsz, fun j y u hy hu => (hrel j y u hy hu).1⟩
        have hvs := hcr.1
        dsimp only at hsz
        have hfold := foldl_set off v.cells.toList 0 vs (by simp; omega)
        simp only [Nat.add_zero] at hfold
        have hnew := cellsR_splice hcr hcr2 (by omega : off + xs.length ≤ cs.length) hfold
        obtain ⟨us, hu1, hu2⟩ := run_fillA place ps qs _ _ r (by simpa using hl) (fun k p q hp hq => hpq (k + 1) p q (by simpa using hp) (by simpa using hq)) hnew hf
        refine ⟨us, ?_, hu2⟩
        simp only [Instr.fill, hp]
        have hcond : ¬ ((v.cells.size ≠ size || decide (off + v.cells.size > vs.size)) = true) := by
          simp only [Bool.or_eq_true, decide_eq_true_eq, not_or]
          omega
        rw [if_neg (by simpa using hcond)]
        rw [show v.cells.zipIdx = (v.cells.toList.zipIdx 0).toArray from by simp [← Array.toList_inj]]
        simpa using hu1
      · cases hf
    · cases hf

theorem zero_cells {t : TypeId} {zx : AV} {zc : List AV} (hz : zeroOf P t = some zx) (hc : zx.cells = some zc) :
    ∃ i z, P.info? t = some i ∧ i.zero = some z ∧ CellsR h ι w zc z.cells ∧ VR h ι w zx z ∧ ∀ u ∈ z.cells.toList, u.oneCell' = true := by
  unfold zeroOf at hz
  split at hz
  · rename_i i hi
    split at hz
    · rename_i z hz0
      have hr := cav_rel hz h ι w (Own h.length ι)
      obtain ⟨h1, _, h2⟩ := cells_rel hr hc
      refine ⟨i, z, hi, hz0, ⟨h1, fun j y u hy hu => (h2 j y u hy hu).1⟩, hr, fun u hu => ?_⟩
      obtain ⟨j, hj⟩ := List.getElem?_of_mem hu
      have hjl : j < zc.length := by rw [← h1]; simpa using (List.getElem?_eq_some_iff.1 hj).1
      exact (h2 j _ u (List.getElem?_eq_getElem hjl) (by simpa using hj)).2
    · cases hz
  · cases hz
end
end Go.Abs
