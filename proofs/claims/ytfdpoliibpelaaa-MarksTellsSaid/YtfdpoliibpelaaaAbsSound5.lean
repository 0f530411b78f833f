/- literals, make, slices, indexes. -/
import Derived.Test.YtfdpoliibpelaaaAbsSound4
set_option linter.unusedVariables false
set_option linter.unusedSimpArgs false
set_option linter.unnecessarySimpa false
namespace Go.Abs
open Go.RowKit (Below)
section
variable {P : Program} {B : Nat} {w0 w : World} {h : List AObj} {ι : Em}

/-- elements of a row, cell for cell -/
def RowR (h : List AObj) (ι : Em) (w : World) (size : Nat) (es : List (List AV)) (vs : Array Value) : Prop :=
  vs.size = es.length * size ∧ ∀ (i : Nat) (e : List AV), es[i]? = some e → e.length = size ∧ ∀ (j : Nat) (x : AV), e[j]? = some x → ∃ v, vs[i * size + j]? = some v ∧ VR h ι w x v

theorem rowR_set {size : Nat} {es : List (List AV)} {vs us vs' : Array Value} {xs : List AV} {i : Nat} (h1 : RowR h ι w size es vs) (h2 : CellsR h ι w xs us) (hl : xs.length = size) (hi : i < es.length)
    (hv : vs'.toList = vs.toList.take (i * size) ++ us.toList ++ vs.toList.drop (i * size + us.toList.length)) : RowR h ι w size (es.set i xs) vs' := by
  have hul : us.toList.length = size := by have := h2.1; simp; omega
  have hle : i * size + us.toList.length ≤ vs.toList.length := by
    have : (i + 1) * size ≤ es.length * size := Nat.mul_le_mul_right _ hi
    rw [Nat.add_mul, Nat.one_mul] at this
    have := h1.1
    simp only [Array.length_toList] at *
    omega
  refine ⟨?_, fun i' e he => ?_⟩
  · rw [← Array.length_toList, hv, splice_len _ _ _ hle]
    simpa using h1.1
  · by_cases hii : i' = i
    · subst hii
      rw [List.getElem?_set_self hi] at he
      obtain rfl := Option.some.inj he
      refine ⟨hl, fun j x hx => ?_⟩
      have hj : j < us.toList.length := by rw [hul, ← hl]; exact (List.getElem?_eq_some_iff.1 hx).1
      refine ⟨us.toList[j], ?_, h2.2 j x _ hx (by simpa using List.getElem?_eq_getElem hj)⟩
      rw [← Array.getElem?_toList, hv, splice_get _ _ _ _ hle, if_neg (by omega), if_pos (by omega)]
      rw [show i' * size + j - i' * size = j from by omega]
      exact List.getElem?_eq_getElem hj
    · rw [List.getElem?_set_ne (Ne.symm hii)] at he
      obtain ⟨h3, h4⟩ := h1.2 i' e he
      refine ⟨h3, fun j x hx => ?_⟩
      obtain ⟨v, hv', hvr⟩ := h4 j x hx
      have hj : j < size := by rw [← h3]; exact (List.getElem?_eq_some_iff.1 hx).1
      refine ⟨v, ?_, hvr⟩
      have hcmp : i' * size + j < i * size ∨ (i + 1) * size ≤ i' * size + j := by
        rcases Nat.lt_or_ge i' i with hlt | hge
        · exact .inl (idx_lt hlt hj)
        · right
          have : (i + 1) * size ≤ i' * size := Nat.mul_le_mul_right _ (by omega)
          omega
      rw [Nat.add_mul, Nat.one_mul] at hcmp
      rw [← Array.getElem?_toList, hv, splice_get _ _ _ _ hle]
      by_cases c1 : i' * size + j < i * size
      · rw [if_pos c1]
        simpa using hv'
      · rw [if_neg c1, if_neg (by omega)]
        simpa using hv'

theorem run_fillS (size : Nat) : ∀ (ps : List (Nat × Value)) (qs : List (Nat × AV)) (es : List (List AV)) (vs : Array Value) (r : List (List AV)), ps.length = qs.length →
    (∀ (k : Nat) (p : Nat × Value) (q : Nat × AV), ps[k]? = some p → qs[k]? = some q → p.1 = q.1 ∧ VR h ι w q.2 p.2) → RowR h ι w size es vs → fillS size qs es = some r →
    r.length = es.length ∧ ∃ us, Instr.fill (fun i => some (i * size, size)) vs ps = some us ∧ RowR h ι w size r us
  | [], [], es, vs, r, _, _, hcr, hf => by
    simp only [fillS, Option.some.injEq] at hf
    subst hf
    exact ⟨rfl, vs, rfl, hcr⟩
  | [], _ :: _, _, _, _, hl, _, _, _ => by simp at hl
  | _ :: _, [], _, _, _, hl, _, _, _ => by simp at hl
  | (i, v) :: ps, (i', x) :: qs, es, vs, r, hl, hpq, hcr, hf => by
    obtain ⟨hp, hv⟩ := hpq 0 _ _ rfl rfl
    dsimp only at hp hv
    subst hp
    simp only [fillS] at hf
    split at hf
    · rename_i xs hxs
      split at hf
      · rename_i hc
        obtain ⟨h1, h2⟩ := hc
        obtain ⟨hsz, _, hrel⟩ := cells_rel hv hxs
        have hcr2 : CellsR h ι w xs v.cells := ⟨hsz, fun j y u hy hu => (hrel j y u hy hu).1⟩
        have hvs := hcr.1
        have hle : i * size + v.cells.size ≤ vs.size := by
          have : (i + 1) * size ≤ es.length * size := Nat.mul_le_mul_right _ h2
          rw [Nat.add_mul, Nat.one_mul] at this
          omega
        have hfold := foldl_set (i * size) v.cells.toList 0 vs (by simp; omega)
        simp only [Nat.add_zero] at hfold
        have hnew := rowR_set hcr hcr2 h1 h2 hfold
        obtain ⟨hrl, us, hu1, hu2⟩ := run_fillS size ps qs _ _ r (by simpa using hl) (fun k p q hp hq => hpq (k + 1) p q (by simpa using hp) (by simpa using hq)) hnew hf
        refine ⟨by simpa using hrl, us, ?_, hu2⟩
        simp only [Instr.fill]
        have hcond : ¬ ((v.cells.size ≠ size || decide (i * size + v.cells.size > vs.size)) = true) := by
          simp only [Bool.or_eq_true, decide_eq_true_eq, not_or]
          omega
        rw [if_neg (by simpa using hcond)]
        rw [show v.cells.zipIdx = (v.cells.toList.zipIdx 0).toArray from by simp [← Array.toList_inj]]
        simpa using hu1
      · cases hf
    · cases hf

theorem madeCells_get (z : Array Value) (n size i j : Nat) (hz : z.size = size) (hi : i < n) (hj : j < size) : (madeCells z (n * size))[i * size + j]? = z[j]? := by
  have hlt := idx_lt hi hj
  simp only [madeCells, Array.getElem?_map, Array.getElem?_range, hlt, if_true, Option.map_some]
  rw [hz, Nat.mul_comm, Nat.mul_add_mod, Nat.mod_eq_of_lt hj]
  rw [getElem!_pos z j (by omega), Array.getElem?_eq_getElem (by omega)]

theorem rowR_made {z : Array Value} {zc : List AV} {n size : Nat} (hz : CellsR h ι w zc z) (hl : zc.length = size) : RowR h ι w size (List.replicate n zc) (madeCells z (n * size)) := by
  refine ⟨by simp [size_madeCells], fun i e he => ?_⟩
  rw [List.getElem?_replicate] at he
  split at he
  · rename_i hi
    obtain rfl := Option.some.inj he
    refine ⟨hl, fun j x hx => ?_⟩
    have hj : j < z.size := by rw [hz.1]; exact (List.getElem?_eq_some_iff.1 hx).1
    have hj2 : j < size := by rw [← hl, ← hz.1]; exact hj
    refine ⟨z[j], ?_, hz.2 j x _ hx (Array.getElem?_eq_getElem hj)⟩
    rw [madeCells_get z n size i j (by rw [hz.1, hl]) hi hj2]
    exact Array.getElem?_eq_getElem hj
  · cases he

/-- a slice literal -/
theorem run_bslice (hr : HRel B w0 h ι w) {t e n size : Nat} {i : TypeInfo} {z : Value} {zc : List AV} (ht : P.underlying t = some (.slice e)) (hi : P.info? e = some i) (hz : i.zero = some z) (hsize : i.size = size) (hs : 0 < size)
    (hzr : CellsR h ι w zc z.cells) (hzl : zc.length = size) (hbig : ¬ n * size > 2 ^ 24) {ps : List (Nat × Value)} {qs : List (Nat × AV)} {es : List (List AV)} (hl : ps.length = qs.length)
    (hpq : ∀ (k : Nat) (p : Nat × Value) (q : Nat × AV), ps[k]? = some p → qs[k]? = some q → p.1 = q.1 ∧ VR h ι w q.2 p.2) (hf : fillS size qs (List.replicate n zc) = some es) :
    ∃ sv w', (Instr.buildSlice t n ps.toArray).run P w = .ok sv w' ∧ NewOK B h ι w ⟨1, e, size, es⟩ sv w' := by
  obtain ⟨hrl, us, hu1, hu2⟩ := run_fillS size ps qs _ _ es hl hpq (rowR_made hzr hzl) hf
  simp only [List.length_replicate] at hrl
  have hn : n ≤ maxLen := by
    have : n ≤ n * size := Nat.le_mul_of_pos_right _ hs
    simp only [maxLen]
    omega
  refine ⟨_, _, ?_, newOK_alloc hr es us n hrl.symm hs (Nat.le_refl _) hn (by rw [hu2.1, hrl]) hu2.2⟩
  simp only [Instr.buildSlice, Sem.run_bind, run_underlying ht, Result.andThen_ok, run_sizeOf hi]
  rw [if_neg (by rw [hsize]; exact hbig)]
  by_cases h0 : n * size = 0
  · have hm : (Array.range (n * size)).map ((#[] : Array Value)[· % (#[] : Array Value).size]!) = madeCells z.cells (n * size) := by
      rw [h0]; simp [madeCells]
    simp only [hsize, h0, if_true, Sem.run_bind, Sem.run_pure, Result.andThen_ok]
    rw [h0] at hm hu1
    rw [hm, hu1]
    simp [newRow]
  · have hm : (Array.range (n * size)).map (z.cells[· % z.cells.size]!) = madeCells z.cells (n * size) := rfl
    simp only [hsize, h0, if_false, Sem.run_bind, Sem.run_pure, Result.andThen_ok, run_zeroValue hi hz]
    rw [hm, hu1]
    simp [newRow]

/-- make -/
theorem run_mksl (hr : HRel B w0 h ι w) {t e n c size : Nat} {i : TypeInfo} {z : Value} {zc : List AV} (ht : P.underlying t = some (.slice e)) (hi : P.info? e = some i) (hz : i.zero = some z) (hsize : i.size = size) (hs : 0 < size)
    (hzr : CellsR h ι w zc z.cells) (hzl : zc.length = size) (kl kc : IntKind) (hnc : n ≤ c) (hb : i.bytes * c ≤ 2 * maxBytes) (hm : c ≤ maxLen) :
    ∃ sv w', (Instr.makeSlice t (.int kl (n : Int)) (.int kc (c : Int))).run P w = .ok sv w' ∧ NewOK B h ι w ⟨1, e, size, List.replicate n zc⟩ sv w' := by
  have hb' : (i.bytes : Int) * (c : Int) ≤ 281474976710656 := by
    have h : ((i.bytes * c : Nat) : Int) ≤ 281474976710656 := by unfold maxBytes at hb; omega
    rwa [Int.natCast_mul] at h
  have hr1 := run_make (P := P) w t e i z ht hi hz kl kc n c (by omega) (by omega) hb' (by simp only [maxLen] at hm; omega)
  simp only [Int.toNat_natCast] at hr1
  refine ⟨_, _, hr1, newOK_alloc hr _ _ c (by simp) hs hnc hm (by rw [hsize]; exact size_madeCells _ _) fun k e' he => ?_⟩
  obtain ⟨h1, h2⟩ := (rowR_made (n := n) hzr hzl).2 k e' he
  refine ⟨h1, fun j x hx => ?_⟩
  obtain ⟨v, hv, hvr⟩ := h2 j x hx
  have hk : k < n := by rw [List.getElem?_replicate] at he; split at he; assumption; cases he
  have hj : j < size := by rw [← h1]; exact (List.getElem?_eq_some_iff.1 hx).1
  have hzs : z.cells.size = size := by rw [hzr.1, hzl]
  refine ⟨v, ?_, hvr⟩
  rw [hsize, madeCells_get _ c _ k j hzs (by omega) hj]
  rwa [madeCells_get _ n _ k j hzs hk hj] at hv

/-- struct and array literals -/
theorem run_build_struct {t : TypeId} {fs : Array Field} {i : TypeInfo} {z : Value} {zc : List AV} (ht : P.underlying t = some (.struct fs)) (hi : P.info? t = some i) (hz : i.zero = some z) (hzr : CellsR h ι w zc z.cells)
    (hfs : ∀ f ∈ fs.toList, ∃ j, P.info? f.type = some j) {ps : List (Nat × Value)} {qs : List (Nat × Nat × AV)} {cs : List AV} (hl : ps.length = qs.length)
    (hpq : ∀ (k : Nat) (p : Nat × Value) (q : Nat × Nat × AV), ps[k]? = some p → qs[k]? = some q → (∃ f, fs[p.1]? = some f ∧ q.1 = f.offset ∧ sizeA P f.type = some q.2.1) ∧ VR h ι w q.2.2 p.2) (hf : fillA qs zc = some cs) :
    ∃ v, (Instr.build t ps.toArray).run P w = .ok v w ∧ VR h ι w (.agg cs) v := by
  have hpl : ∀ (l : List Field), (∀ f ∈ l, ∃ j, P.info? f.type = some j) → ∃ r : List (Nat × Nat), (l.mapM (fun f => do pure (f.offset, ← sizeOf f.type)) : Sem (List (Nat × Nat))).run P w = .ok r w ∧ r.length = l.length ∧
      ∀ (k : Nat) (f : Field) (q : Nat × Nat), l[k]? = some f → r[k]? = some q → q.1 = f.offset ∧ sizeA P f.type = some q.2 := by
    intro l
    induction l with
    | nil => intro _; exact ⟨[], by simp, rfl, fun k f q hk => by simp at hk⟩
    | cons f l ih =>
      intro hall
      obtain ⟨r, h1, h2, h3⟩ := ih (fun g hg => hall g (by simp [hg]))
      obtain ⟨j, hj⟩ := hall f (by simp)
      refine ⟨(f.offset, j.size) :: r, ?_, by simp [h2], fun k g q hk hq => ?_⟩
      · rw [List.mapM_cons]
        simp only [Sem.run_bind, run_sizeOf hj, Result.andThen_ok, Sem.run_pure, h1]
      · cases k with
        | zero =>
          simp at hk hq
          subst hk; subst hq
          exact ⟨rfl, by simp [sizeA, hj]⟩
        | succ k => exact h3 k g q (by simpa using hk) (by simpa using hq)
  obtain ⟨r, h1, h2, h3⟩ := hpl fs.toList hfs
  have hplaces : (fs.mapM (fun f => do pure (f.offset, ← sizeOf f.type)) : Sem (Array (Nat × Nat))).run P w = .ok r.toArray w := by
    rw [← Array.toArray_toList (xs := fs), List.mapM_toArray]
    simp only [Sem.run_map, h1, Result.andThen_ok]
  obtain ⟨us, hu1, hu2⟩ := run_fillA (r.toArray[·]?) ps qs zc z.cells cs hl (fun k p q hp hq => by
    obtain ⟨⟨f, hf1, hf2, hf3⟩, hv⟩ := hpq k p q hp hq
    refine ⟨?_, hv⟩
    have hlt : p.1 < r.length := by rw [h2]; simpa using (Array.getElem?_eq_some_iff.1 hf1).1
    obtain ⟨h4, h5⟩ := h3 p.1 f r[p.1] (by simpa using hf1) (List.getElem?_eq_getElem hlt)
    rw [hf3] at h5
    simp only [List.getElem?_toArray, List.getElem?_eq_getElem hlt, Option.some.injEq]
    exact Prod.ext (h4.trans hf2.symm) (Option.some.inj h5).symm) hzr hf
  refine ⟨.agg us, ?_, .agg _ _ hu2.1 hu2.2⟩
  simp only [Instr.build, Sem.run_bind, run_zeroValue hi hz, Result.andThen_ok, run_underlying ht, hplaces, hu1, Sem.run_pure]

theorem run_build_array {t e n : Nat} {i ie : TypeInfo} {z : Value} {zc : List AV} (ht : P.underlying t = some (.array n e)) (hi : P.info? t = some i) (hz : i.zero = some z) (hzr : CellsR h ι w zc z.cells) (hie : P.info? e = some ie)
    {ps : List (Nat × Value)} {qs : List (Nat × Nat × AV)} {cs : List AV} (hl : ps.length = qs.length)
    (hpq : ∀ (k : Nat) (p : Nat × Value) (q : Nat × Nat × AV), ps[k]? = some p → qs[k]? = some q → (q.1 = p.1 * ie.size ∧ q.2.1 = ie.size) ∧ VR h ι w q.2.2 p.2) (hf : fillA qs zc = some cs) :
    ∃ v, (Instr.build t ps.toArray).run P w = .ok v w ∧ VR h ι w (.agg cs) v := by
  obtain ⟨us, hu1, hu2⟩ := run_fillA (fun i => some (i * ie.size, ie.size)) ps qs zc z.cells cs hl (fun k p q hp hq => by
    obtain ⟨⟨h1, h2⟩, hv⟩ := hpq k p q hp hq
    exact ⟨by rw [h1, h2], hv⟩) hzr hf
  refine ⟨.agg us, ?_, .agg _ _ hu2.1 hu2.2⟩
  simp only [Instr.build, Sem.run_bind, run_zeroValue hi hz, Result.andThen_ok, run_underlying ht, run_sizeOf hie, hu1, Sem.run_pure]
end
end Go.Abs
