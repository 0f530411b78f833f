/- New rows: boxes, make, literals, append, copy. -/
import Derived.Test.YtfdpoliibpelaaaAbsSound2
set_option linter.unusedVariables false
set_option linter.unusedSimpArgs false
set_option linter.unnecessarySimpa false
namespace Go.Abs
open Go.RowKit (Below)
section
variable {P : Program} {B : Nat} {w0 w : World} {h : List AObj} {ι : Em}

theorem sizesOk_get {size : Nat} {es : List (List AV)} (hs : sizesOk size es = true) {i : Nat} {e : List AV} (he : es[i]? = some e) : e.length = size ∧ ∀ (j : Nat) (x : AV), e[j]? = some x → x.isCell = true := by
  have := List.all_eq_true.1 hs e (List.mem_of_getElem? he)
  simp only [Bool.and_eq_true, beq_iff_eq, List.all_eq_true] at this
  exact ⟨this.1, fun j x hx => this.2 x (List.mem_of_getElem? hx)⟩

/-- A slice value and what it holds. -/
theorem slice_view (hr : HRel B w0 h ι w) {x : AV} {v : Value} {es : List (List AV)} (hv : VR h ι w x v) (he : elemsOf h x = some es) :
    ∃ (a : Option Addr) (c : Nat), v = .slice a es.length c ∧ es.length ≤ c ∧
      (es ≠ [] → ∃ (sz : Nat) (ad : Addr) (u : Nat → Nat → Value), ad.block < w.heap.size ∧ a = some ad ∧ (∀ (i : Nat) (e : List AV), es[i]? = some e → e.length = sz) ∧
        ∀ (i : Nat) (e : List AV), es[i]? = some e → ∀ (j : Nat) (y : AV), e[j]? = some y → w.cell? (ad.add (i * sz + j)) = some (u i j) ∧ VR h ι w y (u i j)) := by
  have pure : ∀ (ps : List (List PV)) (v : Value), PRel w (OwnH h ι) (.sl ps) v → ∃ (a : Option Addr) (c : Nat), v = .slice a (ps.map (·.map AV.p)).length c ∧ (ps.map (·.map AV.p)).length ≤ c ∧
      (ps.map (·.map AV.p) ≠ [] → ∃ (sz : Nat) (ad : Addr) (u : Nat → Nat → Value), ad.block < w.heap.size ∧ a = some ad ∧ (∀ (i : Nat) (e : List AV), (ps.map (·.map AV.p))[i]? = some e → e.length = sz) ∧
        ∀ (i : Nat) (e : List AV), (ps.map (·.map AV.p))[i]? = some e → ∀ (j : Nat) (y : AV), e[j]? = some y → w.cell? (ad.add (i * sz + j)) = some (u i j) ∧ VR h ι w y (u i j)) := by
    intro ps v hp
    cases hp with
    | nil a c => exact ⟨a, c, rfl, Nat.zero_le _, fun hne => absurd rfl hne⟩
    | sl _ a n c size u hO hlt hn hc hsz hcell hrel =>
      subst hn
      refine ⟨some a, c, by simp, by simpa using hc, fun _ => ⟨size, a, u, hlt, rfl, fun i e hie => ?_, fun i e hie j y hy => ?_⟩⟩
      · rw [List.getElem?_map, Option.map_eq_some_iff] at hie
        obtain ⟨e', he', rfl⟩ := hie
        simpa using hsz i e' he'
      · rw [List.getElem?_map, Option.map_eq_some_iff] at hie
        obtain ⟨e', he', rfl⟩ := hie
        rw [List.getElem?_map, Option.map_eq_some_iff] at hy
        obtain ⟨z, hz, rfl⟩ := hy
        exact ⟨hcell i e' he' j z hz, .p _ _ (hrel i e' he' j z hz)⟩
  unfold elemsOf at he
  split at he
  · obtain rfl := Option.some.inj he
    cases hv with
    | p _ _ hp => exact pure _ _ hp
  · obtain rfl := Option.some.inj he
    cases hv with
    | xf _ a n hp => exact pure _ _ hp
  · obtain rfl := Option.some.inj he
    cases hv
    exact ⟨none, 0, rfl, Nat.le_refl _, fun hne => absurd rfl hne⟩
  · obtain rfl := Option.some.inj he
    cases hv with
    | ne a c => exact ⟨some a, c, rfl, Nat.zero_le _, fun hne => absurd rfl hne⟩
  · obtain rfl := Option.some.inj he
    cases hv with
    | nl c => exact ⟨none, c, rfl, Nat.zero_le _, fun hne => absurd rfl hne⟩
  · obtain rfl := Option.some.inj he
    cases hv with
    | e0 a => exact ⟨a, 0, rfl, Nat.le_refl _, fun hne => absurd rfl hne⟩
  · rename_i t ver
    rw [Option.map_eq_some_iff] at he
    obtain ⟨o, hgo, rfl⟩ := he
    obtain ⟨hot, hov⟩ := getRow_some hgo
    cases hv with
    | row _ _ _ ht hone hob =>
      obtain rfl := (hob o hot).2 hov
      obtain ⟨hs, xs, hown, hes, u, hu⟩ := row_view hr hot (getRow_live hgo)
      rcases Nat.eq_zero_or_pos o.elems.length with h0 | hpos
      · have hnil : o.elems = [] := List.eq_nil_of_length_eq_zero h0
        rcases hown.2 with ⟨hv, _⟩ | ⟨g, cap, cur, hv, _, _, hc, _⟩
        · exact ⟨none, 0, by rw [hv, h0], by omega, fun hne => absurd hnil hne⟩
        · exact ⟨_, cap, hv, hc, fun hne => absurd hnil hne⟩
      · obtain ⟨g, cap, hv, hc⟩ := own_form hown hpos
        refine ⟨_, cap, hv, hc, fun _ => ⟨o.size, _, u, (hr.own ht (by rw [hv]; rfl)).2, rfl, hes, fun i e hie j y hy => ?_⟩⟩
        obtain ⟨h1, h2⟩ := hu i e hie j y hy
        rw [hv] at hown
        refine ⟨?_, h2⟩
        rw [Addr.add_lit, Nat.zero_add, hown.cellAt _ (idx_lt (List.getElem?_eq_some_iff.1 hie).1 (by rw [← hes i e hie]; exact (List.getElem?_eq_some_iff.1 hy).1))]
        exact h1
  · rename_i t ver lo len ex
    rw [Option.map_eq_some_iff] at he
    obtain ⟨o, hgo, rfl⟩ := he
    obtain ⟨hot, hov⟩ := getRow_some hgo
    cases hv with
    | sl _ _ _ _ _ _ ht hone hob =>
      obtain ⟨g, N, C, c, hsv, rfl, hlc, _, hle⟩ := (hob o hot).2 hov
      have hlen : ((o.elems.drop lo).take len).length = len := by simp; omega
      obtain ⟨hs, xs, hown, hes, u, hu⟩ := row_view hr hot (getRow_live hgo)
      refine ⟨_, c, by rw [hlen], by omega, fun hne => ⟨o.size, _, fun i j => u (lo + i) j, (hr.own ht (by rw [hsv]; rfl)).2, rfl, fun i e hie => ?_, fun i e hie j y hy => ?_⟩⟩
      · rw [List.getElem?_take] at hie
        split at hie
        · rw [List.getElem?_drop] at hie
          exact hes _ e hie
        · cases hie
      · rw [List.getElem?_take] at hie
        split at hie
        · rw [List.getElem?_drop] at hie
          obtain ⟨h1, h2⟩ := hu _ e hie j y hy
          refine ⟨?_, h2⟩
          have hlt : lo + i < o.elems.length := (List.getElem?_eq_some_iff.1 hie).1
          have hown' := hown
          rw [hsv] at hown'
          obtain ⟨g', cap', hform, _⟩ := own_form hown' (by omega)
          simp only [Value.slice.injEq, Option.some.injEq, Addr.mk.injEq, and_true] at hform
          obtain ⟨rfl, rfl, rfl⟩ := hform
          rw [Addr.add_lit, ← Nat.add_assoc, ← Nat.add_mul, hown'.cellAt _ (idx_lt hlt (by rw [← hes _ e hie]; exact (List.getElem?_eq_some_iff.1 hy).1))]
          exact h1
        · cases hie
  · cases he

/-- The cells of a slice as one list of values. -/
theorem slice_news (hr : HRel B w0 h ι w) {x : AV} {v : Value} {es : List (List AV)} {size : Nat} (hv : VR h ι w x v) (he : elemsOf h x = some es) (hsz : sizesOk size es = true) (hs : 0 < size) :
    ∃ (a : Option Addr) (c : Nat) (news : List Value), v = .slice a es.length c ∧ es.length ≤ c ∧ news.length = es.length * size ∧ (es ≠ [] → ∃ ad, a = some ad ∧ ∀ (j : Nat) (u : Value), news[j]? = some u → w.cell? (ad.add j) = some u) ∧ (∀ u ∈ news, u.oneCell' = true) ∧
      ∀ (i : Nat) (e : List AV), es[i]? = some e → ∀ (j : Nat) (y : AV), e[j]? = some y → ∃ u, news[i * size + j]? = some u ∧ VR h ι w y u := by
  obtain ⟨a, c, rfl, hc, hrest⟩ := slice_view hr hv he
  by_cases hne : es = []
  · subst hne
    exact ⟨a, c, [], rfl, hc, by simp, fun h => absurd rfl h, by simp, by simp⟩
  · obtain ⟨sz, ad, u, _, rfl, hel, hcell⟩ := hrest hne
    have hszeq : sz = size := by
      obtain ⟨e, he0⟩ : ∃ e, es[0]? = some e := by
        cases es with
        | nil => exact absurd rfl hne
        | cons e _ => exact ⟨e, rfl⟩
      rw [← hel 0 e he0, (sizesOk_get hsz he0).1]
    subst hszeq
    have key : ∀ k, k < es.length * sz → ∃ (e : List AV) (y : AV), es[k / sz]? = some e ∧ e[k % sz]? = some y := by
      intro k hk
      have h1 : k / sz < es.length := (Nat.div_lt_iff_lt_mul hs).2 hk
      have h2 : k % sz < (es[k / sz]).length := by rw [hel _ _ (List.getElem?_eq_getElem h1)]; exact Nat.mod_lt _ hs
      exact ⟨_, _, List.getElem?_eq_getElem h1, List.getElem?_eq_getElem h2⟩
    have hdm : ∀ k, k / sz * sz + k % sz = k := fun k => by rw [Nat.mul_comm]; exact Nat.div_add_mod k sz
    refine ⟨some ad, c, (List.range (es.length * sz)).map (fun k => u (k / sz) (k % sz)), rfl, hc, by simp, fun _ => ⟨ad, rfl, fun j v hj => ?_⟩, fun v hv' => ?_, fun i e hie j y hy => ?_⟩
    · obtain ⟨hlt, rfl⟩ := mapRange_get _ _ _ _ hj
      obtain ⟨e, y, h1, h2⟩ := key j hlt
      have := (hcell _ e h1 _ y h2).1
      rwa [hdm] at this
    · obtain ⟨k, hk⟩ := List.getElem?_of_mem hv'
      obtain ⟨hlt, rfl⟩ := mapRange_get _ _ _ _ hk
      obtain ⟨e, y, h1, h2⟩ := key k hlt
      exact (hcell _ e h1 _ y h2).2.oneCell ((sizesOk_get hsz h1).2 _ y h2)
    · have hi : i < es.length := (List.getElem?_eq_some_iff.1 hie).1
      have hj : j < sz := by rw [← hel i e hie]; exact (List.getElem?_eq_some_iff.1 hy).1
      have hlt := idx_lt hi hj
      refine ⟨u i j, ?_, (hcell i e hie j y hy).2⟩
      rw [List.getElem?_map, List.getElem?_range hlt]
      have h1 : (i * sz + j) / sz = i := by rw [Nat.mul_comm, Nat.mul_add_div hs, Nat.div_eq_of_lt hj]; rfl
      have h2 : (i * sz + j) % sz = j := by rw [Nat.mul_comm, Nat.mul_add_mod, Nat.mod_eq_of_lt hj]
      simp [h1, h2]

/-- box, alloc -/
theorem run_box {e size : Nat} (hr : HRel B w0 h ι w) {v : Value} {x : AV} (hv : VR h ι w x v) {cs : List AV} (hc : x.cells = some cs) (hl : cs.length = size) (hs : 0 < size) :
    NewOK B h ι w ⟨1, e, size, [cs]⟩ (.slice (some ⟨w.heap.size, 0, none⟩) 1 1) (w.alloc (.cells v.cells e)) := by
  obtain ⟨h1, h2, h3⟩ := cells_rel hv hc
  refine newOK_alloc hr [cs] v.cells 1 rfl hs (Nat.le_refl _) (by simp [maxLen]) (by omega) fun i e' he => ?_
  cases i with
  | zero =>
    simp at he
    subst he
    refine ⟨hl, fun j y hy => ?_⟩
    have hj : j < v.cells.size := by rw [h1]; exact (List.getElem?_eq_some_iff.1 hy).1
    exact ⟨_, by simpa using Array.getElem?_eq_getElem hj, (h3 j y _ hy (Array.getElem?_eq_getElem hj)).1⟩
  | succ i => simp at he

theorem growBytes {n m bytes : Nat} (hb : (n + m) * bytes ≤ maxBytes) : (n + m) * bytes ≤ 140737488355328 := hb

theorem append_none_run {t ty e : TypeId} {i : TypeInfo} (ht : P.underlying t = some (.slice e)) (hi : P.info? e = some i) (a : Option Addr) (c : Nat) (a' : Option Addr) (n c' : Nat) (hn : n ≤ c) (hza : a = none → n = 0) :
    (Builtin.append_ #[t, t] ty #[.slice a n c, .slice a' 0 c']).run P w = .ok (.slice a n c) w := by
  have hf : (Builtin.firstCells i.size 0 (.slice a' 0 c')).run P w = .ok #[] w := by
    cases a' <;> simp [Builtin.firstCells, loadCells, loadCellsFrom]
  cases a with
  | none => simp [Builtin.append_, run_underlying ht, sizeOf, typeInfo, hi, Builtin.lenOf, hf, hn]
  | some ad => simp [Builtin.append_, run_underlying ht, sizeOf, typeInfo, hi, Builtin.lenOf, hf, hn, storeCells]

/-- append makes a new row -/
theorem append_new (hr : HRel B w0 h ι w) {t ty e : TypeId} {i : TypeInfo} {z : Value} {size bytes : Nat} (ht : P.underlying t = some (.slice e)) (hi : P.info? e = some i) (hz : i.zero = some z) (hsize : i.size = size) (hby : i.bytes = bytes)
    (hzs : z.cells.size = size) (hs : 0 < size) {a : Option Addr} {n : Nat} {olds : List Value} {es0 es : List (List AV)} (hn : n = es0.length) (hol : olds.length = n * size)
    (hoc : 0 < n → ∃ ad, a = some ad ∧ ∀ (j : Nat) (u : Value), olds[j]? = some u → w.cell? (ad.add j) = some u)
    (hor : ∀ (i : Nat) (e : List AV), es0[i]? = some e → e.length = size ∧ ∀ (j : Nat) (y : AV), e[j]? = some y → ∃ u, olds[i * size + j]? = some u ∧ VR h ι w y u)
    {x : AV} {v : Value} (hv : VR h ι w x v) (he : elemsOf h x = some es) (hsz : sizesOk size es = true) (hne : es ≠ []) (hb : (n + es.length) * bytes ≤ maxBytes) (hml : n + es.length ≤ maxLen) :
    ∃ sv w', (Builtin.append_ #[t, t] ty #[.slice a n n, v]).run P w = .ok sv w' ∧ NewOK B h ι w ⟨1, e, size, es0 ++ es⟩ sv w' := by
  obtain ⟨a', c', news, rfl, hc', hnl, hnc, hn1, hnr⟩ := slice_news hr hv he hsz hs
  obtain ⟨ad', rfl, hcell⟩ := hnc hne
  have hpos : 0 < es.length := List.length_pos_iff.2 hne
  subst hsize; subst hby
  have h63 : n + es.length ≤ 9223372036854775807 := by simp only [maxLen] at hml; omega
  have hge := grownCap_ge w (n + es.length) n e
  have hcm : grownCap w (n + es.length) n e ≤ maxLen := grownCap_le_maxLen w (n + es.length) n e hml
  have hcells : ∀ (i' : Nat) (e' : List AV), (es0 ++ es)[i']? = some e' → e'.length = i.size ∧ ∀ (j : Nat) (y : AV), e'[j]? = some y →
      ∃ u, (olds.toArray ++ news.toArray ++ Builtin.zeroCells z.cells (grownCap w (n + es.length) n e - (n + es.length)))[i' * i.size + j]? = some u ∧ VR h ι w y u := by
    intro i' e' he'
    by_cases hlt : i' < es0.length
    · rw [List.getElem?_append_left hlt] at he'
      obtain ⟨h1, h2⟩ := hor i' e' he'
      refine ⟨h1, fun j y hy => ?_⟩
      obtain ⟨u, hu, hvr⟩ := h2 j y hy
      refine ⟨u, ?_, hvr⟩
      have hlt2 : i' * i.size + j < olds.length := (List.getElem?_eq_some_iff.1 hu).1
      rw [Array.getElem?_append_left (by simp; omega), Array.getElem?_append_left (by simpa using hlt2)]
      simpa using hu
    · rw [List.getElem?_append_right (by omega)] at he'
      refine ⟨(sizesOk_get hsz he').1, fun j y hy => ?_⟩
      obtain ⟨u, hu, hvr⟩ := hnr _ e' he' j y hy
      refine ⟨u, ?_, hvr⟩
      have hlt2 : (i' - es0.length) * i.size + j < news.length := (List.getElem?_eq_some_iff.1 hu).1
      have heq : i' * i.size + j = olds.length + ((i' - es0.length) * i.size + j) := by
        rw [hol, hn, ← Nat.add_assoc, ← Nat.add_mul]
        congr 2
        omega
      rw [heq, Array.getElem?_append_left (by simp; omega), Array.getElem?_append_right (by simp)]
      simpa using hu
  have hsizes : (olds.toArray ++ news.toArray ++ Builtin.zeroCells z.cells (grownCap w (n + es.length) n e - (n + es.length))).size = grownCap w (n + es.length) n e * i.size := by
    simp only [Array.size_append, List.size_toArray, size_zeroCells, hzs, hol, hnl, ← Nat.add_mul]
    congr 1
    omega
  have hgrow : w.grownBy (w.drew.alloc (.cells (olds.toArray ++ news.toArray ++ Builtin.zeroCells z.cells (grownCap w (n + es.length) n e - (n + es.length))) e)) none :=
    ⟨rfl, rfl, rfl, by simp, fun k hk _ => Below.heap_alloc w.drew _ k hk⟩
  have hok := newOK_gen (e := e) (n := n + es.length) hr (es0 ++ es) _ _ _ hgrow (heap_alloc_new w.drew _) (by simp [hn]) hs hge hcm hsizes hcells
  cases a with
  | none =>
    have h0 : n = 0 := by
      rcases Nat.eq_zero_or_pos n with h | h
      · exact h
      · obtain ⟨ad, hh, _⟩ := hoc h
        cases hh
    subst h0
    have hol0 : olds = [] := List.eq_nil_of_length_eq_zero (by simpa using hol)
    subst hol0
    have hr1 := run_append_nil (P := P) w t ty e i z ht hi hz ad' es.length c' news hnl hcell hpos (by omega) (by unfold maxBytes at hb; simp only [Nat.zero_add] at hb; omega)
    simp only [Nat.zero_add, Array.empty_append] at hok ⊢
    exact ⟨_, _, hr1, hok⟩
  | some ad =>
    have hcell0 : ∀ (j : Nat) (u : Value), olds[j]? = some u → w.cell? (ad.add j) = some u := by
      intro j u hju
      rcases Nat.eq_zero_or_pos n with h | h
      · subst h
        have hol0 : olds = [] := List.eq_nil_of_length_eq_zero (by simpa using hol)
        subst hol0
        simp at hju
      · obtain ⟨ad2, hh, hc⟩ := hoc h
        obtain rfl := Option.some.inj hh
        exact hc j u hju
    have hr1 := run_append_grow (P := P) w t ty e i z ht hi hz ad n n olds hol hcell0 ad' es.length c' news hnl hcell (by omega) (by omega) (growslice_fits (by omega) hb)
    exact ⟨_, _, hr1, hok⟩

theorem elems_old {size : Nat} {es0 : List (List AV)} {olds : List Value} (hsz : sizesOk size es0 = true)
    (hnr : ∀ (i : Nat) (e : List AV), es0[i]? = some e → ∀ (j : Nat) (y : AV), e[j]? = some y → ∃ u, olds[i * size + j]? = some u ∧ VR h ι w y u) :
    ∀ (i : Nat) (e : List AV), es0[i]? = some e → e.length = size ∧ ∀ (j : Nat) (y : AV), e[j]? = some y → ∃ u, olds[i * size + j]? = some u ∧ VR h ι w y u :=
  fun i e he => ⟨(sizesOk_get hsz he).1, hnr i e he⟩

/-- append -/
theorem run_appendA (hr : HRel B w0 h ι w) {t ty e : TypeId} {i : TypeInfo} {z : Value} {size bytes : Nat} (ht : P.underlying t = some (.slice e)) (hi : P.info? e = some i) (hz : i.zero = some z) (hsize : i.size = size) (hby : i.bytes = bytes)
    (hzs : z.cells.size = size) (hs : 0 < size) {s : AV} {vs : Value} (hvs : VR h ι w s vs) {x : AV} {v : Value} (hv : VR h ι w x v) {es : List (List AV)} (he : elemsOf h x = some es) {T : Nat} {y : AV} {eff : Eff}
    (ha : appendA h T e size bytes s es = some (y, eff)) :
    ∃ sv w', (Builtin.append_ #[t, t] ty #[vs, v]).run P w = .ok sv w' ∧
      ((eff = .none ∧ w' = w ∧ VR h ι w y sv) ∨ (∃ o, eff = .new o ∧ o.ver = 1 ∧ y = .row T 1 ∧ NewOK B h ι w o sv w') ∨ (∃ tg o', eff = .upd tg o' ∧ y = .row tg o'.ver ∧ UpdOK B h ι w tg o' sv w')) := by
  unfold appendA at ha
  split at ha
  · -- nil
    split at ha
    · rename_i hc
      obtain ⟨hsz, hb, hml⟩ := hc
      simp only [Option.some.injEq, Prod.mk.injEq] at ha
      obtain ⟨rfl, rfl⟩ := ha
      cases hvs
      by_cases hne : es = []
      · subst hne
        obtain ⟨a, c, rfl, hc, _⟩ := slice_view hr hv he
        refine ⟨.slice none 0 0, w, append_none_run ht hi none 0 a 0 c (Nat.le_refl _) (fun _ => rfl), .inr (.inl ⟨_, rfl, rfl, rfl, [], ⟨rfl, rfl, rfl, Nat.le_refl _, fun _ _ _ => rfl⟩, by simp [Value.ownBlock], hs, World.ownsRow_nil w B e size, by simp⟩)⟩
      · obtain ⟨sv, w', h1, h2⟩ := append_new (a := none) (n := 0) (olds := []) (es0 := []) hr ht hi hz hsize hby hzs hs rfl (by simp) (fun h => absurd h (by omega)) (by simp) hv he hsz hne (by simpa using hb) (by simpa using hml)
        exact ⟨sv, w', h1, .inr (.inl ⟨_, rfl, rfl, rfl, by simpa using h2⟩)⟩
    · cases ha
  · -- row
    rename_i tg ver
    split at ha
    · rename_i o hgo
      split at ha
      · rename_i hc
        obtain ⟨hoe, hosz, hsz, hb, hml⟩ := hc
        simp only [Option.some.injEq, Prod.mk.injEq] at ha
        obtain ⟨rfl, rfl⟩ := ha
        obtain ⟨hot, hov⟩ := getRow_some hgo
        cases hvs with
        | row _ _ _ htl hone hob =>
          obtain rfl := (hob o hot).2 hov
          obtain ⟨_, xs, hown, hes, u, hu⟩ := row_view hr hot (getRow_live hgo)
          rw [hoe, hosz] at hown
          have hxe : ∀ (i : Nat) (e : List AV), o.elems[i]? = some e → e.length = size ∧ ∀ (j : Nat) (y : AV), e[j]? = some y → ∃ u, xs[i * size + j]? = some u ∧ VR h ι w y u := fun i e hie =>
            ⟨by rw [← hosz]; exact hes i e hie, fun j y hy => ⟨_, by rw [← hosz]; exact (hu i e hie j y hy)⟩⟩
          by_cases hne : es = []
          · subst hne
            obtain ⟨a, c, rfl, hc, _⟩ := slice_view hr hv he
            have hform : ∃ a' n' c', ι tg = .slice a' n' c' ∧ n' ≤ c' ∧ (a' = none → n' = 0) := by
              rcases hown.2 with ⟨hv, h0⟩ | ⟨g, cap, cur, hv, _, _, hc, _⟩
              · exact ⟨none, 0, 0, hv, Nat.le_refl _, fun _ => rfl⟩
              · exact ⟨_, _, cap, hv, hc, fun h => by cases h⟩
            obtain ⟨a', n', c2, hform, hle, hza⟩ := hform
            refine ⟨ι tg, w, by rw [hform]; exact append_none_run ht hi a' c2 a n' c hle hza, .inr (.inr ⟨tg, _, rfl, rfl, o, xs, hot, ⟨rfl, rfl, rfl, Nat.le_refl _, fun _ _ _ => rfl⟩, fun _ h => .inl h, .inr (by dsimp only; omega), hs, by simpa using hown, fun i' e' he' => hxe i' e' (by simpa using he')⟩)⟩
          · obtain ⟨a', c', news, rfl, hc', hnl, hnc, hn1, hnr⟩ := slice_news hr hv he hsz hs
            obtain ⟨ad', rfl, hcell⟩ := hnc hne
            obtain ⟨v', w', hrun, hown', hgrow, _, hblk⟩ := run_append_own_at (P := P) w B t ty e i z size bytes ht hi hz hsize hby hzs hs (ι tg) o.elems.length xs hown ad' es.length c' news hnl hcell hn1 hml hb hr.size
            refine ⟨v', w', hrun, .inr (.inr ⟨tg, _, rfl, rfl, o, xs ++ news, hot, hgrow, fun g hg => ?_, .inr (by dsimp only; omega), hs, by simpa using hown', fun i' e' he' => ?_⟩)⟩
            · rcases hblk with h1 | h1
              · exact .inl (by rw [← h1]; exact hg)
              · rw [h1] at hg
                obtain rfl := Option.some.inj hg
                exact .inr (Nat.le_refl _)
            · dsimp only at he' ⊢
              by_cases hlt : i' < o.elems.length
              · rw [List.getElem?_append_left hlt] at he'
                obtain ⟨h1, h2⟩ := hxe i' e' he'
                refine ⟨h1, fun j y hy => ?_⟩
                obtain ⟨u, hu, hvr⟩ := h2 j y hy
                exact ⟨u, by rw [List.getElem?_append_left (List.getElem?_eq_some_iff.1 hu).1]; exact hu, hvr⟩
              · rw [List.getElem?_append_right (by omega)] at he'
                refine ⟨(sizesOk_get hsz he').1, fun j y hy => ?_⟩
                obtain ⟨u, hu, hvr⟩ := hnr _ e' he' j y hy
                refine ⟨u, ?_, hvr⟩
                have heq : i' * size + j = xs.length + ((i' - o.elems.length) * size + j) := by
                  rw [hown.1, ← Nat.add_assoc, ← Nat.add_mul]
                  congr 2
                  omega
                rw [heq, List.getElem?_append_right (by omega)]
                simpa using hu
      · cases ha
    · cases ha
  · -- e0
    split at ha
    · rename_i hne
      simp only [Option.some.injEq, Prod.mk.injEq] at ha
      obtain ⟨rfl, rfl⟩ := ha
      subst hne
      obtain ⟨a, c, rfl, hc, _⟩ := slice_view hr hv he
      cases hvs with
      | e0 ad => exact ⟨_, w, append_none_run ht hi ad 0 a 0 c (Nat.le_refl _) (fun _ => rfl), .inl ⟨rfl, rfl, .e0 ad⟩⟩
    · rename_i hne
      split at ha
      · rename_i hc
        obtain ⟨hsz, hb, hml⟩ := hc
        simp only [Option.some.injEq, Prod.mk.injEq] at ha
        obtain ⟨rfl, rfl⟩ := ha
        cases hvs with
        | e0 ad =>
          obtain ⟨sv, w', h1, h2⟩ := append_new (a := ad) (n := 0) (olds := []) (es0 := []) hr ht hi hz hsize hby hzs hs rfl (by simp) (fun h => absurd h (by omega)) (by simp) hv he hsz hne (by simpa using hb) (by simpa using hml)
          exact ⟨sv, w', h1, .inr (.inl ⟨_, rfl, rfl, rfl, by simpa using h2⟩)⟩
      · cases ha
  · -- xf
    rename_i es0
    dsimp only at ha
    split at ha
    · cases ha
    · rename_i hne
      have hne : es ≠ [] := by simpa using hne
      split at ha
      · rename_i hc
        obtain ⟨hso, hsz, hb, hml⟩ := hc
        simp only [Option.some.injEq, Prod.mk.injEq] at ha
        obtain ⟨rfl, rfl⟩ := ha
        obtain ⟨a, c, olds, hvf, hlc, hol, hoc, ho1, hor⟩ := slice_news hr hvs (by rfl : elemsOf h (.xf es0) = some _) hso hs
        cases hvs with
        | xf _ a2 n hp =>
          simp only [Value.slice.injEq] at hvf
          obtain ⟨rfl, rfl, rfl⟩ := hvf
          obtain ⟨sv, w', h1, h2⟩ := append_new (a := a2) (olds := olds) (es0 := es0.map (·.map AV.p)) hr ht hi hz hsize hby hzs hs rfl hol (fun h => hoc (by intro e; rw [e] at h; exact absurd h (by simp))) (elems_old hso hor) hv he hsz hne hb hml
          exact ⟨sv, w', h1, .inr (.inl ⟨_, rfl, rfl, rfl, h2⟩)⟩
      · cases ha
  · -- sl
    rename_i tg ver lo len ex
    split at ha
    · rename_i o hgo
      dsimp only at ha
      split at ha
      · rename_i hc
        obtain ⟨hex, hne, hosz, hso, hsz, hb, hml⟩ := hc
        have hne : es ≠ [] := by simpa using hne
        simp only [Option.some.injEq, Prod.mk.injEq] at ha
        obtain ⟨rfl, rfl⟩ := ha
        obtain ⟨a, c, olds, hvf, hlc, hol, hoc, ho1, hor⟩ := slice_news hr hvs (by simp only [elemsOf, hgo, Option.map_some] : elemsOf h (.sl tg ver lo len ex) = some ((o.elems.drop lo).take len)) hso hs
        obtain ⟨hot, hov⟩ := getRow_some hgo
        cases hvs with
        | sl _ _ _ _ _ _ htl hone hob =>
          obtain ⟨g, N, C, c2, hsv, rfl, h3, hxc, h4⟩ := (hob o hot).2 hov
          obtain rfl := hxc hex
          simp only [Value.slice.injEq] at hvf
          obtain ⟨rfl, hl1, rfl⟩ := hvf
          rw [← hl1] at hb hml hol
          obtain ⟨sv, w', h1, h2⟩ := append_new (olds := olds) (es0 := (o.elems.drop lo).take _) hr ht hi hz hsize hby hzs hs hl1 hol (fun h => hoc (by intro e; rw [e] at hl1; simp at hl1; omega)) (elems_old hso hor) hv he hsz hne hb hml
          exact ⟨sv, w', h1, .inr (.inl ⟨_, rfl, rfl, rfl, h2⟩)⟩
      · cases ha
    · cases ha
  · cases ha
end
end Go.Abs
