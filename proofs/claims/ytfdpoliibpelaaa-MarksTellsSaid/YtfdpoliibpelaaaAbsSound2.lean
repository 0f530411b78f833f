/- What the abstract writes mean in the model's worlds: stores, new rows. -/
import Derived.Test.YtfdpoliibpelaaaAbsSound1
set_option linter.unusedVariables false
set_option linter.unusedSimpArgs false
namespace Go.Abs
open Go.RowKit (Below)

/-- a new object, before it has its tag -/
def NewOK (B : Nat) (h : List AObj) (ι : Em) (w : World) (o : AObj) (sv : Value) (w' : World) : Prop :=
  ∃ xs : List Value, w.grownBy w' none ∧ (∀ g, sv.ownBlock = some g → w.heap.size ≤ g) ∧ 0 < o.size ∧ w'.ownsRow B o.e o.size sv o.elems.length xs ∧
    ∀ (i : Nat) (e : List AV), o.elems[i]? = some e → e.length = o.size ∧ ∀ (j : Nat) (x : AV), e[j]? = some x → ∃ v, xs[i * o.size + j]? = some v ∧ VR h ι w x v

/-- an object that is turned -/
def UpdOK (B : Nat) (h : List AObj) (ι : Em) (w : World) (t : Nat) (o' : AObj) (sv : Value) (w' : World) : Prop :=
  ∃ (o : AObj) (xs : List Value), h[t]? = some o ∧ w.grownBy w' (ι t).ownBlock ∧ (∀ g, sv.ownBlock = some g → (ι t).ownBlock = some g ∨ w.heap.size ≤ g) ∧
    ((o'.ver = o.ver ∧ o'.size = o.size ∧ o'.elems.length = o.elems.length ∧ sv = ι t) ∨ o.ver < o'.ver) ∧ 0 < o'.size ∧ w'.ownsRow B o'.e o'.size sv o'.elems.length xs ∧
    ∀ (i : Nat) (e : List AV), o'.elems[i]? = some e → e.length = o'.size ∧ ∀ (j : Nat) (x : AV), e[j]? = some x → ∃ v, xs[i * o'.size + j]? = some v ∧ VR h ι w x v

theorem splice_get {α : Type} (xs vs : List α) (k m : Nat) (hk : k + vs.length ≤ xs.length) :
    (xs.take k ++ vs ++ xs.drop (k + vs.length))[m]? = if m < k then xs[m]? else if m < k + vs.length then vs[m - k]? else xs[m]? := by
  by_cases h1 : m < k
  · rw [if_pos h1, List.append_assoc, List.getElem?_append_left (by simp; omega), List.getElem?_take, if_pos h1]
  · rw [if_neg h1]
    by_cases h2 : m < k + vs.length
    · rw [if_pos h2, List.append_assoc, List.getElem?_append_right (by simp; omega), List.getElem?_append_left (by simp; omega)]
      congr 1
      simp; omega
    · rw [if_neg h2, List.getElem?_append_right (by simp; omega), List.getElem?_drop]
      congr 1
      simp; omega

theorem splice_len {α : Type} (xs vs : List α) (k : Nat) (hk : k + vs.length ≤ xs.length) : (xs.take k ++ vs ++ xs.drop (k + vs.length)).length = xs.length := by
  simp; omega

section
variable {P : Program} {B : Nat} {w0 w : World} {h : List AObj} {ι : Em}

theorem cells_rel {x : AV} {v : Value} {cs : List AV} (hv : VR h ι w x v) (hc : x.cells = some cs) :
    v.cells.size = cs.length ∧ cs.all AV.isCell = true ∧ ∀ (j : Nat) (y : AV) (u : Value), cs[j]? = some y → v.cells[j]? = some u → VR h ι w y u ∧ u.oneCell' = true := by
  have key : x.isCell = true → x.cells = some [x] ∧ v.cells = #[v] := fun hx => by
    have h1 := hv.oneCell hx
    refine ⟨by cases x <;> simp_all [AV.cells, AV.isCell], by cases v <;> simp_all [Value.cells, Value.oneCell']⟩
  by_cases hx : x.isCell = true
  · obtain ⟨h1, h2⟩ := key hx
    rw [h1] at hc
    obtain rfl := Option.some.inj hc
    rw [h2]
    refine ⟨rfl, by simp [hx], fun j y u hy hu => ?_⟩
    cases j with
    | zero =>
      simp at hy hu
      subst hy; subst hu
      exact ⟨hv, hv.oneCell hx⟩
    | succ j => simp at hy
  · cases hv with
    | agg cs' vs hl hr =>
      simp only [AV.cells] at hc
      split at hc
      · rename_i hall
        obtain rfl := Option.some.inj hc
        refine ⟨hl, hall, fun j y u hy hu => ?_⟩
        have hyr := hr j y u hy hu
        exact ⟨hyr, hyr.oneCell (List.all_eq_true.1 hall y (List.mem_of_getElem? hy))⟩
      · cases hc
    | _ => simp_all [AV.cells, AV.isCell]

/-- a row of the call's own is written -/
theorem ownsRow_setRow {b e size g n cap off : Nat} {xs vs : List Value} (ho : w.ownsRow b e size (.slice (some ⟨g, 0, none⟩) n cap) n xs) (hk : off + vs.length ≤ xs.length) :
    ∃ cur, w.heap[g]? = some (.cells cur e (0, 0)) ∧ off + vs.length ≤ cur.size ∧
      (w.setRow g (cur.toList.take off ++ vs ++ cur.toList.drop (off + vs.length)).toArray).ownsRow b e size (.slice (some ⟨g, 0, none⟩) n cap) n (xs.take off ++ vs ++ xs.drop (off + vs.length)) ∧
      w.grownBy (w.setRow g (cur.toList.take off ++ vs ++ cur.toList.drop (off + vs.length)).toArray) (some g) := by
  obtain ⟨hl, hh⟩ := ho
  rcases hh with ⟨h', _⟩ | ⟨g', cap', cur, h', hb, hg, hnc, hcm, hcs, htake⟩
  · simp at h'
  · simp only [Value.slice.injEq, Option.some.injEq, Addr.mk.injEq, and_true, true_and] at h'
    obtain ⟨rfl, rfl⟩ := h'
    have hle : n * size ≤ cur.size := by rw [hcs]; exact Nat.mul_le_mul_right _ hnc
    have hkc : off + vs.length ≤ cur.size := by omega
    refine ⟨cur, hg, hkc, ⟨by rw [splice_len _ _ _ hk]; exact hl, .inr ⟨g, cap, _, rfl, hb, setRow_heap w g cur _ e _ hg, hnc, hcm, ?_, ?_⟩⟩,
      ⟨rfl, rfl, rfl, by simp, fun k _ hne => setRow_other w g k _ (fun e => hne (by rw [e]))⟩⟩
    · rw [List.size_toArray, splice_len _ _ _ (by simpa using hkc)]
      simpa using hcs
    · apply List.ext_getElem?
      intro m
      rw [splice_get _ _ _ _ hk, List.getElem?_take, splice_get _ _ _ _ (by simpa using hkc), ← htake]
      by_cases hm : m < n * size
      · simp only [hm, if_true, List.getElem?_take]
      · have h1 : ¬ m < off := by omega
        have h2 : ¬ m < off + vs.length := by omega
        simp only [hm, h1, h2, if_false, List.getElem?_take]

/-- store -/
theorem run_storeAt (hr : HRel B w0 h ι w) {t : TypeId} {n : Nat} (hn : sizeA P t = some n) {x : AV} {v : Value} (hv : VR h ι w x v) {a : AV} {va : Value} (ha : VR h ι w a va)
    {y : AV} {T : Nat} {ρ : AOpd → AV} {A X : AOpd} (hX : ρ X = x) (hA : ρ A = a) {eff : Eff} (he : aexec h T ρ (.store n A X) = some (y, eff)) :
    y = .u ∧ ∃ s o' w', eff = .upd s o' ∧ (Instr.storeAt t va v).run P w = .ok () w' ∧ UpdOK B h ι w s o' (ι s) w' := by
  simp only [aexec, hX, hA] at he
  split at he
  · rename_i cs tg ver i off hcs
    split at he
    · rename_i o hgo
      split at he
      · rename_i e hel
        split at he
        · rename_i hcond
          obtain ⟨hcl, hle⟩ := hcond
          simp only [Option.some.injEq, Prod.mk.injEq] at he
          obtain ⟨rfl, rfl⟩ := he
          obtain ⟨hot, hov⟩ := getRow_some hgo
          obtain ⟨hsz, hall, hcr⟩ := cells_rel hv hcs
          cases ha with
          | ptr _ _ _ _ _ ht hone hob =>
            obtain ⟨g, N, C, hsv, rfl, hil⟩ := (hob o hot).2 hov
            obtain ⟨hs, xs, hown, hes, u, hu⟩ := row_view hr hot (getRow_live hgo)
            have hesz := hes i e hel
            have hown' := hown
            rw [hsv] at hown'
            obtain ⟨g', cap', hform, _⟩ := own_form hown' (by omega)
            simp only [Value.slice.injEq, Option.some.injEq, Addr.mk.injEq, and_true] at hform
            obtain ⟨rfl, rfl, rfl⟩ := hform
            have hvl : v.cells.toList.length = cs.length := by simpa using hsz
            have hoff : i * o.size + off + v.cells.toList.length ≤ xs.length := by
              rw [hown.1, hvl]
              have : (i + 1) * o.size ≤ o.elems.length * o.size := Nat.mul_le_mul_right _ hil
              rw [Nat.add_mul, Nat.one_mul] at this
              omega
            obtain ⟨cur, hcur, hcle, hown2, hgrow⟩ := ownsRow_setRow hown' hoff
            have hst := run_storeCells_at P g (i * o.size + off) o.e v.cells.toList 0 cur w hcur (by simpa using hcle) (fun c hc => by
              obtain ⟨j, hj, rfl⟩ := List.getElem_of_mem hc
              have hj' : j < cs.length := by omega
              exact (hcr j cs[j] _ (List.getElem?_eq_getElem hj') (by rw [← Array.getElem?_toList, List.getElem?_eq_getElem hj])).2)
            simp only [Nat.add_zero] at hst
            refine ⟨rfl, _, _, _, rfl, ?_, o, xs.take (i * o.size + off) ++ v.cells.toList ++ xs.drop (i * o.size + off + v.cells.toList.length), hot, by rw [hsv]; exact hgrow, fun _ hg => .inl hg, .inl ⟨rfl, rfl, by simp, rfl⟩, hs, ?_, fun i' e' he' => ?_⟩
            · obtain ⟨i0, hi0, hi1⟩ : ∃ i0, P.info? t = some i0 ∧ i0.size = n := by simpa [sizeA] using hn
              simp only [Instr.storeAt, Instr.sureAddr, storeVar, Sem.run_bind, Sem.run_pure, Result.andThen_ok, run_sizeOf hi0, hi1, hsz, hcl, ne_eq, not_true_eq_false, if_false]
              exact hst
            · rw [hsv]
              simpa using hown2
            · dsimp only at he' ⊢
              by_cases hii : i' = i
              · subst hii
                rw [List.getElem?_set_self hil] at he'
                obtain rfl := Option.some.inj he'
                refine ⟨by simp [spl]; omega, fun j y hy => ?_⟩
                have hspl : spl e off cs = e.take off ++ cs ++ e.drop (off + cs.length) := by simp [spl]
                rw [hspl, splice_get _ _ _ _ (by omega)] at hy
                rw [splice_get _ _ _ _ hoff]
                by_cases h1 : j < off
                · rw [if_pos h1] at hy
                  rw [if_pos (by omega)]
                  exact ⟨_, (hu i' e hel j y hy)⟩
                · rw [if_neg h1] at hy
                  rw [if_neg (by omega)]
                  by_cases h2 : j < off + cs.length
                  · rw [if_pos h2] at hy
                    rw [if_pos (by omega)]
                    have hlt : j - off < v.cells.toList.length := by omega
                    refine ⟨v.cells.toList[j - off], ?_, (hcr _ y _ hy (by rw [← Array.getElem?_toList, List.getElem?_eq_getElem hlt])).1⟩
                    rw [show i' * o.size + j - (i' * o.size + off) = j - off from by omega]
                    exact List.getElem?_eq_getElem hlt
                  · rw [if_neg h2] at hy
                    rw [if_neg (by omega)]
                    exact ⟨_, (hu i' e hel j y hy)⟩
              · rw [List.getElem?_set_ne (Ne.symm hii)] at he'
                have hel' := hes i' e' he'
                refine ⟨hel', fun j y hy => ?_⟩
                have hj : j < o.size := by rw [← hel']; exact (List.getElem?_eq_some_iff.1 hy).1
                rw [splice_get _ _ _ _ hoff]
                have hcmp : i' * o.size + j < i * o.size ∨ (i + 1) * o.size ≤ i' * o.size + j := by
                  rcases Nat.lt_or_ge i' i with hlt | hge
                  · left
                    exact idx_lt hlt hj
                  · right
                    have : (i + 1) * o.size ≤ i' * o.size := Nat.mul_le_mul_right _ (by omega)
                    omega
                rw [Nat.add_mul, Nat.one_mul] at hcmp
                by_cases h1 : i' * o.size + j < i * o.size + off
                · rw [if_pos h1]
                  exact ⟨_, hu i' e' he' j y hy⟩
                · rw [if_neg h1, if_neg (by omega)]
                  exact ⟨_, hu i' e' he' j y hy⟩
        · cases he
      · cases he
    · cases he
  · cases he

/-- a new row of known cells, its capacity its length or more -/
theorem newOK_gen (hr : HRel B w0 h ι w) {e size n : Nat} (es : List (List AV)) (cells : Array Value) (cap : Nat) (w' : World) (hg : w.grownBy w' none) (hcell : w'.heap[w.heap.size]? = some (.cells cells e (0, 0)))
    (hn : n = es.length) (hs : 0 < size) (hcap : n ≤ cap) (hm : cap ≤ maxLen) (hcs : cells.size = cap * size)
    (hx : ∀ (i : Nat) (e : List AV), es[i]? = some e → e.length = size ∧ ∀ (j : Nat) (x : AV), e[j]? = some x → ∃ v, cells[i * size + j]? = some v ∧ VR h ι w x v) :
    NewOK B h ι w ⟨1, e, size, es⟩ (.slice (some ⟨w.heap.size, 0, none⟩) n cap) w' := by
  subst hn
  refine ⟨cells.toList.take (es.length * size), hg, fun g hg => ?_, hs, ⟨?_, .inr ⟨_, cap, cells, rfl, hr.size, hcell, hcap, hm, hcs, rfl⟩⟩, fun i e he => ⟨(hx i e he).1, fun j x hj => ?_⟩⟩
  · simp [Value.ownBlock] at hg
    omega
  · have : es.length * size ≤ cap * size := Nat.mul_le_mul_right _ hcap
    simp only [List.length_take, Array.length_toList]
    omega
  · obtain ⟨v, hv, hvr⟩ := (hx i e he).2 j x hj
    refine ⟨v, ?_, hvr⟩
    have hi : i < es.length := (List.getElem?_eq_some_iff.1 he).1
    have hjl : j < size := by rw [← (hx i e he).1]; exact (List.getElem?_eq_some_iff.1 hj).1
    rw [List.getElem?_take, if_pos (idx_lt hi hjl)]
    simpa using hv

theorem newOK_alloc (hr : HRel B w0 h ι w) {e size n : Nat} (es : List (List AV)) (cells : Array Value) (cap : Nat) (hn : n = es.length) (hs : 0 < size) (hcap : n ≤ cap) (hm : cap ≤ maxLen) (hcs : cells.size = cap * size)
    (hx : ∀ (i : Nat) (e : List AV), es[i]? = some e → e.length = size ∧ ∀ (j : Nat) (x : AV), e[j]? = some x → ∃ v, cells[i * size + j]? = some v ∧ VR h ι w x v) :
    NewOK B h ι w ⟨1, e, size, es⟩ (.slice (some ⟨w.heap.size, 0, none⟩) n cap) (w.alloc (.cells cells e)) :=
  newOK_gen hr es cells cap _ (World.grownBy_alloc w _ none) (heap_alloc_new w _) hn hs hcap hm hcs hx
end
end Go.Abs
