/- What the abstract reads and writes mean in the model's worlds. -/
import Derived.Test.YtfdpoliibpelaaaAbsOps
set_option linter.unusedVariables false
set_option linter.unusedSimpArgs false
namespace Go.Abs
open Go.RowKit (Below)
section
variable {P : Program} {B : Nat} {w0 w : World} {h : List AObj} {ι : Em}

abbrev OwnH (h : List AObj) (ι : Em) : Nat → Prop := Own h.length ι
abbrev VR (h : List AObj) (ι : Em) (w : World) : AV → Value → Prop := VRel h ι w (Own h.length ι)

theorem getRow_some {t ver : Nat} {o : AObj} (hg : getRow h t ver = some o) : h[t]? = some o ∧ o.ver = ver := by
  unfold getRow at hg
  split at hg
  · rename_i o' ho
    split at hg
    · rename_i hc; simp only [Option.some.injEq] at hg; subst hg; exact ⟨ho, hc.1⟩
    · cases hg
  · cases hg

theorem getRow_live {t ver : Nat} {o : AObj} (hg : getRow h t ver = some o) : o.size ≠ 0 := by
  unfold getRow at hg
  split at hg
  · split at hg
    · rename_i hc; simp only [Option.some.injEq] at hg; subst hg; exact hc.2
    · cases hg
  · cases hg

theorem mapRange_get {α : Type} (n : Nat) (u : Nat → α) (j : Nat) (v : α) (hj : ((List.range n).map u)[j]? = some v) : j < n ∧ v = u j := by
  rw [List.getElem?_map, Option.map_eq_some_iff] at hj
  obtain ⟨k, hk, rfl⟩ := hj
  obtain ⟨hlt, he⟩ := List.getElem?_eq_some_iff.1 hk
  simp only [List.length_range] at hlt
  simp only [List.getElem_range] at he
  subst he
  exact ⟨hlt, rfl⟩

theorem idx_lt {i n j s : Nat} (hi : i < n) (hj : j < s) : i * s + j < n * s := by
  have h1 : (i + 1) * s ≤ n * s := Nat.mul_le_mul_right s hi
  rw [Nat.add_mul, Nat.one_mul] at h1
  omega

/-- A row's object in the world. -/
theorem row_view (hr : HRel B w0 h ι w) {t : Nat} {o : AObj} (ho : h[t]? = some o) (hlv : o.size ≠ 0) :
    0 < o.size ∧ ∃ xs, w.ownsRow B o.e o.size (ι t) o.elems.length xs ∧ (∀ (i : Nat) (e : List AV), o.elems[i]? = some e → e.length = o.size) ∧
      ∃ u : Nat → Nat → Value, ∀ (i : Nat) (e : List AV), o.elems[i]? = some e → ∀ (j : Nat) (x : AV), e[j]? = some x → xs[i * o.size + j]? = some (u i j) ∧ VR h ι w x (u i j) := by
  rcases hr.objs t o ho with ⟨h0, _⟩ | ⟨hs, xs, h1, h2⟩
  · exact absurd h0 hlv
  refine ⟨hs, xs, h1, fun i e he => (h2 i e he).1, fun i j => (xs[i * o.size + j]?).getD undef, fun i e he j x hx => ?_⟩
  obtain ⟨v, hv, hvr⟩ := (h2 i e he).2 j x hx
  simp only [hv, Option.getD_some]
  exact ⟨trivial, hvr⟩

/-- The block of a row that is not empty. -/
theorem own_form {v : Value} {b e size n : Nat} {xs : List Value} (ho : w.ownsRow b e size v n xs) (hn : 0 < n) :
    ∃ g cap, v = .slice (some ⟨g, 0, none⟩) n cap ∧ n ≤ cap := by
  rcases ho.2 with ⟨_, h0⟩ | ⟨g, cap, cur, hv, _, _, hc, _⟩
  · omega
  · exact ⟨g, cap, hv, hc⟩

/-- cells that a pointer leads to -/
theorem cells_at (hr : HRel B w0 h ι w) {n : Nat} {x : AV} {v : Value} {cs : List AV} (hv : VR h ι w x v) (hc : readCells h n x = some cs) :
    ∃ (ad : Addr) (u : Nat → Value), v = .pointer (some ad) ∧ cs.length = n ∧ ∀ (j : Nat) (y : AV), cs[j]? = some y → w.cell? (ad.add j) = some (u j) ∧ VR h ι w y (u j) := by
  unfold readCells at hc
  split at hc
  · rename_i t ver i off
    split at hc
    · rename_i o hgo
      split at hc
      · rename_i e he
        split at hc
        · rename_i hle
          simp only [Option.some.injEq] at hc
          subst hc
          obtain ⟨hot, hov⟩ := getRow_some hgo
          cases hv with
          | ptr _ _ _ _ _ ht hone hob =>
            obtain ⟨g, N, C, hsv, rfl, hil⟩ := (hob o hot).2 hov
            obtain ⟨hs, xs, hown, hel, u, hu⟩ := row_view hr hot (getRow_live hgo)
            have hesz := hel i e he
            rw [hsv] at hown
            obtain ⟨hx1, hx2⟩ := hown
            have hown' : w.ownsRow B o.e o.size (.slice (some ⟨g, 0, none⟩) N C) o.elems.length xs := ⟨hx1, hx2⟩
            obtain ⟨g', cap', hform, _⟩ := own_form hown' (by omega)
            simp only [Value.slice.injEq, Option.some.injEq, Addr.mk.injEq, and_true] at hform
            obtain ⟨rfl, rfl, rfl⟩ := hform
            refine ⟨_, fun j => u i (off + j), rfl, by simp; omega, fun j y hy => ?_⟩
            rw [List.getElem?_take] at hy
            split at hy
            · rw [List.getElem?_drop] at hy
              obtain ⟨h1, h2⟩ := hu i e he _ y hy
              refine ⟨?_, h2⟩
              rw [Addr.add_lit, Nat.add_assoc, hown'.cellAt _ (idx_lt hil (by omega))]
              exact h1
            · cases hy
        · cases hc
      · cases hc
    · cases hc
  · rename_i cells
    split at hc
    · rename_i hle
      simp only [Option.some.injEq] at hc
      subst hc
      cases hv with
      | fptr _ ad u hO hlt hcell hrel =>
        refine ⟨ad, u, rfl, by simp; omega, fun j y hy => ?_⟩
        rw [List.getElem?_map, Option.map_eq_some_iff] at hy
        obtain ⟨z, hz, rfl⟩ := hy
        rw [List.getElem?_take] at hz
        split at hz
        · exact ⟨hcell j z hz, .p _ _ (hrel j z hz)⟩
        · cases hz
    · cases hc
  · cases hc

theorem run_isAgg {t : TypeId} {d : TypeDesc} (hd : P.underlying t = some d) (w : World) : (isAgg t).run P w = .ok (isAggD d) w := by
  simp only [isAgg, Sem.run_bind, run_underlying hd, Result.andThen_ok]
  cases d <;> rfl

theorem run_sizeOf {t : TypeId} {i : TypeInfo} (hi : P.info? t = some i) (w : World) : (sizeOf t).run P w = .ok i.size w := by
  simp [sizeOf, typeInfo, hi]

theorem run_zeroValue {t : TypeId} {i : TypeInfo} {z : Value} (hi : P.info? t = some i) (hz : i.zero = some z) (w : World) : (zeroValue t).run P w = .ok z w := by
  simp [zeroValue, typeInfo, hi, hz]

theorem run_loadVar_agg {t : TypeId} {d : TypeDesc} {i : TypeInfo} (hd : P.underlying t = some d) (hda : isAggD d = true) (hi : P.info? t = some i) (ad : Addr) (us : List Value)
    (hl : us.length = i.size) (hc : ∀ (j : Nat) (v : Value), us[j]? = some v → w.cell? (ad.add j) = some v) : (loadVar t ad).run P w = .ok (.agg us.toArray) w := by
  simp only [loadVar, Sem.run_bind, run_isAgg hd, Result.andThen_ok, hda, if_true, run_sizeOf hi, ← hl, run_loadCells_list w ad us hc, Sem.run_pure]

theorem run_loadVar_one {t : TypeId} {d : TypeDesc} (hd : P.underlying t = some d) (hda : isAggD d = false) (ad : Addr) (v : Value) (hc : w.cell? ad = some v) : (loadVar t ad).run P w = .ok v w := by
  simp only [loadVar, Sem.run_bind, run_isAgg hd, Result.andThen_ok, hda, Bool.false_eq_true, if_false, run_load, hc]

theorem aggSize_some {t : TypeId} {m : Option Nat} (hm : aggSize P t = some m) : ∃ d i, P.underlying t = some d ∧ P.info? t = some i ∧ m = if isAggD d then some i.size else none := by
  unfold aggSize at hm
  split at hm
  · rename_i d i hd hi
    exact ⟨d, i, hd, hi, (Option.some.inj hm).symm⟩
  · cases hm

/-- load -/
theorem run_loadAt (hr : HRel B w0 h ι w) {t : TypeId} {m : Option Nat} (hm : aggSize P t = some m) {x : AV} {v : Value} (hv : VR h ι w x v) {y : AV} {T : Nat} {ρ : AOpd → AV} {X : AOpd} (hX : ρ X = x) {eff : Eff}
    (he : aexec h T ρ (.load m X) = some (y, eff)) : eff = .none ∧ ∃ cv, (Instr.loadAt t v).run P w = .ok cv w ∧ VR h ι w y cv := by
  obtain ⟨d, i, hd, hi, rfl⟩ := aggSize_some hm
  by_cases hda : isAggD d = true
  · simp only [hda, if_true, aexec, hX] at he
    split at he
    · rename_i cs hcs
      simp only [Option.some.injEq, Prod.mk.injEq] at he
      obtain ⟨rfl, rfl⟩ := he
      obtain ⟨ad, u, rfl, hl, hc⟩ := cells_at hr hv hcs
      have hx := run_loadVar_agg (w := w) hd hda hi ad ((List.range cs.length).map u) (by simp [hl]) (fun j v hj => by
        obtain ⟨hk, rfl⟩ := mapRange_get _ _ _ _ hj
        exact (hc j _ (List.getElem?_eq_getElem hk)).1)
      refine ⟨rfl, _, by simp only [Instr.loadAt, Instr.sureAddr, Sem.run_bind, Sem.run_pure, Result.andThen_ok]; exact hx, .agg _ _ (by simp) fun j x v hjx hjv => ?_⟩
      have hlt : j < cs.length := (List.getElem?_eq_some_iff.1 hjx).1
      have hv' : v = u j := by
        exact (mapRange_get cs.length u j v (by simpa using hjv)).2
      rw [hv']
      exact (hc j x hjx).2
    · cases he
  · have hda : isAggD d = false := by simpa using hda
    simp only [hda, Bool.false_eq_true, if_false, aexec, hX] at he
    split at he
    · rename_i c hcs
      simp only [Option.some.injEq, Prod.mk.injEq] at he
      obtain ⟨rfl, rfl⟩ := he
      obtain ⟨ad, u, rfl, hl, hc⟩ := cells_at hr hv hcs
      obtain ⟨h1, h2⟩ := hc 0 c rfl
      rw [show ad.add 0 = ad from by simp [Addr.add]] at h1
      exact ⟨rfl, u 0, by simp only [Instr.loadAt, Instr.sureAddr, Sem.run_bind, Sem.run_pure, Result.andThen_ok]; exact run_loadVar_one hd hda ad _ h1, h2⟩
    · cases he
end
end Go.Abs
