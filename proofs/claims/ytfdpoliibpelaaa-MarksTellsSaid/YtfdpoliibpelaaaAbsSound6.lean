/- slices, indexes, fields. -/
import Derived.Test.YtfdpoliibpelaaaAbsSound5
set_option linter.unusedVariables false
set_option linter.unusedSimpArgs false
set_option linter.unnecessarySimpa false
namespace Go.Abs
open Go.RowKit (Below)
section
variable {P : Program} {B : Nat} {w0 w : World} {h : List AObj} {ι : Em}

theorem asN_rel {O : Nat → Prop} {x : AV} {v : Value} {n : Nat} (hv : VRel h ι w O x v) (hn : asN x = some n) : ∃ k, v = .int k (n : Int) := by
  unfold asN at hn
  split at hn
  · split at hn
    · rename_i k i hi
      obtain rfl := Option.some.inj hn
      cases hv with
      | p _ _ hp =>
        cases hp
        exact ⟨k, by rw [Int.toNat_of_nonneg hi]⟩
    · cases hn
  · cases hn

def OptR (h : List AObj) (ι : Em) (w : World) (ρ : AOpd → AV) : Option AOpd → Option Value → Prop
  | none, none => True
  | some x, some v => VR h ι w (ρ x) v
  | _, _ => False

theorem run_sliceBound_nat (k : IntKind) (n y : Nat) (code : BoundsCode) (hn : n ≤ y) : (Instr.sliceBound (.int k (n : Int)) y code).run P w = .ok n w := by
  simp [Instr.sliceBound, asIntOf, hn]

theorem run_bndA {len cap : Nat} {ex : Bool} {ρ : AOpd → AV} {lo hi mx : Option AOpd} {vl vh vm : Option Value} (hl : OptR h ι w ρ lo vl) (hh : OptR h ι w ρ hi vh) (hm : OptR h ι w ρ mx vm) {l n : Nat} {b : Bool}
    (hb : bndA len ex ρ lo hi mx = some (l, n, b)) (hc : len ≤ cap) (hex : ex = true → cap = len) (sl : Bool) :
    ∃ m, (Instr.sliceBounds sl len cap vl vh vm).run P w = .ok (l, n, m) w ∧ l ≤ n ∧ n ≤ len ∧ n ≤ m ∧ m ≤ cap ∧ (b = true → m = n) := by
  have hlow : ∀ l : Nat, lowA ρ lo = some l → (vl = none ∧ l = 0) ∨ ∃ k, vl = some (.int k (l : Int)) := by
    intro l h1
    cases lo with
    | none =>
      cases vl with
      | none =>
        simp [lowA] at h1
        exact .inl ⟨rfl, h1.symm⟩
      | some v => exact hl.elim
    | some x =>
      cases vl with
      | none => exact hl.elim
      | some v =>
        obtain ⟨k, rfl⟩ := asN_rel hl h1
        exact .inr ⟨k, rfl⟩
  unfold bndA at hb
  dsimp only at hb
  split at hb
  · cases hb
  · rename_i n0 b0 hnb
    split at hb
    · cases hb
    · rename_i l0 hl0
      split at hb
      · rename_i hle
        simp only [Option.some.injEq, Prod.mk.injEq] at hb
        obtain ⟨rfl, rfl, rfl⟩ := hb
        cases hi with
        | none =>
          cases mx with
          | some _ => simp at hnb
          | none =>
            simp only [Option.some.injEq, Prod.mk.injEq] at hnb
            obtain ⟨rfl, rfl⟩ := hnb
            cases vh with
            | some _ => exact hh.elim
            | none =>
              cases vm with
              | some _ => exact hm.elim
              | none =>
                refine ⟨cap, ?_, hle.1, hle.2, hc, Nat.le_refl _, fun e => hex e⟩
                simp only [Instr.sliceBounds, Sem.run_bind, Sem.run_pure, Result.andThen_ok]
                rcases hlow _ hl0 with ⟨rfl, rfl⟩ | ⟨k0, rfl⟩
                · rfl
                · simp [run_sliceBound_nat _ _ _ _ hle.1]
        | some x =>
          cases vh with
          | none => exact hh.elim
          | some v =>
            cases mx with
            | none =>
              cases vm with
              | some _ => exact hm.elim
              | none =>
                simp only [Option.map_eq_some_iff] at hnb
                obtain ⟨n1, hn1, hnb⟩ := hnb
                simp only [Prod.mk.injEq] at hnb
                obtain ⟨rfl, rfl⟩ := hnb
                obtain ⟨k, rfl⟩ := asN_rel hh hn1
                refine ⟨cap, ?_, hle.1, hle.2, by omega, Nat.le_refl _, fun e => ?_⟩
                · simp only [Instr.sliceBounds, Sem.run_bind, Sem.run_pure, Result.andThen_ok, run_sliceBound_nat k n1 cap _ (Nat.le_trans hle.2 hc)]
                  rcases hlow _ hl0 with ⟨rfl, rfl⟩ | ⟨k0, rfl⟩
                  · rfl
                  · simp [run_sliceBound_nat _ _ _ _ hle.1]
                · simp only [Bool.and_eq_true, beq_iff_eq] at e
                  rw [hex e.1, e.2]
            | some y =>
              cases vm with
              | none => exact hm.elim
              | some v2 =>
                dsimp only at hnb
                split at hnb
                · rename_i n1 m1 hn1 hm1
                  split at hnb
                  · rename_i heq
                    simp only [Option.some.injEq, Prod.mk.injEq] at hnb
                    obtain ⟨rfl, rfl⟩ := hnb
                    obtain ⟨k, rfl⟩ := asN_rel hh hn1
                    obtain ⟨k2, rfl⟩ := asN_rel hm hm1
                    subst heq
                    refine ⟨m1, ?_, hle.1, hle.2, Nat.le_refl _, by omega, fun _ => rfl⟩
                    simp only [Instr.sliceBounds, Sem.run_bind, Sem.run_pure, Result.andThen_ok, run_sliceBound_nat k2 m1 cap _ (Nat.le_trans hle.2 hc), run_sliceBound_nat k m1 m1 _ (Nat.le_refl _)]
                    rcases hlow _ hl0 with ⟨rfl, rfl⟩ | ⟨k0, rfl⟩
                    · rfl
                    · simp [run_sliceBound_nat _ _ _ _ hle.1]
                  · cases hnb
                · cases hnb
      · cases hb

theorem elem_eq {t e : TypeId} (ht : P.underlying t = some (.slice e)) : P.elem t = e := by simp [Program.elem, ht]

theorem run_slice_of {t e : TypeId} {i : TypeInfo} (ht : P.underlying t = some (.slice e)) (hi : P.info? e = some i) {a : Option Addr} {len cap l n m : Nat} {vl vh vm : Option Value} (hb : (Instr.sliceBounds true len cap vl vh vm).run P w = .ok (l, n, m) w) :
    (Instr.sliceAt t (.slice a len cap) vl vh vm).run P w = .ok (.slice (if m = l then a else a.map (·.add (l * i.size))) (n - l) (m - l)) w := by
  rw [run_sliceAt_slice w t _ _ _ _ (by rw [elem_eq ht]; exact ht), run_slice_any w t a len cap (by rw [elem_eq ht]; exact ht)]
  simp [hb, elem_eq ht, run_sizeOf hi, sliced]

/-- a part of a pure slice -/
theorem prel_slice {O : Nat → Prop} {es : List (List PV)} {a : Option Addr} {len cap size l n m : Nat} (hp : PRel w O (.sl es) (.slice a len cap)) (hln : l < n) (hn : n ≤ es.length) (hnm : n ≤ m) (hm : m ≤ cap)
    (hsz : ∀ e ∈ es, e.length = size) : PRel w O (.sl ((es.take n).drop l)) (.slice (if m = l then a else a.map (·.add (l * size))) (n - l) (m - l)) := by
  rw [if_neg (by omega)]
  cases hp with
  | nil => simp at hn; omega
  | sl _ ad _ _ sz u hO hlt hlen hc hsz' hcell hrel =>
    have hne : ∃ e, es[0]? = some e := ⟨_, List.getElem?_eq_getElem (by omega)⟩
    obtain ⟨e0, he0⟩ := hne
    have : sz = size := by rw [← hsz' 0 e0 he0, hsz e0 (List.mem_of_getElem? he0)]
    subst this
    have hget : ∀ (i : Nat) (e : List PV), ((es.take n).drop l)[i]? = some e → es[l + i]? = some e := fun i e he => by
      rw [List.getElem?_drop, List.getElem?_take] at he
      split at he
      · exact he
      · cases he
    show PRel w O _ (.slice (some (ad.add (l * sz))) (n - l) (m - l))
    refine .sl ((es.take n).drop l) (ad.add (l * sz)) (n - l) (m - l) sz (fun i j => u (l + i) j) (by rw [block_of_add]; exact hO) (by rw [block_of_add]; exact hlt) (by simp; omega) (by omega) (fun i e he => hsz' _ e (hget i e he)) (fun i e he j x hx => ?_) (fun i e he j x hx => hrel _ e (hget i e he) j x hx)
    have := hcell _ e (hget i e he) j x hx
    rwa [add_of_add, ← Nat.add_assoc, ← Nat.add_mul]

theorem run_sliceA (hr : HRel B w0 h ι w) {t e : TypeId} {i : TypeInfo} {size : Nat} (ht : P.underlying t = some (.slice e)) (hi : P.info? e = some i) (hsize : i.size = size) {ρ : AOpd → AV} {x y : AV} {v : Value} (hv : VR h ι w x v)
    {lo hi' mx : Option AOpd} {vl vh vm : Option Value} (hl : OptR h ι w ρ lo vl) (hh : OptR h ι w ρ hi' vh) (hm : OptR h ι w ρ mx vm) (ha : sliceA h size ρ x lo hi' mx = some y) :
    ∃ v', (Instr.sliceAt t v vl vh vm).run P w = .ok v' w ∧ VR h ι w y v' := by
  subst hsize
  have pure : ∀ (es : List (List PV)) (ex : Bool) (a : Option Addr) (len cap l n : Nat) (b : Bool), PRel w (OwnH h ι) (.sl es) (.slice a len cap) → (ex = true → cap = len) → bndA es.length ex ρ lo hi' mx = some (l, n, b) →
      (if l = n then some (if b then AV.e0 else .p (.sl [])) else if sizesOk i.size (es.map (·.map AV.p)) then some (if b then .xf ((es.take n).drop l) else .p (.sl ((es.take n).drop l))) else none) = some y →
      ∃ v', (Instr.sliceAt t (.slice a len cap) vl vh vm).run P w = .ok v' w ∧ VR h ι w y v' := by
    intro es ex a len cap l n b hp hex hb hy
    have hlen : es.length = len ∧ len ≤ cap := by
      cases hp with
      | nil => exact ⟨rfl, Nat.zero_le _⟩
      | sl _ _ _ _ _ _ _ _ hn hc => exact ⟨hn.symm, hc⟩
    obtain ⟨rfl, hlc⟩ := hlen
    obtain ⟨m, hrun, h1, h2, h3, h4, h5⟩ := run_bndA (P := P) hl hh hm hb hlc hex true
    refine ⟨_, run_slice_of ht hi hrun, ?_⟩
    split at hy
    · rename_i heq
      subst heq
      obtain rfl := Option.some.inj hy
      rw [Nat.sub_self]
      cases b
      · exact .p _ _ (.nil _ _)
      · rw [h5 rfl, Nat.sub_self]
        exact .e0 _
    · rename_i hne
      split at hy
      · rename_i hsz
        obtain rfl := Option.some.inj hy
        have hsz' : ∀ e ∈ es, e.length = i.size := fun e he => by
          obtain ⟨k, hk⟩ := List.getElem?_of_mem he
          have := (sizesOk_get (i := k) (e := e.map AV.p) hsz (by rw [List.getElem?_map, hk]; rfl)).1
          simpa using this
        have hps := prel_slice hp (Nat.lt_of_le_of_ne h1 hne) h2 h3 h4 hsz'
        cases b
        · exact .p _ _ hps
        · rw [h5 rfl] at hps ⊢
          exact .xf _ _ _ hps
      · cases hy
  unfold sliceA at ha
  split at ha
  · split at ha
    · rename_i q hb
      obtain ⟨l, n, b⟩ := q
      obtain rfl := Option.some.inj ha
      cases hv
      obtain ⟨m, hrun, h1, h2, h3, h4, h5⟩ := run_bndA (P := P) hl hh hm hb (Nat.le_refl 0) (fun _ => rfl) true
      refine ⟨_, run_slice_of ht hi hrun, ?_⟩
      have hn0 : n = 0 := by omega
      have hl0 : l = 0 := by omega
      have hm0 : m = 0 := by omega
      subst hn0; subst hl0; subst hm0
      exact .nil
    · cases ha
  · rename_i es
    split at ha
    · rename_i l n b hb
      cases hv with
      | p _ _ hp =>
        have hform : ∃ a len cap, v = .slice a len cap := by cases hp <;> exact ⟨_, _, _, rfl⟩
        obtain ⟨a, len, cap, rfl⟩ := hform
        exact pure es false a len cap l n b hp (fun e => by cases e) hb ha
    · cases ha
  · rename_i es
    split at ha
    · rename_i l n b hb
      cases hv with
      | xf _ a len hp => exact pure es true a len len l n b hp (fun _ => rfl) hb ha
    · cases ha
  · rename_i tg ver
    split at ha
    · rename_i o hgo
      split at ha
      · rename_i hos
        split at ha
        · rename_i l n b hb
          obtain ⟨hot, hov⟩ := getRow_some hgo
          cases hv with
          | row _ _ _ htl hone hob =>
            obtain rfl := (hob o hot).2 hov
            obtain ⟨hs, xs, hown, _⟩ := row_view hr hot (getRow_live hgo)
            have hform : ∃ a cap, ι tg = .slice a o.elems.length cap ∧ o.elems.length ≤ cap ∧ (0 < o.elems.length → ∃ g, a = some ⟨g, 0, none⟩) := by
              rcases hown.2 with ⟨hv, h0⟩ | ⟨g, cap, cur, hv, _, _, hc, _⟩
              · exact ⟨none, 0, by rw [hv, h0], by omega, fun h => by omega⟩
              · exact ⟨_, cap, hv, hc, fun _ => ⟨g, rfl⟩⟩
            obtain ⟨a, cap, hsv, hcap, hag⟩ := hform
            obtain ⟨m, hrun, h1, h2, h3, h4, h5⟩ := run_bndA (P := P) hl hh hm hb hcap (fun e => by cases e) true
            rw [hsv]
            refine ⟨_, run_slice_of ht hi hrun, ?_⟩
            split at ha
            · rename_i heq
              subst heq
              obtain rfl := Option.some.inj ha
              rw [Nat.sub_self]
              cases b
              · exact .p _ _ (.nil _ _)
              · rw [h5 rfl, Nat.sub_self]
                exact .e0 _
            · rename_i hne
              obtain rfl := Option.some.inj ha
              rw [if_neg (by omega)]
              obtain ⟨g, rfl⟩ := hag (by omega)
              refine .sl tg ver l (n - l) b _ htl rfl fun o' ho' => ?_
              rw [hot] at ho'
              obtain rfl := Option.some.inj ho'
              exact ⟨by omega, fun _ => ⟨g, _, cap, m - l, hsv, by simp [Addr.add_lit, hos], by omega, fun hb => by rw [h5 hb], by omega⟩⟩
        · cases ha
      · cases ha
    · cases ha
  · rename_i tg ver lo0 len0 ex
    split at ha
    · rename_i o hgo
      split at ha
      · rename_i hos
        split at ha
        · rename_i l n b hb
          obtain ⟨hot, hov⟩ := getRow_some hgo
          cases hv with
          | sl _ _ _ _ _ _ htl hone hob =>
            obtain ⟨g, N, C, c2, hsv, rfl, h3, hxc, h4⟩ := (hob o hot).2 hov
            obtain ⟨m, hrun, h1, h2, h3', h4', h5⟩ := run_bndA (P := P) hl hh hm hb h3 hxc true
            refine ⟨_, run_slice_of ht hi hrun, ?_⟩
            split at ha
            · rename_i heq
              subst heq
              obtain rfl := Option.some.inj ha
              rw [Nat.sub_self]
              cases b
              · exact .p _ _ (.nil _ _)
              · rw [h5 rfl, Nat.sub_self]
                exact .e0 _
            · rename_i hne
              obtain rfl := Option.some.inj ha
              rw [if_neg (by omega)]
              refine .sl tg ver (lo0 + l) (n - l) b _ htl rfl fun o' ho' => ?_
              rw [hot] at ho'
              obtain rfl := Option.some.inj ho'
              exact ⟨by omega, fun _ => ⟨g, N, C, m - l, hsv, by simp [Addr.add_lit, hos, Nat.add_mul], by omega, fun hb => by rw [h5 hb], by omega⟩⟩
        · cases ha
      · cases ha
    · cases ha
  · cases ha

/-- s[i] -/
theorem run_ixA (hr : HRel B w0 h ι w) {t e : TypeId} {i : TypeInfo} {size : Nat} (ht : P.underlying t = some (.slice e)) (hi : P.info? e = some i) (hsize : i.size = size) {x y z : AV} {v vi : Value} (hv : VR h ι w x v) (hvi : VR h ι w z vi)
    (ha : ixA h size x z = some y) : ∃ v', (Instr.indexAt t v vi).run P w = .ok v' w ∧ VR h ι w y v' := by
  subst hsize
  unfold ixA at ha
  split at ha
  · cases ha
  · rename_i n hn
    obtain ⟨k, rfl⟩ := asN_rel hvi hn
    have key : ∀ (a : Addr) (len cap : Nat), n < len → (Instr.indexAt t (.slice (some a) len cap) (.int k (n : Int))).run P w = .ok (.pointer (some (a.add (n * i.size)))) w := by
      intro a len cap hlt
      rw [run_indexAt_slice w t a len cap k _ (by rw [elem_eq ht]; exact ht), if_pos (by omega)]
      simp [elem_eq ht, run_sizeOf hi]
    have pure : ∀ (es : List (List PV)) (a : Option Addr) (len cap : Nat) (ev : List PV), PRel w (OwnH h ι) (.sl es) (.slice a len cap) → es[n]? = some ev → ev.length = i.size →
        ∃ v', (Instr.indexAt t (.slice a len cap) (.int k (n : Int))).run P w = .ok v' w ∧ VR h ι w (.fptr ev) v' := by
      intro es a len cap ev hp hev hel
      cases hp with
      | nil => simp at hev
      | sl _ ad _ _ sz u hO hlt hlen hc hsz' hcell hrel =>
        have hn' : n < es.length := (List.getElem?_eq_some_iff.1 hev).1
        have hszeq : sz = i.size := by rw [← hsz' n ev hev, hel]
        subst hszeq
        refine ⟨_, key ad len cap (by omega), .fptr ev _ (fun j => u n j) (by rw [block_of_add]; exact hO) (by rw [block_of_add]; exact hlt) (fun j x hx => ?_) (fun j x hx => hrel n ev hev j x hx)⟩
        rw [add_of_add]
        exact hcell n ev hev j x hx
    split at ha
    · rename_i es
      split at ha
      · rename_i ev hev
        split at ha
        · rename_i hel
          obtain rfl := Option.some.inj ha
          cases hv with
          | p _ _ hp =>
            have hform : ∃ a len cap, v = .slice a len cap := by cases hp <;> exact ⟨_, _, _, rfl⟩
            obtain ⟨a, len, cap, rfl⟩ := hform
            exact pure es a len cap ev hp hev hel
        · cases ha
      · cases ha
    · rename_i es
      split at ha
      · rename_i ev hev
        split at ha
        · rename_i hel
          obtain rfl := Option.some.inj ha
          cases hv with
          | xf _ a len hp => exact pure es a len len ev hp hev hel
        · cases ha
      · cases ha
    · rename_i tg ver
      split at ha
      · rename_i o hgo
        split at ha
        · rename_i hc
          obtain rfl := Option.some.inj ha
          obtain ⟨hot, hov⟩ := getRow_some hgo
          cases hv with
          | row _ _ _ htl hone hob =>
            obtain rfl := (hob o hot).2 hov
            obtain ⟨hs, xs, hown, _⟩ := row_view hr hot (getRow_live hgo)
            obtain ⟨g, cap, hsv, hcap⟩ := own_form hown (by omega)
            rw [hsv]
            refine ⟨_, key _ _ _ hc.1, .ptr tg ver n 0 _ htl rfl fun o' ho' => ?_⟩
            rw [hot] at ho'
            obtain rfl := Option.some.inj ho'
            exact ⟨by omega, fun _ => ⟨g, _, cap, hsv, by simp [Addr.add_lit, hc.2], hc.1⟩⟩
        · cases ha
      · cases ha
    · rename_i tg ver lo len ex
      split at ha
      · rename_i o hgo
        split at ha
        · rename_i hc
          obtain rfl := Option.some.inj ha
          obtain ⟨hot, hov⟩ := getRow_some hgo
          cases hv with
          | sl _ _ _ _ _ _ htl hone hob =>
            obtain ⟨g, N, C, c2, hsv, rfl, h3, hxc, h4⟩ := (hob o hot).2 hov
            refine ⟨_, key _ _ _ hc.1, .ptr tg ver (lo + n) 0 _ htl rfl fun o' ho' => ?_⟩
            rw [hot] at ho'
            obtain rfl := Option.some.inj ho'
            exact ⟨by omega, fun _ => ⟨g, N, C, hsv, by simp [Addr.add_lit, hc.2, Nat.add_mul], by omega⟩⟩
        · cases ha
      · cases ha
    · cases ha
end
end Go.Abs
