/- Placing new objects at tags set aside. -/
import Derived.Test.YtfdpoliibpelaaaAbsMono
import Derived.Orders
set_option linter.unusedVariables false
set_option linter.unusedSimpArgs false
set_option linter.unnecessarySimpa false
set_option linter.unusedSectionVars false
set_option linter.constructorNameAsVariable false
namespace Go.Abs
open Go.RowKit (Below)

def deadO : AObj := ⟨0, 0, 0, []⟩

def wrH (h : List AObj) : List (Nat × AObj) → List AObj
  | [] => h
  | p :: ps => wrH (h.set p.1 p.2) ps

def tagged : Nat → List AObj → List (Nat × AObj)
  | _, [] => []
  | T, o :: os => (T, o) :: tagged (T + 1) os

theorem wrH_len : ∀ (ps : List (Nat × AObj)) (h : List AObj), (wrH h ps).length = h.length
  | [], h => rfl
  | p :: ps, h => by rw [wrH, wrH_len ps]; simp

theorem plc_get : ∀ (k : List AObj) (T : Nat) (h : List AObj) (t : Nat), T + k.length ≤ h.length → (wrH h (tagged T k))[t]? = if T ≤ t ∧ t < T + k.length then k[t - T]? else h[t]?
  | [], T, h, t, hl => by
    rw [tagged, wrH, if_neg (by simp)]
  | o :: k, T, h, t, hl => by
    simp only [List.length_cons] at hl ⊢
    rw [tagged, wrH, plc_get k (T + 1) (h.set T o) t (by simp; omega)]
    by_cases h1 : t = T
    · subst h1
      rw [if_neg (by omega), if_pos (by omega), List.getElem?_set_self (by omega)]
      simp
    · by_cases h2 : T + 1 ≤ t ∧ t < T + 1 + k.length
      · rw [if_pos h2, if_pos (by omega)]
        obtain ⟨j, rfl⟩ : ∃ j, t = T + 1 + j := ⟨t - (T + 1), by omega⟩
        rw [show T + 1 + j - (T + 1) = j by omega, show T + 1 + j - T = j + 1 by omega, List.getElem?_cons_succ]
      · rw [if_neg h2, if_neg (by omega), List.getElem?_set_ne (Ne.symm h1)]

def plcE (T m : Nat) (ι κ : Em) : Em := ⟨fun t => if T ≤ t ∧ t < T + m then κ (t - T) else ι t, ι.O⟩

theorem plc_in {T m j : Nat} {ι κ : Em} (h : j < m) : plcE T m ι κ (T + j) = κ j := by
  show (if T ≤ T + j ∧ T + j < T + m then κ (T + j - T) else ι (T + j)) = _
  rw [if_pos (by omega), Nat.add_sub_cancel_left]
theorem plc_out {T m t : Nat} {ι κ : Em} (h : ¬ (T ≤ t ∧ t < T + m)) : plcE T m ι κ t = ι t := by
  show (if T ≤ t ∧ t < T + m then κ (t - T) else ι t) = _
  rw [if_neg h]

section
variable {P : Program} {B : Nat} {w0 w w' : World} {h k H : List AObj} {ι κ J : Em} {n : Nat}

section
variable (hH : ∀ t o, t < k.length → H[n + t]? = some o → k[t]? = some o) (hJ : ∀ t, t < k.length → J (n + t) = κ t) (hlen : n + k.length ≤ H.length)
include hH hJ hlen

theorem VRel.shiftG {O O' : Nat → Prop} {G : PV → Prop} (hO : ∀ x v, G x → PRel w' O x v → PRel w' O' x v) {x : RC} {T : Nat} {v : Value} (hG : ∀ y, x = .c y → G y) (hv : VRel k κ w' O (rcVal T x) v) : VRel H J w' O' (rcVal (n + T) x) v := by
  cases x with
  | c pv =>
    simp only [rcVal] at hv ⊢
    cases hv with | p _ _ hp => exact .p _ _ (hO _ _ (hG _ rfl) hp)
  | s e size es =>
    simp only [rcVal] at hv ⊢
    cases hv with
    | row _ _ _ ht hone hob =>
      refine .row _ _ _ (by omega) hone fun o ho => ?_
      obtain ⟨h1, h2⟩ := hob o (hH T o ht ho)
      exact ⟨h1, fun e => by rw [hJ T ht]; exact h2 e⟩

theorem VRel.shiftGA {O O' : Nat → Prop} {G : PV → Prop} (hO : ∀ x v, G x → PRel w' O x v → PRel w' O' x v) {x : RA} {T : Nat} {v : Value} (hG : ∀ y, InRs [x] y → G y) (hv : VRel k κ w' O (raVal T x) v) : VRel H J w' O' (raVal (n + T) x) v := by
  cases x with
  | c x => exact VRel.shiftG hH hJ hlen hO (fun y e => hG y (by subst e; exact .c _ _)) hv
  | a xs =>
    simp only [raVal] at hv ⊢
    cases hv with
    | agg _ vs hl hr =>
      refine .agg _ _ (by rw [hl, rcsVal_len, rcsVal_len]) fun i y u hy hu => ?_
      obtain ⟨x, U, rfl, hx, hm⟩ := rcsVal_get xs T n i y hy
      exact VRel.shiftG hH hJ hlen hO (fun y e => hG y (by subst e; exact .a _ _ _ hm)) (hr i _ u hx hu)

theorem VRel.shiftGR {O O' : Nat → Prop} {G : PV → Prop} (hO : ∀ x v, G x → PRel w' O x v → PRel w' O' x v) {rs : List RA} {v : Value} (hG : ∀ y, InRs rs y → G y) (hv : VRel k κ w' O (retV (rasVal 0 rs)) v) : VRel H J w' O' (retV (rasVal n rs)) v := by
  have tup : ∀ {rs : List RA} {v : Value}, (∀ y, InRs rs y → G y) → VRel k κ w' O (.tuple (rasVal 0 rs)) v → VRel H J w' O' (.tuple (rasVal n rs)) v := by
    intro rs v hG hv
    cases hv with
    | tuple _ vs hl hr =>
      refine .tuple _ _ (by rw [hl, rasVal_len, rasVal_len]) fun i y u hy hu => ?_
      obtain ⟨x, U, rfl, hx, hm⟩ := rasVal_get rs 0 n i y (by simpa using hy)
      exact VRel.shiftGA hH hJ hlen hO (fun y hy => hG y (hy.mem hm)) (hr i _ u hx hu)
  match rs, hG, hv with
  | [], hG, hv => exact tup (rs := []) hG hv
  | [x], hG, hv => exact VRel.shiftGA hH hJ hlen (T := 0) hO hG hv
  | x :: y :: rs, hG, hv => exact tup (rs := x :: y :: rs) hG hv
end

/-- the heap of a call, placed -/
theorem HRel.place (hr : HRel B w0 h ι w) (hk : HRel w.heap.size w k κ w') {T : Nat} (hT : T + k.length ≤ h.length) (hdead : ∀ j, j < k.length → h[T + j]? = some deadO) (hver : ∀ o ∈ k, 0 < o.ver) (hpure : ∀ o ∈ k, pureObj o)
    (hO : ∀ (x : PV) (v : Value), VR k κ w' (.p x) v → (∃ (t : Nat) (o : AObj) (i : Nat) (e : List AV) (j : Nat), k[t]? = some o ∧ o.elems[i]? = some e ∧ e[j]? = some (AV.p x)) → PRel w' (Own (wrH h (tagged T k)).length (plcE T k.length ι κ)) x v) :
    HRel B w0 (wrH h (tagged T k)) (plcE T k.length ι κ) w' ∧ EX h ι w (wrH h (tagged T k)) (plcE T k.length ι κ) w' := by
  have hnewblk : ∀ t g, t < k.length → (κ t).ownBlock = some g → w.heap.size ≤ g := fun t g ht hg => (hk.own ht hg).1
  have hlenW : (wrH h (tagged T k)).length = h.length := wrH_len _ _
  have hin : ∀ t, T ≤ t ∧ t < T + k.length → (wrH h (tagged T k))[t]? = k[t - T]? := fun t ht => by rw [plc_get k T h t hT, if_pos ht]
  have hout : ∀ t, ¬ (T ≤ t ∧ t < T + k.length) → (wrH h (tagged T k))[t]? = h[t]? := fun t ht => by rw [plc_get k T h t hT, if_neg ht]
  have hblk : ∀ t, t < h.length → ∀ g, (plcE T k.length ι κ t).ownBlock = some g → ((T ≤ t ∧ t < T + k.length) ∧ (κ (t - T)).ownBlock = some g ∧ w.heap.size ≤ g) ∨ (¬ (T ≤ t ∧ t < T + k.length) ∧ (ι t).ownBlock = some g) := by
    intro t ht g hg
    by_cases hc : T ≤ t ∧ t < T + k.length
    · obtain ⟨j, rfl⟩ : ∃ j, t = T + j := ⟨t - T, by omega⟩
      rw [plc_in (by omega)] at hg
      rw [Nat.add_sub_cancel_left]
      exact .inl ⟨hc, hg, hnewblk j g (by omega) hg⟩
    · rw [plc_out hc] at hg
      exact .inr ⟨hc, hg⟩
  have hext : EX h ι w (wrH h (tagged T k)) (plcE T k.length ι κ) w' := by
    refine ⟨⟨hk.below.size, fun g hg _ => hk.below.block g hg, fun g hg hno => ?_⟩, by rw [hlenW]; exact Nat.le_refl _, rfl, fun t o' ht ho' => ?_⟩
    · rintro (hOO | ⟨t, ht, hb⟩)
      · exact hno (.inl hOO)
      · rw [hlenW] at ht
        rcases hblk t ht g hb with ⟨_, _, h3⟩ | ⟨_, h3⟩
        · omega
        · exact hno (.inr ⟨t, ht, h3⟩)
    · by_cases hc : T ≤ t ∧ t < T + k.length
      · rw [hin t hc] at ho'
        have hd := hdead (t - T) (by omega)
        rw [show T + (t - T) = t by omega] at hd
        exact ⟨_, hd, .inr (hver o' (List.mem_of_getElem? ho'))⟩
      · rw [hout t hc] at ho'
        exact ⟨o', ho', .inl ⟨rfl, rfl, rfl, plc_out hc⟩⟩
  refine ⟨⟨hr.below.trans (hk.below.mono hr.size), hr.base, hr.old, fun t o ho => ?_, fun t t' g ht ht' h1 h2 => ?_⟩, hext⟩
  · by_cases hc : T ≤ t ∧ t < T + k.length
    · rw [hin t hc] at ho
      obtain ⟨s, rfl⟩ : ∃ s, t = T + s := ⟨t - T, by omega⟩
      rw [Nat.add_sub_cancel_left] at ho
      rw [plc_in (by omega)]
      rcases hk.objs s o ho with h0 | ⟨hs, xs, h1, h2⟩
      · exact .inl h0
      · refine .inr ⟨hs, xs, ?_, fun i e he => ⟨(h2 i e he).1, fun j x hj => ?_⟩⟩
        · obtain ⟨g1, g2⟩ := h1
          refine ⟨g1, ?_⟩
          rcases g2 with g2 | ⟨g, cap, cur, hv, hb, rest⟩
          · exact .inl g2
          · exact .inr ⟨g, cap, cur, hv, Nat.le_trans hr.size hb, rest⟩
        · obtain ⟨v, hv, hvr⟩ := (h2 i e he).2 j x hj
          obtain ⟨y, rfl⟩ := hpure o (List.mem_of_getElem? ho) i e he j x hj
          exact ⟨v, hv, .p _ _ (hO y v hvr ⟨s, o, i, e, j, ho, he, hj⟩)⟩
    · rw [hout t hc] at ho
      rw [plc_out hc]
      rcases hr.objs t o ho with h0 | ⟨hs, xs, h1, h2⟩
      · exact .inl h0
      · refine .inr ⟨hs, xs, h1.kept (row := none) ⟨hk.below.os, hk.below.tape, hk.below.output, hk.below.size, fun g hg _ => hk.below.block g hg⟩ (by cases (ι t).ownBlock <;> simp), fun i e he => ⟨(h2 i e he).1, fun j x hj => ?_⟩⟩
        obtain ⟨v, hv, hvr⟩ := (h2 i e he).2 j x hj
        exact ⟨v, hv, hext.rel hvr⟩
  · rw [hlenW] at ht ht'
    rcases hblk t ht g h1 with ⟨a1, a2, a3⟩ | ⟨a1, a2⟩ <;> rcases hblk t' ht' g h2 with ⟨b1, b2, b3⟩ | ⟨b1, b2⟩
    · have := hk.inj (t - T) (t' - T) g (by omega) (by omega) a2 b2
      omega
    · have := (hr.own ht' b2).2
      omega
    · have := (hr.own ht a2).2
      omega
    · exact hr.inj t t' g ht ht' a2 b2

def effWr (T : Nat) : Eff → List (Nat × AObj)
  | .none => []
  | .new o => [(T, o)]
  | .upd t o => [(t, o)]

theorem res_place {st : St} {a : Act} {T : Nat} (hs : SR B w0 st ι a w) {y : AV} {eff : Eff} {cv : Value} (hres : Res B st.heap ι w T y eff cv w') (hT : ∀ o, eff = .new o → st.heap[T]? = some deadO) (d : Option Nat) :
    ∃ ι', SR B w0 ⟨setD st.slots d y, wrH st.heap (effWr T eff)⟩ ι' (a.put d cv) w' ∧ EX st.heap ι w (wrH st.heap (effWr T eff)) ι' w' := by
  have fin : ∀ (h' : List AObj) (ι' : Em), HRel B w0 h' ι' w' → EX st.heap ι w h' ι' w' → VR h' ι' w' y cv → SR B w0 ⟨setD st.slots d y, h'⟩ ι' (a.put d cv) w' := by
    intro h' ι' hh hx hy
    obtain ⟨h1, h2⟩ := put_slots hs.len (fun i x v hx' hv => hx.rel (hs.slot i x v hx' hv)) d hy
    exact ⟨hh, h1, h2, by cases d <;> exact hs.defers⟩
  cases eff with
  | none =>
    obtain ⟨rfl, hy⟩ := hres
    exact ⟨ι, fin _ _ hs.heap (.refl _ _ _ _) hy, .refl _ _ _ _⟩
  | new o =>
    obtain ⟨hver, sv, ⟨xs, h1, h2, h3, h4, h5⟩, hy⟩ := hres
    have hd := hT o rfl
    have htl : T < st.heap.length := (List.getElem?_eq_some_iff.1 hd).1
    have hnone : (ι T).ownBlock = none := by
      rcases hs.heap.objs T deadO hd with ⟨_, h0⟩ | ⟨h0, _⟩
      · exact h0
      · simp [deadO] at h0
    obtain ⟨hh, hx⟩ := hs.heap.change T deadO o hd sv xs (by rw [hnone]; exact h1) (fun g hg => .inr (h2 g hg)) (.inr (by rw [hver]; simp [deadO])) h3 h4 h5
    refine ⟨_, fin _ _ hh hx ?_, hx⟩
    show VRel (st.heap.set T o) _ _ _ _ _
    have hget : (st.heap.set T o)[T]? = some o := by rw [List.getElem?_set_self htl]
    have hone : sv.oneCell' = true := by
      rcases h4.2 with ⟨rfl, _⟩ | ⟨g, cap, cur, rfl, _⟩ <;> rfl
    rcases hy with ⟨rfl, rfl⟩ | ⟨rfl, g, N, C, hsv, hcv, hlt⟩
    · refine .row _ _ _ (by simpa using htl) hone fun o' ho' => ?_
      rw [hget] at ho'
      obtain rfl := Option.some.inj ho'
      exact ⟨by omega, fun _ => by rw [upd_same]⟩
    · refine .ptr _ _ _ _ _ (by simpa using htl) (by rw [hcv]; rfl) fun o' ho' => ?_
      rw [hget] at ho'
      obtain rfl := Option.some.inj ho'
      exact ⟨by omega, fun _ => ⟨g, N, C, by rw [upd_same]; exact hsv, hcv, hlt⟩⟩
  | upd t o' =>
    obtain ⟨sv, ⟨o, xs, h0, h1, h2, h3, h4, h5, h6⟩, hy⟩ := hres
    obtain ⟨hh, hx⟩ := hs.heap.change t o o' h0 sv xs h1 h2 h3 h4 h5 h6
    refine ⟨_, fin _ _ hh hx ?_, hx⟩
    show VRel (st.heap.set t o') _ _ _ _ _
    rcases hy with ⟨rfl, rfl⟩ | hy
    · have htl : t < st.heap.length := (List.getElem?_eq_some_iff.1 h0).1
      have hone : cv.oneCell' = true := by
        rcases h5.2 with ⟨rfl, _⟩ | ⟨g, cap, cur, rfl, _⟩ <;> rfl
      refine .row _ _ _ (by simpa [effWr, wrH] using htl) hone fun p hp => ?_
      rw [List.getElem?_set_self htl] at hp
      obtain rfl := Option.some.inj hp
      exact ⟨Nat.le_refl _, fun _ => by rw [upd_same]⟩
    · exact hx.rel hy

theorem rcObj_ver (x : RC) : ∀ o ∈ rcObj x, 0 < o.ver := by
  intro o ho
  cases x with
  | c v => simp [rcObj] at ho
  | s e size es => simp only [rcObj, List.mem_singleton] at ho; subst ho; simp
theorem rcsObj_ver : ∀ (xs : List RC), ∀ o ∈ rcsObj xs, 0 < o.ver
  | [], o, ho => by simp [rcsObj] at ho
  | x :: xs, o, ho => by
    simp only [rcsObj, List.mem_append] at ho
    rcases ho with ho | ho
    · exact rcObj_ver x o ho
    · exact rcsObj_ver xs o ho
theorem rasObj_ver : ∀ (xs : List RA), ∀ o ∈ rasObj xs, 0 < o.ver
  | [], o, ho => by simp [rasObj] at ho
  | x :: xs, o, ho => by
    simp only [rasObj, List.mem_append] at ho
    rcases ho with ho | ho
    · cases x with
      | c x => exact rcObj_ver x o ho
      | a ys => exact rcsObj_ver ys o ho
    · exact rasObj_ver xs o ho

theorem join_place {st : St} {a : Act} (hs : SR B w0 st ι a w) {rs : List RA} {v : Value} (hk : HRel w.heap.size w (rasObj rs) κ w') (hv : VR (rasObj rs) κ w' (retV (rasVal 0 rs)) v)
    (hmode : flatRs rs = true ∨ κ.O = Own st.heap.length ι) {T : Nat} (hT : T + (rasObj rs).length ≤ st.heap.length) (hdead : ∀ j, j < (rasObj rs).length → st.heap[T + j]? = some deadO) (d : Option Nat) :
    SR B w0 ⟨setD st.slots d (retV (rasVal T rs)), wrH st.heap (tagged T (rasObj rs))⟩ (plcE T (rasObj rs).length ι κ) (a.put d v) w' ∧ EX st.heap ι w (wrH st.heap (tagged T (rasObj rs))) (plcE T (rasObj rs).length ι κ) w' := by
  have hlenW : (wrH st.heap (tagged T (rasObj rs))).length = st.heap.length := wrH_len _ _
  have hO : ∀ (x : PV) (u : Value), (x.flat = true ∨ κ.O = Own st.heap.length ι) → PRel w' (Own (rasObj rs).length κ) x u → PRel w' (Own (wrH st.heap (tagged T (rasObj rs))).length (plcE T (rasObj rs).length ι κ)) x u := by
    intro x u hm hp
    rcases hm with hm | hm
    · exact hp.of_flat hm
    · refine hp.fix ⟨Nat.le_refl _, fun _ _ _ => rfl, fun g hg hno => ?_⟩
      rintro (hOO | ⟨t, ht, hb⟩)
      · exact hno (.inl (by rw [hm]; exact .inl hOO))
      · rw [hlenW] at ht
        by_cases hc : T ≤ t ∧ t < T + (rasObj rs).length
        · obtain ⟨j, rfl⟩ : ∃ j, t = T + j := ⟨t - T, by omega⟩
          rw [plc_in (by omega)] at hb
          exact hno (.inr ⟨j, by omega, hb⟩)
        · rw [plc_out hc] at hb
          exact hno (.inl (by rw [hm]; exact .inr ⟨t, ht, hb⟩))
  obtain ⟨hh, hx⟩ := hs.heap.place hk hT hdead (rasObj_ver rs) (rasObj_pure rs) (fun x u hvr hin => by
    cases hvr with
    | p _ _ hp =>
      refine hO x u ?_ hp
      rcases hmode with hm | hm
      · obtain ⟨t, o, i, e, j, h1, h2, h3⟩ := hin
        exact .inl (rasObj_flat hm o (List.mem_of_getElem? h1) i e h2 j x h3)
      · exact .inr hm)
  have hvr : VR (wrH st.heap (tagged T (rasObj rs))) (plcE T (rasObj rs).length ι κ) w' (retV (rasVal T rs)) v :=
    VRel.shiftGR (k := rasObj rs) (κ := κ) (fun t o ht ho => by
      rw [plc_get _ _ _ _ hT, if_pos (by omega), Nat.add_sub_cancel_left] at ho
      exact ho) (fun t ht => plc_in ht) (by rw [hlenW]; exact hT) (G := fun x => x.flat = true ∨ κ.O = Own st.heap.length ι) hO (fun y hy => by
      rcases hmode with hm | hm
      · exact .inl (inRs_flat hm hy)
      · exact .inr hm) hv
  obtain ⟨h1, h2⟩ := put_slots hs.len (fun i x v hx' hv => hx.rel (hs.slot i x v hx' hv)) d hvr
  exact ⟨⟨hh, h1, h2, by cases d <;> exact hs.defers⟩, hx⟩

/-- tags set aside -/
theorem SR.pad {st : St} {a : Act} (hs : SR B w0 st ι a w) (m : Nat) : ∃ ι', SR B w0 ⟨st.slots, st.heap ++ List.replicate m deadO⟩ ι' a w ∧ EX st.heap ι w (st.heap ++ List.replicate m deadO) ι' w := by
  have hk : HRel w.heap.size w (List.replicate m deadO) ⟨fun _ => .slice none 0 0, fun _ => False⟩ w :=
    ⟨.refl _ _, Nat.le_refl _, fun g h => h.elim, fun t o ho => by
      have := List.mem_of_getElem? ho
      obtain rfl := List.eq_of_mem_replicate this
      exact .inl ⟨rfl, rfl⟩, fun t t' g _ _ h => by simp [Value.ownBlock] at h⟩
  obtain ⟨hh, hx⟩ := hs.heap.join hk (fun o ho => by
    obtain rfl := List.eq_of_mem_replicate ho
    intro i e he
    simp [deadO] at he) (fun x v _ ⟨t, o, i, e, j, h1, h2, _⟩ => by
      have := List.mem_of_getElem? h1
      obtain rfl := List.eq_of_mem_replicate this
      simp [deadO] at h2)
  exact ⟨_, ⟨hh, hs.len, fun i x v hx' hv => hx.rel (hs.slot i x v hx' hv), hs.defers⟩, hx⟩
end
end Go.Abs
