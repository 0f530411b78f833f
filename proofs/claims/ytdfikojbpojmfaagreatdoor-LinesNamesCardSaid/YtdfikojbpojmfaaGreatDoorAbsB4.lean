/- The abstract machine and its soundness, part B4. -/
import Derived.Test.YtdfikojbpojmfaaGreatDoorAbsB3
import Derived.Shelf.Strings.Builder1
import Derived.Laws.Tables
import Derived.Test.YtdfikojbpojmfaaGreatDoorNS
import Derived.Shelf.Strconv.Itoa4
import Derived.Shelf.Strings.OnBuilder
import Derived.Shelf.Strings.Count
import Derived.Shelf.Strings.Search3
import Derived.Lib.AppendIntMem
import Derived.Shelf.Strconv.AtoiAll
import Derived.Shelf.Strconv.ParseIntPublic10
set_option linter.constructorNameAsVariable false
set_option linter.unusedVariables false
set_option linter.unusedSectionVars false
set_option linter.unusedSimpArgs false
set_option linter.unnecessarySimpa false
set_option linter.constructorNameAsVariable false
namespace Go.Abs
open Go.RowKit (Below)
open Go.Proofs Go.Shelf
variable [GTab] [Glob]

def bldCC (T : Nat) (avs : List AV) (g : GR) : Option (AV × List (Nat × AObj)) :=
  match avs with
  | [.ptr t 1 0 0] =>
    match g t 1 with
    | some o => match decide (o.e = T ∧ o.size = 2), o.elems with
      | true, [[a, b]] => match a with
        | .nptr => some (.tuple [], [(t, ⟨o.ver, o.e, o.size, [[.ptr t 1 0 0, b]]⟩)])
        | .ptr t' 1 0 0 => match decide (t' = t) with
          | true => some (.tuple [], [])
          | false => none
        | _ => none
      | _, _ => none
    | none => none
  | _ => none

def bytR : List (List AV) → Option (List UInt8)
  | [] => some []
  | e :: es => match e with
    | [.p (.int .u8 (.ofNat n))] => match decide (n < 256), bytR es with
      | true, some r => some (UInt8.ofNat n :: r)
      | _, _ => none
    | _ => none

def bldStr (T E : Nat) (avs : List AV) (g : GR) : Option (AV × List (Nat × AObj)) :=
  match avs with
  | [.ptr t 1 0 0] =>
    match g t 1 with
    | some o => match decide (o.e = T ∧ o.size = 2), o.elems with
      | true, [[a, b]] => match b with
        | .nil => some (.p (.str []), [])
        | .row t' v' => match g t' v' with
          | some o' => match decide (o'.e = E ∧ o'.size = 1), bytR o'.elems with
            | true, some (c :: s) => some (.p (.str (c :: s)), [(t', ⟨o'.ver + 2, o'.e, 0, []⟩)])
            | _, _ => none
          | none => none
        | _ => none
      | _, _ => none
    | none => none
  | _ => none

section
variable {P : Program} {ρ : Ren} {B : Nat} {w0 w w' : World} {h : List AObj} {ι : Em}

theorem box_view (hr : HRel B w0 h ι w) {t T : Nat} {o : AObj} {a b : AV} {cv : Value} (hgo : getRow h t 1 = some o) (hoe : o.e = T) (hosz : o.size = 2) (hel : o.elems = [[a, b]]) (hv : VR h ι w (.ptr t 1 0 0) cv) :
    ∃ g u0 u1, cv = .pointer (some ⟨g, 0, none⟩) ∧ ι t = .slice (some ⟨g, 0, none⟩) 1 1 ∧ w.heap[g]? = some (.cells #[u0, u1] T (0, 0)) ∧ VR h ι w a u0 ∧ VR h ι w b u1 ∧ w.ownsRow B T 2 (.slice (some ⟨g, 0, none⟩) 1 1) 1 [u0, u1] := by
  obtain ⟨hot, hov⟩ := getRow_some hgo
  cases hv with
  | ptr _ _ _ _ _ htl hone hob =>
    obtain ⟨g, N, C, hsv, rfl, hil⟩ := (hob o hot).2 hov
    obtain ⟨g', hex⟩ := (hr.ex t o hot hov).resolve_left (by omega)
    rw [hsv] at hex
    simp only [Value.slice.injEq, Option.some.injEq, Addr.mk.injEq, and_true] at hex
    obtain ⟨rfl, rfl, rfl⟩ := hex
    obtain ⟨hs, xs, hown, hes, u, hu⟩ := row_view hr hot (by omega)
    rw [hsv, hoe, hosz, hel] at hown
    have hu0 := hu 0 [a, b] (by rw [hel]; rfl) 0 a rfl
    have hu1 := hu 0 [a, b] (by rw [hel]; rfl) 1 b rfl
    rw [hosz] at hu0 hu1
    simp only [Nat.zero_mul, Nat.zero_add] at hu0 hu1 ⊢
    have hown2 := hown
    obtain ⟨hl, hh⟩ := hown
    rcases hh with ⟨h', _⟩ | ⟨g2, cap, cur, h', hb, hg, hnc, hcm, hcs, htake⟩
    · simp at h'
    · simp only [Value.slice.injEq, Option.some.injEq, Addr.mk.injEq, and_true, true_and, List.length_cons, List.length_nil, Nat.zero_add] at h'
      obtain ⟨rfl, rfl⟩ := h'
      have hx2 : xs = [u 0 0, u 0 1] := by
        match xs, hl, hu0.1, hu1.1 with
        | [x, y], _, h1, h2 =>
          simp at h1 h2
          rw [h1, h2]
      have hc2 : cur = #[u 0 0, u 0 1] := by
        apply Array.ext'
        have : cur.toList.length = 2 := by simpa using hcs
        rw [hx2] at htake
        have h3 : cur.toList.take (1 * 2) = cur.toList := List.take_of_length_le (by omega)
        simp only [List.length_cons, List.length_nil, Nat.zero_add] at htake
        rw [h3] at htake
        exact htake
      subst hc2
      refine ⟨g, u 0 0, u 0 1, rfl, hsv, hg, hu0.2, hu1.2, ?_⟩
      rw [hx2] at hown2
      exact hown2

theorem arg1 {cargs : Array Value} {x : AV} (hsz : cargs.size = [x].length) (hrel : ∀ (i : Nat) (y : AV) (v : Value), [x][i]? = some y → cargs[i]? = some v → VR h ι w y v) : ∃ cv, cargs = #[cv] ∧ VR h ι w x cv := by
  obtain ⟨l⟩ := cargs
  match l, hsz with
  | [cv], _ => exact ⟨cv, rfl, hrel 0 x cv rfl rfl⟩

theorem tuple0 : VR h ι w (.tuple []) (.tuple #[]) := .tuple _ _ rfl fun i x v hx => by simp at hx

theorem bldCC_sound (L : Lays.n240 P ρ) (X : Builder.X72 P ρ) {avs : List AV} {y : AV} {ups : List (Nat × AObj)} (hc : bldCC (ρ.t 72) avs (getRow h) = some (y, ups)) : ACall P (ρ.f 240) avs h y (wrH h ups) := by
  unfold bldCC at hc
  split at hc
  · rename_i t
    split at hc
    · rename_i o hgo
      split at hc
      · rename_i a b hd hel
        obtain ⟨hoe, hosz⟩ := of_decide_eq_true hd
        obtain ⟨hot, hov⟩ := getRow_some hgo
        intro B w0 ι w cargs hr hsz hrel
        obtain ⟨cv, rfl, hv⟩ := arg1 hsz hrel
        obtain ⟨g, u0, u1, rfl, hsv, hg, ha, hb, hown⟩ := box_view hr hgo hoe hosz hel hv
        have c0 : w.cell? ⟨g, 0, none⟩ = some u0 := by simp [World.cell?, hg]
        split at hc
        · simp only [Option.some.injEq, Prod.mk.injEq] at hc
          obtain ⟨rfl, rfl⟩ := hc
          cases ha
          refine (Any.Builder_copyCheck_fresh L X g w c0 (by simp [World.shape?, hg]) (by simp [World.frozen?, hg])).mono ?_
          rintro e w' ⟨rfl, rfl⟩
          obtain ⟨cur, hcur, hcle, hown2, hgrow⟩ := ownsRow_setRow (off := 0) (vs := [.pointer (some ⟨g, 0, none⟩)]) hown (by simp)
          rw [hg] at hcur
          simp only [Option.some.injEq, Obj.cells.injEq, and_true] at hcur
          obtain rfl := hcur.symm
          have hset : w.setCell ⟨g, 0, none⟩ (.pointer (some ⟨g, 0, none⟩)) = w.setRow g ((#[Value.pointer none, u1].toList.take 0 ++ [Value.pointer (some ⟨g, 0, none⟩)] ++ #[Value.pointer none, u1].toList.drop (0 + [Value.pointer (some (⟨g, 0, none⟩ : Addr))].length)).toArray) := by
            rw [setCell_eq_setRow w g 0 _ _ _ _ hg]
            rfl
          rw [hset]
          obtain ⟨hh, hx⟩ := hr.change t o ⟨o.ver, o.e, o.size, [[.ptr t 1 0 0, b]]⟩ hot (ι t) _ (by rw [hsv]; exact hgrow) (fun _ hg => .inl hg) (.inl ⟨rfl, rfl, by rw [hel]; rfl, rfl⟩) (by show 0 < o.size; omega) (by rw [hsv, hoe, hosz]; exact hown2) (fun i e he => by
            cases i with
            | succ i => simp at he
            | zero =>
              simp only [List.getElem?_cons_zero, Option.some.injEq] at he
              subst he
              refine ⟨by rw [hosz]; rfl, fun j x hj => ?_⟩
              match j, hj with
              | 0, hj =>
                simp only [List.getElem?_cons_zero, Option.some.injEq] at hj
                subst hj
                exact ⟨.pointer (some ⟨g, 0, none⟩), by simp, hv⟩
              | 1, hj =>
                simp only [List.getElem?_cons_succ, List.getElem?_cons_zero, Option.some.injEq] at hj
                subst hj
                exact ⟨u1, by simp, hb⟩
              | j + 2, hj => simp at hj) (fun _ => by rw [hsv]; exact ⟨_, rfl⟩)
          exact ⟨_, _, rfl, hh, hx, tuple0⟩
        · split at hc
          · rename_i ht
            obtain rfl := of_decide_eq_true ht
            simp only [Option.some.injEq, Prod.mk.injEq] at hc
            obtain ⟨rfl, rfl⟩ := hc
            obtain ⟨g2, _, _, he2, hsv2, _⟩ := box_view hr hgo hoe hosz hel ha
            rw [hsv] at hsv2
            simp only [Value.slice.injEq, Option.some.injEq, Addr.mk.injEq, and_true] at hsv2
            obtain rfl := hsv2
            subst he2
            refine (Any.Builder_copyCheck_used L X g w c0).mono ?_
            rintro e w' ⟨rfl, rfl⟩
            exact ⟨_, _, rfl, hr, .refl _ _ _ _, tuple0⟩
          · cases hc
        · cases hc
      · cases hc
    · cases hc
  · cases hc

/-! ### String -/
theorem HRel.drop (hr : HRel B w0 h ι w) {t : Nat} {o : AObj} (ho : h[t]? = some o) (hlv : o.size ≠ 0) (hg : w.grownBy w' (ι t).ownBlock) :
    HRel B w0 (h.set t ⟨o.ver + 2, o.e, 0, []⟩) (upd ι t (.slice none 0 0)) w' ∧ EX h ι w (h.set t ⟨o.ver + 2, o.e, 0, []⟩) (upd ι t (.slice none 0 0)) w' := by
  have hB := hr.size
  have htl : t < h.length := (List.getElem?_eq_some_iff.1 ho).1
  have hset : (h.set t ⟨o.ver + 2, o.e, 0, []⟩)[t]? = some ⟨o.ver + 2, o.e, 0, []⟩ := by rw [List.getElem?_set_self htl]
  have hsub : ∀ s g, (upd ι t (.slice none 0 0) s).ownBlock = some g → s ≠ t ∧ (ι s).ownBlock = some g := fun s g hs => by
    by_cases e : s = t
    · subst e
      rw [upd_same] at hs
      cases hs
    · rw [upd_other _ _ e] at hs
      exact ⟨e, hs⟩
  have hext : EX h ι w (h.set t ⟨o.ver + 2, o.e, 0, []⟩) (upd ι t (.slice none 0 0)) w' := by
    refine ⟨⟨hg.size, fun g hlt hno => hg.block g hlt (fun e => hno (.inr ⟨t, htl, e.symm⟩)), fun g hlt hno => ?_⟩, by simp, ⟨rfl, rfl, rfl⟩, fun s p hs' hp => ?_⟩
    · rintro (hO | ⟨s, hs', hb⟩)
      · exact hno (.inl hO)
      simp only [List.length_set] at hs'
      exact hno (.inr ⟨s, hs', (hsub s g hb).2⟩)
    · by_cases e : s = t
      · subst e
        rw [hset] at hp
        obtain rfl := Option.some.inj hp
        exact ⟨o, ho, .inr (by dsimp only; omega)⟩
      · rw [List.getElem?_set_ne (Ne.symm e)] at hp
        exact ⟨p, hp, .inl ⟨rfl, rfl, rfl, upd_other _ _ e⟩⟩
  refine ⟨⟨hr.below.grown hg hB (fun k hk => (hr.own htl hk).1), hr.base, hr.old, hr.glob, fun s p hp => ?_, fun s s' g hs1 hs2 h1 h2 => ?_, fun s p hp hv => ?_⟩, hext⟩
  · by_cases e : s = t
    · subst e
      rw [hset] at hp
      obtain rfl := Option.some.inj hp
      exact .inl ⟨rfl, by rw [upd_same]; rfl⟩
    · rw [List.getElem?_set_ne (Ne.symm e)] at hp
      have hsl : s < h.length := (List.getElem?_eq_some_iff.1 hp).1
      rcases hr.objs s p hp with ⟨h0, h00⟩ | ⟨hs', ys, h1, h2⟩
      · exact .inl ⟨h0, by rw [upd_other _ _ e]; exact h00⟩
      refine .inr ⟨hs', ys, ?_, fun i e' he => ⟨(h2 i e' he).1, fun j x hj => ?_⟩⟩
      · rw [upd_other _ _ e]
        refine h1.kept hg ?_
        by_cases hb : (ι s).ownBlock = none
        · exact .inl hb
        · right
          intro heq
          obtain ⟨g, hgg⟩ := Option.ne_none_iff_exists'.1 hb
          exact e (hr.inj s t g hsl htl hgg (by rw [← heq]; exact hgg))
      · obtain ⟨v, hv, hvr⟩ := (h2 i e' he).2 j x hj
        exact ⟨v, hv, hext.rel hvr⟩
  · simp only [List.length_set] at hs1 hs2
    exact hr.inj s s' g hs1 hs2 (hsub s g h1).2 (hsub s' g h2).2
  · by_cases e : s = t
    · subst e
      rw [hset] at hp
      obtain rfl := Option.some.inj hp
      exact .inl rfl
    · rw [List.getElem?_set_ne (Ne.symm e)] at hp
      rw [upd_other _ _ e]
      exact hr.ex s p hp hv

theorem bytR_get {h : List AObj} {ι : Em} {w : World} : ∀ {es : List (List AV)} {l : List UInt8}, bytR es = some l → l.length = es.length ∧ ∀ (i : Nat) (c : UInt8), l[i]? = some c → ∃ e, es[i]? = some e ∧ ∀ (xs : Nat → Value), (∀ (j : Nat) (x : AV), e[j]? = some x → VR h ι w x (xs j)) → xs 0 = .int .u8 c.toNat
  | [], l, hl => by
    simp only [bytR, Option.some.injEq] at hl
    subst hl
    exact ⟨rfl, fun i c hc => by simp at hc⟩
  | e :: es, l, hl => by
    unfold bytR at hl
    split at hl
    · rename_i n
      split at hl
      · rename_i r hn hr
        have hn := of_decide_eq_true hn
        obtain rfl := Option.some.inj hl
        obtain ⟨h1, h2⟩ := bytR_get (h := h) (ι := ι) (w := w) hr
        refine ⟨by simp [h1], fun i c hc => ?_⟩
        cases i with
        | zero =>
          simp only [List.getElem?_cons_zero, Option.some.injEq] at hc
          subst hc
          refine ⟨_, rfl, fun xs hx => ?_⟩
          have := hx 0 _ rfl
          cases this with | p _ _ hp =>
            generalize hgen : xs 0 = v at hp ⊢
            cases hp
            have : (UInt8.ofNat n).toNat = n := by simp [UInt8.toNat_ofNat]; omega
            rw [this]
            rfl
        | succ i =>
          simp only [List.getElem?_cons_succ] at hc ⊢
          exact h2 i c hc
      · cases hl
    · cases hl

set_option maxHeartbeats 1000000 in
set_option maxRecDepth 100000 in
theorem str_run (L : Lays.n169 P ρ) (X : Builder.Extra P ρ) (b g cap : Nat) (p : Value) (cur : Array Value) (l : List UInt8) (w : World) (h0 : l ≠ [])
    (hbk : w.heap[b]? = some (.cells #[p, .slice (some ⟨g, 0, none⟩) l.length cap] (ρ.t 72) (0, 0))) (hg : w.heap[g]? = some (.cells cur (ρ.t 5) (0, 0))) (hnc : l.length ≤ cap) (hcm : cap ≤ maxLen) (hcs : cur.size = cap)
    (hcell : ∀ (j : Nat) (x : UInt8), l[j]? = some x → w.cell? ⟨g, j, none⟩ = some (.int .u8 x.toNat)) :
    Calls P (ρ.f 169) #[.pointer (some ⟨b, 0, none⟩)] w fun e w' => e = .returned (.string ⟨l.toArray⟩) ∧ w' = w.drew.freeze ⟨g, 0, none⟩ l.length := by
  have hl0 : l.length ≠ 0 := by simpa using h0
  have c1 : w.drew.cell? ⟨b, 1, none⟩ = some (.slice (some ⟨g, 0, none⟩) l.length cap) := by
    have : w.drew.heap[b]? = some (.cells #[p, .slice (some ⟨g, 0, none⟩) l.length cap] (ρ.t 72) (0, 0)) := hbk
    rw [Lib.cell_of_heap this]; rfl
  have hSD : (Builtin.unsafeSliceData_ #[(ρ.t 37)] (ρ.t 127) #[.slice (some ⟨g, 0, none⟩) l.length cap]).run P w.drew = .ok (.pointer (some ⟨g, 0, none⟩)) w.drew :=
    Lib.run_unsafeSliceData_row _ _ _ _ _ _ (by omega)
  have hUS : (Builtin.unsafeString_ #[(ρ.t 127), (ρ.t 3)] (ρ.t 9) #[.pointer (some ⟨g, 0, none⟩), .int .i64 l.length]).run P w.drew = .ok (.string ⟨l.toArray⟩) (w.drew.freeze ⟨g, 0, none⟩ l.length) :=
    Lib.run_unsafeString_row w.drew (ρ.t 127) (ρ.t 3) (ρ.t 9) (ρ.t 5) L.t127 X.cellsByte g cur.size (by have hg' : w.drew.heap[g]? = some (.cells cur (ρ.t 5) (0, 0)) := hg; simp [World.shape?, hg']) l h0 (by omega) (by unfold maxLen at hcm; omega) (fun j x hx => by
      have := hcell j x hx
      rw [Addr.add_lit, Nat.zero_add]
      exact this)
  have mixed := L.mixed
  have t72 := L.t72; have a72 := L.a72; have z72 := L.z72; have v72 := L.v72; have u72 := run_underlying L.t72
  have t70 := L.t70; have a70 := L.a70; have z70 := L.z70; have v70 := L.v70; have u70 := run_underlying L.t70
  have t37 := L.t37; have a37 := L.a37; have z37 := L.z37; have v37 := L.v37; have u37 := run_underlying L.t37
  have t127 := L.t127; have a127 := L.a127; have z127 := L.z127; have v127 := L.v127; have u127 := run_underlying L.t127
  have t3 := L.t3; have a3 := L.a3; have z3 := L.z3; have v3 := L.v3; have u3 := run_underlying L.t3
  have t9 := L.t9; have a9 := L.a9; have z9 := L.z9; have v9 := L.v9; have u9 := run_underlying L.t9
  have t5 := X.t5; have a5 := X.a5; have z5 := X.z5; have v5 := X.v5; have u5 := run_underlying X.t5
  go_enter L.f169, Body.n169_ntmps ρ
  go_wp2
  go_region_o
  all_goals (go_wp2; go_ret; exact ⟨rfl, rfl⟩)

theorem freeze_grown (w : World) (g n : Nat) : w.grownBy (w.drew.freeze ⟨g, 0, none⟩ n) (some g) := by
  unfold World.freeze
  split
  · exact ⟨rfl, rfl, rfl, Nat.le_refl _, fun _ _ _ => rfl⟩
  · refine ⟨rfl, rfl, rfl, ?_, fun k hk hne => ?_⟩
    · show w.heap.size ≤ (Array.modify w.heap g _).size
      simp
    · have hne : g ≠ k := fun e => hne (by rw [e])
      show (Array.modify w.heap g _)[k]? = _
      rw [Array.getElem?_modify, if_neg hne]

theorem bldStr_sound (L : Lays.n169 P ρ) (X : Builder.Extra P ρ) {avs : List AV} {y : AV} {ups : List (Nat × AObj)} (hc : bldStr (ρ.t 72) (ρ.t 5) avs (getRow h) = some (y, ups)) : ACall P (ρ.f 169) avs h y (wrH h ups) := by
  unfold bldStr at hc
  split at hc
  · rename_i t
    split at hc
    · rename_i o hgo
      split at hc
      · rename_i a b hd hel
        obtain ⟨hoe, hosz⟩ := of_decide_eq_true hd
        obtain ⟨hot, hov⟩ := getRow_some hgo
        intro B w0 ι w cargs hr hsz hrel
        obtain ⟨cv, rfl, hv⟩ := arg1 hsz hrel
        obtain ⟨g, u0, u1, rfl, hsv, hg, ha, hb, hown⟩ := box_view hr hgo hoe hosz hel hv
        split at hc
        · simp only [Option.some.injEq, Prod.mk.injEq] at hc
          obtain ⟨rfl, rfl⟩ := hc
          cases hb
          refine (Any.Builder_String_nil L X w.heap.size g u0 w hg).mono ?_
          rintro e w' ⟨rfl, hb⟩
          obtain ⟨hh, hx⟩ := hr.grown (w' := w') ⟨hb.os, hb.tape, hb.output, hb.size, fun k hk _ => hb.block k hk⟩
          exact ⟨_, ι, rfl, hh, hx, .p _ _ (.str [])⟩
        · rename_i t' v'
          split at hc
          · rename_i o' hgo'
            split at hc
            · rename_i c s hd' hby
              obtain ⟨hoe', hosz'⟩ := of_decide_eq_true hd'
              obtain ⟨hot', hov'⟩ := getRow_some hgo'
              simp only [Option.some.injEq, Prod.mk.injEq] at hc
              obtain ⟨rfl, rfl⟩ := hc
              cases hb with
              | row _ _ _ htl hone hob =>
                obtain rfl := (hob o' hot').2 hov'
                obtain ⟨hs', xs, hown', hes, u, hu⟩ := row_view hr hot' (by omega)
                obtain ⟨hbl, hbg⟩ := bytR_get (h := h) (ι := ι) (w := w) hby
                rw [hoe', hosz'] at hown'
                have hpos : 0 < o'.elems.length := by rw [← hbl]; simp
                obtain ⟨hl, hh⟩ := hown'
                rcases hh with ⟨_, hz⟩ | ⟨g', cap, cur, hf, hbb, hcur, hnc, hcm, hcs, htake⟩
                · omega
                have hcell : ∀ (j : Nat) (x : UInt8), (c :: s)[j]? = some x → w.cell? ⟨g', j, none⟩ = some (.int .u8 x.toNat) := fun j x hj => by
                  obtain ⟨e, he, hxs⟩ := hbg j x hj
                  have h1 := hxs (u j) (fun k y hy => (hu j e he k y hy).2)
                  have hel1 := hes j e he
                  rw [hosz'] at hel1
                  have h2 := (hu j e he 0 e[0] (List.getElem?_eq_getElem (by omega))).1
                  rw [hosz', h1] at h2
                  simp only [Nat.mul_one, Nat.add_zero] at h2
                  rw [← htake, List.getElem?_take] at h2
                  split at h2
                  · simp only [World.cell?, hcur]
                    simpa using h2
                  · cases h2
                rw [hf, ← hbl] at hg
                refine (str_run L X g g' cap u0 cur (c :: s) w (by simp) hg hcur (by rw [hbl]; exact hnc) hcm (by simpa using hcs) hcell).mono ?_
                rintro e w' ⟨rfl, rfl⟩
                obtain ⟨hh2, hx⟩ := hr.drop hot' (by omega) (w' := w.drew.freeze ⟨g', 0, none⟩ (c :: s).length) (by rw [hf]; exact freeze_grown w g' _)
                exact ⟨_, _, rfl, hh2, hx, .p _ _ (.str _)⟩
            · cases hc
          · cases hc
        · cases hc
      · cases hc
    · cases hc
  · cases hc
end
end Go.Abs

set_option linter.unusedVariables false
set_option linter.unusedSectionVars false
namespace Go.Abs
open Go.RowKit (Below)
open Go.Proofs Go.Shelf
variable [GTab] [Glob] {P : Program} {ρ : Ren}

theorem arg_1 {w : World} {O : Nat → Prop} {a : PV} {cargs : Array Value} (h : PARels w O [.c a] cargs) : ∃ u, cargs = #[u] ∧ PRel w O a u := by
  obtain ⟨h1, h2⟩ := h
  obtain ⟨l⟩ := cargs
  match l, h1 with
  | [u], _ =>
    have e1 := h2 0 _ u rfl rfl
    cases e1 with | c _ _ e1 => exact ⟨u, rfl, e1⟩
theorem arg_2 {w : World} {O : Nat → Prop} {a b : PV} {cargs : Array Value} (h : PARels w O [.c a, .c b] cargs) : ∃ u v, cargs = #[u, v] ∧ PRel w O a u ∧ PRel w O b v := by
  obtain ⟨h1, h2⟩ := h
  obtain ⟨l⟩ := cargs
  match l, h1 with
  | [u, v], _ =>
    have e1 := h2 0 _ u rfl rfl
    have e2 := h2 1 _ v rfl rfl
    cases e1 with | c _ _ e1 => cases e2 with | c _ _ e2 => exact ⟨u, v, rfl, e1, e2⟩

/-! ### numbers as texts -/
def decF : Nat → Nat → List UInt8 → List UInt8
  | 0, _, acc => acc
  | k + 1, u, acc => match Nat.blt u 10 with
    | true => UInt8.ofNat (48 + u) :: acc
    | false => decF k (u / 10) (UInt8.ofNat (48 + u % 10) :: acc)
theorem decF_eq : ∀ (k u : Nat) (acc : List UInt8), u < 10 ^ (k + 1) → decF (k + 1) u acc = Lib.decDigits u ++ acc
  | k, u, acc, hu => by
    rw [decF, Lib.decDigits]
    by_cases h : u < 10
    · rw [show Nat.blt u 10 = true by simpa using h, dif_pos h]
      rfl
    · have hb : Nat.blt u 10 = false := by
        cases hb : Nat.blt u 10 with
        | false => rfl
        | true => exact absurd (Nat.blt_eq.mp hb) h
      rw [hb, dif_neg h]
      cases k with
      | zero => simp at hu; omega
      | succ k =>
        simp only
        rw [decF_eq k (u / 10) _ (by rw [Nat.pow_succ] at hu; omega)]
        simp
def itoaF (n : Int) : List UInt8 := match n with
  | .ofNat u => decF 20 u []
  | .negSucc u => 45 :: decF 20 (u + 1) []
theorem itoaF_eq {n : Int} (h0 : -9223372036854775808 ≤ n) (h1 : n ≤ 9223372036854775807) : itoaF n = Lib.itoa n := by
  unfold itoaF Lib.itoa
  cases n with
  | ofNat u =>
    rw [if_neg (by simp)]
    show decF 20 u [] = _
    rw [decF_eq 19 u [] (by simp at h1; omega)]
    simp
  | negSucc u =>
    rw [if_pos (Int.negSucc_lt_zero u)]
    show 45 :: decF 20 (u + 1) [] = _
    rw [decF_eq 19 (u + 1) [] (by have : -(9223372036854775808 : Int) ≤ Int.negSucc u := h0; omega)]
    simp
def formatK (pas : List PA) : Option (List RA) :=
  match pas with
  | [.c (.int .i64 n), .c (.int .i64 (.ofNat 10))] => match decide (-9223372036854775808 ≤ n) && decide (n ≤ 9223372036854775807) with
    | true => some [.c (.c (.str (itoaF n)))]
    | false => none
  | _ => none
theorem formatK_sound (L : LaysM.n173 P ρ) (htab : ∀ w : World, GlobOk w.heap.size w → Lib.TabIs P w "internal/strconv.uint64pow10" .u64 Lib.pow10Tab) {pas : List PA} {rs : List RA} (h : formatK pas = some rs) : Spec P (ρ.f 173) pas rs := by
  unfold formatK at h
  split at h
  · rename_i n
    split at h
    · rename_i hc
      obtain rfl := Option.some.inj h
      simp only [Bool.and_eq_true, decide_eq_true_eq] at hc
      refine Spec.still (v := .string ⟨(itoaF n).toArray⟩) (fun w O => .str _) fun O w cargs hg hp => ?_
      obtain ⟨u, v, rfl, h1, h2⟩ := arg_2 hp
      cases h1
      cases h2
      refine (Any.strconv_FormatInt_10 L n hc.1 hc.2 w (htab w hg)).mono fun e w' he => ?_
      obtain ⟨rfl, k, os, rfl⟩ := he
      exact ⟨by rw [itoaF_eq hc.1 hc.2], Lib.below_grow _ w (Nat.le_refl _) k os⟩
    · cases h
  · cases h
def itoaK (pas : List PA) : Option (List RA) :=
  match pas with
  | [.c (.int .i64 n)] => match decide (-9223372036854775808 ≤ n) && decide (n ≤ 9223372036854775807) with
    | true => some [.c (.c (.str (itoaF n)))]
    | false => none
  | _ => none
theorem itoaK_sound (L : LaysM.n171 P ρ) (htab : ∀ w : World, GlobOk w.heap.size w → Lib.TabIs P w "internal/strconv.uint64pow10" .u64 Lib.pow10Tab) {pas : List PA} {rs : List RA} (h : itoaK pas = some rs) : Spec P (ρ.f 171) pas rs := by
  unfold itoaK at h
  split at h
  · rename_i n
    split at h
    · rename_i hc
      obtain rfl := Option.some.inj h
      simp only [Bool.and_eq_true, decide_eq_true_eq] at hc
      refine Spec.still (v := .string ⟨(itoaF n).toArray⟩) (fun w O => .str _) fun O w cargs hg hp => ?_
      obtain ⟨u, rfl, h1⟩ := arg_1 hp
      cases h1
      refine (Any.strconv_Itoa L n hc.1 hc.2 w (htab w hg)).mono fun e w' he => ?_
      obtain ⟨rfl, k, os, rfl⟩ := he
      exact ⟨by rw [itoaF_eq hc.1 hc.2], Lib.below_grow _ w (Nat.le_refl _) k os⟩
    · cases h
  · cases h

/-! ### a byte counted, and searched -/
def countK (pas : List PA) : Option (List RA) :=
  match pas with
  | [.c (.str s), .c (.str [c])] => some [.c (.c (.int .i64 (Lib.countByte s c)))]
  | _ => none
theorem countK_sound (L : Lays.n138 P ρ) {pas : List PA} {rs : List RA} (h : countK pas = some rs) : Spec P (ρ.f 138) pas rs := by
  unfold countK at h
  split at h
  · rename_i s c
    obtain rfl := Option.some.inj h
    refine Spec.still (v := .int .i64 (Lib.countByte s c)) (fun w O => .int _ _) fun O w cargs hg hp => ?_
    obtain ⟨u, v, rfl, h1, h2⟩ := arg_2 hp
    cases h1
    cases h2
    exact (Any.strings_Count_one L ⟨s.toArray⟩ c w).mono fun e w' he => ⟨he.1, by rw [he.2]; exact Below.refl _ _⟩
  · cases h
def indexK (pas : List PA) : Option (List RA) :=
  match pas with
  | [.c (.str s), .c (.str [c])] => some [.c (.c (.int .i64 (Lib.indexByte s c)))]
  | _ => none
theorem indexK_sound (L : Lays.n143 P ρ) {pas : List PA} {rs : List RA} (h : indexK pas = some rs) : Spec P (ρ.f 143) pas rs := by
  unfold indexK at h
  split at h
  · rename_i s c
    obtain rfl := Option.some.inj h
    refine Spec.still (v := .int .i64 (Lib.indexByte s c)) (fun w O => .int _ _) fun O w cargs hg hp => ?_
    obtain ⟨u, v, rfl, h1, h2⟩ := arg_2 hp
    cases h1
    cases h2
    exact (Any.strings_Index_one L ⟨s.toArray⟩ c w).mono fun e w' he => ⟨he.1, by rw [he.2]; exact Below.refl _ _⟩
  · cases h

/-! ### texts joined -/
def strsOf : List (List PV) → Option (List (List UInt8))
  | [] => some []
  | e :: es => match e with
    | [.str s] => match strsOf es with | some r => some (s :: r) | none => none
    | _ => none
theorem strsOf_eq : ∀ {es : List (List PV)} {l : List (List UInt8)}, strsOf es = some l → es = l.map fun s => [.str s]
  | [], l, h => by obtain rfl := Option.some.inj h; rfl
  | e :: es, l, h => by
    unfold strsOf at h
    split at h
    · split at h
      · rename_i r hr
        obtain rfl := Option.some.inj h
        rw [strsOf_eq hr]
        rfl
      · cases h
    · cases h
def joinF (sep : List UInt8) : List (List UInt8) → List UInt8
  | [] => []
  | x :: xs => match xs with
    | [] => x
    | _ :: _ => x ++ (sep ++ joinF sep xs)
theorem joinF_eq (sep : List UInt8) : ∀ l, joinF sep l = Lib.join l sep
  | [] => rfl
  | [x] => by rw [joinF, Lib.join_one]
  | x :: y :: l => by
    rw [joinF, joinF_eq sep (y :: l)]
    simp [Lib.join]
def joinK (pas : List PA) : Option (List RA) :=
  match pas with
  | [.c (.sl es), .c (.str sep)] => match strsOf es with
    | some l => match Nat.ble (joinF sep l).length maxBytes && Nat.ble l.length maxBytes with
      | true => some [.c (.c (.str (joinF sep l)))]
      | false => none
    | none => none
  | _ => none
theorem joinK_sound (L : Lays.n156 P ρ) (X : Builder.Extra P ρ) {pas : List PA} {rs : List RA} (h : joinK pas = some rs) : Spec P (ρ.f 156) pas rs := by
  unfold joinK at h
  split at h
  · rename_i es sep
    split at h
    · rename_i l hl
      split at h
      · rename_i hc
        obtain rfl := Option.some.inj h
        simp only [Bool.and_eq_true, Nat.ble_eq] at hc
        have hes := strsOf_eq hl
        refine Spec.still (v := .string ⟨(joinF sep l).toArray⟩) (fun w O => .str _) fun O w cargs hg hp => ?_
        obtain ⟨u, v, rfl, h1, h2⟩ := arg_2 hp
        cases h2
        cases h1 with
        | nil a c =>
          have hl0 : l = [] := by
            have := hes.symm
            simpa using this
          subst hl0
          exact (Any.strings_Join_none L X a c ⟨sep.toArray⟩ w).mono fun e w' he => ⟨he.1, by rw [he.2]; exact Below.refl _ _⟩
        | sl _ a n c size u hno hlt hn hc' hsz' hcell hr =>
          have hln : n = l.length := by rw [hn, hes]; simp
          cases l with
          | nil =>
            simp only [List.length_nil] at hln
            subst hln
            exact (Any.strings_Join_none L X (some a) c ⟨sep.toArray⟩ w).mono fun e w' he => ⟨he.1, by rw [he.2]; exact Below.refl _ _⟩
          | cons x r =>
            have hget : ∀ (j : Nat) (s : List UInt8), (x :: r)[j]? = some s → w.cell? (a.add j) = some (.string ⟨s.toArray⟩) := fun j s hj => by
              have he : es[j]? = some [.str s] := by rw [hes, List.getElem?_map, hj]; rfl
              have hs1 : size = 1 := (hsz' j _ he).symm
              subst hs1
              have h3 := hcell j _ he 0 _ rfl
              have h4 := hr j _ he 0 _ rfl
              rw [Nat.mul_one, Nat.add_zero] at h3
              rw [h3]
              generalize u j 0 = z at h4
              cases h4
              rfl
            obtain ⟨bk, o, sp⟩ := a
            have hsp : sp = none := by
              have h0 := hget 0 x rfl
              unfold Addr.add at h0
              rw [if_pos rfl] at h0
              unfold World.cell? at h0
              split at h0
              · split at h0
                · cases h0
                · rename_i hs
                  simpa using hs
              · cases h0
            subst hsp
            have hmap : ((x :: r).map fun s => (⟨s.toArray⟩ : ByteArray)).map (·.data.toList) = x :: r := by
              rw [List.map_map]
              exact (List.map_congr_left (g := id) fun s _ => rfl).trans (List.map_id _)
            have hlm : ((x :: r).map fun s => (⟨s.toArray⟩ : ByteArray)).length = n := by rw [hln, List.length_map]
            have := Any.strings_Join L X bk o c ((x :: r).map fun s => (⟨s.toArray⟩ : ByteArray)) ⟨sep.toArray⟩ w (fun j y hj => by
              rw [List.getElem?_map, Option.map_eq_some_iff] at hj
              obtain ⟨s, hs, rfl⟩ := hj
              have := hget j s hs
              rwa [Addr.add_lit] at this) hlt (by rw [hlm, hln]; have := hc.2; unfold maxBytes at this; exact this) (by rw [hlm]; exact hc') (by
                rw [hmap, ← joinF_eq]
                have := hc.1
                unfold maxBytes at this
                exact this)
            rw [hmap, ← joinF_eq, hlm] at this
            exact this
      · cases h
    · cases h
  · cases h
end Go.Abs

set_option linter.unusedVariables false
set_option linter.unusedSectionVars false
namespace Go.Abs
open Go.RowKit (Below)
open Go.Proofs Go.Shelf
variable [GTab] [Glob] {P : Program} {ρ : Ren}

theorem Spec.errs {f : FuncId} {pas : List PA} {y : PV} {v : Value} (b : Bool) (hy : ∀ w O, PRel w O y v)
    (h : ∀ (O : Nat → Prop) (w : World) (cargs : Array Value), GlobOk w.heap.size w → PARels w O pas cargs → Calls P f cargs w fun e w' => ∃ iv, e = .returned (.tuple #[v, iv]) ∧ (match b with | true => ∃ t x, iv = .iface t x | false => iv = .nilIface) ∧ Below w.heap.size w w') :
    Spec P f pas [.c (.c y), .c (.e b)] := by
  intro O w cargs hO hgl hp
  refine (h O w cargs hgl hp).mono fun e w' he => ?_
  obtain ⟨iv, rfl, hi, hb⟩ := he
  refine ⟨_, ⟨fun _ => undef, O, 0, []⟩, rfl, rfl, ⟨hb, Nat.le_refl _, hO, hgl, fun t o ho => by simp [rasObj, raObj, rcObj] at ho, fun t t' g h1 => by simp [rasObj, raObj, rcObj] at h1, fun t o ho => by simp [rasObj, raObj, rcObj] at ho⟩, ?_⟩
  refine .tuple _ _ rfl fun i x u hx hu => ?_
  match i, hx, hu with
  | 0, hx, hu =>
    simp [rasVal, raVal, rcVal] at hx hu
    subst hx; subst hu
    exact .p _ _ (hy _ _)
  | 1, hx, hu =>
    simp [rasVal, raVal, rcVal] at hx hu
    subst hx; subst hu
    cases b with
    | true =>
      obtain ⟨t, z, rfl⟩ := hi
      exact .if1 t z
    | false =>
      obtain rfl := hi
      exact .if0
  | i + 2, hx, hu => simp [rasVal] at hx

def atoiK (pas : List PA) : Option (List RA) :=
  match pas with
  | [.c (.str s)] => match Nat.ble s.length 281474976710656 with
    | true => match Lib.atoiAll s with
      | .ok v => some [.c (.c (.int .i64 v)), .c (.e false)]
      | .range => none
      | _ => some [.c (.c (.int .i64 0)), .c (.e true)]
    | false => none
  | _ => none
def parseK (pas : List PA) : Option (List RA) :=
  match pas with
  | [.c (.str s), .c (.int .i64 (.ofNat 10)), .c (.int .i64 (.ofNat 64))] => match Nat.ble s.length 281474976710656 with
    | true => match Lib.parseIntB 64 s with
      | .ok v => some [.c (.c (.int .i64 v)), .c (.e false)]
      | .range => none
      | _ => some [.c (.c (.int .i64 0)), .c (.e true)]
    | false => none
  | _ => none
theorem below_bytesW (w : World) (e : TypeId) (t : ByteArray) : Below w.heap.size w (Lib.bytesWorld w e t) := by
  unfold Lib.bytesWorld
  exact Lib.below_freeze ((Below.drew (Below.refl _ w)).alloc (Nat.le_refl _) _) (p := ⟨w.heap.size, _, none⟩) (Nat.le_refl _) 1
theorem atoiK_sound (L : LaysC.n172 P ρ) (herr : ∀ w : World, GlobOk w.heap.size w → ∃ te pe, w.cell? ⟨ρ.g 15, 0, none⟩ = some (.iface te pe)) {pas : List PA} {rs : List RA} (h : atoiK pas = some rs) : Spec P (ρ.f 172) pas rs := by
  unfold atoiK at h
  split at h
  · rename_i s
    have hsz : (ByteArray.mk s.toArray).size = s.length := by simp [ByteArray.size]
    split at h
    · rename_i hl
      have hl : s.length ≤ 281474976710656 := by simpa using hl
      generalize hv : Lib.atoiAll s = r at h
      cases r
      · rename_i v
        obtain rfl := Option.some.inj h
        refine Spec.errs (v := .int .i64 v) false (fun w O => .int _ _) fun O w cargs hg hp => ?_
        obtain ⟨u, rfl, h1⟩ := arg_1 hp
        cases h1
        refine (Any.strconv_Atoi_ok L ⟨s.toArray⟩ (by rw [hsz]; omega) v hv w).mono fun e w' he => ?_
        obtain ⟨rfl, hw⟩ := he
        refine ⟨_, rfl, rfl, ?_⟩
        rcases hw with rfl | ⟨t, rfl⟩
        · exact Below.refl _ _
        · exact below_bytesW _ _ _
      · obtain rfl := Option.some.inj h
        refine Spec.errs (v := .int .i64 0) true (fun w O => .int _ _) fun O w cargs hg hp => ?_
        obtain ⟨u, rfl, h1⟩ := arg_1 hp
        cases h1
        obtain ⟨te, pe, hc⟩ := herr w hg
        refine (Any.strconv_Atoi_syntax L ⟨s.toArray⟩ (by rw [hsz]; omega) hv _ w hc (.inr ⟨te, pe, rfl⟩)).mono fun e w' he => ?_
        obtain ⟨N, rfl, _, _, hb⟩ := he
        exact ⟨_, rfl, ⟨_, _, rfl⟩, hb⟩
      · cases h
    · cases h
  · cases h
theorem arg_3 {w : World} {O : Nat → Prop} {a b c : PV} {cargs : Array Value} (h : PARels w O [.c a, .c b, .c c] cargs) : ∃ u v x, cargs = #[u, v, x] ∧ PRel w O a u ∧ PRel w O b v ∧ PRel w O c x := by
  obtain ⟨h1, h2⟩ := h
  obtain ⟨l⟩ := cargs
  match l, h1 with
  | [u, v, x], _ =>
    have e1 := h2 0 _ u rfl rfl
    have e2 := h2 1 _ v rfl rfl
    have e3 := h2 2 _ x rfl rfl
    cases e1 with | c _ _ e1 => cases e2 with | c _ _ e2 => cases e3 with | c _ _ e3 => exact ⟨u, v, x, rfl, e1, e2, e3⟩
theorem parseK_sound (L : LaysC.n174 P ρ) (herr : ∀ w : World, GlobOk w.heap.size w → ∃ te pe, w.cell? ⟨ρ.g 15, 0, none⟩ = some (.iface te pe)) {pas : List PA} {rs : List RA} (h : parseK pas = some rs) : Spec P (ρ.f 174) pas rs := by
  unfold parseK at h
  split at h
  · rename_i s
    have hsz : (ByteArray.mk s.toArray).size = s.length := by simp [ByteArray.size]
    split at h
    · rename_i hl
      have hl : s.length ≤ 281474976710656 := by simpa using hl
      generalize hv : Lib.parseIntB 64 s = r at h
      cases r
      · rename_i v
        obtain rfl := Option.some.inj h
        refine Spec.errs (v := .int .i64 v) false (fun w O => .int _ _) fun O w cargs hg hp => ?_
        obtain ⟨u, u2, u3, rfl, h1, h2, h3⟩ := arg_3 hp
        cases h1
        cases h2
        cases h3
        refine (Any.strconv_ParseInt_10_at64_ok L ⟨s.toArray⟩ (by rw [hsz]; omega) v hv w).mono fun e w' he => ?_
        obtain ⟨rfl, hw⟩ := he
        refine ⟨_, rfl, rfl, ?_⟩
        rcases hw with rfl | ⟨t, rfl⟩
        · exact Below.refl _ _
        · exact below_bytesW _ _ _
      · obtain rfl := Option.some.inj h
        refine Spec.errs (v := .int .i64 0) true (fun w O => .int _ _) fun O w cargs hg hp => ?_
        obtain ⟨u, u2, u3, rfl, h1, h2, h3⟩ := arg_3 hp
        cases h1
        cases h2
        cases h3
        obtain ⟨te, pe, hc⟩ := herr w hg
        refine (Any.strconv_ParseInt_10_at64_syntax L ⟨s.toArray⟩ (by rw [hsz]; omega) hv _ w hc (.inr ⟨te, pe, rfl⟩)).mono fun e w' he => ?_
        obtain ⟨N, rfl, _, _, hb⟩ := he
        exact ⟨_, rfl, ⟨_, _, rfl⟩, hb⟩
      · cases h
    · cases h
  · cases h
end Go.Abs
