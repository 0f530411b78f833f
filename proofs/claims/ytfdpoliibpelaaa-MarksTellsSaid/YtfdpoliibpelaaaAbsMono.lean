/- An operation looks at its operands and at live objects alone. -/
import Derived.Test.YtfdpoliibpelaaaAbsCtl5
set_option linter.unusedVariables false
set_option linter.unusedSimpArgs false
set_option linter.unnecessarySimpa false
set_option linter.unusedSectionVars false
set_option linter.constructorNameAsVariable false
namespace Go.Abs

def AOp.opds : AOp → List AOpd
  | .mv x => [x]
  | .pick c a b => [c, a, b]
  | .box _ _ x => [x]
  | .build _ parts => parts.map (·.2.2)
  | .bslice _ _ _ _ parts => parts.map (·.2)
  | .load _ x => [x]
  | .store _ a x => [a, x]
  | .nilchk x => [x]
  | .bin _ x y => [x, y]
  | .beq _ x y => [x, y]
  | .eqnil _ x => [x]
  | .eqagg _ _ _ x y => [x, y]
  | .un _ x => [x]
  | .conv _ x => [x]
  | .convs x => [x]
  | .mksl _ _ _ _ l c => [l, c]
  | .slice _ x lo hi mx => x :: (lo.toList ++ (hi.toList ++ mx.toList))
  | .sstr x lo hi => x :: (lo.toList ++ hi.toList)
  | .fld _ x => [x]
  | .field _ _ x => [x]
  | .ixa _ x i => [x, i]
  | .ixarr _ _ x i => [x, i]
  | .ixv _ _ _ x i => [x, i]
  | .ixs x i => [x, i]
  | .extract _ x => [x]
  | .len x => [x]
  | .lens x => [x]
  | .append _ _ _ s x => [s, x]
  | .copy _ d s => [d, s]
  | .mm _ x y => [x, y]
  | .mkfn _ caps => caps
  | .bad => []

section
variable {h h' : List AObj} {ρ ρ' : AOpd → AV}

theorem bndA_congr {len : Nat} {ex : Bool} {lo hi mx : Option AOpd} (hl : ∀ x ∈ lo, ρ x = ρ' x) (hh : ∀ x ∈ hi, ρ x = ρ' x) (hx : ∀ x ∈ mx, ρ x = ρ' x) : bndA len ex ρ lo hi mx = bndA len ex ρ' lo hi mx := by
  have h1 : lowA ρ lo = lowA ρ' lo := by
    cases lo with
    | none => rfl
    | some x => simp only [lowA, hl x rfl]
  unfold bndA
  cases hi with
  | none => cases mx <;> simp only [h1]
  | some x =>
    cases mx with
    | none => simp only [hh x rfl, h1]
    | some y => simp only [hh x rfl, hx y rfl, h1]

theorem sliceA_congr {size : Nat} {x : AV} {lo hi mx : Option AOpd} (hl : ∀ x ∈ lo, ρ x = ρ' x) (hh : ∀ x ∈ hi, ρ x = ρ' x) (hx : ∀ x ∈ mx, ρ x = ρ' x) : sliceA h size ρ x lo hi mx = sliceA h size ρ' x lo hi mx := by
  unfold sliceA
  simp only [bndA_congr hl hh hx]

theorem aexec_congr {T : Nat} {ao : AOp} (hρ : ∀ x ∈ ao.opds, ρ x = ρ' x) : aexec h T ρ ao = aexec h T ρ' ao := by
  cases ao
  case build zero parts =>
    have e : (parts.map fun q => (q.1, q.2.1, ρ q.2.2)) = parts.map fun q => (q.1, q.2.1, ρ' q.2.2) :=
      List.map_congr_left fun q hq => by rw [hρ q.2.2 (by simp only [AOp.opds, List.mem_map]; exact ⟨q, hq, rfl⟩)]
    simp only [aexec, e]
  case bslice e size len zero parts =>
    have e : (parts.map fun q => (q.1, ρ q.2)) = parts.map fun q => (q.1, ρ' q.2) :=
      List.map_congr_left fun q hq => by rw [hρ q.2 (by simp only [AOp.opds, List.mem_map]; exact ⟨q, hq, rfl⟩)]
    simp only [aexec, e]
  case mkfn f caps =>
    have e : caps.map ρ = caps.map ρ' := List.map_congr_left fun q hq => hρ q hq
    simp only [aexec, e]
  case slice size x lo hi mx =>
    simp only [AOp.opds, List.mem_cons, List.mem_append, Option.mem_toList] at hρ
    simp only [aexec, hρ x (.inl rfl), sliceA_congr (ρ := ρ) (ρ' := ρ') (fun x hx => hρ x (.inr (.inl hx))) (fun x hx => hρ x (.inr (.inr (.inl hx)))) (fun x hx => hρ x (.inr (.inr (.inr hx))))]
  case sstr x lo hi =>
    simp only [AOp.opds, List.mem_cons, List.mem_append, Option.mem_toList] at hρ
    simp only [aexec, hρ x (.inl rfl), bndA_congr (ρ := ρ) (ρ' := ρ') (mx := none) (fun x hx => hρ x (.inr (.inl hx))) (fun x hx => hρ x (.inr (.inr hx))) (fun x hx => by cases hx)]
  case bad => rfl
  all_goals (simp only [AOp.opds, List.mem_cons, List.not_mem_nil, or_false, forall_eq_or_imp, forall_eq] at hρ; simp only [aexec, hρ])

variable (hm : ∀ t ver o, getRow h t ver = some o → getRow h' t ver = some o)
include hm

theorem elemsOf_mono {x : AV} {es : List (List AV)} (he : elemsOf h x = some es) : elemsOf h' x = some es := by
  cases x
  case p v => cases v <;> exact he
  all_goals simp only [elemsOf] at he ⊢
  all_goals try exact he
  all_goals
    rw [Option.map_eq_some_iff] at he ⊢
    obtain ⟨o, ho, he⟩ := he
    exact ⟨o, hm _ _ _ ho, he⟩

theorem readCells_mono {n : Nat} {x : AV} {es : List AV} (he : readCells h n x = some es) : readCells h' n x = some es := by
  cases x <;> simp only [readCells] at he ⊢ <;> try exact he
  case ptr t ver i off =>
    cases hg : getRow h t ver with
    | none => simp [hg] at he
    | some o => simp only [hg] at he; simp only [hm _ _ _ hg]; exact he

theorem lenA_mono {x : AV} {n : Nat} (he : lenA h x = some n) : lenA h' x = some n := by
  cases x
  case p v => cases v <;> exact he
  all_goals simp only [lenA] at he ⊢
  all_goals try exact he
  all_goals
    rw [Option.map_eq_some_iff] at he ⊢
    obtain ⟨o, ho, he⟩ := he
    exact ⟨o, hm _ _ _ ho, he⟩

theorem nilA_mono {x : AV} {b : Bool} (he : nilA h x = some b) : nilA h' x = some b := by
  cases x
  case p v =>
    cases v with
    | sl es => cases es <;> exact he
    | _ => exact he
  case xf es => cases es <;> exact he
  case row t ver =>
    simp only [nilA] at he ⊢
    cases hg : getRow h t ver with
    | none => simp [hg] at he
    | some o => simp only [hg] at he; simp only [hm _ _ _ hg]; exact he
  case sl t ver lo len ex =>
    simp only [nilA] at he ⊢
    cases hg : getRow h t ver with
    | none => simp [hg] at he
    | some o => simp only [hg] at he; simp only [hm _ _ _ hg]; exact he
  all_goals exact he

theorem ixA_mono {size : Nat} {x i y : AV} (he : ixA h size x i = some y) : ixA h' size x i = some y := by
  unfold ixA at he ⊢
  cases hi : asN i with
  | none => simp [hi] at he
  | some n =>
    simp only [hi] at he ⊢
    cases x
    case p v => cases v <;> exact he
    all_goals try exact he
    case row t ver =>
      cases hg : getRow h t ver with
      | none => simp [hg] at he
      | some o => simp only [hg] at he; simp only [hm _ _ _ hg]; exact he
    case sl t ver lo len ex =>
      cases hg : getRow h t ver with
      | none => simp [hg] at he
      | some o => simp only [hg] at he; simp only [hm _ _ _ hg]; exact he

theorem sliceA_mono {size : Nat} {x y : AV} {lo hi mx : Option AOpd} (he : sliceA h size ρ x lo hi mx = some y) : sliceA h' size ρ x lo hi mx = some y := by
  unfold sliceA at he ⊢
  cases x
  case p v => cases v <;> exact he
  all_goals try exact he
  case row t ver =>
    cases hg : getRow h t ver with
    | none => simp [hg] at he
    | some o => simp only [hg] at he; simp only [hm _ _ _ hg]; exact he
  case sl t ver lo len ex =>
    cases hg : getRow h t ver with
    | none => simp [hg] at he
    | some o => simp only [hg] at he; simp only [hm _ _ _ hg]; exact he

theorem appendA_mono {T e size bytes : Nat} {s : AV} {es : List (List AV)} {r : AV × Eff} (he : appendA h T e size bytes s es = some r) : appendA h' T e size bytes s es = some r := by
  unfold appendA at he ⊢
  cases s
  all_goals try exact he
  case row t ver =>
    cases hg : getRow h t ver with
    | none => simp [hg] at he
    | some o => simp only [hg] at he; simp only [hm _ _ _ hg]; exact he
  case sl t ver lo len ex =>
    cases hg : getRow h t ver with
    | none => simp [hg] at he
    | some o => simp only [hg] at he; simp only [hm _ _ _ hg]; exact he

theorem copyA_mono {size : Nat} {d : AV} {es : List (List AV)} {r : AV × Eff} (he : copyA h size d es = some r) : copyA h' size d es = some r := by
  unfold copyA at he ⊢
  cases d
  all_goals try exact he
  case row t ver =>
    cases hg : getRow h t ver with
    | none => simp [hg] at he
    | some o => simp only [hg] at he; simp only [hm _ _ _ hg]; exact he
  case sl t ver lo len ex =>
    cases hg : getRow h t ver with
    | none => simp [hg] at he
    | some o => simp only [hg] at he; simp only [hm _ _ _ hg]; exact he

theorem aexec_mono {T : Nat} {ao : AOp} {r : AV × Eff} (he : aexec h T ρ ao = some r) : aexec h' T ρ ao = some r := by
  cases ao <;> simp only [aexec] at he ⊢ <;> try exact he
  case load n x =>
    cases n with
    | none =>
      cases hg : readCells h 1 (ρ x) with
      | none => simp [hg] at he
      | some cs => simp only [hg] at he; simp only [readCells_mono hm hg]; exact he
    | some n =>
      cases hg : readCells h n (ρ x) with
      | none => simp [hg] at he
      | some cs => simp only [hg] at he; simp only [readCells_mono hm hg]; exact he
  case store n a x =>
    split at he
    · rename_i cs t ver i off h1 h2
      cases hg : getRow h t ver with
      | none => simp [hg] at he
      | some o => simp only [hg] at he; simp only [hm _ _ _ hg]; exact he
    · cases he
  case eqnil neg x =>
    split at he
    · rename_i v hv
      rw [nilA_mono hm hv]; exact he
    · cases he
  case nilchk x =>
    split at he
    · rename_i t ver i off h1
      cases hg : getRow h t ver with
      | none => simp [hg] at he
      | some o => simp only [hg] at he; simp only [hm _ _ _ hg]; exact he
    · exact he
    · exact he
    · cases he
  case slice size x lo hi mx =>
    split at he
    · rename_i v hv
      rw [sliceA_mono hm hv]; exact he
    · cases he
  case fld off x =>
    split at he
    · rename_i t ver i o h1
      cases hg : getRow h t ver with
      | none => simp [hg] at he
      | some o => simp only [hg] at he; simp only [hm _ _ _ hg]; exact he
    · exact he
    · cases he
  case ixa size x i =>
    split at he
    · rename_i v hv
      rw [ixA_mono hm hv]; exact he
    · cases he
  case ixarr len size x i =>
    split at he
    · cases he
    · rename_i n hn
      split at he
      · rename_i hlt
        rw [if_pos hlt]
        split at he
        · rename_i t ver i o h1
          cases hg : getRow h t ver with
          | none => simp [hg] at he
          | some o => simp only [hg] at he; simp only [hm _ _ _ hg]; exact he
        · exact he
        · cases he
      · cases he
  case len x =>
    split at he
    · rename_i v hv
      rw [lenA_mono hm hv]; exact he
    · cases he
  case append e size bytes s x =>
    split at he
    · rename_i es hes
      rw [elemsOf_mono hm hes]
      simp only
      split at he
      · rename_i hlt
        rw [if_pos hlt]
        exact appendA_mono hm he
      · cases he
    · cases he
  case copy size d s =>
    split at he
    · rename_i es hes
      rw [elemsOf_mono hm hes]
      simp only
      exact copyA_mono hm he
    · cases he

theorem frzL_mono {f g : AV → Option PV} (hfg : ∀ x y, f x = some y → g x = some y) : ∀ {xs : List AV} {ys : List PV}, frzL f xs = some ys → frzL g xs = some ys
  | [], ys, h => h
  | x :: xs, ys, h => by
    simp only [frzL] at h ⊢
    split at h
    · rename_i a b ha hb
      rw [hfg _ _ ha, frzL_mono hfg hb]
      exact h
    · cases h
theorem frzE_mono {f g : AV → Option PV} (hfg : ∀ x y, f x = some y → g x = some y) : ∀ {xs : List (List AV)} {ys : List (List PV)}, frzE f xs = some ys → frzE g xs = some ys
  | [], ys, h => h
  | x :: xs, ys, h => by
    simp only [frzE] at h ⊢
    split at h
    · rename_i a b ha hb
      rw [frzL_mono hm hfg ha, frzE_mono hfg hb]
      exact h
    · cases h

theorem frz_mono {bad : List Nat} (n : Nat) : ∀ {x : AV} {y : PV}, frz h bad n x = some y → frz h' bad n x = some y := by
  induction n with
  | zero => intro x y hf; simp [frz] at hf
  | succ n ih =>
    intro x y hf
    cases x
    case row t ver =>
      simp only [frz] at hf ⊢
      split at hf
      · cases hf
      · rename_i hb
        rw [if_neg hb]
        cases hg : getRow h t ver with
        | none => simp [hg] at hf
        | some o =>
          simp only [hg] at hf
          simp only [hm _ _ _ hg]
          split at hf
          · rename_i es hes
            rw [frzE_mono hm (fun x y => ih) hes]
            exact hf
          · cases hf
    case sl t ver lo len ex =>
      simp only [frz] at hf ⊢
      split at hf
      · cases hf
      · rename_i hb
        rw [if_neg hb]
        cases hg : getRow h t ver with
        | none => simp [hg] at hf
        | some o =>
          simp only [hg] at hf
          simp only [hm _ _ _ hg]
          split at hf
          · rename_i es hes
            rw [frzE_mono hm (fun x y => ih) hes]
            exact hf
          · cases hf
    all_goals (simp only [frz] at hf ⊢; exact hf)

theorem toPAs_mono {f g : AV → Option PV} (hfg : ∀ x y, f x = some y → g x = some y) : ∀ {xs : List AV} {ys : List PA}, toPAs f xs = some ys → toPAs g xs = some ys
  | [], ys, h => h
  | x :: xs, ys, h => by
    simp only [toPAs] at h ⊢
    split at h
    · rename_i a b ha hb
      have ha' : toPA g x = some a := by
        unfold toPA at ha ⊢
        split at ha
        · split at ha
          · rename_i l hl
            simp only [frzL_mono hm hfg hl]
            exact ha
          · cases ha
        · split at ha
          · rename_i v hv
            simp only [hfg _ _ hv]
            exact ha
          · cases ha
      rw [ha', toPAs_mono hfg hb]
      exact h
    · cases h

theorem argsOf_mono {mode : Bool} {xs : List AV} {ys : List PA} (ha : argsOf h mode xs = some ys) : argsOf h' mode xs = some ys := by
  unfold argsOf at ha ⊢
  cases mode with
  | true => simpa only [if_true] using ha
  | false =>
    simp only [Bool.false_eq_true, if_false] at ha ⊢
    exact toPAs_mono hm (fun x y => frz_mono hm 6) ha
end
end Go.Abs
