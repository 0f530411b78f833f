import Derived.Test.YtiilfgphdpcioaaAbsB6
import Derived.Test.YtiilfgphdpcioaaHandA
import Derived.Test.YtiilfgphdpcioaaHand0
/- Contracts that are given by hand. -/
set_option linter.unusedVariables false
namespace Tg
open Go Go.Abs Go.RowKit Go.Maps Go.Proofs

theorem dedup_size : ∀ (l : List (Int × Unit)) (D : DataW Unit) (acc : List Int), Tidy D → (∀ y, has D (.int .i64 y) = acc.contains y) → Maps.size D = acc.length →
    Maps.size ((l.map (·.1)).foldl (fun D x => D.put (.int .i64 x) (.lit (.bool true))) D) = (dedupI l acc).length
  | [], D, acc, _, _, hs => hs
  | x :: l, D, acc, ht, hh, hs => by
    have hk : WideAt.IsKeyLit (.int .i64 x.1) := trivial
    simp only [List.map_cons, List.foldl_cons, dedupI]
    refine dedup_size l _ _ (ht.put hk _) (fun y => ?_) ?_
    · by_cases e : y = x.1
      · subst e
        rw [has_put_same ht.isMap hk]
        split
        · rename_i h; exact h.symm
        · simp
      · rw [has_put_other (by simpa using e), hh y]
        split
        · rfl
        · simp [e]
    · rw [size_put ht, hh x.1, hs]
      split
      · rfl
      · simp

def con36 : TCon := ⟨[.c (.sl [.int .i64])], [.c (.p (.int .i64))], fun a => clauses_distinct_int_ a.1⟩
theorem cb36 : callable Go.Proofs.Try.prog 36 = true := by kernel_rfl

theorem ends {w w' : World} {O : Nat → Prop} (hO : ∀ g, O g → g < w.heap.size) (hb : Below w.heap.size w w') (n : Int) :
    ∃ v ι, Ending.returned (Value.int .i64 n) = .returned v ∧ Em.O ι = O ∧ HRel w.heap.size w (rasObj [.c (.c (.int .i64 n))]) ι w' ∧ VR (rasObj [.c (.c (.int .i64 n))]) ι w' (retV (rasVal 0 [.c (.c (.int .i64 n))])) v :=
  ⟨_, ⟨fun _ => .bool true, O, 0, []⟩, rfl, rfl, ⟨hb, Nat.le_refl _, hO, (fun t o h => nomatch (show (([] : List AObj)[t]? = some o) from h)), fun t t' g h => absurd h (Nat.not_lt_zero _)⟩, .p _ _ (.int _ _)⟩

def pvI (x : Int × Unit) : List PV := [.int .i64 x.1]
theorem distinct_spec (l : List (Int × Unit)) (hall : l.all (fun x => in64 x.1) = true) (hbig : l.length < 9223372036854775807) (O : Nat → Prop) (w : World) (v : Value) (hO : ∀ g, O g → g < w.heap.size) (hp : PRel w O (.sl (l.map pvI)) v) :
    Calls Try.prog 36 #[v] w fun e w' => e = .returned (.int .i64 (Int.ofNat (dedupI l []).length)) ∧ Below w.heap.size w w' := by
  have hwf : ∀ n ∈ l.map (·.1), (Lit.int .i64 n).wf = true := fun n hn => by
    obtain ⟨x, hx, rfl⟩ := List.mem_map.1 hn
    have := List.all_eq_true.1 hall x hx
    simp only [in64, Bool.and_eq_true, decide_eq_true_eq] at this
    have h1 : -9223372036854775808 ≤ x.1 := this.1
    have h2 : x.1 ≤ 9223372036854775807 := this.2
    show (decide (IntKind.min .i64 ≤ x.1) && decide (x.1 ≤ IntKind.max .i64)) = true
    rw [show IntKind.min .i64 = -9223372036854775808 from by decide, show IntKind.max .i64 = 9223372036854775807 from by decide, Bool.and_eq_true]
    exact ⟨decide_eq_true h1, decide_eq_true h2⟩
  generalize hes : l.map pvI = es at hp
  cases hp with
  | nil a c =>
    have hl : l = [] := by simpa using hes
    subst hl
    exact Calls.mono (Hand.distinct_none a c w) fun e w' he => he
  | sl _ a n c size u hno hlt hn hc hsz' hcell hr =>
    subst hes
    have hln : n = (l.map (·.1)).length := by rw [hn]; simp
    have hget : ∀ (j : Nat) (x : Int), (l.map (·.1))[j]? = some x → w.cell? (a.add j) = some (.int .i64 x) := fun j x hj => by
      rw [List.getElem?_map, Option.map_eq_some_iff] at hj
      obtain ⟨y, hy, rfl⟩ := hj
      have he : (l.map pvI)[j]? = some [.int .i64 y.1] := by rw [List.getElem?_map, hy]; rfl
      have hs1 : size = 1 := (hsz' j _ he).symm
      subst hs1
      have h3 := hcell j _ he 0 _ rfl
      have h4 := hr j _ he 0 _ rfl
      rw [Nat.mul_one, Nat.add_zero] at h3
      rw [h3]
      generalize u j 0 = z at h4
      cases h4
      rfl
    have hlen : (l.map (·.1)).length = l.length := by simp
    refine Calls.mono (Hand.distinct_any a n c _ w hln (by omega) hlt hget hwf) fun e w' he => ?_
    have := dedup_size l (.map []) [] tidy_empty (fun y => rfl) rfl
    have hD : Hand.Ds (l.map (·.1)) n = (l.map (·.1)).foldl (fun D x => D.put (.int .i64 x) (.lit (.bool true))) (.map []) := by
      unfold Hand.Ds
      rw [hln, List.take_length]
    rw [hD, this] at he
    exact he

theorem ok36 : con36.ok Go.Proofs.Try.prog 36 := by
  intro a r h O w cargs hO hargs
  obtain ⟨l, _⟩ := a
  have h : clauses_distinct_int_ l = some r := h
  unfold clauses_distinct_int_ at h
  obtain ⟨hall, h2⟩ := cond_t h
  obtain rfl := Option.some.inj h2
  rw [Bool.and_eq_true] at hall
  obtain ⟨hsz, hrel⟩ := hargs
  have h1 : cargs.size = 1 := hsz
  obtain ⟨v, rfl⟩ : ∃ v, cargs = #[v] := ⟨cargs[0], by
    apply Array.ext
    · simpa using h1
    · intro i hi _
      have : i = 0 := by omega
      subst this
      rfl⟩
  have hp : PRel w O (.sl (List.map pvI l)) v := by
    have := hrel 0 (.c (.sl (List.map pvI l))) v rfl rfl
    cases this with | c _ _ h => exact h
  refine Calls.mono (distinct_spec l hall.1 (of_decide_eq_true hall.2) O w v hO hp) fun e w' he => ?_
  obtain ⟨rfl, hb⟩ := he
  exact ends hO hb _
end Tg
