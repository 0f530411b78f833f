import Derived.Test.YtdfikojbpojmfaaGreatDoorNI
import Derived.Test.YtdfikojbpojmfaaGreatDoorNH
import Derived.Test.YtdfikojbpojmfaaGreatDoorAbsB4
import Derived.Shelf.Small.Strs
/- The machine's contracts at this program. -/
set_option linter.unusedVariables false
namespace Tn
open Go Go.Abs Go.RowKit Go.Maps Go.Proofs
def spc (n : Nat) : Int := match Nat.ble 9 n && Nat.ble n 13 || Nat.beq n 32 with | true => 1 | false => 0
def tabF (g off : Nat) : Option PV := match g with | 8 => (match Nat.blt off 256 with | true => some (.int .u8 (spc off)) | false => none) | _ => none
instance gtab : GTab := ⟨tabF⟩
theorem tab_stable {w w' : World} (h : Lib.TabIs Tryz.prog w "internal/strconv.uint64pow10" .u64 Lib.pow10Tab) (hb : Below 9 w w') : Lib.TabIs Tryz.prog w' "internal/strconv.uint64pow10" .u64 Lib.pow10Tab := by
  have hgn : Tryz.prog.globalNamed "internal/strconv.uint64pow10" = some 3 := by kernel_rfl
  unfold Lib.TabIs World.var? at h ⊢
  rw [hgn] at h ⊢
  simp only [Option.bind_some] at h ⊢
  rw [hb.block 3 (by decide)]
  exact h
def GT (w : World) : Prop := (∀ off, off < 256 → w.cell? ⟨8, off, none⟩ = some (.int .u8 (spc off))) ∧ Lib.TabIs Tryz.prog w "internal/strconv.uint64pow10" .u64 Lib.pow10Tab ∧ ∃ te pe, w.cell? ⟨1, 0, none⟩ = some (.iface te pe)
instance glob : Glob := ⟨9, GT, fun w w' h hb => ⟨fun off ho => (hb.cell (p := ⟨8, off, none⟩) (Nat.lt_succ_self 8)).trans (h.1 off ho), tab_stable h.2.1 hb, by
  obtain ⟨te, pe, hc⟩ := h.2.2
  exact ⟨te, pe, (hb.cell (p := ⟨1, 0, none⟩) (by decide)).trans hc⟩⟩, fun w h g off x hx => by
  have hx : tabF g off = some x := hx
  unfold tabF at hx
  split at hx
  · split at hx
    · rename_i hlt
      obtain rfl := Option.some.inj hx
      exact ⟨_, h.1 off (by simpa using hlt), fun w' O => .int _ _⟩
    · cases hx
  · cases hx⟩

def dedupI : List Int → List Int → List Int
  | [], acc => acc
  | x :: l, acc => dedupI l (if acc.contains x then acc else acc ++ [x])
def intsOf : List (List PV) → Option (List Int)
  | [] => some []
  | [.int .i64 n] :: l => match intsOf l with | some r => some (n :: r) | none => none
  | _ :: _ => none
def chsOf : List (List PV) → Option (List Ch)
  | [] => some []
  | [.int .i64 a, .int .i64 b, .int .i64 c, .int .i64 d, .int .i64 e] :: l => match chsOf l with | some r => some ((a, b, c, d, e) :: r) | none => none
  | _ :: _ => none
def distinctK (es : List (List PV)) : Option (List RA) := match intsOf es with
  | some l => match l.all (fun n => decide (-1000000 ≤ n) && decide (n ≤ 1000000)) && Nat.ble es.length 1000000 with
    | true => some [.c (.c (.int .i64 (Int.ofNat (dedupI l []).length)))]
    | false => none
  | none => none
def orderK (ops chs : List (List PV)) : Option (List RA) := match chsOf chs with
  | some ch => match ch.all (fun c => decide (0 ≤ c.2.2.1) && decide (c.2.2.1 ≤ 1000)) && (Nat.ble ops.length 64 && (Nat.ble chs.length 256 && Nat.blt 0 chs.length)) with
    | true => match orderW ch (ops.length + chs.length + 1) (incsW ch (zer ops.length)) [] with
      | some l => some [.c (.s 3 1 (l.map fun n => [.int .i64 n]))]
      | none => none
    | false => none
  | none => none
def tabC : List (FuncId × Nat × Nat × Nat × List AV) := [
  (51, 130, 5, 40, [.p (.int .u8 0), .p (.int .i64 0), .p (.int .i64 0), .p (.int .i64 0), .p (.int .i64 0)]),
  (52, 3, 1, 8, [.p (.int .i64 0)]),
  (95, 180, 5, 40, [.p (.bool false), .p (.int .i64 0), .p (.int .i64 0), .p (.int .i64 0), .p (.int .i64 0)])]
def cloneAt (f : FuncId) (es : List (List PV)) : List (FuncId × Nat × Nat × Nat × List AV) → Option (List RA)
  | [] => none
  | q :: r => match Nat.beq q.1 f with
    | true => match es.all (fun x => Nat.beq x.length q.2.2.1) && (Nat.ble (es.length * q.2.2.2.1) maxBytes && Nat.ble es.length maxLen) with
      | true => some [.c (.s q.2.1 q.2.2.1 es)]
      | false => none
    | false => cloneAt f es r
def K1 (f : FuncId) (pas : List PA) : Option (List RA) := match Nat.beq f 38 with | true => formatK pas | false => match Nat.beq f 25 with | true => itoaK pas | false => match Nat.beq f 135 with | true => countK pas | false => match Nat.beq f 103 with | true => indexK pas | false => match Nat.beq f 104 with | true => indexK pas | false => match Nat.beq f 23 with | true => joinK pas | false => match Nat.beq f 35 with | true => atoiK pas | false => match Nat.beq f 99 with | true => parseK pas | false => none
def K0 (f : FuncId) (pas : List PA) : Option (List RA) :=
  match pas with
  | [.c (.sl es)] => match Nat.beq f 162 with
    | true => distinctK es
    | false => cloneAt f es tabC
  | [.a [.sl ops, .sl chs]] => match Nat.beq f 44 with
    | true => orderK ops chs
    | false => none
  | [.c (.str s), .c (.int .u8 c)] => match Nat.beq f 65 with
    | true => some [.c (.c (.int .i64 (Lib.indexByte s c.toNat.toUInt8)))]
    | false => none
  | _ => K1 f pas

theorem tabC_ok : ∀ q ∈ tabC, compFun Tryz.prog q.1 = some (cloneAF q.2.1 q.2.2.1 q.2.2.2.1 q.2.2.2.2) ∧ q.2.2.2.2.length = q.2.2.1 ∧ 0 < q.2.2.1 := by
  intro q hq
  simp only [tabC, List.mem_cons, List.not_mem_nil, or_false] at hq
  rcases hq with rfl | rfl | rfl
  all_goals exact ⟨by kernel_rfl, rfl, by decide⟩
theorem sizes_lift {size : Nat} {es : List (List PV)} (h : es.all (fun x => Nat.beq x.length size) = true) : sizesOk size (es.map (·.map AV.p)) = true := by
  simp only [sizesOk, List.all_map, List.all_eq_true] at h ⊢
  intro x hx
  have := h x hx
  simp only [Function.comp_apply, List.length_map, Bool.and_eq_true, List.all_eq_true, List.mem_map, forall_exists_index, and_imp, forall_apply_eq_imp_iff₂]
  exact ⟨by simpa using this, fun a _ => rfl⟩
theorem cloneAt_sound {f : FuncId} {es : List (List PV)} {rs : List RA} : ∀ {l : List (FuncId × Nat × Nat × Nat × List AV)}, (∀ q ∈ l, q ∈ tabC) → cloneAt f es l = some rs → Spec Tryz.prog f [.c (.sl es)] rs
  | [], _, h => by cases h
  | q :: r, hl, h => by
    simp only [cloneAt] at h
    split at h
    · rename_i hf
      split at h
      · rename_i hc
        simp only [Bool.and_eq_true] at hc
        obtain rfl := Option.some.inj h
        obtain ⟨h1, h2, h3⟩ := tabC_ok q (hl q (List.mem_cons_self ..))
        have e : q.1 = f := Nat.eq_of_beq_eq_true hf
        rw [e] at h1
        exact Spec_clone h1 h2 h3 (sizes_lift hc.1) (by simpa using hc.2.1) (by simpa using hc.2.2)
      · cases h
    · exact cloneAt_sound (fun x hx => hl x (List.mem_cons_of_mem _ hx)) h
theorem args1 {w : World} {O : Nat → Prop} {a : PV} {cargs : Array Value} (h : PARels w O [.c a] cargs) : ∃ u, cargs = #[u] ∧ PRel w O a u := by
  obtain ⟨h1, h2⟩ := h
  obtain ⟨l⟩ := cargs
  match l, h1 with
  | [u], _ =>
    have e1 := h2 0 _ u rfl rfl
    cases e1 with | c _ _ e1 => exact ⟨u, rfl, e1⟩
theorem args2 {w : World} {O : Nat → Prop} {a b : PV} {cargs : Array Value} (h : PARels w O [.c a, .c b] cargs) : ∃ u v, cargs = #[u, v] ∧ PRel w O a u ∧ PRel w O b v := by
  obtain ⟨h1, h2⟩ := h
  obtain ⟨l⟩ := cargs
  match l, h1 with
  | [u, v], _ =>
    have e1 := h2 0 _ u rfl rfl
    have e2 := h2 1 _ v rfl rfl
    cases e1 with | c _ _ e1 => cases e2 with | c _ _ e2 => exact ⟨u, v, rfl, e1, e2⟩
theorem argsA2 {w : World} {O : Nat → Prop} {a b : PV} {cargs : Array Value} (h : PARels w O [.a [a, b]] cargs) : ∃ u v, cargs = #[.agg #[u, v]] ∧ PRel w O a u ∧ PRel w O b v := by
  obtain ⟨h1, h2⟩ := h
  obtain ⟨l⟩ := cargs
  match l, h1 with
  | [u], _ =>
    have e1 := h2 0 _ u rfl rfl
    cases e1 with
    | a _ vs hl hr =>
      obtain ⟨vs⟩ := vs
      match vs, hl with
      | [x, y], _ => exact ⟨x, y, rfl, hr 0 _ x rfl rfl, hr 1 _ y rfl rfl⟩
theorem intsOf_eq : ∀ {es : List (List PV)} {l : List Int}, intsOf es = some l → es = l.map fun n => [.int .i64 n]
  | [], l, h => by obtain rfl := Option.some.inj h; rfl
  | e :: es, l, h => by
    unfold intsOf at h
    split at h
    · rename_i heq; cases heq
    · rename_i n l' heq
      obtain ⟨rfl, rfl⟩ := List.cons.inj heq
      split at h
      · rename_i r hr
        obtain rfl := Option.some.inj h
        rw [intsOf_eq hr]; rfl
      · cases h
    · cases h
def chPV (c : Ch) : List PV := [.int .i64 c.1, .int .i64 c.2.1, .int .i64 c.2.2.1, .int .i64 c.2.2.2.1, .int .i64 c.2.2.2.2]
theorem chsOf_eq : ∀ {es : List (List PV)} {l : List Ch}, chsOf es = some l → es = l.map chPV
  | [], l, h => by obtain rfl := Option.some.inj h; rfl
  | e :: es, l, h => by
    unfold chsOf at h
    split at h
    · rename_i heq; cases heq
    · rename_i a b c d e' l' heq
      obtain ⟨rfl, rfl⟩ := List.cons.inj heq
      split at h
      · rename_i r hr
        obtain rfl := Option.some.inj h
        rw [chsOf_eq hr]; rfl
      · cases h
    · cases h
theorem dedup_size : ∀ (l : List Int) (D : DataW Unit) (acc : List Int), Tidy D → (∀ y, has D (.int .i64 y) = acc.contains y) → Maps.size D = acc.length →
    Maps.size (l.foldl (fun D x => D.put (.int .i64 x) (.lit (.bool true))) D) = (dedupI l acc).length
  | [], D, acc, _, _, hs => hs
  | x :: l, D, acc, ht, hh, hs => by
    have hk : WideAt.IsKeyLit (.int .i64 x) := trivial
    simp only [List.foldl_cons, dedupI]
    refine dedup_size l _ _ (ht.put hk _) (fun y => ?_) ?_
    · by_cases e : y = x
      · subst e
        rw [has_put_same ht.isMap hk]
        split
        · rename_i h; exact h.symm
        · simp
      · rw [has_put_other (by simpa using e), hh y]
        split
        · rfl
        · simp [e]
    · rw [size_put ht, hh x, hs]
      split
      · rfl
      · simp
theorem distinctK_sound {es : List (List PV)} {rs : List RA} (h : distinctK es = some rs) : Spec Tryz.prog 162 [.c (.sl es)] rs := by
  unfold distinctK at h
  split at h
  · rename_i l hl
    split at h
    · rename_i hc
      obtain rfl := Option.some.inj h
      simp only [Bool.and_eq_true] at hc
      have hes := intsOf_eq hl
      have hlen : l.length ≤ 1000000 := by
        have := hc.2
        rw [hes] at this
        simpa using this
      have hwf : ∀ n ∈ l, (Lit.int .i64 n).wf = true := fun n hn => by
        have := List.all_eq_true.1 hc.1 n hn
        simp only [Bool.and_eq_true, decide_eq_true_eq] at this
        exact wf_small this.1 this.2
      refine Spec.still (v := .int .i64 (Int.ofNat (dedupI l []).length)) (fun w O => .int _ _) fun O w cargs _ hp => ?_
      obtain ⟨u, rfl, h1⟩ := args1 hp
      have hD : ∀ n, n = l.length → Ds l n = l.foldl (fun D x => D.put (.int .i64 x) (.lit (.bool true))) (.map []) := fun n hn => by
        unfold Ds
        rw [hn, List.take_length]
      have hs := dedup_size l (.map []) [] tidy_empty (fun y => rfl) rfl
      cases h1 with
      | nil a c =>
        have : l = [] := by
          have := hes.symm
          simpa using this
        subst this
        exact (distinct_none a c w).mono fun e w' he => he
      | sl _ a n c size u hno hlt hn hc' hsz' hcell hr =>
        have hln : n = l.length := by rw [hn, hes]; simp
        refine (distinct_any a n c l w hln (by omega) hlt (fun j x hx => ?_) hwf).mono fun e w' he => ?_
        · have he : es[j]? = some [.int .i64 x] := by rw [hes, List.getElem?_map, hx]; rfl
          have hs1 : size = 1 := (hsz' j _ he).symm
          subst hs1
          have h3 := hcell j _ he 0 _ rfl
          have h4 := hr j _ he 0 _ rfl
          rw [Nat.mul_one, Nat.add_zero] at h3
          rw [h3]
          generalize u j 0 = z at h4
          cases h4
          rfl
        · rw [hD n hln, hs] at he
          exact he
    · cases h
  · cases h
theorem orderK_sound {ops chs : List (List PV)} {rs : List RA} (h : orderK ops chs = some rs) : Spec Tryz.prog 44 [.a [.sl ops, .sl chs]] rs := by
  unfold orderK at h
  split at h
  · rename_i ch hch
    split at h
    · rename_i hc
      split at h
      · rename_i l hl
        obtain rfl := Option.some.inj h
        simp only [Bool.and_eq_true] at hc
        obtain ⟨hc1, hc2, hc3, hc4⟩ := hc
        have hchs := chsOf_eq hch
        have hcl : chs.length = ch.length := by rw [hchs]; simp
        refine Spec.rowI fun O w cargs _ hp => ?_
        obtain ⟨u, v, rfl, h1, h2⟩ := argsA2 hp
        obtain ⟨ao, co, rfl⟩ : ∃ ao co, u = .slice ao ops.length co := by
          cases h1 with
          | nil a c => exact ⟨a, c, rfl⟩
          | sl _ a n c size u hno hlt hn hc' hsz' hcell hr => exact ⟨some a, c, by rw [hn]⟩
        cases h2 with
        | nil a c => simp at hc4
        | sl _ a n c size u hno hlt hn hc' hsz' hcell hr =>
          have hget : ∀ (j : Nat) (x : Ch), ch[j]? = some x → ∀ (i : Nat) (y : Int), (chPV x)[i]? = some (.int .i64 y) → w.cell? (a.add (j * 5 + i)) = some (.int .i64 y) := fun j x hx i y hy => by
            have he : chs[j]? = some (chPV x) := by rw [hchs, List.getElem?_map, hx]; rfl
            have hs1 : size = 5 := (hsz' j _ he).symm
            subst hs1
            have h3 := hcell j _ he i _ hy
            have h4 := hr j _ he i _ hy
            rw [h3]
            generalize u j i = z at h4
            cases h4
            rfl
          have hspot : a.spot = none := by
            have h0 : 0 < ch.length := by rw [← hcl]; simpa using hc4
            have := hget 0 ch[0] (List.getElem?_eq_getElem h0) 0 _ rfl
            have e : a.add (0 * 5 + 0) = a := by simp [Addr.add]
            rw [e] at this
            unfold World.cell? at this
            split at this
            · split at this
              · cases this
              · rename_i hh; simpa using hh
            · cases this
          obtain ⟨b, off, sp⟩ := a
          simp only at hspot
          subst hspot
          refine (order_any ao b off ops.length co n c ch w (by simpa using hc2) (by rw [hn, hcl]) (by rw [hn]; simpa using hc3) ⟨hlt, rfl, fun j x hx => ?_⟩ (fun x hx => ?_) l (by rw [hn]; exact hl)).mono fun e w' he => he
          · have g := fun i y hy => hget j x hx i y hy
            have g0 := g 0 _ rfl
            have g1 := g 1 _ rfl
            have g2 := g 2 _ rfl
            have g3 := g 3 _ rfl
            have g4 := g 4 _ rfl
            rw [Addr.add_lit] at g0 g1 g2 g3 g4
            exact ⟨g0, g1, g2, g3, g4⟩
          · have := List.all_eq_true.1 hc1 x hx
            simp only [Bool.and_eq_true, decide_eq_true_eq] at this
            exact this
      · cases h
    · cases h
  · cases h
theorem indexLK_sound {P : Program} {ρ : Go.Shelf.Ren} (L : Lays.n219 P ρ) {pas : List PA} {rs : List RA} (h : indexK pas = some rs) : Spec P (ρ.f 219) pas rs := by
  unfold indexK at h
  split at h
  · rename_i s c
    obtain rfl := Option.some.inj h
    refine Spec.still (v := .int .i64 (Lib.indexByte s c)) (fun w O => .int _ _) fun O w cargs hg hp => ?_
    obtain ⟨u, v, rfl, h1, h2⟩ := arg_2 hp
    cases h1
    cases h2
    exact (Any.stringslite_Index_one L ⟨s.toArray⟩ c w).mono fun e w' he => ⟨he.1, by rw [he.2]; exact Below.refl _ _⟩
  · cases h
theorem K1_sound : ∀ f pas rs, K1 f pas = some rs → Spec Tryz.prog f pas rs := by
  intro f pas rs h
  unfold K1 at h
  split at h
  · rename_i hf
    obtain rfl : f = 38 := Nat.eq_of_beq_eq_true hf
    exact formatK_sound (ρ := Tryz.laysM173_ren) Tryz.laysM173 (fun w (hg : GlobOk w.heap.size w) => (show GT w from hg.2).2.1) h
  split at h
  · rename_i hf
    obtain rfl : f = 25 := Nat.eq_of_beq_eq_true hf
    exact itoaK_sound (ρ := Tryz.laysM171_ren) Tryz.laysM171 (fun w (hg : GlobOk w.heap.size w) => (show GT w from hg.2).2.1) h
  split at h
  · rename_i hf
    obtain rfl : f = 135 := Nat.eq_of_beq_eq_true hf
    exact countK_sound (ρ := Tryz.lays138_ren) Tryz.lays138 h
  split at h
  · rename_i hf
    obtain rfl : f = 103 := Nat.eq_of_beq_eq_true hf
    exact indexK_sound (ρ := Tryz.lays143_ren) Tryz.lays143 h
  split at h
  · rename_i hf
    obtain rfl : f = 104 := Nat.eq_of_beq_eq_true hf
    exact indexLK_sound (ρ := Tryz.lays219_ren) Tryz.lays219 h
  split at h
  · rename_i hf
    obtain rfl : f = 23 := Nat.eq_of_beq_eq_true hf
    exact joinK_sound (ρ := Tryz.lays156_ren) Tryz.lays156 Tryz.Builder_Extra_156 h
  split at h
  · rename_i hf
    obtain rfl : f = 35 := Nat.eq_of_beq_eq_true hf
    exact atoiK_sound (ρ := Tryz.laysC172_ren) Tryz.laysC172 (fun w (hg : GlobOk w.heap.size w) => (show GT w from hg.2).2.2) h
  split at h
  · rename_i hf
    obtain rfl : f = 99 := Nat.eq_of_beq_eq_true hf
    exact parseK_sound (ρ := Tryz.laysC174_ren) Tryz.laysC174 (fun w (hg : GlobOk w.heap.size w) => (show GT w from hg.2).2.2) h
  cases h
theorem K0_sound : ∀ f pas rs, K0 f pas = some rs → Spec Tryz.prog f pas rs := by
  intro f pas rs h
  unfold K0 at h
  split at h
  · split at h
    · rename_i hf
      obtain rfl : f = 162 := Nat.eq_of_beq_eq_true hf
      exact distinctK_sound h
    · exact cloneAt_sound (fun q hq => hq) h
  · split at h
    · rename_i hf
      obtain rfl : f = 44 := Nat.eq_of_beq_eq_true hf
      exact orderK_sound h
    · cases h
  · split at h
    · rename_i s c _ hf
      obtain rfl : f = 65 := Nat.eq_of_beq_eq_true hf
      obtain rfl := Option.some.inj h
      refine Spec.still (v := .int .i64 (Lib.indexByte s c.toNat.toUInt8)) (fun w O => .int _ _) fun O w cargs _ hp => ?_
      obtain ⟨u, v, rfl, h1, h2⟩ := args2 hp
      cases h1
      cases h2
      exact (Any.strings_IndexByte (ρ := Tryz.lays137_ren) Tryz.lays137 ⟨_⟩ _ w).mono fun e w' he => ⟨he.1, by rw [he.2]; exact Below.refl _ _⟩
    · cases h
  · exact K1_sound _ _ _ h
def loneL : List Nat := [4, 5, 6, 7, 8, 9, 10, 11, 12, 13, 14, 15, 16, 18, 21, 22, 23, 24, 25, 26, 27, 29, 30, 34, 35, 36, 38, 44, 46, 47, 49, 50, 51, 52, 65, 66, 67, 71, 72, 81, 95, 98, 99, 103, 104, 105, 116, 117, 135, 140, 152, 154, 155, 162, 182, 201, 202, 203]
def fzL' : List Nat := [4, 5, 6, 7, 8, 9, 10, 11, 12, 13, 14, 15, 16, 18, 21, 22, 24, 26, 27, 29, 36, 46, 47, 49, 50, 67, 81, 116, 117, 152, 154, 155]
def hL (f : FuncId) : Option (List AV → GR → Option (AV × List (Nat × AObj))) := match Nat.beq f 39 with | true => some (bldCC 77) | false => match Nat.beq f 20 with | true => some (bldStr 77 5) | false => none
noncomputable def VN (tab : List (FuncId × List PA × List RA)) : VP :=
  { K := fun f pas => match K0 f pas with | some rs => some rs | none => lookK f pas tab, F := compFun Tryz.prog, cb := fun f => callable Tryz.prog f, lone := fun f => loneL.any (fun g => Nat.beq g f), fz := fun f => fzL'.any (fun g => Nat.beq g f), H := hL }
def rounds : Nat := 100000
set_option maxRecDepth 100000 in
theorem fact {tab : List (FuncId × List PA × List RA)} (ht : TOK Tryz.prog tab) {f : FuncId} {pas : List PA} {rs : List RA} (h : vcall (VN tab) rounds 6 f pas = some rs) : Spec Tryz.prog f pas rs :=
  vcall_sound (V := VN tab) (fun f hf h avs hp y ups hy => by
    have h : hL f = some hf := h
    unfold hL at h
    split at h
    · rename_i hf'
      obtain rfl : f = 39 := Nat.eq_of_beq_eq_true hf'
      obtain rfl := Option.some.inj h
      exact bldCC_sound (ρ := Tryz.lays240_ren) Tryz.lays240 Tryz.builderX hy
    · split at h
      · rename_i hf'
        obtain rfl : f = 20 := Nat.eq_of_beq_eq_true hf'
        obtain rfl := Option.some.inj h
        exact bldStr_sound (ρ := Tryz.lays169_ren) Tryz.lays169 Tryz.Builder_Extra_169 hy
      · cases h) (fun f pas rs h => by
    have h : (match K0 f pas with | some rs => some rs | none => lookK f pas tab) = some rs := h
    split at h
    · rename_i rs' hk
      obtain rfl := Option.some.inj h
      exact K0_sound _ _ _ hk
    · exact ht.mem _ (lookK_mem h)) (fun f af h => h) (fun f h => h) rounds 6 f pas rs h
end Tn
