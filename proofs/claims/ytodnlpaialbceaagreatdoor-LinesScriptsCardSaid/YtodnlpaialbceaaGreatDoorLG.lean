import Derived.Test.YtodnlpaialbceaaGreatDoorlgT
import Derived.Test.YtodnlpaialbceaaGreatDoorHS
import Derived.Test.YtodnlpaialbceaaGreatDoorWK
import Derived.Test.YtodnlpaialbceaaGreatDoorWG
import Derived.Test.YtodnlpaialbceaaGreatDoorG2
import Derived.Test.YtodnlpaialbceaaGreatDoorQS
/- lines.Graph, as the machine takes it: from its walk. -/
set_option linter.unusedVariables false
set_option linter.unusedSimpArgs false
namespace Tg
open Go Go.Abs Go.RowKit Go.Proofs
theorem slAtJ {α : Type} {w : World} {O : Nat → Prop} {sz : Nat} {f : α → List Value} {g : α → List PV} {xs : List α} {v : Value} (hf : ∀ x, (g x).length = sz) (hfg : ∀ (x : α) (w : World) (O : Nat → Prop) (i : Nat) (v : Value) (p : PV), (f x)[i]? = some v → (g x)[i]? = some p → ∀ u, PRel w O p u → u = v) (hlen : ∀ x, (f x).length = (g x).length) (h : PRel w O (.sl (xs.map g)) v) : ∃ a n c, v = .slice a n c ∧ Tj.SlAt w sz f a n xs := by
  generalize hes : xs.map g = es at h
  cases h with
  | nil a c =>
    have : xs = [] := by simpa using hes
    subst this
    exact ⟨a, 0, c, rfl, rfl, fun j x hj => by simp at hj⟩
  | sl _ a n c size u hno hlt hn hc hsz hcell hr =>
    refine ⟨some a, n, c, rfl, by rw [hn, ← hes, List.length_map], fun j x hj => ⟨a, rfl, hlt, fun i y hy => ?_⟩⟩
    have he : es[j]? = some (g x) := by rw [← hes, List.getElem?_map, hj]; rfl
    have h1 : size = sz := by rw [← hsz j _ he, hf]
    subst h1
    have hi : i < (g x).length := by rw [hf, ← hf x, ← hlen x]; exact (List.getElem?_eq_some_iff.1 hy).1
    have h2 := hcell j _ he i _ (List.getElem?_eq_getElem hi)
    rw [h2, hfg x w O i y _ hy (List.getElem?_eq_getElem hi) _ (hr j _ he i _ (List.getElem?_eq_getElem hi))]
def opP (r : Op) : List PV := [.int .u8 r.1, .int .i64 r.2.1]
def chP (r : Cn) : List PV := [.int .i64 r.1, .int .i64 r.2.1, .int .i64 r.2.2.1, .int .i64 r.2.2.2.1, .int .i64 r.2.2.2.2.1]
theorem chP_ok (x : Cn) (w : World) (O : Nat → Prop) (i : Nat) (v : Value) (p : PV) (h1 : (Tj.chC x)[i]? = some v) (h2 : (chP x)[i]? = some p) (u : Value) (h : PRel w O p u) : u = v := by
  match i, h1, h2 with
  | 0, h1, h2 => cases h1; cases h2; cases h; rfl
  | 1, h1, h2 => cases h1; cases h2; cases h; rfl
  | 2, h1, h2 => cases h1; cases h2; cases h; rfl
  | 3, h1, h2 => cases h1; cases h2; cases h; rfl
  | 4, h1, h2 => cases h1; cases h2; cases h; rfl
  | i + 5, h1, h2 => simp [Tj.chC] at h1
theorem opP_ok (x : Op) (w : World) (O : Nat → Prop) (i : Nat) (v : Value) (p : PV) (h1 : (Tj.opC x)[i]? = some v) (h2 : (opP x)[i]? = some p) (u : Value) (h : PRel w O p u) : u = v := by
  match i, h1, h2 with
  | 0, h1, h2 => cases h1; cases h2; cases h; rfl
  | 1, h1, h2 => cases h1; cases h2; cases h; rfl
  | i + 2, h1, h2 => simp [Tj.opC] at h1
theorem slAt_below {α : Type} {w w1 : World} {sz n : Nat} {f : α → List Value} {a : Option Addr} {xs : List α} (h : Tj.SlAt w sz f a n xs) (hb : Below w.heap.size w w1) : Tj.SlAt w1 sz f a n xs :=
  ⟨h.1, fun j x hj => by
    obtain ⟨b, e, hlt, hc⟩ := h.2 j x hj
    refine ⟨b, e, Nat.lt_of_lt_of_le hlt hb.size, fun i v hi => ?_⟩
    exact (hb.cell (p := b.add (j * sz + i)) (by rw [block_of_add]; exact hlt)).trans (hc i v hi)⟩
theorem sp11 (ops : List Op) (chs : List Cn) (m1 : ops.length ≤ 4611686018427387904) (m2 : chs.length ≤ 4611686018427387904) (r : List UInt8 × Int × Unit) (hr : r = bif gChk (ops, chs, ()) != 0 then ([], gChk (ops, chs, ()), ()) else (graphT (ops, chs, ()), 0, ())) :
    Spec Tryz.prog 11 [.a [.sl (ops.map opP), .sl (chs.map chP)]] [.c (.c (.str r.1)), .c (.c (.int .i64 r.2.1))] := by
  refine Spec.still2 (v := .string ⟨r.1.toArray⟩) (u := .int .i64 r.2.1) (fun w O => .str _) (fun w O => .int _ _) fun O w cargs hg hp => ?_
  obtain ⟨u, v, rfl, h1, h2⟩ : ∃ u v, cargs = #[.agg #[u, v]] ∧ PRel w O (.sl (ops.map opP)) u ∧ PRel w O (.sl (chs.map chP)) v := by
    obtain ⟨h1, h2⟩ := hp
    obtain ⟨l⟩ := cargs
    match l, h1 with
    | [u], _ =>
      have e1 := h2 0 _ u rfl rfl
      cases e1 with
      | a _ vs hl hr =>
        obtain ⟨vs⟩ := vs
        match vs, hl with
        | [x, y], _ => exact ⟨x, y, rfl, hr 0 _ x rfl rfl, hr 1 _ y rfl rfl⟩
  obtain ⟨a1, n1, c1, rfl, g1⟩ := slAtJ (f := Tj.opC) (sz := 2) (fun _ => rfl) (fun x w O i v p a b u hu => opP_ok x w O i v p a b u hu) (fun _ => rfl) h1
  obtain ⟨a2, n2, c2, rfl, g2⟩ := slAtJ (f := Tj.chC) (sz := 5) (fun _ => rfl) (fun x w O i v p a b u hu => chP_ok x w O i v p a b u hu) (fun _ => rfl) h2
  have e1 := g1.1
  have e2 := g2.1
  have hchk : ∀ w1, Below w.heap.size w w1 → Calls Tryz.prog 30 #[.agg #[.slice a1 n1 c1, .slice a2 n2 c2]] w1 fun e w' => e = .returned (.int .i64 (gChk (ops, chs, ()))) ∧ Below w1.heap.size w1 w' := fun w1 hb => by
    have := Tj.check_any a1 a2 n1 n2 c1 c2 ops chs w1 (by omega) (by omega) (slAt_below g1 hb) (slAt_below g2 hb)
    rwa [Tj.gchk_eq] at this
  subst hr
  by_cases hz : gChk (ops, chs, ()) = 0
  · obtain ⟨l1, l2, hok⟩ := gchk_zero hz
    rw [hz] at hchk ⊢
    simp only at l1 l2
    refine Tj.graph_ok a1 a2 n1 n2 c1 c2 ops chs w (by omega) (by omega) g1 g2 (gok_ops hok) (fun c hc => ?_) hg.2.1 hchk
    obtain ⟨⟨b0, b1⟩, ⟨b2, b3⟩, ⟨b4, b5⟩, ⟨b6, b7⟩, b8, b9⟩ := gok_chs hok l1 l2 c hc
    simp only [Tj.ChIn, in64, Bool.and_eq_true, decide_eq_true_eq]
    omega
  · have hb : (gChk (ops, chs, ()) != 0) = true := by simpa using hz
    rw [hb]
    exact Tj.graph_bad a1 a2 n1 n2 c1 c2 _ hz w hchk
def con11 : TCon := ⟨[.a [.sl [.int .u8, .int .i64], .sl [.int .i64, .int .i64, .int .i64, .int .i64, .int .i64]]], [.c (.p .str), .c (.p (.int .i64))], fun a => lines_Graph a.1⟩
theorem cb11 : callable Tryz.prog 11 = true := by kernel_rfl
theorem ok11 : con11.ok Tryz.prog 11 := fun a r h => by
  obtain ⟨⟨ops, chs, u⟩, u'⟩ := a
  have key : ∀ (x : Gr) (r : List UInt8 × Int × Unit), lines_Graph x = some r → Spec Tryz.prog 11 [.a [.sl (x.1.map opP), .sl (x.2.1.map chP)]] [.c (.c (.str r.1)), .c (.c (.int .i64 r.2.1))] := fun x r h => by
    unfold lines_Graph at h
    obtain ⟨hc, h⟩ := cond_t h
    rw [Bool.and_eq_true] at hc
    exact sp11 x.1 x.2.1 (of_decide_eq_true hc.1) (of_decide_eq_true hc.2) r (Option.some.inj h).symm
  exact key (ops, chs, ()) r h
end Tg
