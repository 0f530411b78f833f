import Derived.Test.YtodnlpaialbceaaGreatDoorlpB0
import Derived.Test.YtodnlpaialbceaaGreatDoorPS
import Derived.Test.YtodnlpaialbceaaGreatDoorWT
/- lines.Outputs, as the machine takes it: from its walk. -/
set_option linter.unusedVariables false
set_option linter.unusedSimpArgs false
namespace Tg
open Go Go.Abs Go.RowKit Go.Proofs
theorem raw57 {kd k t v a b c d e f r : Int} (h : message_Check (kd, k, t, v, a, b, c, d, e, f, ()) = some (r, ())) (w : World) (hg : GlobOk w.heap.size w) :
    Calls Tryz.prog 57 #[Tw.msg kd k t v a b c d e f] w fun x w' => x = .returned (.int .i64 r) ∧ Below w.heap.size w w' := by
  refine (ok57 ((kd, k, t, v, a, b, c, d, e, f, ()), ()) (r, ()) h (fun _ => False) w #[Tw.msg kd k t v a b c d e f] (fun g hg => hg.elim) hg ⟨rfl, fun i x y hx hy => ?_⟩).mono ?_
  · match i, hx, hy with
    | 0, hx, hy =>
     have hx : x = .a [.int .u8 kd, .int .i64 k, .int .i64 t, .int .i64 v, .int .i64 a, .int .i64 b, .int .i64 c, .int .i64 d, .int .i64 e, .int .i64 f] := (Option.some.inj hx).symm
     have hy : y = Tw.msg kd k t v a b c d e f := (Option.some.inj hy).symm
     subst hx
     subst hy
     refine .a _ _ rfl fun j p q hp hq => ?_
     match j, hp, hq with
     | 0, hp, hq => cases hp; cases hq; exact .int _ _
     | 1, hp, hq => cases hp; cases hq; exact .int _ _
     | 2, hp, hq => cases hp; cases hq; exact .int _ _
     | 3, hp, hq => cases hp; cases hq; exact .int _ _
     | 4, hp, hq => cases hp; cases hq; exact .int _ _
     | 5, hp, hq => cases hp; cases hq; exact .int _ _
     | 6, hp, hq => cases hp; cases hq; exact .int _ _
     | 7, hp, hq => cases hp; cases hq; exact .int _ _
     | 8, hp, hq => cases hp; cases hq; exact .int _ _
     | 9, hp, hq => cases hp; cases hq; exact .int _ _
     | j + 10, hp, hq => simp at hp
    | i + 1, hx, hy => cases hx
  · rintro x w' ⟨v, ι, rfl, _, hh, hv⟩
    have hv : VR [] ι w' (.p (.int .i64 r)) v := hv
    have : v = .int .i64 r := by
     cases hv with | p _ _ hp => cases hp; rfl
    subst this
    exact ⟨rfl, hh.below⟩
def tOf (m : List Value) : List UInt8 × Int := match m with
 | [.int .u8 kd, .int .i64 k, .int .i64 t, .int .i64 v, .int .i64 a, .int .i64 b, .int .i64 c, .int .i64 d, .int .i64 e, .int .i64 f] =>
  if kd = 3 then (bif rowOk (b, c, d, e, f, ()) then (rowT (b, c, d, e, f, ()), 0) else ([], 8)) else (bif recOk (k, t, v, ()) then (recT (k, t, v, ()), 0) else ([], 8))
 | _ => ([], 8)
theorem numsF_eq : ∀ l : List Int, (∀ n ∈ l, Tw.okI n) → numsF l = Tw.nums l
 | [], _ => rfl
 | n :: l, h => by
  have h1 := h n (by simp)
  have h2 := numsF_eq l fun m hm => h m (by simp [hm])
  unfold numsF Tw.nums at h2 ⊢
  rw [List.flatMap_cons, List.flatMap_cons, h2, itoaF_eq h1.1 h1.2]
theorem tOf_row (r : Rw) : tOf (Tw.msgR r) = bif rowOk r then (rowT r, 0) else ([], 8) := rfl
theorem tOf_rec (r : Rc) : tOf (Tw.msgL r) = bif recOk r then (recT r, 0) else ([], 8) := rfl
theorem rowIn_s {r : Rw} (h : rowIn r = true) : ∀ n ∈ [r.1, r.2.1, r.2.2.1, r.2.2.2.1, r.2.2.2.2.1], Tw.okI n := by
 simp only [rowIn, Bool.and_eq_true] at h
 intro n hn
 simp only [List.mem_cons, List.not_mem_nil, or_false] at hn
 rcases hn with rfl | rfl | rfl | rfl | rfl
 · exact in64_s h.1
 · exact in64_s h.2.1
 · exact in64_s h.2.2.1
 · exact in64_s h.2.2.2.1
 · exact in64_s h.2.2.2.2
theorem recIn_s {r : Rc} (h : recIn r = true) : ∀ n ∈ [r.1, r.2.1, r.2.2.1], Tw.okI n := by
 simp only [recIn, Bool.and_eq_true] at h
 intro n hn
 simp only [List.mem_cons, List.not_mem_nil, or_false] at hn
 rcases hn with rfl | rfl | rfl
 · exact in64_s h.1
 · exact in64_s h.2.1
 · exact in64_s h.2.2
theorem below_glob {w w' : World} (hg : GlobOk w.heap.size w) (hb : Below w.heap.size w w') : GlobOk w'.heap.size w' :=
 ⟨Nat.le_trans hg.1 hb.size, Glob.stable w w' hg.2 (hb.mono hg.1)⟩
theorem valK_row (r : Rw) : valK 3 0 0 0 0 r.1 r.2.1 r.2.2.1 r.2.2.2.1 r.2.2.2.2.1 = rowOk r := by
 simp [valK, rowOk]
theorem valK_rec (r : Rc) : valK 4 r.1 r.2.1 r.2.2.1 0 0 0 0 0 0 = recOk r := by
 simp [valK, recOk]
theorem text_row' (r : Rw) (hi : rowIn r = true) (w : World) (hg : GlobOk w.heap.size w) : (tOf (Tw.msgR r)).1.length ≤ 150 ∧ Calls Tryz.prog 40 #[.agg (Tw.msgR r).toArray] w fun e w'' => e = .returned (.tuple #[.string ⟨(tOf (Tw.msgR r)).1.toArray⟩, .int .i64 (tOf (Tw.msgR r)).2]) ∧ Below w.heap.size w w'' := by
 have hin := rowIn_s hi
 rw [tOf_row]
 have hc := check_eq (3, 0, 0, 0, 0, r.1, r.2.1, r.2.2.1, r.2.2.2.1, r.2.2.2.2.1, ())
 rw [show valM (3, 0, 0, 0, 0, r.1, r.2.1, r.2.2.1, r.2.2.2.1, r.2.2.2.2.1, ()) = rowOk r from valK_row r] at hc
 cases hr : rowOk r with
 | true =>
  rw [hr] at hc
  have hl := Tw.nums_len hin
  rw [← numsF_eq _ hin] at hl
  refine ⟨by simp only [cond_true, rowT, List.length_append, List.length_cons, List.length_nil] at hl ⊢; omega, ?_⟩
  have := Tw.text_row 0 0 0 0 r.1 r.2.1 r.2.2.1 r.2.2.2.1 r.2.2.2.2.1 w hin hg.2.1 (fun w1 hb => raw57 hc w1 (below_glob hg hb))
  rw [← numsF_eq _ hin] at this
  exact this
 | false =>
  rw [hr] at hc
  refine ⟨by simp, ?_⟩
  exact Tw.text_bad 3 0 0 0 0 r.1 r.2.1 r.2.2.1 r.2.2.2.1 r.2.2.2.2.1 8 (by decide) w (fun w1 hb => raw57 hc w1 (below_glob hg hb))
theorem text_rec' (r : Rc) (hi : recIn r = true) (w : World) (hg : GlobOk w.heap.size w) : (tOf (Tw.msgL r)).1.length ≤ 150 ∧ Calls Tryz.prog 40 #[.agg (Tw.msgL r).toArray] w fun e w'' => e = .returned (.tuple #[.string ⟨(tOf (Tw.msgL r)).1.toArray⟩, .int .i64 (tOf (Tw.msgL r)).2]) ∧ Below w.heap.size w w'' := by
 have hin := recIn_s hi
 rw [tOf_rec]
 have hc := check_eq (4, r.1, r.2.1, r.2.2.1, 0, 0, 0, 0, 0, 0, ())
 rw [show valM (4, r.1, r.2.1, r.2.2.1, 0, 0, 0, 0, 0, 0, ()) = recOk r from valK_rec r] at hc
 cases hr : recOk r with
 | true =>
  rw [hr] at hc
  have hl := Tw.nums_len hin
  rw [← numsF_eq _ hin] at hl
  refine ⟨by simp only [cond_true, recT, List.length_append, List.length_cons, List.length_nil] at hl ⊢; omega, ?_⟩
  have := Tw.text_late r.1 r.2.1 r.2.2.1 0 0 0 0 0 0 w hin hg.2.1 (fun w1 hb => raw57 hc w1 (below_glob hg hb))
  rw [← numsF_eq _ hin] at this
  exact this
 | false =>
  rw [hr] at hc
  refine ⟨by simp, ?_⟩
  exact Tw.text_bad 4 r.1 r.2.1 r.2.2.1 0 0 0 0 0 0 8 (by decide) w (fun w1 hb => raw57 hc w1 (below_glob hg hb))
theorem outF_rows (rest : List (List Value)) : ∀ (rows : List Rw) (acc : List UInt8), Tw.outF tOf (rows.map Tw.msgR ++ rest) acc = bif rows.all rowOk then Tw.outF tOf rest (acc ++ rows.flatMap fun r => rowT r ++ [10]) else ([], 8)
 | [], acc => by simp
 | r :: rows, acc => by
  rw [List.map_cons, List.cons_append, Tw.outF, tOf_row]
  cases hr : rowOk r with
  | true =>
   simp only [cond_true, if_true, List.all_cons, hr, Bool.true_and]
   rw [outF_rows rest rows]
   simp [List.append_assoc]
  | false =>
   simp [hr]
theorem outF_recs : ∀ (rows : List Rc) (acc : List UInt8), Tw.outF tOf (rows.map Tw.msgL) acc = bif rows.all recOk then (acc ++ rows.flatMap fun r => recT r ++ [10], 0) else ([], 8)
 | [], acc => by simp [Tw.outF]
 | r :: rows, acc => by
  rw [List.map_cons, Tw.outF, tOf_rec]
  cases hr : recOk r with
  | true =>
   simp only [cond_true, if_true, List.all_cons, hr, Bool.true_and]
   rw [outF_recs rows]
   simp [List.append_assoc]
  | false =>
   simp [hr]
theorem slAt {α : Type} {w : World} {O : Nat → Prop} {sz : Nat} {f : α → List Value} {g : α → List PV} {xs : List α} {v : Value} (hf : ∀ x, (g x).length = sz) (hfg : ∀ (x : α) (w : World) (O : Nat → Prop) (i : Nat) (v : Value) (p : PV), (f x)[i]? = some v → (g x)[i]? = some p → ∀ u, PRel w O p u → u = v) (hlen : ∀ x, (f x).length = sz) (h : PRel w O (.sl (xs.map g)) v) : ∃ a n c, v = .slice a n c ∧ Tw.SlAt w sz f a n xs := by
 generalize hes : xs.map g = es at h
 cases h with
 | nil a c =>
  have : xs = [] := by simpa using hes
  subst this
  exact ⟨a, 0, c, rfl, rfl, fun j x hj => by simp at hj⟩
 | sl _ a n c size u hno hlt hn hc hsz hcell hr =>
  refine ⟨some a, n, c, rfl, by rw [hn, ← hes, List.length_map], fun j x hj => ⟨a, rfl, hlt, fun i y hy => ?_⟩⟩
  have he : es[j]? = some (g x) := by rw [← hes, List.getElem?_map, hj]; rfl
  have h1 : size = sz := by rw [← hsz j _ he, hf]
  subst h1
  have hi : i < (g x).length := by rw [hf, ← hlen x]; exact (List.getElem?_eq_some_iff.1 hy).1
  have h2 := hcell j _ he i _ (List.getElem?_eq_getElem hi)
  rw [h2, hfg x w O i y _ hy (List.getElem?_eq_getElem hi) _ (hr j _ he i _ (List.getElem?_eq_getElem hi))]
def rowP (r : Rw) : List PV := [.int .i64 r.1, .int .i64 r.2.1, .int .i64 r.2.2.1, .int .i64 r.2.2.2.1, .int .i64 r.2.2.2.2.1]
def recP (r : Rc) : List PV := [.int .i64 r.1, .int .i64 r.2.1, .int .i64 r.2.2.1]
theorem rowP_ok (x : Rw) (w : World) (O : Nat → Prop) (i : Nat) (v : Value) (p : PV) (h1 : (Tw.rowC x)[i]? = some v) (h2 : (rowP x)[i]? = some p) (u : Value) (h : PRel w O p u) : u = v := by
 match i, h1, h2 with
 | 0, h1, h2 => cases h1; cases h2; cases h; rfl
 | 1, h1, h2 => cases h1; cases h2; cases h; rfl
 | 2, h1, h2 => cases h1; cases h2; cases h; rfl
 | 3, h1, h2 => cases h1; cases h2; cases h; rfl
 | 4, h1, h2 => cases h1; cases h2; cases h; rfl
 | i + 5, h1, h2 => simp [Tw.rowC] at h1
theorem recP_ok (x : Rc) (w : World) (O : Nat → Prop) (i : Nat) (v : Value) (p : PV) (h1 : (Tw.recC x)[i]? = some v) (h2 : (recP x)[i]? = some p) (u : Value) (h : PRel w O p u) : u = v := by
 match i, h1, h2 with
 | 0, h1, h2 => cases h1; cases h2; cases h; rfl
 | 1, h1, h2 => cases h1; cases h2; cases h; rfl
 | 2, h1, h2 => cases h1; cases h2; cases h; rfl
 | i + 3, h1, h2 => simp [Tw.recC] at h1
theorem sp16 (rows : List Rw) (recs : List Rc) (hr : rows.all rowIn = true) (hl : recs.all recIn = true) (n1 : rows.length ≤ 4611686018427387904) (n2 : recs.length ≤ 4611686018427387904) :
    Spec Tryz.prog 16 [.a [.sl (rows.map rowP), .sl (recs.map recP)]] [.c (.c (.str (outP (rows, recs, ())).1)), .c (.c (.int .i64 (outP (rows, recs, ())).2.1))] := by
  refine Spec.still2 (v := .string ⟨(outP (rows, recs, ())).1.toArray⟩) (u := .int .i64 (outP (rows, recs, ())).2.1) (fun w O => .str _) (fun w O => .int _ _) fun O w cargs hg hp => ?_
  obtain ⟨u, v, rfl, h1, h2⟩ : ∃ u v, cargs = #[.agg #[u, v]] ∧ PRel w O (.sl (rows.map rowP)) u ∧ PRel w O (.sl (recs.map recP)) v := by
   obtain ⟨h1, h2⟩ := hp
   obtain ⟨l⟩ := cargs
   match l, h1 with
   | [u], _ =>
    have e1 := h2 0 _ u rfl rfl
    cases e1 with
    | a _ vs hl hr =>
     obtain ⟨vs⟩ := vs
     match vs, hl with
     | [x, y], _ => exact ⟨x, y, rfl, hr 0 _ x rfl rfl, hr 1 _ y rfl rfl⟩
  obtain ⟨a1, m1, c1, rfl, g1⟩ := slAt (f := Tw.rowC) (sz := 5) (fun _ => rfl) (fun x w O i v p a b u hu => rowP_ok x w O i v p a b u hu) (fun _ => rfl) h1
  obtain ⟨a2, m2, c2, rfl, g2⟩ := slAt (f := Tw.recC) (sz := 3) (fun _ => rfl) (fun x w O i v p a b u hu => recP_ok x w O i v p a b u hu) (fun _ => rfl) h2
  have e1 := g1.1
  have e2 := g2.1
  unfold outP
  by_cases hm : 4000 < rows.length ∨ 4000 < recs.length
  · have hb : (decide (rows.length > 4000) || decide (recs.length > 4000)) = true := by
     rw [Bool.or_eq_true]
     rcases hm with h | h
     · exact .inl (decide_eq_true h)
     · exact .inr (decide_eq_true h)
    simp only [hb, cond_true]
    exact Tw.out_many a1 a2 m1 m2 c1 c2 w (by rw [e1, e2]; exact hm) (by omega) (by omega)
  · have hb : (decide (rows.length > 4000) || decide (recs.length > 4000)) = false := by
     rw [Bool.or_eq_false_iff]
     exact ⟨decide_eq_false (by omega), decide_eq_false (by omega)⟩
    simp only [hb, cond_false]
    have := Tw.out_any a1 a2 m1 m2 c1 c2 rows recs w (by omega) (by omega) g1 g2 tOf fun m hm => by
     rw [List.mem_append, List.mem_map, List.mem_map] at hm
     rcases hm with ⟨r, hrm, rfl⟩ | ⟨r, hrm, rfl⟩
     · exact ⟨(text_row' r (List.all_eq_true.1 hr r hrm) w hg).1, fun w' hb => (text_row' r (List.all_eq_true.1 hr r hrm) w' (below_glob hg hb)).2⟩
     · exact ⟨(text_rec' r (List.all_eq_true.1 hl r hrm) w hg).1, fun w' hb => (text_rec' r (List.all_eq_true.1 hl r hrm) w' (below_glob hg hb)).2⟩
    rw [outF_rows, outF_recs] at this
    cases ha : rows.all rowOk <;> cases hb2 : recs.all recOk <;> simp only [ha, hb2, cond_true, cond_false, Bool.and_true, Bool.and_false, Bool.true_and, Bool.false_and, List.nil_append] at this ⊢
    · exact this
    · exact this
    · exact this
    · exact this
def con16 : TCon := ⟨[.a [.sl [.int .i64, .int .i64, .int .i64, .int .i64, .int .i64], .sl [.int .i64, .int .i64, .int .i64]]], [.c (.p .str), .c (.p (.int .i64))], fun a => lines_Outputs a.1⟩
theorem cb16 : callable Tryz.prog 16 = true := by kernel_rfl
theorem ok16 : con16.ok Tryz.prog 16 := fun a r h => by
 obtain ⟨⟨rows, recs, u⟩, u'⟩ := a
 have key : ∀ (x : Ou) (r : List UInt8 × Int × Unit), lines_Outputs x = some r → Spec Tryz.prog 16 [.a [.sl (x.1.map rowP), .sl (x.2.1.map recP)]] [.c (.c (.str r.1)), .c (.c (.int .i64 r.2.1))] := fun x r h => by
  unfold lines_Outputs at h
  obtain ⟨hc, h⟩ := cond_t h
  obtain rfl := Option.some.inj h
  rw [Bool.and_eq_true, Bool.and_eq_true, Bool.and_eq_true] at hc
  exact sp16 x.1 x.2.1 hc.1 hc.2.1 (of_decide_eq_true hc.2.2.1) (of_decide_eq_true hc.2.2.2)
 exact key (rows, recs, ()) r h
end Tg
