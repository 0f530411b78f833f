/- comparisons, arithmetic. -/
import Derived.Test.YtfdpoliibpelaaaAbsSound6
set_option linter.unusedVariables false
set_option linter.unusedSimpArgs false
set_option linter.unnecessarySimpa false
namespace Go.Abs
open Go.RowKit (Below)
section
variable {P : Program} {B : Nat} {w0 w : World} {h : List AObj} {ι : Em}

/-- a value of a type within the cells of a greater one -/
def AtC (P : Program) (xs : Array Value) (off : Nat) (t : TypeId) (a : Value) : Prop :=
  ∃ d i, P.underlying t = some d ∧ P.info? t = some i ∧
    (if isAggD d then ∃ as, a = .agg as ∧ as.size = i.size ∧ ∀ k, k < i.size → as[k]? = xs[off + k]? else xs[off]? = some a)

theorem run_part_agg {t : TypeId} {d : TypeDesc} {i : TypeInfo} (hd : P.underlying t = some d) (hda : isAggD d = true) (hi : P.info? t = some i) (cs : Array Value) (off : Nat) : (part t cs off).run P w = .ok (.agg (cs.extract off (off + i.size))) w := by
  simp only [part, Sem.run_bind, run_isAgg hd, Result.andThen_ok, hda, if_true, run_sizeOf hi, Sem.run_pure]

theorem run_part_one {t : TypeId} {d : TypeDesc} (hd : P.underlying t = some d) (hda : isAggD d = false) (cs : Array Value) (off : Nat) {v : Value} (hv : cs[off]? = some v) : (part t cs off).run P w = .ok v w := by
  simp only [part, Sem.run_bind, run_isAgg hd, Result.andThen_ok, hda, Bool.false_eq_true, if_false, hv, Sem.run_pure]

theorem run_part_at {xs as : Array Value} {size off fo : Nat} {t : TypeId} {s : Nat} (has : as.size = size) (hat : ∀ k, k < size → as[k]? = xs[off + k]?) (hs : sizeA P t = some s) (hd : ∃ d, P.underlying t = some d) (hle : fo + s ≤ size) (h1 : 0 < s) :
    ∃ a, (part t as fo).run P w = .ok a w ∧ AtC P xs (off + fo) t a := by
  obtain ⟨d, hd⟩ := hd
  obtain ⟨i, hi, rfl⟩ : ∃ i, P.info? t = some i ∧ i.size = s := by simpa [sizeA] using hs
  by_cases hda : isAggD d = true
  · refine ⟨_, run_part_agg hd hda hi as fo, d, i, hd, hi, ?_⟩
    rw [if_pos hda]
    refine ⟨_, rfl, by simp; omega, fun k hk => ?_⟩
    rw [Array.getElem?_extract]
    rw [if_pos (by omega), hat (fo + k) (by omega), Nat.add_assoc]
  · have hda : isAggD d = false := by simpa using hda
    have hlt : fo < as.size := by omega
    refine ⟨as[fo], run_part_one hd hda as fo (Array.getElem?_eq_getElem hlt), d, i, hd, hi, ?_⟩
    rw [if_neg (by simp [hda]), ← hat fo (by omega)]
    exact Array.getElem?_eq_getElem hlt

theorem eqIx_append (xs ys : List AV) : ∀ (a b : List (Nat × Nat)) (r : Bool), eqIx xs ys (a ++ b) = some r → ∃ r1 r2, eqIx xs ys a = some r1 ∧ eqIx xs ys b = some r2 ∧ r = (r1 && r2)
  | [], b, r, h => ⟨true, r, rfl, h, by simp⟩
  | (i, kd) :: a, b, r, h => by
    simp only [List.cons_append, eqIx] at h ⊢
    split at h
    · rename_i x y hx hy
      split at h
      · rename_i p q hp hq
        obtain rfl := Option.some.inj h
        obtain ⟨r1, r2, h1, h2, rfl⟩ := eqIx_append xs ys a b q hq
        exact ⟨p && r1, r2, by simp [hp, h1], h2, by simp [Bool.and_assoc]⟩
      · cases h
    · cases h

def kindOf : TypeDesc → Option Nat
  | .int _ => some 0
  | .bool => some 1
  | .string => some 2
  | _ => none

theorem pvEq_run {O : Nat → Prop} {t : TypeId} {kd : TypeDesc} {kn : Nat} (hd : P.underlying t = some kd) (hk : kindOf kd = some kn) {x y : AV} {a b : Value} (ha : VRel h ι w O x a) (hb : VRel h ι w O y b) {r : Bool} (hr : pvEq kn x y = some r) (d : Nat) :
    (Op.equalIn (d + 1) t a b).run P w = .ok r w := by
  unfold kindOf at hk
  split at hk <;> first | (obtain rfl := Option.some.inj hk) | cases hk
  · unfold pvEq at hr
    split at hr <;> first | (rename_i he; exact absurd he (by decide)) | skip
    · split at hr
      · rename_i hkk
        subst hkk
        obtain rfl := Option.some.inj hr
        cases ha with | p _ _ ha => cases hb with | p _ _ hb =>
          cases ha; cases hb
          exact run_equalIn_int w d t _ _ _ _ hd
      · cases hr
    · cases hr
  · unfold pvEq at hr
    split at hr <;> first | (rename_i he; exact absurd he (by decide)) | skip
    · obtain rfl := Option.some.inj hr
      cases ha with | p _ _ ha => cases hb with | p _ _ hb =>
        cases ha; cases hb
        exact run_equalIn_bool w d t _ _ hd
    · cases hr
  · unfold pvEq at hr
    split at hr <;> first | (rename_i he; exact absurd he (by decide)) | skip
    · obtain rfl := Option.some.inj hr
      cases ha with | p _ _ ha => cases hb with | p _ _ hb =>
        cases ha; cases hb
        rw [run_equalIn_string w d t _ _ hd]
        simp [ByteArray.toList_eq]
    · cases hr

theorem eq_scalar {xs ys : Array Value} {c1 c2 : List AV} (h1 : CellsR h ι w c1 xs) (h2 : CellsR h ι w c2 ys) {t : TypeId} {kd : TypeDesc} {kn off : Nat} (hd : P.underlying t = some kd) (hk : kindOf kd = some kn) {a b : Value} (ha : AtC P xs off t a) (hb : AtC P ys off t b)
    {r : Bool} (hr : eqIx c1 c2 [(off, kn)] = some r) (d : Nat) : (Op.equalIn (d + 1) t a b).run P w = .ok r w := by
  have hna : isAggD kd = false := by cases kd <;> simp_all [kindOf, isAggD]
  obtain ⟨d1, i1, e1, _, ha⟩ := ha
  obtain ⟨d2, i2, e2, _, hb⟩ := hb
  rw [hd] at e1 e2
  obtain rfl := Option.some.inj e1
  obtain rfl := Option.some.inj e2
  simp only [hna, Bool.false_eq_true, if_false] at ha hb
  simp only [eqIx] at hr
  split at hr
  · rename_i x y hx hy
    split at hr
    · rename_i p q hp hq
      obtain rfl := Option.some.inj hq
      obtain rfl := Option.some.inj hr
      rw [Bool.and_true]
      exact pvEq_run hd hk (h1.2 off x a hx ha) (h2.2 off y b hy hb) hp d
    · cases hr
  · cases hr

theorem sized_pos {t : TypeId} {off : Nat} : ∀ {d : Nat} {ix : List (Nat × Nat)}, eqCells P d t off = some ix → (∃ dd, P.underlying t = some dd) := by
  intro d ix he
  cases d with
  | zero => simp [eqCells] at he
  | succ d =>
    simp only [eqCells] at he
    cases hu : P.underlying t with
    | none => simp [hu] at he
    | some dd => exact ⟨dd, rfl⟩

theorem run_eqCells {xs ys : Array Value} {c1 c2 : List AV} (h1 : CellsR h ι w c1 xs) (h2 : CellsR h ι w c2 ys) (dd : Nat) : ∀ (d : Nat) (t : TypeId) (off : Nat) (ix : List (Nat × Nat)), eqCells P d t off = some ix → ∀ (a b : Value), AtC P xs off t a → AtC P ys off t b →
    ∀ r : Bool, eqIx c1 c2 ix = some r → (Op.equalIn (dd + d) t a b).run P w = .ok r w
  | 0, t, off, ix, he => by simp [eqCells] at he
  | d + 1, t, off, ix, he => by
    intro a b ha hb r hr
    have ih := run_eqCells h1 h2 dd d
    simp only [eqCells] at he
    rw [← Nat.add_assoc]
    split at he
    · rename_i k hd
      obtain rfl := Option.some.inj he
      exact eq_scalar h1 h2 hd rfl ha hb hr _
    · rename_i hd
      obtain rfl := Option.some.inj he
      exact eq_scalar h1 h2 hd rfl ha hb hr _
    · rename_i hd
      obtain rfl := Option.some.inj he
      exact eq_scalar h1 h2 hd rfl ha hb hr _
    · rename_i fs hd
      split at he
      · rename_i size hsz
        split at he
        · cases he
        · rename_i hst
          have hst : P.stoodInHeld t = false := by simpa using hst
          obtain ⟨d1, i1, e1, hi1, ha⟩ := ha
          obtain ⟨d2, i2, e2, hi2, hb⟩ := hb
          rw [hd] at e1 e2
          obtain rfl := Option.some.inj e1
          obtain rfl := Option.some.inj e2
          simp only [isAggD, if_true] at ha hb
          obtain ⟨as, rfl, hasz, haat⟩ := ha
          obtain ⟨bs, rfl, hbsz, hbat⟩ := hb
          have hs1 : i1.size = size := by simpa [sizeA, hi1] using hsz
          have hs2 : i2.size = size := by simpa [sizeA, hi2] using hsz
          rw [hs1] at hasz haat
          rw [hs2] at hbsz hbat
          have hfo : P.fieldsOf t = fs := by simp [Program.fieldsOf, hd]
          rw [run_equalIn_struct w (dd + d) t as bs (by rw [hfo]; exact hd) hst, hfo]
          have key : ∀ (l : List Field) (ix : List (Nat × Nat)) (r : Bool), eqFs size (sizeA P) (eqCells P d) off l = some ix → eqIx c1 c2 ix = some r → (Op.eqFields (dd + d) as bs l).run P w = .ok r w := by
            intro l
            induction l with
            | nil =>
              intro ix r hix hr
              simp only [eqFs, Option.some.injEq] at hix
              subst hix
              simp only [eqIx, Option.some.injEq] at hr
              subst hr
              rfl
            | cons f l ihl =>
              intro ix r hix hr
              simp only [eqFs] at hix
              simp only [Op.eqFields]
              split at hix
              · rename_i hne
                rw [if_pos hne]
                split at hix
                · rename_i s ia ib hsf hia hib
                  split at hix
                  · rename_i hle
                    obtain rfl := Option.some.inj hix
                    obtain ⟨r1, r2, hr1, hr2, rfl⟩ := eqIx_append _ _ _ _ _ hr
                    obtain ⟨a', pa, ha'⟩ := run_part_at (w := w) hasz haat hsf (sized_pos hia) hle.1 hle.2
                    obtain ⟨b', pb, hb'⟩ := run_part_at (w := w) hbsz hbat hsf (sized_pos hia) hle.1 hle.2
                    have h3 := ih f.type _ ia hia a' b' ha' hb' r1 hr1
                    simp only [Sem.run_bind, pa, pb, h3, Result.andThen_ok]
                    cases r1
                    · simp
                    · simpa using ihl ib r2 hib hr2
                  · cases hix
                · cases hix
              · rename_i hne
                rw [if_neg hne]
                exact ihl ix r hix hr
          exact key fs.toList ix r he hr
      · cases he
    · rename_i n e hd
      split at he
      · rename_i size s hsz hse
        split at he
        · rename_i hle
          obtain ⟨d1, i1, e1, hi1, ha⟩ := ha
          obtain ⟨d2, i2, e2, hi2, hb⟩ := hb
          rw [hd] at e1 e2
          obtain rfl := Option.some.inj e1
          obtain rfl := Option.some.inj e2
          simp only [isAggD, if_true] at ha hb
          obtain ⟨as, rfl, hasz, haat⟩ := ha
          obtain ⟨bs, rfl, hbsz, hbat⟩ := hb
          have hs1 : i1.size = size := by simpa [sizeA, hi1] using hsz
          have hs2 : i2.size = size := by simpa [sizeA, hi2] using hsz
          rw [hs1] at hasz haat
          rw [hs2] at hbsz hbat
          obtain ⟨ie, hie, hies⟩ : ∃ i, P.info? e = some i ∧ i.size = s := by simpa [sizeA] using hse
          have hco : P.cellsOf e = s := by simp [Program.cellsOf, hie, hies]
          rw [run_equalIn_array w (dd + d) as bs hd hie, hco]
          have key : ∀ (l : List Nat) (ix : List (Nat × Nat)) (r : Bool), (∀ k ∈ l, k < n) → eqAs (eqCells P d e) off s l = some ix → eqIx c1 c2 ix = some r → (Op.eqItems (dd + d) e s as bs l).run P w = .ok r w := by
            intro l
            induction l with
            | nil =>
              intro ix r _ hix hr
              simp only [eqAs, Option.some.injEq] at hix
              subst hix
              simp only [eqIx, Option.some.injEq] at hr
              subst hr
              rfl
            | cons k l ihl =>
              intro ix r hall hix hr
              simp only [eqAs] at hix
              split at hix
              · rename_i ia ib hia hib
                obtain rfl := Option.some.inj hix
                obtain ⟨r1, r2, hr1, hr2, rfl⟩ := eqIx_append _ _ _ _ _ hr
                have hk : k * s + s ≤ size := by
                  have : (k + 1) * s ≤ n * s := Nat.mul_le_mul_right _ (hall k (by simp))
                  rw [Nat.add_mul, Nat.one_mul] at this
                  omega
                obtain ⟨a', pa, ha'⟩ := run_part_at (w := w) hasz haat hse (sized_pos hia) hk hle.2
                obtain ⟨b', pb, hb'⟩ := run_part_at (w := w) hbsz hbat hse (sized_pos hia) hk hle.2
                have h3 := ih e _ ia hia a' b' ha' hb' r1 hr1
                simp only [Op.eqItems, Sem.run_bind, pa, pb, h3, Result.andThen_ok]
                cases r1
                · simp
                · simpa using ihl ib r2 (fun k hk => hall k (by simp [hk])) hib hr2
              · cases hix
          exact key _ ix r (fun k hk => by simpa using hk) he hr
        · cases he
      · cases he
    · cases he

/-- == on aggregates -/
theorem run_eqagg {t : TypeId} {size : Nat} {ix : List (Nat × Nat)} {xs ys : List AV} {vx vy : Value} (hx : VR h ι w (.agg xs) vx) (hy : VR h ι w (.agg ys) vy) (hsz : sizeA P t = some size) (hl : xs.length = size ∧ ys.length = size)
    (he : eqCells P 100 t 0 = some ix) (hag : ∃ d, P.underlying t = some d ∧ isAggD d = true) (hg : P.eqGuardType P.depth t = false) {r : Bool} (hr : eqIx xs ys ix = some r) (neg : Bool) (x y : Operand) :
    (do eqGuard (if neg then .neq else .eql) t x y vx vy; binOp (if neg then .neq else .eql) t vx vy : Sem Value).run P w = .ok (.bool (if neg then !r else r)) w := by
  cases hx with
  | agg _ as h1 h2 =>
    cases hy with
    | agg _ bs h3 h4 =>
      obtain ⟨d, hd, hda⟩ := hag
      obtain ⟨i, hi, his⟩ : ∃ i, P.info? t = some i ∧ i.size = size := by simpa [sizeA] using hsz
      have ha : AtC P as 0 t (.agg as) := ⟨d, i, hd, hi, by rw [if_pos hda]; exact ⟨as, rfl, by omega, fun k _ => by rw [Nat.zero_add]⟩⟩
      have hb : AtC P bs 0 t (.agg bs) := ⟨d, i, hd, hi, by rw [if_pos hda]; exact ⟨bs, rfl, by omega, fun k _ => by rw [Nat.zero_add]⟩⟩
      have hrun := run_eqCells (P := P) ⟨h1, h2⟩ ⟨h3, h4⟩ 9900 100 t 0 ix he _ _ ha hb r hr
      simp only [Sem.run_bind, run_eqGuard_agg w _ t x y as bs hg, Result.andThen_ok]
      cases neg
      · simp only [Bool.false_eq_true, if_false]
        rw [run_eql_struct w t as bs, hrun]
        rfl
      · simp only [if_true]
        rw [run_neq_struct w t as bs, hrun]
        rfl

theorem run_binA {op : BinOp} {t : TypeId} {x y : AV} {vx vy : Value} (hx : VR h ι w x vx) (hy : VR h ι w y vy) {r : PV} (hr : binA op x y = some r) (ox oy : Operand) :
    ∃ v, (do eqGuard op t ox oy vx vy; binOp op t vx vy : Sem Value).run P w = .ok v w ∧ VR h ι w (.p r) v := by
  unfold binA at hr
  split at hr
  · rename_i k a k' b
    cases hx with | p _ _ hx => cases hy with | p _ _ hy =>
      cases hx; cases hy
      rw [eqGuard_at_int]
      split at hr
      · rename_i hs
        unfold shiftI at hr
        split at hr
        · cases hr
        · rename_i hb
          cases op <;> simp [isShift] at hs <;> simp only [Option.some.injEq] at hr <;> subst hr
          · exact ⟨_, by simp [binOp, Op.shift, hb], .p _ _ (.int _ _)⟩
          · exact ⟨_, by simp [binOp, Op.shift, hb], .p _ _ (.int _ _)⟩
      · rename_i hs
        split at hr
        · rename_i hk
          subst hk
          cases op <;> simp [isShift] at hs <;> simp only [binI] at hr
          all_goals first
            | (simp only [Option.some.injEq] at hr; subst hr; refine ⟨_, ?_, .p _ _ (.int _ _)⟩; first | (simp [binOp, Op.intArith, Op.intCmp]; done) | simp only [Sem.run_bind, Sem.run_pure, Result.andThen_ok, binOp_and, binOp_or, binOp_xor, binOp_andNot, intBits_and, intBits_or, intBits_xor, intBits_andNot])
            | (simp only [Option.some.injEq] at hr; subst hr; refine ⟨_, ?_, .p _ _ (.bool _)⟩; simp [binOp, Op.intArith, Op.intCmp]; done)
            | (split at hr
               · cases hr
               · rename_i h0
                 simp only [Option.some.injEq] at hr
                 subst hr
                 exact ⟨_, by simp [binOp, Op.intDiv, h0], .p _ _ (.int _ _)⟩)
            | (cases hr; done)
        · cases hr
  · rename_i a b
    cases hx with | p _ _ hx => cases hy with | p _ _ hy =>
      cases hx; cases hy
      rw [eqGuard_at_string]
      cases op <;> simp only [binS] at hr
      all_goals first
        | (cases hr; done)
        | (simp only [Option.some.injEq] at hr; subst hr; exact ⟨_, by simp [binOp, Op.stringOp, ByteArray.toList_eq], .p _ _ (.bool _)⟩)
        | (split at hr
           · rename_i hle
             simp only [Option.some.injEq] at hr
             subst hr
             refine ⟨.string ⟨(a ++ b).toArray⟩, ?_, .p _ _ (.str _)⟩
             have hsz : ¬ (((ByteArray.mk a.toArray).size + (ByteArray.mk b.toArray).size : Nat) : Int) > IntKind.i64.max := by
               simp [ByteArray.size, IntKind.max_i64]
               omega
             have hap : (ByteArray.mk a.toArray) ++ (ByteArray.mk b.toArray) = ByteArray.mk (a ++ b).toArray := by
               apply ByteArray.ext
               simp
             simp only [Sem.run_bind, Sem.run_pure, Result.andThen_ok, binOp, Op.stringOp]
             rw [if_neg hsz, hap]
             rfl
           · cases hr)
  · cases hr
end
end Go.Abs
