import Derived.Test.YtodnlpaialbceaaGreatDoorWJ2
/- A drawn region whose last operations (from number k on) wait for all that read what they write: two conditions on the world, one till k comes up, one from there on. -/
set_option linter.unusedVariables false
set_option linter.unusedSimpArgs false
namespace Tj
open Go Go.RowKit Go.Proofs
section
variable {P : Program} {ops : Array Oper} {Q : Exit → Act → World → Prop} {md : Region.Mode} {S : Bool → World → Prop} {k : Nat}
def wpAnyT (P : Program) (md : Region.Mode) (ops : Array Oper) (Q : Exit → Act → World → Prop) (S : Bool → World → Prop) (k : Nat) : Nat → Array Bool → Act → World → Prop
 | 0, listed, a, w => Region.ready md ops listed = [] ∧ Q .normal a w
 | fuel + 1, listed, a, w =>
  (Region.ready md ops listed = [] → Q .normal a w) ∧
  ∀ i ∈ Region.ready md ops listed, wpOp P ops Q i (fun a' w' => S ((listed.setIfInBounds i true).getD k true) w' ∧ wpAnyT P md ops Q S k fuel (listed.setIfInBounds i true) a' w') a w
theorem any_of_T : ∀ (fuel : Nat) (listed : Array Bool) (a : Act) (w : World), wpAnyT P md ops Q S k fuel listed a w → wpAny P md ops Q fuel listed a w
 | 0, _, _, _, h => h
 | fuel + 1, _, _, _, h => ⟨h.1, fun i hi => wpOp_mono (fun a' w' h' => any_of_T fuel _ a' w' h'.2) (h.2 i hi)⟩
theorem region_T {id : Nat} {a : Act} {w : World} (k n : Nat) (S : Bool → World → Prop) (hn : ops.size = n) (hm : P.follows .mixedOrders = true) (hS : S false w.drew)
    (h : S false w.drew → wpAnyT P .any ops Q S k n (Array.replicate n false) a w.drew) : (Code.region id ops true).wp P Q a w := by
  subst hn
  exact wp_region_any hm (any_of_T _ _ _ _ (h hS))
def waitsB (md : Region.Mode) (ops : Array Oper) (k i : Nat) : Bool := match ops[k]? with
 | some o => o.after.any fun e => Region.binds md e && e.on == i
 | none => false
theorem waits_spec {i : Nat} (h : waitsB md ops k i = true) : ∃ o, ops[k]? = some o ∧ ∃ e ∈ o.after, Region.binds md e = true ∧ e.on = i := by
 unfold waitsB at h
 split at h
 · rename_i o ho
   rw [Array.any_eq_true'] at h
   obtain ⟨e, he, hb⟩ := h
   rw [Bool.and_eq_true] at hb
   exact ⟨o, ho, e, he, hb.1, by simpa using hb.2⟩
 · cases h
theorem T_first {i : Nat} {oi : Oper} {v : Value} (st : Bool) (hmo : ∀ w, S false w → S true w) (hi : ops[i]? = some oi) (hsel : ∀ (j : Nat) (o : Oper) cs b, ops[j]? = some o → o.op ≠ .select cs b)
    (hQ : ∀ c a w, Q (.panic c) (a.put oi.dst v) w → Q (.panic c) a w) (hki : k ≠ i) (hk : st = true → waitsB md ops k i = true) :
    ∀ (fuel : Nat) (listed : Array Bool) (a : Act) (w : World),
     (∀ j oj, ops[j]? = some oj → j ≠ i → listed.getD j true = false → (∀ e ∈ oj.after, Region.binds md e = true → e.on ≠ i) → oi.apart ops oj = true) →
     i ∈ Region.ready md ops listed → (st = true → listed.getD k true = false) → YieldsIf P ops (S (!st)) oi v a → S (listed.getD k true) w →
     wpAnyT P md ops Q S k fuel (listed.setIfInBounds i true) (a.put oi.dst v) w → wpAnyT P md ops Q S k (fuel + 1) listed a w := by
  have hSS : ∀ (l : Array Bool) (w : World), (st = true → l.getD k true = false) → S (l.getD k true) w → S (!st) w := fun l w h1 h2 => by
   cases st with
   | true => rw [h1 rfl] at h2; exact h2
   | false =>
    cases hl : l.getD k true with
    | true => rw [hl] at h2; exact h2
    | false => rw [hl] at h2; exact hmo w h2
  intro fuel
  induction fuel with
  | zero =>
   intro listed a w _ hr hf hy hS H
   refine ⟨fun h => (by rw [h] at hr; cases hr), fun j hj => ?_⟩
   by_cases hji : j = i
   · subst hji
     exact hy.wpOp hi (hSS listed w hf hS) ⟨by rw [getD_set_ne true (fun e => hki e.symm)]; exact hS, H⟩
   · have := ready_mono hj hji
     rw [H.1] at this
     cases this
  | succ fuel ih =>
   intro listed a w hfree hr hf hy hS H
   refine ⟨fun h => (by rw [h] at hr; cases hr), fun j hj => ?_⟩
   by_cases hji : j = i
   · subst hji
     exact hy.wpOp hi (hSS listed w hf hS) ⟨by rw [getD_set_ne true (fun e => hki e.symm)]; exact hS, H⟩
   · have h1 := H.2 j (ready_mono hj hji)
     obtain ⟨hjun, oj, hoj, hall⟩ := mem_ready.1 hj
     have hnot : ∀ e ∈ oj.after, Region.binds md e = true → e.on ≠ i := fun e he hb heq => by
      have h1 := hall e he hb
      have h0 := (mem_ready.1 hr).1
      rw [heq] at h1
      rcases Nat.lt_or_ge i listed.size with h' | h'
      · simp [h'] at h0 h1; rw [h0] at h1; cases h1
      · simp [Array.getElem?_eq_none h'] at h1
     have hf' : st = true → (listed.setIfInBounds j true).getD k true = false := fun hs => by
      by_cases hjk : j = k
      · subst hjk
        obtain ⟨o, ho, e, he, hb, hon⟩ := waits_spec (hk hs)
        rw [hoj] at ho
        obtain rfl := Option.some.inj ho
        exact absurd hon (hnot e he hb)
      · rw [getD_set_ne true hjk]; exact hf hs
     have h2 := wpOp_putIf hoj (hfree j oj hoj hji hjun hnot) (fun cs b => hsel i oi cs b hi) (fun cs b => hsel j oj cs b hoj) hQ hy h1
     have hfree' : ∀ q oq, ops[q]? = some oq → q ≠ i → (listed.setIfInBounds j true).getD q true = false →
         (∀ e ∈ oq.after, Region.binds md e = true → e.on ≠ i) → oi.apart ops oq = true := fun q oq hq hqi hun hno => by
       refine hfree q oq hq hqi ?_ hno
       by_cases hjq : j = q
       · subst hjq; exact hjun
       · rw [getD_set_ne true hjq] at hun; exact hun
     refine wpOp_mono (fun a' w' h3 => ?_) h2
     obtain ⟨hy', hS', hT⟩ := h3
     rw [Array.setIfInBounds_comm _ _ (Ne.symm hji)] at hS' hT
     rw [getD_set_ne true (fun e => hki e.symm)] at hS'
     exact ⟨hS', ih (listed.setIfInBounds j true) a' w' hfree' (ready_mono hr (Ne.symm hji)) hf' hy' hS' hT⟩
theorem T_take {i : Nat} {oi : Oper} {v : Value} {fuel : Nat} {listed : Array Bool} {a : Act} {w : World} (st fl : Bool) (hmo : ∀ w, S false w → S true w) (hi : ops[i]? = some oi)
    (hs : Region.noSelect ops = true) (hf : Region.free md ops listed i = true) (hr : (Region.ready md ops listed).contains i = true) (hki : (k == i) = false)
    (hk : (!st || waitsB md ops k i) = true) (hfl : listed.getD k true = fl) (hsf : (!st || !fl) = true)
    (hQ : ∀ c a w, Q (.panic c) (a.put oi.dst v) w → Q (.panic c) a w) (hS : S fl w) (hy : YieldsIf P ops (S (!st)) oi v a)
    (h : wpAnyT P md ops Q S k fuel (listed.setIfInBounds i true) (a.put oi.dst v) w) : wpAnyT P md ops Q S k (fuel + 1) listed a w := by
  subst hfl
  refine T_first st hmo hi (Region.noSelect_spec hs) hQ (by simpa using hki) (fun e => by subst e; simpa using hk) fuel listed a w (Region.free_spec hi hf) (by simpa using hr) (fun e => by subst e; simpa using hsf) hy hS h
def nth {α : Type} : List α → Nat → Option α
 | [], _ => none
 | x :: _, 0 => some x
 | _ :: l, n + 1 => nth l n
theorem nth_eq {α : Type} : ∀ (l : List α) (n : Nat), nth l n = l[n]?
 | [], _ => by simp [nth]
 | x :: _, 0 => rfl
 | _ :: l, n + 1 => by rw [nth, nth_eq l n]; rfl
theorem nth_at {α : Type} {l : List α} {n : Nat} {x : α} (h : nth l n = some x) : l.toArray[n]? = some x := by
 rw [nth_eq] at h
 simpa using h
theorem T_take' {l : List Oper} {i : Nat} {oi : Oper} {d : Option Tmp} {v : Value} {fuel : Nat} {listed : Array Bool} {a : Act} {w : World} (st fl : Bool) (hmo : ∀ w, S false w → S true w) (hi : nth l i = some oi) (hd : oi.dst = d)
    (hs : Region.noSelect l.toArray = true) (hf : Region.free md l.toArray listed i = true) (hr : (Region.ready md l.toArray listed).contains i = true) (hki : (k == i) = false)
    (hk : (!st || waitsB md l.toArray k i) = true) (hfl : listed.getD k true = fl) (hsf : (!st || !fl) = true)
    (hQ : ∀ c a w, Q (.panic c) (a.put d v) w → Q (.panic c) a w) (hS : S fl w) (hw : Region.wanted oi (yielded l.toArray a.tmps) = true) (hy : ∀ w, S (!st) w → (execOp a.eval oi).run P w = .ok (.value v) w)
    (h : wpAnyT P md l.toArray Q S k fuel (listed.setIfInBounds i true) (a.put d v) w) : wpAnyT P md l.toArray Q S k (fuel + 1) listed a w := by
  subst hd
  exact T_take st fl hmo (nth_at hi) hs hf hr hki hk hfl hsf hQ hS (Or.inl ⟨hw, hy⟩) h
theorem T_skip' {l : List Oper} {i : Nat} {oi : Oper} {d : Option Tmp} {fuel : Nat} {listed : Array Bool} {a : Act} {w : World} (st fl : Bool) (hmo : ∀ w, S false w → S true w) (hi : nth l i = some oi) (hd : oi.dst = d)
    (hs : Region.noSelect l.toArray = true) (hf : Region.free md l.toArray listed i = true) (hr : (Region.ready md l.toArray listed).contains i = true) (hki : (k == i) = false)
    (hk : (!st || waitsB md l.toArray k i) = true) (hfl : listed.getD k true = fl) (hsf : (!st || !fl) = true)
    (hQ : ∀ c a w, Q (.panic c) (a.put d undef) w → Q (.panic c) a w) (hS : S fl w) (hw : Region.wanted oi (yielded l.toArray a.tmps) = false)
    (h : wpAnyT P md l.toArray Q S k fuel (listed.setIfInBounds i true) (a.put d undef) w) : wpAnyT P md l.toArray Q S k (fuel + 1) listed a w := by
  subst hd
  exact T_take st fl hmo (nth_at hi) hs hf hr hki hk hfl hsf hQ hS (Or.inr ⟨hw, rfl⟩) h
def AllT (P : Program) (md : Region.Mode) (ops : Array Oper) (Q : Exit → Act → World → Prop) (S : Bool → World → Prop) (k fuel : Nat) (listed : Array Bool) (a : Act) (w : World) (rs : List Nat) : Prop :=
 ∀ i ∈ rs, wpOp P ops Q i (fun a' w' => S ((listed.setIfInBounds i true).getD k true) w' ∧ wpAnyT P md ops Q S k fuel (listed.setIfInBounds i true) a' w') a w
theorem AllT.nil {fuel : Nat} {listed : Array Bool} {a : Act} {w : World} : AllT P md ops Q S k fuel listed a w [] := fun _ h => by cases h
theorem AllT.cons {fuel : Nat} {listed : Array Bool} {a : Act} {w : World} {i : Nat} {o : Oper} {rs : List Nat} (fl : Bool) (hfl : (listed.setIfInBounds i true).getD k true = fl) (ho : ops[i]? = some o)
    (h : ∀ K' : Act → World → Prop, Shut (∀ a w, S fl w → (S fl w → wpAnyT P md ops Q S k fuel (listed.setIfInBounds i true) a w) → K' a w) → if Region.wanted o (yielded ops a.tmps) = true then Oper.wp P o a w K' Q else K' (a.put o.dst undef) w)
    (hs : AllT P md ops Q S k fuel listed a w rs) : AllT P md ops Q S k fuel listed a w (i :: rs) := fun j hj => by
  subst hfl
  rcases List.mem_cons.1 hj with rfl | hj
  · exact wpOp_step ho (fun K' hK => h K' (fun a w hS hW => hK a w ⟨hS, hW hS⟩))
  · exact hs j hj
theorem AllT.cons' {l : List Oper} {fuel : Nat} {listed : Array Bool} {a : Act} {w : World} {i : Nat} {o : Oper} {rs : List Nat} (fl : Bool) (hfl : (listed.setIfInBounds i true).getD k true = fl) (ho : nth l i = some o)
    (h : ∀ K' : Act → World → Prop, Shut (∀ a w, S fl w → (S fl w → wpAnyT P md l.toArray Q S k fuel (listed.setIfInBounds i true) a w) → K' a w) → if Region.wanted o (yielded l.toArray a.tmps) = true then Oper.wp P o a w K' Q else K' (a.put o.dst undef) w)
    (hs : AllT P md l.toArray Q S k fuel listed a w rs) : AllT P md l.toArray Q S k fuel listed a w (i :: rs) := AllT.cons fl hfl (nth_at ho) h hs
theorem T_ready {rs : List Nat} {fuel : Nat} {listed : Array Bool} {a : Act} {w : World} (hr : Region.ready md ops listed = rs) (hne : rs ≠ [])
    (h : AllT P md ops Q S k fuel listed a w rs) : wpAnyT P md ops Q S k (fuel + 1) listed a w := ⟨fun h0 => absurd (hr ▸ h0) hne, hr ▸ h⟩
theorem T_done {listed : Array Bool} {a : Act} {w : World} (hr : Region.ready md ops listed = []) (h : Q .normal a w) : ∀ fuel, wpAnyT P md ops Q S k fuel listed a w
 | 0 => ⟨hr, h⟩
 | _ + 1 => ⟨fun _ => h, by rw [hr]; simp⟩
end
end Tj

/- Two families of rows that a call has built: what appends and stores do to them. -/
set_option linter.unusedVariables false
set_option linter.unusedSimpArgs false
namespace Tj
open Go Go.RowKit Go.Proofs
def upd {α : Type} (Y : Bool → Nat → α) (b0 : Bool) (j0 : Nat) (v : α) : Bool → Nat → α := fun b j => if b = b0 ∧ j = j0 then v else Y b j
theorem upd_eq {α : Type} (Y : Bool → Nat → α) (b : Bool) (j : Nat) (v : α) : upd Y b j v b j = v := by simp [upd]
theorem upd_ne {α : Type} (Y : Bool → Nat → α) {b b0 : Bool} {j j0 : Nat} (v : α) (h : ¬(b = b0 ∧ j = j0)) : upd Y b0 j0 v b j = Y b j := by simp [upd, h]
structure Rws (B n : Nat) (D : Bool → Nat → Prop) (Y : Bool → Nat → Value) (C : Bool → Nat → List Int) (w : World) : Prop where
 row : ∀ b j, j < n → D b j → w.ownsRow B 3 1 (Y b j) (C b j).length ((C b j).map (.int .i64))
 apart : ∀ b j b' j' g, j < n → j' < n → (Y b j).ownBlock = some g → (Y b' j').ownBlock = some g → b = b' ∧ j = j'
 size : B ≤ w.heap.size
theorem row_at {w : World} {base e size n : Nat} {v : Value} {xs : List Value} (h : w.ownsRow base e size v n xs) {g : Nat} (hg : v.ownBlock = some g) : base ≤ g ∧ g < w.heap.size := by
 obtain ⟨h1, h2⟩ := h
 rcases h2 with ⟨rfl, _⟩ | ⟨g', cap, cur, rfl, b, c, _⟩
 · cases hg
 · simp only [Value.ownBlock, Option.some.injEq] at hg
   subst hg
   exact ⟨b, heap_lt c⟩
theorem Rws.kept {B n : Nat} {D : Bool → Nat → Prop} {Y : Bool → Nat → Value} {C : Bool → Nat → List Int} {w w' : World} (h : Rws B n D Y C w) (hg : w.grownBy w' none) : Rws B n D Y C w' :=
 ⟨fun b j hj hd => (h.row b j hj hd).kept hg (by cases Value.ownBlock _ <;> simp), h.apart, Nat.le_trans h.size hg.size⟩
theorem Rws.alloc {B n : Nat} {D : Bool → Nat → Prop} {Y : Bool → Nat → Value} {C : Bool → Nat → List Int} {w : World} (h : Rws B n D Y C w) (o : Obj) : Rws B n D Y C (w.alloc o) := h.kept (World.grownBy_alloc _ _ _)
theorem Rws.drew {B n : Nat} {D : Bool → Nat → Prop} {Y : Bool → Nat → Value} {C : Bool → Nat → List Int} {w : World} (h : Rws B n D Y C w) : Rws B n D Y C w.drew :=
 ⟨fun b j hj hd => (h.row b j hj hd).drew, h.apart, h.size⟩
theorem Rws.less {B n : Nat} {D D' : Bool → Nat → Prop} {Y : Bool → Nat → Value} {C : Bool → Nat → List Int} {w : World} (h : Rws B n D Y C w) (hd : ∀ b j, j < n → D' b j → D b j) : Rws B n D' Y C w :=
 ⟨fun b j hj hd' => h.row b j hj (hd b j hj hd'), h.apart, h.size⟩
theorem Rws.lost {B n : Nat} {D D' : Bool → Nat → Prop} {Y : Bool → Nat → Value} {C : Bool → Nat → List Int} {w w' : World} (h : Rws B n D Y C w) {b0 : Bool} {j0 : Nat} (h0 : j0 < n) (hg : w.grownBy w' (Y b0 j0).ownBlock)
    (hd : ∀ b j, j < n → D' b j → D b j ∧ ¬(b = b0 ∧ j = j0)) : Rws B n D' Y C w' :=
  ⟨fun b j hj hd' => (h.row b j hj (hd b j hj hd').1).kept hg (by
   cases hb : (Y b j).ownBlock with
   | none => exact .inl rfl
   | some g => exact .inr fun e => (hd b j hj hd').2 (h.apart _ _ _ _ g hj h0 hb e.symm)), h.apart, Nat.le_trans h.size hg.size⟩
theorem Rws.append {B n : Nat} {D : Bool → Nat → Prop} {Y : Bool → Nat → Value} {C : Bool → Nat → List Int} {w w' : World} (h : Rws B n D Y C w) {b0 : Bool} {j0 : Nat} (h0 : j0 < n) (hlive : ∀ b j, j < n → D b j) {x : Int} {g cap m H : Nat} (hm : m = (C b0 j0).length + 1)
    (hown : w'.ownsRow B 3 1 (.slice (some ⟨g, 0, none⟩) m cap) m ((C b0 j0).map (.int .i64) ++ [.int .i64 x])) (hg : w.grownBy w' (Y b0 j0).ownBlock) (hat : (Y b0 j0).ownBlock = some g ∨ g = H) (hH : w.heap.size ≤ H) :
    Rws B n D (upd Y b0 j0 (.slice (some ⟨g, 0, none⟩) m cap)) (upd C b0 j0 (C b0 j0 ++ [x])) w' := by
  subst hm
  refine ⟨fun b j hj hd => ?_, fun b j b' j' q hj hj' h1 h2 => ?_, Nat.le_trans h.size hg.size⟩
  · by_cases e : b = b0 ∧ j = j0
    · obtain ⟨rfl, rfl⟩ := e
      rw [upd_eq, upd_eq]
      simpa using hown
    · rw [upd_ne _ _ e, upd_ne _ _ e]
      refine (h.row b j hj hd).kept hg ?_
      cases hb : (Y b j).ownBlock with
      | none => exact .inl rfl
      | some q => exact .inr fun e' => e (h.apart _ _ _ _ q hj h0 hb e'.symm)
  · have key : ∀ (b : Bool) (j : Nat), j < n → ¬(b = b0 ∧ j = j0) → (Y b j).ownBlock = some g → False := fun b j hj e hb => by
     rcases hat with hat | hat
     · exact e (h.apart _ _ _ _ g hj h0 hb hat)
     · have := (row_at (h.row b j hj (hlive b j hj)) hb).2
       omega
    by_cases e : b = b0 ∧ j = j0
    · by_cases e' : b' = b0 ∧ j' = j0
      · exact ⟨e.1.trans e'.1.symm, e.2.trans e'.2.symm⟩
      · rw [upd_ne _ _ e'] at h2
        obtain ⟨rfl, rfl⟩ := e
        rw [upd_eq] at h1
        have hq : g = q := by simpa [Value.ownBlock] using h1
        subst hq
        exact (key b' j' hj' e' h2).elim
    · rw [upd_ne _ _ e] at h1
      by_cases e' : b' = b0 ∧ j' = j0
      · obtain ⟨rfl, rfl⟩ := e'
        rw [upd_eq] at h2
        have hq : g = q := by simpa [Value.ownBlock] using h2
        subst hq
        exact (key b j hj e h1).elim
      · rw [upd_ne _ _ e'] at h2
        exact h.apart _ _ _ _ q hj hj' h1 h2
theorem Rws.store {B n : Nat} {D : Bool → Nat → Prop} {Y : Bool → Nat → Value} {C : Bool → Nat → List Int} {w : World} (h : Rws B n D Y C w) (a : Addr) (ha : a.block < B) (v : Value) : Rws B n D Y C (w.setCell a v) := by
 refine ⟨fun b j hj hd => ?_, h.apart, by simpa using h.size⟩
 have hr := h.row b j hj hd
 refine hr.kept (row := some a.block) ⟨rfl, rfl, rfl, by simp, fun k hk hne => Deep.blk_setCell_other _ _ _ _ (fun e => hne (by rw [e]))⟩ ?_
 cases hb : (Y b j).ownBlock with
 | none => exact .inl rfl
 | some q =>
  refine .inr fun e => ?_
  have := (row_at hr hb).1
  injection e with e
  omega
def Hds (n : Nat) (hb : Bool → Nat) (Y : Bool → Nat → Value) (w : World) : Prop := ∀ b, w.rowIs (hb b) 107 n (Y b)
theorem Hds.kept {n : Nat} {hb : Bool → Nat} {Y : Bool → Nat → Value} {w w' : World} {r : Option Nat} (h : Hds n hb Y w) (hg : w.grownBy w' r) (hr : ∀ b, some (hb b) ≠ r) : Hds n hb Y w' :=
 fun b => (h b).of_block (hg.block _ (h b).lt (hr b))
theorem Hds.alloc {n : Nat} {hb : Bool → Nat} {Y : Bool → Nat → Value} {w : World} (h : Hds n hb Y w) (o : Obj) : Hds n hb Y (w.alloc o) := fun b => (h b).alloc o
theorem Hds.drew {n : Nat} {hb : Bool → Nat} {Y : Bool → Nat → Value} {w : World} (h : Hds n hb Y w) : Hds n hb Y w.drew := fun b => (h b).drew
theorem Hds.store {n : Nat} {hb : Bool → Nat} {Y : Bool → Nat → Value} {w : World} (h : Hds n hb Y w) (hne : hb true ≠ hb false) (b0 : Bool) (j0 : Nat) (v : Value) : Hds n hb (upd Y b0 j0 v) (w.setCell ⟨hb b0, j0, none⟩ v) := fun b => by
 by_cases e : b = b0
 · subst e
   refine ((h b).set j0 v).congr fun i hi => ?_
   by_cases hij : i = j0
   · subst hij
     rw [if_pos rfl, upd_eq]
   · rw [if_neg hij, upd_ne _ _ (fun e => hij e.2)]
 · refine ((h b).setOther (a := ⟨hb b0, j0, none⟩) (fun e' => ?_) v).congr fun i hi => ?_
   · cases b <;> cases b0 <;> simp_all
   · rw [upd_ne _ _ (fun e' => e e'.1)]
def lst (b : Bool) (j : Nat) (l : List Chn) : List Int := l.filterMap fun c => if (cond b c.2.2.1 c.1) = (j : Int) then some (cond b c.2.2.2.1 c.2.1) else none
theorem lst_snoc (l : List Chn) (c : Chn) (t f : Nat) (h1 : c.2.2.1 = t) (h2 : c.1 = f) : (fun b j => lst b j (l ++ [c])) = upd (upd (fun b j => lst b j l) true t (lst true t l ++ [c.2.2.2.1])) false f (lst false f l ++ [c.2.1]) := by
 funext b j
 unfold lst
 rw [List.filterMap_append]
 cases b with
 | true =>
  rw [upd_ne _ _ (by simp)]
  by_cases e : j = t
  · subst e
    rw [upd_eq]
    simp [h1]
  · rw [upd_ne _ _ (by simp [e])]
    have : ¬ ((t : Int) = j) := by omega
    simp [h1, this]
 | false =>
  by_cases e : j = f
  · subst e
    rw [upd_eq]
    simp [h2]
  · rw [upd_ne _ _ (by simp [e]), upd_ne _ _ (by simp)]
    have : ¬ ((f : Int) = j) := by omega
    simp [h2, this]
def okC (n : Nat) (c : Chn) : Bool := decide (0 ≤ min c.1 c.2.2.1) && (decide (max c.1 c.2.2.1 < n) && (decide (1 ≤ c.2.2.2.2.1) && decide (c.2.2.2.2.1 ≤ 8)))
def inc (p c : Chn) : Bool := decide (p.1 < c.1) || (decide (p.1 = c.1) && decide (p.2.1 < c.2.1))
def chk (n : Nat) : Option Chn → List Chn → Bool
 | _, [] => true
 | p, c :: l => okC n c && ((match p with | none => true | some p => inc p c) && chk n (some c) l)
def fin (chs : List Chn) : Nat → List Opr → Bool
 | _, [] => true
 | j, o :: l => endsP (lst true j chs) (bnd o.1).1 (bnd o.1).2.1 && (endsP (lst false j chs) (bnd o.1).2.2.1 (bnd o.1).2.2.2 && fin chs (j + 1) l)
def joinedP (ops : List Opr) (chs : List Chn) : Bool := chk ops.length none chs && fin chs 0 ops
theorem drop_cons {α : Type} {xs : List α} {q : Nat} {x : α} (h : xs[q]? = some x) : xs.drop q = x :: xs.drop (q + 1) := by
 obtain ⟨hl, he⟩ := List.getElem?_eq_some_iff.1 h
 rw [List.drop_eq_getElem_cons hl, he]
def incO : Option Chn → Chn → Bool
 | none, _ => true
 | some p, c => inc p c
theorem chk_cons (n : Nat) (p : Option Chn) (c : Chn) (l : List Chn) : chk n p (c :: l) = (okC n c && (incO p c && chk n (some c) l)) := by cases p <;> rfl
theorem bad_ok {ops : List Opr} {chs : List Chn} {k n : Nat} {p : Option Chn} {c : Chn} (hn : n = ops.length) (h : chk n none chs = chk n p (chs.drop k)) (hc : chs[k]? = some c) (ho : okC n c = false) : joinedP ops chs = false := by
 rw [drop_cons hc, chk_cons, ho, Bool.false_and] at h
 rw [joinedP, ← hn, h, Bool.false_and]
theorem bad_inc {ops : List Opr} {chs : List Chn} {k n : Nat} {p c : Chn} (hn : n = ops.length) (h : chk n none chs = chk n (some p) (chs.drop k)) (hc : chs[k]? = some c) (ho : inc p c = false) : joinedP ops chs = false := by
 rw [drop_cons hc, chk_cons, show incO (some p) c = false from ho, Bool.false_and, Bool.and_false] at h
 rw [joinedP, ← hn, h, Bool.false_and]
theorem good_step {chs : List Chn} {k n : Nat} {p : Option Chn} {c : Chn} (h : chk n none chs = chk n p (chs.drop k)) (hc : chs[k]? = some c) (ho : okC n c = true) (hi : ∀ q, p = some q → inc q c = true) : chk n none chs = chk n (some c) (chs.drop (k + 1)) := by
 rw [h, drop_cons hc, chk_cons, ho]
 cases p with
 | none => simp [incO]
 | some q => simp [incO, hi q rfl]
end Tj
