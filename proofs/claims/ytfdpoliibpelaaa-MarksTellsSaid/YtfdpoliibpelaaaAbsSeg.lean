/- Code in segments: from cut to cut. -/
import Derived.Test.YtfdpoliibpelaaaAbsTDraw
set_option linter.unusedVariables false
set_option linter.unusedSimpArgs false
set_option linter.unusedSectionVars false
namespace Go.Abs

/- what is left to do -/
inductive Fr where
  | code (c : ACode)
  | blk (id : Nat)
  | lp (c : ACode)
inductive CompF (P : Program) : List Item → List Fr → Prop where
  | nil : CompF P [] []
  | code (C : Code) (c : ACode) (its : List Item) (frs : List Fr) (h : comp P C = some c) (hs : CompF P its frs) : CompF P (.code C :: its) (.code c :: frs)
  | blk (id : Nat) (its : List Item) (frs : List Fr) (hs : CompF P its frs) : CompF P (.inBlock id :: its) (.blk id :: frs)
  | lp (C : Code) (c : ACode) (its : List Item) (frs : List Fr) (h : comp P C = some c) (hs : CompF P its frs) : CompF P (.inLoop C :: its) (.lp c :: frs)

def KW (P : Program) (its : List Item) (Q : Exit → Act → World → Prop) (a : Act) (w : World) : Prop :=
  ∀ (b : Frame) (k : List Item) (cs : List Frame), ∃ e a' w', Q e a' w' ∧ Arrives P (lone (b.at a (its ++ k)) cs w) b k cs e a' w'

def KAW (P : Program) (frs : List Fr) (Q : Exit → St → Prop) (st : St) : Prop :=
  ∀ its, CompF P its frs → ∀ B w0 ι a w, SR B w0 st ι a w → KW P its (Post B w0 0 st.heap ι w Q) a w

def exitF (id : Nat) : List Fr → Option (List Fr)
  | [] => none
  | .blk i :: frs => if i = id then some frs else exitF id frs
  | _ :: frs => exitF id frs

section
variable {P : Program} {Q : Exit → St → Prop} {st : St} {frs : List Fr}

theorem KW.step {its its' : List Item} {Q : Exit → Act → World → Prop} {a : Act} {w : World} (hs : ∀ (b : Frame) (k : List Item) (cs : List Frame), Go.step P (lone (b.at a (its ++ k)) cs w) = .next (lone (b.at a (its' ++ k)) cs w)) (h : KW P its' Q a w) : KW P its Q a w := fun b k cs => by
  obtain ⟨e, a', w', q, r⟩ := h b k cs
  exact ⟨e, a', w', q, .of_steps (.one (hs b k cs)) r⟩

theorem KAW.weak {st' : St} (hw : Weak 0 st st') (h : KAW P frs Q st') : KAW P frs Q st := fun its hc B w0 ι a w hs b k cs => by
  obtain ⟨κ, h1, h2⟩ := hw.2 B w0 ι a w hs (Nat.zero_le _)
  obtain ⟨e, a', w', q, r⟩ := h its hc B w0 κ a w h1 b k cs
  exact ⟨e, a', w', post_trans h2 q, r⟩

theorem KAW.here (h : Q .normal st) : KAW P [] Q st := fun its hc B w0 ι a w hs b k cs => by
  cases hc
  exact ⟨.normal, a, w, post_here hs (Nat.zero_le _) h, Steps.refl _ _⟩

theorem KAW.ret (h : Q .ret st) : KAW P (.code .ret :: frs) Q st := fun its hc B w0 ι a w hs b k cs => by
  cases hc with
  | code C c its frs hC hs' =>
    have hsh := comp_shape hC
    dsimp only at hsh
    subst hsh
    exact ⟨.ret, a, w, post_here hs (Nat.zero_le _) h, _, .one step_ret⟩

/-- code that ends as usual -/
theorem KAW.code {c : ACode} {Q' : Exit → St → Prop} (h : AW P 0 c Q' st) (hn : ∀ e s, Q' e s → e = .normal ∧ KAW P frs Q s) : KAW P (.code c :: frs) Q st := fun its hc B w0 ι a w hs b k cs => by
  cases hc with
  | code C c its frs hC hs' =>
    obtain ⟨e, a1, w1, ⟨s1, ι1, g1, g2, g3⟩, harr⟩ := h C hC B w0 ι a w hs (Nat.zero_le _) b (its ++ k) cs
    obtain ⟨rfl, hk⟩ := hn e s1 g3
    obtain ⟨e2, a2, w2, q2, r2⟩ := hk its hs' B w0 ι1 a1 w1 g1 b k cs
    exact ⟨e2, a2, w2, post_trans g2 q2, .of_steps harr r2⟩

theorem KAW.skip (h : KAW P frs Q st) : KAW P (.code .skip :: frs) Q st :=
  .code (Q' := fun e s => e = .normal ∧ s = st) (.skip ⟨rfl, rfl⟩) fun e s ⟨h1, h2⟩ => ⟨h1, by rw [h2]; exact h⟩

theorem KAW.seq {x y : ACode} (h : KAW P (.code x :: .code y :: frs) Q st) : KAW P (.code (.seq x y) :: frs) Q st := fun its hc B w0 ι a w hs => by
  cases hc with
  | code C c its frs hC hs' =>
    obtain ⟨c1, c2, rfl, h1, h2⟩ := comp_shape hC
    exact .step (fun b k cs => step_seq) (h _ (.code c1 x _ _ h1 (.code c2 y _ _ h2 hs')) B w0 ι a w hs)

theorem KAW.cond {z : AOpd} {x y : ACode} {t : Bool} (hz : z.eval st.slots = .p (.bool t)) (h : KAW P (.code (if t then x else y) :: frs) Q st) : KAW P (.code (.cond z x y) :: frs) Q st := fun its hc B w0 ι a w hs => by
  cases hc with
  | code C c its frs hC hs' =>
    obtain ⟨o, c1, c2, rfl, h0, h1, h2⟩ := comp_shape hC
    have hv := opd_rel (a := a) hs.slot hs.len h0
    rw [hz] at hv
    have he : a.eval o = .bool t := by
      generalize a.eval o = v at hv
      cases hv with | p _ _ hv => cases hv; rfl
    cases t
    · exact .step (its' := .code c2 :: its) (fun b k cs => step_cond (t := false) he) (h _ (.code c2 y _ _ h2 hs') B w0 ι a w hs)
    · exact .step (its' := .code c1 :: its) (fun b k cs => step_cond (t := true) he) (h _ (.code c1 x _ _ h1 hs') B w0 ι a w hs)

theorem KAW.block {id : Nat} {x : ACode} (h : KAW P (.code x :: .blk id :: frs) Q st) : KAW P (.code (.block id x) :: frs) Q st := fun its hc B w0 ι a w hs => by
  cases hc with
  | code C c its frs hC hs' =>
    obtain ⟨c1, rfl, h1⟩ := comp_shape hC
    exact .step (fun b k cs => step_block) (h _ (.code c1 x _ _ h1 (.blk id _ _ hs')) B w0 ι a w hs)

theorem KAW.unblk {id : Nat} (h : KAW P frs Q st) : KAW P (.blk id :: frs) Q st := fun its hc B w0 ι a w hs => by
  cases hc with
  | blk id its frs hs' => exact .step (fun b k cs => step_inBlock) (h _ hs' B w0 ι a w hs)

theorem KAW.loop {x : ACode} (h : KAW P (.code x :: .lp x :: frs) Q st) : KAW P (.code (.loop x) :: frs) Q st := fun its hc B w0 ι a w hs => by
  cases hc with
  | code C c its frs hC hs' =>
    obtain ⟨c1, rfl, h1⟩ := comp_shape hC
    exact .step (fun b k cs => step_loop) (h _ (.code c1 x _ _ h1 (.lp c1 x _ _ h1 hs')) B w0 ι a w hs)

theorem KAW.again {x : ACode} (h : KAW P (.code x :: .lp x :: frs) Q st) : KAW P (.lp x :: frs) Q st := fun its hc B w0 ι a w hs => by
  cases hc with
  | lp C c its frs hC hs' => exact .step (fun b k cs => step_inLoop) (h _ (.code C x _ _ hC (.lp C x _ _ hC hs')) B w0 ι a w hs)

theorem exit_items : ∀ {its : List Item} {frs frs' : List Fr} {id : Nat}, CompF P its frs → exitF id frs = some frs' → ∃ its', CompF P its' frs' ∧ ∀ k, exitTo id (its ++ k) = some (its' ++ k)
  | _, _, frs', id, .nil, h => by simp [exitF] at h
  | _, _, frs', id, .code C c its frs _ hs, h => by
    simp only [exitF] at h
    obtain ⟨its', h1, h2⟩ := exit_items hs h
    exact ⟨its', h1, fun k => by simpa [exitTo] using h2 k⟩
  | _, _, frs', id, .lp C c its frs _ hs, h => by
    simp only [exitF] at h
    obtain ⟨its', h1, h2⟩ := exit_items hs h
    exact ⟨its', h1, fun k => by simpa [exitTo] using h2 k⟩
  | _, _, frs', id, .blk i its frs hs, h => by
    simp only [exitF] at h
    split at h
    · rename_i e
      subst e
      obtain rfl := Option.some.inj h
      exact ⟨its, hs, fun k => by simp [exitTo]⟩
    · rename_i e
      obtain ⟨its', h1, h2⟩ := exit_items hs h
      refine ⟨its', h1, fun k => ?_⟩
      show (if (i == id) = true then _ else _) = _
      rw [if_neg (by simpa using e)]
      exact h2 k

theorem KAW.exit {id : Nat} {frs' : List Fr} (he : exitF id frs = some frs') (h : KAW P frs' Q st) : KAW P (.code (.exit id) :: frs) Q st := fun its hc B w0 ι a w hs => by
  cases hc with
  | code C c its frs hC hs' =>
    have hsh := comp_shape hC
    dsimp only at hsh
    subst hsh
    obtain ⟨its', h1, h2⟩ := exit_items hs' he
    exact .step (fun b k cs => step_exit (h2 k)) (h _ h1 B w0 ι a w hs)

theorem AW.of_KAW {c : ACode} (h : KAW P [.code c] Q st) : AW P 0 c Q st := fun C hC B w0 ι a w hs _ b k cs => by
  simpa using h _ (.code C c _ _ hC .nil) B w0 ι a w hs b k cs
end

/- code with cuts -/
inductive CCode where
  | skip
  | reg (pre : Option (List Nat)) (steps : List AStep)
  | seq (a b : CCode)
  | cond (c : AOpd) (a b : CCode)
  | block (id : Nat) (c : CCode)
  | loop (i : Nat) (c : CCode)
  | cut (i : Nat) (c : CCode)
  | exit (id : Nat)
  | ret
  | bad
  deriving Inhabited
def CCode.er : CCode → ACode
  | .skip => .skip
  | .reg p ss => .reg p ss
  | .seq a b => .seq a.er b.er
  | .cond z a b => .cond z a.er b.er
  | .block id a => .block id a.er
  | .loop _ a => .loop a.er
  | .cut _ a => a.er
  | .exit id => .exit id
  | .ret => .ret
  | .bad => .bad

/-- cuts at the loops, and behind the sequences of a list -/
def annot (cs : List Nat) : ACode → Nat → CCode × Nat
  | .skip, n => (.skip, n)
  | .reg p ss, n => (.reg p ss, n)
  | .seq a b, n => (.seq (annot cs a (n + 1)).1 (if cs.contains n then .cut n (annot cs b (annot cs a (n + 1)).2).1 else (annot cs b (annot cs a (n + 1)).2).1), (annot cs b (annot cs a (n + 1)).2).2)
  | .cond z a b, n => (.cond z (annot cs a n).1 (annot cs b (annot cs a n).2).1, (annot cs b (annot cs a n).2).2)
  | .block id a, n => (.block id (annot cs a n).1, (annot cs a n).2)
  | .loop a, n => (.loop n (annot cs a (n + 1)).1, (annot cs a (n + 1)).2)
  | .exit id, n => (.exit id, n)
  | .ret, n => (.ret, n)
  | .bad, n => (.bad, n)
theorem annot_er (cs : List Nat) : ∀ (a : ACode) (n : Nat), (annot cs a n).1.er = a
  | .skip, n => rfl
  | .reg p ss, n => rfl
  | .seq a b, n => by
    simp only [annot, CCode.er, annot_er cs a]
    split <;> simp [CCode.er, annot_er cs b]
  | .cond z a b, n => by simp [annot, CCode.er, annot_er cs a, annot_er cs b]
  | .block id a, n => by simp [annot, CCode.er, annot_er cs a]
  | .loop a, n => by simp [annot, CCode.er, annot_er cs a]
  | .exit id, n => rfl
  | .ret, n => rfl
  | .bad, n => rfl

abbrev Cuts := List (Nat × Cut)
def cutOf : Cuts → Nat → Cut
  | [], _ => []
  | (j, c) :: rest, i => if j = i then c else cutOf rest i

section
variable {R : Type} {P : Program}

def runC (tab : Tab) (J : Nat → TSt → Option R) : CCode → TSt → (TSt → Option R) → (Nat → TSt → Option R) → (TSt → Option R) → Option R
  | .skip, st, kn, _, _ => kn st
  | .reg none ss, st, kn, _, _ => tsteps tab ss st kn
  | .reg (some pre) ss, st, kn, _, _ => txsteps tab (ordT pre ss) ss [] st kn
  | .seq a b, st, kn, ke, kr => runC tab J a st (fun s => runC tab J b s kn ke kr) ke kr
  | .cond z a b, st, kn, ke, kr => match z with
    | .t d => tforce st d (fun t s => match t with | true => runC tab J a s kn ke kr | false => runC tab J b s kn ke kr) none
    | .c (.p (.bool true)) => runC tab J a st kn ke kr
    | .c (.p (.bool false)) => runC tab J b st kn ke kr
    | _ => none
  | .block id a, st, kn, ke, kr => runC tab J a st kn (fun id' s => if id' = id then kn s else ke id' s) kr
  | .loop i _, st, _, _, _ => J i st
  | .cut i _, st, _, _, _ => J i st
  | .exit id, st, _, ke, _ => ke id st
  | .ret, st, _, _, kr => kr st
  | .bad, _, _, _, _ => none

def segsOf (tab : Tab) (J : Nat → TSt → Option R) : CCode → (TSt → Option R) → (Nat → TSt → Option R) → (TSt → Option R) → List (Nat × (TSt → Option R))
  | .seq a b, kn, ke, kr => segsOf tab J a (fun s => runC tab J b s kn ke kr) ke kr ++ segsOf tab J b kn ke kr
  | .cond _ a b, kn, ke, kr => segsOf tab J a kn ke kr ++ segsOf tab J b kn ke kr
  | .block id a, kn, ke, kr => segsOf tab J a kn (fun id' s => if id' = id then kn s else ke id' s) kr
  | .loop i a, kn, ke, kr => (i, fun s => runC tab J a s (J i) ke kr) :: segsOf tab J a (J i) ke kr
  | .cut i a, kn, ke, kr => (i, fun s => runC tab J a s kn ke kr) :: segsOf tab J a kn ke kr
  | _, _, _, _ => []

def Pos (F : Nat → List Fr) : CCode → List Fr → Prop
  | .seq a b, frs => Pos F a (.code b.er :: frs) ∧ Pos F b frs
  | .cond _ a b, frs => Pos F a frs ∧ Pos F b frs
  | .block id a, frs => Pos F a (.blk id :: frs)
  | .loop i a, frs => F i = .code a.er :: .lp a.er :: frs ∧ Pos F a (.lp a.er :: frs)
  | .cut i a, frs => F i = .code a.er :: frs ∧ Pos F a frs
  | _, _ => True
def posOf : CCode → List Fr → List (Nat × List Fr)
  | .seq a b, frs => posOf a (.code b.er :: frs) ++ posOf b frs
  | .cond _ a b, frs => posOf a frs ++ posOf b frs
  | .block id a, frs => posOf a (.blk id :: frs)
  | .loop i a, frs => (i, .code a.er :: .lp a.er :: frs) :: posOf a (.lp a.er :: frs)
  | .cut i a, frs => (i, .code a.er :: frs) :: posOf a frs
  | _, _ => []
def idxs : CCode → List Nat
  | .seq a b => idxs a ++ idxs b
  | .cond _ a b => idxs a ++ idxs b
  | .block _ a => idxs a
  | .loop i a => i :: idxs a
  | .cut i a => i :: idxs a
  | _ => []
theorem posOf_idxs : ∀ (c : CCode) (frs : List Fr), (posOf c frs).map (·.1) = idxs c
  | .seq a b, frs => by simp [posOf, idxs, posOf_idxs a, posOf_idxs b]
  | .cond _ a b, frs => by simp [posOf, idxs, posOf_idxs a, posOf_idxs b]
  | .block _ a, frs => by simp [posOf, idxs, posOf_idxs a]
  | .loop i a, frs => by simp [posOf, idxs, posOf_idxs a]
  | .cut i a, frs => by simp [posOf, idxs, posOf_idxs a]
  | .skip, _ => rfl
  | .reg _ _, _ => rfl
  | .exit _, _ => rfl
  | .ret, _ => rfl
  | .bad, _ => rfl
theorem pos_of (F : Nat → List Fr) : ∀ (c : CCode) (frs : List Fr), (∀ p ∈ posOf c frs, F p.1 = p.2) → Pos F c frs
  | .seq a b, frs, h => ⟨pos_of F a _ fun p hp => h p (by simp [posOf, hp]), pos_of F b _ fun p hp => h p (by simp [posOf, hp])⟩
  | .cond _ a b, frs, h => ⟨pos_of F a _ fun p hp => h p (by simp [posOf, hp]), pos_of F b _ fun p hp => h p (by simp [posOf, hp])⟩
  | .block _ a, frs, h => pos_of F a _ fun p hp => h p (by simpa [posOf] using hp)
  | .loop i a, frs, h => ⟨h (i, _) (by simp [posOf]), pos_of F a _ fun p hp => h p (by simp [posOf, hp])⟩
  | .cut i a, frs, h => ⟨h (i, _) (by simp [posOf]), pos_of F a _ fun p hp => h p (by simp [posOf, hp])⟩
  | .skip, _, _ => trivial
  | .reg _ _, _, _ => trivial
  | .exit _, _, _ => trivial
  | .ret, _, _ => trivial
  | .bad, _, _ => trivial
def lookF : List (Nat × List Fr) → Nat → List Fr
  | [], _ => []
  | (j, f) :: rest, i => if j = i then f else lookF rest i
theorem lookF_mem : ∀ {l : List (Nat × List Fr)}, (l.map (·.1)).Nodup → ∀ p ∈ l, lookF l p.1 = p.2
  | [], _, p, hp => by cases hp
  | (j, f) :: rest, hn, p, hp => by
    simp only [List.map_cons, List.nodup_cons] at hn
    rcases List.mem_cons.1 hp with rfl | hp
    · simp [lookF]
    · have hne : j ≠ p.1 := fun e => hn.1 (by rw [e]; exact List.mem_map.2 ⟨p, hp, rfl⟩)
      simp only [lookF, if_neg hne]
      exact lookF_mem hn.2 p hp

section
variable {tab : Tab} {J : Nat → TSt → Option R} {F : Nat → List Fr} {Q : R → Exit → St → Prop}
variable (ht : tab.ok P) (hcb : ∀ f c, tab f = some c → callable P f = true) (hJ : ∀ i st r, J i st = some r → KAW P (F i) (Q r) st.er)
include ht hcb hJ

theorem runC_s : ∀ (c : CCode) (frs : List Fr) {kn : TSt → Option R} {ke : Nat → TSt → Option R} {kr : TSt → Option R} {st : TSt} {r : R}, Pos F c frs →
    (∀ st r, kn st = some r → KAW P frs (Q r) st.er) → (∀ id st r, ke id st = some r → ∃ frs', exitF id frs = some frs' ∧ KAW P frs' (Q r) st.er) → (∀ st r, kr st = some r → ∀ frs, KAW P (.code .ret :: frs) (Q r) st.er) →
    runC tab J c st kn ke kr = some r → KAW P (.code c.er :: frs) (Q r) st.er
  | .skip, frs, kn, ke, kr, st, r, hp, hn, he, hr, h => .skip (hn st r h)
  | .reg none ss, frs, kn, ke, kr, st, r, hp, hn, he, hr, h => by
    obtain ⟨st', h1, h2⟩ := tsteps_s ht hcb (show tsteps tab ss st kn = some r from h)
    exact .code (Q' := fun e s => e = .normal ∧ s = st'.er) (.reg h1 ⟨rfl, rfl⟩) fun e s ⟨h3, h4⟩ => ⟨h3, by rw [h4]; exact hn st' r h2⟩
  | .reg (some pre) ss, frs, kn, ke, kr, st, r, hp, hn, he, hr, h => by
    have hd := txsteps_s ht (show txsteps tab (ordT pre ss) ss [] st kn = some r from h)
    refine .code (Q' := fun e s => e = .normal ∧ ∃ ts : TSt, s = ts.er ∧ kn ts = some r) (.drawE ?_) fun e s ⟨h3, ts, h4, h5⟩ => ⟨h3, by rw [h4]; exact hn ts r h5⟩
    obtain ⟨L, st', a, b, c, d⟩ := hd
    exact ⟨L, st', a, b, c, rfl, d⟩
  | .seq a b, frs, kn, ke, kr, st, r, hp, hn, he, hr, h => by
    refine .seq (runC_s a (.code b.er :: frs) hp.1 (fun st r h1 => runC_s b frs hp.2 hn he hr h1) (fun id st r h1 => ?_) hr h)
    obtain ⟨frs', h2, h3⟩ := he id st r h1
    exact ⟨frs', by simpa [exitF] using h2, h3⟩
  | .cond z a b, frs, kn, ke, kr, st, r, hp, hn, he, hr, h => by
    simp only [runC] at h
    split at h
    · rename_i d
      rcases tforce_s h with ⟨t, st', h1, h2, h3⟩ | h
      · have hz : (AOpd.t d).eval st.er.slots = .p (.bool t) := by
          show (erL st.slots).getD d .any = _
          rw [List.getD_eq_getElem?_getD, h2]
          rfl
        refine .cond (t := t) hz ?_
        rw [← h1]
        cases t with
        | true => exact runC_s a frs hp.1 hn he hr h3
        | false => exact runC_s b frs hp.2 hn he hr h3
      · cases h
    · exact .cond (t := true) rfl (runC_s a frs hp.1 hn he hr h)
    · exact .cond (t := false) rfl (runC_s b frs hp.2 hn he hr h)
    · cases h
  | .block id a, frs, kn, ke, kr, st, r, hp, hn, he, hr, h => by
    refine .block (runC_s a (.blk id :: frs) hp (fun st r h1 => .unblk (hn st r h1)) (fun id' st r h1 => ?_) hr h)
    by_cases e : id' = id
    · subst e
      simp only [if_true] at h1
      exact ⟨frs, by simp [exitF], hn st r h1⟩
    · simp only [if_neg e] at h1
      obtain ⟨frs', h2, h3⟩ := he id' st r h1
      exact ⟨frs', by simp only [exitF]; rw [if_neg (fun h => e h.symm)]; exact h2, h3⟩
  | .loop i a, frs, kn, ke, kr, st, r, hp, hn, he, hr, h => by
    have := hJ i st r h
    rw [hp.1] at this
    exact .loop this
  | .cut i a, frs, kn, ke, kr, st, r, hp, hn, he, hr, h => by
    have := hJ i st r h
    rw [hp.1] at this
    exact this
  | .exit id, frs, kn, ke, kr, st, r, hp, hn, he, hr, h => by
    obtain ⟨frs', h2, h3⟩ := he id st r h
    exact .exit h2 h3
  | .ret, frs, kn, ke, kr, st, r, hp, hn, he, hr, h => hr st r h frs
  | .bad, frs, kn, ke, kr, st, r, hp, hn, he, hr, h => by cases h

theorem segs_s : ∀ (c : CCode) (frs : List Fr) {kn : TSt → Option R} {ke : Nat → TSt → Option R} {kr : TSt → Option R}, Pos F c frs →
    (∀ st r, kn st = some r → KAW P frs (Q r) st.er) → (∀ id st r, ke id st = some r → ∃ frs', exitF id frs = some frs' ∧ KAW P frs' (Q r) st.er) → (∀ st r, kr st = some r → ∀ frs, KAW P (.code .ret :: frs) (Q r) st.er) →
    ∀ p ∈ segsOf tab J c kn ke kr, ∀ st r, p.2 st = some r → KAW P (F p.1) (Q r) st.er
  | .seq a b, frs, kn, ke, kr, hp, hn, he, hr, p, hm, st, r, h => by
    simp only [segsOf, List.mem_append] at hm
    rcases hm with hm | hm
    · refine segs_s a (.code b.er :: frs) hp.1 (fun st r h1 => runC_s ht hcb hJ b frs hp.2 hn he hr h1) (fun id st r h1 => ?_) hr p hm st r h
      obtain ⟨frs', h2, h3⟩ := he id st r h1
      exact ⟨frs', by simpa [exitF] using h2, h3⟩
    · exact segs_s b frs hp.2 hn he hr p hm st r h
  | .cond z a b, frs, kn, ke, kr, hp, hn, he, hr, p, hm, st, r, h => by
    simp only [segsOf, List.mem_append] at hm
    rcases hm with hm | hm
    · exact segs_s a frs hp.1 hn he hr p hm st r h
    · exact segs_s b frs hp.2 hn he hr p hm st r h
  | .block id a, frs, kn, ke, kr, hp, hn, he, hr, p, hm, st, r, h => by
    refine segs_s a (.blk id :: frs) hp (fun st r h1 => .unblk (hn st r h1)) (fun id' st r h1 => ?_) hr p hm st r h
    by_cases e : id' = id
    · subst e
      simp only [if_true] at h1
      exact ⟨frs, by simp [exitF], hn st r h1⟩
    · simp only [if_neg e] at h1
      obtain ⟨frs', h2, h3⟩ := he id' st r h1
      exact ⟨frs', by simp only [exitF]; rw [if_neg (fun h => e h.symm)]; exact h2, h3⟩
  | .loop i a, frs, kn, ke, kr, hp, hn, he, hr, p, hm, st, r, h => by
    have hJi : ∀ st r, J i st = some r → KAW P (.lp a.er :: frs) (Q r) st.er := fun st r h1 => by
      have := hJ i st r h1
      rw [hp.1] at this
      exact .again this
    have he' : ∀ id st r, ke id st = some r → ∃ frs', exitF id (.lp a.er :: frs) = some frs' ∧ KAW P frs' (Q r) st.er := fun id st r h1 => by
      obtain ⟨frs', h2, h3⟩ := he id st r h1
      exact ⟨frs', by simpa [exitF] using h2, h3⟩
    simp only [segsOf, List.mem_cons] at hm
    rcases hm with rfl | hm
    · rw [hp.1]
      exact runC_s ht hcb hJ a (.lp a.er :: frs) hp.2 hJi he' hr h
    · exact segs_s a (.lp a.er :: frs) hp.2 hJi he' hr p hm st r h
  | .cut i a, frs, kn, ke, kr, hp, hn, he, hr, p, hm, st, r, h => by
    simp only [segsOf, List.mem_cons] at hm
    rcases hm with rfl | hm
    · rw [hp.1]
      exact runC_s ht hcb hJ a frs hp.2 hn he hr h
    · exact segs_s a frs hp.2 hn he hr p hm st r h
  | .skip, _, _, _, _, _, _, _, _, p, hm, _, _, _ => by simp [segsOf] at hm
  | .reg _ _, _, _, _, _, _, _, _, _, p, hm, _, _, _ => by simp [segsOf] at hm
  | .exit _, _, _, _, _, _, _, _, _, p, hm, _, _, _ => by simp [segsOf] at hm
  | .ret, _, _, _, _, _, _, _, _, p, hm, _, _, _ => by simp [segsOf] at hm
  | .bad, _, _, _, _, _, _, _, _, p, hm, _, _, _ => by simp [segsOf] at hm
end

/- what comes back -/
def rcS (h : List TObj) (bad : List Nat) (e size : Nat) (ts : List CT) (v : TV) : Option (List (denL ts)) :=
  match v with
  | .row t ver => match tget h t ver with
    | some o => if o.e = e ∧ o.size = size then frzTE (frzT h bad 6) ts o.el else none
    | none => none
  | _ => none
theorem rcS_er {h : List TObj} {bad : List Nat} {e size : Nat} {ts : List CT} {v : TV} {y : List (denL ts)} (hv : rcS h bad e size ts v = some y) : rcOf (erH h) bad true v.er = some (.s e size (y.map (pvL ts))) := by
  unfold rcS at hv
  split at hv
  · split at hv
    · rename_i o ho
      split at hv
      · rename_i hc
        have h1 := frzTE_er (g := frz (erH h) bad 6) (fun t x v => frzT_er) (fun x => rfl) hv
        simp only [TV.er, rcOf, if_true, tget_er ho]
        rw [show o.er.elems = o.el.er from rfl, h1]
        simp only [← hc.1, ← hc.2]
        rfl
      · cases hv
    · cases hv
  · cases hv
def rcV (h : List TObj) (bad : List Nat) : (x : RCT) → TV → Option x.den
  | .p t, v => match v with
    | .row _ _ => none
    | v => frzT h bad 6 t v
  | .s e size ts, v => rcS h bad e size ts v
def rcVs (h : List TObj) (bad : List Nat) : (xs : List RCT) → List TV → Option (denRC xs)
  | [], [] => some ()
  | x :: xs, v :: vs => match rcV h bad x v, rcVs h bad xs vs with | some a, some b => some (a, b) | _, _ => none
  | [], _ :: _ => none
  | _ :: _, [] => none
def raV (h : List TObj) (bad : List Nat) : (x : RT) → TV → Option x.den
  | .c x, v => match v with
    | .agg _ => none
    | v => rcV h bad x v
  | .a xs, v => match v with | .agg cs => rcVs h bad xs cs | _ => none
def raVs (h : List TObj) (bad : List Nat) : (xs : List RT) → List TV → Option (denRs xs)
  | [], [] => some ()
  | x :: xs, v :: vs => match raV h bad x v, raVs h bad xs vs with | some a, some b => some (a, b) | _, _ => none
  | [], _ :: _ => none
  | _ :: _, [] => none

theorem rcOf_norow {h : List AObj} {bad : List Nat} {own : Bool} {a : AV} {v : PV} (hn : ∀ t ver, a ≠ .row t ver) (hf : frz h bad 6 a = some v) : rcOf h bad own a = some (.c v) := by
  unfold rcOf
  split
  · rename_i t ver
    exact absurd rfl (hn t ver)
  · rw [hf]
theorem frzT_raw_row {h : List TObj} {bad : List Nat} {d : Nat} {t : CT} {i ver : Nat} {v : t.den} : frzT h bad (d + 1) t (.raw (.row i ver)) ≠ some v := by
  intro hf
  have hf : nilC t (.row i ver) = some v := hf
  cases t <;> cases hf
theorem rcV_er {h : List TObj} {bad : List Nat} {x : RCT} {v : TV} {y : x.den} (hv : rcV h bad x v = some y) : rcOf (erH h) bad true v.er = some (x.rc y) := by
  cases x with
  | p t =>
    have fin : (∀ t ver, v.er ≠ .row t ver) → frzT h bad 6 t v = some y → rcOf (erH h) bad true v.er = some (RCT.rc (.p t) y) := fun hne hf => rcOf_norow hne (frzT_er hf)
    cases v with
    | row i ver => cases (show (none : Option t.den) = some y from hv)
    | raw w =>
      refine fin (fun i ver e => ?_) hv
      have e : w = .row i ver := e
      subst e
      exact frzT_raw_row (h := h) (bad := bad) (d := 5) hv
    | _ => exact fin (fun _ _ e => by cases e) hv
  | s e size ts => exact rcS_er (y := y) hv
theorem rcVs_er {h : List TObj} {bad : List Nat} : ∀ {xs : List RCT} {vs : List TV} {y : denRC xs}, rcVs h bad xs vs = some y → rcsOf (erH h) bad true (erL vs) = some (rcL xs y)
  | [], [], y, hv => rfl
  | [], _ :: _, y, hv => by simp [rcVs] at hv
  | _ :: _, [], y, hv => by simp [rcVs] at hv
  | x :: xs, v :: vs, y, hv => by
    simp only [rcVs] at hv
    split at hv
    · rename_i a b ha hb
      obtain rfl := Option.some.inj hv
      simp only [erL, rcsOf, rcV_er ha, rcVs_er hb, rcL]
    · cases hv
theorem raOf_noagg {h : List AObj} {bad : List Nat} {own : Bool} {a : AV} {v : RC} (hn : ∀ cs, a ≠ .agg cs) (hf : rcOf h bad own a = some v) : raOf h bad own a = some (.c v) := by
  unfold raOf
  split
  · rename_i cs
    exact absurd rfl (hn cs)
  · rw [hf]
theorem rcV_raw_agg {h : List TObj} {bad : List Nat} {x : RCT} {cs : List AV} {y : x.den} : rcV h bad x (.raw (.agg cs)) ≠ some y := by
  intro hv
  cases x with
  | p t =>
    have hf : nilC t (.agg cs) = some y := hv
    cases t <;> cases hf
  | s e size ts => cases (show (none : Option (List (denL ts))) = some y from hv)
theorem raV_er {h : List TObj} {bad : List Nat} {x : RT} {v : TV} {y : x.den} (hv : raV h bad x v = some y) : raOf (erH h) bad true v.er = some (x.ra y) := by
  cases x with
  | c x =>
    cases v with
    | agg cs => cases (show (none : Option x.den) = some y from hv)
    | raw w =>
      refine raOf_noagg (fun cs e => ?_) (rcV_er (v := .raw w) hv)
      have e : w = .agg cs := e
      subst e
      exact rcV_raw_agg (show rcV h bad x (.raw (.agg cs)) = some y from hv)
    | p t w => exact raOf_noagg (fun _ e => by cases e) (rcV_er (v := .p t w) hv)
    | xf ts xs => exact raOf_noagg (fun _ e => by cases e) (rcV_er (v := .xf ts xs) hv)
    | row i ver => exact raOf_noagg (fun _ e => by cases e) (rcV_er (v := .row i ver) hv)
    | sl i ver lo len ex => exact raOf_noagg (fun _ e => by cases e) (rcV_er (v := .sl i ver lo len ex) hv)
    | ptr i ver j off => exact raOf_noagg (fun _ e => by cases e) (rcV_er (v := .ptr i ver j off) hv)
    | fptr ts e => exact raOf_noagg (fun _ e => by cases e) (rcV_er (v := .fptr ts e) hv)
    | tuple vs => exact raOf_noagg (fun _ e => by cases e) (rcV_er (v := .tuple vs) hv)
    | fn f caps => exact raOf_noagg (fun _ e => by cases e) (rcV_er (v := .fn f caps) hv)
  | a xs =>
    cases v with
    | agg cs =>
      have hv : rcVs h bad xs cs = some y := hv
      show (match rcsOf (erH h) bad true (erL cs) with | some l => some (RA.a l) | none => none) = _
      rw [rcVs_er hv]
      rfl
    | _ => cases (show (none : Option (denRC xs)) = some y from hv)
theorem raVs_er {h : List TObj} {bad : List Nat} : ∀ {xs : List RT} {vs : List TV} {y : denRs xs}, raVs h bad xs vs = some y → rasOf' (erH h) bad true (erL vs) = some (raL xs y)
  | [], [], y, hv => rfl
  | [], _ :: _, y, hv => by simp [raVs] at hv
  | _ :: _, [], y, hv => by simp [raVs] at hv
  | x :: xs, v :: vs, y, hv => by
    simp only [raVs] at hv
    split at hv
    · rename_i a b ha hb
      obtain rfl := Option.some.inj hv
      simp only [erL, rasOf', raV_er ha, raVs_er hb, raL]
    · cases hv

def tres1 (st : TSt) : ARes → Option TV
  | .tmp t => some (st.slots.getD t (.raw .any))
  | .cell t (some n) => tread st.heap n (st.slots.getD t (.raw .any)) fun cs => some (.agg cs)
  | .cell t none => tread st.heap 1 (st.slots.getD t (.raw .any)) fun cs => match cs with | [c] => some c | _ => none
def tresV (st : TSt) : List ARes → Option (List TV)
  | [] => some []
  | r :: rs => match tres1 st r, tresV st rs with | some x, some xs => some (x :: xs) | _, _ => none
theorem getD_er (s : List TV) (n : Nat) : (erL s).getD n .any = (s.getD n (.raw .any)).er := (tev_er s (.t n)).symm
theorem tres1_er {st : TSt} {r : ARes} {v : TV} (h : tres1 st r = some v) : res1 st.er r = some v.er := by
  cases r with
  | tmp t =>
    obtain rfl := Option.some.inj h
    exact congrArg some (getD_er st.slots t)
  | cell t m =>
    cases m with
    | some n =>
      obtain ⟨cs, h1, h2⟩ := tread_s (show tread st.heap n (st.slots.getD t (.raw .any)) (fun cs => some (.agg cs)) = some v from h)
      obtain rfl := Option.some.inj h2
      simp only [res1, TSt.er, getD_er, h1, TV.er]
    | none =>
      obtain ⟨cs, h1, h2⟩ := tread_s (show tread st.heap 1 (st.slots.getD t (.raw .any)) (fun cs => match cs with | [c] => some c | _ => none) = some v from h)
      split at h2
      · obtain rfl := Option.some.inj h2
        simp only [res1, TSt.er, getD_er, h1, erL]
      · cases h2
theorem tresV_er {st : TSt} : ∀ {rs : List ARes} {xs : List TV}, tresV st rs = some xs → resV st.er rs = some (erL xs)
  | [], xs, h => by
    obtain rfl := Option.some.inj h
    rfl
  | r :: rs, xs, h => by
    simp only [tresV] at h
    split at h
    · rename_i x ys hx hy
      obtain rfl := Option.some.inj h
      simp only [resV, tres1_er hx, tresV_er hy, erL]
    · cases h

/-- a function in segments -/
structure TFun where
  cs : List Nat
  cuts : Cuts
  args : List AT
  res : List RT
  rc : Cut

def AT.tv : (a : AT) → a.den → TV
  | .c t, v => .p t v
  | .a ts, e => .agg (tcells ts e)
def tvAs : (as : List AT) → denAs as → List TV
  | [], _ => []
  | a :: as, e => a.tv e.1 :: tvAs as e.2
def startT (nt : Nat) (args : List TV) : List TV := args ++ List.replicate (nt - args.length) (.raw .u)
theorem AT.tv_er : ∀ (a : AT) (v : a.den), (a.tv v).er = (a.pa v).av
  | .c t, v => rfl
  | .a ts, e => congrArg AV.agg (tcells_er ts e)
theorem tvAs_er : ∀ (as : List AT) (e : denAs as), erL (tvAs as e) = (pasL as e).map PA.av
  | [], _ => rfl
  | a :: as, e => by simp only [tvAs, erL, pasL, List.map_cons, AT.tv_er, tvAs_er as]
theorem startT_er (nt : Nat) (args : List TV) : erL (startT nt args) = start nt (erL args) := by
  simp [startT, start, erL_map, TV.er]

def retK (f : TFun) (res : List ARes) (st : TSt) : Option (denRs f.res) :=
  match gc f.rc st with
  | some x => match tresV (fill f.rc x) res with
    | some xs => if nodupB (tops (erL xs)) then raVs (fill f.rc x).heap (tops (erL xs)) f.res xs else none
    | none => none
  | none => none

def jumpJ (f : TFun) (J : (i : Nat) → denL (tysSh (cutOf f.cuts i) []) → Option (denRs f.res)) (i : Nat) (st : TSt) : Option (denRs f.res) :=
  match gc (cutOf f.cuts i) st with
  | some x => J i x
  | none => none

/-- the code of a function -/
def codeF (f : TFun) (af : AFun) : CCode := (annot f.cs af.body 0).1

def findS (l : List (Nat × (TSt → Option R))) (i : Nat) (st : TSt) : Option R :=
  match l with
  | [] => none
  | (j, g) :: rest => if j = i then g st else findS rest i st

/-- from a cut to the next ones -/
def seg (tab : Tab) (f : TFun) (af : AFun) (J : (i : Nat) → denL (tysSh (cutOf f.cuts i) []) → Option (denRs f.res)) (i : Nat) (x : denL (tysSh (cutOf f.cuts i) [])) : Option (denRs f.res) :=
  findS (segsOf tab (jumpJ f J) (codeF f af) (retK f af.res) (fun _ _ => none) (retK f af.res)) i (fill (cutOf f.cuts i) x)
/-- from the start -/
def seg0 (tab : Tab) (f : TFun) (af : AFun) (J : (i : Nat) → denL (tysSh (cutOf f.cuts i) []) → Option (denRs f.res)) (a : denAs f.args) : Option (denRs f.res) :=
  runC tab (jumpJ f J) (codeF f af) ⟨startT af.nt (tvAs f.args a), []⟩ (retK f af.res) (fun _ _ => none) (retK f af.res)

def iter (tab : Tab) (f : TFun) (af : AFun) : Nat → (i : Nat) → denL (tysSh (cutOf f.cuts i) []) → Option (denRs f.res)
  | 0, _, _ => none
  | n + 1, i, x => seg tab f af (iter tab f af n) i x

theorem retK_s {f : TFun} {res : List ARes} {st : TSt} {r : denRs f.res} (h : retK f res st = some r) : ∃ st', Weak 0 st.er st' ∧ ∃ xs, resV st' res = some xs ∧ rasOf st'.heap true xs = some (raL f.res r) := by
  unfold retK at h
  split at h
  · rename_i x hx
    split at h
    · rename_i xs hxs
      split at h
      · rename_i hn
        refine ⟨_, gc_weak hx, erL xs, tresV_er hxs, ?_⟩
        simp only [rasOf, if_true]
        rw [if_pos hn]
        exact raVs_er h
      · cases h
    · cases h
  · cases h

theorem findS_s {l : List (Nat × (TSt → Option R))} {i : Nat} {st : TSt} {r : R} (h : findS l i st = some r) : ∃ p ∈ l, p.1 = i ∧ p.2 st = some r := by
  induction l with
  | nil => simp [findS] at h
  | cons p l ih =>
    obtain ⟨j, g⟩ := p
    simp only [findS] at h
    split at h
    · rename_i e
      exact ⟨(j, g), by simp, e, h⟩
    · obtain ⟨p, h1, h2⟩ := ih h
      exact ⟨p, by simp [h1], h2⟩

section
variable {tab : Tab} {f : TFun} {af : AFun} (ht : tab.ok P) (hcb : ∀ g c, tab g = some c → callable P g = true) (hn : nodupB (idxs (codeF f af)) = true)
include ht hcb hn

theorem iter_s (n : Nat) : let F := lookF (posOf (codeF f af) [])
    let Q : denRs f.res → Exit → St → Prop := fun r => RetQ af.res true (raL f.res r)
    (∀ i x r, iter tab f af n i x = some r → KAW P (F i) (Q r) (fill (cutOf f.cuts i) x).er) ∧ ∀ a r, seg0 tab f af (iter tab f af n) a = some r → KAW P [.code af.body] (Q r) ⟨start af.nt ((pasL f.args a).map PA.av), []⟩ := by
  intro F Q
  have hpos : Pos F (codeF f af) [] := pos_of F _ _ fun p hp => lookF_mem (by rw [posOf_idxs]; exact nodupB_nodup hn) p hp
  have hret : ∀ st r, retK f af.res st = some r → ∀ frs, KAW P (.code .ret :: frs) (Q r) st.er := fun st r h frs => by
    obtain ⟨st', h1, xs, h2, h3⟩ := retK_s h
    exact .weak h1 (.ret ⟨.inr rfl, xs, h2, h3⟩)
  have hend : ∀ st r, retK f af.res st = some r → KAW P [] (Q r) st.er := fun st r h => by
    obtain ⟨st', h1, xs, h2, h3⟩ := retK_s h
    exact .weak h1 (.here ⟨.inl rfl, xs, h2, h3⟩)
  have jump : ∀ J : (i : Nat) → denL (tysSh (cutOf f.cuts i) []) → Option (denRs f.res), (∀ i x r, J i x = some r → KAW P (F i) (Q r) (fill (cutOf f.cuts i) x).er) → ∀ i st r, jumpJ f J i st = some r → KAW P (F i) (Q r) st.er := fun J hJ i st r h => by
    unfold jumpJ at h
    split at h
    · rename_i x hx
      exact .weak (gc_weak hx) (hJ i x r h)
    · cases h
  have main : ∀ i x r, iter tab f af n i x = some r → KAW P (F i) (Q r) (fill (cutOf f.cuts i) x).er := by
    induction n with
    | zero => intro i x r h; simp [iter] at h
    | succ n ih =>
      intro i x r h
      simp only [iter, seg] at h
      obtain ⟨p, h1, h2, h3⟩ := findS_s h
      have := segs_s ht hcb (jump _ ih) (codeF f af) [] hpos hend (fun id st r h => by cases h) hret p h1
      subst h2
      exact this _ r h3
  refine ⟨main, fun a r h => ?_⟩
  have := runC_s ht hcb (jump _ main) (codeF f af) [] hpos hend (fun id st r h => by cases h) hret h
  rw [show (codeF f af).er = af.body from annot_er _ _ _] at this
  simp only [TSt.er, startT_er, tvAs_er] at this
  exact this

/-- the contract of a function in segments -/
theorem fun_spec {g : FuncId} (hf : compFun P g = some af) (n : Nat) {a : denAs f.args} {r : denRs f.res} (h : seg0 tab f af (iter tab f af n) a = some r) : Spec P g (pasL f.args a) (raL f.res r) :=
  Spec_of hf (own := true) (.of_KAW ((iter_s ht hcb hn n).2 a r h))
end
end
end Go.Abs
