import Derived.Test.YtodnlpaialbceaaGreatDoorT
import Derived.Test.YtodnlpaialbceaaGreatDoorHS
import Derived.Test.YtodnlpaialbceaaGreatDoorSH
import Derived.Shelf.Strconv.ErrVarParseInt
/- strings.Join, as the machine takes it. -/
set_option linter.unusedVariables false
set_option linter.unusedSimpArgs false
namespace Tg
open Go Go.Abs Go.RowKit Go.Proofs
theorem joinF_eq (sep : List UInt8) : ∀ l : List (List UInt8 × Unit), joinF sep l = Lib.join (l.map (·.1)) sep
 | [] => rfl
 | [x] => by rw [joinF, List.map_cons, List.map_nil, Lib.join_one]
 | x :: y :: l => by
  rw [joinF, joinF_eq sep (y :: l)]
  simp [Lib.join]
theorem sp22 (l : List (List UInt8 × Unit)) (sep : List UInt8) (h1 : (joinF sep l).length ≤ 140737488355328) (h2 : l.length ≤ 140737488355328) : Spec Tryz.prog 22 [.c (.sl (l.map fun x => [.str x.1])), .c (.str sep)] [.c (.c (.str (joinF sep l)))] := by
 refine Spec.still (v := .string ⟨(joinF sep l).toArray⟩) (fun w O => .str _) fun O w cargs hg hp => ?_
 obtain ⟨u, v, rfl, h3, h4⟩ := arg_2 hp
 cases h4
 generalize hes : (l.map fun x => [PV.str x.1]) = es at h3
 cases h3 with
 | nil a c =>
  have hl0 : l = [] := by simpa using hes
  subst hl0
  exact (Any.strings_Join_none (ρ := Tryz.lays156_ren) Tryz.lays156 Tryz.Builder_Extra_156 a c ⟨sep.toArray⟩ w).mono fun e w' he => ⟨he.1, by rw [he.2]; exact Below.refl _ _⟩
 | sl _ a n c size u hno hlt hn hc' hsz' hcell hr =>
  have hln : n = l.length := by rw [hn, ← hes]; simp
  cases l with
  | nil =>
   simp only [List.length_nil] at hln
   subst hln
   exact (Any.strings_Join_none (ρ := Tryz.lays156_ren) Tryz.lays156 Tryz.Builder_Extra_156 (some a) c ⟨sep.toArray⟩ w).mono fun e w' he => ⟨he.1, by rw [he.2]; exact Below.refl _ _⟩
  | cons x r =>
   have hget : ∀ (j : Nat) (s : List UInt8 × Unit), (x :: r)[j]? = some s → w.cell? (a.add j) = some (.string ⟨s.1.toArray⟩) := fun j s hj => by
    have he : es[j]? = some [.str s.1] := by rw [← hes, List.getElem?_map, hj]; rfl
    have hs1 : size = 1 := (hsz' j _ he).symm
    subst hs1
    have h3 := hcell j _ he 0 _ rfl
    have h4 := hr j _ he 0 _ rfl
    rw [Nat.mul_one, Nat.add_zero] at h3
    rw [h3]
    generalize u j 0 = z at h4
    cases h4
    rfl
   obtain ⟨bk, o, sp⟩ := a
   have hsp : sp = none := by
    have h0 := hget 0 x rfl
    unfold Addr.add at h0
    rw [if_pos rfl] at h0
    unfold World.cell? at h0
    split at h0
    · split at h0
      · cases h0
      · rename_i hs
        simpa using hs
    · cases h0
   subst hsp
   have hmap : ((x :: r).map fun s => (⟨s.1.toArray⟩ : ByteArray)).map (·.data.toList) = (x :: r).map (·.1) := by
    rw [List.map_map]
    exact List.map_congr_left fun s _ => rfl
   have hlm : ((x :: r).map fun s => (⟨s.1.toArray⟩ : ByteArray)).length = n := by rw [hln, List.length_map]
   have := Any.strings_Join (ρ := Tryz.lays156_ren) Tryz.lays156 Tryz.Builder_Extra_156 bk o c ((x :: r).map fun s => (⟨s.1.toArray⟩ : ByteArray)) ⟨sep.toArray⟩ w (fun j y hj => by
    rw [List.getElem?_map, Option.map_eq_some_iff] at hj
    obtain ⟨s, hs, rfl⟩ := hj
    have := hget j s hs
    rwa [Addr.add_lit] at this) hlt (by rw [hlm, hln]; exact h2) (by rw [hlm]; exact hc') (by
     rw [hmap, ← joinF_eq]
     exact h1)
   rw [hmap, ← joinF_eq, hlm] at this
   exact this
def con22 : TCon := ⟨[.c (.sl [.str]), .c .str], [.c (.p .str)], fun a => strings_Join a.1 a.2.1⟩
theorem cb22 : callable Tryz.prog 22 = true := by kernel_rfl
theorem ok22 : con22.ok Tryz.prog 22 := fun a r h => by
 obtain ⟨l, sep, u⟩ := a
 have key : ∀ (l : List (List UInt8 × Unit)) (sep : List UInt8) (r : List UInt8 × Unit), strings_Join l sep = some r → Spec Tryz.prog 22 [.c (.sl (l.map fun x => [.str x.1])), .c (.str sep)] [.c (.c (.str r.1))] := fun l sep r h => by
  unfold strings_Join at h
  obtain ⟨hc, h⟩ := cond_t h
  obtain rfl := Option.some.inj h
  rw [Bool.and_eq_true] at hc
  exact sp22 l sep (of_decide_eq_true hc.1) (of_decide_eq_true hc.2)
 exact key l sep r h
end Tg

/- Contracts from the shelf, as the machine takes them. -/
set_option linter.unusedVariables false
set_option linter.unusedSimpArgs false
namespace Tg
open Go Go.Abs Go.RowKit Go.Proofs
/-! numbers read -/
theorem below_bytesW (w : World) (e : TypeId) (t : ByteArray) : Below w.heap.size w (Lib.bytesWorld w e t) := by
 unfold Lib.bytesWorld
 exact Lib.below_freeze ((Below.drew (Below.refl _ w)).alloc (Nat.le_refl _) _) (p := ⟨w.heap.size, _, none⟩) (Nat.le_refl _) 1
/-! texts cut at a byte -/
def con32 : TCon := ⟨[.c (.int .i64)], [.c (.p .str)], fun a => strconv_Itoa a.1⟩
theorem cb32 : callable Tryz.prog 32 = true := by kernel_rfl
theorem ok32 : con32.ok Tryz.prog 32 := fun a r h => by
 obtain ⟨n, u⟩ := a
 have h1 : strconv_Itoa n = some r := h
 clear h
 have key : ∀ (n : Int) (r : List UInt8 × Unit), strconv_Itoa n = some r → Spec Tryz.prog 32 [.c (.int .i64 n)] [.c (.c (.str r.1))] := fun n r h => by
  unfold strconv_Itoa at h
  obtain ⟨hc, h⟩ := cond_t h
  obtain rfl := Option.some.inj h
  obtain ⟨h0, h1⟩ := in64_s hc
  refine Spec.still (v := .string ⟨(itoaF n).toArray⟩) (fun w O => .str _) fun O w cargs hg hp => ?_
  obtain ⟨u, rfl, h2⟩ := arg_1 hp
  cases h2
  refine (Any.strconv_Itoa Tryz.laysM171 n h0 h1 w hg.2.1).mono fun e w' he => ?_
  obtain ⟨rfl, k, os, rfl⟩ := he
  exact ⟨by rw [itoaF_eq h0 h1], Lib.below_grow _ w (Nat.le_refl _) k os⟩
 exact key n r h1
def con27 : TCon := ⟨[.c .str], [.c (.p (.int .i64)), .c .ifc], fun a => strconv_Atoi a.1⟩
theorem cb27 : callable Tryz.prog 27 = true := by kernel_rfl
theorem sp27 (s : List UInt8) (r : Int × Bool × Unit) (h : strconv_Atoi s = some r) : Spec Tryz.prog 27 [.c (.str s)] [.c (.c (.int .i64 r.1)), .c (.e r.2.1)] := by
 unfold strconv_Atoi at h
 obtain ⟨hc, h0⟩ := cond_t h
 clear h
 have hl : s.length ≤ 281474976710656 := of_decide_eq_true hc
 clear hc
 have hsz : (ByteArray.mk s.toArray).size = s.length := by simp [ByteArray.size]
 generalize hv : Lib.atoiAll s = q at h0
 cases q
 · rename_i v
   obtain rfl := Option.some.inj h0
   refine Spec.errs (v := .int .i64 v) false (fun w O => .int _ _) fun O w cargs hg hp => ?_
   obtain ⟨u, rfl, h1⟩ := arg_1 hp
   cases h1
   refine (Any.strconv_Atoi_ok (ρ := Tryz.laysC172_ren) Tryz.laysC172 ⟨s.toArray⟩ (by rw [hsz]; omega) v hv w).mono fun e w' he => ?_
   obtain ⟨rfl, hw⟩ := he
   refine ⟨_, rfl, rfl, ?_⟩
   rcases hw with rfl | ⟨t, rfl⟩
   · exact Below.refl _ _
   · exact below_bytesW _ _ _
 · obtain rfl := Option.some.inj h0
   refine Spec.errs (v := .int .i64 0) true (fun w O => .int _ _) fun O w cargs hg hp => ?_
   obtain ⟨u, rfl, h1⟩ := arg_1 hp
   cases h1
   obtain ⟨te, pe, hc⟩ := hg.2.2.1
   refine (Any.strconv_Atoi_syntax (ρ := Tryz.laysC172_ren) Tryz.laysC172 ⟨s.toArray⟩ (by rw [hsz]; omega) hv _ w hc (.inr ⟨te, pe, rfl⟩)).mono fun e w' he => ?_
   obtain ⟨N, rfl, _, _, hb⟩ := he
   exact ⟨_, rfl, ⟨_, _, rfl⟩, hb⟩
 · obtain rfl := Option.some.inj h0
   refine Spec.errs (v := .int .i64 (Lib.atoiSat s)) true (fun w O => .int _ _) fun O w cargs hg hp => ?_
   obtain ⟨u, rfl, h1⟩ := arg_1 hp
   cases h1
   obtain ⟨te, pe, hc⟩ := hg.2.2.2.1
   refine (Any.strconv_Atoi_range (ρ := Tryz.laysC172_ren) Tryz.laysC172 ⟨s.toArray⟩ (by rw [hsz]; omega) hv _ w hc (.inr ⟨te, pe, rfl⟩)).mono fun e w' he => ?_
   obtain ⟨N, rfl, _, _, hb⟩ := he
   exact ⟨_, rfl, ⟨_, _, rfl⟩, hb⟩
theorem ok27 : con27.ok Tryz.prog 27 := fun a r h => sp27 a.1 r h
def con64 : TCon := ⟨[.c .str, .c .str], [.c (.p (.int .i64))], fun a => strings_Index a.1 a.2.1⟩
theorem cb64 : callable Tryz.prog 64 = true := by kernel_rfl
theorem ok64 : con64.ok Tryz.prog 64 := fun a r h => by
 obtain ⟨s, p, u⟩ := a
 have h1 : strings_Index s p = some r := h
 clear h
 have key : ∀ (s p : List UInt8) (r : Int × Unit), strings_Index s p = some r → Spec Tryz.prog 64 [.c (.str s), .c (.str p)] [.c (.c (.int .i64 r.1))] := fun s p r h => by
  unfold strings_Index at h
  split at h
  · rename_i c
    obtain rfl := Option.some.inj h
    refine Spec.still (v := .int .i64 (Lib.indexByte s c)) (fun w O => .int _ _) fun O w cargs hg hp => ?_
    obtain ⟨u, v, rfl, h1, h2⟩ := arg_2 hp
    cases h1
    cases h2
    exact (Any.strings_Index_one (ρ := Tryz.lays143_ren) Tryz.lays143 ⟨s.toArray⟩ c w).mono fun e w' he => ⟨he.1, by rw [he.2]; exact Below.refl _ _⟩
  · cases h
 exact key s p r h1
theorem Spec.still3 {P : Program} {f : FuncId} {pas : List PA} {x y z : PV} {t v u : Value} (hx : ∀ w O, PRel w O x t) (hy : ∀ w O, PRel w O y v) (hz : ∀ w O, PRel w O z u) (h : ∀ (O : Nat → Prop) (w : World) (cargs : Array Value), GlobOk w.heap.size w → PARels w O pas cargs → Calls P f cargs w fun e w' => e = .returned (.tuple #[t, v, u]) ∧ Below w.heap.size w w') : Spec P f pas [.c (.c x), .c (.c y), .c (.c z)] := by
 intro O w cargs hO hgl hp
 refine (h O w cargs hgl hp).mono fun e w' he => ?_
 obtain ⟨rfl, hb⟩ := he
 refine ⟨_, ⟨fun _ => undef, O, 0, []⟩, rfl, rfl, ⟨hb, Nat.le_refl _, hO, hgl, fun t o ho => by simp [rasObj, raObj, rcObj] at ho, fun t t' g h1 => by simp [rasObj, raObj, rcObj] at h1⟩, ?_⟩
 refine .tuple _ _ rfl fun i x q hx' hq => ?_
 match i, hx', hq with
 | 0, hx', hq =>
  simp [rasVal, raVal, rcVal] at hx' hq
  subst hx'; subst hq
  exact .p _ _ (hx _ _)
 | 1, hx', hq =>
  simp [rasVal, raVal, rcVal] at hx' hq
  subst hx'; subst hq
  exact .p _ _ (hy _ _)
 | 2, hx', hq =>
  simp [rasVal, raVal, rcVal] at hx' hq
  subst hx'; subst hq
  exact .p _ _ (hz _ _)
 | i + 3, hx', hq => simp [rasVal] at hx'
theorem cutF_eq (c : UInt8) : ∀ s : List UInt8, Lib.cut s [c] = ((cutF c s).1, (cutF c s).2.1, (cutF c s).2.2.1)
 | [] => rfl
 | b :: l => by
  have ih := cutF_eq c l
  unfold Lib.cut at ih ⊢
  rw [index_one] at ih ⊢
  unfold Lib.indexByte cutF
  cases hb : b == c with
  | true => simp
  | false =>
   simp only [Bool.false_eq_true, if_false, cond_false]
   have hge := Lib.indexByte_ge l c
   by_cases e : Lib.indexByte l c = -1
   · rw [e] at ih ⊢
     simp at ih ⊢
     rw [← ih.1, ← ih.2.1, ← ih.2.2]
     simp
   · obtain ⟨i, hi⟩ : ∃ i : Nat, Lib.indexByte l c = i := ⟨(Lib.indexByte l c).toNat, by omega⟩
     rw [hi] at ih ⊢
     have e1 : ((i : Int) == -1) = false := by simp
     rw [if_pos (by omega)] at ih
     rw [e1]
     simp only [Bool.false_eq_true, if_false]
     rw [if_pos (by omega)]
     simp only [Prod.mk.injEq] at ih ⊢
     have e2 : ((i : Int) + 1).toNat = i + 1 := by omega
     rw [e2]
     simp only [Int.toNat_natCast, List.length_cons, List.length_nil] at ih ⊢
     exact ⟨by rw [← ih.1]; rfl, by rw [← ih.2.1]; rfl, ih.2.2⟩
def con26 : TCon := ⟨[.c .str, .c .str], [.c (.p .str), .c (.p .str), .c (.p .bool)], fun a => strings_Cut a.1 a.2.1⟩
theorem cb26 : callable Tryz.prog 26 = true := by kernel_rfl
theorem ok26 : con26.ok Tryz.prog 26 := fun a r h => by
 obtain ⟨s, p, u⟩ := a
 have h1 : strings_Cut s p = some r := h
 clear h
 have key : ∀ (s p : List UInt8) (r : List UInt8 × List UInt8 × Bool × Unit), strings_Cut s p = some r → Spec Tryz.prog 26 [.c (.str s), .c (.str p)] [.c (.c (.str r.1)), .c (.c (.str r.2.1)), .c (.c (.bool r.2.2.1))] := fun s p r h => by
  unfold strings_Cut at h
  split at h
  · rename_i c
    obtain ⟨hl, h⟩ := cond_t h
    obtain rfl := Option.some.inj h
    have hl : s.length < 4294967281 := of_decide_eq_true hl
    have hsz : (ByteArray.mk s.toArray).size = s.length := by simp [ByteArray.size]
    refine Spec.still3 (t := .string ⟨(cutF c s).1.toArray⟩) (v := .string ⟨(cutF c s).2.1.toArray⟩) (u := .bool (cutF c s).2.2.1) (fun w O => .str _) (fun w O => .str _) (fun w O => .bool _) fun O w cargs hg hp => ?_
    obtain ⟨u, v, rfl, h1, h2⟩ := arg_2 hp
    cases h1
    cases h2
    obtain ⟨m, hm⟩ := hg.2.2.2.2
    have hc : Lib.cut (ByteArray.mk s.toArray).data.toList (ByteArray.mk [c].toArray).data.toList = _ := cutF_eq c s
    refine (Any.strings_Cut (ρ := Tryz.lays145_ren) Tryz.lays145 ⟨s.toArray⟩ ⟨[c].toArray⟩ m w (by rw [hsz]; exact hl) hm).mono fun e w' he => ?_
    rw [hc] at he
    obtain ⟨rfl, n, rfl⟩ := he
    exact ⟨rfl, (Below.refl _ w).trans ⟨rfl, rfl, rfl, Nat.le_refl _, fun _ _ => rfl⟩⟩
  · cases h
 exact key s p r h1
def con63 : TCon := ⟨[.c .str], [.c (.p (.int .i32)), .c (.p (.int .i64))], fun a => utf8_Decode a.1⟩
theorem cb63 : callable Tryz.prog 63 = true := by kernel_rfl
theorem ok63 : con63.ok Tryz.prog 63 := fun a r h => by cases h
end Tg

/- Contracts from the shelf, as the machine takes them. -/
set_option linter.unusedVariables false
set_option linter.unusedSimpArgs false
namespace Tg
open Go Go.Abs Go.RowKit Go.Proofs
/-! numbers as texts -/
def con59 : TCon := ⟨[.c (.int .i64), .c (.int .i64)], [.c (.p .str)], fun a => strconv_FormatInt a.1 a.2.1⟩
theorem cb59 : callable Tryz.prog 59 = true := by kernel_rfl
theorem ok59 : con59.ok Tryz.prog 59 := fun a r h => by
 obtain ⟨n, b, u⟩ := a
 have h : strconv_FormatInt n b = some r := h
 unfold strconv_FormatInt at h
 obtain ⟨hc, h⟩ := cond_t h
 obtain rfl := Option.some.inj h
 rw [Bool.and_eq_true] at hc
 obtain ⟨h0, h1⟩ := in64_s hc.1
 obtain rfl : b = (10 : Int) := eq_of_beq (α := Int) hc.2
 refine Spec.still (v := .string ⟨(itoaF n).toArray⟩) (fun w O => .str _) fun O w cargs hg hp => ?_
 obtain ⟨u, v, rfl, h2, h3⟩ := arg_2 hp
 cases h2
 cases h3
 refine (Any.strconv_FormatInt_10 Tryz.laysM173 n h0 h1 w hg.2.1).mono fun e w' he => ?_
 obtain ⟨rfl, k, os, rfl⟩ := he
 exact ⟨by rw [itoaF_eq h0 h1], Lib.below_grow _ w (Nat.le_refl _) k os⟩
/-! a byte searched -/
def con101 : TCon := ⟨[.c .str, .c (.int .u8)], [.c (.p (.int .i64))], fun a => strings_IndexByte a.1 a.2.1⟩
theorem cb101 : callable Tryz.prog 101 = true := by kernel_rfl
theorem ok101 : con101.ok Tryz.prog 101 := fun a r h => by
 obtain rfl := Option.some.inj h
 refine Spec.still (v := .int .i64 (Lib.indexByte a.1 (Int.toNat a.2.1).toUInt8)) (fun w O => .int _ _) fun O w cargs _ hp => ?_
 obtain ⟨u, v, rfl, h1, h2⟩ := arg_2 hp
 cases h1
 cases h2
 exact (Any.strings_IndexByte (ρ := Tryz.lays137_ren) Tryz.lays137 ⟨_⟩ _ w).mono fun e w' he => ⟨he.1, by rw [he.2]; exact Below.refl _ _⟩
/-! a text's parts -/
theorem row_new (w : World) (xs : List Value) (e : TypeId) (hm : xs.length ≤ maxLen) : (w.alloc (.cells xs.toArray e)).ownsRow w.heap.size e 1 (.slice (some ⟨w.heap.size, 0, none⟩) xs.length xs.length) xs.length xs :=
 ⟨by omega, .inr ⟨_, _, _, rfl, Nat.le_refl _, heap_alloc_new w _, Nat.le_refl _, hm, by simp, by simp⟩⟩
def con102 : TCon := ⟨[.c .str, .c .str], [.c (.s 9 1 [.str])], fun a => strings_Split a.1 a.2.1⟩
theorem cb102 : callable Tryz.prog 102 = true := by kernel_rfl
theorem info9 : (Tryz.prog.info? 9).map (fun i => (i.zero, i.size, i.bytes)) = some (some (.string ByteArray.empty), 1, 16) := by kernel_rfl
theorem sp102 (s : List UInt8) (c : UInt8) (hl : s.length < 4294967281) : Spec Tryz.prog 102 [.c (.str s), .c (.str [c])] [.c (.s 9 1 ((splitF c s).map fun x => [PV.str x]))] := by
 have hsz : (ByteArray.mk s.toArray).size = s.length := by simp [ByteArray.size]
 refine Spec.row1 (vv := fun x => .string ⟨x.toArray⟩) (fun a w O => .str _) fun O w cargs hg hp => ?_
 obtain ⟨u, v, rfl, h1, h2⟩ := arg_2 hp
 cases h1
 cases h2
 obtain ⟨m, hm⟩ := hg.2.2.2.2
 have hd : (ByteArray.mk s.toArray).data.toList = s := rfl
 have hd2 : (ByteArray.mk [c].toArray).data.toList = [c] := rfl
 have hc : Lib.countB ⟨s.toArray⟩ ⟨[c].toArray⟩ = s.count c := Lib.count_one c s
 have hlen := Lib.splitB_all ⟨[c].toArray⟩ (by simp [ByteArray.size]) 0 _ ⟨s.toArray⟩ rfl
 have hmap := Lib.splitB_data ⟨[c].toArray⟩ 0 (Lib.countB ⟨s.toArray⟩ ⟨[c].toArray⟩) ⟨s.toArray⟩
 rw [hd, hd2, hc, splitK_one c _ s rfl] at hmap
 refine (Any.strings_Split (ρ := Tryz.lays146_ren) Tryz.lays146 info9 ⟨s.toArray⟩ ⟨[c].toArray⟩ m w (by rw [hsz]; exact hl) hm (by simp [ByteArray.size])).mono fun e w' he => ?_
 obtain ⟨rfl, rfl⟩ := he
 rw [hc] at hlen ⊢
 generalize Lib.splitB ⟨[c].toArray⟩ 0 (s.count c) ⟨s.toArray⟩ = bs at hmap hlen ⊢
 have hbs : bs.map Value.string = (splitF c s).map fun x => Value.string ⟨x.toArray⟩ := by
  rw [← hmap, List.map_map]
  exact List.map_congr_left fun x _ => rfl
 have hln : (splitF c s).length = s.count c + 1 := by rw [← hmap, List.length_map, hlen]
 refine ⟨_, rfl, ?_, (Below.refl _ _).alloc (Nat.le_refl _) _⟩
 have := row_new w (bs.map Value.string) 9 (by rw [List.length_map, hlen]; have := List.count_le_length (a := c) (l := s); unfold maxLen; omega)
 rw [List.length_map, hlen] at this
 rw [hln, ← hbs]
 exact this
theorem ok102 : con102.ok Tryz.prog 102 := fun a r h => by
 obtain ⟨s, p, u⟩ := a
 have h1 : strings_Split s p = some r := h
 clear h
 have key : ∀ (s p : List UInt8) (r : List (List UInt8 × Unit) × Unit), strings_Split s p = some r → Spec Tryz.prog 102 [.c (.str s), .c (.str p)] [.c (.s 9 1 (r.1.map fun x => [PV.str x.1]))] := fun s p r h => by
  unfold strings_Split at h
  split at h
  · rename_i c
    obtain ⟨hl, h2⟩ := cond_t h
    obtain rfl := Option.some.inj h2
    have := sp102 s c (of_decide_eq_true hl)
    simpa [List.map_map, Function.comp_def] using this
  · cases h
 exact key s p r h1
def con117 : TCon := ⟨[.c .str, .c (.int .i64), .c (.int .i64)], [.c (.p (.int .i64)), .c .ifc], fun a => strconv_ParseInt a.1 a.2.1 a.2.2.1⟩
theorem cb117 : callable Tryz.prog 117 = true := by kernel_rfl
theorem sp117 (s : List UInt8) (r : Int × Bool × Unit) (h : strconv_ParseInt s 10 64 = some r) : Spec Tryz.prog 117 [.c (.str s), .c (.int .i64 10), .c (.int .i64 64)] [.c (.c (.int .i64 r.1)), .c (.e r.2.1)] := by
 unfold strconv_ParseInt at h
 obtain ⟨hc, h0⟩ := cond_t h
 clear h
 rw [Bool.and_eq_true, Bool.and_eq_true] at hc
 have hl : s.length ≤ 281474976710656 := of_decide_eq_true hc.2.2
 clear hc
 have hsz : (ByteArray.mk s.toArray).size = s.length := by simp [ByteArray.size]
 generalize hv : Lib.parseIntB 64 s = q at h0
 cases q
 · rename_i v
   obtain rfl := Option.some.inj h0
   refine Spec.errs (v := .int .i64 v) false (fun w O => .int _ _) fun O w cargs hg hp => ?_
   obtain ⟨u, u2, u3, rfl, h1, h2, h3⟩ := arg_3 hp
   cases h1
   cases h2
   cases h3
   refine (Any.strconv_ParseInt_10_at64_ok (ρ := Tryz.laysC174_ren) Tryz.laysC174 ⟨s.toArray⟩ (by rw [hsz]; omega) v hv w).mono fun e w' he => ?_
   obtain ⟨rfl, hw⟩ := he
   refine ⟨_, rfl, rfl, ?_⟩
   rcases hw with rfl | ⟨t, rfl⟩
   · exact Below.refl _ _
   · exact below_bytesW _ _ _
 · obtain rfl := Option.some.inj h0
   refine Spec.errs (v := .int .i64 0) true (fun w O => .int _ _) fun O w cargs hg hp => ?_
   obtain ⟨u, u2, u3, rfl, h1, h2, h3⟩ := arg_3 hp
   cases h1
   cases h2
   cases h3
   obtain ⟨te, pe, hc⟩ := hg.2.2.1
   refine (Any.strconv_ParseInt_10_at64_syntax (ρ := Tryz.laysC174_ren) Tryz.laysC174 ⟨s.toArray⟩ (by rw [hsz]; omega) hv _ w hc (.inr ⟨te, pe, rfl⟩)).mono fun e w' he => ?_
   obtain ⟨N, rfl, _, _, hb⟩ := he
   exact ⟨_, rfl, ⟨_, _, rfl⟩, hb⟩
 · obtain rfl := Option.some.inj h0
   refine Spec.errs (v := .int .i64 (Lib.intSat 64 s)) true (fun w O => .int _ _) fun O w cargs hg hp => ?_
   obtain ⟨u, u2, u3, rfl, h1, h2, h3⟩ := arg_3 hp
   cases h1
   cases h2
   cases h3
   obtain ⟨te, pe, hc⟩ := hg.2.2.2.1
   refine (Any.strconv_ParseInt_10_at64_range (ρ := Tryz.laysC174_ren) Tryz.laysC174 ⟨s.toArray⟩ (by rw [hsz]; omega) hv _ w hc (.inr ⟨te, pe, rfl⟩)).mono fun e w' he => ?_
   obtain ⟨N, rfl, _, _, hb⟩ := he
   exact ⟨_, rfl, ⟨_, _, rfl⟩, hb⟩
theorem ok117 : con117.ok Tryz.prog 117 := fun a r h => by
 obtain ⟨s, b, k, u⟩ := a
 have key : ∀ (s : List UInt8) (b k : Int) (r : Int × Bool × Unit), strconv_ParseInt s b k = some r → Spec Tryz.prog 117 [.c (.str s), .c (.int .i64 b), .c (.int .i64 k)] [.c (.c (.int .i64 r.1)), .c (.e r.2.1)] := fun s b k r h => by
  have h' := h
  unfold strconv_ParseInt at h
  obtain ⟨hc, h0⟩ := cond_t h
  rw [Bool.and_eq_true, Bool.and_eq_true] at hc
  obtain rfl := eq_of_beq hc.1
  obtain rfl := eq_of_beq hc.2.1
  exact sp117 s r h'
 exact key s b k r h
def con102p : TCon := ⟨[.c .str, .c .str], [.c (.p (.sl [.str]))], fun a => strings_Split a.1 a.2.1⟩
theorem ok102p : con102p.ok Tryz.prog 102 := fun a r h => TCon.frz ok102 rfl a r h
end Tg

/- The reference's digits of a number: the function calls itself. -/
set_option linter.unusedVariables false
set_option linter.unusedSimpArgs false
set_option maxRecDepth 100000
namespace Tg
open Go Go.Abs Go.RowKit Go.Proofs
end Tg
