import Derived.Test.YtodnlpaialbceaaGreatDoorAbsB6
import Derived.Lib.ParseIntB
import Derived.Lib.ItoaNum
import Derived.Lib.Split
/- Functions whose contracts are given by hand, as plain functions. -/
set_option linter.unusedVariables false
set_option linter.unusedSimpArgs false
namespace Tg
open Go
def in64 (x : Int) : Bool := decide (-9223372036854775808 ≤ x) && decide (x ≤ 9223372036854775807)
def decF : Nat → Nat → List UInt8 → List UInt8
 | 0, _, acc => acc
 | k + 1, u, acc => match Nat.blt u 10 with
  | true => UInt8.ofNat (48 + u) :: acc
  | false => decF k (u / 10) (UInt8.ofNat (48 + u % 10) :: acc)
def itoaF (n : Int) : List UInt8 := match n with
 | .ofNat u => decF 20 u []
 | .negSucc u => 45 :: decF 20 (u + 1) []
def splitF (c : UInt8) : List UInt8 → List (List UInt8)
 | [] => [[]]
 | b :: l => bif b == c then [] :: splitF c l else match splitF c l with
  | [] => [[b]]
  | w :: ws => (b :: w) :: ws
def strconv_FormatInt (n b : Int) : Option (List UInt8 × Unit) := bif in64 n && b == 10 then some (itoaF n, ()) else none
def strings_IndexByte (s : List UInt8) (c : Int) : Option (Int × Unit) := some (Lib.indexByte s (Int.toNat c).toUInt8, ())
def strings_Split (s p : List UInt8) : Option (List (List UInt8 × Unit) × Unit) := match p with
 | [c] => bif decide (s.length < 4294967281) then some ((splitF c s).map (fun x => (x, ())), ()) else none
 | _ => none
def strconv_ParseInt (s : List UInt8) (b k : Int) : Option (Int × Bool × Unit) := bif b == 10 && (k == 64 && decide (s.length ≤ 281474976710656)) then
    (match Lib.parseIntB 64 s with
    | .ok v => some (v, false, ())
    | .range => some (Lib.intSat 64 s, true, ())
    | _ => some (0, true, ()))
  else none
abbrev Rw := Int × Int × Int × Int × Int × Unit
abbrev Rc := Int × Int × Int × Unit
abbrev Ou := List Rw × List Rc × Unit
def rowOk (r : Rw) : Bool := decide (-2199023255552 ≤ r.2.1) && (decide (r.2.1 < r.2.2.1) && decide (r.2.2.1 ≤ 2199023255552))
def recOk (r : Rc) : Bool := decide (-1099511627776 ≤ r.2.1) && decide (r.2.1 ≤ 1099511627776)
def rowIn (r : Rw) : Bool := in64 r.1 && (in64 r.2.1 && (in64 r.2.2.1 && (in64 r.2.2.2.1 && in64 r.2.2.2.2.1)))
def recIn (r : Rc) : Bool := in64 r.1 && (in64 r.2.1 && in64 r.2.2.1)
def numsF (l : List Int) : List UInt8 := l.flatMap fun n => 32 :: itoaF n
def rowT (r : Rw) : List UInt8 := [114, 111, 119] ++ numsF [r.1, r.2.1, r.2.2.1, r.2.2.2.1, r.2.2.2.2.1]
def recT (r : Rc) : List UInt8 := [108, 97, 116, 101] ++ numsF [r.1, r.2.1, r.2.2.1]
def outT (x : Ou) : List UInt8 := (x.1.flatMap fun r => rowT r ++ [10]) ++ x.2.1.flatMap fun r => recT r ++ [10]
def outP (x : Ou) : List UInt8 × Int × Unit :=
 bif decide (x.1.length > 4000) || decide (x.2.1.length > 4000) then ([], 4, ()) else bif x.1.all rowOk && x.2.1.all recOk then (outT x, 0, ()) else ([], 8, ())
def lines_Outputs (x : Ou) : Option (List UInt8 × Int × Unit) :=
 bif x.1.all rowIn && (x.2.1.all recIn && (decide (x.1.length ≤ 4611686018427387904) && decide (x.2.1.length ≤ 4611686018427387904))) then some (outP x) else none
def strconv_Itoa (n : Int) : Option (List UInt8 × Unit) := bif in64 n then some (itoaF n, ()) else none
def strconv_Atoi (s : List UInt8) : Option (Int × Bool × Unit) := bif decide (s.length ≤ 281474976710656) then
    (match Lib.atoiAll s with
    | .ok v => some (v, false, ())
    | .range => some (Lib.atoiSat s, true, ())
    | _ => some (0, true, ()))
  else none
def strings_Index (s p : List UInt8) : Option (Int × Unit) := match p with
 | [c] => some (Lib.indexByte s c, ())
 | _ => none
def cutF (c : UInt8) : List UInt8 → List UInt8 × List UInt8 × Bool × Unit
 | [] => ([], [], false, ())
 | b :: l => bif b == c then ([], l, true, ()) else (b :: (cutF c l).1, (cutF c l).2)
def strings_Cut (s p : List UInt8) : Option (List UInt8 × List UInt8 × Bool × Unit) := match p with
 | [c] => bif decide (s.length < 4294967281) then some (cutF c s) else none
 | _ => none
def utf8_Decode (s : List UInt8) : Option (Int × Int × Unit) := none
def joinF (sep : List UInt8) : List (List UInt8 × Unit) → List UInt8
 | [] => []
 | x :: xs => match xs with
  | [] => x.1
  | _ :: _ => x.1 ++ (sep ++ joinF sep xs)
def strings_Join (l : List (List UInt8 × Unit)) (sep : List UInt8) : Option (List UInt8 × Unit) :=
 bif decide ((joinF sep l).length ≤ 140737488355328) && decide (l.length ≤ 140737488355328) then some (joinF sep l, ()) else none
end Tg

/- Plain laws of digits and of parts of a text. -/
set_option linter.unusedVariables false
set_option linter.unusedSimpArgs false
namespace Tg
open Go
theorem decF_eq : ∀ (k u : Nat) (acc : List UInt8), u < 10 ^ (k + 1) → decF (k + 1) u acc = Lib.decDigits u ++ acc
 | k, u, acc, hu => by
  rw [decF, Lib.decDigits]
  by_cases h : u < 10
  · rw [show Nat.blt u 10 = true by simpa using h, dif_pos h]
    rfl
  · have hb : Nat.blt u 10 = false := by
     cases hb : Nat.blt u 10 with
     | false => rfl
     | true => exact absurd (Nat.blt_eq.mp hb) h
    rw [hb, dif_neg h]
    cases k with
    | zero => simp at hu; omega
    | succ k =>
     simp only
     rw [decF_eq k (u / 10) _ (by rw [Nat.pow_succ] at hu; omega)]
     simp
theorem itoaF_eq {n : Int} (h0 : -9223372036854775808 ≤ n) (h1 : n ≤ 9223372036854775807) : itoaF n = Lib.itoa n := by
 unfold itoaF Lib.itoa
 cases n with
 | ofNat u =>
  rw [if_neg (by simp)]
  show decF 20 u [] = _
  rw [decF_eq 19 u [] (by simp at h1; omega)]
  simp
 | negSucc u =>
  rw [if_pos (Int.negSucc_lt_zero u)]
  show 45 :: decF 20 (u + 1) [] = _
  rw [decF_eq 19 (u + 1) [] (by have : -(9223372036854775808 : Int) ≤ Int.negSucc u := h0; omega)]
  simp
theorem in64_s {n : Int} (h : in64 n = true) : -9223372036854775808 ≤ n ∧ n ≤ 9223372036854775807 := by
 simpa [in64] using h
theorem index_one (c : UInt8) : ∀ l : List UInt8, Lib.index l [c] = Lib.indexByte l c := fun l => by
 induction l with
 | nil => rfl
 | cons b l ih =>
  unfold Lib.index Lib.indexByte
  rw [ih]
  simp [BEq.comm]
theorem splitF_ne (c : UInt8) : ∀ l, splitF c l ≠ []
 | [] => by simp [splitF]
 | b :: l => by
  unfold splitF
  cases b == c with
  | true => simp
  | false =>
   simp only [cond_false]
   split <;> simp
theorem splitF_miss (c : UInt8) : ∀ l, Lib.indexByte l c = -1 → splitF c l = [l]
 | [], _ => rfl
 | b :: l, h => by
  unfold Lib.indexByte at h
  split at h
  · cases h
  · rename_i hb
    split at h
    · rename_i h1
      unfold splitF
      rw [show (b == c) = false by simpa using hb, splitF_miss c l (by simpa using h1)]
      rfl
    · have := Lib.indexByte_ge l c
      rename_i h1
      have h1 : Lib.indexByte l c ≠ -1 := by simpa using h1
      omega
theorem splitF_hit (c : UInt8) : ∀ (l : List UInt8) (i : Nat), Lib.indexByte l c = i → splitF c l = l.take i :: splitF c (l.drop (i + 1))
 | [], i, h => by
  unfold Lib.indexByte at h
  omega
 | b :: l, i, h => by
  unfold Lib.indexByte at h
  split at h
  · rename_i hb
    have : i = 0 := by omega
    subst this
    rw [splitF, hb]
    rfl
  · rename_i hb
    split at h
    · omega
    · obtain ⟨k, rfl⟩ : ∃ k, i = k + 1 := ⟨i - 1, by have := Lib.indexByte_ge l c; rename_i h1; have h1 : Lib.indexByte l c ≠ -1 := (by simpa using h1); omega⟩
      rw [splitF, show (b == c) = false by simpa using hb, splitF_hit c l k (by omega)]
      rfl
theorem count_miss (c : UInt8) : ∀ l : List UInt8, Lib.indexByte l c = -1 → l.count c = 0
 | [], _ => rfl
 | b :: l, h => by
  unfold Lib.indexByte at h
  split at h
  · cases h
  · rename_i hb
    split at h
    · rename_i h1
      rw [List.count_cons, count_miss c l (by simpa using h1)]
      simpa using hb
    · have := Lib.indexByte_ge l c
      rename_i h1
      have h1 : Lib.indexByte l c ≠ -1 := by simpa using h1
      omega
theorem count_hit (c : UInt8) : ∀ (l : List UInt8) (i : Nat), Lib.indexByte l c = i → l.count c = (l.drop (i + 1)).count c + 1
 | [], i, h => by
  unfold Lib.indexByte at h
  omega
 | b :: l, i, h => by
  unfold Lib.indexByte at h
  split at h
  · rename_i hb
    have : i = 0 := by omega
    subst this
    rw [List.count_cons, if_pos hb]
    rfl
  · rename_i hb
    split at h
    · omega
    · obtain ⟨k, rfl⟩ : ∃ k, i = k + 1 := ⟨i - 1, by have := Lib.indexByte_ge l c; rename_i h1; have h1 : Lib.indexByte l c ≠ -1 := (by simpa using h1); omega⟩
      rw [List.count_cons, if_neg hb, count_hit c l k (by omega)]
      rfl
theorem splitK_one (c : UInt8) : ∀ (k : Nat) (l : List UInt8), l.count c = k → Lib.splitK [c] 0 k l = splitF c l
 | 0, l, h => by
  rw [Lib.splitK]
  by_cases e : Lib.indexByte l c = -1
  · rw [splitF_miss c l e]
  · have := Lib.indexByte_ge l c
    obtain ⟨i, hi⟩ : ∃ i : Nat, Lib.indexByte l c = i := ⟨(Lib.indexByte l c).toNat, by omega⟩
    have := count_hit c l i hi
    omega
 | k + 1, l, h => by
  rw [Lib.splitK, index_one]
  by_cases e : Lib.indexByte l c = -1
  · have := count_miss c l e
    omega
  · have := Lib.indexByte_ge l c
    obtain ⟨i, hi⟩ : ∃ i : Nat, Lib.indexByte l c = i := ⟨(Lib.indexByte l c).toNat, by omega⟩
    have hc := count_hit c l i hi
    rw [if_neg (by simpa using e), hi, splitF_hit c l i hi]
    show l.take i :: _ = _
    rw [splitK_one c k _ (by show (l.drop (i + 1)).count c = k; omega)]
    rfl
end Tg
