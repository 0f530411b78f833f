import Derived.Test.YtfdgpbehbpldfaaGreatAbsB6
import Derived.Test.YtfdgpbehbpldfaaGreatHandA
/- The functions of the code, as plain functions: printed from the code. -/
set_option linter.unusedVariables false
namespace Tg
open Go.Abs (fuel bigOk cloned tmm dropD CT)
abbrev Y2 := Int × Int × Int × Int × Int × Unit
abbrev Y4 := Int × Int × Int × Int × Int × Int × Int × Int × Int × Int × Unit
abbrev Y5 := Int × Int × Int × Int × Int × Int × Int × Int × Int × Int × Int × Unit
abbrev Y6 := Bool × Int × Int × Int × Int × Unit
abbrev Y8 := Int × Int × Int × Unit
abbrev Y9 := Int × Int × Unit
abbrev Y3 := (List Y9 × List Y2 × Unit) × Int × Unit
abbrev Y10 := Int × Unit
abbrev Y1 := Int × Int × Int × List Y5 × List Y10 × List Y5 × List Y6 × List Y2 × List Y8 × Unit
abbrev Y11 := Bool × Unit
abbrev Y12 := (List Y9 × List Y2 × Unit) × Unit
abbrev Y13 := Int × List Y4 × Unit
abbrev Y7 := Int × List Y2 × List Y10 × Bool × List Y2 × Int × Int × Int × Bool × Int × List Y9 × List Y2 × List Y1 × List Y13 × Unit
abbrev Y14 := List Y10 × List Y10 × Bool × Unit
def ref04_Great (a0 : List Y2) : Option Y11 :=
 some ((decide (Int.ofNat (List.length a0) > (70 : Int)), ()))
def ref08_Great (a0 : Int × List Y2 × List Y10 × Bool × List Y2 × Int × Int × Int × Bool × Int × Unit) : Option Y11 :=
 bif decide (Int.ofNat (List.length a0.2.1) > (70 : Int)) then
  some ((true, ()))
 else
  bif decide (Int.ofNat (List.length a0.2.2.2.2.1) > (70 : Int)) then
   some ((true, ()))
  else
   some ((decide (Int.ofNat (List.length a0.2.2.1) > (10 : Int)), ()))
abbrev ref36_Great_T7 := List (List Y6 × Unit) → Int → Option Y11
def ref36_Great_c (J7 : ref36_Great_T7) (a0 : Int × List Y2 × List Y10 × Bool × List Y2 × Int × Int × Int × Bool × Int × Unit) (a1 : List (List Y6 × Unit)) : Option Y11 :=
 match ref08_Great a0 with
  | none => none
  | some e0 =>
   bif e0.1 then
    some ((true, ()))
   else
    bif decide (Int.ofNat (List.length a1) > (6 : Int)) then
     some ((true, ()))
    else
     J7 a1 ((0 : Int))
def ref36_Great_c7 (J7 : ref36_Great_T7) (x0 : List (List Y6 × Unit)) (x1 : Int) : Option Y11 :=
 bif decide (x1 < Int.ofNat (List.length x0)) then
  bif decide ((0 : Int) ≤ x1) then
   match x0[Int.toNat x1]? with
    | none => none
    | some e0 =>
     bif decide (Int.ofNat (List.length e0.1) > (70 : Int)) then
      some ((true, ()))
     else
      J7 x0 (Go.IntKind.wrap Go.IntKind.i64 (x1 + (1 : Int)))
  else
   none
 else
  some ((false, ()))
mutual
def ref36_Great_i7 : Nat → List (List Y6 × Unit) → Int → Option Y11
 | 0, _, _ => none
 | n + 1, x0, x1 => ref36_Great_c7 (ref36_Great_i7 n) x0 x1
end
def ref36_Great (a0 : Int × List Y2 × List Y10 × Bool × List Y2 × Int × Int × Int × Bool × Int × Unit) (a1 : List (List Y6 × Unit)) : Option Y11 := ref36_Great_c (ref36_Great_i7 fuel) a0 a1
def nodes_Parts (a0 : Int) : Option Y9 :=
 bif decide (a0 ≥ (1 : Int)) then
  bif decide (a0 ≤ (4 : Int)) then
   some (((0 : Int), (0 : Int), ()))
  else
   bif a0 == (5 : Int) then
    some (((1 : Int), (0 : Int), ()))
   else
    bif a0 == (6 : Int) then
     some (((1 : Int), (0 : Int), ()))
    else
     bif decide (a0 ≥ (7 : Int)) then
      bif decide (a0 ≤ (19 : Int)) then
       some (((2 : Int), (0 : Int), ()))
      else
       some (((0 : Int), (2 : Int), ()))
     else
      some (((0 : Int), (2 : Int), ()))
 else
  bif a0 == (5 : Int) then
   some (((1 : Int), (0 : Int), ()))
  else
   bif a0 == (6 : Int) then
    some (((1 : Int), (0 : Int), ()))
   else
    bif decide (a0 ≥ (7 : Int)) then
     bif decide (a0 ≤ (19 : Int)) then
      some (((2 : Int), (0 : Int), ()))
     else
      some (((0 : Int), (2 : Int), ()))
    else
     some (((0 : Int), (2 : Int), ()))
abbrev nodes_tops_T4 := List Y8 → List Y8 → List Y2 → Int → Int → Option (List Y8 × Bool × Unit)
abbrev nodes_tops_T21 := List Y8 → List Y8 → Int → Int → Int → Int → Int → Int → Int → Int → Int → Int → Int → Int → Int → Int → List Y2 → Int → Int → Option (List Y8 × Bool × Unit)
abbrev nodes_tops_T23 := List Y8 → List Y8 → Int → Int → Int → Int → Int → Int → Int → Int → Int → Int → Int → Int → Int → Int → List Y2 → Int → Int → Int → Int → Int → Int → Option (List Y8 × Bool × Unit)
abbrev nodes_tops_T28 := List Y8 → List Y8 → Int → Int → Int → Int → Int → Int → Int → Int → Int → Int → Int → Int → Int → Int → Int → Int → List Y2 → Int → Int → Int → Int → Int → Int → Option (List Y8 × Bool × Unit)
abbrev nodes_tops_T31 := List Y8 → List Y8 → Int → Int → Int → Int → Int → Int → Int → Int → Int → Int → Int → Int → Int → Int → List Y2 → Int → Int → Option (List Y8 × Bool × Unit)
def nodes_tops_c (J4 : nodes_tops_T4) (J21 : nodes_tops_T21) (J23 : nodes_tops_T23) (J28 : nodes_tops_T28) (J31 : nodes_tops_T31) (a0 : List Y2) : Option (List Y8 × Bool × Unit) :=
 J4 ([]) ([]) a0 (Int.ofNat (List.length a0)) ((0 : Int))
def nodes_tops_c4 (J4 : nodes_tops_T4) (J21 : nodes_tops_T21) (J23 : nodes_tops_T23) (J28 : nodes_tops_T28) (J31 : nodes_tops_T31) (x0 x1 : List Y8) (x2 : List Y2) (x3 x4 : Int) : Option (List Y8 × Bool × Unit) :=
 bif decide (x4 < x3) then
  bif decide ((0 : Int) ≤ x4) then
   match x2[Int.toNat x4]? with
    | none => none
    | some e0 =>
     match nodes_Parts e0.1 with
      | none => none
      | some e1 =>
       bif e1.2.1 != (0 : Int) then
        some ((x0, false, ()))
       else
        bif decide (e1.1 > Int.ofNat (List.length x1)) then
         some ((x0, false, ()))
        else
         bif decide ((0 : Int) ≤ Go.IntKind.wrap Go.IntKind.i64 (Int.ofNat (List.length x1) - e1.1)) then
          bif decide ((0 : Nat) ≤ Int.toNat (Go.IntKind.wrap Go.IntKind.i64 (Int.ofNat (List.length x1) - e1.1))) && decide (Int.toNat (Go.IntKind.wrap Go.IntKind.i64 (Int.ofNat (List.length x1) - e1.1)) ≤ List.length x1) then
           bif decide ((0 : Int) ≤ Go.IntKind.wrap Go.IntKind.i64 (Int.ofNat (List.length x1) - e1.1)) then
            bif decide (Int.toNat (Go.IntKind.wrap Go.IntKind.i64 (Int.ofNat (List.length x1) - e1.1)) ≤ List.length x1) then
             bif decide (Int.toNat (Go.IntKind.wrap Go.IntKind.i64 (Int.ofNat (List.length x1) - e1.1)) = List.length x1) then
              J23 x0 x1 (Int.ofNat (Int.toNat (Go.IntKind.wrap Go.IntKind.i64 (Int.ofNat (List.length x1) - e1.1)))) (e0.1) (e0.2.1) (e0.2.2.1) (e0.2.2.2.1) (e0.2.2.2.2.1) (e0.1) ((0 : Int)) ((0 : Int)) ((0 : Int)) (tmm false (tmm true e0.2.2.2.2.1 (0 : Int)) (400 : Int)) x4 ((1 : Int)) ((1 : Int)) x2 x3 x4 ((1 : Int)) ((0 : Int)) ((0 : Int)) ((0 : Int))
             else
              J23 x0 x1 (Int.ofNat (Int.toNat (Go.IntKind.wrap Go.IntKind.i64 (Int.ofNat (List.length x1) - e1.1)))) (e0.1) (e0.2.1) (e0.2.2.1) (e0.2.2.2.1) (e0.2.2.2.2.1) (e0.1) ((0 : Int)) ((0 : Int)) ((0 : Int)) (tmm false (tmm true e0.2.2.2.2.1 (0 : Int)) (400 : Int)) x4 ((1 : Int)) ((1 : Int)) x2 x3 x4 (Int.ofNat (Int.toNat (Go.IntKind.wrap Go.IntKind.i64 (Int.ofNat (List.length x1) - e1.1)))) (Int.ofNat (List.length x1 - Int.toNat (Go.IntKind.wrap Go.IntKind.i64 (Int.ofNat (List.length x1) - e1.1)))) (Int.ofNat (List.length x1 - Int.toNat (Go.IntKind.wrap Go.IntKind.i64 (Int.ofNat (List.length x1) - e1.1)))) ((0 : Int))
            else
             none
           else
            none
          else
           none
         else
          none
  else
   none
 else
  some ((x0, Int.ofNat (List.length x1) == (1 : Int), ()))
def nodes_tops_c21 (J4 : nodes_tops_T4) (J21 : nodes_tops_T21) (J23 : nodes_tops_T23) (J28 : nodes_tops_T28) (J31 : nodes_tops_T31) (x0 x1 : List Y8) (x2 x3 x4 x5 x6 x7 x8 x9 x10 x11 x12 x13 x14 x15 : Int) (x16 : List Y2) (x17 x18 : Int) : Option (List Y8 × Bool × Unit) :=
 bif x3 == (1 : Int) then
  J31 x0 x1 (Int.ofNat (Int.toNat x2)) x3 x4 x5 x6 x7 x8 (tmm true x4 (0 : Int)) x10 x11 x12 x13 x14 x15 x16 x17 x18
 else
  J31 x0 x1 (Int.ofNat (Int.toNat x2)) x3 x4 x5 x6 x7 x8 x9 x10 x11 x12 x13 x14 x15 x16 x17 x18
def nodes_tops_c23 (J4 : nodes_tops_T4) (J21 : nodes_tops_T21) (J23 : nodes_tops_T23) (J28 : nodes_tops_T28) (J31 : nodes_tops_T31) (x0 x1 : List Y8) (x2 x3 x4 x5 x6 x7 x8 x9 x10 x11 x12 x13 x14 x15 : Int) (x16 : List Y2) (x17 x18 x19 x20 x21 x22 : Int) : Option (List Y8 × Bool × Unit) :=
 bif decide (x22 < x21) then
  bif decide ((0 : Int) ≤ x22) then
   bif decide (Int.toNat x22 < Int.toNat x20) then
    match x1[Int.toNat x19 + Int.toNat x22]? with
     | none => none
     | some e0 =>
      bif x22 == (0 : Int) then
       J28 x0 x1 (Int.ofNat (Int.toNat x2)) x3 x4 x5 x6 x7 x8 x9 (e0.1) x11 x12 x13 x14 x15 (e0.2.1) (e0.2.2.1) x16 x17 x18 (Int.ofNat (Int.toNat x19)) (Int.ofNat (Int.toNat x20)) x21 x22
      else
       J28 x0 x1 (Int.ofNat (Int.toNat x2)) x3 x4 x5 x6 x7 x8 x9 x10 (e0.1) x12 x13 x14 x15 (e0.2.1) (e0.2.2.1) x16 x17 x18 (Int.ofNat (Int.toNat x19)) (Int.ofNat (Int.toNat x20)) x21 x22
   else
    none
  else
   none
 else
  J21 x0 x1 (Int.ofNat (Int.toNat x2)) x3 x4 x5 x6 x7 x8 x9 x10 x11 x12 x13 x14 x15 x16 x17 x18
def nodes_tops_c28 (J4 : nodes_tops_T4) (J21 : nodes_tops_T21) (J23 : nodes_tops_T23) (J28 : nodes_tops_T28) (J31 : nodes_tops_T31) (x0 x1 : List Y8) (x2 x3 x4 x5 x6 x7 x8 x9 x10 x11 x12 x13 x14 x15 x16 x17 : Int) (x18 : List Y2) (x19 x20 x21 x22 x23 x24 : Int) : Option (List Y8 × Bool × Unit) :=
 J23 x0 x1 (Int.ofNat (Int.toNat x2)) x3 x4 x5 x6 x7 x8 x9 x10 x11 x12 x13 (Go.IntKind.wrap Go.IntKind.i64 (x14 + x16)) (tmm true x15 (Go.IntKind.wrap Go.IntKind.i64 (x17 + (1 : Int)))) x18 x19 x20 (Int.ofNat (Int.toNat x21)) (Int.ofNat (Int.toNat x22)) x23 (Go.IntKind.wrap Go.IntKind.i64 (x24 + (1 : Int)))
def nodes_tops_c31 (J4 : nodes_tops_T4) (J21 : nodes_tops_T21) (J23 : nodes_tops_T23) (J28 : nodes_tops_T28) (J31 : nodes_tops_T31) (x0 x1 : List Y8) (x2 x3 x4 x5 x6 x7 x8 x9 x10 x11 x12 x13 x14 x15 : Int) (x16 : List Y2) (x17 x18 : Int) : Option (List Y8 × Bool × Unit) :=
 bif !(x8 == x3 && (x9 == x4 && (x10 == x5 && (x11 == x6 && (x12 == x7 && true))))) then
  some ((x0, false, ()))
 else
  bif decide (Int.toNat x2 ≤ List.length x1) && bigOk (Int.toNat x2 + List.length [(x13, x14, x15, ())]) (24 : Nat) then
   bif bigOk (List.length x0 + List.length [(x13, x14, x15, ())]) (24 : Nat) then
    J4 (x0 ++ [(x13, x14, x15, ())]) (List.take (Int.toNat x2) x1 ++ [(x13, x14, x15, ())]) x16 x17 (Go.IntKind.wrap Go.IntKind.i64 (x18 + (1 : Int)))
   else
    none
  else
   none
mutual
def nodes_tops_i4 : Nat → List Y8 → List Y8 → List Y2 → Int → Int → Option (List Y8 × Bool × Unit)
 | 0, _, _, _, _, _ => none
 | n + 1, x0, x1, x2, x3, x4 => nodes_tops_c4 (nodes_tops_i4 n) (nodes_tops_i21 n) (nodes_tops_i23 n) (nodes_tops_i28 n) (nodes_tops_i31 n) x0 x1 x2 x3 x4
def nodes_tops_i21 : Nat → List Y8 → List Y8 → Int → Int → Int → Int → Int → Int → Int → Int → Int → Int → Int → Int → Int → Int → List Y2 → Int → Int → Option (List Y8 × Bool × Unit)
 | 0, _, _, _, _, _, _, _, _, _, _, _, _, _, _, _, _, _, _, _ => none
 | n + 1, x0, x1, x2, x3, x4, x5, x6, x7, x8, x9, x10, x11, x12, x13, x14, x15, x16, x17, x18 => nodes_tops_c21 (nodes_tops_i4 n) (nodes_tops_i21 n) (nodes_tops_i23 n) (nodes_tops_i28 n) (nodes_tops_i31 n) x0 x1 x2 x3 x4 x5 x6 x7 x8 x9 x10 x11 x12 x13 x14 x15 x16 x17 x18
def nodes_tops_i23 : Nat → List Y8 → List Y8 → Int → Int → Int → Int → Int → Int → Int → Int → Int → Int → Int → Int → Int → Int → List Y2 → Int → Int → Int → Int → Int → Int → Option (List Y8 × Bool × Unit)
 | 0, _, _, _, _, _, _, _, _, _, _, _, _, _, _, _, _, _, _, _, _, _, _, _ => none
 | n + 1, x0, x1, x2, x3, x4, x5, x6, x7, x8, x9, x10, x11, x12, x13, x14, x15, x16, x17, x18, x19, x20, x21, x22 => nodes_tops_c23 (nodes_tops_i4 n) (nodes_tops_i21 n) (nodes_tops_i23 n) (nodes_tops_i28 n) (nodes_tops_i31 n) x0 x1 x2 x3 x4 x5 x6 x7 x8 x9 x10 x11 x12 x13 x14 x15 x16 x17 x18 x19 x20 x21 x22
def nodes_tops_i28 : Nat → List Y8 → List Y8 → Int → Int → Int → Int → Int → Int → Int → Int → Int → Int → Int → Int → Int → Int → Int → Int → List Y2 → Int → Int → Int → Int → Int → Int → Option (List Y8 × Bool × Unit)
 | 0, _, _, _, _, _, _, _, _, _, _, _, _, _, _, _, _, _, _, _, _, _, _, _, _, _ => none
 | n + 1, x0, x1, x2, x3, x4, x5, x6, x7, x8, x9, x10, x11, x12, x13, x14, x15, x16, x17, x18, x19, x20, x21, x22, x23, x24 => nodes_tops_c28 (nodes_tops_i4 n) (nodes_tops_i21 n) (nodes_tops_i23 n) (nodes_tops_i28 n) (nodes_tops_i31 n) x0 x1 x2 x3 x4 x5 x6 x7 x8 x9 x10 x11 x12 x13 x14 x15 x16 x17 x18 x19 x20 x21 x22 x23 x24
def nodes_tops_i31 : Nat → List Y8 → List Y8 → Int → Int → Int → Int → Int → Int → Int → Int → Int → Int → Int → Int → Int → Int → List Y2 → Int → Int → Option (List Y8 × Bool × Unit)
 | 0, _, _, _, _, _, _, _, _, _, _, _, _, _, _, _, _, _, _, _ => none
 | n + 1, x0, x1, x2, x3, x4, x5, x6, x7, x8, x9, x10, x11, x12, x13, x14, x15, x16, x17, x18 => nodes_tops_c31 (nodes_tops_i4 n) (nodes_tops_i21 n) (nodes_tops_i23 n) (nodes_tops_i28 n) (nodes_tops_i31 n) x0 x1 x2 x3 x4 x5 x6 x7 x8 x9 x10 x11 x12 x13 x14 x15 x16 x17 x18
end
def nodes_tops (a0 : List Y2) : Option (List Y8 × Bool × Unit) := nodes_tops_c (nodes_tops_i4 fuel) (nodes_tops_i21 fuel) (nodes_tops_i23 fuel) (nodes_tops_i28 fuel) (nodes_tops_i31 fuel) a0
def nodes_check (a0 : List Y2) : Option (List Y8 × Int × Unit) :=
 bif decide (Int.ofNat (List.length a0) > (60 : Int)) then
  some (([], (4 : Int), ()))
 else
  match nodes_tops a0 with
   | none => none
   | some e0 =>
    bif !e0.2.1 then
     some (([], (8 : Int), ()))
    else
     bif decide ((0 : Int) ≤ Go.IntKind.wrap Go.IntKind.i64 (Int.ofNat (List.length e0.1) - (1 : Int))) then
      match e0.1[Int.toNat (Go.IntKind.wrap Go.IntKind.i64 (Int.ofNat (List.length e0.1) - (1 : Int)))]? with
       | none => none
       | some e1 =>
        bif decide (e1.2.2.1 > (20 : Int)) then
         some (([], (34 : Int), ()))
        else
         some ((e0.1, (0 : Int), ()))
     else
      none
def nodes_Check (a0 : List Y2) : Option Y10 :=
 match nodes_check a0 with
  | none => none
  | some e0 =>
   some ((e0.2.1, ()))
abbrev clauses_Sources_T14 := List Y10 → Int → Int → List Y10 → Bool → Option Y10
def clauses_Sources_c (J14 : clauses_Sources_T14) (a0 : List Y10) (a1 : Bool) : Option Y10 :=
 bif decide (Int.ofNat (List.length a0) > (4 : Int)) then
  some (((4 : Int), ()))
 else
  bif Int.ofNat (List.length a0) == (0 : Int) then
   some (((8 : Int), ()))
  else
   bif a1 then
    bif Int.ofNat (List.length a0) != (2 : Int) then
     some (((8 : Int), ()))
    else
     J14 a0 (Int.ofNat (List.length a0)) ((0 : Int)) a0 (false)
   else
    J14 a0 (Int.ofNat (List.length a0)) ((0 : Int)) a0 (false)
def clauses_Sources_c14 (J14 : clauses_Sources_T14) (x0 : List Y10) (x1 x2 : Int) (x3 : List Y10) (x4 : Bool) : Option Y10 :=
 bif decide (x2 < x1) then
  bif decide ((0 : Int) ≤ x2) then
   match x0[Int.toNat x2]? with
    | none => none
    | some e0 =>
     bif decide (e0.1 < (0 : Int)) then
      bif x4 then
       some (((8 : Int), ()))
      else
       bif decide (x2 ≥ (0 : Int)) then
        some (((8 : Int), ()))
       else
        match clauses_distinct_int_ x3 with
         | none => none
         | some e1 =>
          bif decide (e1.1 < Int.ofNat (List.length x3)) then
           some (((43 : Int), ()))
          else
           some (((0 : Int), ()))
     else
      bif decide (e0.1 ≥ (4 : Int)) then
       bif x4 then
        some (((8 : Int), ()))
       else
        bif decide (x2 ≥ (0 : Int)) then
         some (((8 : Int), ()))
        else
         match clauses_distinct_int_ x3 with
          | none => none
          | some e1 =>
           bif decide (e1.1 < Int.ofNat (List.length x3)) then
            some (((43 : Int), ()))
           else
            some (((0 : Int), ()))
      else
       J14 x0 x1 (Go.IntKind.wrap Go.IntKind.i64 (x2 + (1 : Int))) x3 x4
  else
   none
 else
  bif x4 then
   some (((8 : Int), ()))
  else
   match clauses_distinct_int_ x3 with
    | none => none
    | some e0 =>
     bif decide (e0.1 < Int.ofNat (List.length x3)) then
      some (((43 : Int), ()))
     else
      some (((0 : Int), ()))
mutual
def clauses_Sources_i14 : Nat → List Y10 → Int → Int → List Y10 → Bool → Option Y10
 | 0, _, _, _, _, _ => none
 | n + 1, x0, x1, x2, x3, x4 => clauses_Sources_c14 (clauses_Sources_i14 n) x0 x1 x2 x3 x4
end
def clauses_Sources (a0 : List Y10) (a1 : Bool) : Option Y10 := clauses_Sources_c (clauses_Sources_i14 fuel) a0 a1
def clauses_Window (a0 : Int × Int × Int × Unit) : Option Y10 :=
 bif decide (a0.2.1 < (1 : Int)) then
  some (((8 : Int), ()))
 else
  bif decide (a0.2.1 > (1073741824 : Int)) then
   some (((8 : Int), ()))
  else
   bif a0.1 == (2 : Int) then
    bif decide (a0.2.2.1 ≥ (1 : Int)) then
     bif decide (a0.2.2.1 ≤ a0.2.1) then
      bif decide (a0.2.1 ≤ Go.IntKind.wrap Go.IntKind.i64 ((16 : Int) * a0.2.2.1)) then
       some (((0 : Int), ()))
      else
       some (((8 : Int), ()))
     else
      some (((8 : Int), ()))
    else
     some (((8 : Int), ()))
   else
    bif a0.1 == (1 : Int) then
     bif a0.2.2.1 == (0 : Int) then
      some (((0 : Int), ()))
     else
      some (((8 : Int), ()))
    else
     bif a0.1 == (3 : Int) then
      bif a0.2.2.1 == (0 : Int) then
       some (((0 : Int), ()))
      else
       some (((8 : Int), ()))
     else
      some (((8 : Int), ()))
abbrev clauses_Check_T4 := List Y10 → Bool → List Y2 → Int → Int → Int → Option Y10
abbrev clauses_Check_T12 := List Y10 → Bool → Int → Int → Int → Option Y10
def clauses_Check_c (J4 : clauses_Check_T4) (J12 : clauses_Check_T12) (a0 : Int × List Y2 × List Y10 × Bool × List Y2 × Int × Int × Int × Bool × Int × Unit) : Option Y10 :=
 bif decide (a0.1 < (1 : Int)) then
  some (((8 : Int), ()))
 else
  bif decide (a0.1 > (4 : Int)) then
   some (((8 : Int), ()))
  else
   bif a0.2.2.2.2.2.2.2.2.2.1 != (1 : Int) then
    bif a0.2.2.2.2.2.2.2.2.2.1 != (2 : Int) then
     some (((8 : Int), ()))
    else
     bif a0.1 != (1 : Int) then
      match nodes_Check a0.2.1 with
       | none => none
       | some e0 =>
        bif e0.1 != (0 : Int) then
         some ((e0.1, ()))
        else
         J4 (a0.2.2.1) (a0.2.2.2.1) (a0.2.2.2.2.1) (a0.2.2.2.2.2.1) (a0.2.2.2.2.2.2.1) (a0.2.2.2.2.2.2.2.1)
     else
      bif decide (Int.ofNat (List.length a0.2.1) > (0 : Int)) then
       some (((8 : Int), ()))
      else
       J4 (a0.2.2.1) (a0.2.2.2.1) (a0.2.2.2.2.1) (a0.2.2.2.2.2.1) (a0.2.2.2.2.2.2.1) (a0.2.2.2.2.2.2.2.1)
   else
    bif a0.1 != (1 : Int) then
     match nodes_Check a0.2.1 with
      | none => none
      | some e0 =>
       bif e0.1 != (0 : Int) then
        some ((e0.1, ()))
       else
        J4 (a0.2.2.1) (a0.2.2.2.1) (a0.2.2.2.2.1) (a0.2.2.2.2.2.1) (a0.2.2.2.2.2.2.1) (a0.2.2.2.2.2.2.2.1)
    else
     bif decide (Int.ofNat (List.length a0.2.1) > (0 : Int)) then
      some (((8 : Int), ()))
     else
      J4 (a0.2.2.1) (a0.2.2.2.1) (a0.2.2.2.2.1) (a0.2.2.2.2.2.1) (a0.2.2.2.2.2.2.1) (a0.2.2.2.2.2.2.2.1)
def clauses_Check_c4 (J4 : clauses_Check_T4) (J12 : clauses_Check_T12) (x0 : List Y10) (x1 : Bool) (x2 : List Y2) (x3 x4 x5 : Int) : Option Y10 :=
 bif decide (Int.ofNat (List.length x2) > (0 : Int)) then
  match nodes_Check x2 with
   | none => none
   | some e0 =>
    bif e0.1 != (0 : Int) then
     some ((e0.1, ()))
    else
     J12 x0 x1 x3 x4 x5
 else
  J12 x0 x1 x3 x4 x5
def clauses_Check_c12 (J4 : clauses_Check_T4) (J12 : clauses_Check_T12) (x0 : List Y10) (x1 : Bool) (x2 x3 x4 : Int) : Option Y10 :=
 match clauses_Sources x0 x1 with
  | none => none
  | some e0 =>
   bif e0.1 != (0 : Int) then
    some ((e0.1, ()))
   else
    bif x1 then
     bif x2 != (1 : Int) then
      some (((8 : Int), ()))
     else
      match clauses_Window (x2, x3, x4, ()) with
       | none => none
       | some e1 =>
        some ((e1.1, ()))
    else
     match clauses_Window (x2, x3, x4, ()) with
      | none => none
      | some e1 =>
       some ((e1.1, ()))
mutual
def clauses_Check_i4 : Nat → List Y10 → Bool → List Y2 → Int → Int → Int → Option Y10
 | 0, _, _, _, _, _, _ => none
 | n + 1, x0, x1, x2, x3, x4, x5 => clauses_Check_c4 (clauses_Check_i4 n) (clauses_Check_i12 n) x0 x1 x2 x3 x4 x5
def clauses_Check_i12 : Nat → List Y10 → Bool → Int → Int → Int → Option Y10
 | 0, _, _, _, _, _ => none
 | n + 1, x0, x1, x2, x3, x4 => clauses_Check_c12 (clauses_Check_i4 n) (clauses_Check_i12 n) x0 x1 x2 x3 x4
end
def clauses_Check (a0 : Int × List Y2 × List Y10 × Bool × List Y2 × Int × Int × Int × Bool × Int × Unit) : Option Y10 := clauses_Check_c (clauses_Check_i4 fuel) (clauses_Check_i12 fuel) a0
abbrev kinds_told_T6 := List Y2 → List Y11 → List Y2 → Int → Int → Option (List Y11 × Int × Unit)
abbrev kinds_told_T14 := List Y2 → List Y11 → Int → Bool → Bool → Bool → List Y10 → Int → List Y2 → Int → Int → Option (List Y11 × Int × Unit)
abbrev kinds_told_T28 := Bool → List Y11 → List Y10 → Int → Int → Int → List Y2 → Int → Bool → Bool → Int → Int → List Y2 → Int → Int → Bool → Option (List Y11 × Int × Unit)
abbrev kinds_told_T40 := Bool → List Y11 → List Y10 → Int → Int → List Y2 → Int → Bool → List Y2 → Int → Int → Bool → Bool → Option (List Y11 × Int × Unit)
def kinds_told_c (J6 : kinds_told_T6) (J14 : kinds_told_T14) (J28 : kinds_told_T28) (J40 : kinds_told_T40) (a0 : List Y2) : Option (List Y11 × Int × Unit) :=
 J6 a0 ([]) a0 (Int.ofNat (List.length a0)) ((0 : Int))
def kinds_told_c6 (J6 : kinds_told_T6) (J14 : kinds_told_T14) (J28 : kinds_told_T28) (J40 : kinds_told_T40) (x0 : List Y2) (x1 : List Y11) (x2 : List Y2) (x3 x4 : Int) : Option (List Y11 × Int × Unit) :=
 bif decide (x4 < x3) then
  bif decide ((0 : Int) ≤ x4) then
   match x2[Int.toNat x4]? with
    | none => none
    | some e0 =>
     bif decide (e0.1 ≤ (4 : Int)) then
      bif bigOk (List.length x1 + (1 : Nat)) (1 : Nat) then
       J6 x0 (x1 ++ [(false, ())]) x2 x3 (Go.IntKind.wrap Go.IntKind.i64 (x4 + (1 : Int)))
      else
       none
     else
      bif e0.1 == (5 : Int) then
       J14 x0 x1 x4 (true) (false) (false) ([(e0.2.2.1, ()), (e0.2.2.2.1, ())]) ((1 : Int)) x2 x3 x4
      else
       bif e0.1 == (6 : Int) then
        J14 x0 x1 x4 (false) (true) (true) ([(e0.2.2.1, ()), (e0.2.2.2.1, ())]) ((1 : Int)) x2 x3 x4
       else
        bif decide (e0.1 ≤ (11 : Int)) then
         J14 x0 x1 x4 (true) (false) (false) ([(e0.2.2.1, ()), (e0.2.2.2.1, ())]) (Int.ofNat (List.length [(e0.2.2.1, ()), (e0.2.2.2.1, ())])) x2 x3 x4
        else
         bif decide (e0.1 ≤ (15 : Int)) then
          J14 x0 x1 x4 (true) (false) (true) ([(e0.2.2.1, ()), (e0.2.2.2.1, ())]) (Int.ofNat (List.length [(e0.2.2.1, ()), (e0.2.2.2.1, ())])) x2 x3 x4
         else
          bif decide (e0.1 ≤ (17 : Int)) then
           J14 x0 x1 x4 (true) (true) (true) ([(e0.2.2.1, ()), (e0.2.2.2.1, ())]) (Int.ofNat (List.length [(e0.2.2.1, ()), (e0.2.2.2.1, ())])) x2 x3 x4
          else
           J14 x0 x1 x4 (false) (true) (true) ([(e0.2.2.1, ()), (e0.2.2.2.1, ())]) (Int.ofNat (List.length [(e0.2.2.1, ()), (e0.2.2.2.1, ())])) x2 x3 x4
  else
   none
 else
  some ((x1, Int.ofNat (List.length x0), ()))
def kinds_told_c14 (J6 : kinds_told_T6) (J14 : kinds_told_T14) (J28 : kinds_told_T28) (J40 : kinds_told_T40) (x0 : List Y2) (x1 : List Y11) (x2 : Int) (x3 x4 x5 : Bool) (x6 : List Y10) (x7 : Int) (x8 : List Y2) (x9 x10 : Int) : Option (List Y11 × Int × Unit) :=
 bif x3 then
  J28 (false) x1 x6 (Int.ofNat (Int.toNat x7)) (Int.ofNat (Int.toNat x7)) ((0 : Int)) x0 x2 x4 x5 ((0 : Int)) (Int.ofNat (Int.toNat x7)) x8 x9 x10 (true)
 else
  bif x4 then
   J40 (true) x1 (List.take (Int.toNat x7) (List.drop (0 : Nat) x6)) (Int.ofNat (Int.toNat x7)) ((0 : Int)) x0 x2 x5 x8 x9 x10 (true) (true)
  else
   some (([], x2, ()))
def kinds_told_c28 (J6 : kinds_told_T6) (J14 : kinds_told_T14) (J28 : kinds_told_T28) (J40 : kinds_told_T40) (x0 : Bool) (x1 : List Y11) (x2 : List Y10) (x3 x4 x5 : Int) (x6 : List Y2) (x7 : Int) (x8 x9 : Bool) (x10 x11 : Int) (x12 : List Y2) (x13 x14 : Int) (x15 : Bool) : Option (List Y11 × Int × Unit) :=
 bif decide (x5 < x4) then
  bif decide ((0 : Int) ≤ x5) then
   bif decide (Int.toNat x5 < Int.toNat x3) then
    match x2[(0 : Nat) + Int.toNat x5]? with
     | none => none
     | some e0 =>
      bif decide ((0 : Int) ≤ e0.1) then
       bif decide (Int.toNat e0.1 < List.length x1) then
        match x1[Int.toNat e0.1]? with
         | none => none
         | some e1 =>
          bif !e1.1 == x0 then
           bif x15 then
            bif x8 then
             J40 (true) x1 (List.take (Int.toNat x11) (List.drop (Int.toNat x10) x2)) (Int.ofNat (Int.toNat x11)) ((0 : Int)) x6 x7 x9 x12 x13 x14 (true) (true)
            else
             some (([], x7, ()))
           else
            bif x8 then
             J40 (true) x1 (List.take (Int.toNat x11) (List.drop (Int.toNat x10) x2)) (Int.ofNat (Int.toNat x11)) ((0 : Int)) x6 x7 x9 x12 x13 x14 (true) (true)
            else
             some (([], x7, ()))
          else
           J28 x0 x1 x2 (Int.ofNat (Int.toNat x3)) x4 (Go.IntKind.wrap Go.IntKind.i64 (x5 + (1 : Int))) x6 x7 x8 x9 (Int.ofNat (Int.toNat x10)) (Int.ofNat (Int.toNat x11)) x12 x13 x14 x15
       else
        none
      else
       none
   else
    none
  else
   none
 else
  bif x15 then
   bif bigOk (List.length x1 + List.length [(x9, ())]) (1 : Nat) then
    J6 x6 (x1 ++ [(x9, ())]) x12 x13 (Go.IntKind.wrap Go.IntKind.i64 (x14 + (1 : Int)))
   else
    none
  else
   bif x8 then
    J40 (true) x1 (List.take (Int.toNat x11) (List.drop (Int.toNat x10) x2)) (Int.ofNat (Int.toNat x11)) ((0 : Int)) x6 x7 x9 x12 x13 x14 (true) (true)
   else
    some (([], x7, ()))
def kinds_told_c40 (J6 : kinds_told_T6) (J14 : kinds_told_T14) (J28 : kinds_told_T28) (J40 : kinds_told_T40) (x0 : Bool) (x1 : List Y11) (x2 : List Y10) (x3 x4 : Int) (x5 : List Y2) (x6 : Int) (x7 : Bool) (x8 : List Y2) (x9 x10 : Int) (x11 x12 : Bool) : Option (List Y11 × Int × Unit) :=
 bif decide (x4 < x3) then
  bif decide ((0 : Int) ≤ x4) then
   match x2[Int.toNat x4]? with
    | none => none
    | some e0 =>
     bif decide ((0 : Int) ≤ e0.1) then
      bif decide (Int.toNat e0.1 < List.length x1) then
       match x1[Int.toNat e0.1]? with
        | none => none
        | some e1 =>
         bif !e1.1 == x0 then
          bif x11 then
           bif x12 then
            some (([], x6, ()))
           else
            some (([], x6, ()))
          else
           bif bigOk (List.length x1 + List.length [(x7, ())]) (1 : Nat) then
            J6 x5 (x1 ++ [(x7, ())]) x8 x9 (Go.IntKind.wrap Go.IntKind.i64 (x10 + (1 : Int)))
           else
            none
         else
          J40 x0 x1 x2 x3 (Go.IntKind.wrap Go.IntKind.i64 (x4 + (1 : Int))) x5 x6 x7 x8 x9 x10 x11 x12
      else
       none
     else
      none
  else
   none
 else
  bif x11 then
   bif x12 then
    bif bigOk (List.length x1 + List.length [(x7, ())]) (1 : Nat) then
     J6 x5 (x1 ++ [(x7, ())]) x8 x9 (Go.IntKind.wrap Go.IntKind.i64 (x10 + (1 : Int)))
    else
     none
   else
    some (([], x6, ()))
  else
   bif bigOk (List.length x1 + List.length [(x7, ())]) (1 : Nat) then
    J6 x5 (x1 ++ [(x7, ())]) x8 x9 (Go.IntKind.wrap Go.IntKind.i64 (x10 + (1 : Int)))
   else
    none
mutual
def kinds_told_i6 : Nat → List Y2 → List Y11 → List Y2 → Int → Int → Option (List Y11 × Int × Unit)
 | 0, _, _, _, _, _ => none
 | n + 1, x0, x1, x2, x3, x4 => kinds_told_c6 (kinds_told_i6 n) (kinds_told_i14 n) (kinds_told_i28 n) (kinds_told_i40 n) x0 x1 x2 x3 x4
def kinds_told_i14 : Nat → List Y2 → List Y11 → Int → Bool → Bool → Bool → List Y10 → Int → List Y2 → Int → Int → Option (List Y11 × Int × Unit)
 | 0, _, _, _, _, _, _, _, _, _, _, _ => none
 | n + 1, x0, x1, x2, x3, x4, x5, x6, x7, x8, x9, x10 => kinds_told_c14 (kinds_told_i6 n) (kinds_told_i14 n) (kinds_told_i28 n) (kinds_told_i40 n) x0 x1 x2 x3 x4 x5 x6 x7 x8 x9 x10
def kinds_told_i28 : Nat → Bool → List Y11 → List Y10 → Int → Int → Int → List Y2 → Int → Bool → Bool → Int → Int → List Y2 → Int → Int → Bool → Option (List Y11 × Int × Unit)
 | 0, _, _, _, _, _, _, _, _, _, _, _, _, _, _, _, _ => none
 | n + 1, x0, x1, x2, x3, x4, x5, x6, x7, x8, x9, x10, x11, x12, x13, x14, x15 => kinds_told_c28 (kinds_told_i6 n) (kinds_told_i14 n) (kinds_told_i28 n) (kinds_told_i40 n) x0 x1 x2 x3 x4 x5 x6 x7 x8 x9 x10 x11 x12 x13 x14 x15
def kinds_told_i40 : Nat → Bool → List Y11 → List Y10 → Int → Int → List Y2 → Int → Bool → List Y2 → Int → Int → Bool → Bool → Option (List Y11 × Int × Unit)
 | 0, _, _, _, _, _, _, _, _, _, _, _, _, _ => none
 | n + 1, x0, x1, x2, x3, x4, x5, x6, x7, x8, x9, x10, x11, x12 => kinds_told_c40 (kinds_told_i6 n) (kinds_told_i14 n) (kinds_told_i28 n) (kinds_told_i40 n) x0 x1 x2 x3 x4 x5 x6 x7 x8 x9 x10 x11 x12
end
def kinds_told (a0 : List Y2) : Option (List Y11 × Int × Unit) := kinds_told_c (kinds_told_i6 fuel) (kinds_told_i14 fuel) (kinds_told_i28 fuel) (kinds_told_i40 fuel) a0
def kinds_Of (a0 : List Y2) : Option (Bool × Int × Int × Unit) :=
 match nodes_Check a0 with
  | none => none
  | some e0 =>
   bif e0.1 != (0 : Int) then
    some ((false, (0 : Int), e0.1, ()))
   else
    match kinds_told a0 with
     | none => none
     | some e1 =>
      bif decide (e1.2.1 < Int.ofNat (List.length a0)) then
       some ((false, e1.2.1, (42 : Int), ()))
      else
       bif decide ((0 : Int) ≤ Go.IntKind.wrap Go.IntKind.i64 (e1.2.1 - (1 : Int))) then
        match e1.1[Int.toNat (Go.IntKind.wrap Go.IntKind.i64 (e1.2.1 - (1 : Int)))]? with
         | none => none
         | some e2 =>
          some ((e2.1, Go.IntKind.wrap Go.IntKind.i64 (e1.2.1 - (1 : Int)), (0 : Int), ()))
       else
        none
def kinds_want (a0 : List Y2) (a1 : Bool) : Option Y9 :=
 match kinds_Of a0 with
  | none => none
  | some e0 =>
   bif e0.2.2.1 == (0 : Int) then
    bif !e0.1 == a1 then
     some ((e0.2.1, (42 : Int), ()))
    else
     some (e0.2)
   else
    some (e0.2)
def kinds_Number (a0 : List Y2) : Option Y9 :=
 match kinds_want a0 false with
  | none => none
  | some e0 =>
   some (e0)
def kinds_Truth (a0 : List Y2) : Option Y9 :=
 match kinds_want a0 true with
  | none => none
  | some e0 =>
   some (e0)
def checks_Check (a0 : Int × List Y2 × List Y10 × Bool × List Y2 × Int × Int × Int × Bool × Int × Unit) : Option Y9 :=
 match clauses_Check a0 with
  | none => none
  | some e0 =>
   bif e0.1 != (0 : Int) then
    some (((0 : Int), e0.1, ()))
   else
    bif Int.ofNat (List.length a0.2.1) == (0 : Int) then
     bif Int.ofNat (List.length a0.2.2.2.2.1) == (0 : Int) then
      some (((0 : Int), (0 : Int), ()))
     else
      match kinds_Truth a0.2.2.2.2.1 with
       | none => none
       | some e1 =>
        bif e1.2.1 != (0 : Int) then
         bif decide ((0 : Int) ≤ e1.1) then
          match a0.2.2.2.2.1[Int.toNat e1.1]? with
           | none => none
           | some e2 =>
            some ((e2.2.2.2.2.1, e1.2.1, ()))
         else
          none
        else
         some (((0 : Int), (0 : Int), ()))
    else
     match kinds_Number a0.2.1 with
      | none => none
      | some e1 =>
       bif e1.2.1 != (0 : Int) then
        bif decide ((0 : Int) ≤ e1.1) then
         match a0.2.1[Int.toNat e1.1]? with
          | none => none
          | some e2 =>
           some ((e2.2.2.2.2.1, e1.2.1, ()))
        else
         none
       else
        bif Int.ofNat (List.length a0.2.2.2.2.1) == (0 : Int) then
         some (((0 : Int), (0 : Int), ()))
        else
         match kinds_Truth a0.2.2.2.2.1 with
          | none => none
          | some e2 =>
           bif e2.2.1 != (0 : Int) then
            bif decide ((0 : Int) ≤ e2.1) then
             match a0.2.2.2.2.1[Int.toNat e2.1]? with
              | none => none
              | some e3 =>
               some ((e3.2.2.2.2.1, e2.2.1, ()))
            else
             none
           else
            some (((0 : Int), (0 : Int), ()))
def late_time (a0 : Int) : Option Y11 :=
 bif decide (a0 ≥ (-1099511627776 : Int)) then
  some ((decide (a0 ≤ (1099511627776 : Int)), ()))
 else
  some ((false, ()))
abbrev late_Check_T6 := List Y6 → Int → Int → Option Y10
def late_Check_c (J6 : late_Check_T6) (a0 : List Y6) : Option Y10 :=
 bif decide (Int.ofNat (List.length a0) > (60 : Int)) then
  some (((4 : Int), ()))
 else
  J6 a0 (Int.ofNat (List.length a0)) ((0 : Int))
def late_Check_c6 (J6 : late_Check_T6) (x0 : List Y6) (x1 x2 : Int) : Option Y10 :=
 bif decide (x2 < x1) then
  bif decide ((0 : Int) ≤ x2) then
   match x0[Int.toNat x2]? with
    | none => none
    | some e0 =>
     bif e0.2.2.1 == (0 : Int) && (e0.2.2.2.1 == (0 : Int) && (e0.2.2.2.2.1 == (0 : Int) && true)) then
      match late_time e0.2.1 with
       | none => none
       | some e1 =>
        bif e1.1 then
         bif e0.2.1 == (0 : Int) then
          match late_time e0.2.2.2.1 with
           | none => none
           | some e2 =>
            bif e0.1 then
             bif !e0.1 then
              bif !e2.1 then
               some (((8 : Int), ()))
              else
               J6 x0 x1 (Go.IntKind.wrap Go.IntKind.i64 (x2 + (1 : Int)))
             else
              J6 x0 x1 (Go.IntKind.wrap Go.IntKind.i64 (x2 + (1 : Int)))
            else
             bif !e0.1 then
              bif !e2.1 then
               some (((8 : Int), ()))
              else
               J6 x0 x1 (Go.IntKind.wrap Go.IntKind.i64 (x2 + (1 : Int)))
             else
              J6 x0 x1 (Go.IntKind.wrap Go.IntKind.i64 (x2 + (1 : Int)))
         else
          bif e0.1 then
           bif !e0.1 then
            some (((8 : Int), ()))
           else
            J6 x0 x1 (Go.IntKind.wrap Go.IntKind.i64 (x2 + (1 : Int)))
          else
           bif !e0.1 then
            some (((8 : Int), ()))
           else
            J6 x0 x1 (Go.IntKind.wrap Go.IntKind.i64 (x2 + (1 : Int)))
        else
         bif e0.2.1 == (0 : Int) then
          match late_time e0.2.2.2.1 with
           | none => none
           | some e2 =>
            bif e0.1 then
             bif !e0.2.1 == (9223372036854775807 : Int) then
              some (((8 : Int), ()))
             else
              bif !e0.1 then
               bif !e2.1 then
                some (((8 : Int), ()))
               else
                J6 x0 x1 (Go.IntKind.wrap Go.IntKind.i64 (x2 + (1 : Int)))
              else
               J6 x0 x1 (Go.IntKind.wrap Go.IntKind.i64 (x2 + (1 : Int)))
            else
             bif !e0.1 then
              bif !e2.1 then
               some (((8 : Int), ()))
              else
               J6 x0 x1 (Go.IntKind.wrap Go.IntKind.i64 (x2 + (1 : Int)))
             else
              J6 x0 x1 (Go.IntKind.wrap Go.IntKind.i64 (x2 + (1 : Int)))
         else
          bif e0.1 then
           bif !e0.2.1 == (9223372036854775807 : Int) then
            some (((8 : Int), ()))
           else
            bif !e0.1 then
             some (((8 : Int), ()))
            else
             J6 x0 x1 (Go.IntKind.wrap Go.IntKind.i64 (x2 + (1 : Int)))
          else
           bif !e0.1 then
            some (((8 : Int), ()))
           else
            J6 x0 x1 (Go.IntKind.wrap Go.IntKind.i64 (x2 + (1 : Int)))
     else
      bif e0.2.1 == (0 : Int) then
       match late_time e0.2.2.2.1 with
        | none => none
        | some e1 =>
         bif e0.1 then
          some (((8 : Int), ()))
         else
          bif !e0.1 then
           bif !e1.1 then
            some (((8 : Int), ()))
           else
            J6 x0 x1 (Go.IntKind.wrap Go.IntKind.i64 (x2 + (1 : Int)))
          else
           J6 x0 x1 (Go.IntKind.wrap Go.IntKind.i64 (x2 + (1 : Int)))
      else
       bif e0.1 then
        some (((8 : Int), ()))
       else
        bif !e0.1 then
         some (((8 : Int), ()))
        else
         J6 x0 x1 (Go.IntKind.wrap Go.IntKind.i64 (x2 + (1 : Int)))
  else
   none
 else
  some (((0 : Int), ()))
mutual
def late_Check_i6 : Nat → List Y6 → Int → Int → Option Y10
 | 0, _, _, _ => none
 | n + 1, x0, x1, x2 => late_Check_c6 (late_Check_i6 n) x0 x1 x2
end
def late_Check (a0 : List Y6) : Option Y10 := late_Check_c (late_Check_i6 fuel) a0
abbrev plan_steps_T2 := Bool → Bool → Int → List Y10 → Option (List Y10 × Unit)
abbrev plan_steps_T5 := Bool → Int → List Y10 → Option (List Y10 × Unit)
abbrev plan_steps_T8 := Int → List Y10 → Option (List Y10 × Unit)
def plan_steps_c (J2 : plan_steps_T2) (J5 : plan_steps_T5) (J8 : plan_steps_T8) (a0 : Int × List Y2 × List Y10 × Bool × List Y2 × Int × Int × Int × Bool × Int × Unit) : Option (List Y10 × Unit) :=
 bif decide (Int.ofNat (List.length a0.2.2.2.2.1) > (0 : Int)) then
  J2 (a0.2.2.2.1) (a0.2.2.2.2.2.2.2.2.1) (a0.2.2.2.2.2.2.2.2.2.1) ([((1 : Int), ()), ((2 : Int), ())] ++ [((3 : Int), ())])
 else
  J2 (a0.2.2.2.1) (a0.2.2.2.2.2.2.2.2.1) (a0.2.2.2.2.2.2.2.2.2.1) ([((1 : Int), ()), ((2 : Int), ())])
def plan_steps_c2 (J2 : plan_steps_T2) (J5 : plan_steps_T5) (J8 : plan_steps_T8) (x0 x1 : Bool) (x2 : Int) (x3 : List Y10) : Option (List Y10 × Unit) :=
 bif bigOk (List.length x3 + (1 : Nat)) (1 : Nat) then
  bif x1 then
   bif bigOk (List.length (x3 ++ [((4 : Int), ())]) + (1 : Nat)) (1 : Nat) then
    J5 x0 x2 (x3 ++ [((4 : Int), ())] ++ [((5 : Int), ())])
   else
    none
  else
   J5 x0 x2 (x3 ++ [((4 : Int), ())])
 else
  none
def plan_steps_c5 (J2 : plan_steps_T2) (J5 : plan_steps_T5) (J8 : plan_steps_T8) (x0 : Bool) (x1 : Int) (x2 : List Y10) : Option (List Y10 × Unit) :=
 bif bigOk (List.length x2 + (1 : Nat)) (1 : Nat) then
  bif x0 then
   bif bigOk (List.length (x2 ++ [((6 : Int), ())]) + (1 : Nat)) (1 : Nat) then
    J8 x1 (x2 ++ [((6 : Int), ())] ++ [((8 : Int), ())])
   else
    none
  else
   bif bigOk (List.length (x2 ++ [((6 : Int), ())]) + (1 : Nat)) (1 : Nat) then
    J8 x1 (x2 ++ [((6 : Int), ())] ++ [((7 : Int), ())])
   else
    none
 else
  none
def plan_steps_c8 (J2 : plan_steps_T2) (J5 : plan_steps_T5) (J8 : plan_steps_T8) (x0 : Int) (x1 : List Y10) : Option (List Y10 × Unit) :=
 bif bigOk (List.length x1 + (1 : Nat)) (1 : Nat) then
  bif x0 == (2 : Int) then
   bif bigOk (List.length (x1 ++ [((9 : Int), ())]) + (1 : Nat)) (1 : Nat) then
    some ((x1 ++ [((9 : Int), ())] ++ [((10 : Int), ())], ()))
   else
    none
  else
   some ((x1 ++ [((9 : Int), ())], ()))
 else
  none
mutual
def plan_steps_i2 : Nat → Bool → Bool → Int → List Y10 → Option (List Y10 × Unit)
 | 0, _, _, _, _ => none
 | n + 1, x0, x1, x2, x3 => plan_steps_c2 (plan_steps_i2 n) (plan_steps_i5 n) (plan_steps_i8 n) x0 x1 x2 x3
def plan_steps_i5 : Nat → Bool → Int → List Y10 → Option (List Y10 × Unit)
 | 0, _, _, _ => none
 | n + 1, x0, x1, x2 => plan_steps_c5 (plan_steps_i2 n) (plan_steps_i5 n) (plan_steps_i8 n) x0 x1 x2
def plan_steps_i8 : Nat → Int → List Y10 → Option (List Y10 × Unit)
 | 0, _, _ => none
 | n + 1, x0, x1 => plan_steps_c8 (plan_steps_i2 n) (plan_steps_i5 n) (plan_steps_i8 n) x0 x1
end
def plan_steps (a0 : Int × List Y2 × List Y10 × Bool × List Y2 × Int × Int × Int × Bool × Int × Unit) : Option (List Y10 × Unit) := plan_steps_c (plan_steps_i2 fuel) (plan_steps_i5 fuel) (plan_steps_i8 fuel) a0
def plan_Of (a0 : Int × List Y2 × List Y10 × Bool × List Y2 × Int × Int × Int × Bool × Int × Unit) : Option ((List Y10 × Int × List Y2 × List Y10 × Bool × List Y2 × Int × Int × Int × Bool × Int × Unit) × Int × Unit) :=
 match checks_Check a0 with
  | none => none
  | some e0 =>
   bif e0.2.1 != (0 : Int) then
    some ((([], (0 : Int), [], [], false, [], (0 : Int), (0 : Int), (0 : Int), false, (0 : Int), ()), e0.2.1, ()))
   else
    match cloned 40 a0.2.1 with
     | none => none
     | some e1 =>
      match cloned 8 a0.2.2.1 with
       | none => none
       | some e2 =>
        match cloned 40 a0.2.2.2.2.1 with
         | none => none
         | some e3 =>
          match plan_steps (a0.1, e1.1, e2.1, a0.2.2.2.1, e3.1, a0.2.2.2.2.2) with
           | none => none
           | some e4 =>
            some (((e4.1, a0.1, e1.1, e2.1, a0.2.2.2.1, e3.1, a0.2.2.2.2.2), (0 : Int), ()))
/- slices.Equal[[]uint8,uint8] -/
abbrev slices_Equal___uint8_uint8__T6 := List Y10 → List Y10 → Int → Int → Option Y11
def slices_Equal___uint8_uint8__c (J6 : slices_Equal___uint8_uint8__T6) (a0 a1 : List Y10) : Option Y11 :=
 bif Int.ofNat (List.length a0) != Int.ofNat (List.length a1) then
  some ((false, ()))
 else
  J6 a0 a1 (Int.ofNat (List.length a0)) ((0 : Int))
def slices_Equal___uint8_uint8__c6 (J6 : slices_Equal___uint8_uint8__T6) (x0 x1 : List Y10) (x2 x3 : Int) : Option Y11 :=
 bif decide (x3 < x2) then
  bif decide ((0 : Int) ≤ x3) then
   match x0[Int.toNat x3]? with
    | none => none
    | some e0 =>
     bif decide ((0 : Int) ≤ x3) then
      match x1[Int.toNat x3]? with
       | none => none
       | some e1 =>
        bif e0.1 != e1.1 then
         some ((false, ()))
        else
         J6 x0 x1 x2 (Go.IntKind.wrap Go.IntKind.i64 (x3 + (1 : Int)))
     else
      none
  else
   none
 else
  some ((true, ()))
mutual
def slices_Equal___uint8_uint8__i6 : Nat → List Y10 → List Y10 → Int → Int → Option Y11
 | 0, _, _, _, _ => none
 | n + 1, x0, x1, x2, x3 => slices_Equal___uint8_uint8__c6 (slices_Equal___uint8_uint8__i6 n) x0 x1 x2 x3
end
def slices_Equal___uint8_uint8_ (a0 a1 : List Y10) : Option Y11 := slices_Equal___uint8_uint8__c (slices_Equal___uint8_uint8__i6 fuel) a0 a1
def plan_Check (a0 : List Y10 × Int × List Y2 × List Y10 × Bool × List Y2 × Int × Int × Int × Bool × Int × Unit) : Option Y10 :=
 match checks_Check a0.2 with
  | none => none
  | some e0 =>
   bif e0.2.1 != (0 : Int) then
    some ((e0.2.1, ()))
   else
    match plan_steps a0.2 with
     | none => none
     | some e1 =>
      match slices_Equal___uint8_uint8_ a0.1 e1.1 with
       | none => none
       | some e2 =>
        bif !e2.1 then
         some (((8 : Int), ()))
        else
         some (((0 : Int), ()))
abbrev graph_Of_T13 := Int → Bool → Bool → Int → Int → Int → List Y9 → Option Y3
abbrev graph_Of_T19 := Int → List Y9 → Int → Int → Int → Bool → Bool → Int → Int → Int → Option Y3
abbrev graph_Of_T25 := Int → Bool → Bool → Int → Int → Int → List Y9 → Int → Option Y3
abbrev graph_Of_T31 := Int → List Y9 → Int → Int → Int → Int → Bool → Bool → Int → Int → Int → Option Y3
abbrev graph_Of_T38 := Int → Bool → Bool → Int → Int → Int → List Y9 → Int → Int → Option Y3
abbrev graph_Of_T45 := Int → List Y9 → Int → Int → Int → Int → Bool → Bool → Int → Int → Int → Int → Option Y3
abbrev graph_Of_T52 := Int → Bool → Int → Int → Int → List Y9 → Int → Int → Int → Option Y3
abbrev graph_Of_T54 := Int → Bool → Int → Int → Int → List Y9 → Int → Int → Int → Option Y3
abbrev graph_Of_T60 := Int → List Y9 → Int → Int → Int → Int → Bool → Int → Int → Int → Int → Int → Option Y3
abbrev graph_Of_T66 := Int → Bool → Int → Int → Int → List Y9 → Int → Int → Int → Int → Option Y3
abbrev graph_Of_T72 := Int → List Y9 → Int → Int → Int → Int → Bool → Int → Int → Int → Int → Int → Int → Option Y3
abbrev graph_Of_T78 := Int → Bool → Int → Int → Int → List Y9 → List Y2 → Int → Int → Int → Int → Option Y3
abbrev graph_Of_T80 := Int → Bool → Int → Int → Int → List Y9 → List Y2 → Int → Int → Int → Int → Int → Int → Option Y3
abbrev graph_Of_T86 := Int → Bool → Int → Int → Int → List Y9 → List Y2 → Int → Int → Int → Option Y3
abbrev graph_Of_T88 := Int → Bool → Int → Int → Int → List Y9 → List Y2 → Int → Int → Int → Int → Int → Int → Option Y3
abbrev graph_Of_T93 := Int → Bool → Int → Int → Int → List Y9 → List Y2 → Int → Int → Int → Int → Int → Int → Int → Option Y3
abbrev graph_Of_T99 := Int → Int → Int → List Y9 → List Y2 → Int → Int → Option Y3
abbrev graph_Of_T101 := Int → Bool → Int → Int → List Y9 → List Y2 → Int → Int → Int → Int → Int → Option Y3
abbrev graph_Of_T107 := Int → Bool → Int → Int → List Y9 → List Y2 → Int → Int → Int → Int → Int → Int → Int → Int → Option Y3
abbrev graph_Of_T114 := Int → List Y9 → List Y2 → Option Y3
abbrev graph_Of_T116 := Int → Int → List Y9 → List Y2 → Int → Int → Int → Int → Option Y3
abbrev graph_Of_T129 := Int → List Y9 → List Y2 → Int → Int → Option Y3
def graph_Of_c (J13 : graph_Of_T13) (J19 : graph_Of_T19) (J25 : graph_Of_T25) (J31 : graph_Of_T31) (J38 : graph_Of_T38) (J45 : graph_Of_T45) (J52 : graph_Of_T52) (J54 : graph_Of_T54) (J60 : graph_Of_T60) (J66 : graph_Of_T66) (J72 : graph_Of_T72) (J78 : graph_Of_T78) (J80 : graph_Of_T80) (J86 : graph_Of_T86) (J88 : graph_Of_T88) (J93 : graph_Of_T93) (J99 : graph_Of_T99) (J101 : graph_Of_T101) (J107 : graph_Of_T107) (J114 : graph_Of_T114) (J116 : graph_Of_T116) (J129 : graph_Of_T129) (a0 : List Y10 × Int × List Y2 × List Y10 × Bool × List Y2 × Int × Int × Int × Bool × Int × Unit) (a1 a2 : Int) : Option Y3 :=
 match plan_Check a0 with
  | none => none
  | some e0 =>
   bif e0.1 != (0 : Int) then
    some ((([], [], ()), e0.1, ()))
   else
    bif decide (a1 < (1 : Int)) then
     some ((([], [], ()), (2 : Int), ()))
    else
     bif decide (a1 > (3 : Int)) then
      some ((([], [], ()), (2 : Int), ()))
     else
      bif decide (a2 < (1 : Int)) then
       some ((([], [], ()), (2 : Int), ()))
      else
       bif decide (a2 > (8 : Int)) then
        some ((([], [], ()), (2 : Int), ()))
       else
        J19 ((1 : Int)) ([]) (Int.ofNat (List.length a0.2.2.2.1)) ((0 : Int)) a1 (a0.2.2.2.2.1) (a0.2.2.2.2.2.2.2.2.2.1) (a0.2.2.2.2.2.2.2.2.2.2.1) a2 (Int.ofNat (List.length a0.2.2.2.1))
def graph_Of_c13 (J13 : graph_Of_T13) (J19 : graph_Of_T19) (J25 : graph_Of_T25) (J31 : graph_Of_T31) (J38 : graph_Of_T38) (J45 : graph_Of_T45) (J52 : graph_Of_T52) (J54 : graph_Of_T54) (J60 : graph_Of_T60) (J66 : graph_Of_T66) (J72 : graph_Of_T72) (J78 : graph_Of_T78) (J80 : graph_Of_T80) (J86 : graph_Of_T86) (J88 : graph_Of_T88) (J93 : graph_Of_T93) (J99 : graph_Of_T99) (J101 : graph_Of_T101) (J107 : graph_Of_T107) (J114 : graph_Of_T114) (J116 : graph_Of_T116) (J129 : graph_Of_T129) (x0 : Int) (x1 x2 : Bool) (x3 x4 x5 : Int) (x6 : List Y9) : Option Y3 :=
 J31 ((2 : Int)) x6 (Int.ofNat (List.length x6)) x5 ((0 : Int)) x0 x1 x2 x3 x4 x5
def graph_Of_c19 (J13 : graph_Of_T13) (J19 : graph_Of_T19) (J25 : graph_Of_T25) (J31 : graph_Of_T31) (J38 : graph_Of_T38) (J45 : graph_Of_T45) (J52 : graph_Of_T52) (J54 : graph_Of_T54) (J60 : graph_Of_T60) (J66 : graph_Of_T66) (J72 : graph_Of_T72) (J78 : graph_Of_T78) (J80 : graph_Of_T80) (J86 : graph_Of_T86) (J88 : graph_Of_T88) (J93 : graph_Of_T93) (J99 : graph_Of_T99) (J101 : graph_Of_T101) (J107 : graph_Of_T107) (J114 : graph_Of_T114) (J116 : graph_Of_T116) (J129 : graph_Of_T129) (x0 : Int) (x1 : List Y9) (x2 x3 x4 : Int) (x5 x6 : Bool) (x7 x8 x9 : Int) : Option Y3 :=
 bif decide (x3 < x2) then
  bif bigOk (List.length x1 + List.length [(x0, x3, ())]) (16 : Nat) then
   J19 x0 (x1 ++ [(x0, x3, ())]) x2 (Go.IntKind.wrap Go.IntKind.i64 (x3 + (1 : Int))) x4 x5 x6 x7 x8 x9
  else
   none
 else
  J13 x4 x5 x6 x7 x8 x9 x1
def graph_Of_c25 (J13 : graph_Of_T13) (J19 : graph_Of_T19) (J25 : graph_Of_T25) (J31 : graph_Of_T31) (J38 : graph_Of_T38) (J45 : graph_Of_T45) (J52 : graph_Of_T52) (J54 : graph_Of_T54) (J60 : graph_Of_T60) (J66 : graph_Of_T66) (J72 : graph_Of_T72) (J78 : graph_Of_T78) (J80 : graph_Of_T80) (J86 : graph_Of_T86) (J88 : graph_Of_T88) (J93 : graph_Of_T93) (J99 : graph_Of_T99) (J101 : graph_Of_T101) (J107 : graph_Of_T107) (J114 : graph_Of_T114) (J116 : graph_Of_T116) (J129 : graph_Of_T129) (x0 : Int) (x1 x2 : Bool) (x3 x4 x5 : Int) (x6 : List Y9) (x7 : Int) : Option Y3 :=
 bif x2 then
  J45 ((3 : Int)) x6 (Int.ofNat (List.length x6)) x5 ((0 : Int)) x0 x1 x2 x3 x4 x5 x7
 else
  J38 ((1 : Int)) x1 x2 x3 x4 x5 x6 x7 x7
def graph_Of_c31 (J13 : graph_Of_T13) (J19 : graph_Of_T19) (J25 : graph_Of_T25) (J31 : graph_Of_T31) (J38 : graph_Of_T38) (J45 : graph_Of_T45) (J52 : graph_Of_T52) (J54 : graph_Of_T54) (J60 : graph_Of_T60) (J66 : graph_Of_T66) (J72 : graph_Of_T72) (J78 : graph_Of_T78) (J80 : graph_Of_T80) (J86 : graph_Of_T86) (J88 : graph_Of_T88) (J93 : graph_Of_T93) (J99 : graph_Of_T99) (J101 : graph_Of_T101) (J107 : graph_Of_T107) (J114 : graph_Of_T114) (J116 : graph_Of_T116) (J129 : graph_Of_T129) (x0 : Int) (x1 : List Y9) (x2 x3 x4 x5 : Int) (x6 x7 : Bool) (x8 x9 x10 : Int) : Option Y3 :=
 bif decide (x4 < x3) then
  bif bigOk (List.length x1 + List.length [(x0, x4, ())]) (16 : Nat) then
   J31 x0 (x1 ++ [(x0, x4, ())]) x2 x3 (Go.IntKind.wrap Go.IntKind.i64 (x4 + (1 : Int))) x5 x6 x7 x8 x9 x10
  else
   none
 else
  J25 x5 x6 x7 x8 x9 x10 x1 x2
def graph_Of_c38 (J13 : graph_Of_T13) (J19 : graph_Of_T19) (J25 : graph_Of_T25) (J31 : graph_Of_T31) (J38 : graph_Of_T38) (J45 : graph_Of_T45) (J52 : graph_Of_T52) (J54 : graph_Of_T54) (J60 : graph_Of_T60) (J66 : graph_Of_T66) (J72 : graph_Of_T72) (J78 : graph_Of_T78) (J80 : graph_Of_T80) (J86 : graph_Of_T86) (J88 : graph_Of_T88) (J93 : graph_Of_T93) (J99 : graph_Of_T99) (J101 : graph_Of_T101) (J107 : graph_Of_T107) (J114 : graph_Of_T114) (J116 : graph_Of_T116) (J129 : graph_Of_T129) (x0 : Int) (x1 x2 : Bool) (x3 x4 x5 : Int) (x6 : List Y9) (x7 x8 : Int) : Option Y3 :=
 bif x1 then
  J52 x0 x2 x3 x4 x5 x6 x7 x8 ((5 : Int))
 else
  J52 x0 x2 x3 x4 x5 x6 x7 x8 ((4 : Int))
def graph_Of_c45 (J13 : graph_Of_T13) (J19 : graph_Of_T19) (J25 : graph_Of_T25) (J31 : graph_Of_T31) (J38 : graph_Of_T38) (J45 : graph_Of_T45) (J52 : graph_Of_T52) (J54 : graph_Of_T54) (J60 : graph_Of_T60) (J66 : graph_Of_T66) (J72 : graph_Of_T72) (J78 : graph_Of_T78) (J80 : graph_Of_T80) (J86 : graph_Of_T86) (J88 : graph_Of_T88) (J93 : graph_Of_T93) (J99 : graph_Of_T99) (J101 : graph_Of_T101) (J107 : graph_Of_T107) (J114 : graph_Of_T114) (J116 : graph_Of_T116) (J129 : graph_Of_T129) (x0 : Int) (x1 : List Y9) (x2 x3 x4 x5 : Int) (x6 x7 : Bool) (x8 x9 x10 x11 : Int) : Option Y3 :=
 bif decide (x4 < x3) then
  bif bigOk (List.length x1 + List.length [(x0, x4, ())]) (16 : Nat) then
   J45 x0 (x1 ++ [(x0, x4, ())]) x2 x3 (Go.IntKind.wrap Go.IntKind.i64 (x4 + (1 : Int))) x5 x6 x7 x8 x9 x10 x11
  else
   none
 else
  J38 x5 x6 x7 x8 x9 x10 x1 x11 x2
def graph_Of_c52 (J13 : graph_Of_T13) (J19 : graph_Of_T19) (J25 : graph_Of_T25) (J31 : graph_Of_T31) (J38 : graph_Of_T38) (J45 : graph_Of_T45) (J52 : graph_Of_T52) (J54 : graph_Of_T54) (J60 : graph_Of_T60) (J66 : graph_Of_T66) (J72 : graph_Of_T72) (J78 : graph_Of_T78) (J80 : graph_Of_T80) (J86 : graph_Of_T86) (J88 : graph_Of_T88) (J93 : graph_Of_T93) (J99 : graph_Of_T99) (J101 : graph_Of_T101) (J107 : graph_Of_T107) (J114 : graph_Of_T114) (J116 : graph_Of_T116) (J129 : graph_Of_T129) (x0 : Int) (x1 : Bool) (x2 x3 x4 : Int) (x5 : List Y9) (x6 x7 x8 : Int) : Option Y3 :=
 J60 x8 x5 (Int.ofNat (List.length x5)) x0 ((0 : Int)) x0 x1 x2 x3 x4 x6 x7
def graph_Of_c54 (J13 : graph_Of_T13) (J19 : graph_Of_T19) (J25 : graph_Of_T25) (J31 : graph_Of_T31) (J38 : graph_Of_T38) (J45 : graph_Of_T45) (J52 : graph_Of_T52) (J54 : graph_Of_T54) (J60 : graph_Of_T60) (J66 : graph_Of_T66) (J72 : graph_Of_T72) (J78 : graph_Of_T78) (J80 : graph_Of_T80) (J86 : graph_Of_T86) (J88 : graph_Of_T88) (J93 : graph_Of_T93) (J99 : graph_Of_T99) (J101 : graph_Of_T101) (J107 : graph_Of_T107) (J114 : graph_Of_T114) (J116 : graph_Of_T116) (J129 : graph_Of_T129) (x0 : Int) (x1 : Bool) (x2 x3 x4 : Int) (x5 : List Y9) (x6 x7 x8 : Int) : Option Y3 :=
 J72 ((6 : Int)) x5 (Int.ofNat (List.length x5)) ((1 : Int)) ((0 : Int)) x0 x1 x2 x3 x4 x6 x7 x8
def graph_Of_c60 (J13 : graph_Of_T13) (J19 : graph_Of_T19) (J25 : graph_Of_T25) (J31 : graph_Of_T31) (J38 : graph_Of_T38) (J45 : graph_Of_T45) (J52 : graph_Of_T52) (J54 : graph_Of_T54) (J60 : graph_Of_T60) (J66 : graph_Of_T66) (J72 : graph_Of_T72) (J78 : graph_Of_T78) (J80 : graph_Of_T80) (J86 : graph_Of_T86) (J88 : graph_Of_T88) (J93 : graph_Of_T93) (J99 : graph_Of_T99) (J101 : graph_Of_T101) (J107 : graph_Of_T107) (J114 : graph_Of_T114) (J116 : graph_Of_T116) (J129 : graph_Of_T129) (x0 : Int) (x1 : List Y9) (x2 x3 x4 x5 : Int) (x6 : Bool) (x7 x8 x9 x10 x11 : Int) : Option Y3 :=
 bif decide (x4 < x3) then
  bif bigOk (List.length x1 + List.length [(x0, x4, ())]) (16 : Nat) then
   J60 x0 (x1 ++ [(x0, x4, ())]) x2 x3 (Go.IntKind.wrap Go.IntKind.i64 (x4 + (1 : Int))) x5 x6 x7 x8 x9 x10 x11
  else
   none
 else
  J54 x5 x6 x7 x8 x9 x1 x10 x11 x2
def graph_Of_c66 (J13 : graph_Of_T13) (J19 : graph_Of_T19) (J25 : graph_Of_T25) (J31 : graph_Of_T31) (J38 : graph_Of_T38) (J45 : graph_Of_T45) (J52 : graph_Of_T52) (J54 : graph_Of_T54) (J60 : graph_Of_T60) (J66 : graph_Of_T66) (J72 : graph_Of_T72) (J78 : graph_Of_T78) (J80 : graph_Of_T80) (J86 : graph_Of_T86) (J88 : graph_Of_T88) (J93 : graph_Of_T93) (J99 : graph_Of_T99) (J101 : graph_Of_T101) (J107 : graph_Of_T107) (J114 : graph_Of_T114) (J116 : graph_Of_T116) (J129 : graph_Of_T129) (x0 : Int) (x1 : Bool) (x2 x3 x4 : Int) (x5 : List Y9) (x6 x7 x8 x9 : Int) : Option Y3 :=
 J80 x0 x1 x2 x3 x4 x5 ([]) x6 x7 x8 x9 x4 ((0 : Int))
def graph_Of_c72 (J13 : graph_Of_T13) (J19 : graph_Of_T19) (J25 : graph_Of_T25) (J31 : graph_Of_T31) (J38 : graph_Of_T38) (J45 : graph_Of_T45) (J52 : graph_Of_T52) (J54 : graph_Of_T54) (J60 : graph_Of_T60) (J66 : graph_Of_T66) (J72 : graph_Of_T72) (J78 : graph_Of_T78) (J80 : graph_Of_T80) (J86 : graph_Of_T86) (J88 : graph_Of_T88) (J93 : graph_Of_T93) (J99 : graph_Of_T99) (J101 : graph_Of_T101) (J107 : graph_Of_T107) (J114 : graph_Of_T114) (J116 : graph_Of_T116) (J129 : graph_Of_T129) (x0 : Int) (x1 : List Y9) (x2 x3 x4 x5 : Int) (x6 : Bool) (x7 x8 x9 x10 x11 x12 : Int) : Option Y3 :=
 bif decide (x4 < x3) then
  bif bigOk (List.length x1 + List.length [(x0, x4, ())]) (16 : Nat) then
   J72 x0 (x1 ++ [(x0, x4, ())]) x2 x3 (Go.IntKind.wrap Go.IntKind.i64 (x4 + (1 : Int))) x5 x6 x7 x8 x9 x10 x11 x12
  else
   none
 else
  J66 x5 x6 x7 x8 x9 x1 x10 x11 x12 x2
def graph_Of_c78 (J13 : graph_Of_T13) (J19 : graph_Of_T19) (J25 : graph_Of_T25) (J31 : graph_Of_T31) (J38 : graph_Of_T38) (J45 : graph_Of_T45) (J52 : graph_Of_T52) (J54 : graph_Of_T54) (J60 : graph_Of_T60) (J66 : graph_Of_T66) (J72 : graph_Of_T72) (J78 : graph_Of_T78) (J80 : graph_Of_T80) (J86 : graph_Of_T86) (J88 : graph_Of_T88) (J93 : graph_Of_T93) (J99 : graph_Of_T99) (J101 : graph_Of_T101) (J107 : graph_Of_T107) (J114 : graph_Of_T114) (J116 : graph_Of_T116) (J129 : graph_Of_T129) (x0 : Int) (x1 : Bool) (x2 x3 x4 : Int) (x5 : List Y9) (x6 : List Y2) (x7 x8 x9 x10 : Int) : Option Y3 :=
 J88 x0 x1 x2 x3 x4 x5 x6 x7 x8 x9 x10 x4 ((0 : Int))
def graph_Of_c80 (J13 : graph_Of_T13) (J19 : graph_Of_T19) (J25 : graph_Of_T25) (J31 : graph_Of_T31) (J38 : graph_Of_T38) (J45 : graph_Of_T45) (J52 : graph_Of_T52) (J54 : graph_Of_T54) (J60 : graph_Of_T60) (J66 : graph_Of_T66) (J72 : graph_Of_T72) (J78 : graph_Of_T78) (J80 : graph_Of_T80) (J86 : graph_Of_T86) (J88 : graph_Of_T88) (J93 : graph_Of_T93) (J99 : graph_Of_T99) (J101 : graph_Of_T101) (J107 : graph_Of_T107) (J114 : graph_Of_T114) (J116 : graph_Of_T116) (J129 : graph_Of_T129) (x0 : Int) (x1 : Bool) (x2 x3 x4 : Int) (x5 : List Y9) (x6 : List Y2) (x7 x8 x9 x10 x11 x12 : Int) : Option Y3 :=
 bif decide (x12 < x11) then
  bif bigOk (List.length x6 + List.length [(x12, (0 : Int), Go.IntKind.wrap Go.IntKind.i64 (x7 + x12), (0 : Int), x3, ())]) (40 : Nat) then
   J80 x0 x1 x2 x3 x4 x5 (x6 ++ [(x12, (0 : Int), Go.IntKind.wrap Go.IntKind.i64 (x7 + x12), (0 : Int), x3, ())]) x7 x8 x9 x10 x11 (Go.IntKind.wrap Go.IntKind.i64 (x12 + (1 : Int)))
  else
   none
 else
  J78 x0 x1 x2 x3 x4 x5 x6 x7 x8 x9 x10
def graph_Of_c86 (J13 : graph_Of_T13) (J19 : graph_Of_T19) (J25 : graph_Of_T25) (J31 : graph_Of_T31) (J38 : graph_Of_T38) (J45 : graph_Of_T45) (J52 : graph_Of_T52) (J54 : graph_Of_T54) (J60 : graph_Of_T60) (J66 : graph_Of_T66) (J72 : graph_Of_T72) (J78 : graph_Of_T78) (J80 : graph_Of_T80) (J86 : graph_Of_T86) (J88 : graph_Of_T88) (J93 : graph_Of_T93) (J99 : graph_Of_T99) (J101 : graph_Of_T101) (J107 : graph_Of_T107) (J114 : graph_Of_T114) (J116 : graph_Of_T116) (J129 : graph_Of_T129) (x0 : Int) (x1 : Bool) (x2 x3 x4 : Int) (x5 : List Y9) (x6 : List Y2) (x7 x8 x9 : Int) : Option Y3 :=
 J101 x0 x1 x2 x3 x5 x6 x7 x8 x9 x4 ((0 : Int))
def graph_Of_c88 (J13 : graph_Of_T13) (J19 : graph_Of_T19) (J25 : graph_Of_T25) (J31 : graph_Of_T31) (J38 : graph_Of_T38) (J45 : graph_Of_T45) (J52 : graph_Of_T52) (J54 : graph_Of_T54) (J60 : graph_Of_T60) (J66 : graph_Of_T66) (J72 : graph_Of_T72) (J78 : graph_Of_T78) (J80 : graph_Of_T80) (J86 : graph_Of_T86) (J88 : graph_Of_T88) (J93 : graph_Of_T93) (J99 : graph_Of_T99) (J101 : graph_Of_T101) (J107 : graph_Of_T107) (J114 : graph_Of_T114) (J116 : graph_Of_T116) (J129 : graph_Of_T129) (x0 : Int) (x1 : Bool) (x2 x3 x4 : Int) (x5 : List Y9) (x6 : List Y2) (x7 x8 x9 x10 x11 x12 : Int) : Option Y3 :=
 bif decide (x12 < x11) then
  bif x1 then
   bif bigOk (List.length x6 + List.length [(Go.IntKind.wrap Go.IntKind.i64 (x7 + x12), (0 : Int), Go.IntKind.wrap Go.IntKind.i64 (x8 + x12), (0 : Int), x3, ())]) (40 : Nat) then
    J93 x0 x1 x2 x3 x4 x5 (x6 ++ [(Go.IntKind.wrap Go.IntKind.i64 (x7 + x12), (0 : Int), Go.IntKind.wrap Go.IntKind.i64 (x8 + x12), (0 : Int), x3, ())]) x7 x8 x9 x10 x12 x11 x12
   else
    none
  else
   bif bigOk (List.length x6 + List.length [(Go.IntKind.wrap Go.IntKind.i64 (x7 + x12), (0 : Int), x9, x12, x3, ())]) (40 : Nat) then
    J93 x0 x1 x2 x3 x4 x5 (x6 ++ [(Go.IntKind.wrap Go.IntKind.i64 (x7 + x12), (0 : Int), x9, x12, x3, ())]) x7 x8 x9 x10 x12 x11 x12
   else
    none
 else
  J86 x0 x1 x2 x3 x4 x5 x6 x8 x9 x10
def graph_Of_c93 (J13 : graph_Of_T13) (J19 : graph_Of_T19) (J25 : graph_Of_T25) (J31 : graph_Of_T31) (J38 : graph_Of_T38) (J45 : graph_Of_T45) (J52 : graph_Of_T52) (J54 : graph_Of_T54) (J60 : graph_Of_T60) (J66 : graph_Of_T66) (J72 : graph_Of_T72) (J78 : graph_Of_T78) (J80 : graph_Of_T80) (J86 : graph_Of_T86) (J88 : graph_Of_T88) (J93 : graph_Of_T93) (J99 : graph_Of_T99) (J101 : graph_Of_T101) (J107 : graph_Of_T107) (J114 : graph_Of_T114) (J116 : graph_Of_T116) (J129 : graph_Of_T129) (x0 : Int) (x1 : Bool) (x2 x3 x4 : Int) (x5 : List Y9) (x6 : List Y2) (x7 x8 x9 x10 x11 x12 x13 : Int) : Option Y3 :=
 bif x2 == (2 : Int) then
  bif bigOk (List.length x6 + List.length [(Go.IntKind.wrap Go.IntKind.i64 (x7 + x11), (1 : Int), Go.IntKind.wrap Go.IntKind.i64 (x10 + (1 : Int)), x11, x3, ())]) (40 : Nat) then
   J88 x0 x1 x2 x3 x4 x5 (x6 ++ [(Go.IntKind.wrap Go.IntKind.i64 (x7 + x11), (1 : Int), Go.IntKind.wrap Go.IntKind.i64 (x10 + (1 : Int)), x11, x3, ())]) x7 x8 x9 x10 x12 (Go.IntKind.wrap Go.IntKind.i64 (x13 + (1 : Int)))
  else
   none
 else
  J88 x0 x1 x2 x3 x4 x5 x6 x7 x8 x9 x10 x12 (Go.IntKind.wrap Go.IntKind.i64 (x13 + (1 : Int)))
def graph_Of_c99 (J13 : graph_Of_T13) (J19 : graph_Of_T19) (J25 : graph_Of_T25) (J31 : graph_Of_T31) (J38 : graph_Of_T38) (J45 : graph_Of_T45) (J52 : graph_Of_T52) (J54 : graph_Of_T54) (J60 : graph_Of_T60) (J66 : graph_Of_T66) (J72 : graph_Of_T72) (J78 : graph_Of_T78) (J80 : graph_Of_T80) (J86 : graph_Of_T86) (J88 : graph_Of_T88) (J93 : graph_Of_T93) (J99 : graph_Of_T99) (J101 : graph_Of_T101) (J107 : graph_Of_T107) (J114 : graph_Of_T114) (J116 : graph_Of_T116) (J129 : graph_Of_T129) (x0 x1 x2 : Int) (x3 : List Y9) (x4 : List Y2) (x5 x6 : Int) : Option Y3 :=
 J116 x1 x2 x3 x4 x5 x6 x0 ((0 : Int))
def graph_Of_c101 (J13 : graph_Of_T13) (J19 : graph_Of_T19) (J25 : graph_Of_T25) (J31 : graph_Of_T31) (J38 : graph_Of_T38) (J45 : graph_Of_T45) (J52 : graph_Of_T52) (J54 : graph_Of_T54) (J60 : graph_Of_T60) (J66 : graph_Of_T66) (J72 : graph_Of_T72) (J78 : graph_Of_T78) (J80 : graph_Of_T80) (J86 : graph_Of_T86) (J88 : graph_Of_T88) (J93 : graph_Of_T93) (J99 : graph_Of_T99) (J101 : graph_Of_T101) (J107 : graph_Of_T107) (J114 : graph_Of_T114) (J116 : graph_Of_T116) (J129 : graph_Of_T129) (x0 : Int) (x1 : Bool) (x2 x3 : Int) (x4 : List Y9) (x5 : List Y2) (x6 x7 x8 x9 x10 : Int) : Option Y3 :=
 bif decide (x10 < x9) then
  J107 x0 x1 x2 x3 x4 x5 x6 x7 x8 x10 x9 x10 x0 ((0 : Int))
 else
  J99 x0 x2 x3 x4 x5 x7 x8
def graph_Of_c107 (J13 : graph_Of_T13) (J19 : graph_Of_T19) (J25 : graph_Of_T25) (J31 : graph_Of_T31) (J38 : graph_Of_T38) (J45 : graph_Of_T45) (J52 : graph_Of_T52) (J54 : graph_Of_T54) (J60 : graph_Of_T60) (J66 : graph_Of_T66) (J72 : graph_Of_T72) (J78 : graph_Of_T78) (J80 : graph_Of_T80) (J86 : graph_Of_T86) (J88 : graph_Of_T88) (J93 : graph_Of_T93) (J99 : graph_Of_T99) (J101 : graph_Of_T101) (J107 : graph_Of_T107) (J114 : graph_Of_T114) (J116 : graph_Of_T116) (J129 : graph_Of_T129) (x0 : Int) (x1 : Bool) (x2 x3 : Int) (x4 : List Y9) (x5 : List Y2) (x6 x7 x8 x9 x10 x11 x12 x13 : Int) : Option Y3 :=
 bif decide (x13 < x12) then
  bif x1 then
   bif bigOk (List.length x5 + List.length [(Go.IntKind.wrap Go.IntKind.i64 (x6 + x9), x13, Go.IntKind.wrap Go.IntKind.i64 (x7 + x13), x9, x3, ())]) (40 : Nat) then
    J107 x0 x1 x2 x3 x4 (x5 ++ [(Go.IntKind.wrap Go.IntKind.i64 (x6 + x9), x13, Go.IntKind.wrap Go.IntKind.i64 (x7 + x13), x9, x3, ())]) x6 x7 x8 x9 x10 x11 x12 (Go.IntKind.wrap Go.IntKind.i64 (x13 + (1 : Int)))
   else
    none
  else
   J107 x0 x1 x2 x3 x4 x5 x6 x7 x8 x9 x10 x11 x12 (Go.IntKind.wrap Go.IntKind.i64 (x13 + (1 : Int)))
 else
  J101 x0 x1 x2 x3 x4 x5 x6 x7 x8 x10 (Go.IntKind.wrap Go.IntKind.i64 (x11 + (1 : Int)))
def graph_Of_c114 (J13 : graph_Of_T13) (J19 : graph_Of_T19) (J25 : graph_Of_T25) (J31 : graph_Of_T31) (J38 : graph_Of_T38) (J45 : graph_Of_T45) (J52 : graph_Of_T52) (J54 : graph_Of_T54) (J60 : graph_Of_T60) (J66 : graph_Of_T66) (J72 : graph_Of_T72) (J78 : graph_Of_T78) (J80 : graph_Of_T80) (J86 : graph_Of_T86) (J88 : graph_Of_T88) (J93 : graph_Of_T93) (J99 : graph_Of_T99) (J101 : graph_Of_T101) (J107 : graph_Of_T107) (J114 : graph_Of_T114) (J116 : graph_Of_T116) (J129 : graph_Of_T129) (x0 : Int) (x1 : List Y9) (x2 : List Y2) : Option Y3 :=
 bif x0 == (2 : Int) then
  J129 ((7 : Int)) x1 x2 ((1 : Int)) ((0 : Int))
 else
  some (((x1, x2, ()), (0 : Int), ()))
def graph_Of_c116 (J13 : graph_Of_T13) (J19 : graph_Of_T19) (J25 : graph_Of_T25) (J31 : graph_Of_T31) (J38 : graph_Of_T38) (J45 : graph_Of_T45) (J52 : graph_Of_T52) (J54 : graph_Of_T54) (J60 : graph_Of_T60) (J66 : graph_Of_T66) (J72 : graph_Of_T72) (J78 : graph_Of_T78) (J80 : graph_Of_T80) (J86 : graph_Of_T86) (J88 : graph_Of_T88) (J93 : graph_Of_T93) (J99 : graph_Of_T99) (J101 : graph_Of_T101) (J107 : graph_Of_T107) (J114 : graph_Of_T114) (J116 : graph_Of_T116) (J129 : graph_Of_T129) (x0 x1 : Int) (x2 : List Y9) (x3 : List Y2) (x4 x5 x6 x7 : Int) : Option Y3 :=
 bif decide (x7 < x6) then
  bif bigOk (List.length x3 + List.length [(Go.IntKind.wrap Go.IntKind.i64 (x4 + x7), (0 : Int), x5, x7, x1, ())]) (40 : Nat) then
   J116 x0 x1 x2 (x3 ++ [(Go.IntKind.wrap Go.IntKind.i64 (x4 + x7), (0 : Int), x5, x7, x1, ())]) x4 x5 x6 (Go.IntKind.wrap Go.IntKind.i64 (x7 + (1 : Int)))
  else
   none
 else
  J114 x0 x2 x3
def graph_Of_c129 (J13 : graph_Of_T13) (J19 : graph_Of_T19) (J25 : graph_Of_T25) (J31 : graph_Of_T31) (J38 : graph_Of_T38) (J45 : graph_Of_T45) (J52 : graph_Of_T52) (J54 : graph_Of_T54) (J60 : graph_Of_T60) (J66 : graph_Of_T66) (J72 : graph_Of_T72) (J78 : graph_Of_T78) (J80 : graph_Of_T80) (J86 : graph_Of_T86) (J88 : graph_Of_T88) (J93 : graph_Of_T93) (J99 : graph_Of_T99) (J101 : graph_Of_T101) (J107 : graph_Of_T107) (J114 : graph_Of_T114) (J116 : graph_Of_T116) (J129 : graph_Of_T129) (x0 : Int) (x1 : List Y9) (x2 : List Y2) (x3 x4 : Int) : Option Y3 :=
 bif decide (x4 < x3) then
  bif bigOk (List.length x1 + List.length [(x0, x4, ())]) (16 : Nat) then
   J129 x0 (x1 ++ [(x0, x4, ())]) x2 x3 (Go.IntKind.wrap Go.IntKind.i64 (x4 + (1 : Int)))
  else
   none
 else
  some (((x1, x2, ()), (0 : Int), ()))
mutual
def graph_Of_i13 : Nat → Int → Bool → Bool → Int → Int → Int → List Y9 → Option Y3
 | 0, _, _, _, _, _, _, _ => none
 | n + 1, x0, x1, x2, x3, x4, x5, x6 => graph_Of_c13 (graph_Of_i13 n) (graph_Of_i19 n) (graph_Of_i25 n) (graph_Of_i31 n) (graph_Of_i38 n) (graph_Of_i45 n) (graph_Of_i52 n) (graph_Of_i54 n) (graph_Of_i60 n) (graph_Of_i66 n) (graph_Of_i72 n) (graph_Of_i78 n) (graph_Of_i80 n) (graph_Of_i86 n) (graph_Of_i88 n) (graph_Of_i93 n) (graph_Of_i99 n) (graph_Of_i101 n) (graph_Of_i107 n) (graph_Of_i114 n) (graph_Of_i116 n) (graph_Of_i129 n) x0 x1 x2 x3 x4 x5 x6
def graph_Of_i19 : Nat → Int → List Y9 → Int → Int → Int → Bool → Bool → Int → Int → Int → Option Y3
 | 0, _, _, _, _, _, _, _, _, _, _ => none
 | n + 1, x0, x1, x2, x3, x4, x5, x6, x7, x8, x9 => graph_Of_c19 (graph_Of_i13 n) (graph_Of_i19 n) (graph_Of_i25 n) (graph_Of_i31 n) (graph_Of_i38 n) (graph_Of_i45 n) (graph_Of_i52 n) (graph_Of_i54 n) (graph_Of_i60 n) (graph_Of_i66 n) (graph_Of_i72 n) (graph_Of_i78 n) (graph_Of_i80 n) (graph_Of_i86 n) (graph_Of_i88 n) (graph_Of_i93 n) (graph_Of_i99 n) (graph_Of_i101 n) (graph_Of_i107 n) (graph_Of_i114 n) (graph_Of_i116 n) (graph_Of_i129 n) x0 x1 x2 x3 x4 x5 x6 x7 x8 x9
def graph_Of_i25 : Nat → Int → Bool → Bool → Int → Int → Int → List Y9 → Int → Option Y3
 | 0, _, _, _, _, _, _, _, _ => none
 | n + 1, x0, x1, x2, x3, x4, x5, x6, x7 => graph_Of_c25 (graph_Of_i13 n) (graph_Of_i19 n) (graph_Of_i25 n) (graph_Of_i31 n) (graph_Of_i38 n) (graph_Of_i45 n) (graph_Of_i52 n) (graph_Of_i54 n) (graph_Of_i60 n) (graph_Of_i66 n) (graph_Of_i72 n) (graph_Of_i78 n) (graph_Of_i80 n) (graph_Of_i86 n) (graph_Of_i88 n) (graph_Of_i93 n) (graph_Of_i99 n) (graph_Of_i101 n) (graph_Of_i107 n) (graph_Of_i114 n) (graph_Of_i116 n) (graph_Of_i129 n) x0 x1 x2 x3 x4 x5 x6 x7
def graph_Of_i31 : Nat → Int → List Y9 → Int → Int → Int → Int → Bool → Bool → Int → Int → Int → Option Y3
 | 0, _, _, _, _, _, _, _, _, _, _, _ => none
 | n + 1, x0, x1, x2, x3, x4, x5, x6, x7, x8, x9, x10 => graph_Of_c31 (graph_Of_i13 n) (graph_Of_i19 n) (graph_Of_i25 n) (graph_Of_i31 n) (graph_Of_i38 n) (graph_Of_i45 n) (graph_Of_i52 n) (graph_Of_i54 n) (graph_Of_i60 n) (graph_Of_i66 n) (graph_Of_i72 n) (graph_Of_i78 n) (graph_Of_i80 n) (graph_Of_i86 n) (graph_Of_i88 n) (graph_Of_i93 n) (graph_Of_i99 n) (graph_Of_i101 n) (graph_Of_i107 n) (graph_Of_i114 n) (graph_Of_i116 n) (graph_Of_i129 n) x0 x1 x2 x3 x4 x5 x6 x7 x8 x9 x10
def graph_Of_i38 : Nat → Int → Bool → Bool → Int → Int → Int → List Y9 → Int → Int → Option Y3
 | 0, _, _, _, _, _, _, _, _, _ => none
 | n + 1, x0, x1, x2, x3, x4, x5, x6, x7, x8 => graph_Of_c38 (graph_Of_i13 n) (graph_Of_i19 n) (graph_Of_i25 n) (graph_Of_i31 n) (graph_Of_i38 n) (graph_Of_i45 n) (graph_Of_i52 n) (graph_Of_i54 n) (graph_Of_i60 n) (graph_Of_i66 n) (graph_Of_i72 n) (graph_Of_i78 n) (graph_Of_i80 n) (graph_Of_i86 n) (graph_Of_i88 n) (graph_Of_i93 n) (graph_Of_i99 n) (graph_Of_i101 n) (graph_Of_i107 n) (graph_Of_i114 n) (graph_Of_i116 n) (graph_Of_i129 n) x0 x1 x2 x3 x4 x5 x6 x7 x8
def graph_Of_i45 : Nat → Int → List Y9 → Int → Int → Int → Int → Bool → Bool → Int → Int → Int → Int → Option Y3
 | 0, _, _, _, _, _, _, _, _, _, _, _, _ => none
 | n + 1, x0, x1, x2, x3, x4, x5, x6, x7, x8, x9, x10, x11 => graph_Of_c45 (graph_Of_i13 n) (graph_Of_i19 n) (graph_Of_i25 n) (graph_Of_i31 n) (graph_Of_i38 n) (graph_Of_i45 n) (graph_Of_i52 n) (graph_Of_i54 n) (graph_Of_i60 n) (graph_Of_i66 n) (graph_Of_i72 n) (graph_Of_i78 n) (graph_Of_i80 n) (graph_Of_i86 n) (graph_Of_i88 n) (graph_Of_i93 n) (graph_Of_i99 n) (graph_Of_i101 n) (graph_Of_i107 n) (graph_Of_i114 n) (graph_Of_i116 n) (graph_Of_i129 n) x0 x1 x2 x3 x4 x5 x6 x7 x8 x9 x10 x11
def graph_Of_i52 : Nat → Int → Bool → Int → Int → Int → List Y9 → Int → Int → Int → Option Y3
 | 0, _, _, _, _, _, _, _, _, _ => none
 | n + 1, x0, x1, x2, x3, x4, x5, x6, x7, x8 => graph_Of_c52 (graph_Of_i13 n) (graph_Of_i19 n) (graph_Of_i25 n) (graph_Of_i31 n) (graph_Of_i38 n) (graph_Of_i45 n) (graph_Of_i52 n) (graph_Of_i54 n) (graph_Of_i60 n) (graph_Of_i66 n) (graph_Of_i72 n) (graph_Of_i78 n) (graph_Of_i80 n) (graph_Of_i86 n) (graph_Of_i88 n) (graph_Of_i93 n) (graph_Of_i99 n) (graph_Of_i101 n) (graph_Of_i107 n) (graph_Of_i114 n) (graph_Of_i116 n) (graph_Of_i129 n) x0 x1 x2 x3 x4 x5 x6 x7 x8
def graph_Of_i54 : Nat → Int → Bool → Int → Int → Int → List Y9 → Int → Int → Int → Option Y3
 | 0, _, _, _, _, _, _, _, _, _ => none
 | n + 1, x0, x1, x2, x3, x4, x5, x6, x7, x8 => graph_Of_c54 (graph_Of_i13 n) (graph_Of_i19 n) (graph_Of_i25 n) (graph_Of_i31 n) (graph_Of_i38 n) (graph_Of_i45 n) (graph_Of_i52 n) (graph_Of_i54 n) (graph_Of_i60 n) (graph_Of_i66 n) (graph_Of_i72 n) (graph_Of_i78 n) (graph_Of_i80 n) (graph_Of_i86 n) (graph_Of_i88 n) (graph_Of_i93 n) (graph_Of_i99 n) (graph_Of_i101 n) (graph_Of_i107 n) (graph_Of_i114 n) (graph_Of_i116 n) (graph_Of_i129 n) x0 x1 x2 x3 x4 x5 x6 x7 x8
def graph_Of_i60 : Nat → Int → List Y9 → Int → Int → Int → Int → Bool → Int → Int → Int → Int → Int → Option Y3
 | 0, _, _, _, _, _, _, _, _, _, _, _, _ => none
 | n + 1, x0, x1, x2, x3, x4, x5, x6, x7, x8, x9, x10, x11 => graph_Of_c60 (graph_Of_i13 n) (graph_Of_i19 n) (graph_Of_i25 n) (graph_Of_i31 n) (graph_Of_i38 n) (graph_Of_i45 n) (graph_Of_i52 n) (graph_Of_i54 n) (graph_Of_i60 n) (graph_Of_i66 n) (graph_Of_i72 n) (graph_Of_i78 n) (graph_Of_i80 n) (graph_Of_i86 n) (graph_Of_i88 n) (graph_Of_i93 n) (graph_Of_i99 n) (graph_Of_i101 n) (graph_Of_i107 n) (graph_Of_i114 n) (graph_Of_i116 n) (graph_Of_i129 n) x0 x1 x2 x3 x4 x5 x6 x7 x8 x9 x10 x11
def graph_Of_i66 : Nat → Int → Bool → Int → Int → Int → List Y9 → Int → Int → Int → Int → Option Y3
 | 0, _, _, _, _, _, _, _, _, _, _ => none
 | n + 1, x0, x1, x2, x3, x4, x5, x6, x7, x8, x9 => graph_Of_c66 (graph_Of_i13 n) (graph_Of_i19 n) (graph_Of_i25 n) (graph_Of_i31 n) (graph_Of_i38 n) (graph_Of_i45 n) (graph_Of_i52 n) (graph_Of_i54 n) (graph_Of_i60 n) (graph_Of_i66 n) (graph_Of_i72 n) (graph_Of_i78 n) (graph_Of_i80 n) (graph_Of_i86 n) (graph_Of_i88 n) (graph_Of_i93 n) (graph_Of_i99 n) (graph_Of_i101 n) (graph_Of_i107 n) (graph_Of_i114 n) (graph_Of_i116 n) (graph_Of_i129 n) x0 x1 x2 x3 x4 x5 x6 x7 x8 x9
def graph_Of_i72 : Nat → Int → List Y9 → Int → Int → Int → Int → Bool → Int → Int → Int → Int → Int → Int → Option Y3
 | 0, _, _, _, _, _, _, _, _, _, _, _, _, _ => none
 | n + 1, x0, x1, x2, x3, x4, x5, x6, x7, x8, x9, x10, x11, x12 => graph_Of_c72 (graph_Of_i13 n) (graph_Of_i19 n) (graph_Of_i25 n) (graph_Of_i31 n) (graph_Of_i38 n) (graph_Of_i45 n) (graph_Of_i52 n) (graph_Of_i54 n) (graph_Of_i60 n) (graph_Of_i66 n) (graph_Of_i72 n) (graph_Of_i78 n) (graph_Of_i80 n) (graph_Of_i86 n) (graph_Of_i88 n) (graph_Of_i93 n) (graph_Of_i99 n) (graph_Of_i101 n) (graph_Of_i107 n) (graph_Of_i114 n) (graph_Of_i116 n) (graph_Of_i129 n) x0 x1 x2 x3 x4 x5 x6 x7 x8 x9 x10 x11 x12
def graph_Of_i78 : Nat → Int → Bool → Int → Int → Int → List Y9 → List Y2 → Int → Int → Int → Int → Option Y3
 | 0, _, _, _, _, _, _, _, _, _, _, _ => none
 | n + 1, x0, x1, x2, x3, x4, x5, x6, x7, x8, x9, x10 => graph_Of_c78 (graph_Of_i13 n) (graph_Of_i19 n) (graph_Of_i25 n) (graph_Of_i31 n) (graph_Of_i38 n) (graph_Of_i45 n) (graph_Of_i52 n) (graph_Of_i54 n) (graph_Of_i60 n) (graph_Of_i66 n) (graph_Of_i72 n) (graph_Of_i78 n) (graph_Of_i80 n) (graph_Of_i86 n) (graph_Of_i88 n) (graph_Of_i93 n) (graph_Of_i99 n) (graph_Of_i101 n) (graph_Of_i107 n) (graph_Of_i114 n) (graph_Of_i116 n) (graph_Of_i129 n) x0 x1 x2 x3 x4 x5 x6 x7 x8 x9 x10
def graph_Of_i80 : Nat → Int → Bool → Int → Int → Int → List Y9 → List Y2 → Int → Int → Int → Int → Int → Int → Option Y3
 | 0, _, _, _, _, _, _, _, _, _, _, _, _, _ => none
 | n + 1, x0, x1, x2, x3, x4, x5, x6, x7, x8, x9, x10, x11, x12 => graph_Of_c80 (graph_Of_i13 n) (graph_Of_i19 n) (graph_Of_i25 n) (graph_Of_i31 n) (graph_Of_i38 n) (graph_Of_i45 n) (graph_Of_i52 n) (graph_Of_i54 n) (graph_Of_i60 n) (graph_Of_i66 n) (graph_Of_i72 n) (graph_Of_i78 n) (graph_Of_i80 n) (graph_Of_i86 n) (graph_Of_i88 n) (graph_Of_i93 n) (graph_Of_i99 n) (graph_Of_i101 n) (graph_Of_i107 n) (graph_Of_i114 n) (graph_Of_i116 n) (graph_Of_i129 n) x0 x1 x2 x3 x4 x5 x6 x7 x8 x9 x10 x11 x12
def graph_Of_i86 : Nat → Int → Bool → Int → Int → Int → List Y9 → List Y2 → Int → Int → Int → Option Y3
 | 0, _, _, _, _, _, _, _, _, _, _ => none
 | n + 1, x0, x1, x2, x3, x4, x5, x6, x7, x8, x9 => graph_Of_c86 (graph_Of_i13 n) (graph_Of_i19 n) (graph_Of_i25 n) (graph_Of_i31 n) (graph_Of_i38 n) (graph_Of_i45 n) (graph_Of_i52 n) (graph_Of_i54 n) (graph_Of_i60 n) (graph_Of_i66 n) (graph_Of_i72 n) (graph_Of_i78 n) (graph_Of_i80 n) (graph_Of_i86 n) (graph_Of_i88 n) (graph_Of_i93 n) (graph_Of_i99 n) (graph_Of_i101 n) (graph_Of_i107 n) (graph_Of_i114 n) (graph_Of_i116 n) (graph_Of_i129 n) x0 x1 x2 x3 x4 x5 x6 x7 x8 x9
def graph_Of_i88 : Nat → Int → Bool → Int → Int → Int → List Y9 → List Y2 → Int → Int → Int → Int → Int → Int → Option Y3
 | 0, _, _, _, _, _, _, _, _, _, _, _, _, _ => none
 | n + 1, x0, x1, x2, x3, x4, x5, x6, x7, x8, x9, x10, x11, x12 => graph_Of_c88 (graph_Of_i13 n) (graph_Of_i19 n) (graph_Of_i25 n) (graph_Of_i31 n) (graph_Of_i38 n) (graph_Of_i45 n) (graph_Of_i52 n) (graph_Of_i54 n) (graph_Of_i60 n) (graph_Of_i66 n) (graph_Of_i72 n) (graph_Of_i78 n) (graph_Of_i80 n) (graph_Of_i86 n) (graph_Of_i88 n) (graph_Of_i93 n) (graph_Of_i99 n) (graph_Of_i101 n) (graph_Of_i107 n) (graph_Of_i114 n) (graph_Of_i116 n) (graph_Of_i129 n) x0 x1 x2 x3 x4 x5 x6 x7 x8 x9 x10 x11 x12
def graph_Of_i93 : Nat → Int → Bool → Int → Int → Int → List Y9 → List Y2 → Int → Int → Int → Int → Int → Int → Int → Option Y3
 | 0, _, _, _, _, _, _, _, _, _, _, _, _, _, _ => none
 | n + 1, x0, x1, x2, x3, x4, x5, x6, x7, x8, x9, x10, x11, x12, x13 => graph_Of_c93 (graph_Of_i13 n) (graph_Of_i19 n) (graph_Of_i25 n) (graph_Of_i31 n) (graph_Of_i38 n) (graph_Of_i45 n) (graph_Of_i52 n) (graph_Of_i54 n) (graph_Of_i60 n) (graph_Of_i66 n) (graph_Of_i72 n) (graph_Of_i78 n) (graph_Of_i80 n) (graph_Of_i86 n) (graph_Of_i88 n) (graph_Of_i93 n) (graph_Of_i99 n) (graph_Of_i101 n) (graph_Of_i107 n) (graph_Of_i114 n) (graph_Of_i116 n) (graph_Of_i129 n) x0 x1 x2 x3 x4 x5 x6 x7 x8 x9 x10 x11 x12 x13
def graph_Of_i99 : Nat → Int → Int → Int → List Y9 → List Y2 → Int → Int → Option Y3
 | 0, _, _, _, _, _, _, _ => none
 | n + 1, x0, x1, x2, x3, x4, x5, x6 => graph_Of_c99 (graph_Of_i13 n) (graph_Of_i19 n) (graph_Of_i25 n) (graph_Of_i31 n) (graph_Of_i38 n) (graph_Of_i45 n) (graph_Of_i52 n) (graph_Of_i54 n) (graph_Of_i60 n) (graph_Of_i66 n) (graph_Of_i72 n) (graph_Of_i78 n) (graph_Of_i80 n) (graph_Of_i86 n) (graph_Of_i88 n) (graph_Of_i93 n) (graph_Of_i99 n) (graph_Of_i101 n) (graph_Of_i107 n) (graph_Of_i114 n) (graph_Of_i116 n) (graph_Of_i129 n) x0 x1 x2 x3 x4 x5 x6
def graph_Of_i101 : Nat → Int → Bool → Int → Int → List Y9 → List Y2 → Int → Int → Int → Int → Int → Option Y3
 | 0, _, _, _, _, _, _, _, _, _, _, _ => none
 | n + 1, x0, x1, x2, x3, x4, x5, x6, x7, x8, x9, x10 => graph_Of_c101 (graph_Of_i13 n) (graph_Of_i19 n) (graph_Of_i25 n) (graph_Of_i31 n) (graph_Of_i38 n) (graph_Of_i45 n) (graph_Of_i52 n) (graph_Of_i54 n) (graph_Of_i60 n) (graph_Of_i66 n) (graph_Of_i72 n) (graph_Of_i78 n) (graph_Of_i80 n) (graph_Of_i86 n) (graph_Of_i88 n) (graph_Of_i93 n) (graph_Of_i99 n) (graph_Of_i101 n) (graph_Of_i107 n) (graph_Of_i114 n) (graph_Of_i116 n) (graph_Of_i129 n) x0 x1 x2 x3 x4 x5 x6 x7 x8 x9 x10
def graph_Of_i107 : Nat → Int → Bool → Int → Int → List Y9 → List Y2 → Int → Int → Int → Int → Int → Int → Int → Int → Option Y3
 | 0, _, _, _, _, _, _, _, _, _, _, _, _, _, _ => none
 | n + 1, x0, x1, x2, x3, x4, x5, x6, x7, x8, x9, x10, x11, x12, x13 => graph_Of_c107 (graph_Of_i13 n) (graph_Of_i19 n) (graph_Of_i25 n) (graph_Of_i31 n) (graph_Of_i38 n) (graph_Of_i45 n) (graph_Of_i52 n) (graph_Of_i54 n) (graph_Of_i60 n) (graph_Of_i66 n) (graph_Of_i72 n) (graph_Of_i78 n) (graph_Of_i80 n) (graph_Of_i86 n) (graph_Of_i88 n) (graph_Of_i93 n) (graph_Of_i99 n) (graph_Of_i101 n) (graph_Of_i107 n) (graph_Of_i114 n) (graph_Of_i116 n) (graph_Of_i129 n) x0 x1 x2 x3 x4 x5 x6 x7 x8 x9 x10 x11 x12 x13
def graph_Of_i114 : Nat → Int → List Y9 → List Y2 → Option Y3
 | 0, _, _, _ => none
 | n + 1, x0, x1, x2 => graph_Of_c114 (graph_Of_i13 n) (graph_Of_i19 n) (graph_Of_i25 n) (graph_Of_i31 n) (graph_Of_i38 n) (graph_Of_i45 n) (graph_Of_i52 n) (graph_Of_i54 n) (graph_Of_i60 n) (graph_Of_i66 n) (graph_Of_i72 n) (graph_Of_i78 n) (graph_Of_i80 n) (graph_Of_i86 n) (graph_Of_i88 n) (graph_Of_i93 n) (graph_Of_i99 n) (graph_Of_i101 n) (graph_Of_i107 n) (graph_Of_i114 n) (graph_Of_i116 n) (graph_Of_i129 n) x0 x1 x2
def graph_Of_i116 : Nat → Int → Int → List Y9 → List Y2 → Int → Int → Int → Int → Option Y3
 | 0, _, _, _, _, _, _, _, _ => none
 | n + 1, x0, x1, x2, x3, x4, x5, x6, x7 => graph_Of_c116 (graph_Of_i13 n) (graph_Of_i19 n) (graph_Of_i25 n) (graph_Of_i31 n) (graph_Of_i38 n) (graph_Of_i45 n) (graph_Of_i52 n) (graph_Of_i54 n) (graph_Of_i60 n) (graph_Of_i66 n) (graph_Of_i72 n) (graph_Of_i78 n) (graph_Of_i80 n) (graph_Of_i86 n) (graph_Of_i88 n) (graph_Of_i93 n) (graph_Of_i99 n) (graph_Of_i101 n) (graph_Of_i107 n) (graph_Of_i114 n) (graph_Of_i116 n) (graph_Of_i129 n) x0 x1 x2 x3 x4 x5 x6 x7
def graph_Of_i129 : Nat → Int → List Y9 → List Y2 → Int → Int → Option Y3
 | 0, _, _, _, _, _ => none
 | n + 1, x0, x1, x2, x3, x4 => graph_Of_c129 (graph_Of_i13 n) (graph_Of_i19 n) (graph_Of_i25 n) (graph_Of_i31 n) (graph_Of_i38 n) (graph_Of_i45 n) (graph_Of_i52 n) (graph_Of_i54 n) (graph_Of_i60 n) (graph_Of_i66 n) (graph_Of_i72 n) (graph_Of_i78 n) (graph_Of_i80 n) (graph_Of_i86 n) (graph_Of_i88 n) (graph_Of_i93 n) (graph_Of_i99 n) (graph_Of_i101 n) (graph_Of_i107 n) (graph_Of_i114 n) (graph_Of_i116 n) (graph_Of_i129 n) x0 x1 x2 x3 x4
end
def graph_Of (a0 : List Y10 × Int × List Y2 × List Y10 × Bool × List Y2 × Int × Int × Int × Bool × Int × Unit) (a1 a2 : Int) : Option Y3 := graph_Of_c (graph_Of_i13 fuel) (graph_Of_i19 fuel) (graph_Of_i25 fuel) (graph_Of_i31 fuel) (graph_Of_i38 fuel) (graph_Of_i45 fuel) (graph_Of_i52 fuel) (graph_Of_i54 fuel) (graph_Of_i60 fuel) (graph_Of_i66 fuel) (graph_Of_i72 fuel) (graph_Of_i78 fuel) (graph_Of_i80 fuel) (graph_Of_i86 fuel) (graph_Of_i88 fuel) (graph_Of_i93 fuel) (graph_Of_i99 fuel) (graph_Of_i101 fuel) (graph_Of_i107 fuel) (graph_Of_i114 fuel) (graph_Of_i116 fuel) (graph_Of_i129 fuel) a0 a1 a2
def message_isTime (a0 : Int) : Option Y11 :=
 bif decide (a0 ≥ (-1099511627776 : Int)) then
  some ((decide (a0 ≤ (1099511627776 : Int)), ()))
 else
  some ((false, ()))
def message_isMark (a0 : Int) : Option Y11 :=
 match message_isTime a0 with
  | none => none
  | some e0 =>
   bif e0.1 then
    some ((true, ()))
   else
    some ((a0 == (9223372036854775807 : Int), ()))
def message_Of (a0 : Bool × Int × Int × Int × Int × Unit) : Option (Y4 × Int × Unit) :=
 bif a0.1 then
  match message_isMark a0.2.1 with
   | none => none
   | some e0 =>
    bif !e0.1 then
     some ((((0 : Int), (0 : Int), (0 : Int), (0 : Int), (0 : Int), (0 : Int), (0 : Int), (0 : Int), (0 : Int), (0 : Int), ()), (8 : Int), ()))
    else
     bif !(a0.2.2.1 == (0 : Int) && (a0.2.2.2.1 == (0 : Int) && (a0.2.2.2.2.1 == (0 : Int) && true))) then
      some ((((0 : Int), (0 : Int), (0 : Int), (0 : Int), (0 : Int), (0 : Int), (0 : Int), (0 : Int), (0 : Int), (0 : Int), ()), (8 : Int), ()))
     else
      some ((((2 : Int), (0 : Int), (0 : Int), (0 : Int), a0.2.1, (0 : Int), (0 : Int), (0 : Int), (0 : Int), (0 : Int), ()), (0 : Int), ()))
 else
  bif a0.2.1 != (0 : Int) then
   some ((((0 : Int), (0 : Int), (0 : Int), (0 : Int), (0 : Int), (0 : Int), (0 : Int), (0 : Int), (0 : Int), (0 : Int), ()), (8 : Int), ()))
  else
   match message_isTime a0.2.2.2.1 with
    | none => none
    | some e0 =>
     bif !e0.1 then
      some ((((0 : Int), (0 : Int), (0 : Int), (0 : Int), (0 : Int), (0 : Int), (0 : Int), (0 : Int), (0 : Int), (0 : Int), ()), (8 : Int), ()))
     else
      some ((((1 : Int), a0.2.2.1, a0.2.2.2.1, a0.2.2.2.2.1, (0 : Int), (0 : Int), (0 : Int), (0 : Int), (0 : Int), (0 : Int), ()), (0 : Int), ()))
def message_Event (a0 : Bool × Int × Int × Int × Int × Unit) : Option Y10 :=
 match message_Of a0 with
  | none => none
  | some e0 =>
   some ((e0.2.1, ()))
abbrev source_New_T17 := List Y6 → Int → Int → Int → List Y6 → Option (Y1 × Int × Unit)
def source_New_c (J17 : source_New_T17) (a0 : Int) (a1 : List Y6) : Option (Y1 × Int × Unit) :=
 bif decide (a0 < (0 : Int)) then
  some ((((0 : Int), (0 : Int), (0 : Int), [], [], [], [], [], [], ()), (2 : Int), ()))
 else
  bif decide (a0 ≥ (4 : Int)) then
   some ((((0 : Int), (0 : Int), (0 : Int), [], [], [], [], [], [], ()), (2 : Int), ()))
  else
   bif decide (Int.ofNat (List.length a1) > (60 : Int)) then
    some ((((0 : Int), (0 : Int), (0 : Int), [], [], [], [], [], [], ()), (4 : Int), ()))
   else
    J17 a1 (Int.ofNat (List.length a1)) ((0 : Int)) a0 a1
def source_New_c17 (J17 : source_New_T17) (x0 : List Y6) (x1 x2 x3 : Int) (x4 : List Y6) : Option (Y1 × Int × Unit) :=
 bif decide (x2 < x1) then
  bif decide ((0 : Int) ≤ x2) then
   match x0[Int.toNat x2]? with
    | none => none
    | some e0 =>
     match message_Event e0 with
      | none => none
      | some e1 =>
       bif e1.1 != (0 : Int) then
        bif decide (x2 ≥ (0 : Int)) then
         some ((((0 : Int), (0 : Int), (0 : Int), [], [], [], [], [], [], ()), (8 : Int), ()))
        else
         match cloned 40 x4 with
          | none => none
          | some e2 =>
           some ((((1 : Int), x3, (0 : Int), [], [], [], e2.1, [], [], ()), (0 : Int), ()))
       else
        J17 x0 x1 (Go.IntKind.wrap Go.IntKind.i64 (x2 + (1 : Int))) x3 x4
  else
   none
 else
  match cloned 40 x4 with
   | none => none
   | some e0 =>
    some ((((1 : Int), x3, (0 : Int), [], [], [], e0.1, [], [], ()), (0 : Int), ()))
mutual
def source_New_i17 : Nat → List Y6 → Int → Int → Int → List Y6 → Option (Y1 × Int × Unit)
 | 0, _, _, _, _, _ => none
 | n + 1, x0, x1, x2, x3, x4 => source_New_c17 (source_New_i17 n) x0 x1 x2 x3 x4
end
def source_New (a0 : Int) (a1 : List Y6) : Option (Y1 × Int × Unit) := source_New_c (source_New_i17 fuel) a0 a1
/- math/bits.Mul32 -/
def math_bits_Mul32 (a0 a1 : Int) : Option Y9 :=
 some ((Go.IntKind.wrap Go.IntKind.u32 (Int.fdiv (Go.IntKind.wrap Go.IntKind.u64 (Go.IntKind.wrap Go.IntKind.u64 a0 * Go.IntKind.wrap Go.IntKind.u64 a1)) (4294967296 : Int)), Go.IntKind.wrap Go.IntKind.u32 (Go.IntKind.wrap Go.IntKind.u64 (Go.IntKind.wrap Go.IntKind.u64 a0 * Go.IntKind.wrap Go.IntKind.u64 a1)), ()))
/- math/bits.Mul64 -/
def math_bits_Mul64 (a0 a1 : Int) : Option Y9 :=
 some ((Go.IntKind.wrap Go.IntKind.u64 (Go.IntKind.wrap Go.IntKind.u64 (Go.IntKind.wrap Go.IntKind.u64 (Int.fdiv a0 (4294967296 : Int) * Int.fdiv a1 (4294967296 : Int)) + Int.fdiv (Go.IntKind.wrap Go.IntKind.u64 (Go.IntKind.wrap Go.IntKind.u64 (Int.fdiv a0 (4294967296 : Int) * Go.bits Go.BinOp.and Go.IntKind.u64 a1 (4294967295 : Int)) + Int.fdiv (Go.IntKind.wrap Go.IntKind.u64 (Go.bits Go.BinOp.and Go.IntKind.u64 a0 (4294967295 : Int) * Go.bits Go.BinOp.and Go.IntKind.u64 a1 (4294967295 : Int))) (4294967296 : Int))) (4294967296 : Int)) + Int.fdiv (Go.IntKind.wrap Go.IntKind.u64 (Go.bits Go.BinOp.and Go.IntKind.u64 (Go.IntKind.wrap Go.IntKind.u64 (Go.IntKind.wrap Go.IntKind.u64 (Int.fdiv a0 (4294967296 : Int) * Go.bits Go.BinOp.and Go.IntKind.u64 a1 (4294967295 : Int)) + Int.fdiv (Go.IntKind.wrap Go.IntKind.u64 (Go.bits Go.BinOp.and Go.IntKind.u64 a0 (4294967295 : Int) * Go.bits Go.BinOp.and Go.IntKind.u64 a1 (4294967295 : Int))) (4294967296 : Int))) (4294967295 : Int) + Go.IntKind.wrap Go.IntKind.u64 (Go.bits Go.BinOp.and Go.IntKind.u64 a0 (4294967295 : Int) * Int.fdiv a1 (4294967296 : Int)))) (4294967296 : Int)), Go.IntKind.wrap Go.IntKind.u64 (a0 * a1), ()))
/- math/bits.Mul -/
def math_bits_Mul (a0 a1 : Int) : Option Y9 :=
 some ((Go.IntKind.wrap Go.IntKind.u64 (Go.IntKind.wrap Go.IntKind.u64 (Go.IntKind.wrap Go.IntKind.u64 (Int.fdiv a0 (4294967296 : Int) * Int.fdiv a1 (4294967296 : Int)) + Int.fdiv (Go.IntKind.wrap Go.IntKind.u64 (Go.IntKind.wrap Go.IntKind.u64 (Int.fdiv a0 (4294967296 : Int) * Go.bits Go.BinOp.and Go.IntKind.u64 a1 (4294967295 : Int)) + Int.fdiv (Go.IntKind.wrap Go.IntKind.u64 (Go.bits Go.BinOp.and Go.IntKind.u64 a0 (4294967295 : Int) * Go.bits Go.BinOp.and Go.IntKind.u64 a1 (4294967295 : Int))) (4294967296 : Int))) (4294967296 : Int)) + Int.fdiv (Go.IntKind.wrap Go.IntKind.u64 (Go.bits Go.BinOp.and Go.IntKind.u64 (Go.IntKind.wrap Go.IntKind.u64 (Go.IntKind.wrap Go.IntKind.u64 (Int.fdiv a0 (4294967296 : Int) * Go.bits Go.BinOp.and Go.IntKind.u64 a1 (4294967295 : Int)) + Int.fdiv (Go.IntKind.wrap Go.IntKind.u64 (Go.bits Go.BinOp.and Go.IntKind.u64 a0 (4294967295 : Int) * Go.bits Go.BinOp.and Go.IntKind.u64 a1 (4294967295 : Int))) (4294967296 : Int))) (4294967295 : Int) + Go.IntKind.wrap Go.IntKind.u64 (Go.bits Go.BinOp.and Go.IntKind.u64 a0 (4294967295 : Int) * Int.fdiv a1 (4294967296 : Int)))) (4294967296 : Int)), Go.IntKind.wrap Go.IntKind.u64 (a0 * a1), ()))
/- slices.Repeat[[]int64,int64] -/
abbrev slices_Repeat___int64_int64__T1 := List Y10 → Int → Option (List Y10 × Unit)
abbrev slices_Repeat___int64_int64__T5 := List Y10 → Int → Option (List Y10 × Unit)
abbrev slices_Repeat___int64_int64__T10 := List Y10 → Int → Option (List Y10 × Unit)
def slices_Repeat___int64_int64__c (J1 : slices_Repeat___int64_int64__T1) (J5 : slices_Repeat___int64_int64__T5) (J10 : slices_Repeat___int64_int64__T10) (a0 : List Y10) (a1 : Int) : Option (List Y10 × Unit) :=
 bif decide (a1 < (0 : Int)) then
  none
 else
  J1 a0 a1
def slices_Repeat___int64_int64__c1 (J1 : slices_Repeat___int64_int64__T1) (J5 : slices_Repeat___int64_int64__T5) (J10 : slices_Repeat___int64_int64__T10) (x0 : List Y10) (x1 : Int) : Option (List Y10 × Unit) :=
 bif decide (Go.IntKind.wrap Go.IntKind.u64 (Go.IntKind.wrap Go.IntKind.u64 (Go.IntKind.wrap Go.IntKind.u64 (Int.fdiv (Go.IntKind.wrap Go.IntKind.u64 (Int.ofNat (List.length x0))) (4294967296 : Int) * Int.fdiv (Go.IntKind.wrap Go.IntKind.u64 x1) (4294967296 : Int)) + Int.fdiv (Go.IntKind.wrap Go.IntKind.u64 (Go.IntKind.wrap Go.IntKind.u64 (Int.fdiv (Go.IntKind.wrap Go.IntKind.u64 (Int.ofNat (List.length x0))) (4294967296 : Int) * Go.bits Go.BinOp.and Go.IntKind.u64 (Go.IntKind.wrap Go.IntKind.u64 x1) (4294967295 : Int)) + Int.fdiv (Go.IntKind.wrap Go.IntKind.u64 (Go.bits Go.BinOp.and Go.IntKind.u64 (Go.IntKind.wrap Go.IntKind.u64 (Int.ofNat (List.length x0))) (4294967295 : Int) * Go.bits Go.BinOp.and Go.IntKind.u64 (Go.IntKind.wrap Go.IntKind.u64 x1) (4294967295 : Int))) (4294967296 : Int))) (4294967296 : Int)) + Int.fdiv (Go.IntKind.wrap Go.IntKind.u64 (Go.bits Go.BinOp.and Go.IntKind.u64 (Go.IntKind.wrap Go.IntKind.u64 (Go.IntKind.wrap Go.IntKind.u64 (Int.fdiv (Go.IntKind.wrap Go.IntKind.u64 (Int.ofNat (List.length x0))) (4294967296 : Int) * Go.bits Go.BinOp.and Go.IntKind.u64 (Go.IntKind.wrap Go.IntKind.u64 x1) (4294967295 : Int)) + Int.fdiv (Go.IntKind.wrap Go.IntKind.u64 (Go.bits Go.BinOp.and Go.IntKind.u64 (Go.IntKind.wrap Go.IntKind.u64 (Int.ofNat (List.length x0))) (4294967295 : Int) * Go.bits Go.BinOp.and Go.IntKind.u64 (Go.IntKind.wrap Go.IntKind.u64 x1) (4294967295 : Int))) (4294967296 : Int))) (4294967295 : Int) + Go.IntKind.wrap Go.IntKind.u64 (Go.bits Go.BinOp.and Go.IntKind.u64 (Go.IntKind.wrap Go.IntKind.u64 (Int.ofNat (List.length x0))) (4294967295 : Int) * Int.fdiv (Go.IntKind.wrap Go.IntKind.u64 x1) (4294967296 : Int)))) (4294967296 : Int)) > (0 : Int)) then
  none
 else
  bif decide (Go.IntKind.wrap Go.IntKind.u64 (Go.IntKind.wrap Go.IntKind.u64 (Int.ofNat (List.length x0)) * Go.IntKind.wrap Go.IntKind.u64 x1) > (9223372036854775807 : Int)) then
   none
  else
   J5 x0 (Go.IntKind.wrap Go.IntKind.u64 (Go.IntKind.wrap Go.IntKind.u64 (Int.ofNat (List.length x0)) * Go.IntKind.wrap Go.IntKind.u64 x1))
def slices_Repeat___int64_int64__c5 (J1 : slices_Repeat___int64_int64__T1) (J5 : slices_Repeat___int64_int64__T5) (J10 : slices_Repeat___int64_int64__T10) (x0 : List Y10) (x1 : Int) : Option (List Y10 × Unit) :=
 bif decide ((0 : Int) ≤ Go.IntKind.wrap Go.IntKind.i64 x1) then
  bif decide ((0 : Int) ≤ Go.IntKind.wrap Go.IntKind.i64 x1) then
   bif decide (Int.toNat (Go.IntKind.wrap Go.IntKind.i64 x1) ≤ Int.toNat (Go.IntKind.wrap Go.IntKind.i64 x1)) && (decide ((8 : Nat) * Int.toNat (Go.IntKind.wrap Go.IntKind.i64 x1) ≤ (281474976710656 : Nat)) && decide (Int.toNat (Go.IntKind.wrap Go.IntKind.i64 x1) ≤ (9223372036854775807 : Nat))) then
    J10 (List.take (min (List.length x0) (List.length (List.replicate (Int.toNat (Go.IntKind.wrap Go.IntKind.i64 x1)) ((0 : Int), ())))) x0 ++ List.drop (min (List.length x0) (List.length (List.replicate (Int.toNat (Go.IntKind.wrap Go.IntKind.i64 x1)) ((0 : Int), ())))) (List.replicate (Int.toNat (Go.IntKind.wrap Go.IntKind.i64 x1)) ((0 : Int), ()))) (Int.ofNat (min (List.length x0) (List.length (List.replicate (Int.toNat (Go.IntKind.wrap Go.IntKind.i64 x1)) ((0 : Int), ())))))
   else
    none
  else
   none
 else
  none
def slices_Repeat___int64_int64__c10 (J1 : slices_Repeat___int64_int64__T1) (J5 : slices_Repeat___int64_int64__T5) (J10 : slices_Repeat___int64_int64__T10) (x0 : List Y10) (x1 : Int) : Option (List Y10 × Unit) :=
 bif decide (x1 < Int.ofNat (List.length x0)) then
  bif decide ((0 : Int) ≤ x1) then
   bif decide (Int.toNat x1 ≤ List.length x0) then
    bif decide (Int.toNat x1 = List.length x0) then
     bif decide ((0 : Int) ≤ x1) then
      bif decide ((0 : Nat) ≤ Int.toNat x1) && decide (Int.toNat x1 ≤ List.length x0) then
       none
      else
       none
     else
      none
    else
     bif decide ((0 : Int) ≤ x1) then
      bif decide ((0 : Nat) ≤ Int.toNat x1) && decide (Int.toNat x1 ≤ List.length x0) then
       bif decide (Int.toNat x1 + (List.length x0 - Int.toNat x1) ≤ List.length x0) then
        J10 (List.take (Int.toNat x1) x0 ++ (List.take (min (List.length (List.take (Int.toNat x1) (List.drop (0 : Nat) x0))) (List.length x0 - Int.toNat x1)) (List.take (Int.toNat x1) (List.drop (0 : Nat) x0)) ++ List.drop (Int.toNat x1 + min (List.length (List.take (Int.toNat x1) (List.drop (0 : Nat) x0))) (List.length x0 - Int.toNat x1)) x0)) (Go.IntKind.wrap Go.IntKind.i64 (x1 + Int.ofNat (min (List.length (List.take (Int.toNat x1) (List.drop (0 : Nat) x0))) (List.length x0 - Int.toNat x1))))
       else
        none
      else
       none
     else
      none
   else
    none
  else
   none
 else
  some ((x0, ()))
mutual
def slices_Repeat___int64_int64__i1 : Nat → List Y10 → Int → Option (List Y10 × Unit)
 | 0, _, _ => none
 | n + 1, x0, x1 => slices_Repeat___int64_int64__c1 (slices_Repeat___int64_int64__i1 n) (slices_Repeat___int64_int64__i5 n) (slices_Repeat___int64_int64__i10 n) x0 x1
def slices_Repeat___int64_int64__i5 : Nat → List Y10 → Int → Option (List Y10 × Unit)
 | 0, _, _ => none
 | n + 1, x0, x1 => slices_Repeat___int64_int64__c5 (slices_Repeat___int64_int64__i1 n) (slices_Repeat___int64_int64__i5 n) (slices_Repeat___int64_int64__i10 n) x0 x1
def slices_Repeat___int64_int64__i10 : Nat → List Y10 → Int → Option (List Y10 × Unit)
 | 0, _, _ => none
 | n + 1, x0, x1 => slices_Repeat___int64_int64__c10 (slices_Repeat___int64_int64__i1 n) (slices_Repeat___int64_int64__i5 n) (slices_Repeat___int64_int64__i10 n) x0 x1
end
def slices_Repeat___int64_int64_ (a0 : List Y10) (a1 : Int) : Option (List Y10 × Unit) := slices_Repeat___int64_int64__c (slices_Repeat___int64_int64__i1 fuel) (slices_Repeat___int64_int64__i5 fuel) (slices_Repeat___int64_int64__i10 fuel) a0 a1
def marks_New (a0 : Int) : Option (List Y10 × Int × Unit) :=
 bif decide (a0 < (1 : Int)) then
  some (([], (2 : Int), ()))
 else
  bif decide (a0 > (4 : Int)) then
   some (([], (2 : Int), ()))
  else
   match slices_Repeat___int64_int64_ [((-9223372036854775808 : Int), ())] a0 with
    | none => none
    | some e0 =>
     some ((e0.1, (0 : Int), ()))
def agg_New (a0 a1 : Int) : Option (Y1 × Int × Unit) :=
 match marks_New a1 with
  | none => none
  | some e0 =>
   bif e0.2.1 != (0 : Int) then
    some ((((0 : Int), (0 : Int), (0 : Int), [], [], [], [], [], [], ()), (2 : Int), ()))
   else
    bif decide (a0 < (0 : Int)) then
     some ((((0 : Int), (0 : Int), (0 : Int), [], [], [], [], [], [], ()), (2 : Int), ()))
    else
     bif decide (a0 ≥ (3 : Int)) then
      some ((((0 : Int), (0 : Int), (0 : Int), [], [], [], [], [], [], ()), (2 : Int), ()))
     else
      some ((((4 : Int), a0, (0 : Int), [], e0.1, [], [], [], [], ()), (0 : Int), ()))
def filter_New (a0 : Int) : Option (Y1 × Int × Unit) :=
 bif decide (a0 < (0 : Int)) then
  some ((((0 : Int), (0 : Int), (0 : Int), [], [], [], [], [], [], ()), (2 : Int), ()))
 else
  bif decide (a0 ≥ (4 : Int)) then
   some ((((0 : Int), (0 : Int), (0 : Int), [], [], [], [], [], [], ()), (2 : Int), ()))
  else
   some ((((2 : Int), a0, (0 : Int), [], [((-9223372036854775808 : Int), ())], [], [], [], [], ()), (0 : Int), ()))
def part_New (a0 : Int) : Option (Y1 × Int × Unit) :=
 bif decide (a0 < (0 : Int)) then
  some ((((0 : Int), (0 : Int), (0 : Int), [], [], [], [], [], [], ()), (2 : Int), ()))
 else
  bif decide (a0 ≥ (4 : Int)) then
   some ((((0 : Int), (0 : Int), (0 : Int), [], [], [], [], [], [], ()), (2 : Int), ()))
  else
   some ((((3 : Int), a0, (0 : Int), [], [], [], [], [], [], ()), (0 : Int), ()))
def join_New (a0 : Int) : Option (Y1 × Int × Unit) :=
 bif decide (a0 < (0 : Int)) then
  some ((((0 : Int), (0 : Int), (0 : Int), [], [], [], [], [], [], ()), (2 : Int), ()))
 else
  bif decide (a0 ≥ (3 : Int)) then
   some ((((0 : Int), (0 : Int), (0 : Int), [], [], [], [], [], [], ()), (2 : Int), ()))
  else
   some ((((5 : Int), a0, (0 : Int), [], List.take (1 : Nat) (List.take (1 : Nat) [((-9223372036854775808 : Int), ())] ++ List.drop (1 : Nat) (List.replicate (2 : Nat) ((0 : Int), ()))) ++ (List.take (1 : Nat) (List.take (1 : Nat) (List.drop (0 : Nat) (List.take (1 : Nat) [((-9223372036854775808 : Int), ())] ++ List.drop (1 : Nat) (List.replicate (2 : Nat) ((0 : Int), ()))))) ++ List.drop (2 : Nat) (List.take (1 : Nat) [((-9223372036854775808 : Int), ())] ++ List.drop (1 : Nat) (List.replicate (2 : Nat) ((0 : Int), ())))), [], [], [], [], ()), (0 : Int), ()))
def sink_New (a0 : Bool) : Option (Y1 × Unit) :=
 bif a0 then
  some ((((7 : Int), (0 : Int), (0 : Int), [], [], [], [], [], [], ()), ()))
 else
  some ((((6 : Int), (0 : Int), (0 : Int), [], [], [], [], [], [], ()), ()))
def channel_New (a0 : Int) : Option (Y13 × Int × Unit) :=
 bif decide (a0 < (1 : Int)) then
  some ((((0 : Int), [], ()), (2 : Int), ()))
 else
  bif decide (a0 > (8 : Int)) then
   some ((((0 : Int), [], ()), (2 : Int), ()))
  else
   some (((a0, [], ()), (0 : Int), ()))
def ref04_Count (a0 : Int) : Option Y10 :=
 bif decide (a0 ≤ (4 : Int)) then
  some (((0 : Int), ()))
 else
  bif decide (a0 ≤ (6 : Int)) then
   some (((1 : Int), ()))
  else
   some (((2 : Int), ()))
def ref04_right (a0 : Int × Int × Int × Int × Int × Unit) (a1 a2 : Int) : Option Y11 :=
 bif decide (a0.1 ≥ (1 : Int)) then
  bif decide (a0.1 ≤ (19 : Int)) then
   bif decide (a0.2.1 ≥ (0 : Int)) then
    bif a0.2.1 == (0 : Int) then
     bif decide (a0.2.2.2.2.1 ≥ (0 : Int)) then
      bif decide (a0.2.2.2.2.1 ≤ (400 : Int)) then
       bif a0.2.2.1 == a1 then
        some ((a0.2.2.2.1 == a2, ()))
       else
        some ((false, ()))
      else
       some ((false, ()))
     else
      some ((false, ()))
    else
     bif a0.1 == (1 : Int) then
      bif decide (a0.2.2.2.2.1 ≥ (0 : Int)) then
       bif decide (a0.2.2.2.2.1 ≤ (400 : Int)) then
        bif a0.2.2.1 == a1 then
         some ((a0.2.2.2.1 == a2, ()))
        else
         some ((false, ()))
       else
        some ((false, ()))
      else
       some ((false, ()))
     else
      some ((false, ()))
   else
    some ((false, ()))
  else
   some ((false, ()))
 else
  some ((false, ()))
abbrev ref04_Sizes_T2 := List Y2 → List Y10 → List Y10 → Option Y14
abbrev ref04_Sizes_T4 := List Y2 → List Y10 → List Y10 → Int → Option Y14
abbrev ref04_Sizes_T11 := List Y2 → List Y10 → List Y10 → Int → Int → Int → Int → Int → Option Y14
def ref04_Sizes_c (J2 : ref04_Sizes_T2) (J4 : ref04_Sizes_T4) (J11 : ref04_Sizes_T11) (a0 : List Y2) : Option Y14 :=
 J4 a0 ([]) ([]) ((0 : Int))
def ref04_Sizes_c2 (J2 : ref04_Sizes_T2) (J4 : ref04_Sizes_T4) (J11 : ref04_Sizes_T11) (x0 : List Y2) (x1 x2 : List Y10) : Option Y14 :=
 bif decide (Int.ofNat (List.length x0) > (0 : Int)) then
  bif decide ((0 : Int) ≤ Go.IntKind.wrap Go.IntKind.i64 (Int.ofNat (List.length x0) - (1 : Int))) then
   bif decide (Int.toNat (Go.IntKind.wrap Go.IntKind.i64 (Int.ofNat (List.length x0) - (1 : Int))) < List.length x1) then
    match x1[Int.toNat (Go.IntKind.wrap Go.IntKind.i64 (Int.ofNat (List.length x0) - (1 : Int)))]? with
     | none => none
     | some e0 =>
      some ((x1, x2, e0.1 == Int.ofNat (List.length x0), ()))
   else
    none
  else
   none
 else
  some ((x1, x2, false, ()))
def ref04_Sizes_c4 (J2 : ref04_Sizes_T2) (J4 : ref04_Sizes_T4) (J11 : ref04_Sizes_T11) (x0 : List Y2) (x1 x2 : List Y10) (x3 : Int) : Option Y14 :=
 bif decide (x3 < Int.ofNat (List.length x0)) then
  bif decide ((0 : Int) ≤ x3) then
   match x0[Int.toNat x3]? with
    | none => none
    | some e0 =>
     match ref04_Count e0.1 with
      | none => none
      | some e1 =>
       bif decide (e1.1 > (0 : Int)) then
        bif decide (Go.IntKind.wrap Go.IntKind.i64 (x3 - (1 : Int)) < (0 : Int)) then
         some (([], [], false, ()))
        else
         bif decide ((0 : Int) ≤ Go.IntKind.wrap Go.IntKind.i64 (x3 - (1 : Int))) then
          bif decide (Int.toNat (Go.IntKind.wrap Go.IntKind.i64 (x3 - (1 : Int))) < List.length x1) then
           match x1[Int.toNat (Go.IntKind.wrap Go.IntKind.i64 (x3 - (1 : Int)))]? with
            | none => none
            | some e2 =>
             bif decide ((0 : Int) ≤ Go.IntKind.wrap Go.IntKind.i64 (x3 - (1 : Int))) then
              bif decide (Int.toNat (Go.IntKind.wrap Go.IntKind.i64 (x3 - (1 : Int))) < List.length x1) then
               match x1[Int.toNat (Go.IntKind.wrap Go.IntKind.i64 (x3 - (1 : Int)))]? with
                | none => none
                | some e3 =>
                 bif decide ((0 : Int) ≤ Go.IntKind.wrap Go.IntKind.i64 (x3 - (1 : Int))) then
                  bif decide (Int.toNat (Go.IntKind.wrap Go.IntKind.i64 (x3 - (1 : Int))) < List.length x2) then
                   match x2[Int.toNat (Go.IntKind.wrap Go.IntKind.i64 (x3 - (1 : Int)))]? with
                    | none => none
                    | some e4 =>
                     bif e1.1 == (2 : Int) then
                      bif decide (Go.IntKind.wrap Go.IntKind.i64 (Go.IntKind.wrap Go.IntKind.i64 (x3 - (1 : Int)) - e2.1) < (0 : Int)) then
                       some (([], [], false, ()))
                      else
                       bif decide ((0 : Int) ≤ Go.IntKind.wrap Go.IntKind.i64 (Go.IntKind.wrap Go.IntKind.i64 (x3 - (1 : Int)) - e2.1)) then
                        bif decide (Int.toNat (Go.IntKind.wrap Go.IntKind.i64 (Go.IntKind.wrap Go.IntKind.i64 (x3 - (1 : Int)) - e2.1)) < List.length x1) then
                         match x1[Int.toNat (Go.IntKind.wrap Go.IntKind.i64 (Go.IntKind.wrap Go.IntKind.i64 (x3 - (1 : Int)) - e2.1))]? with
                          | none => none
                          | some e5 =>
                           bif decide ((0 : Int) ≤ Go.IntKind.wrap Go.IntKind.i64 (Go.IntKind.wrap Go.IntKind.i64 (x3 - (1 : Int)) - e2.1)) then
                            bif decide (Int.toNat (Go.IntKind.wrap Go.IntKind.i64 (Go.IntKind.wrap Go.IntKind.i64 (x3 - (1 : Int)) - e2.1)) < List.length x2) then
                             match x2[Int.toNat (Go.IntKind.wrap Go.IntKind.i64 (Go.IntKind.wrap Go.IntKind.i64 (x3 - (1 : Int)) - e2.1))]? with
                              | none => none
                              | some e6 =>
                               J11 x0 x1 x2 x3 (Go.IntKind.wrap Go.IntKind.i64 (Go.IntKind.wrap Go.IntKind.i64 (x3 - (1 : Int)) - e2.1)) (Go.IntKind.wrap Go.IntKind.i64 (x3 - (1 : Int))) (Go.IntKind.wrap Go.IntKind.i64 (Go.IntKind.wrap Go.IntKind.i64 ((1 : Int) + e3.1) + e5.1)) (tmm true (Go.IntKind.wrap Go.IntKind.i64 ((1 : Int) + e4.1)) (Go.IntKind.wrap Go.IntKind.i64 ((1 : Int) + e6.1)))
                            else
                             none
                           else
                            none
                        else
                         none
                       else
                        none
                     else
                      J11 x0 x1 x2 x3 (Go.IntKind.wrap Go.IntKind.i64 (x3 - (1 : Int))) ((0 : Int)) (Go.IntKind.wrap Go.IntKind.i64 ((1 : Int) + e3.1)) (Go.IntKind.wrap Go.IntKind.i64 ((1 : Int) + e4.1))
                  else
                   none
                 else
                  none
              else
               none
             else
              none
          else
           none
         else
          none
       else
        J11 x0 x1 x2 x3 ((0 : Int)) ((0 : Int)) ((1 : Int)) ((1 : Int))
  else
   none
 else
  J2 x0 x1 x2
def ref04_Sizes_c11 (J2 : ref04_Sizes_T2) (J4 : ref04_Sizes_T4) (J11 : ref04_Sizes_T11) (x0 : List Y2) (x1 x2 : List Y10) (x3 x4 x5 x6 x7 : Int) : Option Y14 :=
 bif decide ((0 : Int) ≤ x3) then
  match x0[Int.toNat x3]? with
   | none => none
   | some e0 =>
    match ref04_right e0 x4 x5 with
     | none => none
     | some e1 =>
      bif !e1.1 then
       some (([], [], false, ()))
      else
       bif bigOk (List.length x1 + List.length [(x6, ())]) (8 : Nat) then
        bif bigOk (List.length x2 + List.length [(x7, ())]) (8 : Nat) then
         J4 x0 (x1 ++ [(x6, ())]) (x2 ++ [(x7, ())]) (Go.IntKind.wrap Go.IntKind.i64 (x3 + (1 : Int)))
        else
         none
       else
        none
 else
  none
mutual
def ref04_Sizes_i2 : Nat → List Y2 → List Y10 → List Y10 → Option Y14
 | 0, _, _, _ => none
 | n + 1, x0, x1, x2 => ref04_Sizes_c2 (ref04_Sizes_i2 n) (ref04_Sizes_i4 n) (ref04_Sizes_i11 n) x0 x1 x2
def ref04_Sizes_i4 : Nat → List Y2 → List Y10 → List Y10 → Int → Option Y14
 | 0, _, _, _, _ => none
 | n + 1, x0, x1, x2, x3 => ref04_Sizes_c4 (ref04_Sizes_i2 n) (ref04_Sizes_i4 n) (ref04_Sizes_i11 n) x0 x1 x2 x3
def ref04_Sizes_i11 : Nat → List Y2 → List Y10 → List Y10 → Int → Int → Int → Int → Int → Option Y14
 | 0, _, _, _, _, _, _, _, _ => none
 | n + 1, x0, x1, x2, x3, x4, x5, x6, x7 => ref04_Sizes_c11 (ref04_Sizes_i2 n) (ref04_Sizes_i4 n) (ref04_Sizes_i11 n) x0 x1 x2 x3 x4 x5 x6 x7
end
def ref04_Sizes (a0 : List Y2) : Option Y14 := ref04_Sizes_c (ref04_Sizes_i2 fuel) (ref04_Sizes_i4 fuel) (ref04_Sizes_i11 fuel) a0
def ref04_Check (a0 : List Y2) : Option Y10 :=
 bif decide (Int.ofNat (List.length a0) > (60 : Int)) then
  some (((4 : Int), ()))
 else
  match ref04_Sizes a0 with
   | none => none
   | some e0 =>
    bif !e0.2.2.1 then
     some (((8 : Int), ()))
    else
     bif decide ((0 : Int) ≤ Go.IntKind.wrap Go.IntKind.i64 (Int.ofNat (List.length a0) - (1 : Int))) then
      match e0.2.1[Int.toNat (Go.IntKind.wrap Go.IntKind.i64 (Int.ofNat (List.length a0) - (1 : Int)))]? with
       | none => none
       | some e1 =>
        bif decide (e1.1 > (20 : Int)) then
         some (((34 : Int), ()))
        else
         some (((0 : Int), ()))
     else
      none
abbrev ref08_Sources_T7 := List Y10 → Option Y10
abbrev ref08_Sources_T9 := List Y10 → Int → Option Y10
abbrev ref08_Sources_T17 := List Y10 → Int → Option Y10
abbrev ref08_Sources_T22 := List Y10 → Int → Int → Option Y10
def ref08_Sources_c (J7 : ref08_Sources_T7) (J9 : ref08_Sources_T9) (J17 : ref08_Sources_T17) (J22 : ref08_Sources_T22) (a0 : List Y10) (a1 : Bool) : Option Y10 :=
 bif decide (Int.ofNat (List.length a0) > (4 : Int)) then
  some (((4 : Int), ()))
 else
  bif Int.ofNat (List.length a0) == (0 : Int) then
   some (((8 : Int), ()))
  else
   bif a1 then
    bif Int.ofNat (List.length a0) != (2 : Int) then
     some (((8 : Int), ()))
    else
     J9 a0 ((0 : Int))
   else
    J9 a0 ((0 : Int))
def ref08_Sources_c7 (J7 : ref08_Sources_T7) (J9 : ref08_Sources_T9) (J17 : ref08_Sources_T17) (J22 : ref08_Sources_T22) (x0 : List Y10) : Option Y10 :=
 J17 x0 ((0 : Int))
def ref08_Sources_c9 (J7 : ref08_Sources_T7) (J9 : ref08_Sources_T9) (J17 : ref08_Sources_T17) (J22 : ref08_Sources_T22) (x0 : List Y10) (x1 : Int) : Option Y10 :=
 bif decide (x1 < Int.ofNat (List.length x0)) then
  bif decide ((0 : Int) ≤ x1) then
   match x0[Int.toNat x1]? with
    | none => none
    | some e0 =>
     bif decide (e0.1 < (0 : Int)) then
      some (((8 : Int), ()))
     else
      bif decide ((0 : Int) ≤ x1) then
       match x0[Int.toNat x1]? with
        | none => none
        | some e1 =>
         bif decide (e1.1 > (3 : Int)) then
          some (((8 : Int), ()))
         else
          J9 x0 (Go.IntKind.wrap Go.IntKind.i64 (x1 + (1 : Int)))
      else
       none
  else
   none
 else
  J7 x0
def ref08_Sources_c17 (J7 : ref08_Sources_T7) (J9 : ref08_Sources_T9) (J17 : ref08_Sources_T17) (J22 : ref08_Sources_T22) (x0 : List Y10) (x1 : Int) : Option Y10 :=
 bif decide (x1 < Int.ofNat (List.length x0)) then
  J22 x0 x1 ((0 : Int))
 else
  some (((0 : Int), ()))
def ref08_Sources_c22 (J7 : ref08_Sources_T7) (J9 : ref08_Sources_T9) (J17 : ref08_Sources_T17) (J22 : ref08_Sources_T22) (x0 : List Y10) (x1 x2 : Int) : Option Y10 :=
 bif decide (x2 < x1) then
  bif decide ((0 : Int) ≤ x2) then
   match x0[Int.toNat x2]? with
    | none => none
    | some e0 =>
     bif decide ((0 : Int) ≤ x1) then
      match x0[Int.toNat x1]? with
       | none => none
       | some e1 =>
        bif e0.1 == e1.1 then
         some (((43 : Int), ()))
        else
         J22 x0 x1 (Go.IntKind.wrap Go.IntKind.i64 (x2 + (1 : Int)))
     else
      none
  else
   none
 else
  J17 x0 (Go.IntKind.wrap Go.IntKind.i64 (x1 + (1 : Int)))
mutual
def ref08_Sources_i7 : Nat → List Y10 → Option Y10
 | 0, _ => none
 | n + 1, x0 => ref08_Sources_c7 (ref08_Sources_i7 n) (ref08_Sources_i9 n) (ref08_Sources_i17 n) (ref08_Sources_i22 n) x0
def ref08_Sources_i9 : Nat → List Y10 → Int → Option Y10
 | 0, _, _ => none
 | n + 1, x0, x1 => ref08_Sources_c9 (ref08_Sources_i7 n) (ref08_Sources_i9 n) (ref08_Sources_i17 n) (ref08_Sources_i22 n) x0 x1
def ref08_Sources_i17 : Nat → List Y10 → Int → Option Y10
 | 0, _, _ => none
 | n + 1, x0, x1 => ref08_Sources_c17 (ref08_Sources_i7 n) (ref08_Sources_i9 n) (ref08_Sources_i17 n) (ref08_Sources_i22 n) x0 x1
def ref08_Sources_i22 : Nat → List Y10 → Int → Int → Option Y10
 | 0, _, _, _ => none
 | n + 1, x0, x1, x2 => ref08_Sources_c22 (ref08_Sources_i7 n) (ref08_Sources_i9 n) (ref08_Sources_i17 n) (ref08_Sources_i22 n) x0 x1 x2
end
def ref08_Sources (a0 : List Y10) (a1 : Bool) : Option Y10 := ref08_Sources_c (ref08_Sources_i7 fuel) (ref08_Sources_i9 fuel) (ref08_Sources_i17 fuel) (ref08_Sources_i22 fuel) a0 a1
def ref08_Fits (a0 : Int × Int × Int × Unit) : Option Y11 :=
 bif decide (a0.2.1 < (1 : Int)) then
  some ((false, ()))
 else
  bif decide (a0.2.1 > (1073741824 : Int)) then
   some ((false, ()))
  else
   bif a0.1 == (2 : Int) then
    bif decide (a0.2.2.1 ≥ (1 : Int)) then
     bif decide (a0.2.2.1 ≤ a0.2.1) then
      some ((decide (a0.2.1 ≤ Go.IntKind.wrap Go.IntKind.i64 ((16 : Int) * a0.2.2.1)), ()))
     else
      some ((false, ()))
    else
     some ((false, ()))
   else
    bif a0.1 == (1 : Int) then
     some ((a0.2.2.1 == (0 : Int), ()))
    else
     bif a0.1 == (3 : Int) then
      some ((a0.2.2.1 == (0 : Int), ()))
     else
      some ((false, ()))
def ref08_Check (a0 : Int × List Y2 × List Y10 × Bool × List Y2 × Int × Int × Int × Bool × Int × Unit) : Option Y10 :=
 bif decide (a0.1 < (1 : Int)) then
  some (((8 : Int), ()))
 else
  bif decide (a0.1 > (4 : Int)) then
   some (((8 : Int), ()))
  else
   bif decide (a0.2.2.2.2.2.2.2.2.2.1 < (1 : Int)) then
    some (((8 : Int), ()))
   else
    bif decide (a0.2.2.2.2.2.2.2.2.2.1 > (2 : Int)) then
     some (((8 : Int), ()))
    else
     bif a0.1 == (1 : Int) then
      bif decide (Int.ofNat (List.length a0.2.1) > (0 : Int)) then
       some (((8 : Int), ()))
      else
       bif a0.1 != (1 : Int) then
        match ref04_Check a0.2.1 with
         | none => none
         | some e0 =>
          bif e0.1 != (0 : Int) then
           match ref04_Check a0.2.1 with
            | none => none
            | some e1 =>
             some ((e1.1, ()))
          else
           bif decide (Int.ofNat (List.length a0.2.2.2.2.1) > (0 : Int)) then
            match ref04_Check a0.2.2.2.2.1 with
             | none => none
             | some e1 =>
              bif e1.1 != (0 : Int) then
               match ref04_Check a0.2.2.2.2.1 with
                | none => none
                | some e2 =>
                 some ((e2.1, ()))
              else
               match ref08_Sources a0.2.2.1 a0.2.2.2.1 with
                | none => none
                | some e2 =>
                 bif e2.1 != (0 : Int) then
                  match ref08_Sources a0.2.2.1 a0.2.2.2.1 with
                   | none => none
                   | some e3 =>
                    some ((e3.1, ()))
                 else
                  match ref08_Fits (a0.2.2.2.2.2.1, a0.2.2.2.2.2.2.1, a0.2.2.2.2.2.2.2.1, ()) with
                   | none => none
                   | some e3 =>
                    bif !e3.1 then
                     some (((8 : Int), ()))
                    else
                     bif a0.2.2.2.1 then
                      bif a0.2.2.2.2.2.1 != (1 : Int) then
                       some (((8 : Int), ()))
                      else
                       some (((0 : Int), ()))
                     else
                      some (((0 : Int), ()))
           else
            match ref08_Sources a0.2.2.1 a0.2.2.2.1 with
             | none => none
             | some e1 =>
              bif e1.1 != (0 : Int) then
               match ref08_Sources a0.2.2.1 a0.2.2.2.1 with
                | none => none
                | some e2 =>
                 some ((e2.1, ()))
              else
               match ref08_Fits (a0.2.2.2.2.2.1, a0.2.2.2.2.2.2.1, a0.2.2.2.2.2.2.2.1, ()) with
                | none => none
                | some e2 =>
                 bif !e2.1 then
                  some (((8 : Int), ()))
                 else
                  bif a0.2.2.2.1 then
                   bif a0.2.2.2.2.2.1 != (1 : Int) then
                    some (((8 : Int), ()))
                   else
                    some (((0 : Int), ()))
                  else
                   some (((0 : Int), ()))
       else
        bif decide (Int.ofNat (List.length a0.2.2.2.2.1) > (0 : Int)) then
         match ref04_Check a0.2.2.2.2.1 with
          | none => none
          | some e0 =>
           bif e0.1 != (0 : Int) then
            match ref04_Check a0.2.2.2.2.1 with
             | none => none
             | some e1 =>
              some ((e1.1, ()))
           else
            match ref08_Sources a0.2.2.1 a0.2.2.2.1 with
             | none => none
             | some e1 =>
              bif e1.1 != (0 : Int) then
               match ref08_Sources a0.2.2.1 a0.2.2.2.1 with
                | none => none
                | some e2 =>
                 some ((e2.1, ()))
              else
               match ref08_Fits (a0.2.2.2.2.2.1, a0.2.2.2.2.2.2.1, a0.2.2.2.2.2.2.2.1, ()) with
                | none => none
                | some e2 =>
                 bif !e2.1 then
                  some (((8 : Int), ()))
                 else
                  bif a0.2.2.2.1 then
                   bif a0.2.2.2.2.2.1 != (1 : Int) then
                    some (((8 : Int), ()))
                   else
                    some (((0 : Int), ()))
                  else
                   some (((0 : Int), ()))
        else
         match ref08_Sources a0.2.2.1 a0.2.2.2.1 with
          | none => none
          | some e0 =>
           bif e0.1 != (0 : Int) then
            match ref08_Sources a0.2.2.1 a0.2.2.2.1 with
             | none => none
             | some e1 =>
              some ((e1.1, ()))
           else
            match ref08_Fits (a0.2.2.2.2.2.1, a0.2.2.2.2.2.2.1, a0.2.2.2.2.2.2.2.1, ()) with
             | none => none
             | some e1 =>
              bif !e1.1 then
               some (((8 : Int), ()))
              else
               bif a0.2.2.2.1 then
                bif a0.2.2.2.2.2.1 != (1 : Int) then
                 some (((8 : Int), ()))
                else
                 some (((0 : Int), ()))
               else
                some (((0 : Int), ()))
     else
      bif a0.1 != (1 : Int) then
       match ref04_Check a0.2.1 with
        | none => none
        | some e0 =>
         bif e0.1 != (0 : Int) then
          match ref04_Check a0.2.1 with
           | none => none
           | some e1 =>
            some ((e1.1, ()))
         else
          bif decide (Int.ofNat (List.length a0.2.2.2.2.1) > (0 : Int)) then
           match ref04_Check a0.2.2.2.2.1 with
            | none => none
            | some e1 =>
             bif e1.1 != (0 : Int) then
              match ref04_Check a0.2.2.2.2.1 with
               | none => none
               | some e2 =>
                some ((e2.1, ()))
             else
              match ref08_Sources a0.2.2.1 a0.2.2.2.1 with
               | none => none
               | some e2 =>
                bif e2.1 != (0 : Int) then
                 match ref08_Sources a0.2.2.1 a0.2.2.2.1 with
                  | none => none
                  | some e3 =>
                   some ((e3.1, ()))
                else
                 match ref08_Fits (a0.2.2.2.2.2.1, a0.2.2.2.2.2.2.1, a0.2.2.2.2.2.2.2.1, ()) with
                  | none => none
                  | some e3 =>
                   bif !e3.1 then
                    some (((8 : Int), ()))
                   else
                    bif a0.2.2.2.1 then
                     bif a0.2.2.2.2.2.1 != (1 : Int) then
                      some (((8 : Int), ()))
                     else
                      some (((0 : Int), ()))
                    else
                     some (((0 : Int), ()))
          else
           match ref08_Sources a0.2.2.1 a0.2.2.2.1 with
            | none => none
            | some e1 =>
             bif e1.1 != (0 : Int) then
              match ref08_Sources a0.2.2.1 a0.2.2.2.1 with
               | none => none
               | some e2 =>
                some ((e2.1, ()))
             else
              match ref08_Fits (a0.2.2.2.2.2.1, a0.2.2.2.2.2.2.1, a0.2.2.2.2.2.2.2.1, ()) with
               | none => none
               | some e2 =>
                bif !e2.1 then
                 some (((8 : Int), ()))
                else
                 bif a0.2.2.2.1 then
                  bif a0.2.2.2.2.2.1 != (1 : Int) then
                   some (((8 : Int), ()))
                  else
                   some (((0 : Int), ()))
                 else
                  some (((0 : Int), ()))
      else
       bif decide (Int.ofNat (List.length a0.2.2.2.2.1) > (0 : Int)) then
        match ref04_Check a0.2.2.2.2.1 with
         | none => none
         | some e0 =>
          bif e0.1 != (0 : Int) then
           match ref04_Check a0.2.2.2.2.1 with
            | none => none
            | some e1 =>
             some ((e1.1, ()))
          else
           match ref08_Sources a0.2.2.1 a0.2.2.2.1 with
            | none => none
            | some e1 =>
             bif e1.1 != (0 : Int) then
              match ref08_Sources a0.2.2.1 a0.2.2.2.1 with
               | none => none
               | some e2 =>
                some ((e2.1, ()))
             else
              match ref08_Fits (a0.2.2.2.2.2.1, a0.2.2.2.2.2.2.1, a0.2.2.2.2.2.2.2.1, ()) with
               | none => none
               | some e2 =>
                bif !e2.1 then
                 some (((8 : Int), ()))
                else
                 bif a0.2.2.2.1 then
                  bif a0.2.2.2.2.2.1 != (1 : Int) then
                   some (((8 : Int), ()))
                  else
                   some (((0 : Int), ()))
                 else
                  some (((0 : Int), ()))
       else
        match ref08_Sources a0.2.2.1 a0.2.2.2.1 with
         | none => none
         | some e0 =>
          bif e0.1 != (0 : Int) then
           match ref08_Sources a0.2.2.1 a0.2.2.2.1 with
            | none => none
            | some e1 =>
             some ((e1.1, ()))
          else
           match ref08_Fits (a0.2.2.2.2.2.1, a0.2.2.2.2.2.2.1, a0.2.2.2.2.2.2.2.1, ()) with
            | none => none
            | some e1 =>
             bif !e1.1 then
              some (((8 : Int), ()))
             else
              bif a0.2.2.2.1 then
               bif a0.2.2.2.2.2.1 != (1 : Int) then
                some (((8 : Int), ()))
               else
                some (((0 : Int), ()))
              else
               some (((0 : Int), ()))
def ref06_Gives (a0 : Int) : Option Y11 :=
 bif a0 == (6 : Int) then
  some ((true, ()))
 else
  some ((decide (a0 ≥ (12 : Int)), ()))
def ref06_fits (a0 : List Y2) (a1 : Int) : Option Y11 :=
 bif decide ((0 : Int) ≤ a1) then
  match a0[Int.toNat a1]? with
   | none => none
   | some e0 =>
    bif decide ((0 : Int) ≤ e0.2.2.1) then
     match a0[Int.toNat e0.2.2.1]? with
      | none => none
      | some e1 =>
       match ref06_Gives e1.1 with
        | none => none
        | some e2 =>
         bif decide ((0 : Int) ≤ e0.2.2.2.1) then
          match a0[Int.toNat e0.2.2.2.1]? with
           | none => none
           | some e3 =>
            match ref06_Gives e3.1 with
             | none => none
             | some e4 =>
              bif decide (e0.1 ≤ (4 : Int)) then
               some ((true, ()))
              else
               bif e0.1 == (5 : Int) then
                some ((!e2.1, ()))
               else
                bif e0.1 == (6 : Int) then
                 some ((e2.1, ()))
                else
                 bif e0.1 == (16 : Int) then
                  some ((e2.1 == e4.1, ()))
                 else
                  bif e0.1 == (17 : Int) then
                   some ((e2.1 == e4.1, ()))
                  else
                   bif decide (e0.1 ≥ (18 : Int)) then
                    bif e2.1 then
                     some ((e4.1, ()))
                    else
                     some ((false, ()))
                   else
                    bif !e2.1 then
                     some ((!e4.1, ()))
                    else
                     some ((false, ()))
         else
          none
    else
     none
 else
  none
abbrev ref06_Wrong_T3 := List Y2 → Int → Option Y10
def ref06_Wrong_c (J3 : ref06_Wrong_T3) (a0 : List Y2) : Option Y10 :=
 J3 a0 ((0 : Int))
def ref06_Wrong_c3 (J3 : ref06_Wrong_T3) (x0 : List Y2) (x1 : Int) : Option Y10 :=
 bif decide (x1 < Int.ofNat (List.length x0)) then
  match ref06_fits x0 x1 with
   | none => none
   | some e0 =>
    bif !e0.1 then
     some ((x1, ()))
    else
     J3 x0 (Go.IntKind.wrap Go.IntKind.i64 (x1 + (1 : Int)))
 else
  some ((Int.ofNat (List.length x0), ()))
mutual
def ref06_Wrong_i3 : Nat → List Y2 → Int → Option Y10
 | 0, _, _ => none
 | n + 1, x0, x1 => ref06_Wrong_c3 (ref06_Wrong_i3 n) x0 x1
end
def ref06_Wrong (a0 : List Y2) : Option Y10 := ref06_Wrong_c (ref06_Wrong_i3 fuel) a0
def ref06_Of (a0 : List Y2) : Option (Bool × Int × Int × Unit) :=
 match ref04_Check a0 with
  | none => none
  | some e0 =>
   bif e0.1 != (0 : Int) then
    match ref04_Check a0 with
     | none => none
     | some e1 =>
      some ((false, (0 : Int), e1.1, ()))
   else
    match ref06_Wrong a0 with
     | none => none
     | some e1 =>
      bif decide (e1.1 < Int.ofNat (List.length a0)) then
       some ((false, e1.1, (42 : Int), ()))
      else
       bif decide ((0 : Int) ≤ Go.IntKind.wrap Go.IntKind.i64 (Int.ofNat (List.length a0) - (1 : Int))) then
        match a0[Int.toNat (Go.IntKind.wrap Go.IntKind.i64 (Int.ofNat (List.length a0) - (1 : Int)))]? with
         | none => none
         | some e2 =>
          match ref06_Gives e2.1 with
           | none => none
           | some e3 =>
            some ((e3.1, Go.IntKind.wrap Go.IntKind.i64 (Int.ofNat (List.length a0) - (1 : Int)), (0 : Int), ()))
       else
        none
def ref06_Want (a0 : List Y2) (a1 : Bool) : Option Y9 :=
 match ref06_Of a0 with
  | none => none
  | some e0 =>
   bif e0.2.2.1 == (0 : Int) then
    bif !e0.1 == a1 then
     some ((e0.2.1, (42 : Int), ()))
    else
     some (e0.2)
   else
    some (e0.2)
abbrev ref10_Right_T1 := List Y2 → Option Y9
def ref10_Right_c (J1 : ref10_Right_T1) (a0 : Int × List Y2 × List Y10 × Bool × List Y2 × Int × Int × Int × Bool × Int × Unit) : Option Y9 :=
 bif decide (Int.ofNat (List.length a0.2.1) > (0 : Int)) then
  match ref06_Want a0.2.1 false with
   | none => none
   | some e0 =>
    bif e0.2.1 != (0 : Int) then
     bif decide ((0 : Int) ≤ e0.1) then
      match a0.2.1[Int.toNat e0.1]? with
       | none => none
       | some e1 =>
        some ((e1.2.2.2.2.1, e0.2.1, ()))
     else
      none
    else
     J1 (a0.2.2.2.2.1)
 else
  J1 (a0.2.2.2.2.1)
def ref10_Right_c1 (J1 : ref10_Right_T1) (x0 : List Y2) : Option Y9 :=
 bif decide (Int.ofNat (List.length x0) > (0 : Int)) then
  match ref06_Want x0 true with
   | none => none
   | some e0 =>
    bif e0.2.1 != (0 : Int) then
     bif decide ((0 : Int) ≤ e0.1) then
      match x0[Int.toNat e0.1]? with
       | none => none
       | some e1 =>
        some ((e1.2.2.2.2.1, e0.2.1, ()))
     else
      none
    else
     some (((0 : Int), (0 : Int), ()))
 else
  some (((0 : Int), (0 : Int), ()))
mutual
def ref10_Right_i1 : Nat → List Y2 → Option Y9
 | 0, _ => none
 | n + 1, x0 => ref10_Right_c1 (ref10_Right_i1 n) x0
end
def ref10_Right (a0 : Int × List Y2 × List Y10 × Bool × List Y2 × Int × Int × Int × Bool × Int × Unit) : Option Y9 := ref10_Right_c (ref10_Right_i1 fuel) a0
def ref10_Check (a0 : Int × List Y2 × List Y10 × Bool × List Y2 × Int × Int × Int × Bool × Int × Unit) : Option Y9 :=
 match ref08_Check a0 with
  | none => none
  | some e0 =>
   bif e0.1 != (0 : Int) then
    match ref08_Check a0 with
     | none => none
     | some e1 =>
      some (((0 : Int), e1.1, ()))
   else
    match ref10_Right a0 with
     | none => none
     | some e1 =>
      some (e1)
def ref13_Check (a0 a1 : Int) : Option Y10 :=
 bif decide (a1 < (1 : Int)) then
  some (((2 : Int), ()))
 else
  bif decide (a1 > (1073741824 : Int)) then
   some (((2 : Int), ()))
  else
   bif decide (a0 < (-1099511627776 : Int)) then
    some (((16 : Int), ()))
   else
    bif decide (a0 > (1099511627776 : Int)) then
     some (((16 : Int), ()))
    else
     some (((0 : Int), ()))
def ref20_Valid (a0 : Bool × Int × Int × Int × Int × Unit) : Option Y11 :=
 bif a0.1 then
  bif a0.2.2.1 == (0 : Int) && (a0.2.2.2.1 == (0 : Int) && (a0.2.2.2.2.1 == (0 : Int) && true)) then
   bif a0.2.1 == (9223372036854775807 : Int) then
    some ((true, ()))
   else
    match ref13_Check a0.2.1 (1 : Int) with
     | none => none
     | some e0 =>
      some ((e0.1 == (0 : Int), ()))
  else
   some ((false, ()))
 else
  bif a0.2.1 == (0 : Int) then
   match ref13_Check a0.2.2.2.1 (1 : Int) with
    | none => none
    | some e0 =>
     some ((e0.1 == (0 : Int), ()))
  else
   some ((false, ()))
abbrev ref20_Check_T6 := List Y6 → Int → Option Y10
def ref20_Check_c (J6 : ref20_Check_T6) (a0 : List Y6) : Option Y10 :=
 bif decide (Int.ofNat (List.length a0) > (60 : Int)) then
  some (((4 : Int), ()))
 else
  J6 a0 ((0 : Int))
def ref20_Check_c6 (J6 : ref20_Check_T6) (x0 : List Y6) (x1 : Int) : Option Y10 :=
 bif decide (x1 < Int.ofNat (List.length x0)) then
  bif decide ((0 : Int) ≤ x1) then
   match x0[Int.toNat x1]? with
    | none => none
    | some e0 =>
     match ref20_Valid e0 with
      | none => none
      | some e1 =>
       bif !e1.1 then
        some (((8 : Int), ()))
       else
        J6 x0 (Go.IntKind.wrap Go.IntKind.i64 (x1 + (1 : Int)))
  else
   none
 else
  some (((0 : Int), ()))
mutual
def ref20_Check_i6 : Nat → List Y6 → Int → Option Y10
 | 0, _, _ => none
 | n + 1, x0, x1 => ref20_Check_c6 (ref20_Check_i6 n) x0 x1
end
def ref20_Check (a0 : List Y6) : Option Y10 := ref20_Check_c (ref20_Check_i6 fuel) a0
abbrev ref36_Asked_T9 := Int → Int → Option Y10
abbrev ref36_Asked_T11 := List (List Y6 × Unit) → Int → Int → Int → Option Y10
def ref36_Asked_c (J9 : ref36_Asked_T9) (J11 : ref36_Asked_T11) (a0 : Int × List Y2 × List Y10 × Bool × List Y2 × Int × Int × Int × Bool × Int × Unit) (a1 : List (List Y6 × Unit)) (a2 a3 : Int) : Option Y10 :=
 match ref10_Check a0 with
  | none => none
  | some e0 =>
   bif e0.2.1 != (0 : Int) then
    some ((e0.2.1, ()))
   else
    bif Int.ofNat (List.length a1) != Int.ofNat (List.length a0.2.2.1) then
     some (((2 : Int), ()))
    else
     J11 a1 a2 a3 ((0 : Int))
def ref36_Asked_c9 (J9 : ref36_Asked_T9) (J11 : ref36_Asked_T11) (x0 x1 : Int) : Option Y10 :=
 bif decide (x0 < (1 : Int)) then
  some (((2 : Int), ()))
 else
  bif decide (x0 > (3 : Int)) then
   some (((2 : Int), ()))
  else
   bif decide (x1 < (1 : Int)) then
    some (((2 : Int), ()))
   else
    bif decide (x1 > (8 : Int)) then
     some (((2 : Int), ()))
    else
     some (((0 : Int), ()))
def ref36_Asked_c11 (J9 : ref36_Asked_T9) (J11 : ref36_Asked_T11) (x0 : List (List Y6 × Unit)) (x1 x2 x3 : Int) : Option Y10 :=
 bif decide (x3 < Int.ofNat (List.length x0)) then
  bif decide ((0 : Int) ≤ x3) then
   match x0[Int.toNat x3]? with
    | none => none
    | some e0 =>
     match ref20_Check e0.1 with
      | none => none
      | some e1 =>
       bif e1.1 != (0 : Int) then
        some ((e1.1, ()))
       else
        J11 x0 x1 x2 (Go.IntKind.wrap Go.IntKind.i64 (x3 + (1 : Int)))
  else
   none
 else
  J9 x1 x2
mutual
def ref36_Asked_i9 : Nat → Int → Int → Option Y10
 | 0, _, _ => none
 | n + 1, x0, x1 => ref36_Asked_c9 (ref36_Asked_i9 n) (ref36_Asked_i11 n) x0 x1
def ref36_Asked_i11 : Nat → List (List Y6 × Unit) → Int → Int → Int → Option Y10
 | 0, _, _, _, _ => none
 | n + 1, x0, x1, x2, x3 => ref36_Asked_c11 (ref36_Asked_i9 n) (ref36_Asked_i11 n) x0 x1 x2 x3
end
def ref36_Asked (a0 : Int × List Y2 × List Y10 × Bool × List Y2 × Int × Int × Int × Bool × Int × Unit) (a1 : List (List Y6 × Unit)) (a2 a3 : Int) : Option Y10 := ref36_Asked_c (ref36_Asked_i9 fuel) (ref36_Asked_i11 fuel) a0 a1 a2 a3
def ref22_Has (a0 : Int × List Y2 × List Y10 × Bool × List Y2 × Int × Int × Int × Bool × Int × Unit) (a1 : Int) : Option Y11 :=
 bif a1 == (3 : Int) then
  some ((decide (Int.ofNat (List.length a0.2.2.2.2.1) > (0 : Int)), ()))
 else
  bif a1 == (5 : Int) then
   some ((a0.2.2.2.2.2.2.2.2.1, ()))
  else
   bif a1 == (7 : Int) then
    some ((!a0.2.2.2.1, ()))
   else
    bif a1 == (8 : Int) then
     some ((a0.2.2.2.1, ()))
    else
     bif a1 == (10 : Int) then
      some ((a0.2.2.2.2.2.2.2.2.2.1 == (2 : Int), ()))
     else
      bif decide (a1 ≥ (1 : Int)) then
       some ((decide (a1 ≤ (10 : Int)), ()))
      else
       some ((false, ()))
abbrev ref22_Steps_T4 := Int → List Y2 → List Y10 → Bool → List Y2 → Int → Int → Int → Bool → Int → List Y10 → Int → Option (List Y10 × Unit)
def ref22_Steps_c (J4 : ref22_Steps_T4) (a0 : Int × List Y2 × List Y10 × Bool × List Y2 × Int × Int × Int × Bool × Int × Unit) : Option (List Y10 × Unit) :=
 J4 (a0.1) (a0.2.1) (a0.2.2.1) (a0.2.2.2.1) (a0.2.2.2.2.1) (a0.2.2.2.2.2.1) (a0.2.2.2.2.2.2.1) (a0.2.2.2.2.2.2.2.1) (a0.2.2.2.2.2.2.2.2.1) (a0.2.2.2.2.2.2.2.2.2.1) ([]) ((1 : Int))
def ref22_Steps_c4 (J4 : ref22_Steps_T4) (x0 : Int) (x1 : List Y2) (x2 : List Y10) (x3 : Bool) (x4 : List Y2) (x5 x6 x7 : Int) (x8 : Bool) (x9 : Int) (x10 : List Y10) (x11 : Int) : Option (List Y10 × Unit) :=
 bif decide (x11 ≤ (10 : Int)) then
  match ref22_Has (x0, x1, x2, x3, x4, x5, x6, x7, x8, x9, ()) x11 with
   | none => none
   | some e0 =>
    bif e0.1 then
     bif bigOk (List.length x10 + List.length [(x11, ())]) (1 : Nat) then
      J4 x0 x1 x2 x3 x4 x5 x6 x7 x8 x9 (x10 ++ [(x11, ())]) (Go.IntKind.wrap Go.IntKind.u8 (x11 + (1 : Int)))
     else
      none
    else
     J4 x0 x1 x2 x3 x4 x5 x6 x7 x8 x9 x10 (Go.IntKind.wrap Go.IntKind.u8 (x11 + (1 : Int)))
 else
  some ((x10, ()))
mutual
def ref22_Steps_i4 : Nat → Int → List Y2 → List Y10 → Bool → List Y2 → Int → Int → Int → Bool → Int → List Y10 → Int → Option (List Y10 × Unit)
 | 0, _, _, _, _, _, _, _, _, _, _, _, _ => none
 | n + 1, x0, x1, x2, x3, x4, x5, x6, x7, x8, x9, x10, x11 => ref22_Steps_c4 (ref22_Steps_i4 n) x0 x1 x2 x3 x4 x5 x6 x7 x8 x9 x10 x11
end
def ref22_Steps (a0 : Int × List Y2 × List Y10 × Bool × List Y2 × Int × Int × Int × Bool × Int × Unit) : Option (List Y10 × Unit) := ref22_Steps_c (ref22_Steps_i4 fuel) a0
def ref08_Twin (a0 : Int × List Y2 × List Y10 × Bool × List Y2 × Int × Int × Int × Bool × Int × Unit) : Option ((Int × List Y2 × List Y10 × Bool × List Y2 × Int × Int × Int × Bool × Int × Unit) × Unit) :=
 bif bigOk ((0 : Nat) + List.length a0.2.1) (40 : Nat) then
  bif bigOk ((0 : Nat) + List.length a0.2.2.2.2.1) (40 : Nat) then
   bif bigOk ((0 : Nat) + List.length a0.2.2.1) (8 : Nat) then
    some ((a0, ()))
   else
    none
  else
   none
 else
  none
def ref22_Of (a0 : Int × List Y2 × List Y10 × Bool × List Y2 × Int × Int × Int × Bool × Int × Unit) : Option ((List Y10 × Int × List Y2 × List Y10 × Bool × List Y2 × Int × Int × Int × Bool × Int × Unit) × Int × Unit) :=
 match ref10_Check a0 with
  | none => none
  | some e0 =>
   bif e0.2.1 != (0 : Int) then
    some ((([], (0 : Int), [], [], false, [], (0 : Int), (0 : Int), (0 : Int), false, (0 : Int), ()), e0.2.1, ()))
   else
    match ref22_Steps a0 with
     | none => none
     | some e1 =>
      match ref08_Twin a0 with
       | none => none
       | some e2 =>
        some (((e1.1, e2.1), (0 : Int), ()))
abbrev ref24_Made_T3 := Int → Int → Bool → Int → Bool → Bool → Option Y12
abbrev ref24_Made_T6 := Int → Int → Bool → Int → Bool → Bool → Int → Option Y12
abbrev ref24_Made_T11 := Bool → List Y9 → List Y2 → Option Y12
abbrev ref24_Made_T13 := Int → Int → Bool → Int → Bool → Bool → Int → Int → List Y9 → List Y2 → Int → Option Y12
abbrev ref24_Made_T22 := Int → Int → Bool → Int → Bool → Bool → Int → Int → List Y9 → List Y2 → Int → Int → Int → Int → Int → Int → Option Y12
abbrev ref24_Made_T29 := Int → Int → Bool → Int → Bool → Bool → Int → Int → List Y9 → List Y2 → Int → Int → Option Y12
abbrev ref24_Made_T35 := Int → Int → Bool → Int → Bool → Bool → Int → Int → List Y9 → List Y2 → Int → Int → Option Y12
def ref24_Made_c (J3 : ref24_Made_T3) (J6 : ref24_Made_T6) (J11 : ref24_Made_T11) (J13 : ref24_Made_T13) (J22 : ref24_Made_T22) (J29 : ref24_Made_T29) (J35 : ref24_Made_T35) (a0 : List Y10 × Int × List Y2 × List Y10 × Bool × List Y2 × Int × Int × Int × Bool × Int × Unit) (a1 a2 : Int) : Option Y12 :=
 bif !a0.2.2.2.2.2.2.2.2.2.1 then
  J3 ((1 : Int)) a2 (a0.2.2.2.2.1) (Int.ofNat (List.length a0.2.2.2.1)) (a0.2.2.2.2.2.2.2.2.2.1) (a0.2.2.2.2.2.2.2.2.2.2.1 == (2 : Int))
 else
  J3 a1 a2 (a0.2.2.2.2.1) (Int.ofNat (List.length a0.2.2.2.1)) (a0.2.2.2.2.2.2.2.2.2.1) (a0.2.2.2.2.2.2.2.2.2.2.1 == (2 : Int))
def ref24_Made_c3 (J3 : ref24_Made_T3) (J6 : ref24_Made_T6) (J11 : ref24_Made_T11) (J13 : ref24_Made_T13) (J22 : ref24_Made_T22) (J29 : ref24_Made_T29) (J35 : ref24_Made_T35) (x0 x1 : Int) (x2 : Bool) (x3 : Int) (x4 x5 : Bool) : Option Y12 :=
 bif x4 then
  J6 x0 x1 x2 x3 x4 x5 x3
 else
  J6 x0 x1 x2 x3 x4 x5 ((0 : Int))
def ref24_Made_c6 (J3 : ref24_Made_T3) (J6 : ref24_Made_T6) (J11 : ref24_Made_T11) (J13 : ref24_Made_T13) (J22 : ref24_Made_T22) (J29 : ref24_Made_T29) (J35 : ref24_Made_T35) (x0 x1 : Int) (x2 : Bool) (x3 : Int) (x4 x5 : Bool) (x6 : Int) : Option Y12 :=
 J13 x0 x1 x2 x3 x4 x5 (Go.IntKind.wrap Go.IntKind.i64 (Go.IntKind.wrap Go.IntKind.i64 ((2 : Int) * x3) + x6)) (Go.IntKind.wrap Go.IntKind.i64 (Go.IntKind.wrap Go.IntKind.i64 (Go.IntKind.wrap Go.IntKind.i64 ((2 : Int) * x3) + x6) + x0)) ([]) ([]) ((0 : Int))
def ref24_Made_c11 (J3 : ref24_Made_T3) (J6 : ref24_Made_T6) (J11 : ref24_Made_T11) (J13 : ref24_Made_T13) (J22 : ref24_Made_T22) (J29 : ref24_Made_T29) (J35 : ref24_Made_T35) (x0 : Bool) (x1 : List Y9) (x2 : List Y2) : Option Y12 :=
 bif x0 then
  bif bigOk (List.length x1 + (1 : Nat)) (16 : Nat) then
   some (((x1 ++ [((7 : Int), (0 : Int), ())], x2, ()), ()))
  else
   none
 else
  some (((x1, x2, ()), ()))
def ref24_Made_c13 (J3 : ref24_Made_T3) (J6 : ref24_Made_T6) (J11 : ref24_Made_T11) (J13 : ref24_Made_T13) (J22 : ref24_Made_T22) (J29 : ref24_Made_T29) (J35 : ref24_Made_T35) (x0 x1 : Int) (x2 : Bool) (x3 : Int) (x4 x5 : Bool) (x6 x7 : Int) (x8 : List Y9) (x9 : List Y2) (x10 : Int) : Option Y12 :=
 bif decide (x10 ≤ x7) then
  bif decide (x10 < x3) then
   bif bigOk (List.length x8 + List.length [((1 : Int), x10, ())]) (16 : Nat) then
    bif bigOk (List.length x9 + List.length [(x10, (0 : Int), Go.IntKind.wrap Go.IntKind.i64 (x3 + x10), (0 : Int), x1, ())]) (40 : Nat) then
     J13 x0 x1 x2 x3 x4 x5 x6 x7 (x8 ++ [((1 : Int), x10, ())]) (x9 ++ [(x10, (0 : Int), Go.IntKind.wrap Go.IntKind.i64 (x3 + x10), (0 : Int), x1, ())]) (Go.IntKind.wrap Go.IntKind.i64 (x10 + (1 : Int)))
    else
     none
   else
    none
  else
   bif decide (x10 < Go.IntKind.wrap Go.IntKind.i64 ((2 : Int) * x3)) then
    bif bigOk (List.length x8 + List.length [((2 : Int), Go.IntKind.wrap Go.IntKind.i64 (x10 - x3), ())]) (16 : Nat) then
     bif !x4 then
      J22 x0 x1 x2 x3 x4 x5 x6 x7 (x8 ++ [((2 : Int), Go.IntKind.wrap Go.IntKind.i64 (x10 - x3), ())]) x9 x10 x10 ((0 : Int)) x6 (Go.IntKind.wrap Go.IntKind.i64 (x10 - x3)) x1
     else
      J22 x0 x1 x2 x3 x4 x5 x6 x7 (x8 ++ [((2 : Int), Go.IntKind.wrap Go.IntKind.i64 (x10 - x3), ())]) x9 x10 x10 ((0 : Int)) (Go.IntKind.wrap Go.IntKind.i64 (x3 + x10)) ((0 : Int)) x1
    else
     none
   else
    bif decide (x10 < x6) then
     bif bigOk (List.length x8 + List.length [((3 : Int), Go.IntKind.wrap Go.IntKind.i64 (x10 - Go.IntKind.wrap Go.IntKind.i64 ((2 : Int) * x3)), ())]) (16 : Nat) then
      J29 x0 x1 x2 x3 x4 x5 x6 x7 (x8 ++ [((3 : Int), Go.IntKind.wrap Go.IntKind.i64 (x10 - Go.IntKind.wrap Go.IntKind.i64 ((2 : Int) * x3)), ())]) x9 x10 ((0 : Int))
     else
      none
    else
     bif decide (x10 < x7) then
      bif x2 then
       J35 x0 x1 x2 x3 x4 x5 x6 x7 x8 x9 x10 ((5 : Int))
      else
       J35 x0 x1 x2 x3 x4 x5 x6 x7 x8 x9 x10 ((4 : Int))
     else
      bif bigOk (List.length x8 + (1 : Nat)) (16 : Nat) then
       J13 x0 x1 x2 x3 x4 x5 x6 x7 (x8 ++ [((6 : Int), (0 : Int), ())]) x9 (Go.IntKind.wrap Go.IntKind.i64 (x10 + (1 : Int)))
      else
       none
 else
  J11 x5 x8 x9
def ref24_Made_c22 (J3 : ref24_Made_T3) (J6 : ref24_Made_T6) (J11 : ref24_Made_T11) (J13 : ref24_Made_T13) (J22 : ref24_Made_T22) (J29 : ref24_Made_T29) (J35 : ref24_Made_T35) (x0 x1 : Int) (x2 : Bool) (x3 : Int) (x4 x5 : Bool) (x6 x7 : Int) (x8 : List Y9) (x9 : List Y2) (x10 x11 x12 x13 x14 x15 : Int) : Option Y12 :=
 bif bigOk (List.length x9 + List.length [(x11, x12, x13, x14, x15, ())]) (40 : Nat) then
  bif x5 then
   bif bigOk (List.length (x9 ++ [(x11, x12, x13, x14, x15, ())]) + List.length [(x10, (1 : Int), Go.IntKind.wrap Go.IntKind.i64 (x7 + (1 : Int)), Go.IntKind.wrap Go.IntKind.i64 (x10 - x3), x1, ())]) (40 : Nat) then
    J13 x0 x1 x2 x3 x4 x5 x6 x7 x8 (x9 ++ [(x11, x12, x13, x14, x15, ())] ++ [(x10, (1 : Int), Go.IntKind.wrap Go.IntKind.i64 (x7 + (1 : Int)), Go.IntKind.wrap Go.IntKind.i64 (x10 - x3), x1, ())]) (Go.IntKind.wrap Go.IntKind.i64 (x10 + (1 : Int)))
   else
    none
  else
   J13 x0 x1 x2 x3 x4 x5 x6 x7 x8 (x9 ++ [(x11, x12, x13, x14, x15, ())]) (Go.IntKind.wrap Go.IntKind.i64 (x10 + (1 : Int)))
 else
  none
def ref24_Made_c29 (J3 : ref24_Made_T3) (J6 : ref24_Made_T6) (J11 : ref24_Made_T11) (J13 : ref24_Made_T13) (J22 : ref24_Made_T22) (J29 : ref24_Made_T29) (J35 : ref24_Made_T35) (x0 x1 : Int) (x2 : Bool) (x3 : Int) (x4 x5 : Bool) (x6 x7 : Int) (x8 : List Y9) (x9 : List Y2) (x10 x11 : Int) : Option Y12 :=
 bif decide (x11 < x0) then
  bif bigOk (List.length x9 + List.length [(x10, x11, Go.IntKind.wrap Go.IntKind.i64 (x6 + x11), Go.IntKind.wrap Go.IntKind.i64 (x10 - Go.IntKind.wrap Go.IntKind.i64 ((2 : Int) * x3)), x1, ())]) (40 : Nat) then
   J29 x0 x1 x2 x3 x4 x5 x6 x7 x8 (x9 ++ [(x10, x11, Go.IntKind.wrap Go.IntKind.i64 (x6 + x11), Go.IntKind.wrap Go.IntKind.i64 (x10 - Go.IntKind.wrap Go.IntKind.i64 ((2 : Int) * x3)), x1, ())]) x10 (Go.IntKind.wrap Go.IntKind.i64 (x11 + (1 : Int)))
  else
   none
 else
  J13 x0 x1 x2 x3 x4 x5 x6 x7 x8 x9 (Go.IntKind.wrap Go.IntKind.i64 (x10 + (1 : Int)))
def ref24_Made_c35 (J3 : ref24_Made_T3) (J6 : ref24_Made_T6) (J11 : ref24_Made_T11) (J13 : ref24_Made_T13) (J22 : ref24_Made_T22) (J29 : ref24_Made_T29) (J35 : ref24_Made_T35) (x0 x1 : Int) (x2 : Bool) (x3 : Int) (x4 x5 : Bool) (x6 x7 : Int) (x8 : List Y9) (x9 : List Y2) (x10 x11 : Int) : Option Y12 :=
 bif bigOk (List.length x8 + List.length [(x11, Go.IntKind.wrap Go.IntKind.i64 (x10 - x6), ())]) (16 : Nat) then
  bif bigOk (List.length x9 + List.length [(x10, (0 : Int), x7, Go.IntKind.wrap Go.IntKind.i64 (x10 - x6), x1, ())]) (40 : Nat) then
   J13 x0 x1 x2 x3 x4 x5 x6 x7 (x8 ++ [(x11, Go.IntKind.wrap Go.IntKind.i64 (x10 - x6), ())]) (x9 ++ [(x10, (0 : Int), x7, Go.IntKind.wrap Go.IntKind.i64 (x10 - x6), x1, ())]) (Go.IntKind.wrap Go.IntKind.i64 (x10 + (1 : Int)))
  else
   none
 else
  none
mutual
def ref24_Made_i3 : Nat → Int → Int → Bool → Int → Bool → Bool → Option Y12
 | 0, _, _, _, _, _, _ => none
 | n + 1, x0, x1, x2, x3, x4, x5 => ref24_Made_c3 (ref24_Made_i3 n) (ref24_Made_i6 n) (ref24_Made_i11 n) (ref24_Made_i13 n) (ref24_Made_i22 n) (ref24_Made_i29 n) (ref24_Made_i35 n) x0 x1 x2 x3 x4 x5
def ref24_Made_i6 : Nat → Int → Int → Bool → Int → Bool → Bool → Int → Option Y12
 | 0, _, _, _, _, _, _, _ => none
 | n + 1, x0, x1, x2, x3, x4, x5, x6 => ref24_Made_c6 (ref24_Made_i3 n) (ref24_Made_i6 n) (ref24_Made_i11 n) (ref24_Made_i13 n) (ref24_Made_i22 n) (ref24_Made_i29 n) (ref24_Made_i35 n) x0 x1 x2 x3 x4 x5 x6
def ref24_Made_i11 : Nat → Bool → List Y9 → List Y2 → Option Y12
 | 0, _, _, _ => none
 | n + 1, x0, x1, x2 => ref24_Made_c11 (ref24_Made_i3 n) (ref24_Made_i6 n) (ref24_Made_i11 n) (ref24_Made_i13 n) (ref24_Made_i22 n) (ref24_Made_i29 n) (ref24_Made_i35 n) x0 x1 x2
def ref24_Made_i13 : Nat → Int → Int → Bool → Int → Bool → Bool → Int → Int → List Y9 → List Y2 → Int → Option Y12
 | 0, _, _, _, _, _, _, _, _, _, _, _ => none
 | n + 1, x0, x1, x2, x3, x4, x5, x6, x7, x8, x9, x10 => ref24_Made_c13 (ref24_Made_i3 n) (ref24_Made_i6 n) (ref24_Made_i11 n) (ref24_Made_i13 n) (ref24_Made_i22 n) (ref24_Made_i29 n) (ref24_Made_i35 n) x0 x1 x2 x3 x4 x5 x6 x7 x8 x9 x10
def ref24_Made_i22 : Nat → Int → Int → Bool → Int → Bool → Bool → Int → Int → List Y9 → List Y2 → Int → Int → Int → Int → Int → Int → Option Y12
 | 0, _, _, _, _, _, _, _, _, _, _, _, _, _, _, _, _ => none
 | n + 1, x0, x1, x2, x3, x4, x5, x6, x7, x8, x9, x10, x11, x12, x13, x14, x15 => ref24_Made_c22 (ref24_Made_i3 n) (ref24_Made_i6 n) (ref24_Made_i11 n) (ref24_Made_i13 n) (ref24_Made_i22 n) (ref24_Made_i29 n) (ref24_Made_i35 n) x0 x1 x2 x3 x4 x5 x6 x7 x8 x9 x10 x11 x12 x13 x14 x15
def ref24_Made_i29 : Nat → Int → Int → Bool → Int → Bool → Bool → Int → Int → List Y9 → List Y2 → Int → Int → Option Y12
 | 0, _, _, _, _, _, _, _, _, _, _, _, _ => none
 | n + 1, x0, x1, x2, x3, x4, x5, x6, x7, x8, x9, x10, x11 => ref24_Made_c29 (ref24_Made_i3 n) (ref24_Made_i6 n) (ref24_Made_i11 n) (ref24_Made_i13 n) (ref24_Made_i22 n) (ref24_Made_i29 n) (ref24_Made_i35 n) x0 x1 x2 x3 x4 x5 x6 x7 x8 x9 x10 x11
def ref24_Made_i35 : Nat → Int → Int → Bool → Int → Bool → Bool → Int → Int → List Y9 → List Y2 → Int → Int → Option Y12
 | 0, _, _, _, _, _, _, _, _, _, _, _, _ => none
 | n + 1, x0, x1, x2, x3, x4, x5, x6, x7, x8, x9, x10, x11 => ref24_Made_c35 (ref24_Made_i3 n) (ref24_Made_i6 n) (ref24_Made_i11 n) (ref24_Made_i13 n) (ref24_Made_i22 n) (ref24_Made_i29 n) (ref24_Made_i35 n) x0 x1 x2 x3 x4 x5 x6 x7 x8 x9 x10 x11
end
def ref24_Made (a0 : List Y10 × Int × List Y2 × List Y10 × Bool × List Y2 × Int × Int × Int × Bool × Int × Unit) (a1 a2 : Int) : Option Y12 := ref24_Made_c (ref24_Made_i3 fuel) (ref24_Made_i6 fuel) (ref24_Made_i11 fuel) (ref24_Made_i13 fuel) (ref24_Made_i22 fuel) (ref24_Made_i29 fuel) (ref24_Made_i35 fuel) a0 a1 a2
def ref25_Mark (a0 : Int) : Option Y11 :=
 bif decide (a0 ≥ (-1099511627776 : Int)) then
  bif decide (a0 ≤ (1099511627776 : Int)) then
   some ((true, ()))
  else
   some ((a0 == (9223372036854775807 : Int), ()))
 else
  some ((a0 == (9223372036854775807 : Int), ()))
def ref25_Right (a0 : Int × Int × Int × Unit) : Option Y11 :=
 bif decide (a0.2.1 ≥ (-1099511627776 : Int)) then
  some ((decide (a0.2.1 ≤ (1099511627776 : Int)), ()))
 else
  some ((false, ()))
def ref25_Event (a0 : Bool × Int × Int × Int × Int × Unit) : Option Y10 :=
 bif a0.1 then
  match ref25_Mark a0.2.1 with
   | none => none
   | some e0 =>
    bif e0.1 then
     bif a0.2.2.1 == (0 : Int) && (a0.2.2.2.1 == (0 : Int) && (a0.2.2.2.2.1 == (0 : Int) && true)) then
      some (((0 : Int), ()))
     else
      bif !a0.1 then
       bif a0.2.1 == (0 : Int) then
        match ref25_Right a0.2.2 with
         | none => none
         | some e1 =>
          bif e1.1 then
           some (((0 : Int), ()))
          else
           some (((8 : Int), ()))
       else
        some (((8 : Int), ()))
      else
       some (((8 : Int), ()))
    else
     bif !a0.1 then
      bif a0.2.1 == (0 : Int) then
       match ref25_Right a0.2.2 with
        | none => none
        | some e1 =>
         bif e1.1 then
          some (((0 : Int), ()))
         else
          some (((8 : Int), ()))
      else
       some (((8 : Int), ()))
     else
      some (((8 : Int), ()))
 else
  bif !a0.1 then
   bif a0.2.1 == (0 : Int) then
    match ref25_Right a0.2.2 with
     | none => none
     | some e0 =>
      bif e0.1 then
       some (((0 : Int), ()))
      else
       some (((8 : Int), ()))
   else
    some (((8 : Int), ()))
  else
   some (((8 : Int), ()))
abbrev ref28_New_T9 := Int → List Y6 → Int → Option (Y1 × Int × Unit)
def ref28_New_c (J9 : ref28_New_T9) (a0 : Int) (a1 : List Y6) : Option (Y1 × Int × Unit) :=
 bif decide (a0 < (0 : Int)) then
  some ((((0 : Int), (0 : Int), (0 : Int), [], [], [], [], [], [], ()), (2 : Int), ()))
 else
  bif decide (a0 ≥ (4 : Int)) then
   some ((((0 : Int), (0 : Int), (0 : Int), [], [], [], [], [], [], ()), (2 : Int), ()))
  else
   bif decide (Int.ofNat (List.length a1) > (60 : Int)) then
    some ((((0 : Int), (0 : Int), (0 : Int), [], [], [], [], [], [], ()), (4 : Int), ()))
   else
    J9 a0 a1 ((0 : Int))
def ref28_New_c9 (J9 : ref28_New_T9) (x0 : Int) (x1 : List Y6) (x2 : Int) : Option (Y1 × Int × Unit) :=
 bif decide (x2 < Int.ofNat (List.length x1)) then
  bif decide ((0 : Int) ≤ x2) then
   match x1[Int.toNat x2]? with
    | none => none
    | some e0 =>
     match ref25_Event e0 with
      | none => none
      | some e1 =>
       bif e1.1 != (0 : Int) then
        some ((((0 : Int), (0 : Int), (0 : Int), [], [], [], [], [], [], ()), (8 : Int), ()))
       else
        J9 x0 x1 (Go.IntKind.wrap Go.IntKind.i64 (x2 + (1 : Int)))
  else
   none
 else
  bif bigOk ((0 : Nat) + List.length x1) (40 : Nat) then
   some ((((1 : Int), x0, (0 : Int), [], [], [], x1, [], [], ()), (0 : Int), ()))
  else
   none
mutual
def ref28_New_i9 : Nat → Int → List Y6 → Int → Option (Y1 × Int × Unit)
 | 0, _, _, _ => none
 | n + 1, x0, x1, x2 => ref28_New_c9 (ref28_New_i9 n) x0 x1 x2
end
def ref28_New (a0 : Int) (a1 : List Y6) : Option (Y1 × Int × Unit) := ref28_New_c (ref28_New_i9 fuel) a0 a1
def ref29_New (a0 : Int) : Option (Y1 × Int × Unit) :=
 bif decide (a0 < (0 : Int)) then
  some ((((0 : Int), (0 : Int), (0 : Int), [], [], [], [], [], [], ()), (2 : Int), ()))
 else
  bif decide (a0 ≥ (4 : Int)) then
   some ((((0 : Int), (0 : Int), (0 : Int), [], [], [], [], [], [], ()), (2 : Int), ()))
  else
   some ((((2 : Int), a0, (0 : Int), [], [((-9223372036854775808 : Int), ())], [], [], [], [], ()), (0 : Int), ()))
def ref30_New (a0 : Int) : Option (Y1 × Int × Unit) :=
 bif decide (a0 < (0 : Int)) then
  some ((((0 : Int), (0 : Int), (0 : Int), [], [], [], [], [], [], ()), (2 : Int), ()))
 else
  bif decide (a0 ≥ (4 : Int)) then
   some ((((0 : Int), (0 : Int), (0 : Int), [], [], [], [], [], [], ()), (2 : Int), ()))
  else
   some ((((3 : Int), a0, (0 : Int), [], [], [], [], [], [], ()), (0 : Int), ()))
abbrev ref31_New_T7 := Int → List Y10 → Int → Option (List Y10 × Int × Unit)
def ref31_New_c (J7 : ref31_New_T7) (a0 : Int) : Option (List Y10 × Int × Unit) :=
 bif decide (a0 < (1 : Int)) then
  some (([], (2 : Int), ()))
 else
  bif decide (a0 > (4 : Int)) then
   some (([], (2 : Int), ()))
  else
   J7 a0 ([]) ((0 : Int))
def ref31_New_c7 (J7 : ref31_New_T7) (x0 : Int) (x1 : List Y10) (x2 : Int) : Option (List Y10 × Int × Unit) :=
 bif decide (x2 < x0) then
  bif bigOk (List.length x1 + (1 : Nat)) (8 : Nat) then
   J7 x0 (x1 ++ [((-9223372036854775808 : Int), ())]) (Go.IntKind.wrap Go.IntKind.i64 (x2 + (1 : Int)))
  else
   none
 else
  some ((x1, (0 : Int), ()))
mutual
def ref31_New_i7 : Nat → Int → List Y10 → Int → Option (List Y10 × Int × Unit)
 | 0, _, _, _ => none
 | n + 1, x0, x1, x2 => ref31_New_c7 (ref31_New_i7 n) x0 x1 x2
end
def ref31_New (a0 : Int) : Option (List Y10 × Int × Unit) := ref31_New_c (ref31_New_i7 fuel) a0
def ref32_New (a0 a1 : Int) : Option (Y1 × Int × Unit) :=
 bif decide (a0 < (0 : Int)) then
  some ((((0 : Int), (0 : Int), (0 : Int), [], [], [], [], [], [], ()), (2 : Int), ()))
 else
  bif decide (a0 ≥ (3 : Int)) then
   some ((((0 : Int), (0 : Int), (0 : Int), [], [], [], [], [], [], ()), (2 : Int), ()))
  else
   bif decide (a1 < (1 : Int)) then
    some ((((0 : Int), (0 : Int), (0 : Int), [], [], [], [], [], [], ()), (2 : Int), ()))
   else
    bif decide (a1 > (4 : Int)) then
     some ((((0 : Int), (0 : Int), (0 : Int), [], [], [], [], [], [], ()), (2 : Int), ()))
    else
     match ref31_New a1 with
      | none => none
      | some e0 =>
       some ((((4 : Int), a0, (0 : Int), [], e0.1, [], [], [], [], ()), (0 : Int), ()))
def ref33_New (a0 : Int) : Option (Y1 × Int × Unit) :=
 bif decide (a0 < (0 : Int)) then
  some ((((0 : Int), (0 : Int), (0 : Int), [], [], [], [], [], [], ()), (2 : Int), ()))
 else
  bif decide (a0 ≥ (3 : Int)) then
   some ((((0 : Int), (0 : Int), (0 : Int), [], [], [], [], [], [], ()), (2 : Int), ()))
  else
   some ((((5 : Int), a0, (0 : Int), [], [] ++ [((-9223372036854775808 : Int), ())] ++ [((-9223372036854775808 : Int), ())], [], [], [], [], ()), (0 : Int), ()))
def ref34_New (a0 : Bool) : Option (Y1 × Unit) :=
 bif a0 then
  some ((((7 : Int), (0 : Int), (0 : Int), [], [], [], [], [], [], ()), ()))
 else
  some ((((6 : Int), (0 : Int), (0 : Int), [], [], [], [], [], [], ()), ()))
def ref36_fresh (a0 : Int × List Y2 × List Y10 × Bool × List Y2 × Int × Int × Int × Bool × Int × Unit) (a1 : List (List Y6 × Unit)) (a2 : Int × Int × Unit) : Option (Y1 × Unit) :=
 bif a2.1 == (1 : Int) then
  bif decide ((0 : Int) ≤ a2.2.1) then
   match a1[Int.toNat a2.2.1]? with
    | none => none
    | some e0 =>
     match ref28_New a2.2.1 e0.1 with
      | none => none
      | some e1 =>
       some ((e1.1, ()))
  else
   none
 else
  bif a2.1 == (2 : Int) then
   match ref29_New a2.2.1 with
    | none => none
    | some e0 =>
     some ((e0.1, ()))
  else
   bif a2.1 == (3 : Int) then
    match ref30_New a2.2.1 with
     | none => none
     | some e0 =>
      some ((e0.1, ()))
   else
    bif a2.1 == (4 : Int) then
     match ref32_New a2.2.1 (Int.ofNat (List.length a0.2.2.1)) with
      | none => none
      | some e0 =>
       some ((e0.1, ()))
    else
     bif a2.1 == (5 : Int) then
      match ref33_New a2.2.1 with
       | none => none
       | some e0 =>
        some ((e0.1, ()))
     else
      match ref34_New (a2.1 == (7 : Int)) with
       | none => none
       | some e0 =>
        some ((e0.1, ()))
def ref26_New (a0 : Int) : Option (Y13 × Int × Unit) :=
 bif decide (a0 < (1 : Int)) then
  some ((((0 : Int), [], ()), (2 : Int), ()))
 else
  bif decide (a0 > (8 : Int)) then
   some ((((0 : Int), [], ()), (2 : Int), ()))
  else
   some (((a0, [], ()), (0 : Int), ()))
abbrev ref36_Made_T4 := Int → List Y2 → List Y10 → Bool → List Y2 → Int → Int → Int → Bool → Int → List Y9 → List Y2 → List Y1 → Option (Y7 × Unit)
abbrev ref36_Made_T6 := List (List Y6 × Unit) → Int → List Y2 → List Y10 → Bool → List Y2 → Int → Int → Int → Bool → Int → Int → List Y2 → List Y10 → Bool → List Y2 → Int → Int → Int → Bool → Int → List Y9 → List Y2 → List Y1 → Int → Option (Y7 × Unit)
abbrev ref36_Made_T12 := Int → List Y2 → List Y10 → Bool → List Y2 → Int → Int → Int → Bool → Int → List Y9 → List Y2 → List Y1 → List Y13 → Int → Option (Y7 × Unit)
def ref36_Made_c (J4 : ref36_Made_T4) (J6 : ref36_Made_T6) (J12 : ref36_Made_T12) (a0 : Int × List Y2 × List Y10 × Bool × List Y2 × Int × Int × Int × Bool × Int × Unit) (a1 : List (List Y6 × Unit)) (a2 a3 : Int) : Option (Y7 × Unit) :=
 match ref22_Of a0 with
  | none => none
  | some e0 =>
   match ref08_Twin a0 with
    | none => none
    | some e1 =>
     match ref24_Made e0.1 a2 a3 with
      | none => none
      | some e2 =>
       J6 a1 (a0.1) (a0.2.1) (a0.2.2.1) (a0.2.2.2.1) (a0.2.2.2.2.1) (a0.2.2.2.2.2.1) (a0.2.2.2.2.2.2.1) (a0.2.2.2.2.2.2.2.1) (a0.2.2.2.2.2.2.2.2.1) (a0.2.2.2.2.2.2.2.2.2.1) (e1.1.1) (e1.1.2.1) (e1.1.2.2.1) (e1.1.2.2.2.1) (e1.1.2.2.2.2.1) (e1.1.2.2.2.2.2.1) (e1.1.2.2.2.2.2.2.1) (e1.1.2.2.2.2.2.2.2.1) (e1.1.2.2.2.2.2.2.2.2.1) (e1.1.2.2.2.2.2.2.2.2.2.1) (e2.1.1) (e2.1.2.1) ([]) ((0 : Int))
def ref36_Made_c4 (J4 : ref36_Made_T4) (J6 : ref36_Made_T6) (J12 : ref36_Made_T12) (x0 : Int) (x1 : List Y2) (x2 : List Y10) (x3 : Bool) (x4 : List Y2) (x5 x6 x7 : Int) (x8 : Bool) (x9 : Int) (x10 : List Y9) (x11 : List Y2) (x12 : List Y1) : Option (Y7 × Unit) :=
 J12 x0 x1 x2 x3 x4 x5 x6 x7 x8 x9 x10 x11 x12 ([]) ((0 : Int))
def ref36_Made_c6 (J4 : ref36_Made_T4) (J6 : ref36_Made_T6) (J12 : ref36_Made_T12) (x0 : List (List Y6 × Unit)) (x1 : Int) (x2 : List Y2) (x3 : List Y10) (x4 : Bool) (x5 : List Y2) (x6 x7 x8 : Int) (x9 : Bool) (x10 x11 : Int) (x12 : List Y2) (x13 : List Y10) (x14 : Bool) (x15 : List Y2) (x16 x17 x18 : Int) (x19 : Bool) (x20 : Int) (x21 : List Y9) (x22 : List Y2) (x23 : List Y1) (x24 : Int) : Option (Y7 × Unit) :=
 bif decide (x24 < Int.ofNat (List.length x21)) then
  bif decide ((0 : Int) ≤ x24) then
   match x21[Int.toNat x24]? with
    | none => none
    | some e0 =>
     match ref36_fresh (x1, x2, x3, x4, x5, x6, x7, x8, x9, x10, ()) x0 e0 with
      | none => none
      | some e1 =>
       bif bigOk (List.length x23 + List.length [e1.1]) (168 : Nat) then
        J6 x0 x1 x2 x3 x4 x5 x6 x7 x8 x9 x10 x11 x12 x13 x14 x15 x16 x17 x18 x19 x20 x21 x22 (x23 ++ [e1.1]) (Go.IntKind.wrap Go.IntKind.i64 (x24 + (1 : Int)))
       else
        none
  else
   none
 else
  J4 x11 x12 x13 x14 x15 x16 x17 x18 x19 x20 x21 x22 x23
def ref36_Made_c12 (J4 : ref36_Made_T4) (J6 : ref36_Made_T6) (J12 : ref36_Made_T12) (x0 : Int) (x1 : List Y2) (x2 : List Y10) (x3 : Bool) (x4 : List Y2) (x5 x6 x7 : Int) (x8 : Bool) (x9 : Int) (x10 : List Y9) (x11 : List Y2) (x12 : List Y1) (x13 : List Y13) (x14 : Int) : Option (Y7 × Unit) :=
 bif decide (x14 < Int.ofNat (List.length x11)) then
  bif decide ((0 : Int) ≤ x14) then
   match x11[Int.toNat x14]? with
    | none => none
    | some e0 =>
     match ref26_New e0.2.2.2.2.1 with
      | none => none
      | some e1 =>
       bif bigOk (List.length x13 + List.length [e1.1]) (32 : Nat) then
        J12 x0 x1 x2 x3 x4 x5 x6 x7 x8 x9 x10 x11 x12 (x13 ++ [e1.1]) (Go.IntKind.wrap Go.IntKind.i64 (x14 + (1 : Int)))
       else
        none
  else
   none
 else
  some (((x0, x1, x2, x3, x4, x5, x6, x7, x8, x9, x10, x11, x12, x13, ()), ()))
mutual
def ref36_Made_i4 : Nat → Int → List Y2 → List Y10 → Bool → List Y2 → Int → Int → Int → Bool → Int → List Y9 → List Y2 → List Y1 → Option (Y7 × Unit)
 | 0, _, _, _, _, _, _, _, _, _, _, _, _, _ => none
 | n + 1, x0, x1, x2, x3, x4, x5, x6, x7, x8, x9, x10, x11, x12 => ref36_Made_c4 (ref36_Made_i4 n) (ref36_Made_i6 n) (ref36_Made_i12 n) x0 x1 x2 x3 x4 x5 x6 x7 x8 x9 x10 x11 x12
def ref36_Made_i6 : Nat → List (List Y6 × Unit) → Int → List Y2 → List Y10 → Bool → List Y2 → Int → Int → Int → Bool → Int → Int → List Y2 → List Y10 → Bool → List Y2 → Int → Int → Int → Bool → Int → List Y9 → List Y2 → List Y1 → Int → Option (Y7 × Unit)
 | 0, _, _, _, _, _, _, _, _, _, _, _, _, _, _, _, _, _, _, _, _, _, _, _, _, _ => none
 | n + 1, x0, x1, x2, x3, x4, x5, x6, x7, x8, x9, x10, x11, x12, x13, x14, x15, x16, x17, x18, x19, x20, x21, x22, x23, x24 => ref36_Made_c6 (ref36_Made_i4 n) (ref36_Made_i6 n) (ref36_Made_i12 n) x0 x1 x2 x3 x4 x5 x6 x7 x8 x9 x10 x11 x12 x13 x14 x15 x16 x17 x18 x19 x20 x21 x22 x23 x24
def ref36_Made_i12 : Nat → Int → List Y2 → List Y10 → Bool → List Y2 → Int → Int → Int → Bool → Int → List Y9 → List Y2 → List Y1 → List Y13 → Int → Option (Y7 × Unit)
 | 0, _, _, _, _, _, _, _, _, _, _, _, _, _, _, _ => none
 | n + 1, x0, x1, x2, x3, x4, x5, x6, x7, x8, x9, x10, x11, x12, x13, x14 => ref36_Made_c12 (ref36_Made_i4 n) (ref36_Made_i6 n) (ref36_Made_i12 n) x0 x1 x2 x3 x4 x5 x6 x7 x8 x9 x10 x11 x12 x13 x14
end
def ref36_Made (a0 : Int × List Y2 × List Y10 × Bool × List Y2 × Int × Int × Int × Bool × Int × Unit) (a1 : List (List Y6 × Unit)) (a2 a3 : Int) : Option (Y7 × Unit) := ref36_Made_c (ref36_Made_i4 fuel) (ref36_Made_i6 fuel) (ref36_Made_i12 fuel) a0 a1 a2 a3
def ref36_Build (a0 : Int × List Y2 × List Y10 × Bool × List Y2 × Int × Int × Int × Bool × Int × Unit) (a1 : List (List Y6 × Unit)) (a2 a3 : Int) : Option (Y7 × Int × Unit) :=
 match ref36_Asked a0 a1 a2 a3 with
  | none => none
  | some e0 =>
   bif e0.1 != (0 : Int) then
    some ((((0 : Int), [], [], false, [], (0 : Int), (0 : Int), (0 : Int), false, (0 : Int), [], [], [], [], ()), e0.1, ()))
   else
    match ref36_Made a0 a1 a2 a3 with
     | none => none
     | some e1 =>
      some ((e1.1, (0 : Int), ()))
abbrev ref04_Alike_T6 := List Y2 → List Y2 → Int → Option Y11
def ref04_Alike_c (J6 : ref04_Alike_T6) (a0 a1 : List Y2) : Option Y11 :=
 bif Int.ofNat (List.length a0) != Int.ofNat (List.length a1) then
  some ((false, ()))
 else
  J6 a0 a1 ((0 : Int))
def ref04_Alike_c6 (J6 : ref04_Alike_T6) (x0 x1 : List Y2) (x2 : Int) : Option Y11 :=
 bif decide (x2 < Int.ofNat (List.length x0)) then
  bif decide ((0 : Int) ≤ x2) then
   match x0[Int.toNat x2]? with
    | none => none
    | some e0 =>
     bif decide ((0 : Int) ≤ x2) then
      match x1[Int.toNat x2]? with
       | none => none
       | some e1 =>
        bif !(e0.1 == e1.1 && (e0.2.1 == e1.2.1 && (e0.2.2.1 == e1.2.2.1 && (e0.2.2.2.1 == e1.2.2.2.1 && true)))) then
         some ((false, ()))
        else
         J6 x0 x1 (Go.IntKind.wrap Go.IntKind.i64 (x2 + (1 : Int)))
     else
      none
  else
   none
 else
  some ((true, ()))
mutual
def ref04_Alike_i6 : Nat → List Y2 → List Y2 → Int → Option Y11
 | 0, _, _, _ => none
 | n + 1, x0, x1, x2 => ref04_Alike_c6 (ref04_Alike_i6 n) x0 x1 x2
end
def ref04_Alike (a0 a1 : List Y2) : Option Y11 := ref04_Alike_c (ref04_Alike_i6 fuel) a0 a1
abbrev ref08_SameSources_T6 := List Y10 → List Y10 → Int → Option Y11
def ref08_SameSources_c (J6 : ref08_SameSources_T6) (a0 a1 : List Y10) : Option Y11 :=
 bif Int.ofNat (List.length a0) != Int.ofNat (List.length a1) then
  some ((false, ()))
 else
  J6 a0 a1 ((0 : Int))
def ref08_SameSources_c6 (J6 : ref08_SameSources_T6) (x0 x1 : List Y10) (x2 : Int) : Option Y11 :=
 bif decide (x2 < Int.ofNat (List.length x0)) then
  bif decide ((0 : Int) ≤ x2) then
   match x0[Int.toNat x2]? with
    | none => none
    | some e0 =>
     bif decide ((0 : Int) ≤ x2) then
      match x1[Int.toNat x2]? with
       | none => none
       | some e1 =>
        bif e0.1 != e1.1 then
         some ((false, ()))
        else
         J6 x0 x1 (Go.IntKind.wrap Go.IntKind.i64 (x2 + (1 : Int)))
     else
      none
  else
   none
 else
  some ((true, ()))
mutual
def ref08_SameSources_i6 : Nat → List Y10 → List Y10 → Int → Option Y11
 | 0, _, _, _ => none
 | n + 1, x0, x1, x2 => ref08_SameSources_c6 (ref08_SameSources_i6 n) x0 x1 x2
end
def ref08_SameSources (a0 a1 : List Y10) : Option Y11 := ref08_SameSources_c (ref08_SameSources_i6 fuel) a0 a1
def ref08_Alike (a0 a1 : Int × List Y2 × List Y10 × Bool × List Y2 × Int × Int × Int × Bool × Int × Unit) : Option Y11 :=
 bif a0.1 == a1.1 then
  match ref04_Alike a0.2.1 a1.2.1 with
   | none => none
   | some e0 =>
    bif e0.1 then
     match ref08_SameSources a0.2.2.1 a1.2.2.1 with
      | none => none
      | some e1 =>
       bif e1.1 then
        bif a0.2.2.2.1 == a1.2.2.2.1 then
         match ref04_Alike a0.2.2.2.2.1 a1.2.2.2.2.1 with
          | none => none
          | some e2 =>
           bif e2.1 then
            bif a0.2.2.2.2.2.1 == a1.2.2.2.2.2.1 && (a0.2.2.2.2.2.2.1 == a1.2.2.2.2.2.2.1 && (a0.2.2.2.2.2.2.2.1 == a1.2.2.2.2.2.2.2.1 && true)) then
             bif a0.2.2.2.2.2.2.2.2.1 == a1.2.2.2.2.2.2.2.2.1 then
              some ((a0.2.2.2.2.2.2.2.2.2.1 == a1.2.2.2.2.2.2.2.2.2.1, ()))
             else
              some ((false, ()))
            else
             some ((false, ()))
           else
            some ((false, ()))
        else
         some ((false, ()))
       else
        some ((false, ()))
    else
     some ((false, ()))
 else
  some ((false, ()))
abbrev ref24_Same_T4 := List Y2 → List Y2 → Option Y11
abbrev ref24_Same_T6 := List Y9 → List Y2 → List Y9 → List Y2 → Int → Option Y11
abbrev ref24_Same_T14 := List Y2 → List Y2 → Int → Option Y11
def ref24_Same_c (J4 : ref24_Same_T4) (J6 : ref24_Same_T6) (J14 : ref24_Same_T14) (a0 a1 : List Y9 × List Y2 × Unit) : Option Y11 :=
 bif Int.ofNat (List.length a0.1) != Int.ofNat (List.length a1.1) then
  some ((false, ()))
 else
  bif Int.ofNat (List.length a0.2.1) != Int.ofNat (List.length a1.2.1) then
   some ((false, ()))
  else
   J6 (a0.1) (a0.2.1) (a1.1) (a1.2.1) ((0 : Int))
def ref24_Same_c4 (J4 : ref24_Same_T4) (J6 : ref24_Same_T6) (J14 : ref24_Same_T14) (x0 x1 : List Y2) : Option Y11 :=
 J14 x0 x1 ((0 : Int))
def ref24_Same_c6 (J4 : ref24_Same_T4) (J6 : ref24_Same_T6) (J14 : ref24_Same_T14) (x0 : List Y9) (x1 : List Y2) (x2 : List Y9) (x3 : List Y2) (x4 : Int) : Option Y11 :=
 bif decide (x4 < Int.ofNat (List.length x0)) then
  bif decide ((0 : Int) ≤ x4) then
   match x0[Int.toNat x4]? with
    | none => none
    | some e0 =>
     bif decide ((0 : Int) ≤ x4) then
      match x2[Int.toNat x4]? with
       | none => none
       | some e1 =>
        bif !(e0.1 == e1.1 && (e0.2.1 == e1.2.1 && true)) then
         some ((false, ()))
        else
         J6 x0 x1 x2 x3 (Go.IntKind.wrap Go.IntKind.i64 (x4 + (1 : Int)))
     else
      none
  else
   none
 else
  J4 x1 x3
def ref24_Same_c14 (J4 : ref24_Same_T4) (J6 : ref24_Same_T6) (J14 : ref24_Same_T14) (x0 x1 : List Y2) (x2 : Int) : Option Y11 :=
 bif decide (x2 < Int.ofNat (List.length x0)) then
  bif decide ((0 : Int) ≤ x2) then
   match x0[Int.toNat x2]? with
    | none => none
    | some e0 =>
     bif decide ((0 : Int) ≤ x2) then
      match x1[Int.toNat x2]? with
       | none => none
       | some e1 =>
        bif !(e0.1 == e1.1 && (e0.2.1 == e1.2.1 && (e0.2.2.1 == e1.2.2.1 && (e0.2.2.2.1 == e1.2.2.2.1 && (e0.2.2.2.2.1 == e1.2.2.2.2.1 && true))))) then
         some ((false, ()))
        else
         J14 x0 x1 (Go.IntKind.wrap Go.IntKind.i64 (x2 + (1 : Int)))
     else
      none
  else
   none
 else
  some ((true, ()))
mutual
def ref24_Same_i4 : Nat → List Y2 → List Y2 → Option Y11
 | 0, _, _ => none
 | n + 1, x0, x1 => ref24_Same_c4 (ref24_Same_i4 n) (ref24_Same_i6 n) (ref24_Same_i14 n) x0 x1
def ref24_Same_i6 : Nat → List Y9 → List Y2 → List Y9 → List Y2 → Int → Option Y11
 | 0, _, _, _, _, _ => none
 | n + 1, x0, x1, x2, x3, x4 => ref24_Same_c6 (ref24_Same_i4 n) (ref24_Same_i6 n) (ref24_Same_i14 n) x0 x1 x2 x3 x4
def ref24_Same_i14 : Nat → List Y2 → List Y2 → Int → Option Y11
 | 0, _, _, _ => none
 | n + 1, x0, x1, x2 => ref24_Same_c14 (ref24_Same_i4 n) (ref24_Same_i6 n) (ref24_Same_i14 n) x0 x1 x2
end
def ref24_Same (a0 a1 : List Y9 × List Y2 × Unit) : Option Y11 := ref24_Same_c (ref24_Same_i4 fuel) (ref24_Same_i6 fuel) (ref24_Same_i14 fuel) a0 a1
abbrev ref26_SameList_T6 := List Y4 → List Y4 → Int → Option Y11
def ref26_SameList_c (J6 : ref26_SameList_T6) (a0 a1 : List Y4) : Option Y11 :=
 bif Int.ofNat (List.length a0) != Int.ofNat (List.length a1) then
  some ((false, ()))
 else
  J6 a0 a1 ((0 : Int))
def ref26_SameList_c6 (J6 : ref26_SameList_T6) (x0 x1 : List Y4) (x2 : Int) : Option Y11 :=
 bif decide (x2 < Int.ofNat (List.length x0)) then
  bif decide ((0 : Int) ≤ x2) then
   match x0[Int.toNat x2]? with
    | none => none
    | some e0 =>
     bif decide ((0 : Int) ≤ x2) then
      match x1[Int.toNat x2]? with
       | none => none
       | some e1 =>
        bif !(e0.1 == e1.1 && (e0.2.1 == e1.2.1 && (e0.2.2.1 == e1.2.2.1 && (e0.2.2.2.1 == e1.2.2.2.1 && (e0.2.2.2.2.1 == e1.2.2.2.2.1 && (e0.2.2.2.2.2.1 == e1.2.2.2.2.2.1 && (e0.2.2.2.2.2.2.1 == e1.2.2.2.2.2.2.1 && (e0.2.2.2.2.2.2.2.1 == e1.2.2.2.2.2.2.2.1 && (e0.2.2.2.2.2.2.2.2.1 == e1.2.2.2.2.2.2.2.2.1 && (e0.2.2.2.2.2.2.2.2.2.1 == e1.2.2.2.2.2.2.2.2.2.1 && true)))))))))) then
         some ((false, ()))
        else
         J6 x0 x1 (Go.IntKind.wrap Go.IntKind.i64 (x2 + (1 : Int)))
     else
      none
  else
   none
 else
  some ((true, ()))
mutual
def ref26_SameList_i6 : Nat → List Y4 → List Y4 → Int → Option Y11
 | 0, _, _, _ => none
 | n + 1, x0, x1, x2 => ref26_SameList_c6 (ref26_SameList_i6 n) x0 x1 x2
end
def ref26_SameList (a0 a1 : List Y4) : Option Y11 := ref26_SameList_c (ref26_SameList_i6 fuel) a0 a1
def ref26_Same (a0 a1 : Int × List Y4 × Unit) : Option Y11 :=
 bif a0.1 == a1.1 then
  match ref26_SameList a0.2.1 a1.2.1 with
   | none => none
   | some e0 =>
    some ((e0.1, ()))
 else
  some ((false, ()))
abbrev ref26_SameAll_T6 := List Y13 → List Y13 → Int → Option Y11
def ref26_SameAll_c (J6 : ref26_SameAll_T6) (a0 a1 : List Y13) : Option Y11 :=
 bif Int.ofNat (List.length a0) != Int.ofNat (List.length a1) then
  some ((false, ()))
 else
  J6 a0 a1 ((0 : Int))
def ref26_SameAll_c6 (J6 : ref26_SameAll_T6) (x0 x1 : List Y13) (x2 : Int) : Option Y11 :=
 bif decide (x2 < Int.ofNat (List.length x0)) then
  bif decide ((0 : Int) ≤ x2) then
   match x0[Int.toNat x2]? with
    | none => none
    | some e0 =>
     bif decide ((0 : Int) ≤ x2) then
      match x1[Int.toNat x2]? with
       | none => none
       | some e1 =>
        match ref26_Same e0 e1 with
         | none => none
         | some e2 =>
          bif !e2.1 then
           some ((false, ()))
          else
           J6 x0 x1 (Go.IntKind.wrap Go.IntKind.i64 (x2 + (1 : Int)))
     else
      none
  else
   none
 else
  some ((true, ()))
mutual
def ref26_SameAll_i6 : Nat → List Y13 → List Y13 → Int → Option Y11
 | 0, _, _, _ => none
 | n + 1, x0, x1, x2 => ref26_SameAll_c6 (ref26_SameAll_i6 n) x0 x1 x2
end
def ref26_SameAll (a0 a1 : List Y13) : Option Y11 := ref26_SameAll_c (ref26_SameAll_i6 fuel) a0 a1
abbrev ref27_SameSends_T6 := List Y5 → List Y5 → Int → Option Y11
def ref27_SameSends_c (J6 : ref27_SameSends_T6) (a0 a1 : List Y5) : Option Y11 :=
 bif Int.ofNat (List.length a0) != Int.ofNat (List.length a1) then
  some ((false, ()))
 else
  J6 a0 a1 ((0 : Int))
def ref27_SameSends_c6 (J6 : ref27_SameSends_T6) (x0 x1 : List Y5) (x2 : Int) : Option Y11 :=
 bif decide (x2 < Int.ofNat (List.length x0)) then
  bif decide ((0 : Int) ≤ x2) then
   match x0[Int.toNat x2]? with
    | none => none
    | some e0 =>
     bif decide ((0 : Int) ≤ x2) then
      match x1[Int.toNat x2]? with
       | none => none
       | some e1 =>
        bif !(e0.1 == e1.1 && (e0.2.1 == e1.2.1 && (e0.2.2.1 == e1.2.2.1 && (e0.2.2.2.1 == e1.2.2.2.1 && (e0.2.2.2.2.1 == e1.2.2.2.2.1 && (e0.2.2.2.2.2.1 == e1.2.2.2.2.2.1 && (e0.2.2.2.2.2.2.1 == e1.2.2.2.2.2.2.1 && (e0.2.2.2.2.2.2.2.1 == e1.2.2.2.2.2.2.2.1 && (e0.2.2.2.2.2.2.2.2.1 == e1.2.2.2.2.2.2.2.2.1 && (e0.2.2.2.2.2.2.2.2.2.1 == e1.2.2.2.2.2.2.2.2.2.1 && (e0.2.2.2.2.2.2.2.2.2.2.1 == e1.2.2.2.2.2.2.2.2.2.2.1 && true))))))))))) then
         some ((false, ()))
        else
         J6 x0 x1 (Go.IntKind.wrap Go.IntKind.i64 (x2 + (1 : Int)))
     else
      none
  else
   none
 else
  some ((true, ()))
mutual
def ref27_SameSends_i6 : Nat → List Y5 → List Y5 → Int → Option Y11
 | 0, _, _, _ => none
 | n + 1, x0, x1, x2 => ref27_SameSends_c6 (ref27_SameSends_i6 n) x0 x1 x2
end
def ref27_SameSends (a0 a1 : List Y5) : Option Y11 := ref27_SameSends_c (ref27_SameSends_i6 fuel) a0 a1
abbrev ref27_Same_T5 := List Y5 → List Y6 → List Y2 → List Y8 → List Y5 → List Y6 → List Y2 → List Y8 → Option Y11
abbrev ref27_Same_T7 := List Y10 → List Y5 → List Y6 → List Y2 → List Y8 → List Y10 → List Y5 → List Y6 → List Y2 → List Y8 → Int → Option Y11
abbrev ref27_Same_T13 := List Y6 → List Y2 → List Y8 → List Y6 → List Y2 → List Y8 → Option Y11
abbrev ref27_Same_T15 := List Y5 → List Y6 → List Y2 → List Y8 → List Y5 → List Y6 → List Y2 → List Y8 → Int → Option Y11
abbrev ref27_Same_T21 := List Y2 → List Y8 → List Y2 → List Y8 → Option Y11
abbrev ref27_Same_T23 := List Y6 → List Y2 → List Y8 → List Y6 → List Y2 → List Y8 → Int → Option Y11
abbrev ref27_Same_T29 := List Y8 → List Y8 → Option Y11
abbrev ref27_Same_T31 := List Y2 → List Y8 → List Y2 → List Y8 → Int → Option Y11
abbrev ref27_Same_T39 := List Y8 → List Y8 → Int → Option Y11
def ref27_Same_c (J5 : ref27_Same_T5) (J7 : ref27_Same_T7) (J13 : ref27_Same_T13) (J15 : ref27_Same_T15) (J21 : ref27_Same_T21) (J23 : ref27_Same_T23) (J29 : ref27_Same_T29) (J31 : ref27_Same_T31) (J39 : ref27_Same_T39) (a0 a1 : Int × Int × Int × List Y5 × List Y10 × List Y5 × List Y6 × List Y2 × List Y8 × Unit) : Option Y11 :=
 bif !(a0.1 == a1.1 && (a0.2.1 == a1.2.1 && true)) then
  some ((false, ()))
 else
  bif a0.2.2.1 != a1.2.2.1 then
   some ((false, ()))
  else
   match ref27_SameSends a0.2.2.2.1 a1.2.2.2.1 with
    | none => none
    | some e0 =>
     bif !e0.1 then
      some ((false, ()))
     else
      bif Int.ofNat (List.length a0.2.2.2.2.1) != Int.ofNat (List.length a1.2.2.2.2.1) then
       some ((false, ()))
      else
       bif Int.ofNat (List.length a0.2.2.2.2.2.1) != Int.ofNat (List.length a1.2.2.2.2.2.1) then
        some ((false, ()))
       else
        bif Int.ofNat (List.length a0.2.2.2.2.2.2.1) != Int.ofNat (List.length a1.2.2.2.2.2.2.1) then
         some ((false, ()))
        else
         bif Int.ofNat (List.length a0.2.2.2.2.2.2.2.1) != Int.ofNat (List.length a1.2.2.2.2.2.2.2.1) then
          some ((false, ()))
         else
          bif Int.ofNat (List.length a0.2.2.2.2.2.2.2.2.1) != Int.ofNat (List.length a1.2.2.2.2.2.2.2.2.1) then
           some ((false, ()))
          else
           J7 (a0.2.2.2.2.1) (a0.2.2.2.2.2.1) (a0.2.2.2.2.2.2.1) (a0.2.2.2.2.2.2.2.1) (a0.2.2.2.2.2.2.2.2.1) (a1.2.2.2.2.1) (a1.2.2.2.2.2.1) (a1.2.2.2.2.2.2.1) (a1.2.2.2.2.2.2.2.1) (a1.2.2.2.2.2.2.2.2.1) ((0 : Int))
def ref27_Same_c5 (J5 : ref27_Same_T5) (J7 : ref27_Same_T7) (J13 : ref27_Same_T13) (J15 : ref27_Same_T15) (J21 : ref27_Same_T21) (J23 : ref27_Same_T23) (J29 : ref27_Same_T29) (J31 : ref27_Same_T31) (J39 : ref27_Same_T39) (x0 : List Y5) (x1 : List Y6) (x2 : List Y2) (x3 : List Y8) (x4 : List Y5) (x5 : List Y6) (x6 : List Y2) (x7 : List Y8) : Option Y11 :=
 J15 x0 x1 x2 x3 x4 x5 x6 x7 ((0 : Int))
def ref27_Same_c7 (J5 : ref27_Same_T5) (J7 : ref27_Same_T7) (J13 : ref27_Same_T13) (J15 : ref27_Same_T15) (J21 : ref27_Same_T21) (J23 : ref27_Same_T23) (J29 : ref27_Same_T29) (J31 : ref27_Same_T31) (J39 : ref27_Same_T39) (x0 : List Y10) (x1 : List Y5) (x2 : List Y6) (x3 : List Y2) (x4 : List Y8) (x5 : List Y10) (x6 : List Y5) (x7 : List Y6) (x8 : List Y2) (x9 : List Y8) (x10 : Int) : Option Y11 :=
 bif decide (x10 < Int.ofNat (List.length x0)) then
  bif decide ((0 : Int) ≤ x10) then
   match x0[Int.toNat x10]? with
    | none => none
    | some e0 =>
     bif decide ((0 : Int) ≤ x10) then
      match x5[Int.toNat x10]? with
       | none => none
       | some e1 =>
        bif e0.1 != e1.1 then
         some ((false, ()))
        else
         J7 x0 x1 x2 x3 x4 x5 x6 x7 x8 x9 (Go.IntKind.wrap Go.IntKind.i64 (x10 + (1 : Int)))
     else
      none
  else
   none
 else
  J5 x1 x2 x3 x4 x6 x7 x8 x9
def ref27_Same_c13 (J5 : ref27_Same_T5) (J7 : ref27_Same_T7) (J13 : ref27_Same_T13) (J15 : ref27_Same_T15) (J21 : ref27_Same_T21) (J23 : ref27_Same_T23) (J29 : ref27_Same_T29) (J31 : ref27_Same_T31) (J39 : ref27_Same_T39) (x0 : List Y6) (x1 : List Y2) (x2 : List Y8) (x3 : List Y6) (x4 : List Y2) (x5 : List Y8) : Option Y11 :=
 J23 x0 x1 x2 x3 x4 x5 ((0 : Int))
def ref27_Same_c15 (J5 : ref27_Same_T5) (J7 : ref27_Same_T7) (J13 : ref27_Same_T13) (J15 : ref27_Same_T15) (J21 : ref27_Same_T21) (J23 : ref27_Same_T23) (J29 : ref27_Same_T29) (J31 : ref27_Same_T31) (J39 : ref27_Same_T39) (x0 : List Y5) (x1 : List Y6) (x2 : List Y2) (x3 : List Y8) (x4 : List Y5) (x5 : List Y6) (x6 : List Y2) (x7 : List Y8) (x8 : Int) : Option Y11 :=
 bif decide (x8 < Int.ofNat (List.length x0)) then
  bif decide ((0 : Int) ≤ x8) then
   match x0[Int.toNat x8]? with
    | none => none
    | some e0 =>
     bif decide ((0 : Int) ≤ x8) then
      match x4[Int.toNat x8]? with
       | none => none
       | some e1 =>
        bif !(e0.1 == e1.1 && (e0.2.1 == e1.2.1 && (e0.2.2.1 == e1.2.2.1 && (e0.2.2.2.1 == e1.2.2.2.1 && (e0.2.2.2.2.1 == e1.2.2.2.2.1 && (e0.2.2.2.2.2.1 == e1.2.2.2.2.2.1 && (e0.2.2.2.2.2.2.1 == e1.2.2.2.2.2.2.1 && (e0.2.2.2.2.2.2.2.1 == e1.2.2.2.2.2.2.2.1 && (e0.2.2.2.2.2.2.2.2.1 == e1.2.2.2.2.2.2.2.2.1 && (e0.2.2.2.2.2.2.2.2.2.1 == e1.2.2.2.2.2.2.2.2.2.1 && (e0.2.2.2.2.2.2.2.2.2.2.1 == e1.2.2.2.2.2.2.2.2.2.2.1 && true))))))))))) then
         some ((false, ()))
        else
         J15 x0 x1 x2 x3 x4 x5 x6 x7 (Go.IntKind.wrap Go.IntKind.i64 (x8 + (1 : Int)))
     else
      none
  else
   none
 else
  J13 x1 x2 x3 x5 x6 x7
def ref27_Same_c21 (J5 : ref27_Same_T5) (J7 : ref27_Same_T7) (J13 : ref27_Same_T13) (J15 : ref27_Same_T15) (J21 : ref27_Same_T21) (J23 : ref27_Same_T23) (J29 : ref27_Same_T29) (J31 : ref27_Same_T31) (J39 : ref27_Same_T39) (x0 : List Y2) (x1 : List Y8) (x2 : List Y2) (x3 : List Y8) : Option Y11 :=
 J31 x0 x1 x2 x3 ((0 : Int))
def ref27_Same_c23 (J5 : ref27_Same_T5) (J7 : ref27_Same_T7) (J13 : ref27_Same_T13) (J15 : ref27_Same_T15) (J21 : ref27_Same_T21) (J23 : ref27_Same_T23) (J29 : ref27_Same_T29) (J31 : ref27_Same_T31) (J39 : ref27_Same_T39) (x0 : List Y6) (x1 : List Y2) (x2 : List Y8) (x3 : List Y6) (x4 : List Y2) (x5 : List Y8) (x6 : Int) : Option Y11 :=
 bif decide (x6 < Int.ofNat (List.length x0)) then
  bif decide ((0 : Int) ≤ x6) then
   match x0[Int.toNat x6]? with
    | none => none
    | some e0 =>
     bif decide ((0 : Int) ≤ x6) then
      match x3[Int.toNat x6]? with
       | none => none
       | some e1 =>
        bif !(e0.1 == e1.1 && (e0.2.1 == e1.2.1 && (e0.2.2.1 == e1.2.2.1 && (e0.2.2.2.1 == e1.2.2.2.1 && (e0.2.2.2.2.1 == e1.2.2.2.2.1 && true))))) then
         some ((false, ()))
        else
         J23 x0 x1 x2 x3 x4 x5 (Go.IntKind.wrap Go.IntKind.i64 (x6 + (1 : Int)))
     else
      none
  else
   none
 else
  J21 x1 x2 x4 x5
def ref27_Same_c29 (J5 : ref27_Same_T5) (J7 : ref27_Same_T7) (J13 : ref27_Same_T13) (J15 : ref27_Same_T15) (J21 : ref27_Same_T21) (J23 : ref27_Same_T23) (J29 : ref27_Same_T29) (J31 : ref27_Same_T31) (J39 : ref27_Same_T39) (x0 x1 : List Y8) : Option Y11 :=
 J39 x0 x1 ((0 : Int))
def ref27_Same_c31 (J5 : ref27_Same_T5) (J7 : ref27_Same_T7) (J13 : ref27_Same_T13) (J15 : ref27_Same_T15) (J21 : ref27_Same_T21) (J23 : ref27_Same_T23) (J29 : ref27_Same_T29) (J31 : ref27_Same_T31) (J39 : ref27_Same_T39) (x0 : List Y2) (x1 : List Y8) (x2 : List Y2) (x3 : List Y8) (x4 : Int) : Option Y11 :=
 bif decide (x4 < Int.ofNat (List.length x0)) then
  bif decide ((0 : Int) ≤ x4) then
   match x0[Int.toNat x4]? with
    | none => none
    | some e0 =>
     bif decide ((0 : Int) ≤ x4) then
      match x2[Int.toNat x4]? with
       | none => none
       | some e1 =>
        bif !(e0.1 == e1.1 && (e0.2.1 == e1.2.1 && (e0.2.2.1 == e1.2.2.1 && (e0.2.2.2.1 == e1.2.2.2.1 && (e0.2.2.2.2.1 == e1.2.2.2.2.1 && true))))) then
         some ((false, ()))
        else
         J31 x0 x1 x2 x3 (Go.IntKind.wrap Go.IntKind.i64 (x4 + (1 : Int)))
     else
      none
  else
   none
 else
  J29 x1 x3
def ref27_Same_c39 (J5 : ref27_Same_T5) (J7 : ref27_Same_T7) (J13 : ref27_Same_T13) (J15 : ref27_Same_T15) (J21 : ref27_Same_T21) (J23 : ref27_Same_T23) (J29 : ref27_Same_T29) (J31 : ref27_Same_T31) (J39 : ref27_Same_T39) (x0 x1 : List Y8) (x2 : Int) : Option Y11 :=
 bif decide (x2 < Int.ofNat (List.length x0)) then
  bif decide ((0 : Int) ≤ x2) then
   match x0[Int.toNat x2]? with
    | none => none
    | some e0 =>
     bif decide ((0 : Int) ≤ x2) then
      match x1[Int.toNat x2]? with
       | none => none
       | some e1 =>
        bif !(e0.1 == e1.1 && (e0.2.1 == e1.2.1 && (e0.2.2.1 == e1.2.2.1 && true))) then
         some ((false, ()))
        else
         J39 x0 x1 (Go.IntKind.wrap Go.IntKind.i64 (x2 + (1 : Int)))
     else
      none
  else
   none
 else
  some ((true, ()))
mutual
def ref27_Same_i5 : Nat → List Y5 → List Y6 → List Y2 → List Y8 → List Y5 → List Y6 → List Y2 → List Y8 → Option Y11
 | 0, _, _, _, _, _, _, _, _ => none
 | n + 1, x0, x1, x2, x3, x4, x5, x6, x7 => ref27_Same_c5 (ref27_Same_i5 n) (ref27_Same_i7 n) (ref27_Same_i13 n) (ref27_Same_i15 n) (ref27_Same_i21 n) (ref27_Same_i23 n) (ref27_Same_i29 n) (ref27_Same_i31 n) (ref27_Same_i39 n) x0 x1 x2 x3 x4 x5 x6 x7
def ref27_Same_i7 : Nat → List Y10 → List Y5 → List Y6 → List Y2 → List Y8 → List Y10 → List Y5 → List Y6 → List Y2 → List Y8 → Int → Option Y11
 | 0, _, _, _, _, _, _, _, _, _, _, _ => none
 | n + 1, x0, x1, x2, x3, x4, x5, x6, x7, x8, x9, x10 => ref27_Same_c7 (ref27_Same_i5 n) (ref27_Same_i7 n) (ref27_Same_i13 n) (ref27_Same_i15 n) (ref27_Same_i21 n) (ref27_Same_i23 n) (ref27_Same_i29 n) (ref27_Same_i31 n) (ref27_Same_i39 n) x0 x1 x2 x3 x4 x5 x6 x7 x8 x9 x10
def ref27_Same_i13 : Nat → List Y6 → List Y2 → List Y8 → List Y6 → List Y2 → List Y8 → Option Y11
 | 0, _, _, _, _, _, _ => none
 | n + 1, x0, x1, x2, x3, x4, x5 => ref27_Same_c13 (ref27_Same_i5 n) (ref27_Same_i7 n) (ref27_Same_i13 n) (ref27_Same_i15 n) (ref27_Same_i21 n) (ref27_Same_i23 n) (ref27_Same_i29 n) (ref27_Same_i31 n) (ref27_Same_i39 n) x0 x1 x2 x3 x4 x5
def ref27_Same_i15 : Nat → List Y5 → List Y6 → List Y2 → List Y8 → List Y5 → List Y6 → List Y2 → List Y8 → Int → Option Y11
 | 0, _, _, _, _, _, _, _, _, _ => none
 | n + 1, x0, x1, x2, x3, x4, x5, x6, x7, x8 => ref27_Same_c15 (ref27_Same_i5 n) (ref27_Same_i7 n) (ref27_Same_i13 n) (ref27_Same_i15 n) (ref27_Same_i21 n) (ref27_Same_i23 n) (ref27_Same_i29 n) (ref27_Same_i31 n) (ref27_Same_i39 n) x0 x1 x2 x3 x4 x5 x6 x7 x8
def ref27_Same_i21 : Nat → List Y2 → List Y8 → List Y2 → List Y8 → Option Y11
 | 0, _, _, _, _ => none
 | n + 1, x0, x1, x2, x3 => ref27_Same_c21 (ref27_Same_i5 n) (ref27_Same_i7 n) (ref27_Same_i13 n) (ref27_Same_i15 n) (ref27_Same_i21 n) (ref27_Same_i23 n) (ref27_Same_i29 n) (ref27_Same_i31 n) (ref27_Same_i39 n) x0 x1 x2 x3
def ref27_Same_i23 : Nat → List Y6 → List Y2 → List Y8 → List Y6 → List Y2 → List Y8 → Int → Option Y11
 | 0, _, _, _, _, _, _, _ => none
 | n + 1, x0, x1, x2, x3, x4, x5, x6 => ref27_Same_c23 (ref27_Same_i5 n) (ref27_Same_i7 n) (ref27_Same_i13 n) (ref27_Same_i15 n) (ref27_Same_i21 n) (ref27_Same_i23 n) (ref27_Same_i29 n) (ref27_Same_i31 n) (ref27_Same_i39 n) x0 x1 x2 x3 x4 x5 x6
def ref27_Same_i29 : Nat → List Y8 → List Y8 → Option Y11
 | 0, _, _ => none
 | n + 1, x0, x1 => ref27_Same_c29 (ref27_Same_i5 n) (ref27_Same_i7 n) (ref27_Same_i13 n) (ref27_Same_i15 n) (ref27_Same_i21 n) (ref27_Same_i23 n) (ref27_Same_i29 n) (ref27_Same_i31 n) (ref27_Same_i39 n) x0 x1
def ref27_Same_i31 : Nat → List Y2 → List Y8 → List Y2 → List Y8 → Int → Option Y11
 | 0, _, _, _, _, _ => none
 | n + 1, x0, x1, x2, x3, x4 => ref27_Same_c31 (ref27_Same_i5 n) (ref27_Same_i7 n) (ref27_Same_i13 n) (ref27_Same_i15 n) (ref27_Same_i21 n) (ref27_Same_i23 n) (ref27_Same_i29 n) (ref27_Same_i31 n) (ref27_Same_i39 n) x0 x1 x2 x3 x4
def ref27_Same_i39 : Nat → List Y8 → List Y8 → Int → Option Y11
 | 0, _, _, _ => none
 | n + 1, x0, x1, x2 => ref27_Same_c39 (ref27_Same_i5 n) (ref27_Same_i7 n) (ref27_Same_i13 n) (ref27_Same_i15 n) (ref27_Same_i21 n) (ref27_Same_i23 n) (ref27_Same_i29 n) (ref27_Same_i31 n) (ref27_Same_i39 n) x0 x1 x2
end
def ref27_Same (a0 a1 : Int × Int × Int × List Y5 × List Y10 × List Y5 × List Y6 × List Y2 × List Y8 × Unit) : Option Y11 := ref27_Same_c (ref27_Same_i5 fuel) (ref27_Same_i7 fuel) (ref27_Same_i13 fuel) (ref27_Same_i15 fuel) (ref27_Same_i21 fuel) (ref27_Same_i23 fuel) (ref27_Same_i29 fuel) (ref27_Same_i31 fuel) (ref27_Same_i39 fuel) a0 a1
abbrev ref35_Same_T7 := List Y1 → List Y1 → Int → Option Y11
def ref35_Same_c (J7 : ref35_Same_T7) (a0 a1 : Int × List Y2 × List Y10 × Bool × List Y2 × Int × Int × Int × Bool × Int × List Y9 × List Y2 × List Y1 × List Y13 × Unit) : Option Y11 :=
 bif Int.ofNat (List.length a0.2.2.2.2.2.2.2.2.2.2.2.2.1) != Int.ofNat (List.length a1.2.2.2.2.2.2.2.2.2.2.2.2.1) then
  some ((false, ()))
 else
  match ref26_SameAll a0.2.2.2.2.2.2.2.2.2.2.2.2.2.1 a1.2.2.2.2.2.2.2.2.2.2.2.2.2.1 with
   | none => none
   | some e0 =>
    bif !e0.1 then
     some ((false, ()))
    else
     J7 (a0.2.2.2.2.2.2.2.2.2.2.2.2.1) (a1.2.2.2.2.2.2.2.2.2.2.2.2.1) ((0 : Int))
def ref35_Same_c7 (J7 : ref35_Same_T7) (x0 x1 : List Y1) (x2 : Int) : Option Y11 :=
 bif decide (x2 < Int.ofNat (List.length x0)) then
  bif decide ((0 : Int) ≤ x2) then
   match x0[Int.toNat x2]? with
    | none => none
    | some e0 =>
     bif decide ((0 : Int) ≤ x2) then
      match x1[Int.toNat x2]? with
       | none => none
       | some e1 =>
        match ref27_Same e0 e1 with
         | none => none
         | some e2 =>
          bif !e2.1 then
           some ((false, ()))
          else
           J7 x0 x1 (Go.IntKind.wrap Go.IntKind.i64 (x2 + (1 : Int)))
     else
      none
  else
   none
 else
  some ((true, ()))
mutual
def ref35_Same_i7 : Nat → List Y1 → List Y1 → Int → Option Y11
 | 0, _, _, _ => none
 | n + 1, x0, x1, x2 => ref35_Same_c7 (ref35_Same_i7 n) x0 x1 x2
end
def ref35_Same (a0 a1 : Int × List Y2 × List Y10 × Bool × List Y2 × Int × Int × Int × Bool × Int × List Y9 × List Y2 × List Y1 × List Y13 × Unit) : Option Y11 := ref35_Same_c (ref35_Same_i7 fuel) a0 a1
def ref36_Same (a0 a1 : Int × List Y2 × List Y10 × Bool × List Y2 × Int × Int × Int × Bool × Int × List Y9 × List Y2 × List Y1 × List Y13 × Unit) : Option Y11 :=
 match ref08_Alike (a0.1, a0.2.1, a0.2.2.1, a0.2.2.2.1, a0.2.2.2.2.1, a0.2.2.2.2.2.1, a0.2.2.2.2.2.2.1, a0.2.2.2.2.2.2.2.1, a0.2.2.2.2.2.2.2.2.1, a0.2.2.2.2.2.2.2.2.2.1, ()) (a1.1, a1.2.1, a1.2.2.1, a1.2.2.2.1, a1.2.2.2.2.1, a1.2.2.2.2.2.1, a1.2.2.2.2.2.2.1, a1.2.2.2.2.2.2.2.1, a1.2.2.2.2.2.2.2.2.1, a1.2.2.2.2.2.2.2.2.2.1, ()) with
  | none => none
  | some e0 =>
   bif e0.1 then
    match ref24_Same (a0.2.2.2.2.2.2.2.2.2.2.1, a0.2.2.2.2.2.2.2.2.2.2.2.1, ()) (a1.2.2.2.2.2.2.2.2.2.2.1, a1.2.2.2.2.2.2.2.2.2.2.2.1, ()) with
     | none => none
     | some e1 =>
      bif e1.1 then
       match ref35_Same a0 a1 with
        | none => none
        | some e2 =>
         some ((e2.1, ()))
      else
       some ((false, ()))
   else
    some ((false, ()))
end Tg
