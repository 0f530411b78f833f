import Derived.Test.YtepkicnfkpclcaaDoorAbsB6
import Derived.Test.YtepkicnfkpclcaaDoorLA
/- The functions of the code, as plain functions: printed from the code. -/
set_option linter.unusedVariables false
set_option linter.unusedSimpArgs false
namespace Tg
open Go.Abs (fuel bigOk cloned tmm dropD CT)
abbrev Y1 := (Int × Int × Int × Int × Int × Int × Int × Int × Int × Int × Unit) × Int × Unit
abbrev Y2 := Int × Int × Int × Int × Int × Unit
abbrev Y3 := Int × Int × Int × Unit
abbrev Y4 := (List Y2 × List Y3 × Unit) × Int × Unit
abbrev Y5 := Int × Int × Unit
abbrev Y6 := List UInt8 × Unit
abbrev Y7 := List ((List UInt8) × Unit) × Unit
abbrev Y8 := Bool × Unit
def ref40_Great (a0 : List Y2 × List Y3 × Unit) : Option Y8 :=
 bif decide (Int.ofNat (List.length a0.1) > (100 : Int)) then
  bif decide (Int.ofNat (List.length a0.1) ≤ (4000 : Int)) then
   some ((true, ()))
  else
   bif decide (Int.ofNat (List.length a0.1) > (4010 : Int)) then
    some ((true, ()))
   else
    bif decide (Int.ofNat (List.length a0.2.1) > (100 : Int)) then
     bif decide (Int.ofNat (List.length a0.2.1) ≤ (4000 : Int)) then
      some ((true, ()))
     else
      some ((decide (Int.ofNat (List.length a0.2.1) > (4010 : Int)), ()))
    else
     some ((decide (Int.ofNat (List.length a0.2.1) > (4010 : Int)), ()))
 else
  bif decide (Int.ofNat (List.length a0.1) > (4010 : Int)) then
   some ((true, ()))
  else
   bif decide (Int.ofNat (List.length a0.2.1) > (100 : Int)) then
    bif decide (Int.ofNat (List.length a0.2.1) ≤ (4000 : Int)) then
     some ((true, ()))
    else
     some ((decide (Int.ofNat (List.length a0.2.1) > (4010 : Int)), ()))
   else
    some ((decide (Int.ofNat (List.length a0.2.1) > (4010 : Int)), ()))
def ref37_Many (a0 : List Y5) : Option Y8 :=
 bif decide (Int.ofNat (List.length a0) > (60 : Int)) then
  bif decide (Int.ofNat (List.length a0) ≤ (2000 : Int)) then
   some ((true, ()))
  else
   some ((decide (Int.ofNat (List.length a0) > (2010 : Int)), ()))
 else
  some ((decide (Int.ofNat (List.length a0) > (2010 : Int)), ()))
def ref25_Row (a0 : Int × Int × Int × Int × Int × Unit) : Option Y8 :=
 bif decide (a0.2.1 < a0.2.2.1) then
  bif decide (a0.2.1 ≥ (-2199023255552 : Int)) then
   some ((decide (a0.2.2.1 ≤ (2199023255552 : Int)), ()))
  else
   some ((false, ()))
 else
  some ((false, ()))
def ref25_Right (a0 : Int × Int × Int × Unit) : Option Y8 :=
 bif decide (a0.2.1 ≥ (-1099511627776 : Int)) then
  some ((decide (a0.2.1 ≤ (1099511627776 : Int)), ()))
 else
  some ((false, ()))
def ref25_Mark (a0 : Int) : Option Y8 :=
 bif decide (a0 ≥ (-1099511627776 : Int)) then
  bif decide (a0 ≤ (1099511627776 : Int)) then
   some ((true, ()))
  else
   some ((a0 == (9223372036854775807 : Int), ()))
 else
  some ((a0 == (9223372036854775807 : Int), ()))
def message_isTime (a0 : Int) : Option Y8 :=
 bif decide (a0 ≥ (-1099511627776 : Int)) then
  some ((decide (a0 ≤ (1099511627776 : Int)), ()))
 else
  some ((false, ()))
def message_isMark (a0 : Int) : Option Y8 :=
 match message_isTime a0 with
  | none => none
  | some e0 =>
   bif e0.1 then
    some ((true, ()))
   else
    some ((a0 == (9223372036854775807 : Int), ()))
abbrev message_Check_T3 := Int → Int → Int → Int → Int → Int → Int → Int → Int → Int → Bool → Int → Int → Int → Int → Int → Int → Int → Int → Int → Int → Option (Int × Unit)
abbrev message_Check_T5 := Int → Int → Int → Int → Int → Int → Int → Int → Int → Int → Bool → Int → Int → Int → Int → Int → Int → Int → Int → Int → Int → Int → Bool → Option (Int × Unit)
def message_Check_c (J3 : message_Check_T3) (J5 : message_Check_T5) (a0 : Int × Int × Int × Int × Int × Int × Int × Int × Int × Int × Unit) : Option (Int × Unit) :=
 bif a0.1 == (1 : Int) then
  J5 (a0.1) (a0.2.1) (a0.2.2.1) (a0.2.2.2.1) (a0.2.2.2.2.1) (a0.2.2.2.2.2.1) (a0.2.2.2.2.2.2.1) (a0.2.2.2.2.2.2.2.1) (a0.2.2.2.2.2.2.2.2.1) (a0.2.2.2.2.2.2.2.2.2.1) (false) (a0.1) ((0 : Int)) ((0 : Int)) ((0 : Int)) ((0 : Int)) ((0 : Int)) ((0 : Int)) ((0 : Int)) ((0 : Int)) ((0 : Int)) (a0.1) (true)
 else
  J5 (a0.1) (a0.2.1) (a0.2.2.1) (a0.2.2.2.1) (a0.2.2.2.2.1) (a0.2.2.2.2.2.1) (a0.2.2.2.2.2.2.1) (a0.2.2.2.2.2.2.2.1) (a0.2.2.2.2.2.2.2.2.1) (a0.2.2.2.2.2.2.2.2.2.1) (false) (a0.1) ((0 : Int)) ((0 : Int)) ((0 : Int)) ((0 : Int)) ((0 : Int)) ((0 : Int)) ((0 : Int)) ((0 : Int)) ((0 : Int)) (a0.1) (a0.1 == (4 : Int))
def message_Check_c3 (J3 : message_Check_T3) (J5 : message_Check_T5) (x0 x1 x2 x3 x4 x5 x6 x7 x8 x9 : Int) (x10 : Bool) (x11 x12 x13 x14 x15 x16 x17 x18 x19 x20 : Int) : Option (Int × Unit) :=
 bif !x10 then
  some (((8 : Int), ()))
 else
  bif !(x0 == x11 && (x1 == x12 && (x2 == x13 && (x3 == x14 && (x4 == x15 && (x5 == x16 && (x6 == x17 && (x7 == x18 && (x8 == x19 && (x9 == x20 && true)))))))))) then
   some (((8 : Int), ()))
  else
   some (((0 : Int), ()))
def message_Check_c5 (J3 : message_Check_T3) (J5 : message_Check_T5) (x0 x1 x2 x3 x4 x5 x6 x7 x8 x9 : Int) (x10 : Bool) (x11 x12 x13 x14 x15 x16 x17 x18 x19 x20 x21 : Int) (x22 : Bool) : Option (Int × Unit) :=
 bif x22 then
  match message_isTime x2 with
   | none => none
   | some e0 =>
    J3 x0 x1 x2 x3 x4 x5 x6 x7 x8 x9 (e0.1) x11 x1 x2 x3 x15 x16 x17 x18 x19 x20
 else
  bif x21 == (2 : Int) then
   match message_isMark x4 with
    | none => none
    | some e0 =>
     J3 x0 x1 x2 x3 x4 x5 x6 x7 x8 x9 (e0.1) x11 x12 x13 x14 x4 x16 x17 x18 x19 x20
  else
   bif x21 == (3 : Int) then
    bif decide ((-2199023255552 : Int) ≤ x6) then
     bif decide (x6 < x7) then
      J3 x0 x1 x2 x3 x4 x5 x6 x7 x8 x9 (decide (x7 ≤ (2199023255552 : Int))) x11 x12 x13 x14 x15 x5 x6 x7 x8 x9
     else
      J3 x0 x1 x2 x3 x4 x5 x6 x7 x8 x9 (false) x11 x12 x13 x14 x15 x5 x6 x7 x8 x9
    else
     J3 x0 x1 x2 x3 x4 x5 x6 x7 x8 x9 (false) x11 x12 x13 x14 x15 x5 x6 x7 x8 x9
   else
    J3 x0 x1 x2 x3 x4 x5 x6 x7 x8 x9 x10 x11 x12 x13 x14 x15 x16 x17 x18 x19 x20
mutual
def message_Check_i3 : Nat → Int → Int → Int → Int → Int → Int → Int → Int → Int → Int → Bool → Int → Int → Int → Int → Int → Int → Int → Int → Int → Int → Option (Int × Unit)
 | 0, _, _, _, _, _, _, _, _, _, _, _, _, _, _, _, _, _, _, _, _, _ => none
 | n + 1, x0, x1, x2, x3, x4, x5, x6, x7, x8, x9, x10, x11, x12, x13, x14, x15, x16, x17, x18, x19, x20 => message_Check_c3 (message_Check_i3 n) (message_Check_i5 n) x0 x1 x2 x3 x4 x5 x6 x7 x8 x9 x10 x11 x12 x13 x14 x15 x16 x17 x18 x19 x20
def message_Check_i5 : Nat → Int → Int → Int → Int → Int → Int → Int → Int → Int → Int → Bool → Int → Int → Int → Int → Int → Int → Int → Int → Int → Int → Int → Bool → Option (Int × Unit)
 | 0, _, _, _, _, _, _, _, _, _, _, _, _, _, _, _, _, _, _, _, _, _, _, _ => none
 | n + 1, x0, x1, x2, x3, x4, x5, x6, x7, x8, x9, x10, x11, x12, x13, x14, x15, x16, x17, x18, x19, x20, x21, x22 => message_Check_c5 (message_Check_i3 n) (message_Check_i5 n) x0 x1 x2 x3 x4 x5 x6 x7 x8 x9 x10 x11 x12 x13 x14 x15 x16 x17 x18 x19 x20 x21 x22
end
def message_Check (a0 : Int × Int × Int × Int × Int × Int × Int × Int × Int × Int × Unit) : Option (Int × Unit) := message_Check_c (message_Check_i3 fuel) (message_Check_i5 fuel) a0
abbrev ref25_Valid_T3 := Int → Int → Int → Int → Int → Int → Int → Int → Int → Int → Int → Bool → Option Y8
def ref25_Valid_c (J3 : ref25_Valid_T3) (a0 : Int × Int × Int × Int × Int × Int × Int × Int × Int × Int × Unit) : Option Y8 :=
 bif a0.1 == (1 : Int) then
  J3 (a0.1) (a0.2.1) (a0.2.2.1) (a0.2.2.2.1) (a0.2.2.2.2.1) (a0.2.2.2.2.2.1) (a0.2.2.2.2.2.2.1) (a0.2.2.2.2.2.2.2.1) (a0.2.2.2.2.2.2.2.2.1) (a0.2.2.2.2.2.2.2.2.2.1) (a0.1) (true)
 else
  J3 (a0.1) (a0.2.1) (a0.2.2.1) (a0.2.2.2.1) (a0.2.2.2.2.1) (a0.2.2.2.2.2.1) (a0.2.2.2.2.2.2.1) (a0.2.2.2.2.2.2.2.1) (a0.2.2.2.2.2.2.2.2.1) (a0.2.2.2.2.2.2.2.2.2.1) (a0.1) (a0.1 == (4 : Int))
def ref25_Valid_c3 (J3 : ref25_Valid_T3) (x0 x1 x2 x3 x4 x5 x6 x7 x8 x9 x10 : Int) (x11 : Bool) : Option Y8 :=
 bif x11 then
  match ref25_Right (x1, x2, x3, ()) with
   | none => none
   | some e0 =>
    bif e0.1 then
     some ((x0 == x0 && (x1 == x1 && (x2 == x2 && (x3 == x3 && (x4 == (0 : Int) && (x5 == (0 : Int) && (x6 == (0 : Int) && (x7 == (0 : Int) && (x8 == (0 : Int) && (x9 == (0 : Int) && true))))))))), ()))
    else
     some ((false, ()))
 else
  bif x10 == (2 : Int) then
   match ref25_Mark x4 with
    | none => none
    | some e0 =>
     bif e0.1 then
      some ((x0 == x0 && (x1 == (0 : Int) && (x2 == (0 : Int) && (x3 == (0 : Int) && (x4 == x4 && (x5 == (0 : Int) && (x6 == (0 : Int) && (x7 == (0 : Int) && (x8 == (0 : Int) && (x9 == (0 : Int) && true))))))))), ()))
     else
      some ((false, ()))
  else
   bif x10 == (3 : Int) then
    match ref25_Row (x5, x6, x7, x8, x9, ()) with
     | none => none
     | some e0 =>
      bif e0.1 then
       some ((x0 == x0 && (x1 == (0 : Int) && (x2 == (0 : Int) && (x3 == (0 : Int) && (x4 == (0 : Int) && (x5 == x5 && (x6 == x6 && (x7 == x7 && (x8 == x8 && (x9 == x9 && true))))))))), ()))
      else
       some ((false, ()))
   else
    some ((false, ()))
mutual
def ref25_Valid_i3 : Nat → Int → Int → Int → Int → Int → Int → Int → Int → Int → Int → Int → Bool → Option Y8
 | 0, _, _, _, _, _, _, _, _, _, _, _, _ => none
 | n + 1, x0, x1, x2, x3, x4, x5, x6, x7, x8, x9, x10, x11 => ref25_Valid_c3 (ref25_Valid_i3 n) x0 x1 x2 x3 x4 x5 x6 x7 x8 x9 x10 x11
end
def ref25_Valid (a0 : Int × Int × Int × Int × Int × Int × Int × Int × Int × Int × Unit) : Option Y8 := ref25_Valid_c (ref25_Valid_i3 fuel) a0
abbrev ref45_Right_T1 := List Y3 → Option Y8
abbrev ref45_Right_T3 := List Y2 → List Y3 → Int → Option Y8
abbrev ref45_Right_T12 := List Y3 → Int → Option Y8
def ref45_Right_c (J1 : ref45_Right_T1) (J3 : ref45_Right_T3) (J12 : ref45_Right_T12) (a0 : List Y2 × List Y3 × Unit) : Option Y8 :=
 J3 (a0.1) (a0.2.1) ((0 : Int))
def ref45_Right_c1 (J1 : ref45_Right_T1) (J3 : ref45_Right_T3) (J12 : ref45_Right_T12) (x0 : List Y3) : Option Y8 :=
 J12 x0 ((0 : Int))
def ref45_Right_c3 (J1 : ref45_Right_T1) (J3 : ref45_Right_T3) (J12 : ref45_Right_T12) (x0 : List Y2) (x1 : List Y3) (x2 : Int) : Option Y8 :=
 bif decide (x2 < Int.ofNat (List.length x0)) then
  bif decide ((0 : Int) ≤ x2) then
   match x0[Int.toNat x2]? with
    | none => none
    | some e0 =>
     match ref25_Row e0 with
      | none => none
      | some e1 =>
       bif !e1.1 then
        some ((false, ()))
       else
        J3 x0 x1 (Go.IntKind.wrap Go.IntKind.i64 (x2 + (1 : Int)))
  else
   none
 else
  J1 x1
def ref45_Right_c12 (J1 : ref45_Right_T1) (J3 : ref45_Right_T3) (J12 : ref45_Right_T12) (x0 : List Y3) (x1 : Int) : Option Y8 :=
 bif decide (x1 < Int.ofNat (List.length x0)) then
  bif decide ((0 : Int) ≤ x1) then
   match x0[Int.toNat x1]? with
    | none => none
    | some e0 =>
     match ref25_Right e0 with
      | none => none
      | some e1 =>
       bif !e1.1 then
        some ((false, ()))
       else
        J12 x0 (Go.IntKind.wrap Go.IntKind.i64 (x1 + (1 : Int)))
  else
   none
 else
  some ((true, ()))
mutual
def ref45_Right_i1 : Nat → List Y3 → Option Y8
 | 0, _ => none
 | n + 1, x0 => ref45_Right_c1 (ref45_Right_i1 n) (ref45_Right_i3 n) (ref45_Right_i12 n) x0
def ref45_Right_i3 : Nat → List Y2 → List Y3 → Int → Option Y8
 | 0, _, _, _ => none
 | n + 1, x0, x1, x2 => ref45_Right_c3 (ref45_Right_i1 n) (ref45_Right_i3 n) (ref45_Right_i12 n) x0 x1 x2
def ref45_Right_i12 : Nat → List Y3 → Int → Option Y8
 | 0, _, _ => none
 | n + 1, x0, x1 => ref45_Right_c12 (ref45_Right_i1 n) (ref45_Right_i3 n) (ref45_Right_i12 n) x0 x1
end
def ref45_Right (a0 : List Y2 × List Y3 × Unit) : Option Y8 := ref45_Right_c (ref45_Right_i1 fuel) (ref45_Right_i3 fuel) (ref45_Right_i12 fuel) a0
abbrev ref34_SameRows_T6 := List Y2 → List Y2 → Int → Option Y8
def ref34_SameRows_c (J6 : ref34_SameRows_T6) (a0 a1 : List Y2) : Option Y8 :=
 bif Int.ofNat (List.length a0) != Int.ofNat (List.length a1) then
  some ((false, ()))
 else
  J6 a0 a1 ((0 : Int))
def ref34_SameRows_c6 (J6 : ref34_SameRows_T6) (x0 x1 : List Y2) (x2 : Int) : Option Y8 :=
 bif decide (x2 < Int.ofNat (List.length x0)) then
  bif decide ((0 : Int) ≤ x2) then
   match x0[Int.toNat x2]? with
    | none => none
    | some e0 =>
     bif decide ((0 : Int) ≤ x2) then
      match x1[Int.toNat x2]? with
       | none => none
       | some e1 =>
        bif !(e0.1 == e1.1 && (e0.2.1 == e1.2.1 && (e0.2.2.1 == e1.2.2.1 && (e0.2.2.2.1 == e1.2.2.2.1 && (e0.2.2.2.2.1 == e1.2.2.2.2.1 && true))))) then
         some ((false, ()))
        else
         J6 x0 x1 (Go.IntKind.wrap Go.IntKind.i64 (x2 + (1 : Int)))
     else
      none
  else
   none
 else
  some ((true, ()))
mutual
def ref34_SameRows_i6 : Nat → List Y2 → List Y2 → Int → Option Y8
 | 0, _, _, _ => none
 | n + 1, x0, x1, x2 => ref34_SameRows_c6 (ref34_SameRows_i6 n) x0 x1 x2
end
def ref34_SameRows (a0 a1 : List Y2) : Option Y8 := ref34_SameRows_c (ref34_SameRows_i6 fuel) a0 a1
abbrev ref34_SameRecords_T6 := List Y3 → List Y3 → Int → Option Y8
def ref34_SameRecords_c (J6 : ref34_SameRecords_T6) (a0 a1 : List Y3) : Option Y8 :=
 bif Int.ofNat (List.length a0) != Int.ofNat (List.length a1) then
  some ((false, ()))
 else
  J6 a0 a1 ((0 : Int))
def ref34_SameRecords_c6 (J6 : ref34_SameRecords_T6) (x0 x1 : List Y3) (x2 : Int) : Option Y8 :=
 bif decide (x2 < Int.ofNat (List.length x0)) then
  bif decide ((0 : Int) ≤ x2) then
   match x0[Int.toNat x2]? with
    | none => none
    | some e0 =>
     bif decide ((0 : Int) ≤ x2) then
      match x1[Int.toNat x2]? with
       | none => none
       | some e1 =>
        bif !(e0.1 == e1.1 && (e0.2.1 == e1.2.1 && (e0.2.2.1 == e1.2.2.1 && true))) then
         some ((false, ()))
        else
         J6 x0 x1 (Go.IntKind.wrap Go.IntKind.i64 (x2 + (1 : Int)))
     else
      none
  else
   none
 else
  some ((true, ()))
mutual
def ref34_SameRecords_i6 : Nat → List Y3 → List Y3 → Int → Option Y8
 | 0, _, _, _ => none
 | n + 1, x0, x1, x2 => ref34_SameRecords_c6 (ref34_SameRecords_i6 n) x0 x1 x2
end
def ref34_SameRecords (a0 a1 : List Y3) : Option Y8 := ref34_SameRecords_c (ref34_SameRecords_i6 fuel) a0 a1
def ref40_Equal (a0 a1 : List Y2 × List Y3 × Unit) : Option Y8 :=
 match ref34_SameRows a0.1 a1.1 with
  | none => none
  | some e0 =>
   bif e0.1 then
    match ref34_SameRecords a0.2.1 a1.2.1 with
     | none => none
     | some e1 =>
      some ((e1.1, ()))
   else
    some ((false, ()))
def law45_row : Option (Y2 × Unit) :=
 some ((((0 : Int), (0 : Int), (5 : Int), (2 : Int), (0 : Int), ()), ()))
abbrev ref37_Check_T6 := List Y5 → Int → Option (Int × Unit)
def ref37_Check_c (J6 : ref37_Check_T6) (a0 : List Y5) : Option (Int × Unit) :=
 bif decide (Int.ofNat (List.length a0) > (2000 : Int)) then
  some (((4 : Int), ()))
 else
  J6 a0 ((0 : Int))
def ref37_Check_c6 (J6 : ref37_Check_T6) (x0 : List Y5) (x1 : Int) : Option (Int × Unit) :=
 bif decide (x1 < Int.ofNat (List.length x0)) then
  bif decide ((0 : Int) ≤ x1) then
   match x0[Int.toNat x1]? with
    | none => none
    | some e0 =>
     bif decide (e0.1 < (0 : Int)) then
      some (((2 : Int), ()))
     else
      bif decide ((0 : Int) ≤ x1) then
       match x0[Int.toNat x1]? with
        | none => none
        | some e1 =>
         bif decide (e1.1 ≥ (20 : Int)) then
          some (((2 : Int), ()))
         else
          bif decide ((0 : Int) ≤ x1) then
           match x0[Int.toNat x1]? with
            | none => none
            | some e2 =>
             bif decide (e2.2.1 < (-1 : Int)) then
              some (((2 : Int), ()))
             else
              bif decide ((0 : Int) ≤ x1) then
               match x0[Int.toNat x1]? with
                | none => none
                | some e3 =>
                 bif decide (e3.2.1 ≥ (4 : Int)) then
                  some (((2 : Int), ()))
                 else
                  J6 x0 (Go.IntKind.wrap Go.IntKind.i64 (x1 + (1 : Int)))
              else
               none
          else
           none
      else
       none
  else
   none
 else
  some (((0 : Int), ()))
mutual
def ref37_Check_i6 : Nat → List Y5 → Int → Option (Int × Unit)
 | 0, _, _ => none
 | n + 1, x0, x1 => ref37_Check_c6 (ref37_Check_i6 n) x0 x1
end
def ref37_Check (a0 : List Y5) : Option (Int × Unit) := ref37_Check_c (ref37_Check_i6 fuel) a0
abbrev ref45_SamePicks_T6 := List Y5 → List Y5 → Int → Option Y8
def ref45_SamePicks_c (J6 : ref45_SamePicks_T6) (a0 a1 : List Y5) : Option Y8 :=
 bif Int.ofNat (List.length a0) != Int.ofNat (List.length a1) then
  some ((false, ()))
 else
  J6 a0 a1 ((0 : Int))
def ref45_SamePicks_c6 (J6 : ref45_SamePicks_T6) (x0 x1 : List Y5) (x2 : Int) : Option Y8 :=
 bif decide (x2 < Int.ofNat (List.length x0)) then
  bif decide ((0 : Int) ≤ x2) then
   match x0[Int.toNat x2]? with
    | none => none
    | some e0 =>
     bif decide ((0 : Int) ≤ x2) then
      match x1[Int.toNat x2]? with
       | none => none
       | some e1 =>
        bif !(e0.1 == e1.1 && (e0.2.1 == e1.2.1 && true)) then
         some ((false, ()))
        else
         J6 x0 x1 (Go.IntKind.wrap Go.IntKind.i64 (x2 + (1 : Int)))
     else
      none
  else
   none
 else
  some ((true, ()))
mutual
def ref45_SamePicks_i6 : Nat → List Y5 → List Y5 → Int → Option Y8
 | 0, _, _, _ => none
 | n + 1, x0, x1, x2 => ref45_SamePicks_c6 (ref45_SamePicks_i6 n) x0 x1 x2
end
def ref45_SamePicks (a0 a1 : List Y5) : Option Y8 := ref45_SamePicks_c (ref45_SamePicks_i6 fuel) a0 a1
abbrev ref45_Joined_T4 := List Y6 → List UInt8 → Int → Option ((List UInt8) × Unit)
def ref45_Joined_c (J4 : ref45_Joined_T4) (a0 : List Y6) : Option ((List UInt8) × Unit) :=
 J4 a0 ([]) ((0 : Int))
def ref45_Joined_c4 (J4 : ref45_Joined_T4) (x0 : List Y6) (x1 : List UInt8) (x2 : Int) : Option ((List UInt8) × Unit) :=
 bif decide (x2 < Int.ofNat (List.length x0)) then
  bif decide ((0 : Int) ≤ x2) then
   match x0[Int.toNat x2]? with
    | none => none
    | some e0 =>
     bif decide (List.length e0.1 + (1 : Nat) ≤ (9223372036854775807 : Nat)) then
      bif decide (List.length x1 + List.length (e0.1 ++ [(10 : UInt8)]) ≤ (9223372036854775807 : Nat)) then
       J4 x0 (x1 ++ (e0.1 ++ [(10 : UInt8)])) (Go.IntKind.wrap Go.IntKind.i64 (x2 + (1 : Int)))
      else
       none
     else
      none
  else
   none
 else
  some ((x1, ()))
mutual
def ref45_Joined_i4 : Nat → List Y6 → List UInt8 → Int → Option ((List UInt8) × Unit)
 | 0, _, _, _ => none
 | n + 1, x0, x1, x2 => ref45_Joined_c4 (ref45_Joined_i4 n) x0 x1 x2
end
def ref45_Joined (a0 : List Y6) : Option ((List UInt8) × Unit) := ref45_Joined_c (ref45_Joined_i4 fuel) a0
abbrev ref45_Split_T5 := List UInt8 → Int → List Y6 → Int → Int → Option Y7
def ref45_Split_c (J5 : ref45_Split_T5) (a0 : List UInt8) (a1 : Int) : Option Y7 :=
 J5 a0 a1 ([]) ((0 : Int)) ((0 : Int))
def ref45_Split_c5 (J5 : ref45_Split_T5) (x0 : List UInt8) (x1 : Int) (x2 : List Y6) (x3 x4 : Int) : Option Y7 :=
 bif decide (x4 < Int.ofNat (List.length x0)) then
  bif decide ((0 : Int) ≤ x4) then
   match x0[Int.toNat x4]? with
    | none => none
    | some e0 =>
     bif Int.ofNat (UInt8.toNat e0) == x1 then
      bif decide ((0 : Int) ≤ x4) then
       bif decide ((0 : Int) ≤ x3) then
        bif decide (Int.toNat x3 ≤ Int.toNat x4) && decide (Int.toNat x4 ≤ List.length x0) then
         bif bigOk (List.length x2 + List.length [(List.drop (Int.toNat x3) (List.take (Int.toNat x4) x0), ())]) (16 : Nat) then
          J5 x0 x1 (x2 ++ [(List.drop (Int.toNat x3) (List.take (Int.toNat x4) x0), ())]) (Go.IntKind.wrap Go.IntKind.i64 (x4 + (1 : Int))) (Go.IntKind.wrap Go.IntKind.i64 (x4 + (1 : Int)))
         else
          none
        else
         none
       else
        none
      else
       none
     else
      J5 x0 x1 x2 x3 (Go.IntKind.wrap Go.IntKind.i64 (x4 + (1 : Int)))
  else
   none
 else
  some ((x2, ()))
mutual
def ref45_Split_i5 : Nat → List UInt8 → Int → List Y6 → Int → Int → Option Y7
 | 0, _, _, _, _, _ => none
 | n + 1, x0, x1, x2, x3, x4 => ref45_Split_c5 (ref45_Split_i5 n) x0 x1 x2 x3 x4
end
def ref45_Split (a0 : List UInt8) (a1 : Int) : Option Y7 := ref45_Split_c (ref45_Split_i5 fuel) a0 a1
abbrev ref25_number_T2 := List UInt8 → Int → Option (Int × Unit)
abbrev ref25_number_T4 := List UInt8 → Int → Int → Option (Int × Unit)
def ref25_number_c (J2 : ref25_number_T2) (J4 : ref25_number_T4) (a0 : List UInt8) : Option (Int × Unit) :=
 J4 a0 ((0 : Int)) ((0 : Int))
def ref25_number_c2 (J2 : ref25_number_T2) (J4 : ref25_number_T4) (x0 : List UInt8) (x1 : Int) : Option (Int × Unit) :=
 bif decide (Int.ofNat (List.length x0) > (0 : Int)) then
  match x0[(0 : Nat)]? with
   | none => none
   | some e0 =>
    bif Int.ofNat (UInt8.toNat e0) == (45 : Int) then
     some ((x1, ()))
    else
     some ((Go.IntKind.wrap Go.IntKind.i64 ((0 : Int) - x1), ()))
 else
  some ((Go.IntKind.wrap Go.IntKind.i64 ((0 : Int) - x1), ()))
def ref25_number_c4 (J2 : ref25_number_T2) (J4 : ref25_number_T4) (x0 : List UInt8) (x1 x2 : Int) : Option (Int × Unit) :=
 bif decide (x2 < Int.ofNat (List.length x0)) then
  bif decide (x2 < (21 : Int)) then
   bif decide ((0 : Int) ≤ x2) then
    match x0[Int.toNat x2]? with
     | none => none
     | some e0 =>
      bif Int.ofNat (UInt8.toNat e0) != (45 : Int) then
       bif decide ((0 : Int) ≤ x2) then
        match x0[Int.toNat x2]? with
         | none => none
         | some e1 =>
          J4 x0 (Go.IntKind.wrap Go.IntKind.i64 (Go.IntKind.wrap Go.IntKind.i64 ((10 : Int) * x1) - Go.IntKind.wrap Go.IntKind.i64 (Go.IntKind.wrap Go.IntKind.u8 (Int.ofNat (UInt8.toNat e1) - (48 : Int))))) (Go.IntKind.wrap Go.IntKind.i64 (x2 + (1 : Int)))
       else
        none
      else
       J4 x0 x1 (Go.IntKind.wrap Go.IntKind.i64 (x2 + (1 : Int)))
   else
    none
  else
   J2 x0 x1
 else
  J2 x0 x1
mutual
def ref25_number_i2 : Nat → List UInt8 → Int → Option (Int × Unit)
 | 0, _, _ => none
 | n + 1, x0, x1 => ref25_number_c2 (ref25_number_i2 n) (ref25_number_i4 n) x0 x1
def ref25_number_i4 : Nat → List UInt8 → Int → Int → Option (Int × Unit)
 | 0, _, _, _ => none
 | n + 1, x0, x1, x2 => ref25_number_c4 (ref25_number_i2 n) (ref25_number_i4 n) x0 x1 x2
end
def ref25_number (a0 : List UInt8) : Option (Int × Unit) := ref25_number_c (ref25_number_i2 fuel) (ref25_number_i4 fuel) a0
/- internal/stringslite.HasSuffix -/
def internal_stringslite_HasSuffix (a0 a1 : List UInt8) : Option Y8 :=
 bif decide (Int.ofNat (List.length a0) ≥ Int.ofNat (List.length a1)) then
  bif decide ((0 : Int) ≤ Go.IntKind.wrap Go.IntKind.i64 (Int.ofNat (List.length a0) - Int.ofNat (List.length a1))) then
   bif decide (Int.toNat (Go.IntKind.wrap Go.IntKind.i64 (Int.ofNat (List.length a0) - Int.ofNat (List.length a1))) ≤ List.length a0) then
    some ((List.drop (Int.toNat (Go.IntKind.wrap Go.IntKind.i64 (Int.ofNat (List.length a0) - Int.ofNat (List.length a1)))) (List.take (List.length a0) a0) == a1, ()))
   else
    none
  else
   none
 else
  some ((false, ()))
/- internal/stringslite.TrimSuffix -/
def internal_stringslite_TrimSuffix (a0 a1 : List UInt8) : Option ((List UInt8) × Unit) :=
 match internal_stringslite_HasSuffix a0 a1 with
  | none => none
  | some e0 =>
   bif e0.1 then
    bif decide ((0 : Int) ≤ Go.IntKind.wrap Go.IntKind.i64 (Int.ofNat (List.length a0) - Int.ofNat (List.length a1))) then
     bif decide ((0 : Nat) ≤ Int.toNat (Go.IntKind.wrap Go.IntKind.i64 (Int.ofNat (List.length a0) - Int.ofNat (List.length a1)))) && decide (Int.toNat (Go.IntKind.wrap Go.IntKind.i64 (Int.ofNat (List.length a0) - Int.ofNat (List.length a1))) ≤ List.length a0) then
      some ((List.drop (0 : Nat) (List.take (Int.toNat (Go.IntKind.wrap Go.IntKind.i64 (Int.ofNat (List.length a0) - Int.ofNat (List.length a1)))) a0), ()))
     else
      none
    else
     none
   else
    some ((a0, ()))
/- strings.TrimSuffix -/
def strings_TrimSuffix (a0 a1 : List UInt8) : Option ((List UInt8) × Unit) :=
 match internal_stringslite_TrimSuffix a0 a1 with
  | none => none
  | some e0 =>
   some ((e0.1, ()))
abbrev ref25_said_T3 := List UInt8 → List (Int × Unit) → Int → Option ((List UInt8) × Unit)
def ref25_said_c (J3 : ref25_said_T3) (a0 : List UInt8) (a1 : List (Int × Unit)) : Option ((List UInt8) × Unit) :=
 J3 a0 a1 ((0 : Int))
def ref25_said_c3 (J3 : ref25_said_T3) (x0 : List UInt8) (x1 : List (Int × Unit)) (x2 : Int) : Option ((List UInt8) × Unit) :=
 bif decide (x2 < Int.ofNat (List.length x1)) then
  bif decide ((0 : Int) ≤ x2) then
   match x1[Int.toNat x2]? with
    | none => none
    | some e0 =>
     match ref01_Text e0.1 with
      | none => none
      | some e1 =>
       bif decide ((1 : Nat) + List.length e1.1 ≤ (9223372036854775807 : Nat)) then
        bif decide (List.length x0 + List.length ([(32 : UInt8)] ++ e1.1) ≤ (9223372036854775807 : Nat)) then
         J3 (x0 ++ ([(32 : UInt8)] ++ e1.1)) x1 (Go.IntKind.wrap Go.IntKind.i64 (x2 + (1 : Int)))
        else
         none
       else
        none
  else
   none
 else
  some ((x0, ()))
mutual
def ref25_said_i3 : Nat → List UInt8 → List (Int × Unit) → Int → Option ((List UInt8) × Unit)
 | 0, _, _, _ => none
 | n + 1, x0, x1, x2 => ref25_said_c3 (ref25_said_i3 n) x0 x1 x2
end
def ref25_said (a0 : List UInt8) (a1 : List (Int × Unit)) : Option ((List UInt8) × Unit) := ref25_said_c (ref25_said_i3 fuel) a0 a1
def ref25_Written (a0 : Int × Int × Int × Int × Int × Int × Int × Int × Int × Int × Unit) : Option ((List UInt8) × Unit) :=
 bif a0.1 == (1 : Int) then
  match ref25_said [(114 : UInt8), (101 : UInt8), (99 : UInt8), (111 : UInt8), (114 : UInt8), (100 : UInt8)] [(a0.2.1, ()), (a0.2.2.1, ()), (a0.2.2.2.1, ())] with
   | none => none
   | some e0 =>
    some ((e0.1, ()))
 else
  bif a0.1 == (2 : Int) then
   match ref25_said [(109 : UInt8), (97 : UInt8), (114 : UInt8), (107 : UInt8)] [(a0.2.2.2.2.1, ())] with
    | none => none
    | some e0 =>
     some ((e0.1, ()))
  else
   bif a0.1 == (3 : Int) then
    match ref25_said [(114 : UInt8), (111 : UInt8), (119 : UInt8)] [(a0.2.2.2.2.2.1, ()), (a0.2.2.2.2.2.2.1, ()), (a0.2.2.2.2.2.2.2.1, ()), (a0.2.2.2.2.2.2.2.2.1, ()), (a0.2.2.2.2.2.2.2.2.2.1, ())] with
     | none => none
     | some e0 =>
      some ((e0.1, ()))
   else
    match ref25_said [(108 : UInt8), (97 : UInt8), (116 : UInt8), (101 : UInt8)] [(a0.2.1, ()), (a0.2.2.1, ()), (a0.2.2.2.1, ())] with
     | none => none
     | some e0 =>
      some ((e0.1, ()))
abbrev ref45_Told_T2 := List Y3 → List Y6 → Option Y7
abbrev ref45_Told_T4 := List Y2 → List Y3 → List Y6 → Int → Option Y7
abbrev ref45_Told_T11 := List Y3 → List Y6 → Int → Option Y7
def ref45_Told_c (J2 : ref45_Told_T2) (J4 : ref45_Told_T4) (J11 : ref45_Told_T11) (a0 : List Y2 × List Y3 × Unit) : Option Y7 :=
 J4 (a0.1) (a0.2.1) ([]) ((0 : Int))
def ref45_Told_c2 (J2 : ref45_Told_T2) (J4 : ref45_Told_T4) (J11 : ref45_Told_T11) (x0 : List Y3) (x1 : List Y6) : Option Y7 :=
 J11 x0 x1 ((0 : Int))
def ref45_Told_c4 (J2 : ref45_Told_T2) (J4 : ref45_Told_T4) (J11 : ref45_Told_T11) (x0 : List Y2) (x1 : List Y3) (x2 : List Y6) (x3 : Int) : Option Y7 :=
 bif decide (x3 < Int.ofNat (List.length x0)) then
  bif decide ((0 : Int) ≤ x3) then
   match x0[Int.toNat x3]? with
    | none => none
    | some e0 =>
     match ref25_Written ((3 : Int), (0 : Int), (0 : Int), (0 : Int), (0 : Int), e0) with
      | none => none
      | some e1 =>
       bif bigOk (List.length x2 + List.length [(e1.1, ())]) (16 : Nat) then
        J4 x0 x1 (x2 ++ [(e1.1, ())]) (Go.IntKind.wrap Go.IntKind.i64 (x3 + (1 : Int)))
       else
        none
  else
   none
 else
  J2 x1 x2
def ref45_Told_c11 (J2 : ref45_Told_T2) (J4 : ref45_Told_T4) (J11 : ref45_Told_T11) (x0 : List Y3) (x1 : List Y6) (x2 : Int) : Option Y7 :=
 bif decide (x2 < Int.ofNat (List.length x0)) then
  bif decide ((0 : Int) ≤ x2) then
   match x0[Int.toNat x2]? with
    | none => none
    | some e0 =>
     match ref25_Written ((4 : Int), e0.1, e0.2.1, e0.2.2.1, (0 : Int), (0 : Int), (0 : Int), (0 : Int), (0 : Int), (0 : Int), ()) with
      | none => none
      | some e1 =>
       bif bigOk (List.length x1 + List.length [(e1.1, ())]) (16 : Nat) then
        J11 x0 (x1 ++ [(e1.1, ())]) (Go.IntKind.wrap Go.IntKind.i64 (x2 + (1 : Int)))
       else
        none
  else
   none
 else
  some ((x1, ()))
mutual
def ref45_Told_i2 : Nat → List Y3 → List Y6 → Option Y7
 | 0, _, _ => none
 | n + 1, x0, x1 => ref45_Told_c2 (ref45_Told_i2 n) (ref45_Told_i4 n) (ref45_Told_i11 n) x0 x1
def ref45_Told_i4 : Nat → List Y2 → List Y3 → List Y6 → Int → Option Y7
 | 0, _, _, _, _ => none
 | n + 1, x0, x1, x2, x3 => ref45_Told_c4 (ref45_Told_i2 n) (ref45_Told_i4 n) (ref45_Told_i11 n) x0 x1 x2 x3
def ref45_Told_i11 : Nat → List Y3 → List Y6 → Int → Option Y7
 | 0, _, _, _ => none
 | n + 1, x0, x1, x2 => ref45_Told_c11 (ref45_Told_i2 n) (ref45_Told_i4 n) (ref45_Told_i11 n) x0 x1 x2
end
def ref45_Told (a0 : List Y2 × List Y3 × Unit) : Option Y7 := ref45_Told_c (ref45_Told_i2 fuel) (ref45_Told_i4 fuel) (ref45_Told_i11 fuel) a0
def ref45_Outputs (a0 : List Y2 × List Y3 × Unit) : Option ((List UInt8) × Int × Unit) :=
 bif decide (Int.ofNat (List.length a0.1) > (4000 : Int)) then
  some (([], (4 : Int), ()))
 else
  bif decide (Int.ofNat (List.length a0.2.1) > (4000 : Int)) then
   some (([], (4 : Int), ()))
  else
   match ref45_Right a0 with
    | none => none
    | some e0 =>
     bif !e0.1 then
      some (([], (8 : Int), ()))
     else
      match ref45_Told a0 with
       | none => none
       | some e1 =>
        match ref45_Joined e1.1 with
         | none => none
         | some e2 =>
          some ((e2.1, (0 : Int), ()))
abbrev message_numbers_T7 := List (Int × Unit) → List Y6 → Int → Int → Option (List (Int × Unit) × Bool × Unit)
def message_numbers_c (J7 : message_numbers_T7) (a0 : List Y6) (a1 : Int) : Option (List (Int × Unit) × Bool × Unit) :=
 bif Int.ofNat (List.length a0) != a1 then
  some (([], false, ()))
 else
  J7 ([]) a0 (Int.ofNat (List.length a0)) ((0 : Int))
def message_numbers_c7 (J7 : message_numbers_T7) (x0 : List (Int × Unit)) (x1 : List Y6) (x2 x3 : Int) : Option (List (Int × Unit) × Bool × Unit) :=
 bif decide (x3 < x2) then
  bif decide ((0 : Int) ≤ x3) then
   match x1[Int.toNat x3]? with
    | none => none
    | some e0 =>
     match strconv_ParseInt e0.1 (10 : Int) (64 : Int) with
      | none => none
      | some e1 =>
       bif e1.2.1 then
        some (([], false, ()))
       else
        match strconv_FormatInt e1.1 (10 : Int) with
         | none => none
         | some e2 =>
          bif !e2.1 == e0.1 then
           some (([], false, ()))
          else
           bif bigOk (List.length x0 + List.length [(e1.1, ())]) (8 : Nat) then
            J7 (x0 ++ [(e1.1, ())]) x1 x2 (Go.IntKind.wrap Go.IntKind.i64 (x3 + (1 : Int)))
           else
            none
  else
   none
 else
  some ((x0, true, ()))
mutual
def message_numbers_i7 : Nat → List (Int × Unit) → List Y6 → Int → Int → Option (List (Int × Unit) × Bool × Unit)
 | 0, _, _, _, _ => none
 | n + 1, x0, x1, x2, x3 => message_numbers_c7 (message_numbers_i7 n) x0 x1 x2 x3
end
def message_numbers (a0 : List Y6) (a1 : Int) : Option (List (Int × Unit) × Bool × Unit) := message_numbers_c (message_numbers_i7 fuel) a0 a1
abbrev message_Read_T5 := List Y6 → Int → Int → Int → Int → Int → Int → Int → Int → Int → Int → Int → Option Y1
abbrev message_Read_T16 := Int → Int → Int → Int → Int → Int → Int → Int → Int → Int → Option Y1
def message_Read_c (J5 : message_Read_T5) (J16 : message_Read_T16) (a0 : List UInt8) : Option Y1 :=
 match strings_Split a0 [(32 : UInt8)] with
  | none => none
  | some e0 =>
   match e0.1[(0 : Nat)]? with
    | none => none
    | some e1 =>
     bif e1.1 == [(114 : UInt8), (101 : UInt8), (99 : UInt8), (111 : UInt8), (114 : UInt8), (100 : UInt8)] then
      J5 (e0.1) ((1 : Int)) ((0 : Int)) ((0 : Int)) ((0 : Int)) ((0 : Int)) ((0 : Int)) ((0 : Int)) ((0 : Int)) ((0 : Int)) ((0 : Int)) ((3 : Int))
     else
      bif e1.1 == [(108 : UInt8), (97 : UInt8), (116 : UInt8), (101 : UInt8)] then
       J5 (e0.1) ((4 : Int)) ((0 : Int)) ((0 : Int)) ((0 : Int)) ((0 : Int)) ((0 : Int)) ((0 : Int)) ((0 : Int)) ((0 : Int)) ((0 : Int)) ((3 : Int))
      else
       bif e1.1 == [(109 : UInt8), (97 : UInt8), (114 : UInt8), (107 : UInt8)] then
        J5 (e0.1) ((2 : Int)) ((0 : Int)) ((0 : Int)) ((0 : Int)) ((0 : Int)) ((0 : Int)) ((0 : Int)) ((0 : Int)) ((0 : Int)) ((0 : Int)) ((1 : Int))
       else
        bif e1.1 == [(114 : UInt8), (111 : UInt8), (119 : UInt8)] then
         J5 (e0.1) ((3 : Int)) ((0 : Int)) ((0 : Int)) ((0 : Int)) ((0 : Int)) ((0 : Int)) ((0 : Int)) ((0 : Int)) ((0 : Int)) ((0 : Int)) ((5 : Int))
        else
         J5 (e0.1) ((0 : Int)) ((0 : Int)) ((0 : Int)) ((0 : Int)) ((0 : Int)) ((0 : Int)) ((0 : Int)) ((0 : Int)) ((0 : Int)) ((0 : Int)) ((3 : Int))
def message_Read_c5 (J5 : message_Read_T5) (J16 : message_Read_T16) (x0 : List Y6) (x1 x2 x3 x4 x5 x6 x7 x8 x9 x10 x11 : Int) : Option Y1 :=
 bif decide ((1 : Nat) ≤ List.length x0) then
  match message_numbers (List.drop (1 : Nat) (List.take (List.length x0) x0)) x11 with
   | none => none
   | some e0 =>
    bif !e0.2.1 then
     some ((((0 : Int), (0 : Int), (0 : Int), (0 : Int), (0 : Int), (0 : Int), (0 : Int), (0 : Int), (0 : Int), (0 : Int), ()), (12 : Int), ()))
    else
     bif x1 == (2 : Int) then
      match e0.1[(0 : Nat)]? with
       | none => none
       | some e1 =>
        J16 x1 x2 x3 x4 (e1.1) x6 x7 x8 x9 x10
     else
      bif x1 == (3 : Int) then
       match e0.1[(0 : Nat)]? with
        | none => none
        | some e1 =>
         match e0.1[(1 : Nat)]? with
          | none => none
          | some e2 =>
           match e0.1[(2 : Nat)]? with
            | none => none
            | some e3 =>
             match e0.1[(3 : Nat)]? with
              | none => none
              | some e4 =>
               match e0.1[(4 : Nat)]? with
                | none => none
                | some e5 =>
                 J16 x1 x2 x3 x4 x5 (e1.1) (e2.1) (e3.1) (e4.1) (e5.1)
      else
       match e0.1[(0 : Nat)]? with
        | none => none
        | some e1 =>
         match e0.1[(1 : Nat)]? with
          | none => none
          | some e2 =>
           match e0.1[(2 : Nat)]? with
            | none => none
            | some e3 =>
             J16 x1 (e1.1) (e2.1) (e3.1) x5 x6 x7 x8 x9 x10
 else
  none
def message_Read_c16 (J5 : message_Read_T5) (J16 : message_Read_T16) (x0 x1 x2 x3 x4 x5 x6 x7 x8 x9 : Int) : Option Y1 :=
 match message_Check (x0, x1, x2, x3, x4, x5, x6, x7, x8, x9, ()) with
  | none => none
  | some e0 =>
   bif e0.1 != (0 : Int) then
    some ((((0 : Int), (0 : Int), (0 : Int), (0 : Int), (0 : Int), (0 : Int), (0 : Int), (0 : Int), (0 : Int), (0 : Int), ()), (12 : Int), ()))
   else
    some (((x0, x1, x2, x3, x4, x5, x6, x7, x8, x9, ()), (0 : Int), ()))
mutual
def message_Read_i5 : Nat → List Y6 → Int → Int → Int → Int → Int → Int → Int → Int → Int → Int → Int → Option Y1
 | 0, _, _, _, _, _, _, _, _, _, _, _, _ => none
 | n + 1, x0, x1, x2, x3, x4, x5, x6, x7, x8, x9, x10, x11 => message_Read_c5 (message_Read_i5 n) (message_Read_i16 n) x0 x1 x2 x3 x4 x5 x6 x7 x8 x9 x10 x11
def message_Read_i16 : Nat → Int → Int → Int → Int → Int → Int → Int → Int → Int → Int → Option Y1
 | 0, _, _, _, _, _, _, _, _, _, _ => none
 | n + 1, x0, x1, x2, x3, x4, x5, x6, x7, x8, x9 => message_Read_c16 (message_Read_i5 n) (message_Read_i16 n) x0 x1 x2 x3 x4 x5 x6 x7 x8 x9
end
def message_Read (a0 : List UInt8) : Option Y1 := message_Read_c (message_Read_i5 fuel) (message_Read_i16 fuel) a0
abbrev ref25_Read_T3 := List UInt8 → List Y6 → Option Y1
abbrev ref25_Read_T5 := List UInt8 → List Y6 → Int → Int → Option Y1
abbrev ref25_Read_T12 := List UInt8 → List Y6 → List (Int × Unit) → Option Y1
abbrev ref25_Read_T14 := List UInt8 → List Y6 → List (Int × Unit) → Int → Option Y1
abbrev ref25_Read_T20 := List UInt8 → Int → Int → Int → Int → Int → Int → Int → Int → Int → Int → Option Y1
def ref25_Read_c (J3 : ref25_Read_T3) (J5 : ref25_Read_T5) (J12 : ref25_Read_T12) (J14 : ref25_Read_T14) (J20 : ref25_Read_T20) (a0 : List UInt8) : Option Y1 :=
 J5 a0 ([]) ((0 : Int)) ((0 : Int))
def ref25_Read_c3 (J3 : ref25_Read_T3) (J5 : ref25_Read_T5) (J12 : ref25_Read_T12) (J14 : ref25_Read_T14) (J20 : ref25_Read_T20) (x0 : List UInt8) (x1 : List Y6) : Option Y1 :=
 J14 x0 x1 (List.replicate (6 : Nat) ((0 : Int), ())) ((1 : Int))
def ref25_Read_c5 (J3 : ref25_Read_T3) (J5 : ref25_Read_T5) (J12 : ref25_Read_T12) (J14 : ref25_Read_T14) (J20 : ref25_Read_T20) (x0 : List UInt8) (x1 : List Y6) (x2 x3 : Int) : Option Y1 :=
 bif decide (x3 ≤ Int.ofNat (List.length x0)) then
  bif x3 == Int.ofNat (List.length x0) then
   bif decide ((0 : Int) ≤ x3) then
    bif decide ((0 : Int) ≤ x2) then
     bif decide (Int.toNat x2 ≤ Int.toNat x3) && decide (Int.toNat x3 ≤ List.length x0) then
      bif bigOk (List.length x1 + List.length [(List.drop (Int.toNat x2) (List.take (Int.toNat x3) x0), ())]) (16 : Nat) then
       J5 x0 (x1 ++ [(List.drop (Int.toNat x2) (List.take (Int.toNat x3) x0), ())]) (Go.IntKind.wrap Go.IntKind.i64 (x3 + (1 : Int))) (Go.IntKind.wrap Go.IntKind.i64 (x3 + (1 : Int)))
      else
       none
     else
      none
    else
     none
   else
    none
  else
   bif decide ((0 : Int) ≤ x3) then
    match x0[Int.toNat x3]? with
     | none => none
     | some e0 =>
      bif Int.ofNat (UInt8.toNat e0) == (32 : Int) then
       bif decide ((0 : Int) ≤ x3) then
        bif decide ((0 : Int) ≤ x2) then
         bif decide (Int.toNat x2 ≤ Int.toNat x3) && decide (Int.toNat x3 ≤ List.length x0) then
          bif bigOk (List.length x1 + List.length [(List.drop (Int.toNat x2) (List.take (Int.toNat x3) x0), ())]) (16 : Nat) then
           J5 x0 (x1 ++ [(List.drop (Int.toNat x2) (List.take (Int.toNat x3) x0), ())]) (Go.IntKind.wrap Go.IntKind.i64 (x3 + (1 : Int))) (Go.IntKind.wrap Go.IntKind.i64 (x3 + (1 : Int)))
          else
           none
         else
          none
        else
         none
       else
        none
      else
       J5 x0 x1 x2 (Go.IntKind.wrap Go.IntKind.i64 (x3 + (1 : Int)))
   else
    none
 else
  J3 x0 x1
def ref25_Read_c12 (J3 : ref25_Read_T3) (J5 : ref25_Read_T5) (J12 : ref25_Read_T12) (J14 : ref25_Read_T14) (J20 : ref25_Read_T20) (x0 : List UInt8) (x1 : List Y6) (x2 : List (Int × Unit)) : Option Y1 :=
 bif decide ((0 : Nat) < List.length x1) then
  match x1[(0 : Nat)]? with
   | none => none
   | some e0 =>
    bif e0.1 == [(114 : UInt8), (101 : UInt8), (99 : UInt8), (111 : UInt8), (114 : UInt8), (100 : UInt8)] then
     bif decide ((1 : Nat) < List.length x2) then
      match x2[(1 : Nat)]? with
       | none => none
       | some e1 =>
        bif decide ((2 : Nat) < List.length x2) then
         match x2[(2 : Nat)]? with
          | none => none
          | some e2 =>
           bif decide ((3 : Nat) < List.length x2) then
            match x2[(3 : Nat)]? with
             | none => none
             | some e3 =>
              J20 x0 ((1 : Int)) (e1.1) (e2.1) (e3.1) ((0 : Int)) ((0 : Int)) ((0 : Int)) ((0 : Int)) ((0 : Int)) ((0 : Int))
           else
            none
        else
         none
     else
      none
    else
     bif e0.1 == [(108 : UInt8), (97 : UInt8), (116 : UInt8), (101 : UInt8)] then
      bif decide ((1 : Nat) < List.length x2) then
       match x2[(1 : Nat)]? with
        | none => none
        | some e1 =>
         bif decide ((2 : Nat) < List.length x2) then
          match x2[(2 : Nat)]? with
           | none => none
           | some e2 =>
            bif decide ((3 : Nat) < List.length x2) then
             match x2[(3 : Nat)]? with
              | none => none
              | some e3 =>
               J20 x0 ((4 : Int)) (e1.1) (e2.1) (e3.1) ((0 : Int)) ((0 : Int)) ((0 : Int)) ((0 : Int)) ((0 : Int)) ((0 : Int))
            else
             none
         else
          none
      else
       none
     else
      bif e0.1 == [(109 : UInt8), (97 : UInt8), (114 : UInt8), (107 : UInt8)] then
       bif decide ((1 : Nat) < List.length x2) then
        match x2[(1 : Nat)]? with
         | none => none
         | some e1 =>
          J20 x0 ((2 : Int)) ((0 : Int)) ((0 : Int)) ((0 : Int)) (e1.1) ((0 : Int)) ((0 : Int)) ((0 : Int)) ((0 : Int)) ((0 : Int))
       else
        none
      else
       bif e0.1 == [(114 : UInt8), (111 : UInt8), (119 : UInt8)] then
        bif decide ((1 : Nat) < List.length x2) then
         match x2[(1 : Nat)]? with
          | none => none
          | some e1 =>
           bif decide ((2 : Nat) < List.length x2) then
            match x2[(2 : Nat)]? with
             | none => none
             | some e2 =>
              bif decide ((3 : Nat) < List.length x2) then
               match x2[(3 : Nat)]? with
                | none => none
                | some e3 =>
                 bif decide ((4 : Nat) < List.length x2) then
                  match x2[(4 : Nat)]? with
                   | none => none
                   | some e4 =>
                    bif decide ((5 : Nat) < List.length x2) then
                     match x2[(5 : Nat)]? with
                      | none => none
                      | some e5 =>
                       J20 x0 ((3 : Int)) ((0 : Int)) ((0 : Int)) ((0 : Int)) ((0 : Int)) (e1.1) (e2.1) (e3.1) (e4.1) (e5.1)
                    else
                     none
                 else
                  none
              else
               none
           else
            none
        else
         none
       else
        J20 x0 ((0 : Int)) ((0 : Int)) ((0 : Int)) ((0 : Int)) ((0 : Int)) ((0 : Int)) ((0 : Int)) ((0 : Int)) ((0 : Int)) ((0 : Int))
 else
  none
def ref25_Read_c14 (J3 : ref25_Read_T3) (J5 : ref25_Read_T5) (J12 : ref25_Read_T12) (J14 : ref25_Read_T14) (J20 : ref25_Read_T20) (x0 : List UInt8) (x1 : List Y6) (x2 : List (Int × Unit)) (x3 : Int) : Option Y1 :=
 bif decide (x3 < Int.ofNat (List.length x1)) then
  bif decide (x3 < (6 : Int)) then
   bif decide ((0 : Int) ≤ x3) then
    bif decide (Int.toNat x3 < List.length x1) then
     match x1[Int.toNat x3]? with
      | none => none
      | some e0 =>
       match ref25_number e0.1 with
        | none => none
        | some e1 =>
         bif decide ((0 : Int) ≤ x3) then
          bif decide (Int.toNat x3 < List.length x2) then
           match x2[Int.toNat x3]? with
            | none => none
            | some e2 =>
             J14 x0 x1 (List.set x2 (Int.toNat x3) (e1.1, e2.2)) (Go.IntKind.wrap Go.IntKind.i64 (x3 + (1 : Int)))
          else
           none
         else
          none
    else
     none
   else
    none
  else
   J12 x0 x1 x2
 else
  J12 x0 x1 x2
def ref25_Read_c20 (J3 : ref25_Read_T3) (J5 : ref25_Read_T5) (J12 : ref25_Read_T12) (J14 : ref25_Read_T14) (J20 : ref25_Read_T20) (x0 : List UInt8) (x1 x2 x3 x4 x5 x6 x7 x8 x9 x10 : Int) : Option Y1 :=
 match ref25_Valid (x1, x2, x3, x4, x5, x6, x7, x8, x9, x10, ()) with
  | none => none
  | some e0 =>
   bif !e0.1 then
    some ((((0 : Int), (0 : Int), (0 : Int), (0 : Int), (0 : Int), (0 : Int), (0 : Int), (0 : Int), (0 : Int), (0 : Int), ()), (12 : Int), ()))
   else
    match ref25_Written (x1, x2, x3, x4, x5, x6, x7, x8, x9, x10, ()) with
     | none => none
     | some e1 =>
      bif !e1.1 == x0 then
       some ((((0 : Int), (0 : Int), (0 : Int), (0 : Int), (0 : Int), (0 : Int), (0 : Int), (0 : Int), (0 : Int), (0 : Int), ()), (12 : Int), ()))
      else
       some (((x1, x2, x3, x4, x5, x6, x7, x8, x9, x10, ()), (0 : Int), ()))
mutual
def ref25_Read_i3 : Nat → List UInt8 → List Y6 → Option Y1
 | 0, _, _ => none
 | n + 1, x0, x1 => ref25_Read_c3 (ref25_Read_i3 n) (ref25_Read_i5 n) (ref25_Read_i12 n) (ref25_Read_i14 n) (ref25_Read_i20 n) x0 x1
def ref25_Read_i5 : Nat → List UInt8 → List Y6 → Int → Int → Option Y1
 | 0, _, _, _, _ => none
 | n + 1, x0, x1, x2, x3 => ref25_Read_c5 (ref25_Read_i3 n) (ref25_Read_i5 n) (ref25_Read_i12 n) (ref25_Read_i14 n) (ref25_Read_i20 n) x0 x1 x2 x3
def ref25_Read_i12 : Nat → List UInt8 → List Y6 → List (Int × Unit) → Option Y1
 | 0, _, _, _ => none
 | n + 1, x0, x1, x2 => ref25_Read_c12 (ref25_Read_i3 n) (ref25_Read_i5 n) (ref25_Read_i12 n) (ref25_Read_i14 n) (ref25_Read_i20 n) x0 x1 x2
def ref25_Read_i14 : Nat → List UInt8 → List Y6 → List (Int × Unit) → Int → Option Y1
 | 0, _, _, _, _ => none
 | n + 1, x0, x1, x2, x3 => ref25_Read_c14 (ref25_Read_i3 n) (ref25_Read_i5 n) (ref25_Read_i12 n) (ref25_Read_i14 n) (ref25_Read_i20 n) x0 x1 x2 x3
def ref25_Read_i20 : Nat → List UInt8 → Int → Int → Int → Int → Int → Int → Int → Int → Int → Int → Option Y1
 | 0, _, _, _, _, _, _, _, _, _, _, _ => none
 | n + 1, x0, x1, x2, x3, x4, x5, x6, x7, x8, x9, x10 => ref25_Read_c20 (ref25_Read_i3 n) (ref25_Read_i5 n) (ref25_Read_i12 n) (ref25_Read_i14 n) (ref25_Read_i20 n) x0 x1 x2 x3 x4 x5 x6 x7 x8 x9 x10
end
def ref25_Read (a0 : List UInt8) : Option Y1 := ref25_Read_c (ref25_Read_i3 fuel) (ref25_Read_i5 fuel) (ref25_Read_i12 fuel) (ref25_Read_i14 fuel) (ref25_Read_i20 fuel) a0
abbrev ref45_ReadOutputs_T4 := List UInt8 → List Y2 → List Y3 → Option Y4
abbrev ref45_ReadOutputs_T6 := List UInt8 → List Y2 → List Y3 → List Y6 → Int → Option Y4
def ref45_ReadOutputs_c (J4 : ref45_ReadOutputs_T4) (J6 : ref45_ReadOutputs_T6) (a0 : List UInt8) : Option Y4 :=
 match ref45_Split a0 (10 : Int) with
  | none => none
  | some e0 =>
   J6 a0 ([]) ([]) (e0.1) ((0 : Int))
def ref45_ReadOutputs_c4 (J4 : ref45_ReadOutputs_T4) (J6 : ref45_ReadOutputs_T6) (x0 : List UInt8) (x1 : List Y2) (x2 : List Y3) : Option Y4 :=
 match ref45_Outputs (x1, x2, ()) with
  | none => none
  | some e0 =>
   bif e0.2.1 != (0 : Int) then
    some ((([], [], ()), (12 : Int), ()))
   else
    bif !e0.1 == x0 then
     some ((([], [], ()), (12 : Int), ()))
    else
     some (((x1, x2, ()), (0 : Int), ()))
def ref45_ReadOutputs_c6 (J4 : ref45_ReadOutputs_T4) (J6 : ref45_ReadOutputs_T6) (x0 : List UInt8) (x1 : List Y2) (x2 : List Y3) (x3 : List Y6) (x4 : Int) : Option Y4 :=
 bif decide (x4 < Int.ofNat (List.length x3)) then
  bif decide ((0 : Int) ≤ x4) then
   bif decide (Int.toNat x4 < List.length x3) then
    match x3[Int.toNat x4]? with
     | none => none
     | some e0 =>
      match ref25_Read e0.1 with
       | none => none
       | some e1 =>
        bif e1.2.1 != (0 : Int) then
         some ((([], [], ()), (12 : Int), ()))
        else
         bif e1.1.1 == (3 : Int) then
          bif bigOk (List.length x1 + List.length [e1.1.2.2.2.2.2]) (40 : Nat) then
           J6 x0 (x1 ++ [e1.1.2.2.2.2.2]) x2 x3 (Go.IntKind.wrap Go.IntKind.i64 (x4 + (1 : Int)))
          else
           none
         else
          bif e1.1.1 == (4 : Int) then
           bif bigOk (List.length x2 + List.length [(e1.1.2.1, e1.1.2.2.1, e1.1.2.2.2.1, ())]) (24 : Nat) then
            J6 x0 x1 (x2 ++ [(e1.1.2.1, e1.1.2.2.1, e1.1.2.2.2.1, ())]) x3 (Go.IntKind.wrap Go.IntKind.i64 (x4 + (1 : Int)))
           else
            none
          else
           J6 x0 x1 x2 x3 (Go.IntKind.wrap Go.IntKind.i64 (x4 + (1 : Int)))
   else
    none
  else
   none
 else
  J4 x0 x1 x2
mutual
def ref45_ReadOutputs_i4 : Nat → List UInt8 → List Y2 → List Y3 → Option Y4
 | 0, _, _, _ => none
 | n + 1, x0, x1, x2 => ref45_ReadOutputs_c4 (ref45_ReadOutputs_i4 n) (ref45_ReadOutputs_i6 n) x0 x1 x2
def ref45_ReadOutputs_i6 : Nat → List UInt8 → List Y2 → List Y3 → List Y6 → Int → Option Y4
 | 0, _, _, _, _, _ => none
 | n + 1, x0, x1, x2, x3, x4 => ref45_ReadOutputs_c6 (ref45_ReadOutputs_i4 n) (ref45_ReadOutputs_i6 n) x0 x1 x2 x3 x4
end
def ref45_ReadOutputs (a0 : List UInt8) : Option Y4 := ref45_ReadOutputs_c (ref45_ReadOutputs_i4 fuel) (ref45_ReadOutputs_i6 fuel) a0
abbrev lines_ReadOutputs_T2 := List UInt8 → List Y2 → List Y3 → Option Y4
abbrev lines_ReadOutputs_T8 := List UInt8 → List UInt8 → List Y2 → List Y3 → Option Y4
abbrev lines_ReadOutputs_T12 := List UInt8 → List UInt8 → List UInt8 → List Y2 → List Y3 → Option Y4
def lines_ReadOutputs_c (J2 : lines_ReadOutputs_T2) (J8 : lines_ReadOutputs_T8) (J12 : lines_ReadOutputs_T12) (a0 : List UInt8) : Option Y4 :=
 J8 a0 a0 ([]) ([])
def lines_ReadOutputs_c2 (J2 : lines_ReadOutputs_T2) (J8 : lines_ReadOutputs_T8) (J12 : lines_ReadOutputs_T12) (x0 : List UInt8) (x1 : List Y2) (x2 : List Y3) : Option Y4 :=
 match lines_Outputs (x1, x2, ()) with
  | none => none
  | some e0 =>
   bif e0.2.1 != (0 : Int) then
    some ((([], [], ()), (12 : Int), ()))
   else
    bif !e0.1 == x0 then
     some ((([], [], ()), (12 : Int), ()))
    else
     some (((x1, x2, ()), (0 : Int), ()))
def lines_ReadOutputs_c8 (J2 : lines_ReadOutputs_T2) (J8 : lines_ReadOutputs_T8) (J12 : lines_ReadOutputs_T12) (x0 x1 : List UInt8) (x2 : List Y2) (x3 : List Y3) : Option Y4 :=
 bif decide (Int.ofNat (List.length x0) > (0 : Int)) then
  bif decide (Go.Lib.indexByte x0 (Nat.toUInt8 (Int.toNat (10 : Int))) ≥ (0 : Int)) then
   bif decide ((0 : Int) ≤ Go.IntKind.wrap Go.IntKind.i64 (Go.Lib.indexByte x0 (Nat.toUInt8 (Int.toNat (10 : Int))) + (1 : Int))) then
    bif decide ((0 : Nat) ≤ Int.toNat (Go.IntKind.wrap Go.IntKind.i64 (Go.Lib.indexByte x0 (Nat.toUInt8 (Int.toNat (10 : Int))) + (1 : Int)))) && decide (Int.toNat (Go.IntKind.wrap Go.IntKind.i64 (Go.Lib.indexByte x0 (Nat.toUInt8 (Int.toNat (10 : Int))) + (1 : Int))) ≤ List.length x0) then
     bif decide ((0 : Int) ≤ Go.IntKind.wrap Go.IntKind.i64 (Go.Lib.indexByte x0 (Nat.toUInt8 (Int.toNat (10 : Int))) + (1 : Int))) then
      bif decide (Int.toNat (Go.IntKind.wrap Go.IntKind.i64 (Go.Lib.indexByte x0 (Nat.toUInt8 (Int.toNat (10 : Int))) + (1 : Int))) ≤ List.length x0) then
       J12 (List.drop (Int.toNat (Go.IntKind.wrap Go.IntKind.i64 (Go.Lib.indexByte x0 (Nat.toUInt8 (Int.toNat (10 : Int))) + (1 : Int)))) (List.take (List.length x0) x0)) (List.drop (0 : Nat) (List.take (Int.toNat (Go.IntKind.wrap Go.IntKind.i64 (Go.Lib.indexByte x0 (Nat.toUInt8 (Int.toNat (10 : Int))) + (1 : Int)))) x0)) x1 x2 x3
      else
       none
     else
      none
    else
     none
   else
    none
  else
   J12 ([]) x0 x1 x2 x3
 else
  J2 x1 x2 x3
def lines_ReadOutputs_c12 (J2 : lines_ReadOutputs_T2) (J8 : lines_ReadOutputs_T8) (J12 : lines_ReadOutputs_T12) (x0 x1 x2 : List UInt8) (x3 : List Y2) (x4 : List Y3) : Option Y4 :=
 match strings_TrimSuffix x1 [(10 : UInt8)] with
  | none => none
  | some e0 =>
   match message_Read e0.1 with
    | none => none
    | some e1 =>
     bif e1.2.1 != (0 : Int) then
      some ((([], [], ()), (12 : Int), ()))
     else
      bif e1.1.1 == (3 : Int) then
       bif bigOk (List.length x3 + List.length [e1.1.2.2.2.2.2]) (40 : Nat) then
        J8 x0 x2 (x3 ++ [e1.1.2.2.2.2.2]) x4
       else
        none
      else
       bif e1.1.1 == (4 : Int) then
        bif bigOk (List.length x4 + List.length [(e1.1.2.1, e1.1.2.2.1, e1.1.2.2.2.1, ())]) (24 : Nat) then
         J8 x0 x2 x3 (x4 ++ [(e1.1.2.1, e1.1.2.2.1, e1.1.2.2.2.1, ())])
        else
         none
       else
        J8 x0 x2 x3 x4
mutual
def lines_ReadOutputs_i2 : Nat → List UInt8 → List Y2 → List Y3 → Option Y4
 | 0, _, _, _ => none
 | n + 1, x0, x1, x2 => lines_ReadOutputs_c2 (lines_ReadOutputs_i2 n) (lines_ReadOutputs_i8 n) (lines_ReadOutputs_i12 n) x0 x1 x2
def lines_ReadOutputs_i8 : Nat → List UInt8 → List UInt8 → List Y2 → List Y3 → Option Y4
 | 0, _, _, _, _ => none
 | n + 1, x0, x1, x2, x3 => lines_ReadOutputs_c8 (lines_ReadOutputs_i2 n) (lines_ReadOutputs_i8 n) (lines_ReadOutputs_i12 n) x0 x1 x2 x3
def lines_ReadOutputs_i12 : Nat → List UInt8 → List UInt8 → List UInt8 → List Y2 → List Y3 → Option Y4
 | 0, _, _, _, _, _ => none
 | n + 1, x0, x1, x2, x3, x4 => lines_ReadOutputs_c12 (lines_ReadOutputs_i2 n) (lines_ReadOutputs_i8 n) (lines_ReadOutputs_i12 n) x0 x1 x2 x3 x4
end
def lines_ReadOutputs (a0 : List UInt8) : Option Y4 := lines_ReadOutputs_c (lines_ReadOutputs_i2 fuel) (lines_ReadOutputs_i8 fuel) (lines_ReadOutputs_i12 fuel) a0
def lines_pick (a0 : Int × Int × Unit) : Option ((List UInt8) × Unit) :=
 match strconv_Itoa a0.1 with
  | none => none
  | some e0 =>
   bif decide (a0.2.1 ≥ (0 : Int)) then
    match strconv_Itoa a0.2.1 with
     | none => none
     | some e1 =>
      bif decide ((1 : Nat) + List.length e1.1 ≤ (9223372036854775807 : Nat)) then
       bif decide (List.length e0.1 + List.length ([(46 : UInt8)] ++ e1.1) ≤ (9223372036854775807 : Nat)) then
        some ((e0.1 ++ ([(46 : UInt8)] ++ e1.1), ()))
       else
        none
      else
       none
   else
    some ((e0.1, ()))
abbrev run_Check_T13 := List Y5 → Int → Int → Option (Int × Unit)
def run_Check_c (J13 : run_Check_T13) (a0 : List Y5) : Option (Int × Unit) :=
 bif decide (Int.ofNat (List.length a0) > (2000 : Int)) then
  some (((4 : Int), ()))
 else
  J13 a0 (Int.ofNat (List.length a0)) ((0 : Int))
def run_Check_c13 (J13 : run_Check_T13) (x0 : List Y5) (x1 x2 : Int) : Option (Int × Unit) :=
 bif decide (x2 < x1) then
  bif decide ((0 : Int) ≤ x2) then
   match x0[Int.toNat x2]? with
    | none => none
    | some e0 =>
     bif decide (e0.1 < (0 : Int)) then
      bif decide (x2 ≥ (0 : Int)) then
       some (((2 : Int), ()))
      else
       some (((0 : Int), ()))
     else
      bif decide (e0.1 ≥ (20 : Int)) then
       bif decide (x2 ≥ (0 : Int)) then
        some (((2 : Int), ()))
       else
        some (((0 : Int), ()))
      else
       bif decide (e0.2.1 < (-1 : Int)) then
        bif decide (x2 ≥ (0 : Int)) then
         some (((2 : Int), ()))
        else
         some (((0 : Int), ()))
       else
        bif decide (e0.2.1 ≥ (4 : Int)) then
         bif decide (x2 ≥ (0 : Int)) then
          some (((2 : Int), ()))
         else
          some (((0 : Int), ()))
        else
         J13 x0 x1 (Go.IntKind.wrap Go.IntKind.i64 (x2 + (1 : Int)))
  else
   none
 else
  some (((0 : Int), ()))
mutual
def run_Check_i13 : Nat → List Y5 → Int → Int → Option (Int × Unit)
 | 0, _, _, _ => none
 | n + 1, x0, x1, x2 => run_Check_c13 (run_Check_i13 n) x0 x1 x2
end
def run_Check (a0 : List Y5) : Option (Int × Unit) := run_Check_c (run_Check_i13 fuel) a0
abbrev lines_Script_T9 := List Y6 → List Y5 → Int → Int → Option ((List UInt8) × Int × Unit)
def lines_Script_c (J9 : lines_Script_T9) (a0 : List Y5) : Option ((List UInt8) × Int × Unit) :=
 match run_Check a0 with
  | none => none
  | some e0 =>
   bif e0.1 != (0 : Int) then
    some (([], e0.1, ()))
   else
    bif decide (Int.toNat (Int.ofNat (List.length a0)) ≤ Int.toNat (Int.ofNat (List.length a0))) && (decide ((16 : Nat) * Int.toNat (Int.ofNat (List.length a0)) ≤ (281474976710656 : Nat)) && decide (Int.toNat (Int.ofNat (List.length a0)) ≤ (9223372036854775807 : Nat))) then
     J9 (List.replicate (Int.toNat (Int.ofNat (List.length a0))) ([], ())) a0 (Int.ofNat (List.length a0)) ((0 : Int))
    else
     none
def lines_Script_c9 (J9 : lines_Script_T9) (x0 : List Y6) (x1 : List Y5) (x2 x3 : Int) : Option ((List UInt8) × Int × Unit) :=
 bif decide (x3 < x2) then
  bif decide ((0 : Int) ≤ x3) then
   match x1[Int.toNat x3]? with
    | none => none
    | some e0 =>
     match lines_pick e0 with
      | none => none
      | some e1 =>
       bif decide ((0 : Int) ≤ x3) then
        bif decide (Int.toNat x3 < List.length x0) then
         match x0[Int.toNat x3]? with
          | none => none
          | some e2 =>
           J9 (List.set x0 (Int.toNat x3) (e1.1, e2.2)) x1 x2 (Go.IntKind.wrap Go.IntKind.i64 (x3 + (1 : Int)))
        else
         none
       else
        none
  else
   none
 else
  match strings_Join x0 [(32 : UInt8)] with
   | none => none
   | some e0 =>
    some ((e0.1, (0 : Int), ()))
mutual
def lines_Script_i9 : Nat → List Y6 → List Y5 → Int → Int → Option ((List UInt8) × Int × Unit)
 | 0, _, _, _, _ => none
 | n + 1, x0, x1, x2, x3 => lines_Script_c9 (lines_Script_i9 n) x0 x1 x2 x3
end
def lines_Script (a0 : List Y5) : Option ((List UInt8) × Int × Unit) := lines_Script_c (lines_Script_i9 fuel) a0
abbrev lines_ReadScript_T25 := List UInt8 → List Y5 → Option (List Y5 × Int × Unit)
abbrev lines_ReadScript_T26 := List UInt8 → List UInt8 → Int → List Y5 → Option (List Y5 × Int × Unit)
abbrev lines_ReadScript_T44 := List Y5 → List UInt8 → Int → Int → List UInt8 → List UInt8 → Int → Int → Option (List Y5 × Int × Unit)
abbrev lines_ReadScript_T64 := List Y5 → List UInt8 → Int → Int → Option (List Y5 × Int × Unit)
def lines_ReadScript_c (J25 : lines_ReadScript_T25) (J26 : lines_ReadScript_T26) (J44 : lines_ReadScript_T44) (J64 : lines_ReadScript_T64) (a0 : List UInt8) : Option (List Y5 × Int × Unit) :=
 bif a0 == [] then
  some (([], (0 : Int), ()))
 else
  J26 ([(32 : UInt8)]) a0 ((0 : Int)) ([])
def lines_ReadScript_c25 (J25 : lines_ReadScript_T25) (J26 : lines_ReadScript_T26) (J44 : lines_ReadScript_T44) (J64 : lines_ReadScript_T64) (x0 : List UInt8) (x1 : List Y5) : Option (List Y5 × Int × Unit) :=
 match strings_Cut x0 [(46 : UInt8)] with
  | none => none
  | some e0 =>
   match strconv_Atoi e0.1 with
    | none => none
    | some e1 =>
     bif e1.2.1 then
      some (([], (12 : Int), ()))
     else
      bif e0.2.2.1 then
       match strconv_Atoi e0.2.1 with
        | none => none
        | some e2 =>
         bif e2.2.1 then
          some (([], (12 : Int), ()))
         else
          J64 x1 x0 (e1.1) (e2.1)
      else
       J64 x1 x0 (e1.1) ((-1 : Int))
def lines_ReadScript_c26 (J25 : lines_ReadScript_T25) (J26 : lines_ReadScript_T26) (J44 : lines_ReadScript_T44) (J64 : lines_ReadScript_T64) (x0 x1 : List UInt8) (x2 : Int) (x3 : List Y5) : Option (List Y5 × Int × Unit) :=
 match strings_Index x1 x0 with
  | none => none
  | some e0 =>
   bif decide (e0.1 < (0 : Int)) then
    J25 x1 x3
   else
    bif decide ((0 : Int) ≤ Go.IntKind.wrap Go.IntKind.i64 (e0.1 + x2)) then
     bif decide ((0 : Nat) ≤ Int.toNat (Go.IntKind.wrap Go.IntKind.i64 (e0.1 + x2))) && decide (Int.toNat (Go.IntKind.wrap Go.IntKind.i64 (e0.1 + x2)) ≤ List.length x1) then
      match strings_Cut (List.drop (0 : Nat) (List.take (Int.toNat (Go.IntKind.wrap Go.IntKind.i64 (e0.1 + x2))) x1)) [(46 : UInt8)] with
       | none => none
       | some e1 =>
        match strconv_Atoi e1.1 with
         | none => none
         | some e2 =>
          bif e2.2.1 then
           some (([], (12 : Int), ()))
          else
           bif e1.2.2.1 then
            match strconv_Atoi e1.2.1 with
             | none => none
             | some e3 =>
              bif e3.2.1 then
               some (([], (12 : Int), ()))
              else
               J44 x3 (List.drop (0 : Nat) (List.take (Int.toNat (Go.IntKind.wrap Go.IntKind.i64 (e0.1 + x2))) x1)) (e2.1) (e3.1) x0 x1 x2 (e0.1)
           else
            J44 x3 (List.drop (0 : Nat) (List.take (Int.toNat (Go.IntKind.wrap Go.IntKind.i64 (e0.1 + x2))) x1)) (e2.1) ((-1 : Int)) x0 x1 x2 (e0.1)
     else
      none
    else
     none
def lines_ReadScript_c44 (J25 : lines_ReadScript_T25) (J26 : lines_ReadScript_T26) (J44 : lines_ReadScript_T44) (J64 : lines_ReadScript_T64) (x0 : List Y5) (x1 : List UInt8) (x2 x3 : Int) (x4 x5 : List UInt8) (x6 x7 : Int) : Option (List Y5 × Int × Unit) :=
 match lines_pick (x2, x3, ()) with
  | none => none
  | some e0 =>
   bif !e0.1 == x1 then
    some (([], (12 : Int), ()))
   else
    bif bigOk (List.length x0 + List.length [(x2, x3, ())]) (16 : Nat) then
     bif decide ((0 : Int) ≤ Go.IntKind.wrap Go.IntKind.i64 (x7 + Int.ofNat (List.length x4))) then
      bif decide (Int.toNat (Go.IntKind.wrap Go.IntKind.i64 (x7 + Int.ofNat (List.length x4))) ≤ List.length x5) then
       J26 x4 (List.drop (Int.toNat (Go.IntKind.wrap Go.IntKind.i64 (x7 + Int.ofNat (List.length x4)))) (List.take (List.length x5) x5)) x6 (x0 ++ [(x2, x3, ())])
      else
       none
     else
      none
    else
     none
def lines_ReadScript_c64 (J25 : lines_ReadScript_T25) (J26 : lines_ReadScript_T26) (J44 : lines_ReadScript_T44) (J64 : lines_ReadScript_T64) (x0 : List Y5) (x1 : List UInt8) (x2 x3 : Int) : Option (List Y5 × Int × Unit) :=
 match lines_pick (x2, x3, ()) with
  | none => none
  | some e0 =>
   bif !e0.1 == x1 then
    some (([], (12 : Int), ()))
   else
    bif bigOk (List.length x0 + List.length [(x2, x3, ())]) (16 : Nat) then
     match run_Check (x0 ++ [(x2, x3, ())]) with
      | none => none
      | some e1 =>
       bif e1.1 != (0 : Int) then
        some (([], (12 : Int), ()))
       else
        some ((x0 ++ [(x2, x3, ())], (0 : Int), ()))
    else
     none
mutual
def lines_ReadScript_i25 : Nat → List UInt8 → List Y5 → Option (List Y5 × Int × Unit)
 | 0, _, _ => none
 | n + 1, x0, x1 => lines_ReadScript_c25 (lines_ReadScript_i25 n) (lines_ReadScript_i26 n) (lines_ReadScript_i44 n) (lines_ReadScript_i64 n) x0 x1
def lines_ReadScript_i26 : Nat → List UInt8 → List UInt8 → Int → List Y5 → Option (List Y5 × Int × Unit)
 | 0, _, _, _, _ => none
 | n + 1, x0, x1, x2, x3 => lines_ReadScript_c26 (lines_ReadScript_i25 n) (lines_ReadScript_i26 n) (lines_ReadScript_i44 n) (lines_ReadScript_i64 n) x0 x1 x2 x3
def lines_ReadScript_i44 : Nat → List Y5 → List UInt8 → Int → Int → List UInt8 → List UInt8 → Int → Int → Option (List Y5 × Int × Unit)
 | 0, _, _, _, _, _, _, _, _ => none
 | n + 1, x0, x1, x2, x3, x4, x5, x6, x7 => lines_ReadScript_c44 (lines_ReadScript_i25 n) (lines_ReadScript_i26 n) (lines_ReadScript_i44 n) (lines_ReadScript_i64 n) x0 x1 x2 x3 x4 x5 x6 x7
def lines_ReadScript_i64 : Nat → List Y5 → List UInt8 → Int → Int → Option (List Y5 × Int × Unit)
 | 0, _, _, _, _ => none
 | n + 1, x0, x1, x2, x3 => lines_ReadScript_c64 (lines_ReadScript_i25 n) (lines_ReadScript_i26 n) (lines_ReadScript_i44 n) (lines_ReadScript_i64 n) x0 x1 x2 x3
end
def lines_ReadScript (a0 : List UInt8) : Option (List Y5 × Int × Unit) := lines_ReadScript_c (lines_ReadScript_i25 fuel) (lines_ReadScript_i26 fuel) (lines_ReadScript_i44 fuel) (lines_ReadScript_i64 fuel) a0
def law45_says (a0 : List Y2 × List Y3 × Unit) (a1 : List UInt8) : Option Y8 :=
 match lines_Outputs a0 with
  | none => none
  | some e0 =>
   match lines_ReadOutputs a1 with
    | none => none
    | some e1 =>
     bif e0.2.1 == (0 : Int) then
      bif e0.1 == a1 then
       bif e1.2.1 == (0 : Int) then
        match ref40_Equal a0 e1.1 with
         | none => none
         | some e2 =>
          some ((e2.1, ()))
       else
        some ((false, ()))
      else
       some ((false, ()))
     else
      some ((false, ()))
def law45_picks (a0 : List Y5) (a1 : List UInt8) : Option Y8 :=
 match lines_Script a0 with
  | none => none
  | some e0 =>
   match lines_ReadScript a1 with
    | none => none
    | some e1 =>
     bif e0.2.1 == (0 : Int) then
      bif e0.1 == a1 then
       bif e1.2.1 == (0 : Int) then
        match ref45_SamePicks a0 e1.1 with
         | none => none
         | some e2 =>
          some ((e2.1, ()))
       else
        some ((false, ()))
      else
       some ((false, ()))
     else
      some ((false, ()))
def law45_alive : Option Y8 :=
 some ((true, ()))
def law45_LinesOutputs (a0 : List Y2 × List Y3 × Unit) (a1 : List UInt8) : Option Y8 :=
 match ref40_Great a0 with
  | none => none
  | some e0 =>
   bif e0.1 then
    some ((true, ()))
   else
    bif decide (Int.ofNat (List.length a1) > (1000 : Int)) then
     some ((true, ()))
    else
     match lines_Outputs a0 with
      | none => none
      | some e1 =>
       match ref45_Outputs a0 with
        | none => none
        | some e2 =>
         match lines_ReadOutputs a1 with
          | none => none
          | some e3 =>
           match ref45_ReadOutputs a1 with
            | none => none
            | some e4 =>
             bif e1.1 == e2.1 then
              bif e1.2.1 == e2.2.1 then
               match ref40_Equal e3.1 e4.1 with
                | none => none
                | some e5 =>
                 bif e5.1 then
                  some ((e3.2.1 == e4.2.1, ()))
                 else
                  some ((false, ()))
              else
               some ((false, ()))
             else
              some ((false, ()))
end Tg
