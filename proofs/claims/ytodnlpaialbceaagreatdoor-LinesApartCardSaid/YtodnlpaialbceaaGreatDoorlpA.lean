import Derived.Test.YtodnlpaialbceaaGreatDoorlgA
/- The functions of the code, as plain functions: printed from the code. -/
set_option linter.unusedVariables false
set_option linter.unusedSimpArgs false
namespace Tg
open Go.Abs (fuel bigOk cloned tmm dropD CT)
abbrev X1 := Int × Int × Int × Int × Int × Unit
abbrev X2 := Int × Int × Int × Unit
abbrev X3 := Int × Int × Unit
abbrev X4 := (Int × Int × Int × Int × Int × Int × Int × Int × Int × Int × Unit) × Int × Unit
abbrev X5 := (List X1 × List X2 × Unit) × Int × Unit
def message_isTime (a0 : Int) : Option (Bool × Unit) :=
 bif decide (a0 ≥ (-1099511627776 : Int)) then
  some ((decide (a0 ≤ (1099511627776 : Int)), ()))
 else
  some ((false, ()))
def message_isMark (a0 : Int) : Option (Bool × Unit) :=
 match message_isTime a0 with
  | none => none
  | some e0 =>
   bif e0.1 then
    some ((true, ()))
   else
    some ((a0 == (9223372036854775807 : Int), ()))
abbrev message_Check_T3 := Int → Int → Int → Int → Int → Int → Int → Int → Int → Int → Bool → Int → Int → Int → Int → Int → Int → Int → Int → Int → Int → Option (Int × Unit)
abbrev message_Check_T5 := Int → Int → Int → Int → Int → Int → Int → Int → Int → Int → Bool → Int → Int → Int → Int → Int → Int → Int → Int → Int → Int → Int → Bool → Option (Int × Unit)
def message_Check_c (J3 : message_Check_T3) (J5 : message_Check_T5) (a0 : Int × Int × Int × Int × Int × Int × Int × Int × Int × Int × Unit) : Option (Int × Unit) :=
 bif a0.1 == (1 : Int) then
  J5 (a0.1) (a0.2.1) (a0.2.2.1) (a0.2.2.2.1) (a0.2.2.2.2.1) (a0.2.2.2.2.2.1) (a0.2.2.2.2.2.2.1) (a0.2.2.2.2.2.2.2.1) (a0.2.2.2.2.2.2.2.2.1) (a0.2.2.2.2.2.2.2.2.2.1) (false) (a0.1) ((0 : Int)) ((0 : Int)) ((0 : Int)) ((0 : Int)) ((0 : Int)) ((0 : Int)) ((0 : Int)) ((0 : Int)) ((0 : Int)) (a0.1) (true)
 else
  J5 (a0.1) (a0.2.1) (a0.2.2.1) (a0.2.2.2.1) (a0.2.2.2.2.1) (a0.2.2.2.2.2.1) (a0.2.2.2.2.2.2.1) (a0.2.2.2.2.2.2.2.1) (a0.2.2.2.2.2.2.2.2.1) (a0.2.2.2.2.2.2.2.2.2.1) (false) (a0.1) ((0 : Int)) ((0 : Int)) ((0 : Int)) ((0 : Int)) ((0 : Int)) ((0 : Int)) ((0 : Int)) ((0 : Int)) ((0 : Int)) (a0.1) (a0.1 == (4 : Int))
def message_Check_c3 (J3 : message_Check_T3) (J5 : message_Check_T5) (x0 x1 x2 x3 x4 x5 x6 x7 x8 x9 : Int) (x10 : Bool) (x11 x12 x13 x14 x15 x16 x17 x18 x19 x20 : Int) : Option (Int × Unit) :=
 bif !x10 then
  some (((8 : Int), ()))
 else
  bif !(x0 == x11 && (x1 == x12 && (x2 == x13 && (x3 == x14 && (x4 == x15 && (x5 == x16 && (x6 == x17 && (x7 == x18 && (x8 == x19 && (x9 == x20 && true)))))))))) then
   some (((8 : Int), ()))
  else
   some (((0 : Int), ()))
def message_Check_c5 (J3 : message_Check_T3) (J5 : message_Check_T5) (x0 x1 x2 x3 x4 x5 x6 x7 x8 x9 : Int) (x10 : Bool) (x11 x12 x13 x14 x15 x16 x17 x18 x19 x20 x21 : Int) (x22 : Bool) : Option (Int × Unit) :=
 bif x22 then
  match message_isTime x2 with
   | none => none
   | some e0 =>
    J3 x0 x1 x2 x3 x4 x5 x6 x7 x8 x9 (e0.1) x11 x1 x2 x3 x15 x16 x17 x18 x19 x20
 else
  bif x21 == (2 : Int) then
   match message_isMark x4 with
    | none => none
    | some e0 =>
     J3 x0 x1 x2 x3 x4 x5 x6 x7 x8 x9 (e0.1) x11 x12 x13 x14 x4 x16 x17 x18 x19 x20
  else
   bif x21 == (3 : Int) then
    bif decide ((-2199023255552 : Int) ≤ x6) then
     bif decide (x6 < x7) then
      J3 x0 x1 x2 x3 x4 x5 x6 x7 x8 x9 (decide (x7 ≤ (2199023255552 : Int))) x11 x12 x13 x14 x15 x5 x6 x7 x8 x9
     else
      J3 x0 x1 x2 x3 x4 x5 x6 x7 x8 x9 (false) x11 x12 x13 x14 x15 x5 x6 x7 x8 x9
    else
     J3 x0 x1 x2 x3 x4 x5 x6 x7 x8 x9 (false) x11 x12 x13 x14 x15 x5 x6 x7 x8 x9
   else
    J3 x0 x1 x2 x3 x4 x5 x6 x7 x8 x9 x10 x11 x12 x13 x14 x15 x16 x17 x18 x19 x20
mutual
def message_Check_i3 : Nat → Int → Int → Int → Int → Int → Int → Int → Int → Int → Int → Bool → Int → Int → Int → Int → Int → Int → Int → Int → Int → Int → Option (Int × Unit)
 | 0, _, _, _, _, _, _, _, _, _, _, _, _, _, _, _, _, _, _, _, _, _ => none
 | n + 1, x0, x1, x2, x3, x4, x5, x6, x7, x8, x9, x10, x11, x12, x13, x14, x15, x16, x17, x18, x19, x20 => message_Check_c3 (message_Check_i3 n) (message_Check_i5 n) x0 x1 x2 x3 x4 x5 x6 x7 x8 x9 x10 x11 x12 x13 x14 x15 x16 x17 x18 x19 x20
def message_Check_i5 : Nat → Int → Int → Int → Int → Int → Int → Int → Int → Int → Int → Bool → Int → Int → Int → Int → Int → Int → Int → Int → Int → Int → Int → Bool → Option (Int × Unit)
 | 0, _, _, _, _, _, _, _, _, _, _, _, _, _, _, _, _, _, _, _, _, _, _, _ => none
 | n + 1, x0, x1, x2, x3, x4, x5, x6, x7, x8, x9, x10, x11, x12, x13, x14, x15, x16, x17, x18, x19, x20, x21, x22 => message_Check_c5 (message_Check_i3 n) (message_Check_i5 n) x0 x1 x2 x3 x4 x5 x6 x7 x8 x9 x10 x11 x12 x13 x14 x15 x16 x17 x18 x19 x20 x21 x22
end
def message_Check (a0 : Int × Int × Int × Int × Int × Int × Int × Int × Int × Int × Unit) : Option (Int × Unit) := message_Check_c (message_Check_i3 fuel) (message_Check_i5 fuel) a0
abbrev ref34_SameRows_T6 := List X1 → List X1 → Int → Option (Bool × Unit)
def ref34_SameRows_c (J6 : ref34_SameRows_T6) (a0 a1 : List X1) : Option (Bool × Unit) :=
 bif Int.ofNat (List.length a0) != Int.ofNat (List.length a1) then
  some ((false, ()))
 else
  J6 a0 a1 ((0 : Int))
def ref34_SameRows_c6 (J6 : ref34_SameRows_T6) (x0 x1 : List X1) (x2 : Int) : Option (Bool × Unit) :=
 bif decide (x2 < Int.ofNat (List.length x0)) then
  bif decide ((0 : Int) ≤ x2) then
   match x0[Int.toNat x2]? with
    | none => none
    | some e0 =>
     bif decide ((0 : Int) ≤ x2) then
      match x1[Int.toNat x2]? with
       | none => none
       | some e1 =>
        bif !(e0.1 == e1.1 && (e0.2.1 == e1.2.1 && (e0.2.2.1 == e1.2.2.1 && (e0.2.2.2.1 == e1.2.2.2.1 && (e0.2.2.2.2.1 == e1.2.2.2.2.1 && true))))) then
         some ((false, ()))
        else
         J6 x0 x1 (Go.IntKind.wrap Go.IntKind.i64 (x2 + (1 : Int)))
     else
      none
  else
   none
 else
  some ((true, ()))
mutual
def ref34_SameRows_i6 : Nat → List X1 → List X1 → Int → Option (Bool × Unit)
 | 0, _, _, _ => none
 | n + 1, x0, x1, x2 => ref34_SameRows_c6 (ref34_SameRows_i6 n) x0 x1 x2
end
def ref34_SameRows (a0 a1 : List X1) : Option (Bool × Unit) := ref34_SameRows_c (ref34_SameRows_i6 fuel) a0 a1
abbrev ref34_SameRecords_T6 := List X2 → List X2 → Int → Option (Bool × Unit)
def ref34_SameRecords_c (J6 : ref34_SameRecords_T6) (a0 a1 : List X2) : Option (Bool × Unit) :=
 bif Int.ofNat (List.length a0) != Int.ofNat (List.length a1) then
  some ((false, ()))
 else
  J6 a0 a1 ((0 : Int))
def ref34_SameRecords_c6 (J6 : ref34_SameRecords_T6) (x0 x1 : List X2) (x2 : Int) : Option (Bool × Unit) :=
 bif decide (x2 < Int.ofNat (List.length x0)) then
  bif decide ((0 : Int) ≤ x2) then
   match x0[Int.toNat x2]? with
    | none => none
    | some e0 =>
     bif decide ((0 : Int) ≤ x2) then
      match x1[Int.toNat x2]? with
       | none => none
       | some e1 =>
        bif !(e0.1 == e1.1 && (e0.2.1 == e1.2.1 && (e0.2.2.1 == e1.2.2.1 && true))) then
         some ((false, ()))
        else
         J6 x0 x1 (Go.IntKind.wrap Go.IntKind.i64 (x2 + (1 : Int)))
     else
      none
  else
   none
 else
  some ((true, ()))
mutual
def ref34_SameRecords_i6 : Nat → List X2 → List X2 → Int → Option (Bool × Unit)
 | 0, _, _, _ => none
 | n + 1, x0, x1, x2 => ref34_SameRecords_c6 (ref34_SameRecords_i6 n) x0 x1 x2
end
def ref34_SameRecords (a0 a1 : List X2) : Option (Bool × Unit) := ref34_SameRecords_c (ref34_SameRecords_i6 fuel) a0 a1
def ref40_Equal (a0 a1 : List X1 × List X2 × Unit) : Option (Bool × Unit) :=
 match ref34_SameRows a0.1 a1.1 with
  | none => none
  | some e0 =>
   bif e0.1 then
    match ref34_SameRecords a0.2.1 a1.2.1 with
     | none => none
     | some e1 =>
      some ((e1.1, ()))
   else
    some ((false, ()))
/- internal/stringslite.HasSuffix -/
def internal_stringslite_HasSuffix (a0 a1 : List UInt8) : Option (Bool × Unit) :=
 bif decide (Int.ofNat (List.length a0) ≥ Int.ofNat (List.length a1)) then
  bif decide ((0 : Int) ≤ Go.IntKind.wrap Go.IntKind.i64 (Int.ofNat (List.length a0) - Int.ofNat (List.length a1))) then
   bif decide (Int.toNat (Go.IntKind.wrap Go.IntKind.i64 (Int.ofNat (List.length a0) - Int.ofNat (List.length a1))) ≤ List.length a0) then
    some ((List.drop (Int.toNat (Go.IntKind.wrap Go.IntKind.i64 (Int.ofNat (List.length a0) - Int.ofNat (List.length a1)))) (List.take (List.length a0) a0) == a1, ()))
   else
    none
  else
   none
 else
  some ((false, ()))
/- internal/stringslite.TrimSuffix -/
def internal_stringslite_TrimSuffix (a0 a1 : List UInt8) : Option ((List UInt8) × Unit) :=
 match internal_stringslite_HasSuffix a0 a1 with
  | none => none
  | some e0 =>
   bif e0.1 then
    bif decide ((0 : Int) ≤ Go.IntKind.wrap Go.IntKind.i64 (Int.ofNat (List.length a0) - Int.ofNat (List.length a1))) then
     bif decide ((0 : Nat) ≤ Int.toNat (Go.IntKind.wrap Go.IntKind.i64 (Int.ofNat (List.length a0) - Int.ofNat (List.length a1)))) && decide (Int.toNat (Go.IntKind.wrap Go.IntKind.i64 (Int.ofNat (List.length a0) - Int.ofNat (List.length a1))) ≤ List.length a0) then
      some ((List.drop (0 : Nat) (List.take (Int.toNat (Go.IntKind.wrap Go.IntKind.i64 (Int.ofNat (List.length a0) - Int.ofNat (List.length a1)))) a0), ()))
     else
      none
    else
     none
   else
    some ((a0, ()))
/- strings.TrimSuffix -/
def strings_TrimSuffix (a0 a1 : List UInt8) : Option ((List UInt8) × Unit) :=
 match internal_stringslite_TrimSuffix a0 a1 with
  | none => none
  | some e0 =>
   some ((e0.1, ()))
abbrev message_numbers_T7 := List (Int × Unit) → List (List UInt8 × Unit) → Int → Int → Option (List (Int × Unit) × Bool × Unit)
def message_numbers_c (J7 : message_numbers_T7) (a0 : List (List UInt8 × Unit)) (a1 : Int) : Option (List (Int × Unit) × Bool × Unit) :=
 bif Int.ofNat (List.length a0) != a1 then
  some (([], false, ()))
 else
  J7 ([]) a0 (Int.ofNat (List.length a0)) ((0 : Int))
def message_numbers_c7 (J7 : message_numbers_T7) (x0 : List (Int × Unit)) (x1 : List (List UInt8 × Unit)) (x2 x3 : Int) : Option (List (Int × Unit) × Bool × Unit) :=
 bif decide (x3 < x2) then
  bif decide ((0 : Int) ≤ x3) then
   match x1[Int.toNat x3]? with
    | none => none
    | some e0 =>
     match strconv_ParseInt e0.1 (10 : Int) (64 : Int) with
      | none => none
      | some e1 =>
       bif e1.2.1 then
        some (([], false, ()))
       else
        match strconv_FormatInt e1.1 (10 : Int) with
         | none => none
         | some e2 =>
          bif !e2.1 == e0.1 then
           some (([], false, ()))
          else
           bif bigOk (List.length x0 + List.length [(e1.1, ())]) (8 : Nat) then
            J7 (x0 ++ [(e1.1, ())]) x1 x2 (Go.IntKind.wrap Go.IntKind.i64 (x3 + (1 : Int)))
           else
            none
  else
   none
 else
  some ((x0, true, ()))
mutual
def message_numbers_i7 : Nat → List (Int × Unit) → List (List UInt8 × Unit) → Int → Int → Option (List (Int × Unit) × Bool × Unit)
 | 0, _, _, _, _ => none
 | n + 1, x0, x1, x2, x3 => message_numbers_c7 (message_numbers_i7 n) x0 x1 x2 x3
end
def message_numbers (a0 : List (List UInt8 × Unit)) (a1 : Int) : Option (List (Int × Unit) × Bool × Unit) := message_numbers_c (message_numbers_i7 fuel) a0 a1
abbrev message_Read_T5 := List (List UInt8 × Unit) → Int → Int → Int → Int → Int → Int → Int → Int → Int → Int → Int → Option X4
abbrev message_Read_T16 := Int → Int → Int → Int → Int → Int → Int → Int → Int → Int → Option X4
def message_Read_c (J5 : message_Read_T5) (J16 : message_Read_T16) (a0 : List UInt8) : Option X4 :=
 match strings_Split a0 [(32 : UInt8)] with
  | none => none
  | some e0 =>
   match e0.1[(0 : Nat)]? with
    | none => none
    | some e1 =>
     bif e1.1 == [(114 : UInt8), (101 : UInt8), (99 : UInt8), (111 : UInt8), (114 : UInt8), (100 : UInt8)] then
      J5 (e0.1) ((1 : Int)) ((0 : Int)) ((0 : Int)) ((0 : Int)) ((0 : Int)) ((0 : Int)) ((0 : Int)) ((0 : Int)) ((0 : Int)) ((0 : Int)) ((3 : Int))
     else
      bif e1.1 == [(108 : UInt8), (97 : UInt8), (116 : UInt8), (101 : UInt8)] then
       J5 (e0.1) ((4 : Int)) ((0 : Int)) ((0 : Int)) ((0 : Int)) ((0 : Int)) ((0 : Int)) ((0 : Int)) ((0 : Int)) ((0 : Int)) ((0 : Int)) ((3 : Int))
      else
       bif e1.1 == [(109 : UInt8), (97 : UInt8), (114 : UInt8), (107 : UInt8)] then
        J5 (e0.1) ((2 : Int)) ((0 : Int)) ((0 : Int)) ((0 : Int)) ((0 : Int)) ((0 : Int)) ((0 : Int)) ((0 : Int)) ((0 : Int)) ((0 : Int)) ((1 : Int))
       else
        bif e1.1 == [(114 : UInt8), (111 : UInt8), (119 : UInt8)] then
         J5 (e0.1) ((3 : Int)) ((0 : Int)) ((0 : Int)) ((0 : Int)) ((0 : Int)) ((0 : Int)) ((0 : Int)) ((0 : Int)) ((0 : Int)) ((0 : Int)) ((5 : Int))
        else
         J5 (e0.1) ((0 : Int)) ((0 : Int)) ((0 : Int)) ((0 : Int)) ((0 : Int)) ((0 : Int)) ((0 : Int)) ((0 : Int)) ((0 : Int)) ((0 : Int)) ((3 : Int))
def message_Read_c5 (J5 : message_Read_T5) (J16 : message_Read_T16) (x0 : List (List UInt8 × Unit)) (x1 x2 x3 x4 x5 x6 x7 x8 x9 x10 x11 : Int) : Option X4 :=
 bif decide ((1 : Nat) ≤ List.length x0) then
  match message_numbers (List.drop (1 : Nat) (List.take (List.length x0) x0)) x11 with
   | none => none
   | some e0 =>
    bif !e0.2.1 then
     some ((((0 : Int), (0 : Int), (0 : Int), (0 : Int), (0 : Int), (0 : Int), (0 : Int), (0 : Int), (0 : Int), (0 : Int), ()), (12 : Int), ()))
    else
     bif x1 == (2 : Int) then
      match e0.1[(0 : Nat)]? with
       | none => none
       | some e1 =>
        J16 x1 x2 x3 x4 (e1.1) x6 x7 x8 x9 x10
     else
      bif x1 == (3 : Int) then
       match e0.1[(0 : Nat)]? with
        | none => none
        | some e1 =>
         match e0.1[(1 : Nat)]? with
          | none => none
          | some e2 =>
           match e0.1[(2 : Nat)]? with
            | none => none
            | some e3 =>
             match e0.1[(3 : Nat)]? with
              | none => none
              | some e4 =>
               match e0.1[(4 : Nat)]? with
                | none => none
                | some e5 =>
                 J16 x1 x2 x3 x4 x5 (e1.1) (e2.1) (e3.1) (e4.1) (e5.1)
      else
       match e0.1[(0 : Nat)]? with
        | none => none
        | some e1 =>
         match e0.1[(1 : Nat)]? with
          | none => none
          | some e2 =>
           match e0.1[(2 : Nat)]? with
            | none => none
            | some e3 =>
             J16 x1 (e1.1) (e2.1) (e3.1) x5 x6 x7 x8 x9 x10
 else
  none
def message_Read_c16 (J5 : message_Read_T5) (J16 : message_Read_T16) (x0 x1 x2 x3 x4 x5 x6 x7 x8 x9 : Int) : Option X4 :=
 match message_Check (x0, x1, x2, x3, x4, x5, x6, x7, x8, x9, ()) with
  | none => none
  | some e0 =>
   bif e0.1 != (0 : Int) then
    some ((((0 : Int), (0 : Int), (0 : Int), (0 : Int), (0 : Int), (0 : Int), (0 : Int), (0 : Int), (0 : Int), (0 : Int), ()), (12 : Int), ()))
   else
    some (((x0, x1, x2, x3, x4, x5, x6, x7, x8, x9, ()), (0 : Int), ()))
mutual
def message_Read_i5 : Nat → List (List UInt8 × Unit) → Int → Int → Int → Int → Int → Int → Int → Int → Int → Int → Int → Option X4
 | 0, _, _, _, _, _, _, _, _, _, _, _, _ => none
 | n + 1, x0, x1, x2, x3, x4, x5, x6, x7, x8, x9, x10, x11 => message_Read_c5 (message_Read_i5 n) (message_Read_i16 n) x0 x1 x2 x3 x4 x5 x6 x7 x8 x9 x10 x11
def message_Read_i16 : Nat → Int → Int → Int → Int → Int → Int → Int → Int → Int → Int → Option X4
 | 0, _, _, _, _, _, _, _, _, _, _ => none
 | n + 1, x0, x1, x2, x3, x4, x5, x6, x7, x8, x9 => message_Read_c16 (message_Read_i5 n) (message_Read_i16 n) x0 x1 x2 x3 x4 x5 x6 x7 x8 x9
end
def message_Read (a0 : List UInt8) : Option X4 := message_Read_c (message_Read_i5 fuel) (message_Read_i16 fuel) a0
abbrev lines_ReadOutputs_T2 := List UInt8 → List X1 → List X2 → Option X5
abbrev lines_ReadOutputs_T8 := List UInt8 → List UInt8 → List X1 → List X2 → Option X5
abbrev lines_ReadOutputs_T12 := List UInt8 → List UInt8 → List UInt8 → List X1 → List X2 → Option X5
def lines_ReadOutputs_c (J2 : lines_ReadOutputs_T2) (J8 : lines_ReadOutputs_T8) (J12 : lines_ReadOutputs_T12) (a0 : List UInt8) : Option X5 :=
 J8 a0 a0 ([]) ([])
def lines_ReadOutputs_c2 (J2 : lines_ReadOutputs_T2) (J8 : lines_ReadOutputs_T8) (J12 : lines_ReadOutputs_T12) (x0 : List UInt8) (x1 : List X1) (x2 : List X2) : Option X5 :=
 match lines_Outputs (x1, x2, ()) with
  | none => none
  | some e0 =>
   bif e0.2.1 != (0 : Int) then
    some ((([], [], ()), (12 : Int), ()))
   else
    bif !e0.1 == x0 then
     some ((([], [], ()), (12 : Int), ()))
    else
     some (((x1, x2, ()), (0 : Int), ()))
def lines_ReadOutputs_c8 (J2 : lines_ReadOutputs_T2) (J8 : lines_ReadOutputs_T8) (J12 : lines_ReadOutputs_T12) (x0 x1 : List UInt8) (x2 : List X1) (x3 : List X2) : Option X5 :=
 bif decide (Int.ofNat (List.length x0) > (0 : Int)) then
  bif decide (Go.Lib.indexByte x0 (Nat.toUInt8 (Int.toNat (10 : Int))) ≥ (0 : Int)) then
   bif decide ((0 : Int) ≤ Go.IntKind.wrap Go.IntKind.i64 (Go.Lib.indexByte x0 (Nat.toUInt8 (Int.toNat (10 : Int))) + (1 : Int))) then
    bif decide ((0 : Nat) ≤ Int.toNat (Go.IntKind.wrap Go.IntKind.i64 (Go.Lib.indexByte x0 (Nat.toUInt8 (Int.toNat (10 : Int))) + (1 : Int)))) && decide (Int.toNat (Go.IntKind.wrap Go.IntKind.i64 (Go.Lib.indexByte x0 (Nat.toUInt8 (Int.toNat (10 : Int))) + (1 : Int))) ≤ List.length x0) then
     bif decide ((0 : Int) ≤ Go.IntKind.wrap Go.IntKind.i64 (Go.Lib.indexByte x0 (Nat.toUInt8 (Int.toNat (10 : Int))) + (1 : Int))) then
      bif decide (Int.toNat (Go.IntKind.wrap Go.IntKind.i64 (Go.Lib.indexByte x0 (Nat.toUInt8 (Int.toNat (10 : Int))) + (1 : Int))) ≤ List.length x0) then
       J12 (List.drop (Int.toNat (Go.IntKind.wrap Go.IntKind.i64 (Go.Lib.indexByte x0 (Nat.toUInt8 (Int.toNat (10 : Int))) + (1 : Int)))) (List.take (List.length x0) x0)) (List.drop (0 : Nat) (List.take (Int.toNat (Go.IntKind.wrap Go.IntKind.i64 (Go.Lib.indexByte x0 (Nat.toUInt8 (Int.toNat (10 : Int))) + (1 : Int)))) x0)) x1 x2 x3
      else
       none
     else
      none
    else
     none
   else
    none
  else
   J12 ([]) x0 x1 x2 x3
 else
  J2 x1 x2 x3
def lines_ReadOutputs_c12 (J2 : lines_ReadOutputs_T2) (J8 : lines_ReadOutputs_T8) (J12 : lines_ReadOutputs_T12) (x0 x1 x2 : List UInt8) (x3 : List X1) (x4 : List X2) : Option X5 :=
 match strings_TrimSuffix x1 [(10 : UInt8)] with
  | none => none
  | some e0 =>
   match message_Read e0.1 with
    | none => none
    | some e1 =>
     bif e1.2.1 != (0 : Int) then
      some ((([], [], ()), (12 : Int), ()))
     else
      bif e1.1.1 == (3 : Int) then
       bif bigOk (List.length x3 + List.length [e1.1.2.2.2.2.2]) (40 : Nat) then
        J8 x0 x2 (x3 ++ [e1.1.2.2.2.2.2]) x4
       else
        none
      else
       bif e1.1.1 == (4 : Int) then
        bif bigOk (List.length x4 + List.length [(e1.1.2.1, e1.1.2.2.1, e1.1.2.2.2.1, ())]) (24 : Nat) then
         J8 x0 x2 x3 (x4 ++ [(e1.1.2.1, e1.1.2.2.1, e1.1.2.2.2.1, ())])
        else
         none
       else
        J8 x0 x2 x3 x4
mutual
def lines_ReadOutputs_i2 : Nat → List UInt8 → List X1 → List X2 → Option X5
 | 0, _, _, _ => none
 | n + 1, x0, x1, x2 => lines_ReadOutputs_c2 (lines_ReadOutputs_i2 n) (lines_ReadOutputs_i8 n) (lines_ReadOutputs_i12 n) x0 x1 x2
def lines_ReadOutputs_i8 : Nat → List UInt8 → List UInt8 → List X1 → List X2 → Option X5
 | 0, _, _, _, _ => none
 | n + 1, x0, x1, x2, x3 => lines_ReadOutputs_c8 (lines_ReadOutputs_i2 n) (lines_ReadOutputs_i8 n) (lines_ReadOutputs_i12 n) x0 x1 x2 x3
def lines_ReadOutputs_i12 : Nat → List UInt8 → List UInt8 → List UInt8 → List X1 → List X2 → Option X5
 | 0, _, _, _, _, _ => none
 | n + 1, x0, x1, x2, x3, x4 => lines_ReadOutputs_c12 (lines_ReadOutputs_i2 n) (lines_ReadOutputs_i8 n) (lines_ReadOutputs_i12 n) x0 x1 x2 x3 x4
end
def lines_ReadOutputs (a0 : List UInt8) : Option X5 := lines_ReadOutputs_c (lines_ReadOutputs_i2 fuel) (lines_ReadOutputs_i8 fuel) (lines_ReadOutputs_i12 fuel) a0
def law45_says (a0 : List X1 × List X2 × Unit) (a1 : List UInt8) : Option (Bool × Unit) :=
 match lines_Outputs a0 with
  | none => none
  | some e0 =>
   match lines_ReadOutputs a1 with
    | none => none
    | some e1 =>
     bif e0.2.1 == (0 : Int) then
      bif e0.1 == a1 then
       bif e1.2.1 == (0 : Int) then
        match ref40_Equal a0 e1.1 with
         | none => none
         | some e2 =>
          some ((e2.1, ()))
       else
        some ((false, ()))
      else
       some ((false, ()))
     else
      some ((false, ()))
def law45_picks (a0 : List X3) (a1 : List UInt8) : Option (Bool × Unit) :=
 match lines_Script a0 with
  | none => none
  | some e0 =>
   match lines_ReadScript a1 with
    | none => none
    | some e1 =>
     bif e0.2.1 == (0 : Int) then
      bif e0.1 == a1 then
       bif e1.2.1 == (0 : Int) then
        match ref45_SamePicks a0 e1.1 with
         | none => none
         | some e2 =>
          some ((e2.1, ()))
       else
        some ((false, ()))
      else
       some ((false, ()))
     else
      some ((false, ()))
def law45_alive : Option (Bool × Unit) :=
 some ((true, ()))
abbrev law45_LinesApart_T3 := List X3 → List X3 → List X1 → List X2 → List X1 → List X2 → List X3 → List X1 → List X3 → List X1 → Bool → Option (Bool × Unit)
abbrev law45_LinesApart_T12 := List X3 → List X3 → List X1 → List X2 → List X1 → List X2 → List X3 → List X1 → List X3 → List X1 → Bool → List UInt8 → Int → Option (Bool × Unit)
abbrev law45_LinesApart_T16 := List X3 → List X3 → List X3 → List X1 → List X3 → List X1 → Bool → Option (Bool × Unit)
abbrev law45_LinesApart_T19 := List X3 → List X3 → List X3 → List X1 → List X3 → List X1 → Bool → List UInt8 → Int → Option (Bool × Unit)
abbrev law45_LinesApart_T23 := List X3 → List X1 → List X3 → List X1 → Bool → Option (Bool × Unit)
abbrev law45_LinesApart_T27 := List X3 → List X1 → List X3 → List X1 → Bool → List UInt8 → Int → Option (Bool × Unit)
def law45_LinesApart_c (J3 : law45_LinesApart_T3) (J12 : law45_LinesApart_T12) (J16 : law45_LinesApart_T16) (J19 : law45_LinesApart_T19) (J23 : law45_LinesApart_T23) (J27 : law45_LinesApart_T27) (a0 a1 : List X1 × List X2 × Unit) (a2 a3 : List X3) (a4 a5 : List X3 × List X1 × Unit) : Option (Bool × Unit) :=
 match ref40_Great a0 with
  | none => none
  | some e0 =>
   bif e0.1 then
    some ((true, ()))
   else
    match ref40_Great a1 with
     | none => none
     | some e1 =>
      bif e1.1 then
       some ((true, ()))
      else
       match ref37_Many a2 with
        | none => none
        | some e2 =>
         bif e2.1 then
          some ((true, ()))
         else
          match ref37_Many a3 with
           | none => none
           | some e3 =>
            bif e3.1 then
             some ((true, ()))
            else
             match ref24_Great a4 with
              | none => none
              | some e4 =>
               bif e4.1 then
                some ((true, ()))
               else
                match ref24_Great a5 with
                 | none => none
                 | some e5 =>
                  bif e5.1 then
                   some ((true, ()))
                  else
                   J3 a2 a3 (a0.1) (a0.2.1) (a1.1) (a1.2.1) (a4.1) (a4.2.1) (a5.1) (a5.2.1) (true)
def law45_LinesApart_c3 (J3 : law45_LinesApart_T3) (J12 : law45_LinesApart_T12) (J16 : law45_LinesApart_T16) (J19 : law45_LinesApart_T19) (J23 : law45_LinesApart_T23) (J27 : law45_LinesApart_T27) (x0 x1 : List X3) (x2 : List X1) (x3 : List X2) (x4 : List X1) (x5 : List X2) (x6 : List X3) (x7 : List X1) (x8 : List X3) (x9 : List X1) (x10 : Bool) : Option (Bool × Unit) :=
 match lines_Outputs (x2, x3, ()) with
  | none => none
  | some e0 =>
   J12 x0 x1 x2 x3 x4 x5 x6 x7 x8 x9 x10 (e0.1) (e0.2.1)
def law45_LinesApart_c12 (J3 : law45_LinesApart_T3) (J12 : law45_LinesApart_T12) (J16 : law45_LinesApart_T16) (J19 : law45_LinesApart_T19) (J23 : law45_LinesApart_T23) (J27 : law45_LinesApart_T27) (x0 x1 : List X3) (x2 : List X1) (x3 : List X2) (x4 : List X1) (x5 : List X2) (x6 : List X3) (x7 : List X1) (x8 : List X3) (x9 : List X1) (x10 : Bool) (x11 : List UInt8) (x12 : Int) : Option (Bool × Unit) :=
 match lines_Outputs (x4, x5, ()) with
  | none => none
  | some e0 =>
   bif x12 == (0 : Int) then
    bif e0.2.1 == (0 : Int) then
     match ref40_Equal (x2, x3, ()) (x4, x5, ()) with
      | none => none
      | some e1 =>
       bif !(x11 == e0.1) == e1.1 then
        some ((false, ()))
       else
        match law45_count x11 with
         | none => none
         | some e2 =>
          bif e2.1 != Go.IntKind.wrap Go.IntKind.i64 (Int.ofNat (List.length x2) + Int.ofNat (List.length x3)) then
           some ((false, ()))
          else
           J16 x0 x1 x6 x7 x8 x9 x10
    else
     J16 x0 x1 x6 x7 x8 x9 x10
   else
    J16 x0 x1 x6 x7 x8 x9 x10
def law45_LinesApart_c16 (J3 : law45_LinesApart_T3) (J12 : law45_LinesApart_T12) (J16 : law45_LinesApart_T16) (J19 : law45_LinesApart_T19) (J23 : law45_LinesApart_T23) (J27 : law45_LinesApart_T27) (x0 x1 x2 : List X3) (x3 : List X1) (x4 : List X3) (x5 : List X1) (x6 : Bool) : Option (Bool × Unit) :=
 match lines_Script x0 with
  | none => none
  | some e0 =>
   J19 x0 x1 x2 x3 x4 x5 x6 (e0.1) (e0.2.1)
def law45_LinesApart_c19 (J3 : law45_LinesApart_T3) (J12 : law45_LinesApart_T12) (J16 : law45_LinesApart_T16) (J19 : law45_LinesApart_T19) (J23 : law45_LinesApart_T23) (J27 : law45_LinesApart_T27) (x0 x1 x2 : List X3) (x3 : List X1) (x4 : List X3) (x5 : List X1) (x6 : Bool) (x7 : List UInt8) (x8 : Int) : Option (Bool × Unit) :=
 match lines_Script x1 with
  | none => none
  | some e0 =>
   bif x8 == (0 : Int) then
    bif e0.2.1 == (0 : Int) then
     match ref45_SamePicks x0 x1 with
      | none => none
      | some e1 =>
       bif !(x7 == e0.1) == e1.1 then
        some ((false, ()))
       else
        J23 x2 x3 x4 x5 x6
    else
     J23 x2 x3 x4 x5 x6
   else
    J23 x2 x3 x4 x5 x6
def law45_LinesApart_c23 (J3 : law45_LinesApart_T3) (J12 : law45_LinesApart_T12) (J16 : law45_LinesApart_T16) (J19 : law45_LinesApart_T19) (J23 : law45_LinesApart_T23) (J27 : law45_LinesApart_T27) (x0 : List X3) (x1 : List X1) (x2 : List X3) (x3 : List X1) (x4 : Bool) : Option (Bool × Unit) :=
 match lines_Graph (x0, x1, ()) with
  | none => none
  | some e0 =>
   J27 x0 x1 x2 x3 x4 (e0.1) (e0.2.1)
def law45_LinesApart_c27 (J3 : law45_LinesApart_T3) (J12 : law45_LinesApart_T12) (J16 : law45_LinesApart_T16) (J19 : law45_LinesApart_T19) (J23 : law45_LinesApart_T23) (J27 : law45_LinesApart_T27) (x0 : List X3) (x1 : List X1) (x2 : List X3) (x3 : List X1) (x4 : Bool) (x5 : List UInt8) (x6 : Int) : Option (Bool × Unit) :=
 match lines_Graph (x2, x3, ()) with
  | none => none
  | some e0 =>
   bif x4 then
    bif x6 != (0 : Int) then
     some ((true, ()))
    else
     bif e0.2.1 != (0 : Int) then
      some ((true, ()))
     else
      match ref24_Same (x0, x1, ()) (x2, x3, ()) with
       | none => none
       | some e1 =>
        bif (x5 == e0.1) == e1.1 then
         match law45_count x5 with
          | none => none
          | some e2 =>
           some ((e2.1 == Go.IntKind.wrap Go.IntKind.i64 (Int.ofNat (List.length x0) + Int.ofNat (List.length x1)), ()))
        else
         some ((false, ()))
   else
    some ((false, ()))
mutual
def law45_LinesApart_i3 : Nat → List X3 → List X3 → List X1 → List X2 → List X1 → List X2 → List X3 → List X1 → List X3 → List X1 → Bool → Option (Bool × Unit)
 | 0, _, _, _, _, _, _, _, _, _, _, _ => none
 | n + 1, x0, x1, x2, x3, x4, x5, x6, x7, x8, x9, x10 => law45_LinesApart_c3 (law45_LinesApart_i3 n) (law45_LinesApart_i12 n) (law45_LinesApart_i16 n) (law45_LinesApart_i19 n) (law45_LinesApart_i23 n) (law45_LinesApart_i27 n) x0 x1 x2 x3 x4 x5 x6 x7 x8 x9 x10
def law45_LinesApart_i12 : Nat → List X3 → List X3 → List X1 → List X2 → List X1 → List X2 → List X3 → List X1 → List X3 → List X1 → Bool → List UInt8 → Int → Option (Bool × Unit)
 | 0, _, _, _, _, _, _, _, _, _, _, _, _, _ => none
 | n + 1, x0, x1, x2, x3, x4, x5, x6, x7, x8, x9, x10, x11, x12 => law45_LinesApart_c12 (law45_LinesApart_i3 n) (law45_LinesApart_i12 n) (law45_LinesApart_i16 n) (law45_LinesApart_i19 n) (law45_LinesApart_i23 n) (law45_LinesApart_i27 n) x0 x1 x2 x3 x4 x5 x6 x7 x8 x9 x10 x11 x12
def law45_LinesApart_i16 : Nat → List X3 → List X3 → List X3 → List X1 → List X3 → List X1 → Bool → Option (Bool × Unit)
 | 0, _, _, _, _, _, _, _ => none
 | n + 1, x0, x1, x2, x3, x4, x5, x6 => law45_LinesApart_c16 (law45_LinesApart_i3 n) (law45_LinesApart_i12 n) (law45_LinesApart_i16 n) (law45_LinesApart_i19 n) (law45_LinesApart_i23 n) (law45_LinesApart_i27 n) x0 x1 x2 x3 x4 x5 x6
def law45_LinesApart_i19 : Nat → List X3 → List X3 → List X3 → List X1 → List X3 → List X1 → Bool → List UInt8 → Int → Option (Bool × Unit)
 | 0, _, _, _, _, _, _, _, _, _ => none
 | n + 1, x0, x1, x2, x3, x4, x5, x6, x7, x8 => law45_LinesApart_c19 (law45_LinesApart_i3 n) (law45_LinesApart_i12 n) (law45_LinesApart_i16 n) (law45_LinesApart_i19 n) (law45_LinesApart_i23 n) (law45_LinesApart_i27 n) x0 x1 x2 x3 x4 x5 x6 x7 x8
def law45_LinesApart_i23 : Nat → List X3 → List X1 → List X3 → List X1 → Bool → Option (Bool × Unit)
 | 0, _, _, _, _, _ => none
 | n + 1, x0, x1, x2, x3, x4 => law45_LinesApart_c23 (law45_LinesApart_i3 n) (law45_LinesApart_i12 n) (law45_LinesApart_i16 n) (law45_LinesApart_i19 n) (law45_LinesApart_i23 n) (law45_LinesApart_i27 n) x0 x1 x2 x3 x4
def law45_LinesApart_i27 : Nat → List X3 → List X1 → List X3 → List X1 → Bool → List UInt8 → Int → Option (Bool × Unit)
 | 0, _, _, _, _, _, _, _ => none
 | n + 1, x0, x1, x2, x3, x4, x5, x6 => law45_LinesApart_c27 (law45_LinesApart_i3 n) (law45_LinesApart_i12 n) (law45_LinesApart_i16 n) (law45_LinesApart_i19 n) (law45_LinesApart_i23 n) (law45_LinesApart_i27 n) x0 x1 x2 x3 x4 x5 x6
end
def law45_LinesApart (a0 a1 : List X1 × List X2 × Unit) (a2 a3 : List X3) (a4 a5 : List X3 × List X1 × Unit) : Option (Bool × Unit) := law45_LinesApart_c (law45_LinesApart_i3 fuel) (law45_LinesApart_i12 fuel) (law45_LinesApart_i16 fuel) (law45_LinesApart_i19 fuel) (law45_LinesApart_i23 fuel) (law45_LinesApart_i27 fuel) a0 a1 a2 a3 a4 a5
end Tg
