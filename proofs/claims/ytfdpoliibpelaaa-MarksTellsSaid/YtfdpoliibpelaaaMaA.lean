/- The functions of the code, as plain functions: printed from the code. -/
import Derived.Test.YtfdpoliibpelaaaAbsCloneT
set_option linter.unusedVariables false
namespace Tm
open Go.Abs (fuel bigOk cloned tmm)
/- tailwater/tailwaterlaw31.alive -/
def law31_alive : Option (Bool × Unit) := some (true, ())
/- tailwater/message.isTime -/
def message_isTime (a0 : Int) : Option (Bool × Unit) :=
  bif decide (a0 ≥ (-1099511627776 : Int)) then
    some ((decide (a0 ≤ (1099511627776 : Int)), ()))
  else
    some ((false, ()))
/- tailwater/message.isMark -/
def message_isMark (a0 : Int) : Option (Bool × Unit) :=
  match message_isTime a0 with
    | none =>
      none
    | some e0 =>
      bif e0.1 then
        some ((true, ()))
      else
        some ((a0 == (9223372036854775807 : Int), ()))
-- ways that fail: 1 in [start]
/- tailwater/message.Check -/
def message_Check_c (J3 : Int → Int → Int → Int → Int → Int → Int → Int → Int → Int → Bool → Int → Int → Int → Int → Int → Int → Int → Int → Int → Int → Option (Int × Unit)) (J5 : Int → Int → Int → Int → Int → Int → Int → Int → Int → Int → Bool → Int → Int → Int → Int → Int → Int → Int → Int → Int → Int → Int → Bool → Option (Int × Unit)) (a0 : Int × Int × Int × Int × Int × Int × Int × Int × Int × Int × Unit) : Option (Int × Unit) :=
  bif a0.1 == (1 : Int) then
    J5 (a0.1) (a0.2.1) (a0.2.2.1) (a0.2.2.2.1) (a0.2.2.2.2.1) (a0.2.2.2.2.2.1) (a0.2.2.2.2.2.2.1) (a0.2.2.2.2.2.2.2.1) (a0.2.2.2.2.2.2.2.2.1) (a0.2.2.2.2.2.2.2.2.2.1) (false) (a0.1) ((0 : Int)) ((0 : Int)) ((0 : Int)) ((0 : Int)) ((0 : Int)) ((0 : Int)) ((0 : Int)) ((0 : Int)) ((0 : Int)) (a0.1) (true)
  else
    J5 (a0.1) (a0.2.1) (a0.2.2.1) (a0.2.2.2.1) (a0.2.2.2.2.1) (a0.2.2.2.2.2.1) (a0.2.2.2.2.2.2.1) (a0.2.2.2.2.2.2.2.1) (a0.2.2.2.2.2.2.2.2.1) (a0.2.2.2.2.2.2.2.2.2.1) (false) (a0.1) ((0 : Int)) ((0 : Int)) ((0 : Int)) ((0 : Int)) ((0 : Int)) ((0 : Int)) ((0 : Int)) ((0 : Int)) ((0 : Int)) (a0.1) (a0.1 == (4 : Int))
def message_Check_c3 (J3 : Int → Int → Int → Int → Int → Int → Int → Int → Int → Int → Bool → Int → Int → Int → Int → Int → Int → Int → Int → Int → Int → Option (Int × Unit)) (J5 : Int → Int → Int → Int → Int → Int → Int → Int → Int → Int → Bool → Int → Int → Int → Int → Int → Int → Int → Int → Int → Int → Int → Bool → Option (Int × Unit)) (x0 : Int) (x1 : Int) (x2 : Int) (x3 : Int) (x4 : Int) (x5 : Int) (x6 : Int) (x7 : Int) (x8 : Int) (x9 : Int) (x10 : Bool) (x11 : Int) (x12 : Int) (x13 : Int) (x14 : Int) (x15 : Int) (x16 : Int) (x17 : Int) (x18 : Int) (x19 : Int) (x20 : Int) : Option (Int × Unit) :=
  bif !x10 then
    some (((8 : Int), ()))
  else
    bif !(x0 == x11 && (x1 == x12 && (x2 == x13 && (x3 == x14 && (x4 == x15 && (x5 == x16 && (x6 == x17 && (x7 == x18 && (x8 == x19 && (x9 == x20 && true)))))))))) then
      some (((8 : Int), ()))
    else
      some (((0 : Int), ()))
def message_Check_c5 (J3 : Int → Int → Int → Int → Int → Int → Int → Int → Int → Int → Bool → Int → Int → Int → Int → Int → Int → Int → Int → Int → Int → Option (Int × Unit)) (J5 : Int → Int → Int → Int → Int → Int → Int → Int → Int → Int → Bool → Int → Int → Int → Int → Int → Int → Int → Int → Int → Int → Int → Bool → Option (Int × Unit)) (x0 : Int) (x1 : Int) (x2 : Int) (x3 : Int) (x4 : Int) (x5 : Int) (x6 : Int) (x7 : Int) (x8 : Int) (x9 : Int) (x10 : Bool) (x11 : Int) (x12 : Int) (x13 : Int) (x14 : Int) (x15 : Int) (x16 : Int) (x17 : Int) (x18 : Int) (x19 : Int) (x20 : Int) (x21 : Int) (x22 : Bool) : Option (Int × Unit) :=
  bif x22 then
    match message_isTime x2 with
      | none =>
        none
      | some e0 =>
        J3 (x0) (x1) (x2) (x3) (x4) (x5) (x6) (x7) (x8) (x9) (e0.1) (x11) (x1) (x2) (x3) (x15) (x16) (x17) (x18) (x19) (x20)
  else
    bif x21 == (2 : Int) then
      match message_isMark x4 with
        | none =>
          none
        | some e0 =>
          J3 (x0) (x1) (x2) (x3) (x4) (x5) (x6) (x7) (x8) (x9) (e0.1) (x11) (x12) (x13) (x14) (x4) (x16) (x17) (x18) (x19) (x20)
    else
      bif x21 == (3 : Int) then
        bif decide ((-2199023255552 : Int) ≤ x6) then
          bif decide (x6 < x7) then
            J3 (x0) (x1) (x2) (x3) (x4) (x5) (x6) (x7) (x8) (x9) (decide (x7 ≤ (2199023255552 : Int))) (x11) (x12) (x13) (x14) (x15) (x5) (x6) (x7) (x8) (x9)
          else
            J3 (x0) (x1) (x2) (x3) (x4) (x5) (x6) (x7) (x8) (x9) (false) (x11) (x12) (x13) (x14) (x15) (x5) (x6) (x7) (x8) (x9)
        else
          J3 (x0) (x1) (x2) (x3) (x4) (x5) (x6) (x7) (x8) (x9) (false) (x11) (x12) (x13) (x14) (x15) (x5) (x6) (x7) (x8) (x9)
      else
        J3 (x0) (x1) (x2) (x3) (x4) (x5) (x6) (x7) (x8) (x9) (x10) (x11) (x12) (x13) (x14) (x15) (x16) (x17) (x18) (x19) (x20)
mutual
def message_Check_i3 : Nat → Int → Int → Int → Int → Int → Int → Int → Int → Int → Int → Bool → Int → Int → Int → Int → Int → Int → Int → Int → Int → Int → Option (Int × Unit)
  | 0, _, _, _, _, _, _, _, _, _, _, _, _, _, _, _, _, _, _, _, _, _ => none
  | n + 1, x0, x1, x2, x3, x4, x5, x6, x7, x8, x9, x10, x11, x12, x13, x14, x15, x16, x17, x18, x19, x20 => message_Check_c3 (message_Check_i3 n) (message_Check_i5 n) x0 x1 x2 x3 x4 x5 x6 x7 x8 x9 x10 x11 x12 x13 x14 x15 x16 x17 x18 x19 x20
def message_Check_i5 : Nat → Int → Int → Int → Int → Int → Int → Int → Int → Int → Int → Bool → Int → Int → Int → Int → Int → Int → Int → Int → Int → Int → Int → Bool → Option (Int × Unit)
  | 0, _, _, _, _, _, _, _, _, _, _, _, _, _, _, _, _, _, _, _, _, _, _, _ => none
  | n + 1, x0, x1, x2, x3, x4, x5, x6, x7, x8, x9, x10, x11, x12, x13, x14, x15, x16, x17, x18, x19, x20, x21, x22 => message_Check_c5 (message_Check_i3 n) (message_Check_i5 n) x0 x1 x2 x3 x4 x5 x6 x7 x8 x9 x10 x11 x12 x13 x14 x15 x16 x17 x18 x19 x20 x21 x22
end
def message_Check (a0 : Int × Int × Int × Int × Int × Int × Int × Int × Int × Int × Unit) : Option (Int × Unit) := message_Check_c (message_Check_i3 fuel) (message_Check_i5 fuel) a0
-- ways that fail: 2 in [5]
/- tailwater/marks.isMark -/
def marks_isMark (a0 : Int) : Option (Bool × Unit) :=
  match message_Check ((2 : Int), (0 : Int), (0 : Int), (0 : Int), a0, (0 : Int), (0 : Int), (0 : Int), (0 : Int), (0 : Int), ()) with
    | none =>
      none
    | some e0 =>
      some ((e0.1 == (0 : Int), ()))
-- ways that fail: 1 in [start]
/- tailwater/marks.Check -/
def marks_Check_c (J6 : List (Int × Unit) → Int → Int → Option (Int × Unit)) (a0 : List (Int × Unit)) : Option (Int × Unit) :=
  bif Int.ofNat (List.length a0) == (0 : Int) then
    some (((8 : Int), ()))
  else
    bif decide (Int.ofNat (List.length a0) > (4 : Int)) then
      some (((8 : Int), ()))
    else
      J6 (a0) (Int.ofNat (List.length a0)) ((0 : Int))
def marks_Check_c6 (J6 : List (Int × Unit) → Int → Int → Option (Int × Unit)) (x0 : List (Int × Unit)) (x1 : Int) (x2 : Int) : Option (Int × Unit) :=
  bif decide (x2 < x1) then
    bif decide ((0 : Int) ≤ x2) then
      match x0[Int.toNat x2]? with
        | none =>
          none
        | some e0 =>
          bif e0.1 != (-9223372036854775808 : Int) then
            match marks_isMark e0.1 with
              | none =>
                none
              | some e1 =>
                bif !e1.1 then
                  some (((8 : Int), ()))
                else
                  J6 (x0) (x1) (Go.IntKind.wrap Go.IntKind.i64 (x2 + (1 : Int)))
          else
            J6 (x0) (x1) (Go.IntKind.wrap Go.IntKind.i64 (x2 + (1 : Int)))
    else
      none
  else
    some (((0 : Int), ()))
mutual
def marks_Check_i6 : Nat → List (Int × Unit) → Int → Int → Option (Int × Unit)
  | 0, _, _, _ => none
  | n + 1, x0, x1, x2 => marks_Check_c6 (marks_Check_i6 n) x0 x1 x2
end
def marks_Check (a0 : List (Int × Unit)) : Option (Int × Unit) := marks_Check_c (marks_Check_i6 fuel) a0
-- ways that fail: 3 in [6]
/- slices.Min[[]int64,int64] -/
def slices_Min___int64_int64__c (J1 : List (Int × Unit) → Option (Int × Unit)) (J6 : List (Int × Unit) → Int → Int → Option (Int × Unit)) (a0 : List (Int × Unit)) : Option (Int × Unit) :=
  bif decide (Int.ofNat (List.length a0) < (1 : Int)) then
    none
  else
    J1 (a0)
def slices_Min___int64_int64__c1 (J1 : List (Int × Unit) → Option (Int × Unit)) (J6 : List (Int × Unit) → Int → Int → Option (Int × Unit)) (x0 : List (Int × Unit)) : Option (Int × Unit) :=
  match x0[(0 : Nat)]? with
    | none =>
      none
    | some e0 =>
      J6 (x0) (e0.1) ((1 : Int))
def slices_Min___int64_int64__c6 (J1 : List (Int × Unit) → Option (Int × Unit)) (J6 : List (Int × Unit) → Int → Int → Option (Int × Unit)) (x0 : List (Int × Unit)) (x1 : Int) (x2 : Int) : Option (Int × Unit) :=
  bif decide (x2 < Int.ofNat (List.length x0)) then
    bif decide ((0 : Int) ≤ x2) then
      match x0[Int.toNat x2]? with
        | none =>
          none
        | some e0 =>
          J6 (x0) (tmm false x1 e0.1) (Go.IntKind.wrap Go.IntKind.i64 (x2 + (1 : Int)))
    else
      none
  else
    some ((x1, ()))
mutual
def slices_Min___int64_int64__i1 : Nat → List (Int × Unit) → Option (Int × Unit)
  | 0, _ => none
  | n + 1, x0 => slices_Min___int64_int64__c1 (slices_Min___int64_int64__i1 n) (slices_Min___int64_int64__i6 n) x0
def slices_Min___int64_int64__i6 : Nat → List (Int × Unit) → Int → Int → Option (Int × Unit)
  | 0, _, _, _ => none
  | n + 1, x0, x1, x2 => slices_Min___int64_int64__c6 (slices_Min___int64_int64__i1 n) (slices_Min___int64_int64__i6 n) x0 x1 x2
end
def slices_Min___int64_int64_ (a0 : List (Int × Unit)) : Option (Int × Unit) := slices_Min___int64_int64__c (slices_Min___int64_int64__i1 fuel) (slices_Min___int64_int64__i6 fuel) a0
-- ways that fail: 4 in [6, 1, start]
/- tailwater/marks.Least -/
def marks_Least (a0 : List (Int × Unit)) : Option (Int × Int × Unit) :=
  match marks_Check a0 with
    | none =>
      none
    | some e0 =>
      bif e0.1 != (0 : Int) then
        some (((0 : Int), e0.1, ()))
      else
        match slices_Min___int64_int64_ a0 with
          | none =>
            none
          | some e1 =>
            some ((e1.1, (0 : Int), ()))
-- ways that fail: 2 in [start]
/- tailwater/marks.Raise -/
def marks_Raise (a0 : List (Int × Unit)) (a1 : Int) (a2 : Int) : Option (List (Int × Unit) × Bool × Int × Unit) :=
  match marks_Least a0 with
    | none =>
      none
    | some e0 =>
      bif e0.2.1 != (0 : Int) then
        some (([], false, e0.2.1, ()))
      else
        bif decide (a1 < (0 : Int)) then
          some (([], false, (2 : Int), ()))
        else
          bif decide (a1 ≥ Int.ofNat (List.length a0)) then
            some (([], false, (2 : Int), ()))
          else
            match marks_isMark a2 with
              | none =>
                none
              | some e1 =>
                bif !e1.1 then
                  some (([], false, (2 : Int), ()))
                else
                  match bif bigOk (List.length a0) (8 : Nat) then some (a0, ()) else none with
                    | none =>
                      none
                    | some e2 =>
                      bif decide ((0 : Int) ≤ a1) then
                        bif decide (Int.toNat a1 < List.length e2.1) then
                          match e2.1[Int.toNat a1]? with
                            | none =>
                              none
                            | some e3 =>
                              bif decide ((0 : Int) ≤ a1) then
                                bif decide (Int.toNat a1 < List.length e2.1) then
                                  match e2.1[Int.toNat a1]? with
                                    | none =>
                                      none
                                    | some e4 =>
                                      match slices_Min___int64_int64_ (List.set e2.1 (Int.toNat a1) (tmm true e3.1 a2, e4.2)) with
                                        | none =>
                                          none
                                        | some e5 =>
                                          some ((List.set e2.1 (Int.toNat a1) (tmm true e3.1 a2, e4.2), decide (e5.1 > e0.1), (0 : Int), ()))
                                else
                                  none
                              else
                                none
                        else
                          none
                      else
                        none
-- ways that fail: 10 in [start]
/- tailwater/tailwaterref25.Mark -/
def ref25_Mark (a0 : Int) : Option (Bool × Unit) :=
  bif decide (a0 ≥ (-1099511627776 : Int)) then
    bif decide (a0 ≤ (1099511627776 : Int)) then
      some ((true, ()))
    else
      some ((a0 == (9223372036854775807 : Int), ()))
  else
    some ((a0 == (9223372036854775807 : Int), ()))
/- tailwater/tailwaterref31.Check -/
def ref31_Check_c (J6 : List (Int × Unit) → Int → Option (Int × Unit)) (a0 : List (Int × Unit)) : Option (Int × Unit) :=
  bif decide (Int.ofNat (List.length a0) < (1 : Int)) then
    some (((8 : Int), ()))
  else
    bif decide (Int.ofNat (List.length a0) > (4 : Int)) then
      some (((8 : Int), ()))
    else
      J6 (a0) ((0 : Int))
def ref31_Check_c6 (J6 : List (Int × Unit) → Int → Option (Int × Unit)) (x0 : List (Int × Unit)) (x1 : Int) : Option (Int × Unit) :=
  bif decide (x1 < Int.ofNat (List.length x0)) then
    bif decide ((0 : Int) ≤ x1) then
      match x0[Int.toNat x1]? with
        | none =>
          none
        | some e0 =>
          bif e0.1 != (-9223372036854775808 : Int) then
            bif decide ((0 : Int) ≤ x1) then
              match x0[Int.toNat x1]? with
                | none =>
                  none
                | some e1 =>
                  match ref25_Mark e1.1 with
                    | none =>
                      none
                    | some e2 =>
                      bif !e2.1 then
                        some (((8 : Int), ()))
                      else
                        J6 (x0) (Go.IntKind.wrap Go.IntKind.i64 (x1 + (1 : Int)))
            else
              none
          else
            J6 (x0) (Go.IntKind.wrap Go.IntKind.i64 (x1 + (1 : Int)))
    else
      none
  else
    some (((0 : Int), ()))
mutual
def ref31_Check_i6 : Nat → List (Int × Unit) → Int → Option (Int × Unit)
  | 0, _, _ => none
  | n + 1, x0, x1 => ref31_Check_c6 (ref31_Check_i6 n) x0 x1
end
def ref31_Check (a0 : List (Int × Unit)) : Option (Int × Unit) := ref31_Check_c (ref31_Check_i6 fuel) a0
-- ways that fail: 5 in [6]
/- tailwater/tailwaterref31.Lowest -/
def ref31_Lowest_c (J4 : List (Int × Unit) → Int → Int → Option (Int × Unit)) (a0 : List (Int × Unit)) : Option (Int × Unit) :=
  match a0[(0 : Nat)]? with
    | none =>
      none
    | some e0 =>
      J4 (a0) (e0.1) ((1 : Int))
def ref31_Lowest_c4 (J4 : List (Int × Unit) → Int → Int → Option (Int × Unit)) (x0 : List (Int × Unit)) (x1 : Int) (x2 : Int) : Option (Int × Unit) :=
  bif decide (x2 < Int.ofNat (List.length x0)) then
    bif decide ((0 : Int) ≤ x2) then
      match x0[Int.toNat x2]? with
        | none =>
          none
        | some e0 =>
          J4 (x0) (tmm false x1 e0.1) (Go.IntKind.wrap Go.IntKind.i64 (x2 + (1 : Int)))
    else
      none
  else
    some ((x1, ()))
mutual
def ref31_Lowest_i4 : Nat → List (Int × Unit) → Int → Int → Option (Int × Unit)
  | 0, _, _, _ => none
  | n + 1, x0, x1, x2 => ref31_Lowest_c4 (ref31_Lowest_i4 n) x0 x1 x2
end
def ref31_Lowest (a0 : List (Int × Unit)) : Option (Int × Unit) := ref31_Lowest_c (ref31_Lowest_i4 fuel) a0
-- ways that fail: 3 in [4, start]
/- tailwater/tailwaterref31.Raised -/
def ref31_Raised (a0 : List (Int × Unit)) (a1 : Int) (a2 : Int) : Option (List (Int × Unit) × Bool × Unit) :=
  bif bigOk ((0 : Nat) + List.length a0) (8 : Nat) then
    bif decide ((0 : Int) ≤ a1) then
      bif decide (Int.toNat a1 < List.length a0) then
        match a0[Int.toNat a1]? with
          | none =>
            none
          | some e0 =>
            bif decide ((0 : Int) ≤ a1) then
              bif decide (Int.toNat a1 < List.length a0) then
                match a0[Int.toNat a1]? with
                  | none =>
                    none
                  | some e1 =>
                    match ref31_Lowest (List.set a0 (Int.toNat a1) (tmm true e0.1 a2, e1.2)) with
                      | none =>
                        none
                      | some e2 =>
                        match ref31_Lowest a0 with
                          | none =>
                            none
                          | some e3 =>
                            some ((List.set a0 (Int.toNat a1) (tmm true e0.1 a2, e1.2), decide (e2.1 > e3.1), ()))
              else
                none
            else
              none
      else
        none
    else
      none
  else
    none
-- ways that fail: 9 in [start]
/- tailwater/tailwaterref31.Raise -/
def ref31_Raise (a0 : List (Int × Unit)) (a1 : Int) (a2 : Int) : Option (List (Int × Unit) × Bool × Int × Unit) :=
  match ref31_Check a0 with
    | none =>
      none
    | some e0 =>
      bif e0.1 != (0 : Int) then
        some (([], false, e0.1, ()))
      else
        bif decide (a1 < (0 : Int)) then
          some (([], false, (2 : Int), ()))
        else
          bif decide (a1 ≥ Int.ofNat (List.length a0)) then
            some (([], false, (2 : Int), ()))
          else
            match ref25_Mark a2 with
              | none =>
                none
              | some e1 =>
                bif !e1.1 then
                  some (([], false, (2 : Int), ()))
                else
                  match ref31_Raised a0 a1 a2 with
                    | none =>
                      none
                    | some e2 =>
                      some ((e2.1, e2.2.1, (0 : Int), ()))
-- ways that fail: 3 in [start]
/- tailwater/tailwaterref31.Same -/
def ref31_Same_c (J6 : List (Int × Unit) → List (Int × Unit) → Int → Option (Bool × Unit)) (a0 : List (Int × Unit)) (a1 : List (Int × Unit)) : Option (Bool × Unit) :=
  bif Int.ofNat (List.length a0) != Int.ofNat (List.length a1) then
    some ((false, ()))
  else
    J6 (a0) (a1) ((0 : Int))
def ref31_Same_c6 (J6 : List (Int × Unit) → List (Int × Unit) → Int → Option (Bool × Unit)) (x0 : List (Int × Unit)) (x1 : List (Int × Unit)) (x2 : Int) : Option (Bool × Unit) :=
  bif decide (x2 < Int.ofNat (List.length x0)) then
    bif decide ((0 : Int) ≤ x2) then
      match x0[Int.toNat x2]? with
        | none =>
          none
        | some e0 =>
          bif decide ((0 : Int) ≤ x2) then
            match x1[Int.toNat x2]? with
              | none =>
                none
              | some e1 =>
                bif e0.1 != e1.1 then
                  some ((false, ()))
                else
                  J6 (x0) (x1) (Go.IntKind.wrap Go.IntKind.i64 (x2 + (1 : Int)))
          else
            none
    else
      none
  else
    some ((true, ()))
mutual
def ref31_Same_i6 : Nat → List (Int × Unit) → List (Int × Unit) → Int → Option (Bool × Unit)
  | 0, _, _, _ => none
  | n + 1, x0, x1, x2 => ref31_Same_c6 (ref31_Same_i6 n) x0 x1 x2
end
def ref31_Same (a0 : List (Int × Unit)) (a1 : List (Int × Unit)) : Option (Bool × Unit) := ref31_Same_c (ref31_Same_i6 fuel) a0 a1
-- ways that fail: 4 in [6]
/- tailwater/tailwaterlaw31.MarksRaises -/
def law31_MarksRaises (a0 : List (Int × Unit)) (a1 : Int) (a2 : Int) : Option (Bool × Unit) :=
  bif decide (Int.ofNat (List.length a0) > (20 : Int)) then
    some ((true, ()))
  else
    bif bigOk ((0 : Nat) + List.length a0) (8 : Nat) then
      match marks_Raise a0 a1 a2 with
        | none =>
          none
        | some e0 =>
          match ref31_Raise a0 a1 a2 with
            | none =>
              none
            | some e1 =>
              match ref31_Same e0.1 e1.1 with
                | none =>
                  none
                | some e2 =>
                  bif e2.1 then
                    bif e0.2.1 == e1.2.1 then
                      bif e0.2.2.1 == e1.2.2.1 then
                        match ref31_Same a0 a0 with
                          | none =>
                            none
                          | some e3 =>
                            some ((e3.1, ()))
                      else
                        some ((false, ()))
                    else
                      some ((false, ()))
                  else
                    some ((false, ()))
    else
      none
-- ways that fail: 5 in [start]
/- tailwater/tailwaterlaw31.MarksBack -/
def law31_MarksBack_c (J11 : List (Int × Unit) → List (Int × Unit) → List (Int × Unit) → Bool → Int → Int → Option (Bool × Unit)) (J27 : List (Int × Unit) → List (Int × Unit) → List (Int × Unit) → Bool → Int → List (Int × Unit) → Int → Int → Option (Bool × Unit)) (a0 : List (Int × Unit)) (a1 : List (Int × Unit)) (a2 : List (Int × Unit)) : Option (Bool × Unit) :=
  match ref31_Check a0 with
    | none =>
      none
    | some e0 =>
      bif e0.1 != (0 : Int) then
        some ((true, ()))
      else
        bif decide (Int.ofNat (List.length a1) > (60 : Int)) then
          some ((true, ()))
        else
          bif Int.ofNat (List.length a2) != Int.ofNat (List.length a1) then
            some ((true, ()))
          else
            match marks_Least a0 with
              | none =>
                none
              | some e1 =>
                bif e1.2.1 != (0 : Int) then
                  some ((false, ()))
                else
                  J11 (a0) (a1) (a2) (true) (e1.1) ((0 : Int))
def law31_MarksBack_c11 (J11 : List (Int × Unit) → List (Int × Unit) → List (Int × Unit) → Bool → Int → Int → Option (Bool × Unit)) (J27 : List (Int × Unit) → List (Int × Unit) → List (Int × Unit) → Bool → Int → List (Int × Unit) → Int → Int → Option (Bool × Unit)) (x0 : List (Int × Unit)) (x1 : List (Int × Unit)) (x2 : List (Int × Unit)) (x3 : Bool) (x4 : Int) (x5 : Int) : Option (Bool × Unit) :=
  bif decide (x5 < Int.ofNat (List.length x1)) then
    bif decide ((0 : Int) ≤ x5) then
      match x1[Int.toNat x5]? with
        | none =>
          none
        | some e0 =>
          bif decide ((0 : Int) ≤ x5) then
            match x2[Int.toNat x5]? with
              | none =>
                none
              | some e1 =>
                match marks_Raise x0 e0.1 e1.1 with
                  | none =>
                    none
                  | some e2 =>
                    bif e2.2.2.1 != (0 : Int) then
                      bif decide ((0 : Int) ≤ x5) then
                        match x1[Int.toNat x5]? with
                          | none =>
                            none
                          | some e3 =>
                            bif decide (e3.1 ≥ (0 : Int)) then
                              bif decide ((0 : Int) ≤ x5) then
                                match x1[Int.toNat x5]? with
                                  | none =>
                                    none
                                  | some e4 =>
                                    bif decide (e4.1 < Int.ofNat (List.length x0)) then
                                      bif decide ((0 : Int) ≤ x5) then
                                        match x2[Int.toNat x5]? with
                                          | none =>
                                            none
                                          | some e5 =>
                                            match ref25_Mark e5.1 with
                                              | none =>
                                                none
                                              | some e6 =>
                                                bif e6.1 then
                                                  some ((false, ()))
                                                else
                                                  J11 (x0) (x1) (x2) (x3) (x4) (Go.IntKind.wrap Go.IntKind.i64 (x5 + (1 : Int)))
                                      else
                                        none
                                    else
                                      J11 (x0) (x1) (x2) (x3) (x4) (Go.IntKind.wrap Go.IntKind.i64 (x5 + (1 : Int)))
                              else
                                none
                            else
                              J11 (x0) (x1) (x2) (x3) (x4) (Go.IntKind.wrap Go.IntKind.i64 (x5 + (1 : Int)))
                      else
                        none
                    else
                      match marks_Least e2.1 with
                        | none =>
                          none
                        | some e3 =>
                          bif e3.2.1 != (0 : Int) then
                            some ((false, ()))
                          else
                            bif decide (e3.1 < x4) then
                              some ((false, ()))
                            else
                              bif !e2.2.1 == decide (e3.1 > x4) then
                                some ((false, ()))
                              else
                                bif Int.ofNat (List.length e2.1) != Int.ofNat (List.length x0) then
                                  some ((false, ()))
                                else
                                  J27 (x0) (x1) (x2) (x3) (x5) (e2.1) (e3.1) ((0 : Int))
          else
            none
    else
      none
  else
    bif x3 then
      match marks_Check x0 with
        | none =>
          none
        | some e0 =>
          some ((e0.1 == (0 : Int), ()))
    else
      some ((false, ()))
def law31_MarksBack_c27 (J11 : List (Int × Unit) → List (Int × Unit) → List (Int × Unit) → Bool → Int → Int → Option (Bool × Unit)) (J27 : List (Int × Unit) → List (Int × Unit) → List (Int × Unit) → Bool → Int → List (Int × Unit) → Int → Int → Option (Bool × Unit)) (x0 : List (Int × Unit)) (x1 : List (Int × Unit)) (x2 : List (Int × Unit)) (x3 : Bool) (x4 : Int) (x5 : List (Int × Unit)) (x6 : Int) (x7 : Int) : Option (Bool × Unit) :=
  bif decide (x7 < Int.ofNat (List.length x0)) then
    bif decide ((0 : Int) ≤ x7) then
      match x5[Int.toNat x7]? with
        | none =>
          none
        | some e0 =>
          bif decide (x6 > e0.1) then
            some ((false, ()))
          else
            bif decide ((0 : Int) ≤ x7) then
              match x5[Int.toNat x7]? with
                | none =>
                  none
                | some e1 =>
                  bif decide ((0 : Int) ≤ x7) then
                    match x0[Int.toNat x7]? with
                      | none =>
                        none
                      | some e2 =>
                        bif decide (e1.1 < e2.1) then
                          some ((false, ()))
                        else
                          bif decide ((0 : Int) ≤ x4) then
                            match x1[Int.toNat x4]? with
                              | none =>
                                none
                              | some e3 =>
                                bif x7 != e3.1 then
                                  bif decide ((0 : Int) ≤ x7) then
                                    match x5[Int.toNat x7]? with
                                      | none =>
                                        none
                                      | some e4 =>
                                        bif decide ((0 : Int) ≤ x7) then
                                          match x0[Int.toNat x7]? with
                                            | none =>
                                              none
                                            | some e5 =>
                                              bif e4.1 != e5.1 then
                                                some ((false, ()))
                                              else
                                                J27 (x0) (x1) (x2) (x3) (x4) (x5) (x6) (Go.IntKind.wrap Go.IntKind.i64 (x7 + (1 : Int)))
                                        else
                                          none
                                  else
                                    none
                                else
                                  J27 (x0) (x1) (x2) (x3) (x4) (x5) (x6) (Go.IntKind.wrap Go.IntKind.i64 (x7 + (1 : Int)))
                          else
                            none
                  else
                    none
            else
              none
    else
      none
  else
    J11 (x5) (x1) (x2) (x3) (x6) (Go.IntKind.wrap Go.IntKind.i64 (x4 + (1 : Int)))
mutual
def law31_MarksBack_i11 : Nat → List (Int × Unit) → List (Int × Unit) → List (Int × Unit) → Bool → Int → Int → Option (Bool × Unit)
  | 0, _, _, _, _, _, _ => none
  | n + 1, x0, x1, x2, x3, x4, x5 => law31_MarksBack_c11 (law31_MarksBack_i11 n) (law31_MarksBack_i27 n) x0 x1 x2 x3 x4 x5
def law31_MarksBack_i27 : Nat → List (Int × Unit) → List (Int × Unit) → List (Int × Unit) → Bool → Int → List (Int × Unit) → Int → Int → Option (Bool × Unit)
  | 0, _, _, _, _, _, _, _, _ => none
  | n + 1, x0, x1, x2, x3, x4, x5, x6, x7 => law31_MarksBack_c27 (law31_MarksBack_i11 n) (law31_MarksBack_i27 n) x0 x1 x2 x3 x4 x5 x6 x7
end
def law31_MarksBack (a0 : List (Int × Unit)) (a1 : List (Int × Unit)) (a2 : List (Int × Unit)) : Option (Bool × Unit) := law31_MarksBack_c (law31_MarksBack_i11 fuel) (law31_MarksBack_i27 fuel) a0 a1 a2
-- ways that fail: 28 in [27, 11, start]
/- tailwater/tailwaterlaw31.MarksOrder -/
def law31_MarksOrder_c (J17 : List (Int × Unit) → Int → Int → Int → Int → Bool → List (Int × Unit) → Int → Option (Bool × Unit)) (J22 : List (Int × Unit) → Int → Int → Int → Int → Bool → List (Int × Unit) → Int → Int → Option (Bool × Unit)) (a0 : List (Int × Unit)) (a1 : Int) (a2 : Int) (a3 : Int) (a4 : Int) : Option (Bool × Unit) :=
  match ref31_Check a0 with
    | none =>
      none
    | some e0 =>
      bif e0.1 != (0 : Int) then
        some ((true, ()))
      else
        match marks_Raise a0 a1 a3 with
          | none =>
            none
          | some e1 =>
            match marks_Raise a0 a2 a4 with
              | none =>
                none
              | some e2 =>
                bif e1.2.2.1 != (0 : Int) then
                  some ((true, ()))
                else
                  bif e2.2.2.1 != (0 : Int) then
                    some ((true, ()))
                  else
                    match marks_Raise e1.1 a2 a4 with
                      | none =>
                        none
                      | some e3 =>
                        match marks_Raise e2.1 a1 a3 with
                          | none =>
                            none
                          | some e4 =>
                            bif e3.2.2.1 != (0 : Int) then
                              some ((false, ()))
                            else
                              bif e4.2.2.1 != (0 : Int) then
                                some ((false, ()))
                              else
                                match ref31_Same e3.1 e4.1 with
                                  | none =>
                                    none
                                  | some e5 =>
                                    bif !e5.1 then
                                      some ((false, ()))
                                    else
                                      J17 (a0) (a1) (a2) (a3) (a4) (true) (e3.1) ((0 : Int))
def law31_MarksOrder_c17 (J17 : List (Int × Unit) → Int → Int → Int → Int → Bool → List (Int × Unit) → Int → Option (Bool × Unit)) (J22 : List (Int × Unit) → Int → Int → Int → Int → Bool → List (Int × Unit) → Int → Int → Option (Bool × Unit)) (x0 : List (Int × Unit)) (x1 : Int) (x2 : Int) (x3 : Int) (x4 : Int) (x5 : Bool) (x6 : List (Int × Unit)) (x7 : Int) : Option (Bool × Unit) :=
  bif decide (x7 < Int.ofNat (List.length x0)) then
    bif decide ((0 : Int) ≤ x7) then
      match x0[Int.toNat x7]? with
        | none =>
          none
        | some e0 =>
          bif x7 == x1 then
            J22 (x0) (x1) (x2) (x3) (x4) (x5) (x6) (x7) (tmm true e0.1 x3)
          else
            J22 (x0) (x1) (x2) (x3) (x4) (x5) (x6) (x7) (e0.1)
    else
      none
  else
    some ((x5, ()))
def law31_MarksOrder_c22 (J17 : List (Int × Unit) → Int → Int → Int → Int → Bool → List (Int × Unit) → Int → Option (Bool × Unit)) (J22 : List (Int × Unit) → Int → Int → Int → Int → Bool → List (Int × Unit) → Int → Int → Option (Bool × Unit)) (x0 : List (Int × Unit)) (x1 : Int) (x2 : Int) (x3 : Int) (x4 : Int) (x5 : Bool) (x6 : List (Int × Unit)) (x7 : Int) (x8 : Int) : Option (Bool × Unit) :=
  bif x7 == x2 then
    bif decide ((0 : Int) ≤ x7) then
      match x6[Int.toNat x7]? with
        | none =>
          none
        | some e0 =>
          bif e0.1 != tmm true x8 x4 then
            some ((false, ()))
          else
            J17 (x0) (x1) (x2) (x3) (x4) (x5) (x6) (Go.IntKind.wrap Go.IntKind.i64 (x7 + (1 : Int)))
    else
      none
  else
    bif decide ((0 : Int) ≤ x7) then
      match x6[Int.toNat x7]? with
        | none =>
          none
        | some e0 =>
          bif e0.1 != x8 then
            some ((false, ()))
          else
            J17 (x0) (x1) (x2) (x3) (x4) (x5) (x6) (Go.IntKind.wrap Go.IntKind.i64 (x7 + (1 : Int)))
    else
      none
mutual
def law31_MarksOrder_i17 : Nat → List (Int × Unit) → Int → Int → Int → Int → Bool → List (Int × Unit) → Int → Option (Bool × Unit)
  | 0, _, _, _, _, _, _, _, _ => none
  | n + 1, x0, x1, x2, x3, x4, x5, x6, x7 => law31_MarksOrder_c17 (law31_MarksOrder_i17 n) (law31_MarksOrder_i22 n) x0 x1 x2 x3 x4 x5 x6 x7
def law31_MarksOrder_i22 : Nat → List (Int × Unit) → Int → Int → Int → Int → Bool → List (Int × Unit) → Int → Int → Option (Bool × Unit)
  | 0, _, _, _, _, _, _, _, _, _ => none
  | n + 1, x0, x1, x2, x3, x4, x5, x6, x7, x8 => law31_MarksOrder_c22 (law31_MarksOrder_i17 n) (law31_MarksOrder_i22 n) x0 x1 x2 x3 x4 x5 x6 x7 x8
end
def law31_MarksOrder (a0 : List (Int × Unit)) (a1 : Int) (a2 : Int) (a3 : Int) (a4 : Int) : Option (Bool × Unit) := law31_MarksOrder_c (law31_MarksOrder_i17 fuel) (law31_MarksOrder_i22 fuel) a0 a1 a2 a3 a4
-- ways that fail: 12 in [22, 17, start]
/- tailwater/tailwaterlaw31.MarksEnds -/
def law31_MarksEnds_c (J7 : Bool → Int → Int → Bool → Bool → Option (Bool × Unit)) (J9 : List (Int × Unit) → Bool → Int → Int → Bool → Bool → Int → Option (Bool × Unit)) (a0 : List (Int × Unit)) : Option (Bool × Unit) :=
  match ref31_Check a0 with
    | none =>
      none
    | some e0 =>
      bif e0.1 != (0 : Int) then
        some ((true, ()))
      else
        match marks_Least a0 with
          | none =>
            none
          | some e1 =>
            J9 (a0) (true) (e1.1) (e1.2.1) (false) (true) ((0 : Int))
def law31_MarksEnds_c7 (J7 : Bool → Int → Int → Bool → Bool → Option (Bool × Unit)) (J9 : List (Int × Unit) → Bool → Int → Int → Bool → Bool → Int → Option (Bool × Unit)) (x0 : Bool) (x1 : Int) (x2 : Int) (x3 : Bool) (x4 : Bool) : Option (Bool × Unit) :=
  bif x0 then
    bif x2 == (0 : Int) then
      bif (x1 == (-9223372036854775808 : Int)) == x3 then
        some (((x1 == (9223372036854775807 : Int)) == x4, ()))
      else
        some ((false, ()))
    else
      some ((false, ()))
  else
    some ((false, ()))
def law31_MarksEnds_c9 (J7 : Bool → Int → Int → Bool → Bool → Option (Bool × Unit)) (J9 : List (Int × Unit) → Bool → Int → Int → Bool → Bool → Int → Option (Bool × Unit)) (x0 : List (Int × Unit)) (x1 : Bool) (x2 : Int) (x3 : Int) (x4 : Bool) (x5 : Bool) (x6 : Int) : Option (Bool × Unit) :=
  bif decide (x6 < Int.ofNat (List.length x0)) then
    bif x4 then
      bif x5 then
        bif decide ((0 : Int) ≤ x6) then
          match x0[Int.toNat x6]? with
            | none =>
              none
            | some e0 =>
              J9 (x0) (x1) (x2) (x3) (true) (e0.1 == (9223372036854775807 : Int)) (Go.IntKind.wrap Go.IntKind.i64 (x6 + (1 : Int)))
        else
          none
      else
        J9 (x0) (x1) (x2) (x3) (true) (false) (Go.IntKind.wrap Go.IntKind.i64 (x6 + (1 : Int)))
    else
      bif decide ((0 : Int) ≤ x6) then
        match x0[Int.toNat x6]? with
          | none =>
            none
          | some e0 =>
            bif x5 then
              bif decide ((0 : Int) ≤ x6) then
                match x0[Int.toNat x6]? with
                  | none =>
                    none
                  | some e1 =>
                    J9 (x0) (x1) (x2) (x3) (e0.1 == (-9223372036854775808 : Int)) (e1.1 == (9223372036854775807 : Int)) (Go.IntKind.wrap Go.IntKind.i64 (x6 + (1 : Int)))
              else
                none
            else
              J9 (x0) (x1) (x2) (x3) (e0.1 == (-9223372036854775808 : Int)) (false) (Go.IntKind.wrap Go.IntKind.i64 (x6 + (1 : Int)))
      else
        none
  else
    J7 (x1) (x2) (x3) (x4) (x5)
mutual
def law31_MarksEnds_i7 : Nat → Bool → Int → Int → Bool → Bool → Option (Bool × Unit)
  | 0, _, _, _, _, _ => none
  | n + 1, x0, x1, x2, x3, x4 => law31_MarksEnds_c7 (law31_MarksEnds_i7 n) (law31_MarksEnds_i9 n) x0 x1 x2 x3 x4
def law31_MarksEnds_i9 : Nat → List (Int × Unit) → Bool → Int → Int → Bool → Bool → Int → Option (Bool × Unit)
  | 0, _, _, _, _, _, _, _ => none
  | n + 1, x0, x1, x2, x3, x4, x5, x6 => law31_MarksEnds_c9 (law31_MarksEnds_i7 n) (law31_MarksEnds_i9 n) x0 x1 x2 x3 x4 x5 x6
end
def law31_MarksEnds (a0 : List (Int × Unit)) : Option (Bool × Unit) := law31_MarksEnds_c (law31_MarksEnds_i7 fuel) (law31_MarksEnds_i9 fuel) a0
-- ways that fail: 8 in [9, start]
/- math/bits.Mul32 -/
def math_bits_Mul32 (a0 : Int) (a1 : Int) : Option (Int × Int × Unit) :=
  some ((Go.IntKind.wrap Go.IntKind.u32 (Int.fdiv (Go.IntKind.wrap Go.IntKind.u64 (Go.IntKind.wrap Go.IntKind.u64 a0 * Go.IntKind.wrap Go.IntKind.u64 a1)) (4294967296 : Int)), Go.IntKind.wrap Go.IntKind.u32 (Go.IntKind.wrap Go.IntKind.u64 (Go.IntKind.wrap Go.IntKind.u64 a0 * Go.IntKind.wrap Go.IntKind.u64 a1)), ()))
/- math/bits.Mul64 -/
def math_bits_Mul64 (a0 : Int) (a1 : Int) : Option (Int × Int × Unit) :=
  some ((Go.IntKind.wrap Go.IntKind.u64 (Go.IntKind.wrap Go.IntKind.u64 (Go.IntKind.wrap Go.IntKind.u64 (Int.fdiv a0 (4294967296 : Int) * Int.fdiv a1 (4294967296 : Int)) + Int.fdiv (Go.IntKind.wrap Go.IntKind.u64 (Go.IntKind.wrap Go.IntKind.u64 (Int.fdiv a0 (4294967296 : Int) * Go.bits Go.BinOp.and Go.IntKind.u64 a1 (4294967295 : Int)) + Int.fdiv (Go.IntKind.wrap Go.IntKind.u64 (Go.bits Go.BinOp.and Go.IntKind.u64 a0 (4294967295 : Int) * Go.bits Go.BinOp.and Go.IntKind.u64 a1 (4294967295 : Int))) (4294967296 : Int))) (4294967296 : Int)) + Int.fdiv (Go.IntKind.wrap Go.IntKind.u64 (Go.bits Go.BinOp.and Go.IntKind.u64 (Go.IntKind.wrap Go.IntKind.u64 (Go.IntKind.wrap Go.IntKind.u64 (Int.fdiv a0 (4294967296 : Int) * Go.bits Go.BinOp.and Go.IntKind.u64 a1 (4294967295 : Int)) + Int.fdiv (Go.IntKind.wrap Go.IntKind.u64 (Go.bits Go.BinOp.and Go.IntKind.u64 a0 (4294967295 : Int) * Go.bits Go.BinOp.and Go.IntKind.u64 a1 (4294967295 : Int))) (4294967296 : Int))) (4294967295 : Int) + Go.IntKind.wrap Go.IntKind.u64 (Go.bits Go.BinOp.and Go.IntKind.u64 a0 (4294967295 : Int) * Int.fdiv a1 (4294967296 : Int)))) (4294967296 : Int)), Go.IntKind.wrap Go.IntKind.u64 (a0 * a1), ()))
/- math/bits.Mul -/
def math_bits_Mul (a0 : Int) (a1 : Int) : Option (Int × Int × Unit) :=
  some ((Go.IntKind.wrap Go.IntKind.u64 (Go.IntKind.wrap Go.IntKind.u64 (Go.IntKind.wrap Go.IntKind.u64 (Int.fdiv a0 (4294967296 : Int) * Int.fdiv a1 (4294967296 : Int)) + Int.fdiv (Go.IntKind.wrap Go.IntKind.u64 (Go.IntKind.wrap Go.IntKind.u64 (Int.fdiv a0 (4294967296 : Int) * Go.bits Go.BinOp.and Go.IntKind.u64 a1 (4294967295 : Int)) + Int.fdiv (Go.IntKind.wrap Go.IntKind.u64 (Go.bits Go.BinOp.and Go.IntKind.u64 a0 (4294967295 : Int) * Go.bits Go.BinOp.and Go.IntKind.u64 a1 (4294967295 : Int))) (4294967296 : Int))) (4294967296 : Int)) + Int.fdiv (Go.IntKind.wrap Go.IntKind.u64 (Go.bits Go.BinOp.and Go.IntKind.u64 (Go.IntKind.wrap Go.IntKind.u64 (Go.IntKind.wrap Go.IntKind.u64 (Int.fdiv a0 (4294967296 : Int) * Go.bits Go.BinOp.and Go.IntKind.u64 a1 (4294967295 : Int)) + Int.fdiv (Go.IntKind.wrap Go.IntKind.u64 (Go.bits Go.BinOp.and Go.IntKind.u64 a0 (4294967295 : Int) * Go.bits Go.BinOp.and Go.IntKind.u64 a1 (4294967295 : Int))) (4294967296 : Int))) (4294967295 : Int) + Go.IntKind.wrap Go.IntKind.u64 (Go.bits Go.BinOp.and Go.IntKind.u64 a0 (4294967295 : Int) * Int.fdiv a1 (4294967296 : Int)))) (4294967296 : Int)), Go.IntKind.wrap Go.IntKind.u64 (a0 * a1), ()))
/- slices.Repeat[[]int64,int64] -/
def slices_Repeat___int64_int64__c (J1 : List (Int × Unit) → Int → Option (List (Int × Unit) × Unit)) (J4 : List (Int × Unit) → Int → Option (List (Int × Unit) × Unit)) (J9 : List (Int × Unit) → Int → Option (List (Int × Unit) × Unit)) (a0 : List (Int × Unit)) (a1 : Int) : Option (List (Int × Unit) × Unit) :=
  bif decide (a1 < (0 : Int)) then
    none
  else
    J1 (a0) (a1)
def slices_Repeat___int64_int64__c1 (J1 : List (Int × Unit) → Int → Option (List (Int × Unit) × Unit)) (J4 : List (Int × Unit) → Int → Option (List (Int × Unit) × Unit)) (J9 : List (Int × Unit) → Int → Option (List (Int × Unit) × Unit)) (x0 : List (Int × Unit)) (x1 : Int) : Option (List (Int × Unit) × Unit) :=
  bif decide (Go.IntKind.wrap Go.IntKind.u64 (Go.IntKind.wrap Go.IntKind.u64 (Go.IntKind.wrap Go.IntKind.u64 (Int.fdiv (Go.IntKind.wrap Go.IntKind.u64 (Int.ofNat (List.length x0))) (4294967296 : Int) * Int.fdiv (Go.IntKind.wrap Go.IntKind.u64 x1) (4294967296 : Int)) + Int.fdiv (Go.IntKind.wrap Go.IntKind.u64 (Go.IntKind.wrap Go.IntKind.u64 (Int.fdiv (Go.IntKind.wrap Go.IntKind.u64 (Int.ofNat (List.length x0))) (4294967296 : Int) * Go.bits Go.BinOp.and Go.IntKind.u64 (Go.IntKind.wrap Go.IntKind.u64 x1) (4294967295 : Int)) + Int.fdiv (Go.IntKind.wrap Go.IntKind.u64 (Go.bits Go.BinOp.and Go.IntKind.u64 (Go.IntKind.wrap Go.IntKind.u64 (Int.ofNat (List.length x0))) (4294967295 : Int) * Go.bits Go.BinOp.and Go.IntKind.u64 (Go.IntKind.wrap Go.IntKind.u64 x1) (4294967295 : Int))) (4294967296 : Int))) (4294967296 : Int)) + Int.fdiv (Go.IntKind.wrap Go.IntKind.u64 (Go.bits Go.BinOp.and Go.IntKind.u64 (Go.IntKind.wrap Go.IntKind.u64 (Go.IntKind.wrap Go.IntKind.u64 (Int.fdiv (Go.IntKind.wrap Go.IntKind.u64 (Int.ofNat (List.length x0))) (4294967296 : Int) * Go.bits Go.BinOp.and Go.IntKind.u64 (Go.IntKind.wrap Go.IntKind.u64 x1) (4294967295 : Int)) + Int.fdiv (Go.IntKind.wrap Go.IntKind.u64 (Go.bits Go.BinOp.and Go.IntKind.u64 (Go.IntKind.wrap Go.IntKind.u64 (Int.ofNat (List.length x0))) (4294967295 : Int) * Go.bits Go.BinOp.and Go.IntKind.u64 (Go.IntKind.wrap Go.IntKind.u64 x1) (4294967295 : Int))) (4294967296 : Int))) (4294967295 : Int) + Go.IntKind.wrap Go.IntKind.u64 (Go.bits Go.BinOp.and Go.IntKind.u64 (Go.IntKind.wrap Go.IntKind.u64 (Int.ofNat (List.length x0))) (4294967295 : Int) * Int.fdiv (Go.IntKind.wrap Go.IntKind.u64 x1) (4294967296 : Int)))) (4294967296 : Int)) > (0 : Int)) then
    none
  else
    bif decide (Go.IntKind.wrap Go.IntKind.u64 (Go.IntKind.wrap Go.IntKind.u64 (Int.ofNat (List.length x0)) * Go.IntKind.wrap Go.IntKind.u64 x1) > (9223372036854775807 : Int)) then
      none
    else
      J4 (x0) (Go.IntKind.wrap Go.IntKind.u64 (Go.IntKind.wrap Go.IntKind.u64 (Int.ofNat (List.length x0)) * Go.IntKind.wrap Go.IntKind.u64 x1))
def slices_Repeat___int64_int64__c4 (J1 : List (Int × Unit) → Int → Option (List (Int × Unit) × Unit)) (J4 : List (Int × Unit) → Int → Option (List (Int × Unit) × Unit)) (J9 : List (Int × Unit) → Int → Option (List (Int × Unit) × Unit)) (x0 : List (Int × Unit)) (x1 : Int) : Option (List (Int × Unit) × Unit) :=
  bif decide ((0 : Int) ≤ Go.IntKind.wrap Go.IntKind.i64 x1) then
    bif decide ((0 : Int) ≤ Go.IntKind.wrap Go.IntKind.i64 x1) then
      bif decide (Int.toNat (Go.IntKind.wrap Go.IntKind.i64 x1) ≤ Int.toNat (Go.IntKind.wrap Go.IntKind.i64 x1)) && (decide ((8 : Nat) * Int.toNat (Go.IntKind.wrap Go.IntKind.i64 x1) ≤ (281474976710656 : Nat)) && decide (Int.toNat (Go.IntKind.wrap Go.IntKind.i64 x1) ≤ (9223372036854775807 : Nat))) then
        J9 (List.take (min (List.length x0) (List.length (List.replicate (Int.toNat (Go.IntKind.wrap Go.IntKind.i64 x1)) ((0 : Int), ())))) x0 ++ List.drop (min (List.length x0) (List.length (List.replicate (Int.toNat (Go.IntKind.wrap Go.IntKind.i64 x1)) ((0 : Int), ())))) (List.replicate (Int.toNat (Go.IntKind.wrap Go.IntKind.i64 x1)) ((0 : Int), ()))) (Int.ofNat (min (List.length x0) (List.length (List.replicate (Int.toNat (Go.IntKind.wrap Go.IntKind.i64 x1)) ((0 : Int), ())))))
      else
        none
    else
      none
  else
    none
def slices_Repeat___int64_int64__c9 (J1 : List (Int × Unit) → Int → Option (List (Int × Unit) × Unit)) (J4 : List (Int × Unit) → Int → Option (List (Int × Unit) × Unit)) (J9 : List (Int × Unit) → Int → Option (List (Int × Unit) × Unit)) (x0 : List (Int × Unit)) (x1 : Int) : Option (List (Int × Unit) × Unit) :=
  bif decide (x1 < Int.ofNat (List.length x0)) then
    bif decide ((0 : Int) ≤ x1) then
      bif decide (Int.toNat x1 ≤ List.length x0) then
        bif decide (Int.toNat x1 = List.length x0) then
          bif decide ((0 : Int) ≤ x1) then
            bif decide ((0 : Nat) ≤ Int.toNat x1) && decide (Int.toNat x1 ≤ List.length x0) then
              bif decide ((0 : Nat) = Int.toNat x1) then
                none
              else
                none
            else
              none
          else
            none
        else
          bif decide ((0 : Int) ≤ x1) then
            bif decide ((0 : Nat) ≤ Int.toNat x1) && decide (Int.toNat x1 ≤ List.length x0) then
              bif decide ((0 : Nat) = Int.toNat x1) then
                none
              else
                bif decide (Int.toNat x1 + (List.length x0 - Int.toNat x1) ≤ List.length x0) then
                  J9 (List.take (Int.toNat x1) x0 ++ (List.take (min (List.length (List.take (Int.toNat x1 - (0 : Nat)) (List.drop (0 : Nat) x0))) (List.length x0 - Int.toNat x1)) (List.take (Int.toNat x1 - (0 : Nat)) (List.drop (0 : Nat) x0)) ++ List.drop (Int.toNat x1 + min (List.length (List.take (Int.toNat x1 - (0 : Nat)) (List.drop (0 : Nat) x0))) (List.length x0 - Int.toNat x1)) x0)) (Go.IntKind.wrap Go.IntKind.i64 (x1 + Int.ofNat (min (List.length (List.take (Int.toNat x1 - (0 : Nat)) (List.drop (0 : Nat) x0))) (List.length x0 - Int.toNat x1))))
                else
                  none
            else
              none
          else
            none
      else
        none
    else
      none
  else
    some ((x0, ()))
mutual
def slices_Repeat___int64_int64__i1 : Nat → List (Int × Unit) → Int → Option (List (Int × Unit) × Unit)
  | 0, _, _ => none
  | n + 1, x0, x1 => slices_Repeat___int64_int64__c1 (slices_Repeat___int64_int64__i1 n) (slices_Repeat___int64_int64__i4 n) (slices_Repeat___int64_int64__i9 n) x0 x1
def slices_Repeat___int64_int64__i4 : Nat → List (Int × Unit) → Int → Option (List (Int × Unit) × Unit)
  | 0, _, _ => none
  | n + 1, x0, x1 => slices_Repeat___int64_int64__c4 (slices_Repeat___int64_int64__i1 n) (slices_Repeat___int64_int64__i4 n) (slices_Repeat___int64_int64__i9 n) x0 x1
def slices_Repeat___int64_int64__i9 : Nat → List (Int × Unit) → Int → Option (List (Int × Unit) × Unit)
  | 0, _, _ => none
  | n + 1, x0, x1 => slices_Repeat___int64_int64__c9 (slices_Repeat___int64_int64__i1 n) (slices_Repeat___int64_int64__i4 n) (slices_Repeat___int64_int64__i9 n) x0 x1
end
def slices_Repeat___int64_int64_ (a0 : List (Int × Unit)) (a1 : Int) : Option (List (Int × Unit) × Unit) := slices_Repeat___int64_int64__c (slices_Repeat___int64_int64__i1 fuel) (slices_Repeat___int64_int64__i4 fuel) (slices_Repeat___int64_int64__i9 fuel) a0 a1
-- ways that fail: 16 in [9, 4, 1, start]
/- tailwater/marks.New -/
def marks_New (a0 : Int) : Option (List (Int × Unit) × Int × Unit) :=
  bif decide (a0 < (1 : Int)) then
    some (([], (2 : Int), ()))
  else
    bif decide (a0 > (4 : Int)) then
      some (([], (2 : Int), ()))
    else
      match slices_Repeat___int64_int64_ [((-9223372036854775808 : Int), ())] a0 with
        | none =>
          none
        | some e0 =>
          some ((e0.1, (0 : Int), ()))
-- ways that fail: 1 in [start]
/- tailwater/tailwaterref31.New -/
def ref31_New_c (J7 : Int → List (Int × Unit) → Int → Option (List (Int × Unit) × Int × Unit)) (a0 : Int) : Option (List (Int × Unit) × Int × Unit) :=
  bif decide (a0 < (1 : Int)) then
    some (([], (2 : Int), ()))
  else
    bif decide (a0 > (4 : Int)) then
      some (([], (2 : Int), ()))
    else
      J7 (a0) ([]) ((0 : Int))
def ref31_New_c7 (J7 : Int → List (Int × Unit) → Int → Option (List (Int × Unit) × Int × Unit)) (x0 : Int) (x1 : List (Int × Unit)) (x2 : Int) : Option (List (Int × Unit) × Int × Unit) :=
  bif decide (x2 < x0) then
    bif bigOk (List.length x1 + (1 : Nat)) (8 : Nat) then
      J7 (x0) (x1 ++ [((-9223372036854775808 : Int), ())]) (Go.IntKind.wrap Go.IntKind.i64 (x2 + (1 : Int)))
    else
      none
  else
    some ((x1, (0 : Int), ()))
mutual
def ref31_New_i7 : Nat → Int → List (Int × Unit) → Int → Option (List (Int × Unit) × Int × Unit)
  | 0, _, _, _ => none
  | n + 1, x0, x1, x2 => ref31_New_c7 (ref31_New_i7 n) x0 x1 x2
end
def ref31_New (a0 : Int) : Option (List (Int × Unit) × Int × Unit) := ref31_New_c (ref31_New_i7 fuel) a0
-- ways that fail: 1 in [7]
/- tailwater/tailwaterref31.Least -/
def ref31_Least (a0 : List (Int × Unit)) : Option (Int × Int × Unit) :=
  match ref31_Check a0 with
    | none =>
      none
    | some e0 =>
      bif e0.1 != (0 : Int) then
        some (((0 : Int), e0.1, ()))
      else
        match ref31_Lowest a0 with
          | none =>
            none
          | some e1 =>
            some ((e1.1, (0 : Int), ()))
-- ways that fail: 2 in [start]
/- tailwater/tailwaterlaw31.MarksTells -/
def law31_MarksTells (a0 : List (Int × Unit)) (a1 : Int) : Option (Bool × Unit) :=
  bif decide (Int.ofNat (List.length a0) > (20 : Int)) then
    some ((true, ()))
  else
    match marks_New a1 with
      | none =>
        none
      | some e0 =>
        match ref31_New a1 with
          | none =>
            none
          | some e1 =>
            match marks_Least a0 with
              | none =>
                none
              | some e2 =>
                match ref31_Least a0 with
                  | none =>
                    none
                  | some e3 =>
                    match ref31_Same e0.1 e1.1 with
                      | none =>
                        none
                      | some e4 =>
                        bif e4.1 then
                          bif e0.2.1 == e1.2.1 then
                            bif e2.1 == e3.1 then
                              bif e2.2.1 == e3.2.1 then
                                match marks_Check a0 with
                                  | none =>
                                    none
                                  | some e5 =>
                                    match ref31_Check a0 with
                                      | none =>
                                        none
                                      | some e6 =>
                                        some ((e5.1 == e6.1, ()))
                              else
                                some ((false, ()))
                            else
                              some ((false, ()))
                          else
                            some ((false, ()))
                        else
                          some ((false, ()))
-- ways that fail: 7 in [start]
end Tm
