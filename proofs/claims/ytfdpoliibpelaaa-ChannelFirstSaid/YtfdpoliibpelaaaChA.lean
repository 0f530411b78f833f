/- The functions of the code, as plain functions: printed from the code. -/
import Derived.Test.YtfdpoliibpelaaaAbsCloneT
set_option linter.unusedVariables false
namespace Tw
open Go.Abs (fuel bigOk cloned tmm)
/- tailwater/tailwaterlaw26.alive -/
def law26_alive : Option (Bool × Unit) := some (true, ())
/- tailwater/tailwaterref26.Great -/
def ref26_Great (a0 : Int × List (Int × Int × Int × Int × Int × Int × Int × Int × Int × Int × Unit) × Unit) : Option (Bool × Unit) :=
  some ((decide (Int.ofNat (List.length a0.2.1) > (20 : Int)), ()))
/- tailwater/tailwaterref26.Twin -/
def ref26_Twin (a0 : Int × List (Int × Int × Int × Int × Int × Int × Int × Int × Int × Int × Unit) × Unit) : Option ((Int × List (Int × Int × Int × Int × Int × Int × Int × Int × Int × Int × Unit) × Unit) × Unit) :=
  bif bigOk ((0 : Nat) + List.length a0.2.1) (80 : Nat) then
    some ((a0, ()))
  else
    none
-- ways that fail: 1 in [start]
/- tailwater/message.isTime -/
def message_isTime (a0 : Int) : Option (Bool × Unit) :=
  bif decide (a0 ≥ (-1099511627776 : Int)) then
    some ((decide (a0 ≤ (1099511627776 : Int)), ()))
  else
    some ((false, ()))
/- tailwater/message.isMark -/
def message_isMark (a0 : Int) : Option (Bool × Unit) :=
  match message_isTime a0 with
    | none =>
      none
    | some e0 =>
      bif e0.1 then
        some ((true, ()))
      else
        some ((a0 == (9223372036854775807 : Int), ()))
-- ways that fail: 1 in [start]
/- tailwater/message.Check -/
def message_Check_c (J3 : Int → Int → Int → Int → Int → Int → Int → Int → Int → Int → Bool → Int → Int → Int → Int → Int → Int → Int → Int → Int → Int → Option (Int × Unit)) (J5 : Int → Int → Int → Int → Int → Int → Int → Int → Int → Int → Bool → Int → Int → Int → Int → Int → Int → Int → Int → Int → Int → Int → Bool → Option (Int × Unit)) (a0 : Int × Int × Int × Int × Int × Int × Int × Int × Int × Int × Unit) : Option (Int × Unit) :=
  bif a0.1 == (1 : Int) then
    J5 (a0.1) (a0.2.1) (a0.2.2.1) (a0.2.2.2.1) (a0.2.2.2.2.1) (a0.2.2.2.2.2.1) (a0.2.2.2.2.2.2.1) (a0.2.2.2.2.2.2.2.1) (a0.2.2.2.2.2.2.2.2.1) (a0.2.2.2.2.2.2.2.2.2.1) (false) (a0.1) ((0 : Int)) ((0 : Int)) ((0 : Int)) ((0 : Int)) ((0 : Int)) ((0 : Int)) ((0 : Int)) ((0 : Int)) ((0 : Int)) (a0.1) (true)
  else
    J5 (a0.1) (a0.2.1) (a0.2.2.1) (a0.2.2.2.1) (a0.2.2.2.2.1) (a0.2.2.2.2.2.1) (a0.2.2.2.2.2.2.1) (a0.2.2.2.2.2.2.2.1) (a0.2.2.2.2.2.2.2.2.1) (a0.2.2.2.2.2.2.2.2.2.1) (false) (a0.1) ((0 : Int)) ((0 : Int)) ((0 : Int)) ((0 : Int)) ((0 : Int)) ((0 : Int)) ((0 : Int)) ((0 : Int)) ((0 : Int)) (a0.1) (a0.1 == (4 : Int))
def message_Check_c3 (J3 : Int → Int → Int → Int → Int → Int → Int → Int → Int → Int → Bool → Int → Int → Int → Int → Int → Int → Int → Int → Int → Int → Option (Int × Unit)) (J5 : Int → Int → Int → Int → Int → Int → Int → Int → Int → Int → Bool → Int → Int → Int → Int → Int → Int → Int → Int → Int → Int → Int → Bool → Option (Int × Unit)) (x0 : Int) (x1 : Int) (x2 : Int) (x3 : Int) (x4 : Int) (x5 : Int) (x6 : Int) (x7 : Int) (x8 : Int) (x9 : Int) (x10 : Bool) (x11 : Int) (x12 : Int) (x13 : Int) (x14 : Int) (x15 : Int) (x16 : Int) (x17 : Int) (x18 : Int) (x19 : Int) (x20 : Int) : Option (Int × Unit) :=
  bif !x10 then
    some (((8 : Int), ()))
  else
    bif !(x0 == x11 && (x1 == x12 && (x2 == x13 && (x3 == x14 && (x4 == x15 && (x5 == x16 && (x6 == x17 && (x7 == x18 && (x8 == x19 && (x9 == x20 && true)))))))))) then
      some (((8 : Int), ()))
    else
      some (((0 : Int), ()))
def message_Check_c5 (J3 : Int → Int → Int → Int → Int → Int → Int → Int → Int → Int → Bool → Int → Int → Int → Int → Int → Int → Int → Int → Int → Int → Option (Int × Unit)) (J5 : Int → Int → Int → Int → Int → Int → Int → Int → Int → Int → Bool → Int → Int → Int → Int → Int → Int → Int → Int → Int → Int → Int → Bool → Option (Int × Unit)) (x0 : Int) (x1 : Int) (x2 : Int) (x3 : Int) (x4 : Int) (x5 : Int) (x6 : Int) (x7 : Int) (x8 : Int) (x9 : Int) (x10 : Bool) (x11 : Int) (x12 : Int) (x13 : Int) (x14 : Int) (x15 : Int) (x16 : Int) (x17 : Int) (x18 : Int) (x19 : Int) (x20 : Int) (x21 : Int) (x22 : Bool) : Option (Int × Unit) :=
  bif x22 then
    match message_isTime x2 with
      | none =>
        none
      | some e0 =>
        J3 (x0) (x1) (x2) (x3) (x4) (x5) (x6) (x7) (x8) (x9) (e0.1) (x11) (x1) (x2) (x3) (x15) (x16) (x17) (x18) (x19) (x20)
  else
    bif x21 == (2 : Int) then
      match message_isMark x4 with
        | none =>
          none
        | some e0 =>
          J3 (x0) (x1) (x2) (x3) (x4) (x5) (x6) (x7) (x8) (x9) (e0.1) (x11) (x12) (x13) (x14) (x4) (x16) (x17) (x18) (x19) (x20)
    else
      bif x21 == (3 : Int) then
        bif decide ((-2199023255552 : Int) ≤ x6) then
          bif decide (x6 < x7) then
            J3 (x0) (x1) (x2) (x3) (x4) (x5) (x6) (x7) (x8) (x9) (decide (x7 ≤ (2199023255552 : Int))) (x11) (x12) (x13) (x14) (x15) (x5) (x6) (x7) (x8) (x9)
          else
            J3 (x0) (x1) (x2) (x3) (x4) (x5) (x6) (x7) (x8) (x9) (false) (x11) (x12) (x13) (x14) (x15) (x5) (x6) (x7) (x8) (x9)
        else
          J3 (x0) (x1) (x2) (x3) (x4) (x5) (x6) (x7) (x8) (x9) (false) (x11) (x12) (x13) (x14) (x15) (x5) (x6) (x7) (x8) (x9)
      else
        J3 (x0) (x1) (x2) (x3) (x4) (x5) (x6) (x7) (x8) (x9) (x10) (x11) (x12) (x13) (x14) (x15) (x16) (x17) (x18) (x19) (x20)
mutual
def message_Check_i3 : Nat → Int → Int → Int → Int → Int → Int → Int → Int → Int → Int → Bool → Int → Int → Int → Int → Int → Int → Int → Int → Int → Int → Option (Int × Unit)
  | 0, _, _, _, _, _, _, _, _, _, _, _, _, _, _, _, _, _, _, _, _, _ => none
  | n + 1, x0, x1, x2, x3, x4, x5, x6, x7, x8, x9, x10, x11, x12, x13, x14, x15, x16, x17, x18, x19, x20 => message_Check_c3 (message_Check_i3 n) (message_Check_i5 n) x0 x1 x2 x3 x4 x5 x6 x7 x8 x9 x10 x11 x12 x13 x14 x15 x16 x17 x18 x19 x20
def message_Check_i5 : Nat → Int → Int → Int → Int → Int → Int → Int → Int → Int → Int → Bool → Int → Int → Int → Int → Int → Int → Int → Int → Int → Int → Int → Bool → Option (Int × Unit)
  | 0, _, _, _, _, _, _, _, _, _, _, _, _, _, _, _, _, _, _, _, _, _, _, _ => none
  | n + 1, x0, x1, x2, x3, x4, x5, x6, x7, x8, x9, x10, x11, x12, x13, x14, x15, x16, x17, x18, x19, x20, x21, x22 => message_Check_c5 (message_Check_i3 n) (message_Check_i5 n) x0 x1 x2 x3 x4 x5 x6 x7 x8 x9 x10 x11 x12 x13 x14 x15 x16 x17 x18 x19 x20 x21 x22
end
def message_Check (a0 : Int × Int × Int × Int × Int × Int × Int × Int × Int × Int × Unit) : Option (Int × Unit) := message_Check_c (message_Check_i3 fuel) (message_Check_i5 fuel) a0
-- ways that fail: 2 in [5]
/- tailwater/channel.Check -/
def channel_Check_c (J6 : List (Int × Int × Int × Int × Int × Int × Int × Int × Int × Int × Unit) → Int → Int → Option (Int × Unit)) (a0 : Int × List (Int × Int × Int × Int × Int × Int × Int × Int × Int × Int × Unit) × Unit) : Option (Int × Unit) :=
  bif decide (a0.1 < (1 : Int)) then
    some (((8 : Int), ()))
  else
    bif decide (a0.1 > (8 : Int)) then
      some (((8 : Int), ()))
    else
      bif decide (Int.ofNat (List.length a0.2.1) > a0.1) then
        some (((8 : Int), ()))
      else
        J6 (a0.2.1) (Int.ofNat (List.length a0.2.1)) ((0 : Int))
def channel_Check_c6 (J6 : List (Int × Int × Int × Int × Int × Int × Int × Int × Int × Int × Unit) → Int → Int → Option (Int × Unit)) (x0 : List (Int × Int × Int × Int × Int × Int × Int × Int × Int × Int × Unit)) (x1 : Int) (x2 : Int) : Option (Int × Unit) :=
  bif decide (x2 < x1) then
    bif decide ((0 : Int) ≤ x2) then
      match x0[Int.toNat x2]? with
        | none =>
          none
        | some e0 =>
          match message_Check e0 with
            | none =>
              none
            | some e1 =>
              bif e1.1 != (0 : Int) then
                some ((e1.1, ()))
              else
                J6 (x0) (x1) (Go.IntKind.wrap Go.IntKind.i64 (x2 + (1 : Int)))
    else
      none
  else
    some (((0 : Int), ()))
mutual
def channel_Check_i6 : Nat → List (Int × Int × Int × Int × Int × Int × Int × Int × Int × Int × Unit) → Int → Int → Option (Int × Unit)
  | 0, _, _, _ => none
  | n + 1, x0, x1, x2 => channel_Check_c6 (channel_Check_i6 n) x0 x1 x2
end
def channel_Check (a0 : Int × List (Int × Int × Int × Int × Int × Int × Int × Int × Int × Int × Unit) × Unit) : Option (Int × Unit) := channel_Check_c (channel_Check_i6 fuel) a0
-- ways that fail: 3 in [6]
/- tailwater/channel.Take -/
def channel_Take (a0 : Int × List (Int × Int × Int × Int × Int × Int × Int × Int × Int × Int × Unit) × Unit) : Option ((Int × Int × Int × Int × Int × Int × Int × Int × Int × Int × Unit) × (Int × List (Int × Int × Int × Int × Int × Int × Int × Int × Int × Int × Unit) × Unit) × Int × Unit) :=
  match channel_Check a0 with
    | none =>
      none
    | some e0 =>
      bif e0.1 != (0 : Int) then
        some ((((0 : Int), (0 : Int), (0 : Int), (0 : Int), (0 : Int), (0 : Int), (0 : Int), (0 : Int), (0 : Int), (0 : Int), ()), ((0 : Int), [], ()), e0.1, ()))
      else
        bif Int.ofNat (List.length a0.2.1) == (0 : Int) then
          some ((((0 : Int), (0 : Int), (0 : Int), (0 : Int), (0 : Int), (0 : Int), (0 : Int), (0 : Int), (0 : Int), (0 : Int), ()), ((0 : Int), [], ()), (6 : Int), ()))
        else
          bif decide (Int.toNat (Int.ofNat (List.length a0.2.1)) ≤ Int.toNat (Int.ofNat (List.length a0.2.1))) && (decide ((80 : Nat) * Int.toNat (Int.ofNat (List.length a0.2.1)) ≤ (281474976710656 : Nat)) && decide (Int.toNat (Int.ofNat (List.length a0.2.1)) ≤ (9223372036854775807 : Nat))) then
            bif decide ((0 : Nat) < List.length (List.take (min (List.length a0.2.1) (List.length (List.replicate (Int.toNat (Int.ofNat (List.length a0.2.1))) ((0 : Int), (0 : Int), (0 : Int), (0 : Int), (0 : Int), (0 : Int), (0 : Int), (0 : Int), (0 : Int), (0 : Int), ())))) a0.2.1 ++ List.drop (min (List.length a0.2.1) (List.length (List.replicate (Int.toNat (Int.ofNat (List.length a0.2.1))) ((0 : Int), (0 : Int), (0 : Int), (0 : Int), (0 : Int), (0 : Int), (0 : Int), (0 : Int), (0 : Int), (0 : Int), ())))) (List.replicate (Int.toNat (Int.ofNat (List.length a0.2.1))) ((0 : Int), (0 : Int), (0 : Int), (0 : Int), (0 : Int), (0 : Int), (0 : Int), (0 : Int), (0 : Int), (0 : Int), ())))) then
              match (List.take (min (List.length a0.2.1) (List.length (List.replicate (Int.toNat (Int.ofNat (List.length a0.2.1))) ((0 : Int), (0 : Int), (0 : Int), (0 : Int), (0 : Int), (0 : Int), (0 : Int), (0 : Int), (0 : Int), (0 : Int), ())))) a0.2.1 ++ List.drop (min (List.length a0.2.1) (List.length (List.replicate (Int.toNat (Int.ofNat (List.length a0.2.1))) ((0 : Int), (0 : Int), (0 : Int), (0 : Int), (0 : Int), (0 : Int), (0 : Int), (0 : Int), (0 : Int), (0 : Int), ())))) (List.replicate (Int.toNat (Int.ofNat (List.length a0.2.1))) ((0 : Int), (0 : Int), (0 : Int), (0 : Int), (0 : Int), (0 : Int), (0 : Int), (0 : Int), (0 : Int), (0 : Int), ())))[(0 : Nat)]? with
                | none =>
                  none
                | some e1 =>
                  bif decide (Int.toNat (Int.ofNat (List.length a0.2.1)) = Int.toNat (Int.ofNat (List.length a0.2.1))) then
                    bif decide ((1 : Nat) ≤ Int.toNat (Int.ofNat (List.length a0.2.1))) && decide (Int.toNat (Int.ofNat (List.length a0.2.1)) ≤ List.length (List.take (min (List.length a0.2.1) (List.length (List.replicate (Int.toNat (Int.ofNat (List.length a0.2.1))) ((0 : Int), (0 : Int), (0 : Int), (0 : Int), (0 : Int), (0 : Int), (0 : Int), (0 : Int), (0 : Int), (0 : Int), ())))) a0.2.1 ++ List.drop (min (List.length a0.2.1) (List.length (List.replicate (Int.toNat (Int.ofNat (List.length a0.2.1))) ((0 : Int), (0 : Int), (0 : Int), (0 : Int), (0 : Int), (0 : Int), (0 : Int), (0 : Int), (0 : Int), (0 : Int), ())))) (List.replicate (Int.toNat (Int.ofNat (List.length a0.2.1))) ((0 : Int), (0 : Int), (0 : Int), (0 : Int), (0 : Int), (0 : Int), (0 : Int), (0 : Int), (0 : Int), (0 : Int), ())))) then
                      bif decide ((1 : Nat) = Int.toNat (Int.ofNat (List.length a0.2.1))) then
                        some ((e1, (a0.1, [], ()), (0 : Int), ()))
                      else
                        some ((e1, (a0.1, List.take (Int.toNat (Int.ofNat (List.length a0.2.1)) - (1 : Nat)) (List.drop (1 : Nat) (List.take (min (List.length a0.2.1) (List.length (List.replicate (Int.toNat (Int.ofNat (List.length a0.2.1))) ((0 : Int), (0 : Int), (0 : Int), (0 : Int), (0 : Int), (0 : Int), (0 : Int), (0 : Int), (0 : Int), (0 : Int), ())))) a0.2.1 ++ List.drop (min (List.length a0.2.1) (List.length (List.replicate (Int.toNat (Int.ofNat (List.length a0.2.1))) ((0 : Int), (0 : Int), (0 : Int), (0 : Int), (0 : Int), (0 : Int), (0 : Int), (0 : Int), (0 : Int), (0 : Int), ())))) (List.replicate (Int.toNat (Int.ofNat (List.length a0.2.1))) ((0 : Int), (0 : Int), (0 : Int), (0 : Int), (0 : Int), (0 : Int), (0 : Int), (0 : Int), (0 : Int), (0 : Int), ())))), ()), (0 : Int), ()))
                    else
                      none
                  else
                    none
            else
              none
          else
            none
-- ways that fail: 6 in [start]
/- tailwater/tailwaterref25.Right -/
def ref25_Right (a0 : Int × Int × Int × Unit) : Option (Bool × Unit) :=
  bif decide (a0.2.1 ≥ (-1099511627776 : Int)) then
    some ((decide (a0.2.1 ≤ (1099511627776 : Int)), ()))
  else
    some ((false, ()))
/- tailwater/tailwaterref25.Mark -/
def ref25_Mark (a0 : Int) : Option (Bool × Unit) :=
  bif decide (a0 ≥ (-1099511627776 : Int)) then
    bif decide (a0 ≤ (1099511627776 : Int)) then
      some ((true, ()))
    else
      some ((a0 == (9223372036854775807 : Int), ()))
  else
    some ((a0 == (9223372036854775807 : Int), ()))
/- tailwater/tailwaterref25.Row -/
def ref25_Row (a0 : Int × Int × Int × Int × Int × Unit) : Option (Bool × Unit) :=
  bif decide (a0.2.1 < a0.2.2.1) then
    bif decide (a0.2.1 ≥ (-2199023255552 : Int)) then
      some ((decide (a0.2.2.1 ≤ (2199023255552 : Int)), ()))
    else
      some ((false, ()))
  else
    some ((false, ()))
/- tailwater/tailwaterref25.Valid -/
def ref25_Valid_c (J3 : Int → Int → Int → Int → Int → Int → Int → Int → Int → Int → Int → Bool → Option (Bool × Unit)) (a0 : Int × Int × Int × Int × Int × Int × Int × Int × Int × Int × Unit) : Option (Bool × Unit) :=
  bif a0.1 == (1 : Int) then
    J3 (a0.1) (a0.2.1) (a0.2.2.1) (a0.2.2.2.1) (a0.2.2.2.2.1) (a0.2.2.2.2.2.1) (a0.2.2.2.2.2.2.1) (a0.2.2.2.2.2.2.2.1) (a0.2.2.2.2.2.2.2.2.1) (a0.2.2.2.2.2.2.2.2.2.1) (a0.1) (true)
  else
    J3 (a0.1) (a0.2.1) (a0.2.2.1) (a0.2.2.2.1) (a0.2.2.2.2.1) (a0.2.2.2.2.2.1) (a0.2.2.2.2.2.2.1) (a0.2.2.2.2.2.2.2.1) (a0.2.2.2.2.2.2.2.2.1) (a0.2.2.2.2.2.2.2.2.2.1) (a0.1) (a0.1 == (4 : Int))
def ref25_Valid_c3 (J3 : Int → Int → Int → Int → Int → Int → Int → Int → Int → Int → Int → Bool → Option (Bool × Unit)) (x0 : Int) (x1 : Int) (x2 : Int) (x3 : Int) (x4 : Int) (x5 : Int) (x6 : Int) (x7 : Int) (x8 : Int) (x9 : Int) (x10 : Int) (x11 : Bool) : Option (Bool × Unit) :=
  bif x11 then
    match ref25_Right (x1, x2, x3, ()) with
      | none =>
        none
      | some e0 =>
        bif e0.1 then
          some ((x0 == x0 && (x1 == x1 && (x2 == x2 && (x3 == x3 && (x4 == (0 : Int) && (x5 == (0 : Int) && (x6 == (0 : Int) && (x7 == (0 : Int) && (x8 == (0 : Int) && (x9 == (0 : Int) && true))))))))), ()))
        else
          some ((false, ()))
  else
    bif x10 == (2 : Int) then
      match ref25_Mark x4 with
        | none =>
          none
        | some e0 =>
          bif e0.1 then
            some ((x0 == x0 && (x1 == (0 : Int) && (x2 == (0 : Int) && (x3 == (0 : Int) && (x4 == x4 && (x5 == (0 : Int) && (x6 == (0 : Int) && (x7 == (0 : Int) && (x8 == (0 : Int) && (x9 == (0 : Int) && true))))))))), ()))
          else
            some ((false, ()))
    else
      bif x10 == (3 : Int) then
        match ref25_Row (x5, x6, x7, x8, x9, ()) with
          | none =>
            none
          | some e0 =>
            bif e0.1 then
              some ((x0 == x0 && (x1 == (0 : Int) && (x2 == (0 : Int) && (x3 == (0 : Int) && (x4 == (0 : Int) && (x5 == x5 && (x6 == x6 && (x7 == x7 && (x8 == x8 && (x9 == x9 && true))))))))), ()))
            else
              some ((false, ()))
      else
        some ((false, ()))
mutual
def ref25_Valid_i3 : Nat → Int → Int → Int → Int → Int → Int → Int → Int → Int → Int → Int → Bool → Option (Bool × Unit)
  | 0, _, _, _, _, _, _, _, _, _, _, _, _ => none
  | n + 1, x0, x1, x2, x3, x4, x5, x6, x7, x8, x9, x10, x11 => ref25_Valid_c3 (ref25_Valid_i3 n) x0 x1 x2 x3 x4 x5 x6 x7 x8 x9 x10 x11
end
def ref25_Valid (a0 : Int × Int × Int × Int × Int × Int × Int × Int × Int × Int × Unit) : Option (Bool × Unit) := ref25_Valid_c (ref25_Valid_i3 fuel) a0
-- ways that fail: 3 in [3]
/- tailwater/tailwaterref26.Check -/
def ref26_Check_c (J6 : List (Int × Int × Int × Int × Int × Int × Int × Int × Int × Int × Unit) → Int → Option (Int × Unit)) (a0 : Int × List (Int × Int × Int × Int × Int × Int × Int × Int × Int × Int × Unit) × Unit) : Option (Int × Unit) :=
  bif decide (a0.1 < (1 : Int)) then
    some (((8 : Int), ()))
  else
    bif decide (a0.1 > (8 : Int)) then
      some (((8 : Int), ()))
    else
      bif decide (Int.ofNat (List.length a0.2.1) > a0.1) then
        some (((8 : Int), ()))
      else
        J6 (a0.2.1) ((0 : Int))
def ref26_Check_c6 (J6 : List (Int × Int × Int × Int × Int × Int × Int × Int × Int × Int × Unit) → Int → Option (Int × Unit)) (x0 : List (Int × Int × Int × Int × Int × Int × Int × Int × Int × Int × Unit)) (x1 : Int) : Option (Int × Unit) :=
  bif decide (x1 < Int.ofNat (List.length x0)) then
    bif decide ((0 : Int) ≤ x1) then
      match x0[Int.toNat x1]? with
        | none =>
          none
        | some e0 =>
          match ref25_Valid e0 with
            | none =>
              none
            | some e1 =>
              bif !e1.1 then
                some (((8 : Int), ()))
              else
                J6 (x0) (Go.IntKind.wrap Go.IntKind.i64 (x1 + (1 : Int)))
    else
      none
  else
    some (((0 : Int), ()))
mutual
def ref26_Check_i6 : Nat → List (Int × Int × Int × Int × Int × Int × Int × Int × Int × Int × Unit) → Int → Option (Int × Unit)
  | 0, _, _ => none
  | n + 1, x0, x1 => ref26_Check_c6 (ref26_Check_i6 n) x0 x1
end
def ref26_Check (a0 : Int × List (Int × Int × Int × Int × Int × Int × Int × Int × Int × Int × Unit) × Unit) : Option (Int × Unit) := ref26_Check_c (ref26_Check_i6 fuel) a0
-- ways that fail: 3 in [6]
/- tailwater/tailwaterref26.Take -/
def ref26_Take (a0 : Int × List (Int × Int × Int × Int × Int × Int × Int × Int × Int × Int × Unit) × Unit) : Option ((Int × Int × Int × Int × Int × Int × Int × Int × Int × Int × Unit) × (Int × List (Int × Int × Int × Int × Int × Int × Int × Int × Int × Int × Unit) × Unit) × Int × Unit) :=
  match ref26_Check a0 with
    | none =>
      none
    | some e0 =>
      bif e0.1 != (0 : Int) then
        some ((((0 : Int), (0 : Int), (0 : Int), (0 : Int), (0 : Int), (0 : Int), (0 : Int), (0 : Int), (0 : Int), (0 : Int), ()), ((0 : Int), [], ()), e0.1, ()))
      else
        bif Int.ofNat (List.length a0.2.1) == (0 : Int) then
          some ((((0 : Int), (0 : Int), (0 : Int), (0 : Int), (0 : Int), (0 : Int), (0 : Int), (0 : Int), (0 : Int), (0 : Int), ()), ((0 : Int), [], ()), (6 : Int), ()))
        else
          match ref26_Twin a0 with
            | none =>
              none
            | some e1 =>
              match e1.1.2.1[(0 : Nat)]? with
                | none =>
                  none
                | some e2 =>
                  bif decide ((1 : Nat) ≤ List.length e1.1.2.1) then
                    some ((e2, (a0.1, List.drop (1 : Nat) (List.take (List.length e1.1.2.1) e1.1.2.1), ()), (0 : Int), ()))
                  else
                    none
-- ways that fail: 4 in [start]
/- tailwater/channel.Left -/
def channel_Left (a0 : Int × List (Int × Int × Int × Int × Int × Int × Int × Int × Int × Int × Unit) × Unit) : Option (Int × Int × Unit) :=
  match channel_Check a0 with
    | none =>
      none
    | some e0 =>
      bif e0.1 != (0 : Int) then
        some (((0 : Int), e0.1, ()))
      else
        some ((Go.IntKind.wrap Go.IntKind.i64 (a0.1 - Int.ofNat (List.length a0.2.1)), (0 : Int), ()))
-- ways that fail: 1 in [start]
/- tailwater/tailwaterref26.Left -/
def ref26_Left (a0 : Int × List (Int × Int × Int × Int × Int × Int × Int × Int × Int × Int × Unit) × Unit) : Option (Int × Int × Unit) :=
  match ref26_Check a0 with
    | none =>
      none
    | some e0 =>
      bif e0.1 != (0 : Int) then
        some (((0 : Int), e0.1, ()))
      else
        some ((Go.IntKind.wrap Go.IntKind.i64 (a0.1 - Int.ofNat (List.length a0.2.1)), (0 : Int), ()))
-- ways that fail: 1 in [start]
/- tailwater/tailwaterref26.SameList -/
def ref26_SameList_c (J6 : List (Int × Int × Int × Int × Int × Int × Int × Int × Int × Int × Unit) → List (Int × Int × Int × Int × Int × Int × Int × Int × Int × Int × Unit) → Int → Option (Bool × Unit)) (a0 : List (Int × Int × Int × Int × Int × Int × Int × Int × Int × Int × Unit)) (a1 : List (Int × Int × Int × Int × Int × Int × Int × Int × Int × Int × Unit)) : Option (Bool × Unit) :=
  bif Int.ofNat (List.length a0) != Int.ofNat (List.length a1) then
    some ((false, ()))
  else
    J6 (a0) (a1) ((0 : Int))
def ref26_SameList_c6 (J6 : List (Int × Int × Int × Int × Int × Int × Int × Int × Int × Int × Unit) → List (Int × Int × Int × Int × Int × Int × Int × Int × Int × Int × Unit) → Int → Option (Bool × Unit)) (x0 : List (Int × Int × Int × Int × Int × Int × Int × Int × Int × Int × Unit)) (x1 : List (Int × Int × Int × Int × Int × Int × Int × Int × Int × Int × Unit)) (x2 : Int) : Option (Bool × Unit) :=
  bif decide (x2 < Int.ofNat (List.length x0)) then
    bif decide ((0 : Int) ≤ x2) then
      match x0[Int.toNat x2]? with
        | none =>
          none
        | some e0 =>
          bif decide ((0 : Int) ≤ x2) then
            match x1[Int.toNat x2]? with
              | none =>
                none
              | some e1 =>
                bif !(e0.1 == e1.1 && (e0.2.1 == e1.2.1 && (e0.2.2.1 == e1.2.2.1 && (e0.2.2.2.1 == e1.2.2.2.1 && (e0.2.2.2.2.1 == e1.2.2.2.2.1 && (e0.2.2.2.2.2.1 == e1.2.2.2.2.2.1 && (e0.2.2.2.2.2.2.1 == e1.2.2.2.2.2.2.1 && (e0.2.2.2.2.2.2.2.1 == e1.2.2.2.2.2.2.2.1 && (e0.2.2.2.2.2.2.2.2.1 == e1.2.2.2.2.2.2.2.2.1 && (e0.2.2.2.2.2.2.2.2.2.1 == e1.2.2.2.2.2.2.2.2.2.1 && true)))))))))) then
                  some ((false, ()))
                else
                  J6 (x0) (x1) (Go.IntKind.wrap Go.IntKind.i64 (x2 + (1 : Int)))
          else
            none
    else
      none
  else
    some ((true, ()))
mutual
def ref26_SameList_i6 : Nat → List (Int × Int × Int × Int × Int × Int × Int × Int × Int × Int × Unit) → List (Int × Int × Int × Int × Int × Int × Int × Int × Int × Int × Unit) → Int → Option (Bool × Unit)
  | 0, _, _, _ => none
  | n + 1, x0, x1, x2 => ref26_SameList_c6 (ref26_SameList_i6 n) x0 x1 x2
end
def ref26_SameList (a0 : List (Int × Int × Int × Int × Int × Int × Int × Int × Int × Int × Unit)) (a1 : List (Int × Int × Int × Int × Int × Int × Int × Int × Int × Int × Unit)) : Option (Bool × Unit) := ref26_SameList_c (ref26_SameList_i6 fuel) a0 a1
-- ways that fail: 4 in [6]
/- tailwater/tailwaterref26.Same -/
def ref26_Same (a0 : Int × List (Int × Int × Int × Int × Int × Int × Int × Int × Int × Int × Unit) × Unit) (a1 : Int × List (Int × Int × Int × Int × Int × Int × Int × Int × Int × Int × Unit) × Unit) : Option (Bool × Unit) :=
  bif a0.1 == a1.1 then
    match ref26_SameList a0.2.1 a1.2.1 with
      | none =>
        none
      | some e0 =>
        some ((e0.1, ()))
  else
    some ((false, ()))
-- ways that fail: 1 in [start]
/- tailwater/tailwaterlaw26.ChannelTakes -/
def law26_ChannelTakes (a0 : Int × List (Int × Int × Int × Int × Int × Int × Int × Int × Int × Int × Unit) × Unit) : Option (Bool × Unit) :=
  bif decide (Int.ofNat (List.length a0.2.1) > (20 : Int)) then
    some ((true, ()))
  else
    match ref26_Twin a0 with
      | none =>
        none
      | some e0 =>
        match channel_Take a0 with
          | none =>
            none
          | some e1 =>
            match ref26_Take e0.1 with
              | none =>
                none
              | some e2 =>
                match channel_Left a0 with
                  | none =>
                    none
                  | some e3 =>
                    match ref26_Left e0.1 with
                      | none =>
                        none
                      | some e4 =>
                        bif e1.1.1 == e2.1.1 && (e1.1.2.1 == e2.1.2.1 && (e1.1.2.2.1 == e2.1.2.2.1 && (e1.1.2.2.2.1 == e2.1.2.2.2.1 && (e1.1.2.2.2.2.1 == e2.1.2.2.2.2.1 && (e1.1.2.2.2.2.2.1 == e2.1.2.2.2.2.2.1 && (e1.1.2.2.2.2.2.2.1 == e2.1.2.2.2.2.2.2.1 && (e1.1.2.2.2.2.2.2.2.1 == e2.1.2.2.2.2.2.2.2.1 && (e1.1.2.2.2.2.2.2.2.2.1 == e2.1.2.2.2.2.2.2.2.2.1 && (e1.1.2.2.2.2.2.2.2.2.2.1 == e2.1.2.2.2.2.2.2.2.2.2.1 && true))))))))) then
                          match ref26_Same e1.2.1 e2.2.1 with
                            | none =>
                              none
                            | some e5 =>
                              bif e5.1 then
                                bif e1.2.2.1 == e2.2.2.1 then
                                  bif e3.1 == e4.1 then
                                    bif e3.2.1 == e4.2.1 then
                                      match ref26_Same a0 e0.1 with
                                        | none =>
                                          none
                                        | some e6 =>
                                          some ((e6.1, ()))
                                    else
                                      some ((false, ()))
                                  else
                                    some ((false, ()))
                                else
                                  some ((false, ()))
                              else
                                some ((false, ()))
                        else
                          some ((false, ()))
-- ways that fail: 7 in [start]
/- tailwater/channel.Put -/
def channel_Put (a0 : Int × List (Int × Int × Int × Int × Int × Int × Int × Int × Int × Int × Unit) × Unit) (a1 : Int × Int × Int × Int × Int × Int × Int × Int × Int × Int × Unit) : Option ((Int × List (Int × Int × Int × Int × Int × Int × Int × Int × Int × Int × Unit) × Unit) × Int × Unit) :=
  match channel_Check a0 with
    | none =>
      none
    | some e0 =>
      bif e0.1 != (0 : Int) then
        some ((((0 : Int), [], ()), e0.1, ()))
      else
        match message_Check a1 with
          | none =>
            none
          | some e1 =>
            bif e1.1 != (0 : Int) then
              some ((((0 : Int), [], ()), e1.1, ()))
            else
              bif Int.ofNat (List.length a0.2.1) == a0.1 then
                some ((((0 : Int), [], ()), (18 : Int), ()))
              else
                bif decide ((0 : Int) ≤ Go.IntKind.wrap Go.IntKind.i64 (Int.ofNat (List.length a0.2.1) + (1 : Int))) then
                  bif decide ((0 : Int) ≤ Go.IntKind.wrap Go.IntKind.i64 (Int.ofNat (List.length a0.2.1) + (1 : Int))) then
                    bif decide (Int.toNat (Go.IntKind.wrap Go.IntKind.i64 (Int.ofNat (List.length a0.2.1) + (1 : Int))) ≤ Int.toNat (Go.IntKind.wrap Go.IntKind.i64 (Int.ofNat (List.length a0.2.1) + (1 : Int)))) && (decide ((80 : Nat) * Int.toNat (Go.IntKind.wrap Go.IntKind.i64 (Int.ofNat (List.length a0.2.1) + (1 : Int))) ≤ (281474976710656 : Nat)) && decide (Int.toNat (Go.IntKind.wrap Go.IntKind.i64 (Int.ofNat (List.length a0.2.1) + (1 : Int))) ≤ (9223372036854775807 : Nat))) then
                      bif decide (Int.toNat (Int.ofNat (List.length a0.2.1)) < List.length (List.take (min (List.length a0.2.1) (List.length (List.replicate (Int.toNat (Go.IntKind.wrap Go.IntKind.i64 (Int.ofNat (List.length a0.2.1) + (1 : Int)))) ((0 : Int), (0 : Int), (0 : Int), (0 : Int), (0 : Int), (0 : Int), (0 : Int), (0 : Int), (0 : Int), (0 : Int), ())))) a0.2.1 ++ List.drop (min (List.length a0.2.1) (List.length (List.replicate (Int.toNat (Go.IntKind.wrap Go.IntKind.i64 (Int.ofNat (List.length a0.2.1) + (1 : Int)))) ((0 : Int), (0 : Int), (0 : Int), (0 : Int), (0 : Int), (0 : Int), (0 : Int), (0 : Int), (0 : Int), (0 : Int), ())))) (List.replicate (Int.toNat (Go.IntKind.wrap Go.IntKind.i64 (Int.ofNat (List.length a0.2.1) + (1 : Int)))) ((0 : Int), (0 : Int), (0 : Int), (0 : Int), (0 : Int), (0 : Int), (0 : Int), (0 : Int), (0 : Int), (0 : Int), ())))) then
                        match (List.take (min (List.length a0.2.1) (List.length (List.replicate (Int.toNat (Go.IntKind.wrap Go.IntKind.i64 (Int.ofNat (List.length a0.2.1) + (1 : Int)))) ((0 : Int), (0 : Int), (0 : Int), (0 : Int), (0 : Int), (0 : Int), (0 : Int), (0 : Int), (0 : Int), (0 : Int), ())))) a0.2.1 ++ List.drop (min (List.length a0.2.1) (List.length (List.replicate (Int.toNat (Go.IntKind.wrap Go.IntKind.i64 (Int.ofNat (List.length a0.2.1) + (1 : Int)))) ((0 : Int), (0 : Int), (0 : Int), (0 : Int), (0 : Int), (0 : Int), (0 : Int), (0 : Int), (0 : Int), (0 : Int), ())))) (List.replicate (Int.toNat (Go.IntKind.wrap Go.IntKind.i64 (Int.ofNat (List.length a0.2.1) + (1 : Int)))) ((0 : Int), (0 : Int), (0 : Int), (0 : Int), (0 : Int), (0 : Int), (0 : Int), (0 : Int), (0 : Int), (0 : Int), ())))[Int.toNat (Int.ofNat (List.length a0.2.1))]? with
                          | none =>
                            none
                          | some e2 =>
                            some (((a0.1, List.set (List.take (min (List.length a0.2.1) (List.length (List.replicate (Int.toNat (Go.IntKind.wrap Go.IntKind.i64 (Int.ofNat (List.length a0.2.1) + (1 : Int)))) ((0 : Int), (0 : Int), (0 : Int), (0 : Int), (0 : Int), (0 : Int), (0 : Int), (0 : Int), (0 : Int), (0 : Int), ())))) a0.2.1 ++ List.drop (min (List.length a0.2.1) (List.length (List.replicate (Int.toNat (Go.IntKind.wrap Go.IntKind.i64 (Int.ofNat (List.length a0.2.1) + (1 : Int)))) ((0 : Int), (0 : Int), (0 : Int), (0 : Int), (0 : Int), (0 : Int), (0 : Int), (0 : Int), (0 : Int), (0 : Int), ())))) (List.replicate (Int.toNat (Go.IntKind.wrap Go.IntKind.i64 (Int.ofNat (List.length a0.2.1) + (1 : Int)))) ((0 : Int), (0 : Int), (0 : Int), (0 : Int), (0 : Int), (0 : Int), (0 : Int), (0 : Int), (0 : Int), (0 : Int), ()))) (Int.toNat (Int.ofNat (List.length a0.2.1))) (a1.1, a1.2.1, a1.2.2.1, a1.2.2.2.1, a1.2.2.2.2.1, a1.2.2.2.2.2.1, a1.2.2.2.2.2.2.1, a1.2.2.2.2.2.2.2.1, a1.2.2.2.2.2.2.2.2.1, a1.2.2.2.2.2.2.2.2.2.1, e2.2.2.2.2.2.2.2.2.2.2), ()), (0 : Int), ()))
                      else
                        none
                    else
                      none
                  else
                    none
                else
                  none
-- ways that fail: 7 in [start]
/- tailwater/tailwaterref26.Put -/
def ref26_Put (a0 : Int × List (Int × Int × Int × Int × Int × Int × Int × Int × Int × Int × Unit) × Unit) (a1 : Int × Int × Int × Int × Int × Int × Int × Int × Int × Int × Unit) : Option ((Int × List (Int × Int × Int × Int × Int × Int × Int × Int × Int × Int × Unit) × Unit) × Int × Unit) :=
  match ref26_Check a0 with
    | none =>
      none
    | some e0 =>
      bif e0.1 != (0 : Int) then
        some ((((0 : Int), [], ()), e0.1, ()))
      else
        match ref25_Valid a1 with
          | none =>
            none
          | some e1 =>
            bif !e1.1 then
              some ((((0 : Int), [], ()), (8 : Int), ()))
            else
              bif Int.ofNat (List.length a0.2.1) == a0.1 then
                some ((((0 : Int), [], ()), (18 : Int), ()))
              else
                match ref26_Twin a0 with
                  | none =>
                    none
                  | some e2 =>
                    bif bigOk (List.length e2.1.2.1 + List.length [a1]) (80 : Nat) then
                      some (((e2.1.1, e2.1.2.1 ++ [a1], ()), (0 : Int), ()))
                    else
                      none
-- ways that fail: 4 in [start]
/- tailwater/channel.New -/
def channel_New (a0 : Int) : Option ((Int × List (Int × Int × Int × Int × Int × Int × Int × Int × Int × Int × Unit) × Unit) × Int × Unit) :=
  bif decide (a0 < (1 : Int)) then
    some ((((0 : Int), [], ()), (2 : Int), ()))
  else
    bif decide (a0 > (8 : Int)) then
      some ((((0 : Int), [], ()), (2 : Int), ()))
    else
      some (((a0, [], ()), (0 : Int), ()))
/- tailwater/tailwaterref26.New -/
def ref26_New (a0 : Int) : Option ((Int × List (Int × Int × Int × Int × Int × Int × Int × Int × Int × Int × Unit) × Unit) × Int × Unit) :=
  bif decide (a0 < (1 : Int)) then
    some ((((0 : Int), [], ()), (2 : Int), ()))
  else
    bif decide (a0 > (8 : Int)) then
      some ((((0 : Int), [], ()), (2 : Int), ()))
    else
      some (((a0, [], ()), (0 : Int), ()))
/- tailwater/tailwaterlaw26.ChannelPuts -/
def law26_ChannelPuts (a0 : Int × List (Int × Int × Int × Int × Int × Int × Int × Int × Int × Int × Unit) × Unit) (a1 : Int × Int × Int × Int × Int × Int × Int × Int × Int × Int × Unit) (a2 : Int) : Option (Bool × Unit) :=
  bif decide (Int.ofNat (List.length a0.2.1) > (20 : Int)) then
    some ((true, ()))
  else
    match ref26_Twin a0 with
      | none =>
        none
      | some e0 =>
        match channel_Put a0 a1 with
          | none =>
            none
          | some e1 =>
            match ref26_Put e0.1 a1 with
              | none =>
                none
              | some e2 =>
                match channel_New a2 with
                  | none =>
                    none
                  | some e3 =>
                    match ref26_New a2 with
                      | none =>
                        none
                      | some e4 =>
                        match ref26_Same e1.1 e2.1 with
                          | none =>
                            none
                          | some e5 =>
                            bif e5.1 then
                              bif e1.2.1 == e2.2.1 then
                                match ref26_Same e3.1 e4.1 with
                                  | none =>
                                    none
                                  | some e6 =>
                                    bif e6.1 then
                                      bif e3.2.1 == e4.2.1 then
                                        match channel_Check a0 with
                                          | none =>
                                            none
                                          | some e7 =>
                                            match ref26_Check e0.1 with
                                              | none =>
                                                none
                                              | some e8 =>
                                                bif e7.1 == e8.1 then
                                                  match ref26_Same a0 e0.1 with
                                                    | none =>
                                                      none
                                                    | some e9 =>
                                                      some ((e9.1, ()))
                                                else
                                                  some ((false, ()))
                                      else
                                        some ((false, ()))
                                    else
                                      some ((false, ()))
                              else
                                some ((false, ()))
                            else
                              some ((false, ()))
-- ways that fail: 10 in [start]
/- tailwater/tailwaterlaw26.ChannelFirst -/
def law26_ChannelFirst_c (J7 : Int → List (Int × Int × Int × Int × Int × Int × Int × Int × Int × Int × Unit) → Bool → List (Int × Int × Int × Int × Int × Int × Int × Int × Int × Int × Unit) → Int → Option (Bool × Unit)) (J9 : List (Int × Int × Int × Int × Int × Int × Int × Int × Int × Int × Unit) → List (Bool × Unit) → Int → List (Int × Int × Int × Int × Int × Int × Int × Int × Int × Int × Unit) → Bool → List (Int × Int × Int × Int × Int × Int × Int × Int × Int × Int × Unit) → Int → Int → Int → Option (Bool × Unit)) (a0 : Int × List (Int × Int × Int × Int × Int × Int × Int × Int × Int × Int × Unit) × Unit) (a1 : List (Int × Int × Int × Int × Int × Int × Int × Int × Int × Int × Unit)) (a2 : List (Bool × Unit)) : Option (Bool × Unit) :=
  match ref26_Check a0 with
    | none =>
      none
    | some e0 =>
      bif e0.1 != (0 : Int) then
        some ((true, ()))
      else
        bif decide (Int.ofNat (List.length a1) > (30 : Int)) then
          some ((true, ()))
        else
          bif decide (Int.ofNat (List.length a2) > (60 : Int)) then
            some ((true, ()))
          else
            bif bigOk ((0 : Nat) + List.length a0.2.1) (80 : Nat) then
              J9 (a1) (a2) (a0.1) (a0.2.1) (true) (a0.2.1) ((0 : Int)) ((0 : Int)) ((0 : Int))
            else
              none
def law26_ChannelFirst_c7 (J7 : Int → List (Int × Int × Int × Int × Int × Int × Int × Int × Int × Int × Unit) → Bool → List (Int × Int × Int × Int × Int × Int × Int × Int × Int × Int × Unit) → Int → Option (Bool × Unit)) (J9 : List (Int × Int × Int × Int × Int × Int × Int × Int × Int × Int × Unit) → List (Bool × Unit) → Int → List (Int × Int × Int × Int × Int × Int × Int × Int × Int × Int × Unit) → Bool → List (Int × Int × Int × Int × Int × Int × Int × Int × Int × Int × Unit) → Int → Int → Int → Option (Bool × Unit)) (x0 : Int) (x1 : List (Int × Int × Int × Int × Int × Int × Int × Int × Int × Int × Unit)) (x2 : Bool) (x3 : List (Int × Int × Int × Int × Int × Int × Int × Int × Int × Int × Unit)) (x4 : Int) : Option (Bool × Unit) :=
  bif x2 then
    match channel_Check (x0, x1, ()) with
      | none =>
        none
      | some e0 =>
        bif e0.1 == (0 : Int) then
          bif decide (x4 ≤ Int.ofNat (List.length x3)) then
            bif decide ((0 : Int) ≤ x4) then
              bif decide (Int.toNat x4 ≤ List.length x3) then
                bif decide (Int.toNat x4 = List.length x3) then
                  match ref26_SameList x1 [] with
                    | none =>
                      none
                    | some e1 =>
                      some ((e1.1, ()))
                else
                  match ref26_SameList x1 (List.take (List.length x3 - Int.toNat x4) (List.drop (Int.toNat x4) x3)) with
                    | none =>
                      none
                    | some e1 =>
                      some ((e1.1, ()))
              else
                none
            else
              none
          else
            some ((false, ()))
        else
          some ((false, ()))
  else
    some ((false, ()))
def law26_ChannelFirst_c9 (J7 : Int → List (Int × Int × Int × Int × Int × Int × Int × Int × Int × Int × Unit) → Bool → List (Int × Int × Int × Int × Int × Int × Int × Int × Int × Int × Unit) → Int → Option (Bool × Unit)) (J9 : List (Int × Int × Int × Int × Int × Int × Int × Int × Int × Int × Unit) → List (Bool × Unit) → Int → List (Int × Int × Int × Int × Int × Int × Int × Int × Int × Int × Unit) → Bool → List (Int × Int × Int × Int × Int × Int × Int × Int × Int × Int × Unit) → Int → Int → Int → Option (Bool × Unit)) (x0 : List (Int × Int × Int × Int × Int × Int × Int × Int × Int × Int × Unit)) (x1 : List (Bool × Unit)) (x2 : Int) (x3 : List (Int × Int × Int × Int × Int × Int × Int × Int × Int × Int × Unit)) (x4 : Bool) (x5 : List (Int × Int × Int × Int × Int × Int × Int × Int × Int × Int × Unit)) (x6 : Int) (x7 : Int) (x8 : Int) : Option (Bool × Unit) :=
  bif decide (x8 < Int.ofNat (List.length x1)) then
    bif decide ((0 : Int) ≤ x8) then
      match x1[Int.toNat x8]? with
        | none =>
          none
        | some e0 =>
          bif e0.1 then
            match channel_Take (x2, x3, ()) with
              | none =>
                none
              | some e1 =>
                bif e1.2.2.1 == (6 : Int) then
                  bif x7 != Int.ofNat (List.length x5) then
                    some ((false, ()))
                  else
                    bif Int.ofNat (List.length x3) != (0 : Int) then
                      some ((false, ()))
                    else
                      J9 (x0) (x1) (x2) (x3) (x4) (x5) (x6) (x7) (Go.IntKind.wrap Go.IntKind.i64 (x8 + (1 : Int)))
                else
                  bif e1.2.2.1 != (0 : Int) then
                    some ((false, ()))
                  else
                    bif decide (x7 ≥ Int.ofNat (List.length x5)) then
                      some ((false, ()))
                    else
                      bif decide ((0 : Int) ≤ x7) then
                        bif decide (Int.toNat x7 < List.length x5) then
                          match x5[Int.toNat x7]? with
                            | none =>
                              none
                            | some e2 =>
                              bif !(e1.1.1 == e2.1 && (e1.1.2.1 == e2.2.1 && (e1.1.2.2.1 == e2.2.2.1 && (e1.1.2.2.2.1 == e2.2.2.2.1 && (e1.1.2.2.2.2.1 == e2.2.2.2.2.1 && (e1.1.2.2.2.2.2.1 == e2.2.2.2.2.2.1 && (e1.1.2.2.2.2.2.2.1 == e2.2.2.2.2.2.2.1 && (e1.1.2.2.2.2.2.2.2.1 == e2.2.2.2.2.2.2.2.1 && (e1.1.2.2.2.2.2.2.2.2.1 == e2.2.2.2.2.2.2.2.2.1 && (e1.1.2.2.2.2.2.2.2.2.2.1 == e2.2.2.2.2.2.2.2.2.2.1 && true)))))))))) then
                                some ((false, ()))
                              else
                                J9 (x0) (x1) (e1.2.1.1) (e1.2.1.2.1) (x4) (x5) (x6) (Go.IntKind.wrap Go.IntKind.i64 (x7 + (1 : Int))) (Go.IntKind.wrap Go.IntKind.i64 (x8 + (1 : Int)))
                        else
                          none
                      else
                        none
          else
            bif x6 == Int.ofNat (List.length x0) then
              J9 (x0) (x1) (x2) (x3) (x4) (x5) (x6) (x7) (Go.IntKind.wrap Go.IntKind.i64 (x8 + (1 : Int)))
            else
              bif decide ((0 : Int) ≤ x6) then
                match x0[Int.toNat x6]? with
                  | none =>
                    none
                  | some e1 =>
                    match channel_Put (x2, x3, ()) e1 with
                      | none =>
                        none
                      | some e2 =>
                        bif e2.2.1 != (0 : Int) then
                          bif e2.2.1 == (18 : Int) then
                            bif Go.IntKind.wrap Go.IntKind.i64 (Int.ofNat (List.length x5) - x7) != x2 then
                              some ((false, ()))
                            else
                              bif e2.2.1 != (18 : Int) then
                                bif e2.2.1 != (8 : Int) then
                                  some ((false, ()))
                                else
                                  match ref25_Valid e1 with
                                    | none =>
                                      none
                                    | some e3 =>
                                      bif e3.1 then
                                        some ((false, ()))
                                      else
                                        J9 (x0) (x1) (x2) (x3) (x4) (x5) (Go.IntKind.wrap Go.IntKind.i64 (x6 + (1 : Int))) (x7) (Go.IntKind.wrap Go.IntKind.i64 (x8 + (1 : Int)))
                              else
                                J9 (x0) (x1) (x2) (x3) (x4) (x5) (Go.IntKind.wrap Go.IntKind.i64 (x6 + (1 : Int))) (x7) (Go.IntKind.wrap Go.IntKind.i64 (x8 + (1 : Int)))
                          else
                            bif e2.2.1 != (18 : Int) then
                              bif e2.2.1 != (8 : Int) then
                                some ((false, ()))
                              else
                                match ref25_Valid e1 with
                                  | none =>
                                    none
                                  | some e3 =>
                                    bif e3.1 then
                                      some ((false, ()))
                                    else
                                      J9 (x0) (x1) (x2) (x3) (x4) (x5) (Go.IntKind.wrap Go.IntKind.i64 (x6 + (1 : Int))) (x7) (Go.IntKind.wrap Go.IntKind.i64 (x8 + (1 : Int)))
                            else
                              J9 (x0) (x1) (x2) (x3) (x4) (x5) (Go.IntKind.wrap Go.IntKind.i64 (x6 + (1 : Int))) (x7) (Go.IntKind.wrap Go.IntKind.i64 (x8 + (1 : Int)))
                        else
                          bif bigOk (List.length x5 + List.length [e1]) (80 : Nat) then
                            J9 (x0) (x1) (e2.1.1) (e2.1.2.1) (x4) (x5 ++ [e1]) (Go.IntKind.wrap Go.IntKind.i64 (x6 + (1 : Int))) (x7) (Go.IntKind.wrap Go.IntKind.i64 (x8 + (1 : Int)))
                          else
                            none
              else
                none
    else
      none
  else
    J7 (x2) (x3) (x4) (x5) (x7)
mutual
def law26_ChannelFirst_i7 : Nat → Int → List (Int × Int × Int × Int × Int × Int × Int × Int × Int × Int × Unit) → Bool → List (Int × Int × Int × Int × Int × Int × Int × Int × Int × Int × Unit) → Int → Option (Bool × Unit)
  | 0, _, _, _, _, _ => none
  | n + 1, x0, x1, x2, x3, x4 => law26_ChannelFirst_c7 (law26_ChannelFirst_i7 n) (law26_ChannelFirst_i9 n) x0 x1 x2 x3 x4
def law26_ChannelFirst_i9 : Nat → List (Int × Int × Int × Int × Int × Int × Int × Int × Int × Int × Unit) → List (Bool × Unit) → Int → List (Int × Int × Int × Int × Int × Int × Int × Int × Int × Int × Unit) → Bool → List (Int × Int × Int × Int × Int × Int × Int × Int × Int × Int × Unit) → Int → Int → Int → Option (Bool × Unit)
  | 0, _, _, _, _, _, _, _, _, _ => none
  | n + 1, x0, x1, x2, x3, x4, x5, x6, x7, x8 => law26_ChannelFirst_c9 (law26_ChannelFirst_i7 n) (law26_ChannelFirst_i9 n) x0 x1 x2 x3 x4 x5 x6 x7 x8
end
def law26_ChannelFirst (a0 : Int × List (Int × Int × Int × Int × Int × Int × Int × Int × Int × Int × Unit) × Unit) (a1 : List (Int × Int × Int × Int × Int × Int × Int × Int × Int × Int × Unit)) (a2 : List (Bool × Unit)) : Option (Bool × Unit) := law26_ChannelFirst_c (law26_ChannelFirst_i7 fuel) (law26_ChannelFirst_i9 fuel) a0 a1 a2
-- ways that fail: 19 in [7, 9, start]
/- tailwater/tailwaterlaw26.ChannelOnce -/
def law26_ChannelOnce (a0 : Int) (a1 : Int × Int × Int × Int × Int × Int × Int × Int × Int × Int × Unit) : Option (Bool × Unit) :=
  match channel_New a0 with
    | none =>
      none
    | some e0 =>
      bif e0.2.1 != (0 : Int) then
        some ((e0.2.1 == (2 : Int), ()))
      else
        match channel_Put e0.1 a1 with
          | none =>
            none
          | some e1 =>
            bif e1.2.1 != (0 : Int) then
              bif e1.2.1 == (8 : Int) then
                match ref25_Valid a1 with
                  | none =>
                    none
                  | some e2 =>
                    some ((!e2.1, ()))
              else
                some ((false, ()))
            else
              match channel_Take e1.1 with
                | none =>
                  none
                | some e2 =>
                  match channel_Left e1.1 with
                    | none =>
                      none
                    | some e3 =>
                      bif e1.1.1 == a0 then
                        bif e2.2.2.1 == (0 : Int) then
                          bif e2.1.1 == a1.1 && (e2.1.2.1 == a1.2.1 && (e2.1.2.2.1 == a1.2.2.1 && (e2.1.2.2.2.1 == a1.2.2.2.1 && (e2.1.2.2.2.2.1 == a1.2.2.2.2.1 && (e2.1.2.2.2.2.2.1 == a1.2.2.2.2.2.1 && (e2.1.2.2.2.2.2.2.1 == a1.2.2.2.2.2.2.1 && (e2.1.2.2.2.2.2.2.2.1 == a1.2.2.2.2.2.2.2.1 && (e2.1.2.2.2.2.2.2.2.2.1 == a1.2.2.2.2.2.2.2.2.1 && (e2.1.2.2.2.2.2.2.2.2.2.1 == a1.2.2.2.2.2.2.2.2.2.1 && true))))))))) then
                            match ref26_Same e2.2.1 e0.1 with
                              | none =>
                                none
                              | some e4 =>
                                bif e4.1 then
                                  bif e2.2.1.1 == a0 then
                                    bif e3.2.1 == (0 : Int) then
                                      some ((e3.1 == Go.IntKind.wrap Go.IntKind.i64 (a0 - (1 : Int)), ()))
                                    else
                                      some ((false, ()))
                                  else
                                    some ((false, ()))
                                else
                                  some ((false, ()))
                          else
                            some ((false, ()))
                        else
                          some ((false, ()))
                      else
                        some ((false, ()))
-- ways that fail: 6 in [start]
/- tailwater/tailwaterlaw26.ChannelLeft -/
def law26_ChannelLeft_c (J9 : Int → List (Int × Int × Int × Int × Int × Int × Int × Int × Int × Int × Unit) → Int → Int → Int → Int → Int → Int → Int → Int → Int → Int → Bool → Int → Option (Bool × Unit)) (a0 : Int × List (Int × Int × Int × Int × Int × Int × Int × Int × Int × Int × Unit) × Unit) (a1 : Int × Int × Int × Int × Int × Int × Int × Int × Int × Int × Unit) : Option (Bool × Unit) :=
  bif decide (Int.ofNat (List.length a0.2.1) > (20 : Int)) then
    some ((true, ()))
  else
    match ref26_Check a0 with
      | none =>
        none
      | some e0 =>
        bif e0.1 != (0 : Int) then
          some ((true, ()))
        else
          match channel_Left a0 with
            | none =>
              none
            | some e1 =>
              bif e1.2.1 != (0 : Int) then
                some ((false, ()))
              else
                bif Go.IntKind.wrap Go.IntKind.i64 (e1.1 + Int.ofNat (List.length a0.2.1)) != a0.1 then
                  some ((false, ()))
                else
                  match channel_Take a0 with
                    | none =>
                      none
                    | some e2 =>
                      bif e2.2.2.1 == (0 : Int) then
                        bif bigOk (List.length [e2.1] + List.length e2.2.1.2.1) (80 : Nat) then
                          match ref26_SameList ([e2.1] ++ e2.2.1.2.1) a0.2.1 with
                            | none =>
                              none
                            | some e3 =>
                              bif !e3.1 then
                                some ((false, ()))
                              else
                                bif e2.2.1.1 != a0.1 then
                                  some ((false, ()))
                                else
                                  J9 (a0.1) (a0.2.1) (a1.1) (a1.2.1) (a1.2.2.1) (a1.2.2.2.1) (a1.2.2.2.2.1) (a1.2.2.2.2.2.1) (a1.2.2.2.2.2.2.1) (a1.2.2.2.2.2.2.2.1) (a1.2.2.2.2.2.2.2.2.1) (a1.2.2.2.2.2.2.2.2.2.1) (true) (e1.1)
                        else
                          none
                      else
                        J9 (a0.1) (a0.2.1) (a1.1) (a1.2.1) (a1.2.2.1) (a1.2.2.2.1) (a1.2.2.2.2.1) (a1.2.2.2.2.2.1) (a1.2.2.2.2.2.2.1) (a1.2.2.2.2.2.2.2.1) (a1.2.2.2.2.2.2.2.2.1) (a1.2.2.2.2.2.2.2.2.2.1) (true) (e1.1)
def law26_ChannelLeft_c9 (J9 : Int → List (Int × Int × Int × Int × Int × Int × Int × Int × Int × Int × Unit) → Int → Int → Int → Int → Int → Int → Int → Int → Int → Int → Bool → Int → Option (Bool × Unit)) (x0 : Int) (x1 : List (Int × Int × Int × Int × Int × Int × Int × Int × Int × Int × Unit)) (x2 : Int) (x3 : Int) (x4 : Int) (x5 : Int) (x6 : Int) (x7 : Int) (x8 : Int) (x9 : Int) (x10 : Int) (x11 : Int) (x12 : Bool) (x13 : Int) : Option (Bool × Unit) :=
  match channel_Put (x0, x1, ()) (x2, x3, x4, x5, x6, x7, x8, x9, x10, x11, ()) with
    | none =>
      none
    | some e0 =>
      bif x12 then
        match ref25_Valid (x2, x3, x4, x5, x6, x7, x8, x9, x10, x11, ()) with
          | none =>
            none
          | some e1 =>
            bif !e1.1 then
              some ((true, ()))
            else
              some (((e0.2.1 == (18 : Int)) == (x13 == (0 : Int)), ()))
      else
        some ((false, ()))
mutual
def law26_ChannelLeft_i9 : Nat → Int → List (Int × Int × Int × Int × Int × Int × Int × Int × Int × Int × Unit) → Int → Int → Int → Int → Int → Int → Int → Int → Int → Int → Bool → Int → Option (Bool × Unit)
  | 0, _, _, _, _, _, _, _, _, _, _, _, _, _, _ => none
  | n + 1, x0, x1, x2, x3, x4, x5, x6, x7, x8, x9, x10, x11, x12, x13 => law26_ChannelLeft_c9 (law26_ChannelLeft_i9 n) x0 x1 x2 x3 x4 x5 x6 x7 x8 x9 x10 x11 x12 x13
end
def law26_ChannelLeft (a0 : Int × List (Int × Int × Int × Int × Int × Int × Int × Int × Int × Int × Unit) × Unit) (a1 : Int × Int × Int × Int × Int × Int × Int × Int × Int × Int × Unit) : Option (Bool × Unit) := law26_ChannelLeft_c (law26_ChannelLeft_i9 fuel) a0 a1
-- ways that fail: 7 in [9, start]
end Tw
