import Derived.Test.YtepkicnfkpclcaaDoorAbsB6
import Derived.Test.YtepkicnfkpclcaaDoorllA
/- The functions of the code, as plain functions: printed from the code. -/
set_option linter.unusedVariables false
set_option linter.unusedSimpArgs false
namespace Tg
open Go.Abs (fuel bigOk cloned tmm dropD CT)
abbrev X1 := Int × Int × Int × Int × Int × Unit
abbrev X2 := Int × Int × Int × Unit
abbrev law45_LinesJoined_T3 := List X1 → List X2 → List X1 → List X2 → Bool → Option (Bool × Unit)
abbrev law45_LinesJoined_T8 := List X1 → List X2 → List X1 → List X2 → Bool → List UInt8 → Int → Option (Bool × Unit)
abbrev law45_LinesJoined_T10 := List X1 → List X2 → List X1 → List X2 → Bool → List UInt8 → Int → List UInt8 → Int → Option (Bool × Unit)
abbrev law45_LinesJoined_T12 := List X1 → List X2 → List X2 → Bool → List UInt8 → Int → List UInt8 → Int → List UInt8 → Int → Option (Bool × Unit)
abbrev law45_LinesJoined_T13 := List X1 → List X2 → List X2 → Bool → List UInt8 → Int → List UInt8 → Int → List UInt8 → Int → List UInt8 → Int → Option (Bool × Unit)
abbrev law45_LinesJoined_T15 := List X1 → List X2 → List X2 → Bool → List UInt8 → Int → List UInt8 → Int → List UInt8 → Int → List UInt8 → Int → List UInt8 → Int → Option (Bool × Unit)
abbrev law45_LinesJoined_T17 := List X1 → List X2 → Bool → List UInt8 → Int → List UInt8 → Int → List UInt8 → Int → List UInt8 → Int → List UInt8 → Int → List UInt8 → Int → Option (Bool × Unit)
abbrev law45_LinesJoined_T18 := Bool → List UInt8 → Int → List UInt8 → Int → List UInt8 → Int → List UInt8 → Int → List UInt8 → Int → List UInt8 → Int → List UInt8 → Int → Option (Bool × Unit)
abbrev law45_LinesJoined_T20 := Bool → List UInt8 → List UInt8 → List UInt8 → Int → List UInt8 → List UInt8 → List UInt8 → Int → List UInt8 → Int → Option (Bool × Unit)
def law45_LinesJoined_c (J3 : law45_LinesJoined_T3) (J8 : law45_LinesJoined_T8) (J10 : law45_LinesJoined_T10) (J12 : law45_LinesJoined_T12) (J13 : law45_LinesJoined_T13) (J15 : law45_LinesJoined_T15) (J17 : law45_LinesJoined_T17) (J18 : law45_LinesJoined_T18) (J20 : law45_LinesJoined_T20) (a0 a1 : List X1 × List X2 × Unit) : Option (Bool × Unit) :=
 bif decide (Int.ofNat (List.length a0.1) > (1000 : Int)) then
  some ((true, ()))
 else
  bif decide (Int.ofNat (List.length a1.1) > (1000 : Int)) then
   some ((true, ()))
  else
   bif decide (Int.ofNat (List.length a0.2.1) > (1000 : Int)) then
    some ((true, ()))
   else
    bif decide (Int.ofNat (List.length a1.2.1) > (1000 : Int)) then
     some ((true, ()))
    else
     match ref40_Great a0 with
      | none => none
      | some e0 =>
       bif e0.1 then
        some ((true, ()))
       else
        match ref40_Great a1 with
         | none => none
         | some e1 =>
          bif e1.1 then
           some ((true, ()))
          else
           J3 (a0.1) (a0.2.1) (a1.1) (a1.2.1) (true)
def law45_LinesJoined_c3 (J3 : law45_LinesJoined_T3) (J8 : law45_LinesJoined_T8) (J10 : law45_LinesJoined_T10) (J12 : law45_LinesJoined_T12) (J13 : law45_LinesJoined_T13) (J15 : law45_LinesJoined_T15) (J17 : law45_LinesJoined_T17) (J18 : law45_LinesJoined_T18) (J20 : law45_LinesJoined_T20) (x0 : List X1) (x1 : List X2) (x2 : List X1) (x3 : List X2) (x4 : Bool) : Option (Bool × Unit) :=
 match lines_Outputs (x0, [], ()) with
  | none => none
  | some e0 =>
   J8 x0 x1 x2 x3 x4 (e0.1) (e0.2.1)
def law45_LinesJoined_c8 (J3 : law45_LinesJoined_T3) (J8 : law45_LinesJoined_T8) (J10 : law45_LinesJoined_T10) (J12 : law45_LinesJoined_T12) (J13 : law45_LinesJoined_T13) (J15 : law45_LinesJoined_T15) (J17 : law45_LinesJoined_T17) (J18 : law45_LinesJoined_T18) (J20 : law45_LinesJoined_T20) (x0 : List X1) (x1 : List X2) (x2 : List X1) (x3 : List X2) (x4 : Bool) (x5 : List UInt8) (x6 : Int) : Option (Bool × Unit) :=
 match lines_Outputs (x2, [], ()) with
  | none => none
  | some e0 =>
   J10 x0 x1 x2 x3 x4 x5 x6 (e0.1) (e0.2.1)
def law45_LinesJoined_c10 (J3 : law45_LinesJoined_T3) (J8 : law45_LinesJoined_T8) (J10 : law45_LinesJoined_T10) (J12 : law45_LinesJoined_T12) (J13 : law45_LinesJoined_T13) (J15 : law45_LinesJoined_T15) (J17 : law45_LinesJoined_T17) (J18 : law45_LinesJoined_T18) (J20 : law45_LinesJoined_T20) (x0 : List X1) (x1 : List X2) (x2 : List X1) (x3 : List X2) (x4 : Bool) (x5 : List UInt8) (x6 : Int) (x7 : List UInt8) (x8 : Int) : Option (Bool × Unit) :=
 bif bigOk ((0 : Nat) + List.length x0) (40 : Nat) then
  bif bigOk (List.length x0 + List.length x2) (40 : Nat) then
   match lines_Outputs (x0 ++ x2, [], ()) with
    | none => none
    | some e0 =>
     J12 x0 x1 x3 x4 x5 x6 x7 x8 (e0.1) (e0.2.1)
  else
   none
 else
  none
def law45_LinesJoined_c12 (J3 : law45_LinesJoined_T3) (J8 : law45_LinesJoined_T8) (J10 : law45_LinesJoined_T10) (J12 : law45_LinesJoined_T12) (J13 : law45_LinesJoined_T13) (J15 : law45_LinesJoined_T15) (J17 : law45_LinesJoined_T17) (J18 : law45_LinesJoined_T18) (J20 : law45_LinesJoined_T20) (x0 : List X1) (x1 x2 : List X2) (x3 : Bool) (x4 : List UInt8) (x5 : Int) (x6 : List UInt8) (x7 : Int) (x8 : List UInt8) (x9 : Int) : Option (Bool × Unit) :=
 match lines_Outputs ([], x1, ()) with
  | none => none
  | some e0 =>
   J13 x0 x1 x2 x3 x4 x5 x6 x7 x8 x9 (e0.1) (e0.2.1)
def law45_LinesJoined_c13 (J3 : law45_LinesJoined_T3) (J8 : law45_LinesJoined_T8) (J10 : law45_LinesJoined_T10) (J12 : law45_LinesJoined_T12) (J13 : law45_LinesJoined_T13) (J15 : law45_LinesJoined_T15) (J17 : law45_LinesJoined_T17) (J18 : law45_LinesJoined_T18) (J20 : law45_LinesJoined_T20) (x0 : List X1) (x1 x2 : List X2) (x3 : Bool) (x4 : List UInt8) (x5 : Int) (x6 : List UInt8) (x7 : Int) (x8 : List UInt8) (x9 : Int) (x10 : List UInt8) (x11 : Int) : Option (Bool × Unit) :=
 match lines_Outputs ([], x2, ()) with
  | none => none
  | some e0 =>
   J15 x0 x1 x2 x3 x4 x5 x6 x7 x8 x9 x10 x11 (e0.1) (e0.2.1)
def law45_LinesJoined_c15 (J3 : law45_LinesJoined_T3) (J8 : law45_LinesJoined_T8) (J10 : law45_LinesJoined_T10) (J12 : law45_LinesJoined_T12) (J13 : law45_LinesJoined_T13) (J15 : law45_LinesJoined_T15) (J17 : law45_LinesJoined_T17) (J18 : law45_LinesJoined_T18) (J20 : law45_LinesJoined_T20) (x0 : List X1) (x1 x2 : List X2) (x3 : Bool) (x4 : List UInt8) (x5 : Int) (x6 : List UInt8) (x7 : Int) (x8 : List UInt8) (x9 : Int) (x10 : List UInt8) (x11 : Int) (x12 : List UInt8) (x13 : Int) : Option (Bool × Unit) :=
 bif bigOk ((0 : Nat) + List.length x1) (24 : Nat) then
  bif bigOk (List.length x1 + List.length x2) (24 : Nat) then
   match lines_Outputs ([], x1 ++ x2, ()) with
    | none => none
    | some e0 =>
     J17 x0 x1 x3 x4 x5 x6 x7 x8 x9 x10 x11 x12 x13 (e0.1) (e0.2.1)
  else
   none
 else
  none
def law45_LinesJoined_c17 (J3 : law45_LinesJoined_T3) (J8 : law45_LinesJoined_T8) (J10 : law45_LinesJoined_T10) (J12 : law45_LinesJoined_T12) (J13 : law45_LinesJoined_T13) (J15 : law45_LinesJoined_T15) (J17 : law45_LinesJoined_T17) (J18 : law45_LinesJoined_T18) (J20 : law45_LinesJoined_T20) (x0 : List X1) (x1 : List X2) (x2 : Bool) (x3 : List UInt8) (x4 : Int) (x5 : List UInt8) (x6 : Int) (x7 : List UInt8) (x8 : Int) (x9 : List UInt8) (x10 : Int) (x11 : List UInt8) (x12 : Int) (x13 : List UInt8) (x14 : Int) : Option (Bool × Unit) :=
 match lines_Outputs (x0, x1, ()) with
  | none => none
  | some e0 =>
   J18 x2 x3 x4 x5 x6 x7 x8 x9 x10 x11 x12 x13 x14 (e0.1) (e0.2.1)
def law45_LinesJoined_c18 (J3 : law45_LinesJoined_T3) (J8 : law45_LinesJoined_T8) (J10 : law45_LinesJoined_T10) (J12 : law45_LinesJoined_T12) (J13 : law45_LinesJoined_T13) (J15 : law45_LinesJoined_T15) (J17 : law45_LinesJoined_T17) (J18 : law45_LinesJoined_T18) (J20 : law45_LinesJoined_T20) (x0 : Bool) (x1 : List UInt8) (x2 : Int) (x3 : List UInt8) (x4 : Int) (x5 : List UInt8) (x6 : Int) (x7 : List UInt8) (x8 : Int) (x9 : List UInt8) (x10 : Int) (x11 : List UInt8) (x12 : Int) (x13 : List UInt8) (x14 : Int) : Option (Bool × Unit) :=
 bif x2 == (0 : Int) then
  bif !(x4 == (0 : Int)) == (x6 == (0 : Int)) then
   some ((false, ()))
  else
   bif x8 == (0 : Int) then
    bif !(x10 == (0 : Int)) == (x12 == (0 : Int)) then
     some ((false, ()))
    else
     bif x2 == (0 : Int) then
      bif !(x8 == (0 : Int)) == (x14 == (0 : Int)) then
       some ((false, ()))
      else
       J20 x0 x1 x3 x5 x6 x7 x9 x11 x12 x13 x14
     else
      bif !false == (x14 == (0 : Int)) then
       some ((false, ()))
      else
       J20 x0 x1 x3 x5 x6 x7 x9 x11 x12 x13 x14
   else
    bif !false == (x12 == (0 : Int)) then
     some ((false, ()))
    else
     bif x2 == (0 : Int) then
      bif !(x8 == (0 : Int)) == (x14 == (0 : Int)) then
       some ((false, ()))
      else
       J20 x0 x1 x3 x5 x6 x7 x9 x11 x12 x13 x14
     else
      bif !false == (x14 == (0 : Int)) then
       some ((false, ()))
      else
       J20 x0 x1 x3 x5 x6 x7 x9 x11 x12 x13 x14
 else
  bif !false == (x6 == (0 : Int)) then
   some ((false, ()))
  else
   bif x8 == (0 : Int) then
    bif !(x10 == (0 : Int)) == (x12 == (0 : Int)) then
     some ((false, ()))
    else
     bif x2 == (0 : Int) then
      bif !(x8 == (0 : Int)) == (x14 == (0 : Int)) then
       some ((false, ()))
      else
       J20 x0 x1 x3 x5 x6 x7 x9 x11 x12 x13 x14
     else
      bif !false == (x14 == (0 : Int)) then
       some ((false, ()))
      else
       J20 x0 x1 x3 x5 x6 x7 x9 x11 x12 x13 x14
   else
    bif !false == (x12 == (0 : Int)) then
     some ((false, ()))
    else
     bif x2 == (0 : Int) then
      bif !(x8 == (0 : Int)) == (x14 == (0 : Int)) then
       some ((false, ()))
      else
       J20 x0 x1 x3 x5 x6 x7 x9 x11 x12 x13 x14
     else
      bif !false == (x14 == (0 : Int)) then
       some ((false, ()))
      else
       J20 x0 x1 x3 x5 x6 x7 x9 x11 x12 x13 x14
def law45_LinesJoined_c20 (J3 : law45_LinesJoined_T3) (J8 : law45_LinesJoined_T8) (J10 : law45_LinesJoined_T10) (J12 : law45_LinesJoined_T12) (J13 : law45_LinesJoined_T13) (J15 : law45_LinesJoined_T15) (J17 : law45_LinesJoined_T17) (J18 : law45_LinesJoined_T18) (J20 : law45_LinesJoined_T20) (x0 : Bool) (x1 x2 x3 : List UInt8) (x4 : Int) (x5 x6 x7 : List UInt8) (x8 : Int) (x9 : List UInt8) (x10 : Int) : Option (Bool × Unit) :=
 bif x0 then
  bif x4 != (0 : Int) then
   bif x8 != (0 : Int) then
    bif x10 != (0 : Int) then
     some ((true, ()))
    else
     bif decide (List.length x1 + List.length x5 ≤ (9223372036854775807 : Nat)) then
      some ((x9 == x1 ++ x5, ()))
     else
      none
   else
    bif decide (List.length x5 + List.length x6 ≤ (9223372036854775807 : Nat)) then
     bif x7 == x5 ++ x6 then
      bif x10 != (0 : Int) then
       some ((true, ()))
      else
       bif decide (List.length x1 + List.length x5 ≤ (9223372036854775807 : Nat)) then
        some ((x9 == x1 ++ x5, ()))
       else
        none
     else
      some ((false, ()))
    else
     none
  else
   bif decide (List.length x1 + List.length x2 ≤ (9223372036854775807 : Nat)) then
    bif x3 == x1 ++ x2 then
     bif x8 != (0 : Int) then
      bif x10 != (0 : Int) then
       some ((true, ()))
      else
       bif decide (List.length x1 + List.length x5 ≤ (9223372036854775807 : Nat)) then
        some ((x9 == x1 ++ x5, ()))
       else
        none
     else
      bif decide (List.length x5 + List.length x6 ≤ (9223372036854775807 : Nat)) then
       bif x7 == x5 ++ x6 then
        bif x10 != (0 : Int) then
         some ((true, ()))
        else
         bif decide (List.length x1 + List.length x5 ≤ (9223372036854775807 : Nat)) then
          some ((x9 == x1 ++ x5, ()))
         else
          none
       else
        some ((false, ()))
      else
       none
    else
     some ((false, ()))
   else
    none
 else
  some ((false, ()))
mutual
def law45_LinesJoined_i3 : Nat → List X1 → List X2 → List X1 → List X2 → Bool → Option (Bool × Unit)
 | 0, _, _, _, _, _ => none
 | n + 1, x0, x1, x2, x3, x4 => law45_LinesJoined_c3 (law45_LinesJoined_i3 n) (law45_LinesJoined_i8 n) (law45_LinesJoined_i10 n) (law45_LinesJoined_i12 n) (law45_LinesJoined_i13 n) (law45_LinesJoined_i15 n) (law45_LinesJoined_i17 n) (law45_LinesJoined_i18 n) (law45_LinesJoined_i20 n) x0 x1 x2 x3 x4
def law45_LinesJoined_i8 : Nat → List X1 → List X2 → List X1 → List X2 → Bool → List UInt8 → Int → Option (Bool × Unit)
 | 0, _, _, _, _, _, _, _ => none
 | n + 1, x0, x1, x2, x3, x4, x5, x6 => law45_LinesJoined_c8 (law45_LinesJoined_i3 n) (law45_LinesJoined_i8 n) (law45_LinesJoined_i10 n) (law45_LinesJoined_i12 n) (law45_LinesJoined_i13 n) (law45_LinesJoined_i15 n) (law45_LinesJoined_i17 n) (law45_LinesJoined_i18 n) (law45_LinesJoined_i20 n) x0 x1 x2 x3 x4 x5 x6
def law45_LinesJoined_i10 : Nat → List X1 → List X2 → List X1 → List X2 → Bool → List UInt8 → Int → List UInt8 → Int → Option (Bool × Unit)
 | 0, _, _, _, _, _, _, _, _, _ => none
 | n + 1, x0, x1, x2, x3, x4, x5, x6, x7, x8 => law45_LinesJoined_c10 (law45_LinesJoined_i3 n) (law45_LinesJoined_i8 n) (law45_LinesJoined_i10 n) (law45_LinesJoined_i12 n) (law45_LinesJoined_i13 n) (law45_LinesJoined_i15 n) (law45_LinesJoined_i17 n) (law45_LinesJoined_i18 n) (law45_LinesJoined_i20 n) x0 x1 x2 x3 x4 x5 x6 x7 x8
def law45_LinesJoined_i12 : Nat → List X1 → List X2 → List X2 → Bool → List UInt8 → Int → List UInt8 → Int → List UInt8 → Int → Option (Bool × Unit)
 | 0, _, _, _, _, _, _, _, _, _, _ => none
 | n + 1, x0, x1, x2, x3, x4, x5, x6, x7, x8, x9 => law45_LinesJoined_c12 (law45_LinesJoined_i3 n) (law45_LinesJoined_i8 n) (law45_LinesJoined_i10 n) (law45_LinesJoined_i12 n) (law45_LinesJoined_i13 n) (law45_LinesJoined_i15 n) (law45_LinesJoined_i17 n) (law45_LinesJoined_i18 n) (law45_LinesJoined_i20 n) x0 x1 x2 x3 x4 x5 x6 x7 x8 x9
def law45_LinesJoined_i13 : Nat → List X1 → List X2 → List X2 → Bool → List UInt8 → Int → List UInt8 → Int → List UInt8 → Int → List UInt8 → Int → Option (Bool × Unit)
 | 0, _, _, _, _, _, _, _, _, _, _, _, _ => none
 | n + 1, x0, x1, x2, x3, x4, x5, x6, x7, x8, x9, x10, x11 => law45_LinesJoined_c13 (law45_LinesJoined_i3 n) (law45_LinesJoined_i8 n) (law45_LinesJoined_i10 n) (law45_LinesJoined_i12 n) (law45_LinesJoined_i13 n) (law45_LinesJoined_i15 n) (law45_LinesJoined_i17 n) (law45_LinesJoined_i18 n) (law45_LinesJoined_i20 n) x0 x1 x2 x3 x4 x5 x6 x7 x8 x9 x10 x11
def law45_LinesJoined_i15 : Nat → List X1 → List X2 → List X2 → Bool → List UInt8 → Int → List UInt8 → Int → List UInt8 → Int → List UInt8 → Int → List UInt8 → Int → Option (Bool × Unit)
 | 0, _, _, _, _, _, _, _, _, _, _, _, _, _, _ => none
 | n + 1, x0, x1, x2, x3, x4, x5, x6, x7, x8, x9, x10, x11, x12, x13 => law45_LinesJoined_c15 (law45_LinesJoined_i3 n) (law45_LinesJoined_i8 n) (law45_LinesJoined_i10 n) (law45_LinesJoined_i12 n) (law45_LinesJoined_i13 n) (law45_LinesJoined_i15 n) (law45_LinesJoined_i17 n) (law45_LinesJoined_i18 n) (law45_LinesJoined_i20 n) x0 x1 x2 x3 x4 x5 x6 x7 x8 x9 x10 x11 x12 x13
def law45_LinesJoined_i17 : Nat → List X1 → List X2 → Bool → List UInt8 → Int → List UInt8 → Int → List UInt8 → Int → List UInt8 → Int → List UInt8 → Int → List UInt8 → Int → Option (Bool × Unit)
 | 0, _, _, _, _, _, _, _, _, _, _, _, _, _, _, _ => none
 | n + 1, x0, x1, x2, x3, x4, x5, x6, x7, x8, x9, x10, x11, x12, x13, x14 => law45_LinesJoined_c17 (law45_LinesJoined_i3 n) (law45_LinesJoined_i8 n) (law45_LinesJoined_i10 n) (law45_LinesJoined_i12 n) (law45_LinesJoined_i13 n) (law45_LinesJoined_i15 n) (law45_LinesJoined_i17 n) (law45_LinesJoined_i18 n) (law45_LinesJoined_i20 n) x0 x1 x2 x3 x4 x5 x6 x7 x8 x9 x10 x11 x12 x13 x14
def law45_LinesJoined_i18 : Nat → Bool → List UInt8 → Int → List UInt8 → Int → List UInt8 → Int → List UInt8 → Int → List UInt8 → Int → List UInt8 → Int → List UInt8 → Int → Option (Bool × Unit)
 | 0, _, _, _, _, _, _, _, _, _, _, _, _, _, _, _ => none
 | n + 1, x0, x1, x2, x3, x4, x5, x6, x7, x8, x9, x10, x11, x12, x13, x14 => law45_LinesJoined_c18 (law45_LinesJoined_i3 n) (law45_LinesJoined_i8 n) (law45_LinesJoined_i10 n) (law45_LinesJoined_i12 n) (law45_LinesJoined_i13 n) (law45_LinesJoined_i15 n) (law45_LinesJoined_i17 n) (law45_LinesJoined_i18 n) (law45_LinesJoined_i20 n) x0 x1 x2 x3 x4 x5 x6 x7 x8 x9 x10 x11 x12 x13 x14
def law45_LinesJoined_i20 : Nat → Bool → List UInt8 → List UInt8 → List UInt8 → Int → List UInt8 → List UInt8 → List UInt8 → Int → List UInt8 → Int → Option (Bool × Unit)
 | 0, _, _, _, _, _, _, _, _, _, _, _ => none
 | n + 1, x0, x1, x2, x3, x4, x5, x6, x7, x8, x9, x10 => law45_LinesJoined_c20 (law45_LinesJoined_i3 n) (law45_LinesJoined_i8 n) (law45_LinesJoined_i10 n) (law45_LinesJoined_i12 n) (law45_LinesJoined_i13 n) (law45_LinesJoined_i15 n) (law45_LinesJoined_i17 n) (law45_LinesJoined_i18 n) (law45_LinesJoined_i20 n) x0 x1 x2 x3 x4 x5 x6 x7 x8 x9 x10
end
def law45_LinesJoined (a0 a1 : List X1 × List X2 × Unit) : Option (Bool × Unit) := law45_LinesJoined_c (law45_LinesJoined_i3 fuel) (law45_LinesJoined_i8 fuel) (law45_LinesJoined_i10 fuel) (law45_LinesJoined_i12 fuel) (law45_LinesJoined_i13 fuel) (law45_LinesJoined_i15 fuel) (law45_LinesJoined_i17 fuel) (law45_LinesJoined_i18 fuel) (law45_LinesJoined_i20 fuel) a0 a1
end Tg
