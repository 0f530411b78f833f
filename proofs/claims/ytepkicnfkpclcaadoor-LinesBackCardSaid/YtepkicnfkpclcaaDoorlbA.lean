import Derived.Test.YtepkicnfkpclcaaDoorAbsB6
import Derived.Test.YtepkicnfkpclcaaDoorllA
/- The functions of the code, as plain functions: printed from the code. -/
set_option linter.unusedVariables false
set_option linter.unusedSimpArgs false
namespace Tg
open Go.Abs (fuel bigOk cloned tmm dropD CT)
abbrev W1 := Int × Int × Int × Int × Int × Unit
abbrev W2 := Int × Int × Int × Unit
abbrev law45_LinesBack_T3 := List (Int × Int × Unit) → List UInt8 → List W1 → List W2 → Bool → Option (Bool × Unit)
abbrev law45_LinesBack_T10 := List (Int × Int × Unit) → List UInt8 → List W1 → List W2 → Bool → List UInt8 → Int → List UInt8 → Int → Option (Bool × Unit)
abbrev law45_LinesBack_T12 := List (Int × Int × Unit) → List UInt8 → List W1 → List W2 → Bool → List UInt8 → Int → List UInt8 → Int → Option (Bool × Unit)
abbrev law45_LinesBack_T17 := List UInt8 → Bool → Option (Bool × Unit)
abbrev law45_LinesBack_T24 := List UInt8 → Bool → List W1 → List W2 → Int → List (Int × Int × Unit) → Int → Option (Bool × Unit)
abbrev law45_LinesBack_T26 := List UInt8 → Bool → List W1 → List W2 → Int → List (Int × Int × Unit) → Int → Option (Bool × Unit)
def law45_LinesBack_c (J3 : law45_LinesBack_T3) (J10 : law45_LinesBack_T10) (J12 : law45_LinesBack_T12) (J17 : law45_LinesBack_T17) (J24 : law45_LinesBack_T24) (J26 : law45_LinesBack_T26) (a0 : List W1 × List W2 × Unit) (a1 : List (Int × Int × Unit)) (a2 : List UInt8) : Option (Bool × Unit) :=
 match ref40_Great a0 with
  | none => none
  | some e0 =>
   bif e0.1 then
    some ((true, ()))
   else
    match ref37_Many a1 with
     | none => none
     | some e1 =>
      bif e1.1 then
       some ((true, ()))
      else
       bif decide (Int.ofNat (List.length a2) > (1000 : Int)) then
        some ((true, ()))
       else
        J3 a1 a2 (a0.1) (a0.2.1) (true)
def law45_LinesBack_c3 (J3 : law45_LinesBack_T3) (J10 : law45_LinesBack_T10) (J12 : law45_LinesBack_T12) (J17 : law45_LinesBack_T17) (J24 : law45_LinesBack_T24) (J26 : law45_LinesBack_T26) (x0 : List (Int × Int × Unit)) (x1 : List UInt8) (x2 : List W1) (x3 : List W2) (x4 : Bool) : Option (Bool × Unit) :=
 match lines_Outputs (x2, x3, ()) with
  | none => none
  | some e0 =>
   match lines_Script x0 with
    | none => none
    | some e1 =>
     J10 x0 x1 x2 x3 x4 (e0.1) (e0.2.1) (e1.1) (e1.2.1)
def law45_LinesBack_c10 (J3 : law45_LinesBack_T3) (J10 : law45_LinesBack_T10) (J12 : law45_LinesBack_T12) (J17 : law45_LinesBack_T17) (J24 : law45_LinesBack_T24) (J26 : law45_LinesBack_T26) (x0 : List (Int × Int × Unit)) (x1 : List UInt8) (x2 : List W1) (x3 : List W2) (x4 : Bool) (x5 : List UInt8) (x6 : Int) (x7 : List UInt8) (x8 : Int) : Option (Bool × Unit) :=
 bif decide (Int.ofNat (List.length x2) ≤ (4000 : Int)) then
  bif decide (Int.ofNat (List.length x3) ≤ (4000 : Int)) then
   match ref45_Right (x2, x3, ()) with
    | none => none
    | some e0 =>
     bif !(x6 == (0 : Int)) == e0.1 then
      some ((false, ()))
     else
      match ref37_Check x0 with
       | none => none
       | some e1 =>
        bif !(x8 == (0 : Int)) == (e1.1 == (0 : Int)) then
         some ((false, ()))
        else
         J12 x0 x1 x2 x3 x4 x5 x6 x7 x8
  else
   bif !(x6 == (0 : Int)) == false then
    some ((false, ()))
   else
    match ref37_Check x0 with
     | none => none
     | some e0 =>
      bif !(x8 == (0 : Int)) == (e0.1 == (0 : Int)) then
       some ((false, ()))
      else
       J12 x0 x1 x2 x3 x4 x5 x6 x7 x8
 else
  bif !(x6 == (0 : Int)) == false then
   some ((false, ()))
  else
   match ref37_Check x0 with
    | none => none
    | some e0 =>
     bif !(x8 == (0 : Int)) == (e0.1 == (0 : Int)) then
      some ((false, ()))
     else
      J12 x0 x1 x2 x3 x4 x5 x6 x7 x8
def law45_LinesBack_c12 (J3 : law45_LinesBack_T3) (J10 : law45_LinesBack_T10) (J12 : law45_LinesBack_T12) (J17 : law45_LinesBack_T17) (J24 : law45_LinesBack_T24) (J26 : law45_LinesBack_T26) (x0 : List (Int × Int × Unit)) (x1 : List UInt8) (x2 : List W1) (x3 : List W2) (x4 : Bool) (x5 : List UInt8) (x6 : Int) (x7 : List UInt8) (x8 : Int) : Option (Bool × Unit) :=
 bif x6 == (0 : Int) then
  match law45_says (x2, x3, ()) x5 with
   | none => none
   | some e0 =>
    bif !e0.1 then
     some ((false, ()))
    else
     bif x8 == (0 : Int) then
      match law45_picks x0 x7 with
       | none => none
       | some e1 =>
        bif !e1.1 then
         some ((false, ()))
        else
         J17 x1 x4
     else
      J17 x1 x4
 else
  bif x8 == (0 : Int) then
   match law45_picks x0 x7 with
    | none => none
    | some e0 =>
     bif !e0.1 then
      some ((false, ()))
     else
      J17 x1 x4
  else
   J17 x1 x4
def law45_LinesBack_c17 (J3 : law45_LinesBack_T3) (J10 : law45_LinesBack_T10) (J12 : law45_LinesBack_T12) (J17 : law45_LinesBack_T17) (J24 : law45_LinesBack_T24) (J26 : law45_LinesBack_T26) (x0 : List UInt8) (x1 : Bool) : Option (Bool × Unit) :=
 match lines_ReadOutputs x0 with
  | none => none
  | some e0 =>
   match lines_ReadScript x0 with
    | none => none
    | some e1 =>
     J24 x0 x1 (e0.1.1) (e0.1.2.1) (e0.2.1) (e1.1) (e1.2.1)
def law45_LinesBack_c24 (J3 : law45_LinesBack_T3) (J10 : law45_LinesBack_T10) (J12 : law45_LinesBack_T12) (J17 : law45_LinesBack_T17) (J24 : law45_LinesBack_T24) (J26 : law45_LinesBack_T26) (x0 : List UInt8) (x1 : Bool) (x2 : List W1) (x3 : List W2) (x4 : Int) (x5 : List (Int × Int × Unit)) (x6 : Int) : Option (Bool × Unit) :=
 bif x4 != (0 : Int) then
  bif x4 != (12 : Int) then
   some ((false, ()))
  else
   bif x6 != (0 : Int) then
    bif x6 != (12 : Int) then
     some ((false, ()))
    else
     bif x4 == (0 : Int) then
      bif x6 == (0 : Int) then
       bif !x0 == [] then
        some ((false, ()))
       else
        J26 x0 x1 x2 x3 x4 x5 x6
      else
       J26 x0 x1 x2 x3 x4 x5 x6
     else
      J26 x0 x1 x2 x3 x4 x5 x6
   else
    bif x4 == (0 : Int) then
     bif x6 == (0 : Int) then
      bif !x0 == [] then
       some ((false, ()))
      else
       J26 x0 x1 x2 x3 x4 x5 x6
     else
      J26 x0 x1 x2 x3 x4 x5 x6
    else
     J26 x0 x1 x2 x3 x4 x5 x6
 else
  bif x6 != (0 : Int) then
   bif x6 != (12 : Int) then
    some ((false, ()))
   else
    bif x4 == (0 : Int) then
     bif x6 == (0 : Int) then
      bif !x0 == [] then
       some ((false, ()))
      else
       J26 x0 x1 x2 x3 x4 x5 x6
     else
      J26 x0 x1 x2 x3 x4 x5 x6
    else
     J26 x0 x1 x2 x3 x4 x5 x6
  else
   bif x4 == (0 : Int) then
    bif x6 == (0 : Int) then
     bif !x0 == [] then
      some ((false, ()))
     else
      J26 x0 x1 x2 x3 x4 x5 x6
    else
     J26 x0 x1 x2 x3 x4 x5 x6
   else
    J26 x0 x1 x2 x3 x4 x5 x6
def law45_LinesBack_c26 (J3 : law45_LinesBack_T3) (J10 : law45_LinesBack_T10) (J12 : law45_LinesBack_T12) (J17 : law45_LinesBack_T17) (J24 : law45_LinesBack_T24) (J26 : law45_LinesBack_T26) (x0 : List UInt8) (x1 : Bool) (x2 : List W1) (x3 : List W2) (x4 : Int) (x5 : List (Int × Int × Unit)) (x6 : Int) : Option (Bool × Unit) :=
 bif x1 then
  bif x4 != (0 : Int) then
   bif x6 != (0 : Int) then
    some ((true, ()))
   else
    match law45_picks x5 x0 with
     | none => none
     | some e0 =>
      some ((e0.1, ()))
  else
   match law45_says (x2, x3, ()) x0 with
    | none => none
    | some e0 =>
     bif e0.1 then
      bif x6 != (0 : Int) then
       some ((true, ()))
      else
       match law45_picks x5 x0 with
        | none => none
        | some e1 =>
         some ((e1.1, ()))
     else
      some ((false, ()))
 else
  some ((false, ()))
mutual
def law45_LinesBack_i3 : Nat → List (Int × Int × Unit) → List UInt8 → List W1 → List W2 → Bool → Option (Bool × Unit)
 | 0, _, _, _, _, _ => none
 | n + 1, x0, x1, x2, x3, x4 => law45_LinesBack_c3 (law45_LinesBack_i3 n) (law45_LinesBack_i10 n) (law45_LinesBack_i12 n) (law45_LinesBack_i17 n) (law45_LinesBack_i24 n) (law45_LinesBack_i26 n) x0 x1 x2 x3 x4
def law45_LinesBack_i10 : Nat → List (Int × Int × Unit) → List UInt8 → List W1 → List W2 → Bool → List UInt8 → Int → List UInt8 → Int → Option (Bool × Unit)
 | 0, _, _, _, _, _, _, _, _, _ => none
 | n + 1, x0, x1, x2, x3, x4, x5, x6, x7, x8 => law45_LinesBack_c10 (law45_LinesBack_i3 n) (law45_LinesBack_i10 n) (law45_LinesBack_i12 n) (law45_LinesBack_i17 n) (law45_LinesBack_i24 n) (law45_LinesBack_i26 n) x0 x1 x2 x3 x4 x5 x6 x7 x8
def law45_LinesBack_i12 : Nat → List (Int × Int × Unit) → List UInt8 → List W1 → List W2 → Bool → List UInt8 → Int → List UInt8 → Int → Option (Bool × Unit)
 | 0, _, _, _, _, _, _, _, _, _ => none
 | n + 1, x0, x1, x2, x3, x4, x5, x6, x7, x8 => law45_LinesBack_c12 (law45_LinesBack_i3 n) (law45_LinesBack_i10 n) (law45_LinesBack_i12 n) (law45_LinesBack_i17 n) (law45_LinesBack_i24 n) (law45_LinesBack_i26 n) x0 x1 x2 x3 x4 x5 x6 x7 x8
def law45_LinesBack_i17 : Nat → List UInt8 → Bool → Option (Bool × Unit)
 | 0, _, _ => none
 | n + 1, x0, x1 => law45_LinesBack_c17 (law45_LinesBack_i3 n) (law45_LinesBack_i10 n) (law45_LinesBack_i12 n) (law45_LinesBack_i17 n) (law45_LinesBack_i24 n) (law45_LinesBack_i26 n) x0 x1
def law45_LinesBack_i24 : Nat → List UInt8 → Bool → List W1 → List W2 → Int → List (Int × Int × Unit) → Int → Option (Bool × Unit)
 | 0, _, _, _, _, _, _, _ => none
 | n + 1, x0, x1, x2, x3, x4, x5, x6 => law45_LinesBack_c24 (law45_LinesBack_i3 n) (law45_LinesBack_i10 n) (law45_LinesBack_i12 n) (law45_LinesBack_i17 n) (law45_LinesBack_i24 n) (law45_LinesBack_i26 n) x0 x1 x2 x3 x4 x5 x6
def law45_LinesBack_i26 : Nat → List UInt8 → Bool → List W1 → List W2 → Int → List (Int × Int × Unit) → Int → Option (Bool × Unit)
 | 0, _, _, _, _, _, _, _ => none
 | n + 1, x0, x1, x2, x3, x4, x5, x6 => law45_LinesBack_c26 (law45_LinesBack_i3 n) (law45_LinesBack_i10 n) (law45_LinesBack_i12 n) (law45_LinesBack_i17 n) (law45_LinesBack_i24 n) (law45_LinesBack_i26 n) x0 x1 x2 x3 x4 x5 x6
end
def law45_LinesBack (a0 : List W1 × List W2 × Unit) (a1 : List (Int × Int × Unit)) (a2 : List UInt8) : Option (Bool × Unit) := law45_LinesBack_c (law45_LinesBack_i3 fuel) (law45_LinesBack_i10 fuel) (law45_LinesBack_i12 fuel) (law45_LinesBack_i17 fuel) (law45_LinesBack_i24 fuel) (law45_LinesBack_i26 fuel) a0 a1 a2
end Tg
