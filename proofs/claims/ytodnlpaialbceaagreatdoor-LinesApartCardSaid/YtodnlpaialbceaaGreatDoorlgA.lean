import Derived.Test.YtodnlpaialbceaaGreatDoorLA7
/- The functions of the code, as plain functions: printed from the code. -/
set_option linter.unusedVariables false
set_option linter.unusedSimpArgs false
namespace Tg
open Go.Abs (fuel bigOk cloned tmm dropD CT)
abbrev Y1 := Int × Int × Int × Int × Int × Unit
abbrev Y2 := Int × Int × Unit
abbrev Y4 := Bool × Unit
abbrev Y5 := List Y2 × Int × Unit
abbrev Y6 := List UInt8 × Unit
def ref24_Great (a0 : List Y2 × List Y1 × Unit) : Option Y4 :=
 bif decide (Int.ofNat (List.length a0.1) > (30 : Int)) then
  some ((true, ()))
 else
  some ((decide (Int.ofNat (List.length a0.2.1) > (120 : Int)), ()))
def ref37_Many (a0 : List Y2) : Option Y4 :=
 bif decide (Int.ofNat (List.length a0) > (60 : Int)) then
  bif decide (Int.ofNat (List.length a0) ≤ (2000 : Int)) then
   some ((true, ()))
  else
   some ((decide (Int.ofNat (List.length a0) > (2010 : Int)), ()))
 else
  some ((decide (Int.ofNat (List.length a0) > (2010 : Int)), ()))
abbrev ref45_SamePicks_T6 := List Y2 → List Y2 → Int → Option Y4
def ref45_SamePicks_c (J6 : ref45_SamePicks_T6) (a0 a1 : List Y2) : Option Y4 :=
 bif Int.ofNat (List.length a0) != Int.ofNat (List.length a1) then
  some ((false, ()))
 else
  J6 a0 a1 ((0 : Int))
def ref45_SamePicks_c6 (J6 : ref45_SamePicks_T6) (x0 x1 : List Y2) (x2 : Int) : Option Y4 :=
 bif decide (x2 < Int.ofNat (List.length x0)) then
  bif decide ((0 : Int) ≤ x2) then
   match x0[Int.toNat x2]? with
    | none => none
    | some e0 =>
     bif decide ((0 : Int) ≤ x2) then
      match x1[Int.toNat x2]? with
       | none => none
       | some e1 =>
        bif !(e0.1 == e1.1 && (e0.2.1 == e1.2.1 && true)) then
         some ((false, ()))
        else
         J6 x0 x1 (Go.IntKind.wrap Go.IntKind.i64 (x2 + (1 : Int)))
     else
      none
  else
   none
 else
  some ((true, ()))
mutual
def ref45_SamePicks_i6 : Nat → List Y2 → List Y2 → Int → Option Y4
 | 0, _, _, _ => none
 | n + 1, x0, x1, x2 => ref45_SamePicks_c6 (ref45_SamePicks_i6 n) x0 x1 x2
end
def ref45_SamePicks (a0 a1 : List Y2) : Option Y4 := ref45_SamePicks_c (ref45_SamePicks_i6 fuel) a0 a1
abbrev law45_count_T4 := List UInt8 → Int → Int → Option (Int × Unit)
def law45_count_c (J4 : law45_count_T4) (a0 : List UInt8) : Option (Int × Unit) :=
 J4 a0 ((0 : Int)) ((0 : Int))
def law45_count_c4 (J4 : law45_count_T4) (x0 : List UInt8) (x1 x2 : Int) : Option (Int × Unit) :=
 bif decide (x2 < Int.ofNat (List.length x0)) then
  bif decide ((0 : Int) ≤ x2) then
   match x0[Int.toNat x2]? with
    | none => none
    | some e0 =>
     bif Int.ofNat (UInt8.toNat e0) == (10 : Int) then
      J4 x0 (Go.IntKind.wrap Go.IntKind.i64 (x1 + (1 : Int))) (Go.IntKind.wrap Go.IntKind.i64 (x2 + (1 : Int)))
     else
      J4 x0 x1 (Go.IntKind.wrap Go.IntKind.i64 (x2 + (1 : Int)))
  else
   none
 else
  some ((x1, ()))
mutual
def law45_count_i4 : Nat → List UInt8 → Int → Int → Option (Int × Unit)
 | 0, _, _, _ => none
 | n + 1, x0, x1, x2 => law45_count_c4 (law45_count_i4 n) x0 x1 x2
end
def law45_count (a0 : List UInt8) : Option (Int × Unit) := law45_count_c (law45_count_i4 fuel) a0
abbrev ref24_Same_T4 := List Y1 → List Y1 → Option Y4
abbrev ref24_Same_T6 := List Y2 → List Y1 → List Y2 → List Y1 → Int → Option Y4
abbrev ref24_Same_T14 := List Y1 → List Y1 → Int → Option Y4
def ref24_Same_c (J4 : ref24_Same_T4) (J6 : ref24_Same_T6) (J14 : ref24_Same_T14) (a0 a1 : List Y2 × List Y1 × Unit) : Option Y4 :=
 bif Int.ofNat (List.length a0.1) != Int.ofNat (List.length a1.1) then
  some ((false, ()))
 else
  bif Int.ofNat (List.length a0.2.1) != Int.ofNat (List.length a1.2.1) then
   some ((false, ()))
  else
   J6 (a0.1) (a0.2.1) (a1.1) (a1.2.1) ((0 : Int))
def ref24_Same_c4 (J4 : ref24_Same_T4) (J6 : ref24_Same_T6) (J14 : ref24_Same_T14) (x0 x1 : List Y1) : Option Y4 :=
 J14 x0 x1 ((0 : Int))
def ref24_Same_c6 (J4 : ref24_Same_T4) (J6 : ref24_Same_T6) (J14 : ref24_Same_T14) (x0 : List Y2) (x1 : List Y1) (x2 : List Y2) (x3 : List Y1) (x4 : Int) : Option Y4 :=
 bif decide (x4 < Int.ofNat (List.length x0)) then
  bif decide ((0 : Int) ≤ x4) then
   match x0[Int.toNat x4]? with
    | none => none
    | some e0 =>
     bif decide ((0 : Int) ≤ x4) then
      match x2[Int.toNat x4]? with
       | none => none
       | some e1 =>
        bif !(e0.1 == e1.1 && (e0.2.1 == e1.2.1 && true)) then
         some ((false, ()))
        else
         J6 x0 x1 x2 x3 (Go.IntKind.wrap Go.IntKind.i64 (x4 + (1 : Int)))
     else
      none
  else
   none
 else
  J4 x1 x3
def ref24_Same_c14 (J4 : ref24_Same_T4) (J6 : ref24_Same_T6) (J14 : ref24_Same_T14) (x0 x1 : List Y1) (x2 : Int) : Option Y4 :=
 bif decide (x2 < Int.ofNat (List.length x0)) then
  bif decide ((0 : Int) ≤ x2) then
   match x0[Int.toNat x2]? with
    | none => none
    | some e0 =>
     bif decide ((0 : Int) ≤ x2) then
      match x1[Int.toNat x2]? with
       | none => none
       | some e1 =>
        bif !(e0.1 == e1.1 && (e0.2.1 == e1.2.1 && (e0.2.2.1 == e1.2.2.1 && (e0.2.2.2.1 == e1.2.2.2.1 && (e0.2.2.2.2.1 == e1.2.2.2.2.1 && true))))) then
         some ((false, ()))
        else
         J14 x0 x1 (Go.IntKind.wrap Go.IntKind.i64 (x2 + (1 : Int)))
     else
      none
  else
   none
 else
  some ((true, ()))
mutual
def ref24_Same_i4 : Nat → List Y1 → List Y1 → Option Y4
 | 0, _, _ => none
 | n + 1, x0, x1 => ref24_Same_c4 (ref24_Same_i4 n) (ref24_Same_i6 n) (ref24_Same_i14 n) x0 x1
def ref24_Same_i6 : Nat → List Y2 → List Y1 → List Y2 → List Y1 → Int → Option Y4
 | 0, _, _, _, _, _ => none
 | n + 1, x0, x1, x2, x3, x4 => ref24_Same_c6 (ref24_Same_i4 n) (ref24_Same_i6 n) (ref24_Same_i14 n) x0 x1 x2 x3 x4
def ref24_Same_i14 : Nat → List Y1 → List Y1 → Int → Option Y4
 | 0, _, _, _ => none
 | n + 1, x0, x1, x2 => ref24_Same_c14 (ref24_Same_i4 n) (ref24_Same_i6 n) (ref24_Same_i14 n) x0 x1 x2
end
def ref24_Same (a0 a1 : List Y2 × List Y1 × Unit) : Option Y4 := ref24_Same_c (ref24_Same_i4 fuel) (ref24_Same_i6 fuel) (ref24_Same_i14 fuel) a0 a1
abbrev run_Check_T13 := List Y2 → Int → Int → Option (Int × Unit)
def run_Check_c (J13 : run_Check_T13) (a0 : List Y2) : Option (Int × Unit) :=
 bif decide (Int.ofNat (List.length a0) > (2000 : Int)) then
  some (((4 : Int), ()))
 else
  J13 a0 (Int.ofNat (List.length a0)) ((0 : Int))
def run_Check_c13 (J13 : run_Check_T13) (x0 : List Y2) (x1 x2 : Int) : Option (Int × Unit) :=
 bif decide (x2 < x1) then
  bif decide ((0 : Int) ≤ x2) then
   match x0[Int.toNat x2]? with
    | none => none
    | some e0 =>
     bif decide (e0.1 < (0 : Int)) then
      bif decide (x2 ≥ (0 : Int)) then
       some (((2 : Int), ()))
      else
       some (((0 : Int), ()))
     else
      bif decide (e0.1 ≥ (20 : Int)) then
       bif decide (x2 ≥ (0 : Int)) then
        some (((2 : Int), ()))
       else
        some (((0 : Int), ()))
      else
       bif decide (e0.2.1 < (-1 : Int)) then
        bif decide (x2 ≥ (0 : Int)) then
         some (((2 : Int), ()))
        else
         some (((0 : Int), ()))
       else
        bif decide (e0.2.1 ≥ (4 : Int)) then
         bif decide (x2 ≥ (0 : Int)) then
          some (((2 : Int), ()))
         else
          some (((0 : Int), ()))
        else
         J13 x0 x1 (Go.IntKind.wrap Go.IntKind.i64 (x2 + (1 : Int)))
  else
   none
 else
  some (((0 : Int), ()))
mutual
def run_Check_i13 : Nat → List Y2 → Int → Int → Option (Int × Unit)
 | 0, _, _, _ => none
 | n + 1, x0, x1, x2 => run_Check_c13 (run_Check_i13 n) x0 x1 x2
end
def run_Check (a0 : List Y2) : Option (Int × Unit) := run_Check_c (run_Check_i13 fuel) a0
abbrev ref24_Outputs_T4 := Int → List Y1 → Int → Int → Option (Int × Unit)
def ref24_Outputs_c (J4 : ref24_Outputs_T4) (a0 : List Y2 × List Y1 × Unit) (a1 : Int) : Option (Int × Unit) :=
 J4 a1 (a0.2.1) ((0 : Int)) ((0 : Int))
def ref24_Outputs_c4 (J4 : ref24_Outputs_T4) (x0 : Int) (x1 : List Y1) (x2 x3 : Int) : Option (Int × Unit) :=
 bif decide (x3 < Int.ofNat (List.length x1)) then
  bif decide ((0 : Int) ≤ x3) then
   match x1[Int.toNat x3]? with
    | none => none
    | some e0 =>
     bif e0.1 == x0 then
      J4 x0 x1 (Go.IntKind.wrap Go.IntKind.i64 (x2 + (1 : Int))) (Go.IntKind.wrap Go.IntKind.i64 (x3 + (1 : Int)))
     else
      J4 x0 x1 x2 (Go.IntKind.wrap Go.IntKind.i64 (x3 + (1 : Int)))
  else
   none
 else
  some ((x2, ()))
mutual
def ref24_Outputs_i4 : Nat → Int → List Y1 → Int → Int → Option (Int × Unit)
 | 0, _, _, _, _ => none
 | n + 1, x0, x1, x2, x3 => ref24_Outputs_c4 (ref24_Outputs_i4 n) x0 x1 x2 x3
end
def ref24_Outputs (a0 : List Y2 × List Y1 × Unit) (a1 : Int) : Option (Int × Unit) := ref24_Outputs_c (ref24_Outputs_i4 fuel) a0 a1
abbrev ref24_apart_T4 := Int → List Y1 → Int → Int → Int → Int → Int → Option Y4
def ref24_apart_c (J4 : ref24_apart_T4) (a0 : List Y2 × List Y1 × Unit) (a1 : Int) : Option Y4 :=
 bif decide ((0 : Int) ≤ a1) then
  match a0.2.1[Int.toNat a1]? with
   | none => none
   | some e0 =>
    J4 a1 (a0.2.1) (e0.1) (e0.2.1) (e0.2.2.1) (e0.2.2.2.1) ((0 : Int))
 else
  none
def ref24_apart_c4 (J4 : ref24_apart_T4) (x0 : Int) (x1 : List Y1) (x2 x3 x4 x5 x6 : Int) : Option Y4 :=
 bif decide (x6 < x0) then
  bif decide ((0 : Int) ≤ x6) then
   match x1[Int.toNat x6]? with
    | none => none
    | some e0 =>
     bif decide (e0.1 > x2) then
      some ((false, ()))
     else
      bif e0.1 == x2 then
       bif decide (e0.2.1 ≥ x3) then
        some ((false, ()))
       else
        bif e0.2.2.1 == x4 then
         bif e0.2.2.2.1 == x5 then
          some ((false, ()))
         else
          J4 x0 x1 x2 x3 x4 x5 (Go.IntKind.wrap Go.IntKind.i64 (x6 + (1 : Int)))
        else
         J4 x0 x1 x2 x3 x4 x5 (Go.IntKind.wrap Go.IntKind.i64 (x6 + (1 : Int)))
      else
       bif e0.2.2.1 == x4 then
        bif e0.2.2.2.1 == x5 then
         some ((false, ()))
        else
         J4 x0 x1 x2 x3 x4 x5 (Go.IntKind.wrap Go.IntKind.i64 (x6 + (1 : Int)))
       else
        J4 x0 x1 x2 x3 x4 x5 (Go.IntKind.wrap Go.IntKind.i64 (x6 + (1 : Int)))
  else
   none
 else
  some ((true, ()))
mutual
def ref24_apart_i4 : Nat → Int → List Y1 → Int → Int → Int → Int → Int → Option Y4
 | 0, _, _, _, _, _, _, _ => none
 | n + 1, x0, x1, x2, x3, x4, x5, x6 => ref24_apart_c4 (ref24_apart_i4 n) x0 x1 x2 x3 x4 x5 x6
end
def ref24_apart (a0 : List Y2 × List Y1 × Unit) (a1 : Int) : Option Y4 := ref24_apart_c (ref24_apart_i4 fuel) a0 a1
def law45_row : Option (Y1 × Unit) :=
 some ((((0 : Int), (0 : Int), (5 : Int), (2 : Int), (0 : Int), ()), ()))
def ref40_Great (a0 : List Y1 × List (Int × Int × Int × Unit) × Unit) : Option Y4 :=
 bif decide (Int.ofNat (List.length a0.1) > (100 : Int)) then
  bif decide (Int.ofNat (List.length a0.1) ≤ (4000 : Int)) then
   some ((true, ()))
  else
   bif decide (Int.ofNat (List.length a0.1) > (4010 : Int)) then
    some ((true, ()))
   else
    bif decide (Int.ofNat (List.length a0.2.1) > (100 : Int)) then
     bif decide (Int.ofNat (List.length a0.2.1) ≤ (4000 : Int)) then
      some ((true, ()))
     else
      some ((decide (Int.ofNat (List.length a0.2.1) > (4010 : Int)), ()))
    else
     some ((decide (Int.ofNat (List.length a0.2.1) > (4010 : Int)), ()))
 else
  bif decide (Int.ofNat (List.length a0.1) > (4010 : Int)) then
   some ((true, ()))
  else
   bif decide (Int.ofNat (List.length a0.2.1) > (100 : Int)) then
    bif decide (Int.ofNat (List.length a0.2.1) ≤ (4000 : Int)) then
     some ((true, ()))
    else
     some ((decide (Int.ofNat (List.length a0.2.1) > (4010 : Int)), ()))
   else
    some ((decide (Int.ofNat (List.length a0.2.1) > (4010 : Int)), ()))
def lines_pick (a0 : Int × Int × Unit) : Option ((List UInt8) × Unit) :=
 match strconv_Itoa a0.1 with
  | none => none
  | some e0 =>
   bif decide (a0.2.1 ≥ (0 : Int)) then
    match strconv_Itoa a0.2.1 with
     | none => none
     | some e1 =>
      bif decide ((1 : Nat) + List.length e1.1 ≤ (9223372036854775807 : Nat)) then
       bif decide (List.length e0.1 + List.length ([(46 : UInt8)] ++ e1.1) ≤ (9223372036854775807 : Nat)) then
        some ((e0.1 ++ ([(46 : UInt8)] ++ e1.1), ()))
       else
        none
      else
       none
   else
    some ((e0.1, ()))
abbrev lines_Script_T9 := List Y6 → List Y2 → Int → Int → Option ((List UInt8) × Int × Unit)
def lines_Script_c (J9 : lines_Script_T9) (a0 : List Y2) : Option ((List UInt8) × Int × Unit) :=
 match run_Check a0 with
  | none => none
  | some e0 =>
   bif e0.1 != (0 : Int) then
    some (([], e0.1, ()))
   else
    bif decide (Int.toNat (Int.ofNat (List.length a0)) ≤ Int.toNat (Int.ofNat (List.length a0))) && (decide ((16 : Nat) * Int.toNat (Int.ofNat (List.length a0)) ≤ (281474976710656 : Nat)) && decide (Int.toNat (Int.ofNat (List.length a0)) ≤ (9223372036854775807 : Nat))) then
     J9 (List.replicate (Int.toNat (Int.ofNat (List.length a0))) ([], ())) a0 (Int.ofNat (List.length a0)) ((0 : Int))
    else
     none
def lines_Script_c9 (J9 : lines_Script_T9) (x0 : List Y6) (x1 : List Y2) (x2 x3 : Int) : Option ((List UInt8) × Int × Unit) :=
 bif decide (x3 < x2) then
  bif decide ((0 : Int) ≤ x3) then
   match x1[Int.toNat x3]? with
    | none => none
    | some e0 =>
     match lines_pick e0 with
      | none => none
      | some e1 =>
       bif decide ((0 : Int) ≤ x3) then
        bif decide (Int.toNat x3 < List.length x0) then
         match x0[Int.toNat x3]? with
          | none => none
          | some e2 =>
           J9 (List.set x0 (Int.toNat x3) (e1.1, e2.2)) x1 x2 (Go.IntKind.wrap Go.IntKind.i64 (x3 + (1 : Int)))
        else
         none
       else
        none
  else
   none
 else
  match strings_Join x0 [(32 : UInt8)] with
   | none => none
   | some e0 =>
    some ((e0.1, (0 : Int), ()))
mutual
def lines_Script_i9 : Nat → List Y6 → List Y2 → Int → Int → Option ((List UInt8) × Int × Unit)
 | 0, _, _, _, _ => none
 | n + 1, x0, x1, x2, x3 => lines_Script_c9 (lines_Script_i9 n) x0 x1 x2 x3
end
def lines_Script (a0 : List Y2) : Option ((List UInt8) × Int × Unit) := lines_Script_c (lines_Script_i9 fuel) a0
abbrev lines_ReadScript_T25 := List UInt8 → List Y2 → Option Y5
abbrev lines_ReadScript_T26 := List UInt8 → List UInt8 → Int → List Y2 → Option Y5
abbrev lines_ReadScript_T44 := List Y2 → List UInt8 → Int → Int → List UInt8 → List UInt8 → Int → Int → Option Y5
abbrev lines_ReadScript_T64 := List Y2 → List UInt8 → Int → Int → Option Y5
def lines_ReadScript_c (J25 : lines_ReadScript_T25) (J26 : lines_ReadScript_T26) (J44 : lines_ReadScript_T44) (J64 : lines_ReadScript_T64) (a0 : List UInt8) : Option Y5 :=
 bif a0 == [] then
  some (([], (0 : Int), ()))
 else
  J26 ([(32 : UInt8)]) a0 ((0 : Int)) ([])
def lines_ReadScript_c25 (J25 : lines_ReadScript_T25) (J26 : lines_ReadScript_T26) (J44 : lines_ReadScript_T44) (J64 : lines_ReadScript_T64) (x0 : List UInt8) (x1 : List Y2) : Option Y5 :=
 match strings_Cut x0 [(46 : UInt8)] with
  | none => none
  | some e0 =>
   match strconv_Atoi e0.1 with
    | none => none
    | some e1 =>
     bif e1.2.1 then
      some (([], (12 : Int), ()))
     else
      bif e0.2.2.1 then
       match strconv_Atoi e0.2.1 with
        | none => none
        | some e2 =>
         bif e2.2.1 then
          some (([], (12 : Int), ()))
         else
          J64 x1 x0 (e1.1) (e2.1)
      else
       J64 x1 x0 (e1.1) ((-1 : Int))
def lines_ReadScript_c26 (J25 : lines_ReadScript_T25) (J26 : lines_ReadScript_T26) (J44 : lines_ReadScript_T44) (J64 : lines_ReadScript_T64) (x0 x1 : List UInt8) (x2 : Int) (x3 : List Y2) : Option Y5 :=
 match strings_Index x1 x0 with
  | none => none
  | some e0 =>
   bif decide (e0.1 < (0 : Int)) then
    J25 x1 x3
   else
    bif decide ((0 : Int) ≤ Go.IntKind.wrap Go.IntKind.i64 (e0.1 + x2)) then
     bif decide ((0 : Nat) ≤ Int.toNat (Go.IntKind.wrap Go.IntKind.i64 (e0.1 + x2))) && decide (Int.toNat (Go.IntKind.wrap Go.IntKind.i64 (e0.1 + x2)) ≤ List.length x1) then
      match strings_Cut (List.drop (0 : Nat) (List.take (Int.toNat (Go.IntKind.wrap Go.IntKind.i64 (e0.1 + x2))) x1)) [(46 : UInt8)] with
       | none => none
       | some e1 =>
        match strconv_Atoi e1.1 with
         | none => none
         | some e2 =>
          bif e2.2.1 then
           some (([], (12 : Int), ()))
          else
           bif e1.2.2.1 then
            match strconv_Atoi e1.2.1 with
             | none => none
             | some e3 =>
              bif e3.2.1 then
               some (([], (12 : Int), ()))
              else
               J44 x3 (List.drop (0 : Nat) (List.take (Int.toNat (Go.IntKind.wrap Go.IntKind.i64 (e0.1 + x2))) x1)) (e2.1) (e3.1) x0 x1 x2 (e0.1)
           else
            J44 x3 (List.drop (0 : Nat) (List.take (Int.toNat (Go.IntKind.wrap Go.IntKind.i64 (e0.1 + x2))) x1)) (e2.1) ((-1 : Int)) x0 x1 x2 (e0.1)
     else
      none
    else
     none
def lines_ReadScript_c44 (J25 : lines_ReadScript_T25) (J26 : lines_ReadScript_T26) (J44 : lines_ReadScript_T44) (J64 : lines_ReadScript_T64) (x0 : List Y2) (x1 : List UInt8) (x2 x3 : Int) (x4 x5 : List UInt8) (x6 x7 : Int) : Option Y5 :=
 match lines_pick (x2, x3, ()) with
  | none => none
  | some e0 =>
   bif !e0.1 == x1 then
    some (([], (12 : Int), ()))
   else
    bif bigOk (List.length x0 + List.length [(x2, x3, ())]) (16 : Nat) then
     bif decide ((0 : Int) ≤ Go.IntKind.wrap Go.IntKind.i64 (x7 + Int.ofNat (List.length x4))) then
      bif decide (Int.toNat (Go.IntKind.wrap Go.IntKind.i64 (x7 + Int.ofNat (List.length x4))) ≤ List.length x5) then
       J26 x4 (List.drop (Int.toNat (Go.IntKind.wrap Go.IntKind.i64 (x7 + Int.ofNat (List.length x4)))) (List.take (List.length x5) x5)) x6 (x0 ++ [(x2, x3, ())])
      else
       none
     else
      none
    else
     none
def lines_ReadScript_c64 (J25 : lines_ReadScript_T25) (J26 : lines_ReadScript_T26) (J44 : lines_ReadScript_T44) (J64 : lines_ReadScript_T64) (x0 : List Y2) (x1 : List UInt8) (x2 x3 : Int) : Option Y5 :=
 match lines_pick (x2, x3, ()) with
  | none => none
  | some e0 =>
   bif !e0.1 == x1 then
    some (([], (12 : Int), ()))
   else
    bif bigOk (List.length x0 + List.length [(x2, x3, ())]) (16 : Nat) then
     match run_Check (x0 ++ [(x2, x3, ())]) with
      | none => none
      | some e1 =>
       bif e1.1 != (0 : Int) then
        some (([], (12 : Int), ()))
       else
        some ((x0 ++ [(x2, x3, ())], (0 : Int), ()))
    else
     none
mutual
def lines_ReadScript_i25 : Nat → List UInt8 → List Y2 → Option Y5
 | 0, _, _ => none
 | n + 1, x0, x1 => lines_ReadScript_c25 (lines_ReadScript_i25 n) (lines_ReadScript_i26 n) (lines_ReadScript_i44 n) (lines_ReadScript_i64 n) x0 x1
def lines_ReadScript_i26 : Nat → List UInt8 → List UInt8 → Int → List Y2 → Option Y5
 | 0, _, _, _, _ => none
 | n + 1, x0, x1, x2, x3 => lines_ReadScript_c26 (lines_ReadScript_i25 n) (lines_ReadScript_i26 n) (lines_ReadScript_i44 n) (lines_ReadScript_i64 n) x0 x1 x2 x3
def lines_ReadScript_i44 : Nat → List Y2 → List UInt8 → Int → Int → List UInt8 → List UInt8 → Int → Int → Option Y5
 | 0, _, _, _, _, _, _, _, _ => none
 | n + 1, x0, x1, x2, x3, x4, x5, x6, x7 => lines_ReadScript_c44 (lines_ReadScript_i25 n) (lines_ReadScript_i26 n) (lines_ReadScript_i44 n) (lines_ReadScript_i64 n) x0 x1 x2 x3 x4 x5 x6 x7
def lines_ReadScript_i64 : Nat → List Y2 → List UInt8 → Int → Int → Option Y5
 | 0, _, _, _, _ => none
 | n + 1, x0, x1, x2, x3 => lines_ReadScript_c64 (lines_ReadScript_i25 n) (lines_ReadScript_i26 n) (lines_ReadScript_i44 n) (lines_ReadScript_i64 n) x0 x1 x2 x3
end
def lines_ReadScript (a0 : List UInt8) : Option Y5 := lines_ReadScript_c (lines_ReadScript_i25 fuel) (lines_ReadScript_i26 fuel) (lines_ReadScript_i44 fuel) (lines_ReadScript_i64 fuel) a0
end Tg
