import Derived.Test.YtfdgpbehbpldfaaGreatAbsB6
import Derived.Test.YtfdgpbehbpldfaaGreatHandA
import Derived.Test.YtfdgpbehbpldfaaGreatzzA
/- The functions of the code, as plain functions: printed from the code. -/
set_option linter.unusedVariables false
namespace Tg
open Go.Abs (fuel bigOk cloned tmm dropD CT)
abbrev X3 := Int × Int × Int × Int × Int × Unit
abbrev X4 := List (Bool × Int × Int × Int × Int × Unit) × Unit
abbrev X5 := Int × Int × Int × Int × Int × Int × Int × Int × Int × Int × Int × Unit
abbrev X2 := Int × Int × Int × List X5 × List (Int × Unit) × List X5 × List (Bool × Int × Int × Int × Int × Unit) × List X3 × List (Int × Int × Int × Unit) × Unit
abbrev X1 := (Int × List X3 × List (Int × Unit) × Bool × List X3 × Int × Int × Int × Bool × Int × List (Int × Int × Unit) × List X3 × List X2 × List (Int × List (Int × Int × Int × Int × Int × Int × Int × Int × Int × Int × Unit) × Unit) × Unit) × Int × Unit
def build_Build1 (a0 : Int) (a1 : List X4 × Unit) : Option (X2 × Int × Unit) :=
 bif decide ((0 : Int) ≤ a0) then
  match a1.1[Int.toNat a0]? with
   | none => none
   | some e0 =>
    match source_New a0 e0.1 with
     | none => none
     | some e1 =>
      some ((e1.1, e1.2.1, ()))
 else
  none
def build_Build2 (a0 : Int) (a1 : Int × List X3 × List (Int × Unit) × Bool × List X3 × Int × Int × Int × Bool × Int × Unit) : Option (X2 × Int × Unit) :=
 match agg_New a0 (Int.ofNat (List.length a1.2.2.1)) with
  | none => none
  | some e0 =>
   some ((e0.1, e0.2.1, ()))
def build_Build3 (a0 : Int) : Option (X2 × Int × Unit) :=
 some ((((6 : Int), (0 : Int), (0 : Int), [], [], [], [], [], [], ()), (0 : Int), ()))
def build_Build4 (a0 : Int) : Option (X2 × Int × Unit) :=
 some ((((7 : Int), (0 : Int), (0 : Int), [], [], [], [], [], [], ()), (0 : Int), ()))
abbrev build_Build_T9 := Int → Int → Int → List X3 → List (Int × Unit) → Bool → List X3 → Int → Int → Int → Bool → Int → List X4 → Option X1
abbrev build_Build_T11 := Int → Int → Int → List X3 → List (Int × Unit) → Bool → List X3 → Int → Int → Int → Bool → Int → List X4 → List X4 → Int → Int → Option X1
abbrev build_Build_T33 := List X3 → Int → List X3 → List (Int × Unit) → Bool → List X3 → Int → Int → Int → Bool → Int → List (Int × Int × Unit) → List X3 → List X2 → Option X1
abbrev build_Build_T35 := Int → List X3 → List (Int × Unit) → Bool → List X3 → Int → Int → Int → Bool → Int → List X4 → List X3 → Int → List X3 → List (Int × Unit) → Bool → List X3 → Int → Int → Int → Bool → Int → List (Int × Int × Unit) → List X3 → List X2 → List (Int × Int × Unit) → Int → Int → Option X1
abbrev build_Build_T41 := Int → List X3 → List (Int × Unit) → Bool → List X3 → Int → Int → Int → Bool → Int → List X4 → List X3 → Int → List X3 → List (Int × Unit) → Bool → List X3 → Int → Int → Int → Bool → Int → List (Int × Int × Unit) → List X3 → List X2 → Int → Int → Int → List X5 → List (Int × Unit) → List X5 → List (Bool × Int × Int × Int × Int × Unit) → List X3 → List (Int × Int × Int × Unit) → List (Int × Int × Unit) → Int → Int → Option X1
abbrev build_Build_T46 := Int → List X3 → List (Int × Unit) → Bool → List X3 → Int → Int → Int → Bool → Int → List (Int × Int × Unit) → List X3 → List X2 → List (Int × List (Int × Int × Int × Int × Int × Int × Int × Int × Int × Int × Unit) × Unit) → List X3 → Int → Int → Option X1
def build_Build_c (J9 : build_Build_T9) (J11 : build_Build_T11) (J33 : build_Build_T33) (J35 : build_Build_T35) (J41 : build_Build_T41) (J46 : build_Build_T46) (a0 : Int × List X3 × List (Int × Unit) × Bool × List X3 × Int × Int × Int × Bool × Int × Unit) (a1 : List X4) (a2 a3 : Int) : Option X1 :=
 match checks_Check a0 with
  | none => none
  | some e0 =>
   bif e0.2.1 != (0 : Int) then
    some ((((0 : Int), [], [], false, [], (0 : Int), (0 : Int), (0 : Int), false, (0 : Int), [], [], [], [], ()), e0.2.1, ()))
   else
    bif Int.ofNat (List.length a1) != Int.ofNat (List.length a0.2.2.1) then
     some ((((0 : Int), [], [], false, [], (0 : Int), (0 : Int), (0 : Int), false, (0 : Int), [], [], [], [], ()), (2 : Int), ()))
    else
     J11 a2 a3 (a0.1) (a0.2.1) (a0.2.2.1) (a0.2.2.2.1) (a0.2.2.2.2.1) (a0.2.2.2.2.2.1) (a0.2.2.2.2.2.2.1) (a0.2.2.2.2.2.2.2.1) (a0.2.2.2.2.2.2.2.2.1) (a0.2.2.2.2.2.2.2.2.2.1) a1 a1 (Int.ofNat (List.length a1)) ((0 : Int))
def build_Build_c9 (J9 : build_Build_T9) (J11 : build_Build_T11) (J33 : build_Build_T33) (J35 : build_Build_T35) (J41 : build_Build_T41) (J46 : build_Build_T46) (x0 x1 x2 : Int) (x3 : List X3) (x4 : List (Int × Unit)) (x5 : Bool) (x6 : List X3) (x7 x8 x9 : Int) (x10 : Bool) (x11 : Int) (x12 : List X4) : Option X1 :=
 match plan_Of (x2, x3, x4, x5, x6, x7, x8, x9, x10, x11, ()) with
  | none => none
  | some e0 =>
   bif e0.2.1 != (0 : Int) then
    some ((((0 : Int), [], [], false, [], (0 : Int), (0 : Int), (0 : Int), false, (0 : Int), [], [], [], [], ()), e0.2.1, ()))
   else
    match graph_Of e0.1 x0 x1 with
     | none => none
     | some e1 =>
      bif e1.2.1 != (0 : Int) then
       some ((((0 : Int), [], [], false, [], (0 : Int), (0 : Int), (0 : Int), false, (0 : Int), [], [], [], [], ()), e1.2.1, ()))
      else
       match cloned 40 x3 with
        | none => none
        | some e2 =>
         match cloned 40 x6 with
          | none => none
          | some e3 =>
           match cloned 8 x4 with
            | none => none
            | some e4 =>
             J35 x2 (e2.1) (e4.1) x5 (e3.1) x7 x8 x9 x10 x11 x12 (e1.1.2.1) x2 (e2.1) (e4.1) x5 (e3.1) x7 x8 x9 x10 x11 (e1.1.1) (e1.1.2.1) ([]) (e1.1.1) (Int.ofNat (List.length e1.1.1)) ((0 : Int))
def build_Build_c11 (J9 : build_Build_T9) (J11 : build_Build_T11) (J33 : build_Build_T33) (J35 : build_Build_T35) (J41 : build_Build_T41) (J46 : build_Build_T46) (x0 x1 x2 : Int) (x3 : List X3) (x4 : List (Int × Unit)) (x5 : Bool) (x6 : List X3) (x7 x8 x9 : Int) (x10 : Bool) (x11 : Int) (x12 x13 : List X4) (x14 x15 : Int) : Option X1 :=
 bif decide (x15 < x14) then
  bif decide ((0 : Int) ≤ x15) then
   match x13[Int.toNat x15]? with
    | none => none
    | some e0 =>
     match late_Check e0.1 with
      | none => none
      | some e1 =>
       bif e1.1 != (0 : Int) then
        some ((((0 : Int), [], [], false, [], (0 : Int), (0 : Int), (0 : Int), false, (0 : Int), [], [], [], [], ()), e1.1, ()))
       else
        J11 x0 x1 x2 x3 x4 x5 x6 x7 x8 x9 x10 x11 x12 x13 x14 (Go.IntKind.wrap Go.IntKind.i64 (x15 + (1 : Int)))
  else
   none
 else
  J9 x0 x1 x2 x3 x4 x5 x6 x7 x8 x9 x10 x11 x12
def build_Build_c33 (J9 : build_Build_T9) (J11 : build_Build_T11) (J33 : build_Build_T33) (J35 : build_Build_T35) (J41 : build_Build_T41) (J46 : build_Build_T46) (x0 : List X3) (x1 : Int) (x2 : List X3) (x3 : List (Int × Unit)) (x4 : Bool) (x5 : List X3) (x6 x7 x8 : Int) (x9 : Bool) (x10 : Int) (x11 : List (Int × Int × Unit)) (x12 : List X3) (x13 : List X2) : Option X1 :=
 J46 x1 x2 x3 x4 x5 x6 x7 x8 x9 x10 x11 x12 x13 ([]) x0 (Int.ofNat (List.length x0)) ((0 : Int))
def build_Build_c35 (J9 : build_Build_T9) (J11 : build_Build_T11) (J33 : build_Build_T33) (J35 : build_Build_T35) (J41 : build_Build_T41) (J46 : build_Build_T46) (x0 : Int) (x1 : List X3) (x2 : List (Int × Unit)) (x3 : Bool) (x4 : List X3) (x5 x6 x7 : Int) (x8 : Bool) (x9 : Int) (x10 : List X4) (x11 : List X3) (x12 : Int) (x13 : List X3) (x14 : List (Int × Unit)) (x15 : Bool) (x16 : List X3) (x17 x18 x19 : Int) (x20 : Bool) (x21 : Int) (x22 : List (Int × Int × Unit)) (x23 : List X3) (x24 : List X2) (x25 : List (Int × Int × Unit)) (x26 x27 : Int) : Option X1 :=
 bif decide (x27 < x26) then
  bif decide ((0 : Int) ≤ x27) then
   match x25[Int.toNat x27]? with
    | none => none
    | some e0 =>
     bif decide ((0 : Int) ≤ Go.IntKind.wrap Go.IntKind.u8 (e0.1 - (1 : Int))) then
      bif decide (Int.toNat (Go.IntKind.wrap Go.IntKind.u8 (e0.1 - (1 : Int))) = nat_lit 6) then
       J41 x0 x1 x2 x3 x4 x5 x6 x7 x8 x9 x10 x11 x12 x13 x14 x15 x16 x17 x18 x19 x20 x21 x22 x23 x24 ((7 : Int)) ((0 : Int)) ((0 : Int)) ([]) ([]) ([]) ([]) ([]) ([]) x25 x26 x27
      else
       bif decide (Int.toNat (Go.IntKind.wrap Go.IntKind.u8 (e0.1 - (1 : Int))) = nat_lit 5) then
        J41 x0 x1 x2 x3 x4 x5 x6 x7 x8 x9 x10 x11 x12 x13 x14 x15 x16 x17 x18 x19 x20 x21 x22 x23 x24 ((6 : Int)) ((0 : Int)) ((0 : Int)) ([]) ([]) ([]) ([]) ([]) ([]) x25 x26 x27
       else
        bif decide (Int.toNat (Go.IntKind.wrap Go.IntKind.u8 (e0.1 - (1 : Int))) = nat_lit 4) then
         match join_New e0.2.1 with
          | none => none
          | some e1 =>
           bif e1.2.1 != (0 : Int) then
            some ((((0 : Int), [], [], false, [], (0 : Int), (0 : Int), (0 : Int), false, (0 : Int), [], [], [], [], ()), e1.2.1, ()))
           else
            J41 x0 x1 x2 x3 x4 x5 x6 x7 x8 x9 x10 x11 x12 x13 x14 x15 x16 x17 x18 x19 x20 x21 x22 x23 x24 (e1.1.1) (e1.1.2.1) (e1.1.2.2.1) (e1.1.2.2.2.1) (e1.1.2.2.2.2.1) (e1.1.2.2.2.2.2.1) (e1.1.2.2.2.2.2.2.1) (e1.1.2.2.2.2.2.2.2.1) (e1.1.2.2.2.2.2.2.2.2.1) x25 x26 x27
        else
         bif decide (Int.toNat (Go.IntKind.wrap Go.IntKind.u8 (e0.1 - (1 : Int))) = nat_lit 3) then
          match build_Build2 e0.2.1 (x0, x1, x2, x3, x4, x5, x6, x7, x8, x9, ()) with
           | none => none
           | some e1 =>
            bif List.isEmpty e1.1.2.2.2.1 then
             bif List.isEmpty e1.1.2.2.2.2.2.1 then
              bif List.isEmpty e1.1.2.2.2.2.2.2.1 then
               bif List.isEmpty e1.1.2.2.2.2.2.2.2.1 then
                bif List.isEmpty e1.1.2.2.2.2.2.2.2.2.1 then
                 bif e1.2.1 != (0 : Int) then
                  some ((((0 : Int), [], [], false, [], (0 : Int), (0 : Int), (0 : Int), false, (0 : Int), [], [], [], [], ()), e1.2.1, ()))
                 else
                  J41 x0 x1 x2 x3 x4 x5 x6 x7 x8 x9 x10 x11 x12 x13 x14 x15 x16 x17 x18 x19 x20 x21 x22 x23 x24 (e1.1.1) (e1.1.2.1) (e1.1.2.2.1) (e1.1.2.2.2.1) (e1.1.2.2.2.2.1) (e1.1.2.2.2.2.2.1) (e1.1.2.2.2.2.2.2.1) (e1.1.2.2.2.2.2.2.2.1) (e1.1.2.2.2.2.2.2.2.2.1) x25 x26 x27
                else
                 none
               else
                none
              else
               none
             else
              none
            else
             none
         else
          bif decide (Int.toNat (Go.IntKind.wrap Go.IntKind.u8 (e0.1 - (1 : Int))) = nat_lit 2) then
           match part_New e0.2.1 with
            | none => none
            | some e1 =>
             bif e1.2.1 != (0 : Int) then
              some ((((0 : Int), [], [], false, [], (0 : Int), (0 : Int), (0 : Int), false, (0 : Int), [], [], [], [], ()), e1.2.1, ()))
             else
              J41 x0 x1 x2 x3 x4 x5 x6 x7 x8 x9 x10 x11 x12 x13 x14 x15 x16 x17 x18 x19 x20 x21 x22 x23 x24 (e1.1.1) (e1.1.2.1) (e1.1.2.2.1) (e1.1.2.2.2.1) (e1.1.2.2.2.2.1) (e1.1.2.2.2.2.2.1) (e1.1.2.2.2.2.2.2.1) (e1.1.2.2.2.2.2.2.2.1) (e1.1.2.2.2.2.2.2.2.2.1) x25 x26 x27
          else
           bif decide (Int.toNat (Go.IntKind.wrap Go.IntKind.u8 (e0.1 - (1 : Int))) = nat_lit 1) then
            match filter_New e0.2.1 with
             | none => none
             | some e1 =>
              bif e1.2.1 != (0 : Int) then
               some ((((0 : Int), [], [], false, [], (0 : Int), (0 : Int), (0 : Int), false, (0 : Int), [], [], [], [], ()), e1.2.1, ()))
              else
               J41 x0 x1 x2 x3 x4 x5 x6 x7 x8 x9 x10 x11 x12 x13 x14 x15 x16 x17 x18 x19 x20 x21 x22 x23 x24 (e1.1.1) (e1.1.2.1) (e1.1.2.2.1) (e1.1.2.2.2.1) (e1.1.2.2.2.2.1) (e1.1.2.2.2.2.2.1) (e1.1.2.2.2.2.2.2.1) (e1.1.2.2.2.2.2.2.2.1) (e1.1.2.2.2.2.2.2.2.2.1) x25 x26 x27
           else
            bif decide (Int.toNat (Go.IntKind.wrap Go.IntKind.u8 (e0.1 - (1 : Int))) = nat_lit 0) then
             match build_Build1 e0.2.1 (x10, ()) with
              | none => none
              | some e1 =>
               bif List.isEmpty e1.1.2.2.2.1 then
                bif List.isEmpty e1.1.2.2.2.2.1 then
                 bif List.isEmpty e1.1.2.2.2.2.2.1 then
                  bif List.isEmpty e1.1.2.2.2.2.2.2.2.1 then
                   bif List.isEmpty e1.1.2.2.2.2.2.2.2.2.1 then
                    bif e1.2.1 != (0 : Int) then
                     some ((((0 : Int), [], [], false, [], (0 : Int), (0 : Int), (0 : Int), false, (0 : Int), [], [], [], [], ()), e1.2.1, ()))
                    else
                     J41 x0 x1 x2 x3 x4 x5 x6 x7 x8 x9 x10 x11 x12 x13 x14 x15 x16 x17 x18 x19 x20 x21 x22 x23 x24 (e1.1.1) (e1.1.2.1) (e1.1.2.2.1) (e1.1.2.2.2.1) (e1.1.2.2.2.2.1) (e1.1.2.2.2.2.2.1) (e1.1.2.2.2.2.2.2.1) (e1.1.2.2.2.2.2.2.2.1) (e1.1.2.2.2.2.2.2.2.2.1) x25 x26 x27
                   else
                    none
                  else
                   none
                 else
                  none
                else
                 none
               else
                none
            else
             none
     else
      none
  else
   none
 else
  J33 x11 x12 x13 x14 x15 x16 x17 x18 x19 x20 x21 x22 x23 x24
def build_Build_c41 (J9 : build_Build_T9) (J11 : build_Build_T11) (J33 : build_Build_T33) (J35 : build_Build_T35) (J41 : build_Build_T41) (J46 : build_Build_T46) (x0 : Int) (x1 : List X3) (x2 : List (Int × Unit)) (x3 : Bool) (x4 : List X3) (x5 x6 x7 : Int) (x8 : Bool) (x9 : Int) (x10 : List X4) (x11 : List X3) (x12 : Int) (x13 : List X3) (x14 : List (Int × Unit)) (x15 : Bool) (x16 : List X3) (x17 x18 x19 : Int) (x20 : Bool) (x21 : Int) (x22 : List (Int × Int × Unit)) (x23 : List X3) (x24 : List X2) (x25 x26 x27 : Int) (x28 : List X5) (x29 : List (Int × Unit)) (x30 : List X5) (x31 : List (Bool × Int × Int × Int × Int × Unit)) (x32 : List X3) (x33 : List (Int × Int × Int × Unit)) (x34 : List (Int × Int × Unit)) (x35 x36 : Int) : Option X1 :=
 bif bigOk (List.length x24 + List.length [(x25, x26, x27, x28, x29, x30, x31, x32, x33, ())]) (168 : Nat) then
  J35 x0 x1 x2 x3 x4 x5 x6 x7 x8 x9 x10 x11 x12 x13 x14 x15 x16 x17 x18 x19 x20 x21 x22 x23 (x24 ++ [(x25, x26, x27, x28, x29, x30, x31, x32, x33, ())]) x34 x35 (Go.IntKind.wrap Go.IntKind.i64 (x36 + (1 : Int)))
 else
  none
def build_Build_c46 (J9 : build_Build_T9) (J11 : build_Build_T11) (J33 : build_Build_T33) (J35 : build_Build_T35) (J41 : build_Build_T41) (J46 : build_Build_T46) (x0 : Int) (x1 : List X3) (x2 : List (Int × Unit)) (x3 : Bool) (x4 : List X3) (x5 x6 x7 : Int) (x8 : Bool) (x9 : Int) (x10 : List (Int × Int × Unit)) (x11 : List X3) (x12 : List X2) (x13 : List (Int × List (Int × Int × Int × Int × Int × Int × Int × Int × Int × Int × Unit) × Unit)) (x14 : List X3) (x15 x16 : Int) : Option X1 :=
 bif decide (x16 < x15) then
  bif decide ((0 : Int) ≤ x16) then
   match x14[Int.toNat x16]? with
    | none => none
    | some e0 =>
     match channel_New e0.2.2.2.2.1 with
      | none => none
      | some e1 =>
       bif e1.2.1 != (0 : Int) then
        some ((((0 : Int), [], [], false, [], (0 : Int), (0 : Int), (0 : Int), false, (0 : Int), [], [], [], [], ()), e1.2.1, ()))
       else
        bif bigOk (List.length x13 + List.length [e1.1]) (32 : Nat) then
         J46 x0 x1 x2 x3 x4 x5 x6 x7 x8 x9 x10 x11 x12 (x13 ++ [e1.1]) x14 x15 (Go.IntKind.wrap Go.IntKind.i64 (x16 + (1 : Int)))
        else
         none
  else
   none
 else
  some (((x0, x1, x2, x3, x4, x5, x6, x7, x8, x9, x10, x11, x12, x13, ()), (0 : Int), ()))
mutual
def build_Build_i9 : Nat → Int → Int → Int → List X3 → List (Int × Unit) → Bool → List X3 → Int → Int → Int → Bool → Int → List X4 → Option X1
 | 0, _, _, _, _, _, _, _, _, _, _, _, _, _ => none
 | n + 1, x0, x1, x2, x3, x4, x5, x6, x7, x8, x9, x10, x11, x12 => build_Build_c9 (build_Build_i9 n) (build_Build_i11 n) (build_Build_i33 n) (build_Build_i35 n) (build_Build_i41 n) (build_Build_i46 n) x0 x1 x2 x3 x4 x5 x6 x7 x8 x9 x10 x11 x12
def build_Build_i11 : Nat → Int → Int → Int → List X3 → List (Int × Unit) → Bool → List X3 → Int → Int → Int → Bool → Int → List X4 → List X4 → Int → Int → Option X1
 | 0, _, _, _, _, _, _, _, _, _, _, _, _, _, _, _, _ => none
 | n + 1, x0, x1, x2, x3, x4, x5, x6, x7, x8, x9, x10, x11, x12, x13, x14, x15 => build_Build_c11 (build_Build_i9 n) (build_Build_i11 n) (build_Build_i33 n) (build_Build_i35 n) (build_Build_i41 n) (build_Build_i46 n) x0 x1 x2 x3 x4 x5 x6 x7 x8 x9 x10 x11 x12 x13 x14 x15
def build_Build_i33 : Nat → List X3 → Int → List X3 → List (Int × Unit) → Bool → List X3 → Int → Int → Int → Bool → Int → List (Int × Int × Unit) → List X3 → List X2 → Option X1
 | 0, _, _, _, _, _, _, _, _, _, _, _, _, _, _ => none
 | n + 1, x0, x1, x2, x3, x4, x5, x6, x7, x8, x9, x10, x11, x12, x13 => build_Build_c33 (build_Build_i9 n) (build_Build_i11 n) (build_Build_i33 n) (build_Build_i35 n) (build_Build_i41 n) (build_Build_i46 n) x0 x1 x2 x3 x4 x5 x6 x7 x8 x9 x10 x11 x12 x13
def build_Build_i35 : Nat → Int → List X3 → List (Int × Unit) → Bool → List X3 → Int → Int → Int → Bool → Int → List X4 → List X3 → Int → List X3 → List (Int × Unit) → Bool → List X3 → Int → Int → Int → Bool → Int → List (Int × Int × Unit) → List X3 → List X2 → List (Int × Int × Unit) → Int → Int → Option X1
 | 0, _, _, _, _, _, _, _, _, _, _, _, _, _, _, _, _, _, _, _, _, _, _, _, _, _, _, _, _ => none
 | n + 1, x0, x1, x2, x3, x4, x5, x6, x7, x8, x9, x10, x11, x12, x13, x14, x15, x16, x17, x18, x19, x20, x21, x22, x23, x24, x25, x26, x27 => build_Build_c35 (build_Build_i9 n) (build_Build_i11 n) (build_Build_i33 n) (build_Build_i35 n) (build_Build_i41 n) (build_Build_i46 n) x0 x1 x2 x3 x4 x5 x6 x7 x8 x9 x10 x11 x12 x13 x14 x15 x16 x17 x18 x19 x20 x21 x22 x23 x24 x25 x26 x27
def build_Build_i41 : Nat → Int → List X3 → List (Int × Unit) → Bool → List X3 → Int → Int → Int → Bool → Int → List X4 → List X3 → Int → List X3 → List (Int × Unit) → Bool → List X3 → Int → Int → Int → Bool → Int → List (Int × Int × Unit) → List X3 → List X2 → Int → Int → Int → List X5 → List (Int × Unit) → List X5 → List (Bool × Int × Int × Int × Int × Unit) → List X3 → List (Int × Int × Int × Unit) → List (Int × Int × Unit) → Int → Int → Option X1
 | 0, _, _, _, _, _, _, _, _, _, _, _, _, _, _, _, _, _, _, _, _, _, _, _, _, _, _, _, _, _, _, _, _, _, _, _, _, _ => none
 | n + 1, x0, x1, x2, x3, x4, x5, x6, x7, x8, x9, x10, x11, x12, x13, x14, x15, x16, x17, x18, x19, x20, x21, x22, x23, x24, x25, x26, x27, x28, x29, x30, x31, x32, x33, x34, x35, x36 => build_Build_c41 (build_Build_i9 n) (build_Build_i11 n) (build_Build_i33 n) (build_Build_i35 n) (build_Build_i41 n) (build_Build_i46 n) x0 x1 x2 x3 x4 x5 x6 x7 x8 x9 x10 x11 x12 x13 x14 x15 x16 x17 x18 x19 x20 x21 x22 x23 x24 x25 x26 x27 x28 x29 x30 x31 x32 x33 x34 x35 x36
def build_Build_i46 : Nat → Int → List X3 → List (Int × Unit) → Bool → List X3 → Int → Int → Int → Bool → Int → List (Int × Int × Unit) → List X3 → List X2 → List (Int × List (Int × Int × Int × Int × Int × Int × Int × Int × Int × Int × Unit) × Unit) → List X3 → Int → Int → Option X1
 | 0, _, _, _, _, _, _, _, _, _, _, _, _, _, _, _, _, _ => none
 | n + 1, x0, x1, x2, x3, x4, x5, x6, x7, x8, x9, x10, x11, x12, x13, x14, x15, x16 => build_Build_c46 (build_Build_i9 n) (build_Build_i11 n) (build_Build_i33 n) (build_Build_i35 n) (build_Build_i41 n) (build_Build_i46 n) x0 x1 x2 x3 x4 x5 x6 x7 x8 x9 x10 x11 x12 x13 x14 x15 x16
end
def build_Build (a0 : Int × List X3 × List (Int × Unit) × Bool × List X3 × Int × Int × Int × Bool × Int × Unit) (a1 : List X4) (a2 a3 : Int) : Option X1 := build_Build_c (build_Build_i9 fuel) (build_Build_i11 fuel) (build_Build_i33 fuel) (build_Build_i35 fuel) (build_Build_i41 fuel) (build_Build_i46 fuel) a0 a1 a2 a3
def law36_BuildMakes (a0 : Int × List X3 × List (Int × Unit) × Bool × List X3 × Int × Int × Int × Bool × Int × Unit) (a1 : List X4) (a2 a3 : Int) : Option (Bool × Unit) :=
 match ref36_Great a0 a1 with
  | none => none
  | some e0 =>
   bif e0.1 then
    some ((true, ()))
   else
    match build_Build a0 a1 a2 a3 with
     | none => none
     | some e1 =>
      match ref36_Build a0 a1 a2 a3 with
       | none => none
       | some e2 =>
        match ref36_Same e1.1 e2.1 with
         | none => none
         | some e3 =>
          bif e3.1 then
           some ((e1.2.1 == e2.2.1, ()))
          else
           some ((false, ()))
end Tg
