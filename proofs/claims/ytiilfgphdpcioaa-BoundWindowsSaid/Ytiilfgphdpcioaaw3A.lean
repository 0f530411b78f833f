import Derived.Test.YtiilfgphdpcioaaAbsB6
import Derived.Test.YtiilfgphdpcioaaHandA
/- The functions of the code, as plain functions: printed from the code. -/
set_option linter.unusedVariables false
namespace Tg
open Go.Abs (fuel bigOk cloned tmm dropD CT)
/- tailwater/tailwaterref04.Great -/
def ref04_Great (a0 : List (Int × Int × Int × Int × Int × Unit)) : Option (Bool × Unit) :=
  some ((decide (Int.ofNat (List.length a0) > (70 : Int)), ()))
/- tailwater/tailwaterref08.Great -/
def ref08_Great (a0 : Int × List (Int × Int × Int × Int × Int × Unit) × List (Int × Unit) × Bool × List (Int × Int × Int × Int × Int × Unit) × Int × Int × Int × Bool × Int × Unit) : Option (Bool × Unit) :=
  bif decide (Int.ofNat (List.length a0.2.1) > (70 : Int)) then
    some ((true, ()))
  else
    bif decide (Int.ofNat (List.length a0.2.2.2.2.1) > (70 : Int)) then
      some ((true, ()))
    else
      some ((decide (Int.ofNat (List.length a0.2.2.1) > (10 : Int)), ()))
/- tailwater/nodes.Parts -/
def nodes_Parts (a0 : Int) : Option (Int × Int × Unit) :=
  bif decide (a0 ≥ (1 : Int)) then
    bif decide (a0 ≤ (4 : Int)) then
      some (((0 : Int), (0 : Int), ()))
    else
      bif a0 == (5 : Int) then
        some (((1 : Int), (0 : Int), ()))
      else
        bif a0 == (6 : Int) then
          some (((1 : Int), (0 : Int), ()))
        else
          bif decide (a0 ≥ (7 : Int)) then
            bif decide (a0 ≤ (19 : Int)) then
              some (((2 : Int), (0 : Int), ()))
            else
              some (((0 : Int), (2 : Int), ()))
          else
            some (((0 : Int), (2 : Int), ()))
  else
    bif a0 == (5 : Int) then
      some (((1 : Int), (0 : Int), ()))
    else
      bif a0 == (6 : Int) then
        some (((1 : Int), (0 : Int), ()))
      else
        bif decide (a0 ≥ (7 : Int)) then
          bif decide (a0 ≤ (19 : Int)) then
            some (((2 : Int), (0 : Int), ()))
          else
            some (((0 : Int), (2 : Int), ()))
        else
          some (((0 : Int), (2 : Int), ()))
/- tailwater/nodes.tops -/
def nodes_tops_c (J4 : List (Int × Int × Int × Unit) → List (Int × Int × Int × Unit) → List (Int × Int × Int × Int × Int × Unit) → Int → Int → Option (List (Int × Int × Int × Unit) × Bool × Unit)) (J21 : List (Int × Int × Int × Unit) → List (Int × Int × Int × Unit) → Int → Int → Int → Int → Int → Int → Int → Int → Int → Int → Int → Int → Int → Int → List (Int × Int × Int × Int × Int × Unit) → Int → Int → Option (List (Int × Int × Int × Unit) × Bool × Unit)) (J23 : List (Int × Int × Int × Unit) → List (Int × Int × Int × Unit) → Int → Int → Int → Int → Int → Int → Int → Int → Int → Int → Int → Int → Int → Int → List (Int × Int × Int × Int × Int × Unit) → Int → Int → Int → Int → Int → Int → Option (List (Int × Int × Int × Unit) × Bool × Unit)) (J28 : List (Int × Int × Int × Unit) → List (Int × Int × Int × Unit) → Int → Int → Int → Int → Int → Int → Int → Int → Int → Int → Int → Int → Int → Int → Int → Int → List (Int × Int × Int × Int × Int × Unit) → Int → Int → Int → Int → Int → Int → Option (List (Int × Int × Int × Unit) × Bool × Unit)) (J31 : List (Int × Int × Int × Unit) → List (Int × Int × Int × Unit) → Int → Int → Int → Int → Int → Int → Int → Int → Int → Int → Int → Int → Int → Int → List (Int × Int × Int × Int × Int × Unit) → Int → Int → Option (List (Int × Int × Int × Unit) × Bool × Unit)) (a0 : List (Int × Int × Int × Int × Int × Unit)) : Option (List (Int × Int × Int × Unit) × Bool × Unit) :=
  J4 ([]) ([]) (a0) (Int.ofNat (List.length a0)) ((0 : Int))
def nodes_tops_c4 (J4 : List (Int × Int × Int × Unit) → List (Int × Int × Int × Unit) → List (Int × Int × Int × Int × Int × Unit) → Int → Int → Option (List (Int × Int × Int × Unit) × Bool × Unit)) (J21 : List (Int × Int × Int × Unit) → List (Int × Int × Int × Unit) → Int → Int → Int → Int → Int → Int → Int → Int → Int → Int → Int → Int → Int → Int → List (Int × Int × Int × Int × Int × Unit) → Int → Int → Option (List (Int × Int × Int × Unit) × Bool × Unit)) (J23 : List (Int × Int × Int × Unit) → List (Int × Int × Int × Unit) → Int → Int → Int → Int → Int → Int → Int → Int → Int → Int → Int → Int → Int → Int → List (Int × Int × Int × Int × Int × Unit) → Int → Int → Int → Int → Int → Int → Option (List (Int × Int × Int × Unit) × Bool × Unit)) (J28 : List (Int × Int × Int × Unit) → List (Int × Int × Int × Unit) → Int → Int → Int → Int → Int → Int → Int → Int → Int → Int → Int → Int → Int → Int → Int → Int → List (Int × Int × Int × Int × Int × Unit) → Int → Int → Int → Int → Int → Int → Option (List (Int × Int × Int × Unit) × Bool × Unit)) (J31 : List (Int × Int × Int × Unit) → List (Int × Int × Int × Unit) → Int → Int → Int → Int → Int → Int → Int → Int → Int → Int → Int → Int → Int → Int → List (Int × Int × Int × Int × Int × Unit) → Int → Int → Option (List (Int × Int × Int × Unit) × Bool × Unit)) (x0 : List (Int × Int × Int × Unit)) (x1 : List (Int × Int × Int × Unit)) (x2 : List (Int × Int × Int × Int × Int × Unit)) (x3 : Int) (x4 : Int) : Option (List (Int × Int × Int × Unit) × Bool × Unit) :=
  bif decide (x4 < x3) then
    bif decide ((0 : Int) ≤ x4) then
      match x2[Int.toNat x4]? with
        | none =>
          none
        | some e0 =>
          match nodes_Parts e0.1 with
            | none =>
              none
            | some e1 =>
              bif e1.2.1 != (0 : Int) then
                some ((x0, false, ()))
              else
                bif decide (e1.1 > Int.ofNat (List.length x1)) then
                  some ((x0, false, ()))
                else
                  bif decide ((0 : Int) ≤ Go.IntKind.wrap Go.IntKind.i64 (Int.ofNat (List.length x1) - e1.1)) then
                    bif decide ((0 : Nat) ≤ Int.toNat (Go.IntKind.wrap Go.IntKind.i64 (Int.ofNat (List.length x1) - e1.1))) && decide (Int.toNat (Go.IntKind.wrap Go.IntKind.i64 (Int.ofNat (List.length x1) - e1.1)) ≤ List.length x1) then
                      bif decide ((0 : Int) ≤ Go.IntKind.wrap Go.IntKind.i64 (Int.ofNat (List.length x1) - e1.1)) then
                        bif decide (Int.toNat (Go.IntKind.wrap Go.IntKind.i64 (Int.ofNat (List.length x1) - e1.1)) ≤ List.length x1) then
                          bif decide (Int.toNat (Go.IntKind.wrap Go.IntKind.i64 (Int.ofNat (List.length x1) - e1.1)) = List.length x1) then
                            J23 (x0) (x1) (Int.ofNat (Int.toNat (Go.IntKind.wrap Go.IntKind.i64 (Int.ofNat (List.length x1) - e1.1)))) (e0.1) (e0.2.1) (e0.2.2.1) (e0.2.2.2.1) (e0.2.2.2.2.1) (e0.1) ((0 : Int)) ((0 : Int)) ((0 : Int)) (tmm false (tmm true e0.2.2.2.2.1 (0 : Int)) (400 : Int)) (x4) ((1 : Int)) ((1 : Int)) (x2) (x3) (x4) ((1 : Int)) ((0 : Int)) ((0 : Int)) ((0 : Int))
                          else
                            J23 (x0) (x1) (Int.ofNat (Int.toNat (Go.IntKind.wrap Go.IntKind.i64 (Int.ofNat (List.length x1) - e1.1)))) (e0.1) (e0.2.1) (e0.2.2.1) (e0.2.2.2.1) (e0.2.2.2.2.1) (e0.1) ((0 : Int)) ((0 : Int)) ((0 : Int)) (tmm false (tmm true e0.2.2.2.2.1 (0 : Int)) (400 : Int)) (x4) ((1 : Int)) ((1 : Int)) (x2) (x3) (x4) (Int.ofNat (Int.toNat (Go.IntKind.wrap Go.IntKind.i64 (Int.ofNat (List.length x1) - e1.1)))) (Int.ofNat (List.length x1 - Int.toNat (Go.IntKind.wrap Go.IntKind.i64 (Int.ofNat (List.length x1) - e1.1)))) (Int.ofNat (List.length x1 - Int.toNat (Go.IntKind.wrap Go.IntKind.i64 (Int.ofNat (List.length x1) - e1.1)))) ((0 : Int))
                        else
                          none
                      else
                        none
                    else
                      none
                  else
                    none
    else
      none
  else
    some ((x0, Int.ofNat (List.length x1) == (1 : Int), ()))
def nodes_tops_c21 (J4 : List (Int × Int × Int × Unit) → List (Int × Int × Int × Unit) → List (Int × Int × Int × Int × Int × Unit) → Int → Int → Option (List (Int × Int × Int × Unit) × Bool × Unit)) (J21 : List (Int × Int × Int × Unit) → List (Int × Int × Int × Unit) → Int → Int → Int → Int → Int → Int → Int → Int → Int → Int → Int → Int → Int → Int → List (Int × Int × Int × Int × Int × Unit) → Int → Int → Option (List (Int × Int × Int × Unit) × Bool × Unit)) (J23 : List (Int × Int × Int × Unit) → List (Int × Int × Int × Unit) → Int → Int → Int → Int → Int → Int → Int → Int → Int → Int → Int → Int → Int → Int → List (Int × Int × Int × Int × Int × Unit) → Int → Int → Int → Int → Int → Int → Option (List (Int × Int × Int × Unit) × Bool × Unit)) (J28 : List (Int × Int × Int × Unit) → List (Int × Int × Int × Unit) → Int → Int → Int → Int → Int → Int → Int → Int → Int → Int → Int → Int → Int → Int → Int → Int → List (Int × Int × Int × Int × Int × Unit) → Int → Int → Int → Int → Int → Int → Option (List (Int × Int × Int × Unit) × Bool × Unit)) (J31 : List (Int × Int × Int × Unit) → List (Int × Int × Int × Unit) → Int → Int → Int → Int → Int → Int → Int → Int → Int → Int → Int → Int → Int → Int → List (Int × Int × Int × Int × Int × Unit) → Int → Int → Option (List (Int × Int × Int × Unit) × Bool × Unit)) (x0 : List (Int × Int × Int × Unit)) (x1 : List (Int × Int × Int × Unit)) (x2 : Int) (x3 : Int) (x4 : Int) (x5 : Int) (x6 : Int) (x7 : Int) (x8 : Int) (x9 : Int) (x10 : Int) (x11 : Int) (x12 : Int) (x13 : Int) (x14 : Int) (x15 : Int) (x16 : List (Int × Int × Int × Int × Int × Unit)) (x17 : Int) (x18 : Int) : Option (List (Int × Int × Int × Unit) × Bool × Unit) :=
  bif x3 == (1 : Int) then
    J31 (x0) (x1) (Int.ofNat (Int.toNat x2)) (x3) (x4) (x5) (x6) (x7) (x8) (tmm true x4 (0 : Int)) (x10) (x11) (x12) (x13) (x14) (x15) (x16) (x17) (x18)
  else
    J31 (x0) (x1) (Int.ofNat (Int.toNat x2)) (x3) (x4) (x5) (x6) (x7) (x8) (x9) (x10) (x11) (x12) (x13) (x14) (x15) (x16) (x17) (x18)
def nodes_tops_c23 (J4 : List (Int × Int × Int × Unit) → List (Int × Int × Int × Unit) → List (Int × Int × Int × Int × Int × Unit) → Int → Int → Option (List (Int × Int × Int × Unit) × Bool × Unit)) (J21 : List (Int × Int × Int × Unit) → List (Int × Int × Int × Unit) → Int → Int → Int → Int → Int → Int → Int → Int → Int → Int → Int → Int → Int → Int → List (Int × Int × Int × Int × Int × Unit) → Int → Int → Option (List (Int × Int × Int × Unit) × Bool × Unit)) (J23 : List (Int × Int × Int × Unit) → List (Int × Int × Int × Unit) → Int → Int → Int → Int → Int → Int → Int → Int → Int → Int → Int → Int → Int → Int → List (Int × Int × Int × Int × Int × Unit) → Int → Int → Int → Int → Int → Int → Option (List (Int × Int × Int × Unit) × Bool × Unit)) (J28 : List (Int × Int × Int × Unit) → List (Int × Int × Int × Unit) → Int → Int → Int → Int → Int → Int → Int → Int → Int → Int → Int → Int → Int → Int → Int → Int → List (Int × Int × Int × Int × Int × Unit) → Int → Int → Int → Int → Int → Int → Option (List (Int × Int × Int × Unit) × Bool × Unit)) (J31 : List (Int × Int × Int × Unit) → List (Int × Int × Int × Unit) → Int → Int → Int → Int → Int → Int → Int → Int → Int → Int → Int → Int → Int → Int → List (Int × Int × Int × Int × Int × Unit) → Int → Int → Option (List (Int × Int × Int × Unit) × Bool × Unit)) (x0 : List (Int × Int × Int × Unit)) (x1 : List (Int × Int × Int × Unit)) (x2 : Int) (x3 : Int) (x4 : Int) (x5 : Int) (x6 : Int) (x7 : Int) (x8 : Int) (x9 : Int) (x10 : Int) (x11 : Int) (x12 : Int) (x13 : Int) (x14 : Int) (x15 : Int) (x16 : List (Int × Int × Int × Int × Int × Unit)) (x17 : Int) (x18 : Int) (x19 : Int) (x20 : Int) (x21 : Int) (x22 : Int) : Option (List (Int × Int × Int × Unit) × Bool × Unit) :=
  bif decide (x22 < x21) then
    bif decide ((0 : Int) ≤ x22) then
      bif decide (Int.toNat x22 < Int.toNat x20) then
        match x1[Int.toNat x19 + Int.toNat x22]? with
          | none =>
            none
          | some e0 =>
            bif x22 == (0 : Int) then
              J28 (x0) (x1) (Int.ofNat (Int.toNat x2)) (x3) (x4) (x5) (x6) (x7) (x8) (x9) (e0.1) (x11) (x12) (x13) (x14) (x15) (e0.2.1) (e0.2.2.1) (x16) (x17) (x18) (Int.ofNat (Int.toNat x19)) (Int.ofNat (Int.toNat x20)) (x21) (x22)
            else
              J28 (x0) (x1) (Int.ofNat (Int.toNat x2)) (x3) (x4) (x5) (x6) (x7) (x8) (x9) (x10) (e0.1) (x12) (x13) (x14) (x15) (e0.2.1) (e0.2.2.1) (x16) (x17) (x18) (Int.ofNat (Int.toNat x19)) (Int.ofNat (Int.toNat x20)) (x21) (x22)
      else
        none
    else
      none
  else
    J21 (x0) (x1) (Int.ofNat (Int.toNat x2)) (x3) (x4) (x5) (x6) (x7) (x8) (x9) (x10) (x11) (x12) (x13) (x14) (x15) (x16) (x17) (x18)
def nodes_tops_c28 (J4 : List (Int × Int × Int × Unit) → List (Int × Int × Int × Unit) → List (Int × Int × Int × Int × Int × Unit) → Int → Int → Option (List (Int × Int × Int × Unit) × Bool × Unit)) (J21 : List (Int × Int × Int × Unit) → List (Int × Int × Int × Unit) → Int → Int → Int → Int → Int → Int → Int → Int → Int → Int → Int → Int → Int → Int → List (Int × Int × Int × Int × Int × Unit) → Int → Int → Option (List (Int × Int × Int × Unit) × Bool × Unit)) (J23 : List (Int × Int × Int × Unit) → List (Int × Int × Int × Unit) → Int → Int → Int → Int → Int → Int → Int → Int → Int → Int → Int → Int → Int → Int → List (Int × Int × Int × Int × Int × Unit) → Int → Int → Int → Int → Int → Int → Option (List (Int × Int × Int × Unit) × Bool × Unit)) (J28 : List (Int × Int × Int × Unit) → List (Int × Int × Int × Unit) → Int → Int → Int → Int → Int → Int → Int → Int → Int → Int → Int → Int → Int → Int → Int → Int → List (Int × Int × Int × Int × Int × Unit) → Int → Int → Int → Int → Int → Int → Option (List (Int × Int × Int × Unit) × Bool × Unit)) (J31 : List (Int × Int × Int × Unit) → List (Int × Int × Int × Unit) → Int → Int → Int → Int → Int → Int → Int → Int → Int → Int → Int → Int → Int → Int → List (Int × Int × Int × Int × Int × Unit) → Int → Int → Option (List (Int × Int × Int × Unit) × Bool × Unit)) (x0 : List (Int × Int × Int × Unit)) (x1 : List (Int × Int × Int × Unit)) (x2 : Int) (x3 : Int) (x4 : Int) (x5 : Int) (x6 : Int) (x7 : Int) (x8 : Int) (x9 : Int) (x10 : Int) (x11 : Int) (x12 : Int) (x13 : Int) (x14 : Int) (x15 : Int) (x16 : Int) (x17 : Int) (x18 : List (Int × Int × Int × Int × Int × Unit)) (x19 : Int) (x20 : Int) (x21 : Int) (x22 : Int) (x23 : Int) (x24 : Int) : Option (List (Int × Int × Int × Unit) × Bool × Unit) :=
  J23 (x0) (x1) (Int.ofNat (Int.toNat x2)) (x3) (x4) (x5) (x6) (x7) (x8) (x9) (x10) (x11) (x12) (x13) (Go.IntKind.wrap Go.IntKind.i64 (x14 + x16)) (tmm true x15 (Go.IntKind.wrap Go.IntKind.i64 (x17 + (1 : Int)))) (x18) (x19) (x20) (Int.ofNat (Int.toNat x21)) (Int.ofNat (Int.toNat x22)) (x23) (Go.IntKind.wrap Go.IntKind.i64 (x24 + (1 : Int)))
def nodes_tops_c31 (J4 : List (Int × Int × Int × Unit) → List (Int × Int × Int × Unit) → List (Int × Int × Int × Int × Int × Unit) → Int → Int → Option (List (Int × Int × Int × Unit) × Bool × Unit)) (J21 : List (Int × Int × Int × Unit) → List (Int × Int × Int × Unit) → Int → Int → Int → Int → Int → Int → Int → Int → Int → Int → Int → Int → Int → Int → List (Int × Int × Int × Int × Int × Unit) → Int → Int → Option (List (Int × Int × Int × Unit) × Bool × Unit)) (J23 : List (Int × Int × Int × Unit) → List (Int × Int × Int × Unit) → Int → Int → Int → Int → Int → Int → Int → Int → Int → Int → Int → Int → Int → Int → List (Int × Int × Int × Int × Int × Unit) → Int → Int → Int → Int → Int → Int → Option (List (Int × Int × Int × Unit) × Bool × Unit)) (J28 : List (Int × Int × Int × Unit) → List (Int × Int × Int × Unit) → Int → Int → Int → Int → Int → Int → Int → Int → Int → Int → Int → Int → Int → Int → Int → Int → List (Int × Int × Int × Int × Int × Unit) → Int → Int → Int → Int → Int → Int → Option (List (Int × Int × Int × Unit) × Bool × Unit)) (J31 : List (Int × Int × Int × Unit) → List (Int × Int × Int × Unit) → Int → Int → Int → Int → Int → Int → Int → Int → Int → Int → Int → Int → Int → Int → List (Int × Int × Int × Int × Int × Unit) → Int → Int → Option (List (Int × Int × Int × Unit) × Bool × Unit)) (x0 : List (Int × Int × Int × Unit)) (x1 : List (Int × Int × Int × Unit)) (x2 : Int) (x3 : Int) (x4 : Int) (x5 : Int) (x6 : Int) (x7 : Int) (x8 : Int) (x9 : Int) (x10 : Int) (x11 : Int) (x12 : Int) (x13 : Int) (x14 : Int) (x15 : Int) (x16 : List (Int × Int × Int × Int × Int × Unit)) (x17 : Int) (x18 : Int) : Option (List (Int × Int × Int × Unit) × Bool × Unit) :=
  bif !(x8 == x3 && (x9 == x4 && (x10 == x5 && (x11 == x6 && (x12 == x7 && true))))) then
    some ((x0, false, ()))
  else
    bif decide (Int.toNat x2 ≤ List.length x1) && bigOk (Int.toNat x2 + List.length [(x13, x14, x15, ())]) (24 : Nat) then
      bif bigOk (List.length x0 + List.length [(x13, x14, x15, ())]) (24 : Nat) then
        J4 (x0 ++ [(x13, x14, x15, ())]) (List.take (Int.toNat x2) x1 ++ [(x13, x14, x15, ())]) (x16) (x17) (Go.IntKind.wrap Go.IntKind.i64 (x18 + (1 : Int)))
      else
        none
    else
      none
mutual
def nodes_tops_i4 : Nat → List (Int × Int × Int × Unit) → List (Int × Int × Int × Unit) → List (Int × Int × Int × Int × Int × Unit) → Int → Int → Option (List (Int × Int × Int × Unit) × Bool × Unit)
  | 0, _, _, _, _, _ => none
  | n + 1, x0, x1, x2, x3, x4 => nodes_tops_c4 (nodes_tops_i4 n) (nodes_tops_i21 n) (nodes_tops_i23 n) (nodes_tops_i28 n) (nodes_tops_i31 n) x0 x1 x2 x3 x4
def nodes_tops_i21 : Nat → List (Int × Int × Int × Unit) → List (Int × Int × Int × Unit) → Int → Int → Int → Int → Int → Int → Int → Int → Int → Int → Int → Int → Int → Int → List (Int × Int × Int × Int × Int × Unit) → Int → Int → Option (List (Int × Int × Int × Unit) × Bool × Unit)
  | 0, _, _, _, _, _, _, _, _, _, _, _, _, _, _, _, _, _, _, _ => none
  | n + 1, x0, x1, x2, x3, x4, x5, x6, x7, x8, x9, x10, x11, x12, x13, x14, x15, x16, x17, x18 => nodes_tops_c21 (nodes_tops_i4 n) (nodes_tops_i21 n) (nodes_tops_i23 n) (nodes_tops_i28 n) (nodes_tops_i31 n) x0 x1 x2 x3 x4 x5 x6 x7 x8 x9 x10 x11 x12 x13 x14 x15 x16 x17 x18
def nodes_tops_i23 : Nat → List (Int × Int × Int × Unit) → List (Int × Int × Int × Unit) → Int → Int → Int → Int → Int → Int → Int → Int → Int → Int → Int → Int → Int → Int → List (Int × Int × Int × Int × Int × Unit) → Int → Int → Int → Int → Int → Int → Option (List (Int × Int × Int × Unit) × Bool × Unit)
  | 0, _, _, _, _, _, _, _, _, _, _, _, _, _, _, _, _, _, _, _, _, _, _, _ => none
  | n + 1, x0, x1, x2, x3, x4, x5, x6, x7, x8, x9, x10, x11, x12, x13, x14, x15, x16, x17, x18, x19, x20, x21, x22 => nodes_tops_c23 (nodes_tops_i4 n) (nodes_tops_i21 n) (nodes_tops_i23 n) (nodes_tops_i28 n) (nodes_tops_i31 n) x0 x1 x2 x3 x4 x5 x6 x7 x8 x9 x10 x11 x12 x13 x14 x15 x16 x17 x18 x19 x20 x21 x22
def nodes_tops_i28 : Nat → List (Int × Int × Int × Unit) → List (Int × Int × Int × Unit) → Int → Int → Int → Int → Int → Int → Int → Int → Int → Int → Int → Int → Int → Int → Int → Int → List (Int × Int × Int × Int × Int × Unit) → Int → Int → Int → Int → Int → Int → Option (List (Int × Int × Int × Unit) × Bool × Unit)
  | 0, _, _, _, _, _, _, _, _, _, _, _, _, _, _, _, _, _, _, _, _, _, _, _, _, _ => none
  | n + 1, x0, x1, x2, x3, x4, x5, x6, x7, x8, x9, x10, x11, x12, x13, x14, x15, x16, x17, x18, x19, x20, x21, x22, x23, x24 => nodes_tops_c28 (nodes_tops_i4 n) (nodes_tops_i21 n) (nodes_tops_i23 n) (nodes_tops_i28 n) (nodes_tops_i31 n) x0 x1 x2 x3 x4 x5 x6 x7 x8 x9 x10 x11 x12 x13 x14 x15 x16 x17 x18 x19 x20 x21 x22 x23 x24
def nodes_tops_i31 : Nat → List (Int × Int × Int × Unit) → List (Int × Int × Int × Unit) → Int → Int → Int → Int → Int → Int → Int → Int → Int → Int → Int → Int → Int → Int → List (Int × Int × Int × Int × Int × Unit) → Int → Int → Option (List (Int × Int × Int × Unit) × Bool × Unit)
  | 0, _, _, _, _, _, _, _, _, _, _, _, _, _, _, _, _, _, _, _ => none
  | n + 1, x0, x1, x2, x3, x4, x5, x6, x7, x8, x9, x10, x11, x12, x13, x14, x15, x16, x17, x18 => nodes_tops_c31 (nodes_tops_i4 n) (nodes_tops_i21 n) (nodes_tops_i23 n) (nodes_tops_i28 n) (nodes_tops_i31 n) x0 x1 x2 x3 x4 x5 x6 x7 x8 x9 x10 x11 x12 x13 x14 x15 x16 x17 x18
end
def nodes_tops (a0 : List (Int × Int × Int × Int × Int × Unit)) : Option (List (Int × Int × Int × Unit) × Bool × Unit) := nodes_tops_c (nodes_tops_i4 fuel) (nodes_tops_i21 fuel) (nodes_tops_i23 fuel) (nodes_tops_i28 fuel) (nodes_tops_i31 fuel) a0
-- ways that fail: 21 in [31, 23, 4]
/- tailwater/nodes.check -/
def nodes_check (a0 : List (Int × Int × Int × Int × Int × Unit)) : Option (List (Int × Int × Int × Unit) × Int × Unit) :=
  bif decide (Int.ofNat (List.length a0) > (60 : Int)) then
    some (([], (4 : Int), ()))
  else
    match nodes_tops a0 with
      | none =>
        none
      | some e0 =>
        bif !e0.2.1 then
          some (([], (8 : Int), ()))
        else
          bif decide ((0 : Int) ≤ Go.IntKind.wrap Go.IntKind.i64 (Int.ofNat (List.length e0.1) - (1 : Int))) then
            match e0.1[Int.toNat (Go.IntKind.wrap Go.IntKind.i64 (Int.ofNat (List.length e0.1) - (1 : Int)))]? with
              | none =>
                none
              | some e1 =>
                bif decide (e1.2.2.1 > (20 : Int)) then
                  some (([], (34 : Int), ()))
                else
                  some ((e0.1, (0 : Int), ()))
          else
            none
-- ways that fail: 3 in [start]
/- tailwater/nodes.Check -/
def nodes_Check (a0 : List (Int × Int × Int × Int × Int × Unit)) : Option (Int × Unit) :=
  match nodes_check a0 with
    | none =>
      none
    | some e0 =>
      some ((e0.2.1, ()))
-- ways that fail: 1 in [start]
/- tailwater/clauses.Sources -/
def clauses_Sources_c (J14 : List (Int × Unit) → Int → Int → List (Int × Unit) → Bool → Option (Int × Unit)) (a0 : List (Int × Unit)) (a1 : Bool) : Option (Int × Unit) :=
  bif decide (Int.ofNat (List.length a0) > (4 : Int)) then
    some (((4 : Int), ()))
  else
    bif Int.ofNat (List.length a0) == (0 : Int) then
      some (((8 : Int), ()))
    else
      bif a1 then
        bif Int.ofNat (List.length a0) != (2 : Int) then
          some (((8 : Int), ()))
        else
          J14 (a0) (Int.ofNat (List.length a0)) ((0 : Int)) (a0) (false)
      else
        J14 (a0) (Int.ofNat (List.length a0)) ((0 : Int)) (a0) (false)
def clauses_Sources_c14 (J14 : List (Int × Unit) → Int → Int → List (Int × Unit) → Bool → Option (Int × Unit)) (x0 : List (Int × Unit)) (x1 : Int) (x2 : Int) (x3 : List (Int × Unit)) (x4 : Bool) : Option (Int × Unit) :=
  bif decide (x2 < x1) then
    bif decide ((0 : Int) ≤ x2) then
      match x0[Int.toNat x2]? with
        | none =>
          none
        | some e0 =>
          bif decide (e0.1 < (0 : Int)) then
            bif x4 then
              some (((8 : Int), ()))
            else
              bif decide (x2 ≥ (0 : Int)) then
                some (((8 : Int), ()))
              else
                match clauses_distinct_int_ x3 with
                  | none =>
                    none
                  | some e1 =>
                    bif decide (e1.1 < Int.ofNat (List.length x3)) then
                      some (((43 : Int), ()))
                    else
                      some (((0 : Int), ()))
          else
            bif decide (e0.1 ≥ (4 : Int)) then
              bif x4 then
                some (((8 : Int), ()))
              else
                bif decide (x2 ≥ (0 : Int)) then
                  some (((8 : Int), ()))
                else
                  match clauses_distinct_int_ x3 with
                    | none =>
                      none
                    | some e1 =>
                      bif decide (e1.1 < Int.ofNat (List.length x3)) then
                        some (((43 : Int), ()))
                      else
                        some (((0 : Int), ()))
            else
              J14 (x0) (x1) (Go.IntKind.wrap Go.IntKind.i64 (x2 + (1 : Int))) (x3) (x4)
    else
      none
  else
    bif x4 then
      some (((8 : Int), ()))
    else
      match clauses_distinct_int_ x3 with
        | none =>
          none
        | some e0 =>
          bif decide (e0.1 < Int.ofNat (List.length x3)) then
            some (((43 : Int), ()))
          else
            some (((0 : Int), ()))
mutual
def clauses_Sources_i14 : Nat → List (Int × Unit) → Int → Int → List (Int × Unit) → Bool → Option (Int × Unit)
  | 0, _, _, _, _, _ => none
  | n + 1, x0, x1, x2, x3, x4 => clauses_Sources_c14 (clauses_Sources_i14 n) x0 x1 x2 x3 x4
end
def clauses_Sources (a0 : List (Int × Unit)) (a1 : Bool) : Option (Int × Unit) := clauses_Sources_c (clauses_Sources_i14 fuel) a0 a1
-- ways that fail: 5 in [14]
/- tailwater/clauses.Window -/
def clauses_Window (a0 : Int × Int × Int × Unit) : Option (Int × Unit) :=
  bif decide (a0.2.1 < (1 : Int)) then
    some (((8 : Int), ()))
  else
    bif decide (a0.2.1 > (1073741824 : Int)) then
      some (((8 : Int), ()))
    else
      bif a0.1 == (2 : Int) then
        bif decide (a0.2.2.1 ≥ (1 : Int)) then
          bif decide (a0.2.2.1 ≤ a0.2.1) then
            bif decide (a0.2.1 ≤ Go.IntKind.wrap Go.IntKind.i64 ((16 : Int) * a0.2.2.1)) then
              some (((0 : Int), ()))
            else
              some (((8 : Int), ()))
          else
            some (((8 : Int), ()))
        else
          some (((8 : Int), ()))
      else
        bif a0.1 == (1 : Int) then
          bif a0.2.2.1 == (0 : Int) then
            some (((0 : Int), ()))
          else
            some (((8 : Int), ()))
        else
          bif a0.1 == (3 : Int) then
            bif a0.2.2.1 == (0 : Int) then
              some (((0 : Int), ()))
            else
              some (((8 : Int), ()))
          else
            some (((8 : Int), ()))
/- tailwater/clauses.Check -/
def clauses_Check_c (J4 : List (Int × Unit) → Bool → List (Int × Int × Int × Int × Int × Unit) → Int → Int → Int → Option (Int × Unit)) (J12 : List (Int × Unit) → Bool → Int → Int → Int → Option (Int × Unit)) (a0 : Int × List (Int × Int × Int × Int × Int × Unit) × List (Int × Unit) × Bool × List (Int × Int × Int × Int × Int × Unit) × Int × Int × Int × Bool × Int × Unit) : Option (Int × Unit) :=
  bif decide (a0.1 < (1 : Int)) then
    some (((8 : Int), ()))
  else
    bif decide (a0.1 > (4 : Int)) then
      some (((8 : Int), ()))
    else
      bif a0.2.2.2.2.2.2.2.2.2.1 != (1 : Int) then
        bif a0.2.2.2.2.2.2.2.2.2.1 != (2 : Int) then
          some (((8 : Int), ()))
        else
          bif a0.1 != (1 : Int) then
            match nodes_Check a0.2.1 with
              | none =>
                none
              | some e0 =>
                bif e0.1 != (0 : Int) then
                  some ((e0.1, ()))
                else
                  J4 (a0.2.2.1) (a0.2.2.2.1) (a0.2.2.2.2.1) (a0.2.2.2.2.2.1) (a0.2.2.2.2.2.2.1) (a0.2.2.2.2.2.2.2.1)
          else
            bif decide (Int.ofNat (List.length a0.2.1) > (0 : Int)) then
              some (((8 : Int), ()))
            else
              J4 (a0.2.2.1) (a0.2.2.2.1) (a0.2.2.2.2.1) (a0.2.2.2.2.2.1) (a0.2.2.2.2.2.2.1) (a0.2.2.2.2.2.2.2.1)
      else
        bif a0.1 != (1 : Int) then
          match nodes_Check a0.2.1 with
            | none =>
              none
            | some e0 =>
              bif e0.1 != (0 : Int) then
                some ((e0.1, ()))
              else
                J4 (a0.2.2.1) (a0.2.2.2.1) (a0.2.2.2.2.1) (a0.2.2.2.2.2.1) (a0.2.2.2.2.2.2.1) (a0.2.2.2.2.2.2.2.1)
        else
          bif decide (Int.ofNat (List.length a0.2.1) > (0 : Int)) then
            some (((8 : Int), ()))
          else
            J4 (a0.2.2.1) (a0.2.2.2.1) (a0.2.2.2.2.1) (a0.2.2.2.2.2.1) (a0.2.2.2.2.2.2.1) (a0.2.2.2.2.2.2.2.1)
def clauses_Check_c4 (J4 : List (Int × Unit) → Bool → List (Int × Int × Int × Int × Int × Unit) → Int → Int → Int → Option (Int × Unit)) (J12 : List (Int × Unit) → Bool → Int → Int → Int → Option (Int × Unit)) (x0 : List (Int × Unit)) (x1 : Bool) (x2 : List (Int × Int × Int × Int × Int × Unit)) (x3 : Int) (x4 : Int) (x5 : Int) : Option (Int × Unit) :=
  bif decide (Int.ofNat (List.length x2) > (0 : Int)) then
    match nodes_Check x2 with
      | none =>
        none
      | some e0 =>
        bif e0.1 != (0 : Int) then
          some ((e0.1, ()))
        else
          J12 (x0) (x1) (x3) (x4) (x5)
  else
    J12 (x0) (x1) (x3) (x4) (x5)
def clauses_Check_c12 (J4 : List (Int × Unit) → Bool → List (Int × Int × Int × Int × Int × Unit) → Int → Int → Int → Option (Int × Unit)) (J12 : List (Int × Unit) → Bool → Int → Int → Int → Option (Int × Unit)) (x0 : List (Int × Unit)) (x1 : Bool) (x2 : Int) (x3 : Int) (x4 : Int) : Option (Int × Unit) :=
  match clauses_Sources x0 x1 with
    | none =>
      none
    | some e0 =>
      bif e0.1 != (0 : Int) then
        some ((e0.1, ()))
      else
        bif x1 then
          bif x2 != (1 : Int) then
            some (((8 : Int), ()))
          else
            match clauses_Window (x2, x3, x4, ()) with
              | none =>
                none
              | some e1 =>
                some ((e1.1, ()))
        else
          match clauses_Window (x2, x3, x4, ()) with
            | none =>
              none
            | some e1 =>
              some ((e1.1, ()))
mutual
def clauses_Check_i4 : Nat → List (Int × Unit) → Bool → List (Int × Int × Int × Int × Int × Unit) → Int → Int → Int → Option (Int × Unit)
  | 0, _, _, _, _, _, _ => none
  | n + 1, x0, x1, x2, x3, x4, x5 => clauses_Check_c4 (clauses_Check_i4 n) (clauses_Check_i12 n) x0 x1 x2 x3 x4 x5
def clauses_Check_i12 : Nat → List (Int × Unit) → Bool → Int → Int → Int → Option (Int × Unit)
  | 0, _, _, _, _, _ => none
  | n + 1, x0, x1, x2, x3, x4 => clauses_Check_c12 (clauses_Check_i4 n) (clauses_Check_i12 n) x0 x1 x2 x3 x4
end
def clauses_Check (a0 : Int × List (Int × Int × Int × Int × Int × Unit) × List (Int × Unit) × Bool × List (Int × Int × Int × Int × Int × Unit) × Int × Int × Int × Bool × Int × Unit) : Option (Int × Unit) := clauses_Check_c (clauses_Check_i4 fuel) (clauses_Check_i12 fuel) a0
-- ways that fail: 6 in [12, 4, start]
/- tailwater/kinds.told -/
def kinds_told_c (J6 : List (Int × Int × Int × Int × Int × Unit) → List (Bool × Unit) → List (Int × Int × Int × Int × Int × Unit) → Int → Int → Option (List (Bool × Unit) × Int × Unit)) (J14 : List (Int × Int × Int × Int × Int × Unit) → List (Bool × Unit) → Int → Bool → Bool → Bool → List (Int × Unit) → Int → List (Int × Int × Int × Int × Int × Unit) → Int → Int → Option (List (Bool × Unit) × Int × Unit)) (J28 : Bool → List (Bool × Unit) → List (Int × Unit) → Int → Int → Int → List (Int × Int × Int × Int × Int × Unit) → Int → Bool → Bool → Int → Int → List (Int × Int × Int × Int × Int × Unit) → Int → Int → Bool → Option (List (Bool × Unit) × Int × Unit)) (J40 : Bool → List (Bool × Unit) → List (Int × Unit) → Int → Int → List (Int × Int × Int × Int × Int × Unit) → Int → Bool → List (Int × Int × Int × Int × Int × Unit) → Int → Int → Bool → Bool → Option (List (Bool × Unit) × Int × Unit)) (a0 : List (Int × Int × Int × Int × Int × Unit)) : Option (List (Bool × Unit) × Int × Unit) :=
  J6 (a0) ([]) (a0) (Int.ofNat (List.length a0)) ((0 : Int))
def kinds_told_c6 (J6 : List (Int × Int × Int × Int × Int × Unit) → List (Bool × Unit) → List (Int × Int × Int × Int × Int × Unit) → Int → Int → Option (List (Bool × Unit) × Int × Unit)) (J14 : List (Int × Int × Int × Int × Int × Unit) → List (Bool × Unit) → Int → Bool → Bool → Bool → List (Int × Unit) → Int → List (Int × Int × Int × Int × Int × Unit) → Int → Int → Option (List (Bool × Unit) × Int × Unit)) (J28 : Bool → List (Bool × Unit) → List (Int × Unit) → Int → Int → Int → List (Int × Int × Int × Int × Int × Unit) → Int → Bool → Bool → Int → Int → List (Int × Int × Int × Int × Int × Unit) → Int → Int → Bool → Option (List (Bool × Unit) × Int × Unit)) (J40 : Bool → List (Bool × Unit) → List (Int × Unit) → Int → Int → List (Int × Int × Int × Int × Int × Unit) → Int → Bool → List (Int × Int × Int × Int × Int × Unit) → Int → Int → Bool → Bool → Option (List (Bool × Unit) × Int × Unit)) (x0 : List (Int × Int × Int × Int × Int × Unit)) (x1 : List (Bool × Unit)) (x2 : List (Int × Int × Int × Int × Int × Unit)) (x3 : Int) (x4 : Int) : Option (List (Bool × Unit) × Int × Unit) :=
  bif decide (x4 < x3) then
    bif decide ((0 : Int) ≤ x4) then
      match x2[Int.toNat x4]? with
        | none =>
          none
        | some e0 =>
          bif decide (e0.1 ≤ (4 : Int)) then
            bif bigOk (List.length x1 + (1 : Nat)) (1 : Nat) then
              J6 (x0) (x1 ++ [(false, ())]) (x2) (x3) (Go.IntKind.wrap Go.IntKind.i64 (x4 + (1 : Int)))
            else
              none
          else
            bif e0.1 == (5 : Int) then
              J14 (x0) (x1) (x4) (true) (false) (false) ([(e0.2.2.1, ()), (e0.2.2.2.1, ())]) ((1 : Int)) (x2) (x3) (x4)
            else
              bif e0.1 == (6 : Int) then
                J14 (x0) (x1) (x4) (false) (true) (true) ([(e0.2.2.1, ()), (e0.2.2.2.1, ())]) ((1 : Int)) (x2) (x3) (x4)
              else
                bif decide (e0.1 ≤ (11 : Int)) then
                  J14 (x0) (x1) (x4) (true) (false) (false) ([(e0.2.2.1, ()), (e0.2.2.2.1, ())]) (Int.ofNat (List.length [(e0.2.2.1, ()), (e0.2.2.2.1, ())])) (x2) (x3) (x4)
                else
                  bif decide (e0.1 ≤ (15 : Int)) then
                    J14 (x0) (x1) (x4) (true) (false) (true) ([(e0.2.2.1, ()), (e0.2.2.2.1, ())]) (Int.ofNat (List.length [(e0.2.2.1, ()), (e0.2.2.2.1, ())])) (x2) (x3) (x4)
                  else
                    bif decide (e0.1 ≤ (17 : Int)) then
                      J14 (x0) (x1) (x4) (true) (true) (true) ([(e0.2.2.1, ()), (e0.2.2.2.1, ())]) (Int.ofNat (List.length [(e0.2.2.1, ()), (e0.2.2.2.1, ())])) (x2) (x3) (x4)
                    else
                      J14 (x0) (x1) (x4) (false) (true) (true) ([(e0.2.2.1, ()), (e0.2.2.2.1, ())]) (Int.ofNat (List.length [(e0.2.2.1, ()), (e0.2.2.2.1, ())])) (x2) (x3) (x4)
    else
      none
  else
    some ((x1, Int.ofNat (List.length x0), ()))
def kinds_told_c14 (J6 : List (Int × Int × Int × Int × Int × Unit) → List (Bool × Unit) → List (Int × Int × Int × Int × Int × Unit) → Int → Int → Option (List (Bool × Unit) × Int × Unit)) (J14 : List (Int × Int × Int × Int × Int × Unit) → List (Bool × Unit) → Int → Bool → Bool → Bool → List (Int × Unit) → Int → List (Int × Int × Int × Int × Int × Unit) → Int → Int → Option (List (Bool × Unit) × Int × Unit)) (J28 : Bool → List (Bool × Unit) → List (Int × Unit) → Int → Int → Int → List (Int × Int × Int × Int × Int × Unit) → Int → Bool → Bool → Int → Int → List (Int × Int × Int × Int × Int × Unit) → Int → Int → Bool → Option (List (Bool × Unit) × Int × Unit)) (J40 : Bool → List (Bool × Unit) → List (Int × Unit) → Int → Int → List (Int × Int × Int × Int × Int × Unit) → Int → Bool → List (Int × Int × Int × Int × Int × Unit) → Int → Int → Bool → Bool → Option (List (Bool × Unit) × Int × Unit)) (x0 : List (Int × Int × Int × Int × Int × Unit)) (x1 : List (Bool × Unit)) (x2 : Int) (x3 : Bool) (x4 : Bool) (x5 : Bool) (x6 : List (Int × Unit)) (x7 : Int) (x8 : List (Int × Int × Int × Int × Int × Unit)) (x9 : Int) (x10 : Int) : Option (List (Bool × Unit) × Int × Unit) :=
  bif x3 then
    J28 (false) (x1) (x6) (Int.ofNat (Int.toNat x7)) (Int.ofNat (Int.toNat x7)) ((0 : Int)) (x0) (x2) (x4) (x5) ((0 : Int)) (Int.ofNat (Int.toNat x7)) (x8) (x9) (x10) (true)
  else
    bif x4 then
      J40 (true) (x1) (List.take (Int.toNat x7) (List.drop (0 : Nat) x6)) (Int.ofNat (Int.toNat x7)) ((0 : Int)) (x0) (x2) (x5) (x8) (x9) (x10) (true) (true)
    else
      some (([], x2, ()))
def kinds_told_c28 (J6 : List (Int × Int × Int × Int × Int × Unit) → List (Bool × Unit) → List (Int × Int × Int × Int × Int × Unit) → Int → Int → Option (List (Bool × Unit) × Int × Unit)) (J14 : List (Int × Int × Int × Int × Int × Unit) → List (Bool × Unit) → Int → Bool → Bool → Bool → List (Int × Unit) → Int → List (Int × Int × Int × Int × Int × Unit) → Int → Int → Option (List (Bool × Unit) × Int × Unit)) (J28 : Bool → List (Bool × Unit) → List (Int × Unit) → Int → Int → Int → List (Int × Int × Int × Int × Int × Unit) → Int → Bool → Bool → Int → Int → List (Int × Int × Int × Int × Int × Unit) → Int → Int → Bool → Option (List (Bool × Unit) × Int × Unit)) (J40 : Bool → List (Bool × Unit) → List (Int × Unit) → Int → Int → List (Int × Int × Int × Int × Int × Unit) → Int → Bool → List (Int × Int × Int × Int × Int × Unit) → Int → Int → Bool → Bool → Option (List (Bool × Unit) × Int × Unit)) (x0 : Bool) (x1 : List (Bool × Unit)) (x2 : List (Int × Unit)) (x3 : Int) (x4 : Int) (x5 : Int) (x6 : List (Int × Int × Int × Int × Int × Unit)) (x7 : Int) (x8 : Bool) (x9 : Bool) (x10 : Int) (x11 : Int) (x12 : List (Int × Int × Int × Int × Int × Unit)) (x13 : Int) (x14 : Int) (x15 : Bool) : Option (List (Bool × Unit) × Int × Unit) :=
  bif decide (x5 < x4) then
    bif decide ((0 : Int) ≤ x5) then
      bif decide (Int.toNat x5 < Int.toNat x3) then
        match x2[(0 : Nat) + Int.toNat x5]? with
          | none =>
            none
          | some e0 =>
            bif decide ((0 : Int) ≤ e0.1) then
              bif decide (Int.toNat e0.1 < List.length x1) then
                match x1[Int.toNat e0.1]? with
                  | none =>
                    none
                  | some e1 =>
                    bif !e1.1 == x0 then
                      bif x15 then
                        bif x8 then
                          J40 (true) (x1) (List.take (Int.toNat x11) (List.drop (Int.toNat x10) x2)) (Int.ofNat (Int.toNat x11)) ((0 : Int)) (x6) (x7) (x9) (x12) (x13) (x14) (true) (true)
                        else
                          some (([], x7, ()))
                      else
                        bif x8 then
                          J40 (true) (x1) (List.take (Int.toNat x11) (List.drop (Int.toNat x10) x2)) (Int.ofNat (Int.toNat x11)) ((0 : Int)) (x6) (x7) (x9) (x12) (x13) (x14) (true) (true)
                        else
                          some (([], x7, ()))
                    else
                      J28 (x0) (x1) (x2) (Int.ofNat (Int.toNat x3)) (x4) (Go.IntKind.wrap Go.IntKind.i64 (x5 + (1 : Int))) (x6) (x7) (x8) (x9) (Int.ofNat (Int.toNat x10)) (Int.ofNat (Int.toNat x11)) (x12) (x13) (x14) (x15)
              else
                none
            else
              none
      else
        none
    else
      none
  else
    bif x15 then
      bif bigOk (List.length x1 + List.length [(x9, ())]) (1 : Nat) then
        J6 (x6) (x1 ++ [(x9, ())]) (x12) (x13) (Go.IntKind.wrap Go.IntKind.i64 (x14 + (1 : Int)))
      else
        none
    else
      bif x8 then
        J40 (true) (x1) (List.take (Int.toNat x11) (List.drop (Int.toNat x10) x2)) (Int.ofNat (Int.toNat x11)) ((0 : Int)) (x6) (x7) (x9) (x12) (x13) (x14) (true) (true)
      else
        some (([], x7, ()))
def kinds_told_c40 (J6 : List (Int × Int × Int × Int × Int × Unit) → List (Bool × Unit) → List (Int × Int × Int × Int × Int × Unit) → Int → Int → Option (List (Bool × Unit) × Int × Unit)) (J14 : List (Int × Int × Int × Int × Int × Unit) → List (Bool × Unit) → Int → Bool → Bool → Bool → List (Int × Unit) → Int → List (Int × Int × Int × Int × Int × Unit) → Int → Int → Option (List (Bool × Unit) × Int × Unit)) (J28 : Bool → List (Bool × Unit) → List (Int × Unit) → Int → Int → Int → List (Int × Int × Int × Int × Int × Unit) → Int → Bool → Bool → Int → Int → List (Int × Int × Int × Int × Int × Unit) → Int → Int → Bool → Option (List (Bool × Unit) × Int × Unit)) (J40 : Bool → List (Bool × Unit) → List (Int × Unit) → Int → Int → List (Int × Int × Int × Int × Int × Unit) → Int → Bool → List (Int × Int × Int × Int × Int × Unit) → Int → Int → Bool → Bool → Option (List (Bool × Unit) × Int × Unit)) (x0 : Bool) (x1 : List (Bool × Unit)) (x2 : List (Int × Unit)) (x3 : Int) (x4 : Int) (x5 : List (Int × Int × Int × Int × Int × Unit)) (x6 : Int) (x7 : Bool) (x8 : List (Int × Int × Int × Int × Int × Unit)) (x9 : Int) (x10 : Int) (x11 : Bool) (x12 : Bool) : Option (List (Bool × Unit) × Int × Unit) :=
  bif decide (x4 < x3) then
    bif decide ((0 : Int) ≤ x4) then
      match x2[Int.toNat x4]? with
        | none =>
          none
        | some e0 =>
          bif decide ((0 : Int) ≤ e0.1) then
            bif decide (Int.toNat e0.1 < List.length x1) then
              match x1[Int.toNat e0.1]? with
                | none =>
                  none
                | some e1 =>
                  bif !e1.1 == x0 then
                    bif x11 then
                      bif x12 then
                        some (([], x6, ()))
                      else
                        some (([], x6, ()))
                    else
                      bif bigOk (List.length x1 + List.length [(x7, ())]) (1 : Nat) then
                        J6 (x5) (x1 ++ [(x7, ())]) (x8) (x9) (Go.IntKind.wrap Go.IntKind.i64 (x10 + (1 : Int)))
                      else
                        none
                  else
                    J40 (x0) (x1) (x2) (x3) (Go.IntKind.wrap Go.IntKind.i64 (x4 + (1 : Int))) (x5) (x6) (x7) (x8) (x9) (x10) (x11) (x12)
            else
              none
          else
            none
    else
      none
  else
    bif x11 then
      bif x12 then
        bif bigOk (List.length x1 + List.length [(x7, ())]) (1 : Nat) then
          J6 (x5) (x1 ++ [(x7, ())]) (x8) (x9) (Go.IntKind.wrap Go.IntKind.i64 (x10 + (1 : Int)))
        else
          none
      else
        some (([], x6, ()))
    else
      bif bigOk (List.length x1 + List.length [(x7, ())]) (1 : Nat) then
        J6 (x5) (x1 ++ [(x7, ())]) (x8) (x9) (Go.IntKind.wrap Go.IntKind.i64 (x10 + (1 : Int)))
      else
        none
mutual
def kinds_told_i6 : Nat → List (Int × Int × Int × Int × Int × Unit) → List (Bool × Unit) → List (Int × Int × Int × Int × Int × Unit) → Int → Int → Option (List (Bool × Unit) × Int × Unit)
  | 0, _, _, _, _, _ => none
  | n + 1, x0, x1, x2, x3, x4 => kinds_told_c6 (kinds_told_i6 n) (kinds_told_i14 n) (kinds_told_i28 n) (kinds_told_i40 n) x0 x1 x2 x3 x4
def kinds_told_i14 : Nat → List (Int × Int × Int × Int × Int × Unit) → List (Bool × Unit) → Int → Bool → Bool → Bool → List (Int × Unit) → Int → List (Int × Int × Int × Int × Int × Unit) → Int → Int → Option (List (Bool × Unit) × Int × Unit)
  | 0, _, _, _, _, _, _, _, _, _, _, _ => none
  | n + 1, x0, x1, x2, x3, x4, x5, x6, x7, x8, x9, x10 => kinds_told_c14 (kinds_told_i6 n) (kinds_told_i14 n) (kinds_told_i28 n) (kinds_told_i40 n) x0 x1 x2 x3 x4 x5 x6 x7 x8 x9 x10
def kinds_told_i28 : Nat → Bool → List (Bool × Unit) → List (Int × Unit) → Int → Int → Int → List (Int × Int × Int × Int × Int × Unit) → Int → Bool → Bool → Int → Int → List (Int × Int × Int × Int × Int × Unit) → Int → Int → Bool → Option (List (Bool × Unit) × Int × Unit)
  | 0, _, _, _, _, _, _, _, _, _, _, _, _, _, _, _, _ => none
  | n + 1, x0, x1, x2, x3, x4, x5, x6, x7, x8, x9, x10, x11, x12, x13, x14, x15 => kinds_told_c28 (kinds_told_i6 n) (kinds_told_i14 n) (kinds_told_i28 n) (kinds_told_i40 n) x0 x1 x2 x3 x4 x5 x6 x7 x8 x9 x10 x11 x12 x13 x14 x15
def kinds_told_i40 : Nat → Bool → List (Bool × Unit) → List (Int × Unit) → Int → Int → List (Int × Int × Int × Int × Int × Unit) → Int → Bool → List (Int × Int × Int × Int × Int × Unit) → Int → Int → Bool → Bool → Option (List (Bool × Unit) × Int × Unit)
  | 0, _, _, _, _, _, _, _, _, _, _, _, _, _ => none
  | n + 1, x0, x1, x2, x3, x4, x5, x6, x7, x8, x9, x10, x11, x12 => kinds_told_c40 (kinds_told_i6 n) (kinds_told_i14 n) (kinds_told_i28 n) (kinds_told_i40 n) x0 x1 x2 x3 x4 x5 x6 x7 x8 x9 x10 x11 x12
end
def kinds_told (a0 : List (Int × Int × Int × Int × Int × Unit)) : Option (List (Bool × Unit) × Int × Unit) := kinds_told_c (kinds_told_i6 fuel) (kinds_told_i14 fuel) (kinds_told_i28 fuel) (kinds_told_i40 fuel) a0
-- ways that fail: 30 in [28, 40, 6]
/- tailwater/kinds.Of -/
def kinds_Of (a0 : List (Int × Int × Int × Int × Int × Unit)) : Option (Bool × Int × Int × Unit) :=
  match nodes_Check a0 with
    | none =>
      none
    | some e0 =>
      bif e0.1 != (0 : Int) then
        some ((false, (0 : Int), e0.1, ()))
      else
        match kinds_told a0 with
          | none =>
            none
          | some e1 =>
            bif decide (e1.2.1 < Int.ofNat (List.length a0)) then
              some ((false, e1.2.1, (42 : Int), ()))
            else
              bif decide ((0 : Int) ≤ Go.IntKind.wrap Go.IntKind.i64 (e1.2.1 - (1 : Int))) then
                match e1.1[Int.toNat (Go.IntKind.wrap Go.IntKind.i64 (e1.2.1 - (1 : Int)))]? with
                  | none =>
                    none
                  | some e2 =>
                    some ((e2.1, Go.IntKind.wrap Go.IntKind.i64 (e1.2.1 - (1 : Int)), (0 : Int), ()))
              else
                none
-- ways that fail: 4 in [start]
/- tailwater/kinds.want -/
def kinds_want (a0 : List (Int × Int × Int × Int × Int × Unit)) (a1 : Bool) : Option (Int × Int × Unit) :=
  match kinds_Of a0 with
    | none =>
      none
    | some e0 =>
      bif e0.2.2.1 == (0 : Int) then
        bif !e0.1 == a1 then
          some ((e0.2.1, (42 : Int), ()))
        else
          some (e0.2)
      else
        some (e0.2)
-- ways that fail: 1 in [start]
/- tailwater/kinds.Number -/
def kinds_Number (a0 : List (Int × Int × Int × Int × Int × Unit)) : Option (Int × Int × Unit) :=
  match kinds_want a0 false with
    | none =>
      none
    | some e0 =>
      some (e0)
-- ways that fail: 1 in [start]
/- tailwater/kinds.Truth -/
def kinds_Truth (a0 : List (Int × Int × Int × Int × Int × Unit)) : Option (Int × Int × Unit) :=
  match kinds_want a0 true with
    | none =>
      none
    | some e0 =>
      some (e0)
-- ways that fail: 1 in [start]
/- tailwater/checks.Check -/
def checks_Check (a0 : Int × List (Int × Int × Int × Int × Int × Unit) × List (Int × Unit) × Bool × List (Int × Int × Int × Int × Int × Unit) × Int × Int × Int × Bool × Int × Unit) : Option (Int × Int × Unit) :=
  match clauses_Check a0 with
    | none =>
      none
    | some e0 =>
      bif e0.1 != (0 : Int) then
        some (((0 : Int), e0.1, ()))
      else
        bif Int.ofNat (List.length a0.2.1) == (0 : Int) then
          bif Int.ofNat (List.length a0.2.2.2.2.1) == (0 : Int) then
            some (((0 : Int), (0 : Int), ()))
          else
            match kinds_Truth a0.2.2.2.2.1 with
              | none =>
                none
              | some e1 =>
                bif e1.2.1 != (0 : Int) then
                  bif decide ((0 : Int) ≤ e1.1) then
                    match a0.2.2.2.2.1[Int.toNat e1.1]? with
                      | none =>
                        none
                      | some e2 =>
                        some ((e2.2.2.2.2.1, e1.2.1, ()))
                  else
                    none
                else
                  some (((0 : Int), (0 : Int), ()))
        else
          match kinds_Number a0.2.1 with
            | none =>
              none
            | some e1 =>
              bif e1.2.1 != (0 : Int) then
                bif decide ((0 : Int) ≤ e1.1) then
                  match a0.2.1[Int.toNat e1.1]? with
                    | none =>
                      none
                    | some e2 =>
                      some ((e2.2.2.2.2.1, e1.2.1, ()))
                else
                  none
              else
                bif Int.ofNat (List.length a0.2.2.2.2.1) == (0 : Int) then
                  some (((0 : Int), (0 : Int), ()))
                else
                  match kinds_Truth a0.2.2.2.2.1 with
                    | none =>
                      none
                    | some e2 =>
                      bif e2.2.1 != (0 : Int) then
                        bif decide ((0 : Int) ≤ e2.1) then
                          match a0.2.2.2.2.1[Int.toNat e2.1]? with
                            | none =>
                              none
                            | some e3 =>
                              some ((e3.2.2.2.2.1, e2.2.1, ()))
                        else
                          none
                      else
                        some (((0 : Int), (0 : Int), ()))
-- ways that fail: 10 in [start]
/- tailwater/bound.windows -/
def bound_windows (a0 : Int × Int × Int × Unit) : Option (Int × Unit) :=
  bif a0.1 != (2 : Int) then
    some (((1 : Int), ()))
  else
    bif decide (a0.2.2.1 = (0 : Int)) then
      none
    else
      bif decide (a0.2.2.1 = (0 : Int)) then
        none
      else
        bif decide (Int.tmod a0.2.1 a0.2.2.1 > (0 : Int)) then
          some ((Go.IntKind.wrap Go.IntKind.i64 (Go.IntKind.wrap Go.IntKind.i64 (Int.tdiv a0.2.1 a0.2.2.1) + (1 : Int)), ()))
        else
          some ((Go.IntKind.wrap Go.IntKind.i64 (Int.tdiv a0.2.1 a0.2.2.1), ()))
-- ways that fail: 2 in [start]
/- tailwater/bound.Many -/
def bound_Many (a0 : Int × List (Int × Int × Int × Int × Int × Unit) × List (Int × Unit) × Bool × List (Int × Int × Int × Int × Int × Unit) × Int × Int × Int × Bool × Int × Unit) : Option (Int × Int × Unit) :=
  match checks_Check a0 with
    | none =>
      none
    | some e0 =>
      bif e0.2.1 != (0 : Int) then
        some (((0 : Int), e0.2.1, ()))
      else
        match bound_windows (a0.2.2.2.2.2.1, a0.2.2.2.2.2.2.1, a0.2.2.2.2.2.2.2.1, ()) with
          | none =>
            none
          | some e1 =>
            some ((e1.1, (0 : Int), ()))
-- ways that fail: 2 in [start]
/- tailwater/tailwaterref04.Count -/
def ref04_Count (a0 : Int) : Option (Int × Unit) :=
  bif decide (a0 ≤ (4 : Int)) then
    some (((0 : Int), ()))
  else
    bif decide (a0 ≤ (6 : Int)) then
      some (((1 : Int), ()))
    else
      some (((2 : Int), ()))
/- tailwater/tailwaterref04.right -/
def ref04_right (a0 : Int × Int × Int × Int × Int × Unit) (a1 : Int) (a2 : Int) : Option (Bool × Unit) :=
  bif decide (a0.1 ≥ (1 : Int)) then
    bif decide (a0.1 ≤ (19 : Int)) then
      bif decide (a0.2.1 ≥ (0 : Int)) then
        bif a0.2.1 == (0 : Int) then
          bif decide (a0.2.2.2.2.1 ≥ (0 : Int)) then
            bif decide (a0.2.2.2.2.1 ≤ (400 : Int)) then
              bif a0.2.2.1 == a1 then
                some ((a0.2.2.2.1 == a2, ()))
              else
                some ((false, ()))
            else
              some ((false, ()))
          else
            some ((false, ()))
        else
          bif a0.1 == (1 : Int) then
            bif decide (a0.2.2.2.2.1 ≥ (0 : Int)) then
              bif decide (a0.2.2.2.2.1 ≤ (400 : Int)) then
                bif a0.2.2.1 == a1 then
                  some ((a0.2.2.2.1 == a2, ()))
                else
                  some ((false, ()))
              else
                some ((false, ()))
            else
              some ((false, ()))
          else
            some ((false, ()))
      else
        some ((false, ()))
    else
      some ((false, ()))
  else
    some ((false, ()))
/- tailwater/tailwaterref04.Sizes -/
def ref04_Sizes_c (J2 : List (Int × Int × Int × Int × Int × Unit) → List (Int × Unit) → List (Int × Unit) → Option (List (Int × Unit) × List (Int × Unit) × Bool × Unit)) (J4 : List (Int × Int × Int × Int × Int × Unit) → List (Int × Unit) → List (Int × Unit) → Int → Option (List (Int × Unit) × List (Int × Unit) × Bool × Unit)) (J11 : List (Int × Int × Int × Int × Int × Unit) → List (Int × Unit) → List (Int × Unit) → Int → Int → Int → Int → Int → Option (List (Int × Unit) × List (Int × Unit) × Bool × Unit)) (a0 : List (Int × Int × Int × Int × Int × Unit)) : Option (List (Int × Unit) × List (Int × Unit) × Bool × Unit) :=
  J4 (a0) ([]) ([]) ((0 : Int))
def ref04_Sizes_c2 (J2 : List (Int × Int × Int × Int × Int × Unit) → List (Int × Unit) → List (Int × Unit) → Option (List (Int × Unit) × List (Int × Unit) × Bool × Unit)) (J4 : List (Int × Int × Int × Int × Int × Unit) → List (Int × Unit) → List (Int × Unit) → Int → Option (List (Int × Unit) × List (Int × Unit) × Bool × Unit)) (J11 : List (Int × Int × Int × Int × Int × Unit) → List (Int × Unit) → List (Int × Unit) → Int → Int → Int → Int → Int → Option (List (Int × Unit) × List (Int × Unit) × Bool × Unit)) (x0 : List (Int × Int × Int × Int × Int × Unit)) (x1 : List (Int × Unit)) (x2 : List (Int × Unit)) : Option (List (Int × Unit) × List (Int × Unit) × Bool × Unit) :=
  bif decide (Int.ofNat (List.length x0) > (0 : Int)) then
    bif decide ((0 : Int) ≤ Go.IntKind.wrap Go.IntKind.i64 (Int.ofNat (List.length x0) - (1 : Int))) then
      bif decide (Int.toNat (Go.IntKind.wrap Go.IntKind.i64 (Int.ofNat (List.length x0) - (1 : Int))) < List.length x1) then
        match x1[Int.toNat (Go.IntKind.wrap Go.IntKind.i64 (Int.ofNat (List.length x0) - (1 : Int)))]? with
          | none =>
            none
          | some e0 =>
            some ((x1, x2, e0.1 == Int.ofNat (List.length x0), ()))
      else
        none
    else
      none
  else
    some ((x1, x2, false, ()))
def ref04_Sizes_c4 (J2 : List (Int × Int × Int × Int × Int × Unit) → List (Int × Unit) → List (Int × Unit) → Option (List (Int × Unit) × List (Int × Unit) × Bool × Unit)) (J4 : List (Int × Int × Int × Int × Int × Unit) → List (Int × Unit) → List (Int × Unit) → Int → Option (List (Int × Unit) × List (Int × Unit) × Bool × Unit)) (J11 : List (Int × Int × Int × Int × Int × Unit) → List (Int × Unit) → List (Int × Unit) → Int → Int → Int → Int → Int → Option (List (Int × Unit) × List (Int × Unit) × Bool × Unit)) (x0 : List (Int × Int × Int × Int × Int × Unit)) (x1 : List (Int × Unit)) (x2 : List (Int × Unit)) (x3 : Int) : Option (List (Int × Unit) × List (Int × Unit) × Bool × Unit) :=
  bif decide (x3 < Int.ofNat (List.length x0)) then
    bif decide ((0 : Int) ≤ x3) then
      match x0[Int.toNat x3]? with
        | none =>
          none
        | some e0 =>
          match ref04_Count e0.1 with
            | none =>
              none
            | some e1 =>
              bif decide (e1.1 > (0 : Int)) then
                bif decide (Go.IntKind.wrap Go.IntKind.i64 (x3 - (1 : Int)) < (0 : Int)) then
                  some (([], [], false, ()))
                else
                  bif decide ((0 : Int) ≤ Go.IntKind.wrap Go.IntKind.i64 (x3 - (1 : Int))) then
                    bif decide (Int.toNat (Go.IntKind.wrap Go.IntKind.i64 (x3 - (1 : Int))) < List.length x1) then
                      match x1[Int.toNat (Go.IntKind.wrap Go.IntKind.i64 (x3 - (1 : Int)))]? with
                        | none =>
                          none
                        | some e2 =>
                          bif decide ((0 : Int) ≤ Go.IntKind.wrap Go.IntKind.i64 (x3 - (1 : Int))) then
                            bif decide (Int.toNat (Go.IntKind.wrap Go.IntKind.i64 (x3 - (1 : Int))) < List.length x1) then
                              match x1[Int.toNat (Go.IntKind.wrap Go.IntKind.i64 (x3 - (1 : Int)))]? with
                                | none =>
                                  none
                                | some e3 =>
                                  bif decide ((0 : Int) ≤ Go.IntKind.wrap Go.IntKind.i64 (x3 - (1 : Int))) then
                                    bif decide (Int.toNat (Go.IntKind.wrap Go.IntKind.i64 (x3 - (1 : Int))) < List.length x2) then
                                      match x2[Int.toNat (Go.IntKind.wrap Go.IntKind.i64 (x3 - (1 : Int)))]? with
                                        | none =>
                                          none
                                        | some e4 =>
                                          bif e1.1 == (2 : Int) then
                                            bif decide (Go.IntKind.wrap Go.IntKind.i64 (Go.IntKind.wrap Go.IntKind.i64 (x3 - (1 : Int)) - e2.1) < (0 : Int)) then
                                              some (([], [], false, ()))
                                            else
                                              bif decide ((0 : Int) ≤ Go.IntKind.wrap Go.IntKind.i64 (Go.IntKind.wrap Go.IntKind.i64 (x3 - (1 : Int)) - e2.1)) then
                                                bif decide (Int.toNat (Go.IntKind.wrap Go.IntKind.i64 (Go.IntKind.wrap Go.IntKind.i64 (x3 - (1 : Int)) - e2.1)) < List.length x1) then
                                                  match x1[Int.toNat (Go.IntKind.wrap Go.IntKind.i64 (Go.IntKind.wrap Go.IntKind.i64 (x3 - (1 : Int)) - e2.1))]? with
                                                    | none =>
                                                      none
                                                    | some e5 =>
                                                      bif decide ((0 : Int) ≤ Go.IntKind.wrap Go.IntKind.i64 (Go.IntKind.wrap Go.IntKind.i64 (x3 - (1 : Int)) - e2.1)) then
                                                        bif decide (Int.toNat (Go.IntKind.wrap Go.IntKind.i64 (Go.IntKind.wrap Go.IntKind.i64 (x3 - (1 : Int)) - e2.1)) < List.length x2) then
                                                          match x2[Int.toNat (Go.IntKind.wrap Go.IntKind.i64 (Go.IntKind.wrap Go.IntKind.i64 (x3 - (1 : Int)) - e2.1))]? with
                                                            | none =>
                                                              none
                                                            | some e6 =>
                                                              J11 (x0) (x1) (x2) (x3) (Go.IntKind.wrap Go.IntKind.i64 (Go.IntKind.wrap Go.IntKind.i64 (x3 - (1 : Int)) - e2.1)) (Go.IntKind.wrap Go.IntKind.i64 (x3 - (1 : Int))) (Go.IntKind.wrap Go.IntKind.i64 (Go.IntKind.wrap Go.IntKind.i64 ((1 : Int) + e3.1) + e5.1)) (tmm true (Go.IntKind.wrap Go.IntKind.i64 ((1 : Int) + e4.1)) (Go.IntKind.wrap Go.IntKind.i64 ((1 : Int) + e6.1)))
                                                        else
                                                          none
                                                      else
                                                        none
                                                else
                                                  none
                                              else
                                                none
                                          else
                                            J11 (x0) (x1) (x2) (x3) (Go.IntKind.wrap Go.IntKind.i64 (x3 - (1 : Int))) ((0 : Int)) (Go.IntKind.wrap Go.IntKind.i64 ((1 : Int) + e3.1)) (Go.IntKind.wrap Go.IntKind.i64 ((1 : Int) + e4.1))
                                    else
                                      none
                                  else
                                    none
                            else
                              none
                          else
                            none
                    else
                      none
                  else
                    none
              else
                J11 (x0) (x1) (x2) (x3) ((0 : Int)) ((0 : Int)) ((1 : Int)) ((1 : Int))
    else
      none
  else
    J2 (x0) (x1) (x2)
def ref04_Sizes_c11 (J2 : List (Int × Int × Int × Int × Int × Unit) → List (Int × Unit) → List (Int × Unit) → Option (List (Int × Unit) × List (Int × Unit) × Bool × Unit)) (J4 : List (Int × Int × Int × Int × Int × Unit) → List (Int × Unit) → List (Int × Unit) → Int → Option (List (Int × Unit) × List (Int × Unit) × Bool × Unit)) (J11 : List (Int × Int × Int × Int × Int × Unit) → List (Int × Unit) → List (Int × Unit) → Int → Int → Int → Int → Int → Option (List (Int × Unit) × List (Int × Unit) × Bool × Unit)) (x0 : List (Int × Int × Int × Int × Int × Unit)) (x1 : List (Int × Unit)) (x2 : List (Int × Unit)) (x3 : Int) (x4 : Int) (x5 : Int) (x6 : Int) (x7 : Int) : Option (List (Int × Unit) × List (Int × Unit) × Bool × Unit) :=
  bif decide ((0 : Int) ≤ x3) then
    match x0[Int.toNat x3]? with
      | none =>
        none
      | some e0 =>
        match ref04_right e0 x4 x5 with
          | none =>
            none
          | some e1 =>
            bif !e1.1 then
              some (([], [], false, ()))
            else
              bif bigOk (List.length x1 + List.length [(x6, ())]) (8 : Nat) then
                bif bigOk (List.length x2 + List.length [(x7, ())]) (8 : Nat) then
                  J4 (x0) (x1 ++ [(x6, ())]) (x2 ++ [(x7, ())]) (Go.IntKind.wrap Go.IntKind.i64 (x3 + (1 : Int)))
                else
                  none
              else
                none
  else
    none
mutual
def ref04_Sizes_i2 : Nat → List (Int × Int × Int × Int × Int × Unit) → List (Int × Unit) → List (Int × Unit) → Option (List (Int × Unit) × List (Int × Unit) × Bool × Unit)
  | 0, _, _, _ => none
  | n + 1, x0, x1, x2 => ref04_Sizes_c2 (ref04_Sizes_i2 n) (ref04_Sizes_i4 n) (ref04_Sizes_i11 n) x0 x1 x2
def ref04_Sizes_i4 : Nat → List (Int × Int × Int × Int × Int × Unit) → List (Int × Unit) → List (Int × Unit) → Int → Option (List (Int × Unit) × List (Int × Unit) × Bool × Unit)
  | 0, _, _, _, _ => none
  | n + 1, x0, x1, x2, x3 => ref04_Sizes_c4 (ref04_Sizes_i2 n) (ref04_Sizes_i4 n) (ref04_Sizes_i11 n) x0 x1 x2 x3
def ref04_Sizes_i11 : Nat → List (Int × Int × Int × Int × Int × Unit) → List (Int × Unit) → List (Int × Unit) → Int → Int → Int → Int → Int → Option (List (Int × Unit) × List (Int × Unit) × Bool × Unit)
  | 0, _, _, _, _, _, _, _, _ => none
  | n + 1, x0, x1, x2, x3, x4, x5, x6, x7 => ref04_Sizes_c11 (ref04_Sizes_i2 n) (ref04_Sizes_i4 n) (ref04_Sizes_i11 n) x0 x1 x2 x3 x4 x5 x6 x7
end
def ref04_Sizes (a0 : List (Int × Int × Int × Int × Int × Unit)) : Option (List (Int × Unit) × List (Int × Unit) × Bool × Unit) := ref04_Sizes_c (ref04_Sizes_i2 fuel) (ref04_Sizes_i4 fuel) (ref04_Sizes_i11 fuel) a0
-- ways that fail: 36 in [11, 2, 4]
/- tailwater/tailwaterref04.Check -/
def ref04_Check (a0 : List (Int × Int × Int × Int × Int × Unit)) : Option (Int × Unit) :=
  bif decide (Int.ofNat (List.length a0) > (60 : Int)) then
    some (((4 : Int), ()))
  else
    match ref04_Sizes a0 with
      | none =>
        none
      | some e0 =>
        bif !e0.2.2.1 then
          some (((8 : Int), ()))
        else
          bif decide ((0 : Int) ≤ Go.IntKind.wrap Go.IntKind.i64 (Int.ofNat (List.length a0) - (1 : Int))) then
            match e0.2.1[Int.toNat (Go.IntKind.wrap Go.IntKind.i64 (Int.ofNat (List.length a0) - (1 : Int)))]? with
              | none =>
                none
              | some e1 =>
                bif decide (e1.1 > (20 : Int)) then
                  some (((34 : Int), ()))
                else
                  some (((0 : Int), ()))
          else
            none
-- ways that fail: 3 in [start]
/- tailwater/tailwaterref08.Sources -/
def ref08_Sources_c (J7 : List (Int × Unit) → Option (Int × Unit)) (J9 : List (Int × Unit) → Int → Option (Int × Unit)) (J17 : List (Int × Unit) → Int → Option (Int × Unit)) (J22 : List (Int × Unit) → Int → Int → Option (Int × Unit)) (a0 : List (Int × Unit)) (a1 : Bool) : Option (Int × Unit) :=
  bif decide (Int.ofNat (List.length a0) > (4 : Int)) then
    some (((4 : Int), ()))
  else
    bif Int.ofNat (List.length a0) == (0 : Int) then
      some (((8 : Int), ()))
    else
      bif a1 then
        bif Int.ofNat (List.length a0) != (2 : Int) then
          some (((8 : Int), ()))
        else
          J9 (a0) ((0 : Int))
      else
        J9 (a0) ((0 : Int))
def ref08_Sources_c7 (J7 : List (Int × Unit) → Option (Int × Unit)) (J9 : List (Int × Unit) → Int → Option (Int × Unit)) (J17 : List (Int × Unit) → Int → Option (Int × Unit)) (J22 : List (Int × Unit) → Int → Int → Option (Int × Unit)) (x0 : List (Int × Unit)) : Option (Int × Unit) :=
  J17 (x0) ((0 : Int))
def ref08_Sources_c9 (J7 : List (Int × Unit) → Option (Int × Unit)) (J9 : List (Int × Unit) → Int → Option (Int × Unit)) (J17 : List (Int × Unit) → Int → Option (Int × Unit)) (J22 : List (Int × Unit) → Int → Int → Option (Int × Unit)) (x0 : List (Int × Unit)) (x1 : Int) : Option (Int × Unit) :=
  bif decide (x1 < Int.ofNat (List.length x0)) then
    bif decide ((0 : Int) ≤ x1) then
      match x0[Int.toNat x1]? with
        | none =>
          none
        | some e0 =>
          bif decide (e0.1 < (0 : Int)) then
            some (((8 : Int), ()))
          else
            bif decide ((0 : Int) ≤ x1) then
              match x0[Int.toNat x1]? with
                | none =>
                  none
                | some e1 =>
                  bif decide (e1.1 > (3 : Int)) then
                    some (((8 : Int), ()))
                  else
                    J9 (x0) (Go.IntKind.wrap Go.IntKind.i64 (x1 + (1 : Int)))
            else
              none
    else
      none
  else
    J7 (x0)
def ref08_Sources_c17 (J7 : List (Int × Unit) → Option (Int × Unit)) (J9 : List (Int × Unit) → Int → Option (Int × Unit)) (J17 : List (Int × Unit) → Int → Option (Int × Unit)) (J22 : List (Int × Unit) → Int → Int → Option (Int × Unit)) (x0 : List (Int × Unit)) (x1 : Int) : Option (Int × Unit) :=
  bif decide (x1 < Int.ofNat (List.length x0)) then
    J22 (x0) (x1) ((0 : Int))
  else
    some (((0 : Int), ()))
def ref08_Sources_c22 (J7 : List (Int × Unit) → Option (Int × Unit)) (J9 : List (Int × Unit) → Int → Option (Int × Unit)) (J17 : List (Int × Unit) → Int → Option (Int × Unit)) (J22 : List (Int × Unit) → Int → Int → Option (Int × Unit)) (x0 : List (Int × Unit)) (x1 : Int) (x2 : Int) : Option (Int × Unit) :=
  bif decide (x2 < x1) then
    bif decide ((0 : Int) ≤ x2) then
      match x0[Int.toNat x2]? with
        | none =>
          none
        | some e0 =>
          bif decide ((0 : Int) ≤ x1) then
            match x0[Int.toNat x1]? with
              | none =>
                none
              | some e1 =>
                bif e0.1 == e1.1 then
                  some (((43 : Int), ()))
                else
                  J22 (x0) (x1) (Go.IntKind.wrap Go.IntKind.i64 (x2 + (1 : Int)))
          else
            none
    else
      none
  else
    J17 (x0) (Go.IntKind.wrap Go.IntKind.i64 (x1 + (1 : Int)))
mutual
def ref08_Sources_i7 : Nat → List (Int × Unit) → Option (Int × Unit)
  | 0, _ => none
  | n + 1, x0 => ref08_Sources_c7 (ref08_Sources_i7 n) (ref08_Sources_i9 n) (ref08_Sources_i17 n) (ref08_Sources_i22 n) x0
def ref08_Sources_i9 : Nat → List (Int × Unit) → Int → Option (Int × Unit)
  | 0, _, _ => none
  | n + 1, x0, x1 => ref08_Sources_c9 (ref08_Sources_i7 n) (ref08_Sources_i9 n) (ref08_Sources_i17 n) (ref08_Sources_i22 n) x0 x1
def ref08_Sources_i17 : Nat → List (Int × Unit) → Int → Option (Int × Unit)
  | 0, _, _ => none
  | n + 1, x0, x1 => ref08_Sources_c17 (ref08_Sources_i7 n) (ref08_Sources_i9 n) (ref08_Sources_i17 n) (ref08_Sources_i22 n) x0 x1
def ref08_Sources_i22 : Nat → List (Int × Unit) → Int → Int → Option (Int × Unit)
  | 0, _, _, _ => none
  | n + 1, x0, x1, x2 => ref08_Sources_c22 (ref08_Sources_i7 n) (ref08_Sources_i9 n) (ref08_Sources_i17 n) (ref08_Sources_i22 n) x0 x1 x2
end
def ref08_Sources (a0 : List (Int × Unit)) (a1 : Bool) : Option (Int × Unit) := ref08_Sources_c (ref08_Sources_i7 fuel) (ref08_Sources_i9 fuel) (ref08_Sources_i17 fuel) (ref08_Sources_i22 fuel) a0 a1
-- ways that fail: 8 in [22, 9]
/- tailwater/tailwaterref08.Fits -/
def ref08_Fits (a0 : Int × Int × Int × Unit) : Option (Bool × Unit) :=
  bif decide (a0.2.1 < (1 : Int)) then
    some ((false, ()))
  else
    bif decide (a0.2.1 > (1073741824 : Int)) then
      some ((false, ()))
    else
      bif a0.1 == (2 : Int) then
        bif decide (a0.2.2.1 ≥ (1 : Int)) then
          bif decide (a0.2.2.1 ≤ a0.2.1) then
            some ((decide (a0.2.1 ≤ Go.IntKind.wrap Go.IntKind.i64 ((16 : Int) * a0.2.2.1)), ()))
          else
            some ((false, ()))
        else
          some ((false, ()))
      else
        bif a0.1 == (1 : Int) then
          some ((a0.2.2.1 == (0 : Int), ()))
        else
          bif a0.1 == (3 : Int) then
            some ((a0.2.2.1 == (0 : Int), ()))
          else
            some ((false, ()))
/- tailwater/tailwaterref08.Check -/
def ref08_Check (a0 : Int × List (Int × Int × Int × Int × Int × Unit) × List (Int × Unit) × Bool × List (Int × Int × Int × Int × Int × Unit) × Int × Int × Int × Bool × Int × Unit) : Option (Int × Unit) :=
  bif decide (a0.1 < (1 : Int)) then
    some (((8 : Int), ()))
  else
    bif decide (a0.1 > (4 : Int)) then
      some (((8 : Int), ()))
    else
      bif decide (a0.2.2.2.2.2.2.2.2.2.1 < (1 : Int)) then
        some (((8 : Int), ()))
      else
        bif decide (a0.2.2.2.2.2.2.2.2.2.1 > (2 : Int)) then
          some (((8 : Int), ()))
        else
          bif a0.1 == (1 : Int) then
            bif decide (Int.ofNat (List.length a0.2.1) > (0 : Int)) then
              some (((8 : Int), ()))
            else
              bif a0.1 != (1 : Int) then
                match ref04_Check a0.2.1 with
                  | none =>
                    none
                  | some e0 =>
                    bif e0.1 != (0 : Int) then
                      match ref04_Check a0.2.1 with
                        | none =>
                          none
                        | some e1 =>
                          some ((e1.1, ()))
                    else
                      bif decide (Int.ofNat (List.length a0.2.2.2.2.1) > (0 : Int)) then
                        match ref04_Check a0.2.2.2.2.1 with
                          | none =>
                            none
                          | some e1 =>
                            bif e1.1 != (0 : Int) then
                              match ref04_Check a0.2.2.2.2.1 with
                                | none =>
                                  none
                                | some e2 =>
                                  some ((e2.1, ()))
                            else
                              match ref08_Sources a0.2.2.1 a0.2.2.2.1 with
                                | none =>
                                  none
                                | some e2 =>
                                  bif e2.1 != (0 : Int) then
                                    match ref08_Sources a0.2.2.1 a0.2.2.2.1 with
                                      | none =>
                                        none
                                      | some e3 =>
                                        some ((e3.1, ()))
                                  else
                                    match ref08_Fits (a0.2.2.2.2.2.1, a0.2.2.2.2.2.2.1, a0.2.2.2.2.2.2.2.1, ()) with
                                      | none =>
                                        none
                                      | some e3 =>
                                        bif !e3.1 then
                                          some (((8 : Int), ()))
                                        else
                                          bif a0.2.2.2.1 then
                                            bif a0.2.2.2.2.2.1 != (1 : Int) then
                                              some (((8 : Int), ()))
                                            else
                                              some (((0 : Int), ()))
                                          else
                                            some (((0 : Int), ()))
                      else
                        match ref08_Sources a0.2.2.1 a0.2.2.2.1 with
                          | none =>
                            none
                          | some e1 =>
                            bif e1.1 != (0 : Int) then
                              match ref08_Sources a0.2.2.1 a0.2.2.2.1 with
                                | none =>
                                  none
                                | some e2 =>
                                  some ((e2.1, ()))
                            else
                              match ref08_Fits (a0.2.2.2.2.2.1, a0.2.2.2.2.2.2.1, a0.2.2.2.2.2.2.2.1, ()) with
                                | none =>
                                  none
                                | some e2 =>
                                  bif !e2.1 then
                                    some (((8 : Int), ()))
                                  else
                                    bif a0.2.2.2.1 then
                                      bif a0.2.2.2.2.2.1 != (1 : Int) then
                                        some (((8 : Int), ()))
                                      else
                                        some (((0 : Int), ()))
                                    else
                                      some (((0 : Int), ()))
              else
                bif decide (Int.ofNat (List.length a0.2.2.2.2.1) > (0 : Int)) then
                  match ref04_Check a0.2.2.2.2.1 with
                    | none =>
                      none
                    | some e0 =>
                      bif e0.1 != (0 : Int) then
                        match ref04_Check a0.2.2.2.2.1 with
                          | none =>
                            none
                          | some e1 =>
                            some ((e1.1, ()))
                      else
                        match ref08_Sources a0.2.2.1 a0.2.2.2.1 with
                          | none =>
                            none
                          | some e1 =>
                            bif e1.1 != (0 : Int) then
                              match ref08_Sources a0.2.2.1 a0.2.2.2.1 with
                                | none =>
                                  none
                                | some e2 =>
                                  some ((e2.1, ()))
                            else
                              match ref08_Fits (a0.2.2.2.2.2.1, a0.2.2.2.2.2.2.1, a0.2.2.2.2.2.2.2.1, ()) with
                                | none =>
                                  none
                                | some e2 =>
                                  bif !e2.1 then
                                    some (((8 : Int), ()))
                                  else
                                    bif a0.2.2.2.1 then
                                      bif a0.2.2.2.2.2.1 != (1 : Int) then
                                        some (((8 : Int), ()))
                                      else
                                        some (((0 : Int), ()))
                                    else
                                      some (((0 : Int), ()))
                else
                  match ref08_Sources a0.2.2.1 a0.2.2.2.1 with
                    | none =>
                      none
                    | some e0 =>
                      bif e0.1 != (0 : Int) then
                        match ref08_Sources a0.2.2.1 a0.2.2.2.1 with
                          | none =>
                            none
                          | some e1 =>
                            some ((e1.1, ()))
                      else
                        match ref08_Fits (a0.2.2.2.2.2.1, a0.2.2.2.2.2.2.1, a0.2.2.2.2.2.2.2.1, ()) with
                          | none =>
                            none
                          | some e1 =>
                            bif !e1.1 then
                              some (((8 : Int), ()))
                            else
                              bif a0.2.2.2.1 then
                                bif a0.2.2.2.2.2.1 != (1 : Int) then
                                  some (((8 : Int), ()))
                                else
                                  some (((0 : Int), ()))
                              else
                                some (((0 : Int), ()))
          else
            bif a0.1 != (1 : Int) then
              match ref04_Check a0.2.1 with
                | none =>
                  none
                | some e0 =>
                  bif e0.1 != (0 : Int) then
                    match ref04_Check a0.2.1 with
                      | none =>
                        none
                      | some e1 =>
                        some ((e1.1, ()))
                  else
                    bif decide (Int.ofNat (List.length a0.2.2.2.2.1) > (0 : Int)) then
                      match ref04_Check a0.2.2.2.2.1 with
                        | none =>
                          none
                        | some e1 =>
                          bif e1.1 != (0 : Int) then
                            match ref04_Check a0.2.2.2.2.1 with
                              | none =>
                                none
                              | some e2 =>
                                some ((e2.1, ()))
                          else
                            match ref08_Sources a0.2.2.1 a0.2.2.2.1 with
                              | none =>
                                none
                              | some e2 =>
                                bif e2.1 != (0 : Int) then
                                  match ref08_Sources a0.2.2.1 a0.2.2.2.1 with
                                    | none =>
                                      none
                                    | some e3 =>
                                      some ((e3.1, ()))
                                else
                                  match ref08_Fits (a0.2.2.2.2.2.1, a0.2.2.2.2.2.2.1, a0.2.2.2.2.2.2.2.1, ()) with
                                    | none =>
                                      none
                                    | some e3 =>
                                      bif !e3.1 then
                                        some (((8 : Int), ()))
                                      else
                                        bif a0.2.2.2.1 then
                                          bif a0.2.2.2.2.2.1 != (1 : Int) then
                                            some (((8 : Int), ()))
                                          else
                                            some (((0 : Int), ()))
                                        else
                                          some (((0 : Int), ()))
                    else
                      match ref08_Sources a0.2.2.1 a0.2.2.2.1 with
                        | none =>
                          none
                        | some e1 =>
                          bif e1.1 != (0 : Int) then
                            match ref08_Sources a0.2.2.1 a0.2.2.2.1 with
                              | none =>
                                none
                              | some e2 =>
                                some ((e2.1, ()))
                          else
                            match ref08_Fits (a0.2.2.2.2.2.1, a0.2.2.2.2.2.2.1, a0.2.2.2.2.2.2.2.1, ()) with
                              | none =>
                                none
                              | some e2 =>
                                bif !e2.1 then
                                  some (((8 : Int), ()))
                                else
                                  bif a0.2.2.2.1 then
                                    bif a0.2.2.2.2.2.1 != (1 : Int) then
                                      some (((8 : Int), ()))
                                    else
                                      some (((0 : Int), ()))
                                  else
                                    some (((0 : Int), ()))
            else
              bif decide (Int.ofNat (List.length a0.2.2.2.2.1) > (0 : Int)) then
                match ref04_Check a0.2.2.2.2.1 with
                  | none =>
                    none
                  | some e0 =>
                    bif e0.1 != (0 : Int) then
                      match ref04_Check a0.2.2.2.2.1 with
                        | none =>
                          none
                        | some e1 =>
                          some ((e1.1, ()))
                    else
                      match ref08_Sources a0.2.2.1 a0.2.2.2.1 with
                        | none =>
                          none
                        | some e1 =>
                          bif e1.1 != (0 : Int) then
                            match ref08_Sources a0.2.2.1 a0.2.2.2.1 with
                              | none =>
                                none
                              | some e2 =>
                                some ((e2.1, ()))
                          else
                            match ref08_Fits (a0.2.2.2.2.2.1, a0.2.2.2.2.2.2.1, a0.2.2.2.2.2.2.2.1, ()) with
                              | none =>
                                none
                              | some e2 =>
                                bif !e2.1 then
                                  some (((8 : Int), ()))
                                else
                                  bif a0.2.2.2.1 then
                                    bif a0.2.2.2.2.2.1 != (1 : Int) then
                                      some (((8 : Int), ()))
                                    else
                                      some (((0 : Int), ()))
                                  else
                                    some (((0 : Int), ()))
              else
                match ref08_Sources a0.2.2.1 a0.2.2.2.1 with
                  | none =>
                    none
                  | some e0 =>
                    bif e0.1 != (0 : Int) then
                      match ref08_Sources a0.2.2.1 a0.2.2.2.1 with
                        | none =>
                          none
                        | some e1 =>
                          some ((e1.1, ()))
                    else
                      match ref08_Fits (a0.2.2.2.2.2.1, a0.2.2.2.2.2.2.1, a0.2.2.2.2.2.2.2.1, ()) with
                        | none =>
                          none
                        | some e1 =>
                          bif !e1.1 then
                            some (((8 : Int), ()))
                          else
                            bif a0.2.2.2.1 then
                              bif a0.2.2.2.2.2.1 != (1 : Int) then
                                some (((8 : Int), ()))
                              else
                                some (((0 : Int), ()))
                            else
                              some (((0 : Int), ()))
-- ways that fail: 36 in [start]
/- tailwater/tailwaterref06.Gives -/
def ref06_Gives (a0 : Int) : Option (Bool × Unit) :=
  bif a0 == (6 : Int) then
    some ((true, ()))
  else
    some ((decide (a0 ≥ (12 : Int)), ()))
/- tailwater/tailwaterref06.fits -/
def ref06_fits (a0 : List (Int × Int × Int × Int × Int × Unit)) (a1 : Int) : Option (Bool × Unit) :=
  bif decide ((0 : Int) ≤ a1) then
    match a0[Int.toNat a1]? with
      | none =>
        none
      | some e0 =>
        bif decide ((0 : Int) ≤ e0.2.2.1) then
          match a0[Int.toNat e0.2.2.1]? with
            | none =>
              none
            | some e1 =>
              match ref06_Gives e1.1 with
                | none =>
                  none
                | some e2 =>
                  bif decide ((0 : Int) ≤ e0.2.2.2.1) then
                    match a0[Int.toNat e0.2.2.2.1]? with
                      | none =>
                        none
                      | some e3 =>
                        match ref06_Gives e3.1 with
                          | none =>
                            none
                          | some e4 =>
                            bif decide (e0.1 ≤ (4 : Int)) then
                              some ((true, ()))
                            else
                              bif e0.1 == (5 : Int) then
                                some ((!e2.1, ()))
                              else
                                bif e0.1 == (6 : Int) then
                                  some ((e2.1, ()))
                                else
                                  bif e0.1 == (16 : Int) then
                                    some ((e2.1 == e4.1, ()))
                                  else
                                    bif e0.1 == (17 : Int) then
                                      some ((e2.1 == e4.1, ()))
                                    else
                                      bif decide (e0.1 ≥ (18 : Int)) then
                                        bif e2.1 then
                                          some ((e4.1, ()))
                                        else
                                          some ((false, ()))
                                      else
                                        bif !e2.1 then
                                          some ((!e4.1, ()))
                                        else
                                          some ((false, ()))
                  else
                    none
        else
          none
  else
    none
-- ways that fail: 8 in [start]
/- tailwater/tailwaterref06.Wrong -/
def ref06_Wrong_c (J3 : List (Int × Int × Int × Int × Int × Unit) → Int → Option (Int × Unit)) (a0 : List (Int × Int × Int × Int × Int × Unit)) : Option (Int × Unit) :=
  J3 (a0) ((0 : Int))
def ref06_Wrong_c3 (J3 : List (Int × Int × Int × Int × Int × Unit) → Int → Option (Int × Unit)) (x0 : List (Int × Int × Int × Int × Int × Unit)) (x1 : Int) : Option (Int × Unit) :=
  bif decide (x1 < Int.ofNat (List.length x0)) then
    match ref06_fits x0 x1 with
      | none =>
        none
      | some e0 =>
        bif !e0.1 then
          some ((x1, ()))
        else
          J3 (x0) (Go.IntKind.wrap Go.IntKind.i64 (x1 + (1 : Int)))
  else
    some ((Int.ofNat (List.length x0), ()))
mutual
def ref06_Wrong_i3 : Nat → List (Int × Int × Int × Int × Int × Unit) → Int → Option (Int × Unit)
  | 0, _, _ => none
  | n + 1, x0, x1 => ref06_Wrong_c3 (ref06_Wrong_i3 n) x0 x1
end
def ref06_Wrong (a0 : List (Int × Int × Int × Int × Int × Unit)) : Option (Int × Unit) := ref06_Wrong_c (ref06_Wrong_i3 fuel) a0
-- ways that fail: 1 in [3]
/- tailwater/tailwaterref06.Of -/
def ref06_Of (a0 : List (Int × Int × Int × Int × Int × Unit)) : Option (Bool × Int × Int × Unit) :=
  match ref04_Check a0 with
    | none =>
      none
    | some e0 =>
      bif e0.1 != (0 : Int) then
        match ref04_Check a0 with
          | none =>
            none
          | some e1 =>
            some ((false, (0 : Int), e1.1, ()))
      else
        match ref06_Wrong a0 with
          | none =>
            none
          | some e1 =>
            bif decide (e1.1 < Int.ofNat (List.length a0)) then
              some ((false, e1.1, (42 : Int), ()))
            else
              bif decide ((0 : Int) ≤ Go.IntKind.wrap Go.IntKind.i64 (Int.ofNat (List.length a0) - (1 : Int))) then
                match a0[Int.toNat (Go.IntKind.wrap Go.IntKind.i64 (Int.ofNat (List.length a0) - (1 : Int)))]? with
                  | none =>
                    none
                  | some e2 =>
                    match ref06_Gives e2.1 with
                      | none =>
                        none
                      | some e3 =>
                        some ((e3.1, Go.IntKind.wrap Go.IntKind.i64 (Int.ofNat (List.length a0) - (1 : Int)), (0 : Int), ()))
              else
                none
-- ways that fail: 6 in [start]
/- tailwater/tailwaterref06.Want -/
def ref06_Want (a0 : List (Int × Int × Int × Int × Int × Unit)) (a1 : Bool) : Option (Int × Int × Unit) :=
  match ref06_Of a0 with
    | none =>
      none
    | some e0 =>
      bif e0.2.2.1 == (0 : Int) then
        bif !e0.1 == a1 then
          some ((e0.2.1, (42 : Int), ()))
        else
          some (e0.2)
      else
        some (e0.2)
-- ways that fail: 1 in [start]
/- tailwater/tailwaterref10.Right -/
def ref10_Right_c (J1 : List (Int × Int × Int × Int × Int × Unit) → Option (Int × Int × Unit)) (a0 : Int × List (Int × Int × Int × Int × Int × Unit) × List (Int × Unit) × Bool × List (Int × Int × Int × Int × Int × Unit) × Int × Int × Int × Bool × Int × Unit) : Option (Int × Int × Unit) :=
  bif decide (Int.ofNat (List.length a0.2.1) > (0 : Int)) then
    match ref06_Want a0.2.1 false with
      | none =>
        none
      | some e0 =>
        bif e0.2.1 != (0 : Int) then
          bif decide ((0 : Int) ≤ e0.1) then
            match a0.2.1[Int.toNat e0.1]? with
              | none =>
                none
              | some e1 =>
                some ((e1.2.2.2.2.1, e0.2.1, ()))
          else
            none
        else
          J1 (a0.2.2.2.2.1)
  else
    J1 (a0.2.2.2.2.1)
def ref10_Right_c1 (J1 : List (Int × Int × Int × Int × Int × Unit) → Option (Int × Int × Unit)) (x0 : List (Int × Int × Int × Int × Int × Unit)) : Option (Int × Int × Unit) :=
  bif decide (Int.ofNat (List.length x0) > (0 : Int)) then
    match ref06_Want x0 true with
      | none =>
        none
      | some e0 =>
        bif e0.2.1 != (0 : Int) then
          bif decide ((0 : Int) ≤ e0.1) then
            match x0[Int.toNat e0.1]? with
              | none =>
                none
              | some e1 =>
                some ((e1.2.2.2.2.1, e0.2.1, ()))
          else
            none
        else
          some (((0 : Int), (0 : Int), ()))
  else
    some (((0 : Int), (0 : Int), ()))
mutual
def ref10_Right_i1 : Nat → List (Int × Int × Int × Int × Int × Unit) → Option (Int × Int × Unit)
  | 0, _ => none
  | n + 1, x0 => ref10_Right_c1 (ref10_Right_i1 n) x0
end
def ref10_Right (a0 : Int × List (Int × Int × Int × Int × Int × Unit) × List (Int × Unit) × Bool × List (Int × Int × Int × Int × Int × Unit) × Int × Int × Int × Bool × Int × Unit) : Option (Int × Int × Unit) := ref10_Right_c (ref10_Right_i1 fuel) a0
-- ways that fail: 6 in [1, start]
/- tailwater/tailwaterref10.Check -/
def ref10_Check (a0 : Int × List (Int × Int × Int × Int × Int × Unit) × List (Int × Unit) × Bool × List (Int × Int × Int × Int × Int × Unit) × Int × Int × Int × Bool × Int × Unit) : Option (Int × Int × Unit) :=
  match ref08_Check a0 with
    | none =>
      none
    | some e0 =>
      bif e0.1 != (0 : Int) then
        match ref08_Check a0 with
          | none =>
            none
          | some e1 =>
            some (((0 : Int), e1.1, ()))
      else
        match ref10_Right a0 with
          | none =>
            none
          | some e1 =>
            some (e1)
-- ways that fail: 3 in [start]
/- tailwater/tailwaterref39.Windows -/
def ref39_Windows (a0 : Int × List (Int × Int × Int × Int × Int × Unit) × List (Int × Unit) × Bool × List (Int × Int × Int × Int × Int × Unit) × Int × Int × Int × Bool × Int × Unit) : Option (Int × Unit) :=
  bif a0.2.2.2.2.2.1 != (2 : Int) then
    some (((1 : Int), ()))
  else
    bif decide (a0.2.2.2.2.2.2.2.1 = (0 : Int)) then
      none
    else
      some ((Go.IntKind.wrap Go.IntKind.i64 (Int.tdiv (Go.IntKind.wrap Go.IntKind.i64 (Go.IntKind.wrap Go.IntKind.i64 (a0.2.2.2.2.2.2.1 + a0.2.2.2.2.2.2.2.1) - (1 : Int))) a0.2.2.2.2.2.2.2.1), ()))
-- ways that fail: 1 in [start]
/- tailwater/tailwaterref39.Many -/
def ref39_Many (a0 : Int × List (Int × Int × Int × Int × Int × Unit) × List (Int × Unit) × Bool × List (Int × Int × Int × Int × Int × Unit) × Int × Int × Int × Bool × Int × Unit) : Option (Int × Int × Unit) :=
  match ref10_Check a0 with
    | none =>
      none
    | some e0 =>
      bif e0.2.1 != (0 : Int) then
        some (((0 : Int), e0.2.1, ()))
      else
        match ref39_Windows a0 with
          | none =>
            none
          | some e1 =>
            some ((e1.1, (0 : Int), ()))
-- ways that fail: 2 in [start]
/- tailwater/tumble.check -/
def tumble_check (a0 : Int) (a1 : Int) : Option (Int × Unit) :=
  bif decide (a1 < (1 : Int)) then
    some (((2 : Int), ()))
  else
    bif decide (a1 > (1073741824 : Int)) then
      some (((2 : Int), ()))
    else
      bif decide (a0 < (-1099511627776 : Int)) then
        some (((16 : Int), ()))
      else
        bif decide (a0 > (1099511627776 : Int)) then
          some (((16 : Int), ()))
        else
          some (((0 : Int), ()))
/- tailwater/tumble.Number -/
def tumble_Number (a0 : Int) (a1 : Int) : Option (Int × Int × Unit) :=
  match tumble_check a0 a1 with
    | none =>
      none
    | some e0 =>
      bif e0.1 != (0 : Int) then
        some (((0 : Int), e0.1, ()))
      else
        bif decide (a1 = (0 : Int)) then
          none
        else
          bif decide (a1 = (0 : Int)) then
            none
          else
            bif decide (Int.tmod a0 a1 < (0 : Int)) then
              some ((Go.IntKind.wrap Go.IntKind.i64 (Go.IntKind.wrap Go.IntKind.i64 (Int.tdiv a0 a1) - (1 : Int)), (0 : Int), ()))
            else
              some ((Go.IntKind.wrap Go.IntKind.i64 (Int.tdiv a0 a1), (0 : Int), ()))
-- ways that fail: 3 in [start]
/- tailwater/tumble.Of -/
def tumble_Of (a0 : Int) (a1 : Int) : Option ((Int × Int × Unit) × Int × Unit) :=
  match tumble_Number a0 a1 with
    | none =>
      none
    | some e0 =>
      bif e0.2.1 != (0 : Int) then
        some ((((0 : Int), (0 : Int), ()), e0.2.1, ()))
      else
        some (((Go.IntKind.wrap Go.IntKind.i64 (e0.1 * a1), Go.IntKind.wrap Go.IntKind.i64 (Go.IntKind.wrap Go.IntKind.i64 (e0.1 + (1 : Int)) * a1), ()), (0 : Int), ()))
-- ways that fail: 1 in [start]
/- tailwater/slide.All -/
def slide_All_c (J10 : List (Int × Int × Unit) → Option (List (Int × Int × Unit) × Int × Unit)) (J12 : Int → Int → Int → List (Int × Int × Unit) → Int → Option (List (Int × Int × Unit) × Int × Unit)) (J24 : List (Int × Int × Unit) → Int → List (Int × Int × Unit) → Option (List (Int × Int × Unit) × Int × Unit)) (a0 : Int) (a1 : Int) (a2 : Int) : Option (List (Int × Int × Unit) × Int × Unit) :=
  bif decide (tmm false a1 a2 < (1 : Int)) then
    some (([], (2 : Int), ()))
  else
    bif decide (a1 > (1073741824 : Int)) then
      some (([], (2 : Int), ()))
    else
      bif decide (a2 > a1) then
        some (([], (2 : Int), ()))
      else
        bif decide (a1 > Go.IntKind.wrap Go.IntKind.i64 ((16 : Int) * a2)) then
          some (([], (2 : Int), ()))
        else
          match tumble_Of a0 a2 with
            | none =>
              none
            | some e0 =>
              bif e0.2.1 != (0 : Int) then
                some (([], e0.2.1, ()))
              else
                J12 (a0) (a1) (a2) ([]) (e0.1.1)
def slide_All_c10 (J10 : List (Int × Int × Unit) → Option (List (Int × Int × Unit) × Int × Unit)) (J12 : Int → Int → Int → List (Int × Int × Unit) → Int → Option (List (Int × Int × Unit) × Int × Unit)) (J24 : List (Int × Int × Unit) → Int → List (Int × Int × Unit) → Option (List (Int × Int × Unit) × Int × Unit)) (x0 : List (Int × Int × Unit)) : Option (List (Int × Int × Unit) × Int × Unit) :=
  J24 (x0) (Go.IntKind.wrap Go.IntKind.i64 (Int.ofNat (List.length x0) - (1 : Int))) ([])
def slide_All_c12 (J10 : List (Int × Int × Unit) → Option (List (Int × Int × Unit) × Int × Unit)) (J12 : Int → Int → Int → List (Int × Int × Unit) → Int → Option (List (Int × Int × Unit) × Int × Unit)) (J24 : List (Int × Int × Unit) → Int → List (Int × Int × Unit) → Option (List (Int × Int × Unit) × Int × Unit)) (x0 : Int) (x1 : Int) (x2 : Int) (x3 : List (Int × Int × Unit)) (x4 : Int) : Option (List (Int × Int × Unit) × Int × Unit) :=
  bif decide (Go.IntKind.wrap Go.IntKind.i64 (x4 + x1) > x0) then
    bif bigOk (List.length x3 + List.length [(x4, Go.IntKind.wrap Go.IntKind.i64 (x4 + x1), ())]) (16 : Nat) then
      J12 (x0) (x1) (x2) (x3 ++ [(x4, Go.IntKind.wrap Go.IntKind.i64 (x4 + x1), ())]) (Go.IntKind.wrap Go.IntKind.i64 (x4 - x2))
    else
      none
  else
    J10 (x3)
def slide_All_c24 (J10 : List (Int × Int × Unit) → Option (List (Int × Int × Unit) × Int × Unit)) (J12 : Int → Int → Int → List (Int × Int × Unit) → Int → Option (List (Int × Int × Unit) × Int × Unit)) (J24 : List (Int × Int × Unit) → Int → List (Int × Int × Unit) → Option (List (Int × Int × Unit) × Int × Unit)) (x0 : List (Int × Int × Unit)) (x1 : Int) (x2 : List (Int × Int × Unit)) : Option (List (Int × Int × Unit) × Int × Unit) :=
  bif decide (x1 ≥ (0 : Int)) then
    bif decide ((0 : Int) ≤ x1) then
      bif decide (Int.toNat x1 < List.length x0) then
        match x0[Int.toNat x1]? with
          | none =>
            none
          | some e0 =>
            bif bigOk (List.length x2 + List.length [e0]) (16 : Nat) then
              J24 (x0) (Go.IntKind.wrap Go.IntKind.i64 (x1 - (1 : Int))) (x2 ++ [e0])
            else
              none
      else
        none
    else
      none
  else
    some ((x2, (0 : Int), ()))
mutual
def slide_All_i10 : Nat → List (Int × Int × Unit) → Option (List (Int × Int × Unit) × Int × Unit)
  | 0, _ => none
  | n + 1, x0 => slide_All_c10 (slide_All_i10 n) (slide_All_i12 n) (slide_All_i24 n) x0
def slide_All_i12 : Nat → Int → Int → Int → List (Int × Int × Unit) → Int → Option (List (Int × Int × Unit) × Int × Unit)
  | 0, _, _, _, _, _ => none
  | n + 1, x0, x1, x2, x3, x4 => slide_All_c12 (slide_All_i10 n) (slide_All_i12 n) (slide_All_i24 n) x0 x1 x2 x3 x4
def slide_All_i24 : Nat → List (Int × Int × Unit) → Int → List (Int × Int × Unit) → Option (List (Int × Int × Unit) × Int × Unit)
  | 0, _, _, _ => none
  | n + 1, x0, x1, x2 => slide_All_c24 (slide_All_i10 n) (slide_All_i12 n) (slide_All_i24 n) x0 x1 x2
end
def slide_All (a0 : Int) (a1 : Int) (a2 : Int) : Option (List (Int × Int × Unit) × Int × Unit) := slide_All_c (slide_All_i10 fuel) (slide_All_i12 fuel) (slide_All_i24 fuel) a0 a1 a2
-- ways that fail: 11 in [24, 12, start]
/- tailwater/slide.Of -/
def slide_Of (a0 : Int × Int × Int × Unit) (a1 : Int) : Option (List (Int × Int × Unit) × Int × Unit) :=
  match clauses_Window a0 with
    | none =>
      none
    | some e0 =>
      bif e0.1 != (0 : Int) then
        some (([], e0.1, ()))
      else
        bif a0.1 == (1 : Int) then
          match tumble_Of a1 a0.2.1 with
            | none =>
              none
            | some e1 =>
              bif e1.2.1 != (0 : Int) then
                some (([], e1.2.1, ()))
              else
                some (([e1.1], (0 : Int), ()))
        else
          bif a0.1 == (2 : Int) then
            match slide_All a1 a0.2.1 a0.2.2.1 with
              | none =>
                none
              | some e1 =>
                some (e1)
          else
            some (([], (2 : Int), ()))
-- ways that fail: 3 in [start]
/- tailwater/tailwaterlaw39.BoundWindows -/
def law39_BoundWindows (a0 : Int × List (Int × Int × Int × Int × Int × Unit) × List (Int × Unit) × Bool × List (Int × Int × Int × Int × Int × Unit) × Int × Int × Int × Bool × Int × Unit) (a1 : Int) : Option (Bool × Unit) :=
  match ref08_Great a0 with
    | none =>
      none
    | some e0 =>
      bif e0.1 then
        some ((true, ()))
      else
        match bound_Many a0 with
          | none =>
            none
          | some e1 =>
            match ref39_Many a0 with
              | none =>
                none
              | some e2 =>
                bif e1.1 != e2.1 then
                  some ((false, ()))
                else
                  bif e1.2.1 != e2.2.1 then
                    some ((false, ()))
                  else
                    match slide_Of (a0.2.2.2.2.2.1, a0.2.2.2.2.2.2.1, a0.2.2.2.2.2.2.2.1, ()) a1 with
                      | none =>
                        none
                      | some e3 =>
                        bif e1.2.1 != (0 : Int) then
                          some ((true, ()))
                        else
                          bif e3.2.1 != (0 : Int) then
                            some ((true, ()))
                          else
                            bif a0.2.2.2.2.2.1 != (2 : Int) then
                              some ((true, ()))
                            else
                              bif decide (Int.ofNat (List.length e3.1) ≤ e1.1) then
                                some ((decide (Int.ofNat (List.length e3.1) ≥ Go.IntKind.wrap Go.IntKind.i64 (e1.1 - (1 : Int))), ()))
                              else
                                some ((false, ()))
-- ways that fail: 4 in [start]
end Tg
