import Derived.Test.YtodnlpaialbceaaGreatDoorLA
/- Graphs, and their texts, as plain functions. -/
set_option linter.unusedVariables false
set_option linter.unusedSimpArgs false
namespace Tg
abbrev Op := Int × Int × Unit
abbrev Cn := Int × Int × Int × Int × Int × Unit
abbrev Gr := List Op × List Cn × Unit
def okC (n : Nat) (c : Cn) : Bool := decide (0 ≤ min c.1 c.2.2.1) && (decide (max c.1 c.2.2.1 < n) && (decide (1 ≤ c.2.2.2.2.1) && decide (c.2.2.2.2.1 ≤ 8)))
def inc (p c : Cn) : Bool := decide (p.1 < c.1) || (decide (p.1 = c.1) && decide (p.2.1 < c.2.1))
def apart (d c : Cn) : Bool := inc d c && !(decide (d.2.2.1 = c.2.2.1) && decide (d.2.2.2.1 = c.2.2.2.1))
def cnt (b : Bool) (j : Int) (chs : List Cn) : Nat := (chs.filter fun c => decide (cond b c.2.2.1 c.1 = j)).length
def numsOk (chs : List Cn) (c : Cn) : Bool := (decide (0 ≤ c.2.1) && decide (c.2.1 < (cnt false c.1 chs : Int))) && (decide (0 ≤ c.2.2.2.1) && decide (c.2.2.2.1 < (cnt true c.2.2.1 chs : Int)))
def bnd (k : Int) : Int × Int × Int × Int := if k = 1 then (0, 0, 1, 1) else if k = 2 then (1, 1, 1, 2) else if k = 3 then (1, 1, 1, 3) else if k = 4 then (1, 4, 1, 1) else if k = 5 then (2, 2, 1, 1) else if k = 6 then (1, 3, 0, 0) else (1, 4, 0, 0)
def manyB (k : Int) (i o : Int) : Bool := (decide (1 ≤ k) && decide (k ≤ 7)) && ((decide ((bnd k).1 ≤ i) && decide (i ≤ (bnd k).2.1)) && (decide ((bnd k).2.2.1 ≤ o) && decide (o ≤ (bnd k).2.2.2)))
def rlx (f : Int) (R : List Bool) (c : Cn) : List Bool := bif c.1 == f || (R[c.1.toNat]?).getD false then R.set c.2.2.1.toNat true else R
def rnd (f : Int) (chs : List Cn) (R : List Bool) : List Bool := chs.foldl (rlx f) R
def rnds (f : Int) (chs : List Cn) : Nat → List Bool → List Bool
 | 0, R => R
 | k + 1, R => rnds f chs k (rnd f chs R)
def v2 (chs : List Cn) : List Cn → List Cn → Bool
 | _, [] => true
 | p, c :: l => p.all (fun d => apart d c) && (numsOk chs c && v2 chs (p ++ [c]) l)
def v3 (n : Nat) (chs : List Cn) : Nat → List Op → Bool
 | _, [] => true
 | i, o :: l => (decide (0 ≤ o.2.1) && decide (o.2.1 ≤ 3)) && (manyB o.1 (cnt true i chs) (cnt false i chs) && (!((rnds i chs (n + 1) (List.replicate n false))[i]?).getD false && v3 n chs (i + 1) l))
def gOkB (x : Gr) : Bool := x.2.1.all (okC x.1.length) && (v2 x.2.1 [] x.2.1 && v3 x.1.length x.2.1 0 x.1)
def gChk (x : Gr) : Int := bif decide (20 < x.1.length) || decide (100 < x.2.1.length) then 4 else bif gOkB x then 0 else 8
def nameF (k : Int) : List UInt8 := if k = 1 then [115, 111, 117, 114, 99, 101] else if k = 2 then [102, 105, 108, 116, 101, 114] else if k = 3 then [115, 112, 108, 105, 116] else if k = 4 then [97, 103, 103] else if k = 5 then [106, 111, 105, 110] else if k = 6 then [115, 105, 110, 107] else [108, 97, 116, 101]
def opT (o : Op) : List UInt8 := nameF o.1 ++ 32 :: itoaF o.2.1
def endT (a b : Int) : List UInt8 := itoaF a ++ 46 :: itoaF b
def cnT (c : Cn) : List UInt8 := endT c.1 c.2.1 ++ 32 :: (endT c.2.2.1 c.2.2.2.1 ++ 32 :: itoaF c.2.2.2.2.1)
def graphL (x : Gr) : List (List UInt8) := x.1.map opT ++ x.2.1.map cnT
def graphT (x : Gr) : List UInt8 := (graphL x).flatMap fun w => w ++ [10]
def lines_Graph (x : Gr) : Option (List UInt8 × Int × Unit) :=
 bif decide (x.1.length ≤ 4611686018427387904) && decide (x.2.1.length ≤ 4611686018427387904) then some (bif gChk x != 0 then ([], gChk x, ()) else (graphT x, 0, ())) else none
end Tg
