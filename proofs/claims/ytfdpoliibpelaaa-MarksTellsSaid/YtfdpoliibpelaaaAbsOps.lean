/- Abstract operations: what each gives, and how the model's operations are read as them. -/
import Derived.Test.YtfdpoliibpelaaaAbsCore
set_option linter.unusedVariables false
namespace Go.Abs

inductive AOpd where
  | t (n : Nat)
  | c (v : AV)
  deriving Inhabited

inductive AOp where
  | mv (x : AOpd)
  | pick (c a b : AOpd)
  | box (e size : Nat) (x : AOpd)
  | build (zero : List AV) (parts : List (Nat × Nat × AOpd))
  | bslice (e size len : Nat) (zero : List AV) (parts : List (Nat × AOpd))
  | load (n : Option Nat) (x : AOpd)
  | store (n : Nat) (a x : AOpd)
  | nilchk (x : AOpd)
  | bin (op : BinOp) (x y : AOpd)
  | beq (neg : Bool) (x y : AOpd)
  | eqnil (neg : Bool) (x : AOpd)
  | eqagg (neg : Bool) (size : Nat) (ix : List (Nat × Nat)) (x y : AOpd)
  | un (op : UnOp) (x : AOpd)
  | conv (k : IntKind) (x : AOpd)
  | convs (x : AOpd)
  | mksl (e size bytes : Nat) (zero : List AV) (len cap : AOpd)
  | slice (size : Nat) (x : AOpd) (lo hi mx : Option AOpd)
  | sstr (x : AOpd) (lo hi : Option AOpd)
  | fld (off : Nat) (x : AOpd)
  | field (off : Nat) (n : Option Nat) (x : AOpd)
  | ixa (size : Nat) (x i : AOpd)
  | ixarr (len size : Nat) (x i : AOpd)
  | ixv (len size : Nat) (n : Option Nat) (x i : AOpd)
  | ixs (x i : AOpd)
  | extract (i : Nat) (x : AOpd)
  | len (x : AOpd)
  | lens (x : AOpd)
  | append (e size bytes : Nat) (s x : AOpd)
  | copy (size : Nat) (d s : AOpd)
  | mm (mx : Bool) (x y : AOpd)
  | mkfn (f : FuncId) (caps : List AOpd)
  | bad
  deriving Inhabited

inductive Eff where
  | none
  | new (o : AObj)
  | upd (t : Nat) (o : AObj)

def AOpd.eval (s : List AV) : AOpd → AV
  | .t n => s.getD n .any
  | .c v => v

def getRow (h : List AObj) (t ver : Nat) : Option AObj :=
  match h[t]? with
  | some o => if o.ver = ver ∧ o.size ≠ 0 then some o else none
  | none => none

def AV.cells : AV → Option (List AV)
  | .agg cs => if cs.all AV.isCell then some cs else none
  | x => if x.isCell then some [x] else none

def sizesOk (size : Nat) (es : List (List AV)) : Bool := es.all fun e => e.length == size && e.all AV.isCell

def elemsOf (h : List AObj) : AV → Option (List (List AV))
  | .p (.sl es) => some (es.map (·.map .p))
  | .xf es => some (es.map (·.map .p))
  | .nil => some []
  | .ne => some []
  | .nl => some []
  | .e0 => some []
  | .row t ver => (getRow h t ver).map (·.elems)
  | .sl t ver lo len _ => (getRow h t ver).map fun o => (o.elems.drop lo).take len
  | _ => none

def readCells (h : List AObj) (n : Nat) : AV → Option (List AV)
  | .ptr t ver i off =>
    match getRow h t ver with
    | some o =>
      match o.elems[i]? with
      | some e => if off + n ≤ e.length then some ((e.drop off).take n) else none
      | none => none
    | none => none
  | .fptr cs => if n ≤ cs.length then some ((cs.take n).map .p) else none
  | _ => none

def spl (l : List AV) (off : Nat) (cs : List AV) : List AV := l.take off ++ (cs ++ l.drop (off + cs.length))

def fillA : List (Nat × Nat × AV) → List AV → Option (List AV)
  | [], cells => some cells
  | (off, size, v) :: rest, cells =>
    match v.cells with
    | some cs => if cs.length = size ∧ off + size ≤ cells.length then fillA rest (spl cells off cs) else none
    | none => none

def fillS (size : Nat) : List (Nat × AV) → List (List AV) → Option (List (List AV))
  | [], es => some es
  | (i, v) :: rest, es =>
    match v.cells with
    | some cs => if cs.length = size ∧ i < es.length then fillS size rest (es.set i cs) else none
    | none => none

def asI : AV → Option (IntKind × Int)
  | .p (.int k n) => some (k, n)
  | _ => none

def asN : AV → Option Nat
  | .p (.int _ n) => if 0 ≤ n then some n.toNat else none
  | _ => none

def pvEq : Nat → AV → AV → Option Bool
  | 0, .p (.int k a), .p (.int k' b) => if k = k' then some (a == b) else none
  | 1, .p (.bool a), .p (.bool b) => some (a == b)
  | 2, .p (.str a), .p (.str b) => some (a == b)
  | _, _, _ => none

def eqIx (xs ys : List AV) : List (Nat × Nat) → Option Bool
  | [] => some true
  | (i, kd) :: is =>
    match xs[i]?, ys[i]? with
    | some x, some y =>
      match pvEq kd x y, eqIx xs ys is with
      | some a, some b => some (a && b)
      | _, _ => none
    | _, _ => none

def binI (op : BinOp) (k : IntKind) (a b : Int) : Option PV :=
  match op with
  | .add => some (.int k (k.wrap (a + b)))
  | .sub => some (.int k (k.wrap (a - b)))
  | .mul => some (.int k (k.wrap (a * b)))
  | .quo => if b = 0 then none else some (.int k (k.wrap (a.tdiv b)))
  | .rem => if b = 0 then none else some (.int k (a.tmod b))
  | .and | .or | .xor | .andNot => some (.int k (bits op k a b))
  | .eql => some (.bool (a == b))
  | .neq => some (.bool (a != b))
  | .lss => some (.bool (decide (a < b)))
  | .leq => some (.bool (decide (a ≤ b)))
  | .gtr => some (.bool (decide (a > b)))
  | .geq => some (.bool (decide (a ≥ b)))
  | _ => none

def shiftI (op : BinOp) (k : IntKind) (a b : Int) : Option PV :=
  if b < 0 then none else
  match op with
  | .shl => some (.int k (k.wrap (a * 2 ^ (min b.toNat k.bits))))
  | .shr => some (.int k (a.fdiv (2 ^ (min b.toNat k.bits))))
  | _ => none

def binS (op : BinOp) (a b : List UInt8) : Option PV :=
  match op with
  | .add => if a.length + b.length ≤ 9223372036854775807 then some (.str (a ++ b)) else none
  | .eql => some (.bool (a == b))
  | .neq => some (.bool (!(a == b)))
  | .lss => some (.bool (Op.bytesLess a b))
  | .leq => some (.bool (Op.bytesLess a b || a == b))
  | .gtr => some (.bool (!(Op.bytesLess a b || a == b)))
  | .geq => some (.bool (!(Op.bytesLess a b)))
  | _ => none

def isShift : BinOp → Bool
  | .shl | .shr => true
  | _ => false

def binA (op : BinOp) : AV → AV → Option PV
  | .p (.int k a), .p (.int k' b) => if isShift op then shiftI op k a b else if k = k' then binI op k a b else none
  | .p (.str a), .p (.str b) => binS op a b
  | _, _ => none

def unA (op : UnOp) : AV → Option PV
  | .p (.int k n) =>
    match op with
    | .neg => some (.int k (k.wrap (0 - n)))
    | .xor => some (.int k (bits .xor k (if k.signed then -1 else k.max) n))
    | _ => none
  | .p (.bool b) => match op with | .not => some (.bool (!b)) | _ => none
  | _ => none

def lowA (ρ : AOpd → AV) : Option AOpd → Option Nat
  | none => some 0
  | some x => asN (ρ x)

/-- the two bounds of a slice expression, and whether its capacity is its length -/
def bndA (len : Nat) (ex : Bool) (ρ : AOpd → AV) (lo hi mx : Option AOpd) : Option (Nat × Nat × Bool) :=
  let h : Option (Nat × Bool) := match hi, mx with
    | none, none => some (len, ex)
    | some x, none => (asN (ρ x)).map fun n => (n, ex && n == len)
    | some x, some y => match asN (ρ x), asN (ρ y) with
      | some n, some m => if m = n then some (n, true) else none
      | _, _ => none
    | none, some _ => none
  match h with
  | none => none
  | some (n, b) =>
    match lowA ρ lo with
    | none => none
    | some l => if l ≤ n ∧ n ≤ len then some (l, n, b) else none

def sliceA (h : List AObj) (size : Nat) (ρ : AOpd → AV) (x : AV) (lo hi mx : Option AOpd) : Option AV :=
  match x with
  | .nil => match bndA 0 true ρ lo hi mx with | some _ => some .nil | none => none
  | .p (.sl es) =>
    match bndA es.length false ρ lo hi mx with
    | some (l, n, b) => if l = n then some (if b then .e0 else .p (.sl [])) else if sizesOk size (es.map (·.map AV.p)) then some (if b then .xf ((es.take n).drop l) else .p (.sl ((es.take n).drop l))) else none
    | none => none
  | .xf es =>
    match bndA es.length true ρ lo hi mx with
    | some (l, n, b) => if l = n then some (if b then .e0 else .p (.sl [])) else if sizesOk size (es.map (·.map AV.p)) then some (if b then .xf ((es.take n).drop l) else .p (.sl ((es.take n).drop l))) else none
    | none => none
  | .row t ver =>
    match getRow h t ver with
    | some o => if o.size = size then match bndA o.elems.length false ρ lo hi mx with
      | some (l, n, b) => if l = n then some (if b then .e0 else .p (.sl [])) else some (.sl t ver l (n - l) b)
      | none => none else none
    | none => none
  | .sl t ver lo0 len0 ex =>
    match getRow h t ver with
    | some o => if o.size = size then match bndA len0 ex ρ lo hi mx with
      | some (l, n, b) => if l = n then some (if b then .e0 else .p (.sl [])) else some (.sl t ver (lo0 + l) (n - l) b)
      | none => none else none
    | none => none
  | _ => none

def lenA (h : List AObj) : AV → Option Nat
  | .p (.sl es) => some es.length
  | .xf es => some es.length
  | .nil => some 0
  | .ne => some 0
  | .nl => some 0
  | .e0 => some 0
  | .row t ver => (getRow h t ver).map (·.elems.length)
  | .sl t ver _ len _ => (getRow h t ver).map fun _ => len
  | _ => none

def ixA (h : List AObj) (size : Nat) (x i : AV) : Option AV :=
  match asN i with
  | none => none
  | some n =>
    match x with
    | .p (.sl es) => match es[n]? with | some e => if e.length = size then some (.fptr e) else none | none => none
    | .xf es => match es[n]? with | some e => if e.length = size then some (.fptr e) else none | none => none
    | .row t ver => match getRow h t ver with | some o => if n < o.elems.length ∧ o.size = size then some (.ptr t ver n 0) else none | none => none
    | .sl t ver lo len _ => match getRow h t ver with | some o => if n < len ∧ o.size = size then some (.ptr t ver (lo + n) 0) else none | none => none
    | _ => none

/-- is a slice nil? -/
def nilA (h : List AObj) : AV → Option Bool
  | .nil => some true
  | .ne => some false
  | .nl => some true
  | .p (.sl (_ :: _)) => some false
  | .xf (_ :: _) => some false
  | .row t ver => match getRow h t ver with | some o => if o.elems.isEmpty then none else some false | none => none
  | .sl t ver _ _ _ => match getRow h t ver with | some _ => some false | none => none
  | _ => none

def partA (cs : List AV) (off : Nat) : Option Nat → Option AV
  | some n => if off + n ≤ cs.length then some (.agg ((cs.drop off).take n)) else none
  | none => cs[off]?

def maxBytes : Nat := 140737488355328

def appendA (h : List AObj) (T e size bytes : Nat) (s : AV) (es : List (List AV)) : Option (AV × Eff) :=
  match s with
  | .nil => if sizesOk size es ∧ es.length * bytes ≤ maxBytes ∧ es.length ≤ maxLen then some (.row T 1, .new ⟨1, e, size, es⟩) else none
  | .row t ver =>
    match getRow h t ver with
    | some o => if o.e = e ∧ o.size = size ∧ sizesOk size es ∧ (o.elems.length + es.length) * bytes ≤ maxBytes ∧ o.elems.length + es.length ≤ maxLen then some (.row t (ver + 1), .upd t ⟨ver + 1, e, size, o.elems ++ es⟩) else none
    | none => none
  | .e0 => if es = [] then some (.e0, .none) else if sizesOk size es ∧ es.length * bytes ≤ maxBytes ∧ es.length ≤ maxLen then some (.row T 1, .new ⟨1, e, size, es⟩) else none
  | .xf es0 =>
    let old := es0.map (·.map AV.p)
    if es.isEmpty then none else if sizesOk size old ∧ sizesOk size es ∧ (old.length + es.length) * bytes ≤ maxBytes ∧ old.length + es.length ≤ maxLen then some (.row T 1, .new ⟨1, e, size, old ++ es⟩) else none
  | .sl t ver lo len ex =>
    match getRow h t ver with
    | some o =>
      let old := (o.elems.drop lo).take len
      if ex ∧ es.isEmpty = false ∧ o.size = size ∧ sizesOk size old ∧ sizesOk size es ∧ (old.length + es.length) * bytes ≤ maxBytes ∧ old.length + es.length ≤ maxLen then some (.row T 1, .new ⟨1, e, size, old ++ es⟩) else none
    | none => none
  | _ => none

def copyA (h : List AObj) (size : Nat) (d : AV) (es : List (List AV)) : Option (AV × Eff) :=
  match d with
  | .nil => some (.p (.int .i64 0), .none)
  | .row t ver =>
    match getRow h t ver with
    | some o =>
      let m := min es.length o.elems.length
      if o.size = size ∧ sizesOk size es then some (.p (.int .i64 m), .upd t { o with elems := es.take m ++ o.elems.drop m }) else none
    | none => none
  | .sl t ver lo len _ =>
    match getRow h t ver with
    | some o =>
      let m := min es.length len
      if o.size = size ∧ sizesOk size es ∧ lo + len ≤ o.elems.length then some (.p (.int .i64 m), .upd t { o with elems := o.elems.take lo ++ (es.take m ++ o.elems.drop (lo + m)) }) else none
    | none => none
  | _ => none

/-- What an operation gives: its value, and what becomes of the heap. T: the tag of what it makes. -/
def aexec (h : List AObj) (T : Nat) (ρ : AOpd → AV) : AOp → Option (AV × Eff)
  | .mv x => some (ρ x, .none)
  | .pick c a b => match ρ c with | .p (.bool b') => some (if b' then ρ a else ρ b, .none) | _ => none
  | .box e size x => match (ρ x).cells with | some cs => if cs.length = size ∧ 0 < size then some (.ptr T 1 0 0, .new ⟨1, e, size, [cs]⟩) else none | none => none
  | .build zero parts => match fillA (parts.map fun q => (q.1, q.2.1, ρ q.2.2)) zero with | some cs => some (.agg cs, .none) | none => none
  | .bslice e size len zero parts =>
    match fillS size (parts.map fun q => (q.1, ρ q.2)) (List.replicate len zero) with
    | some es => if 0 < size ∧ zero.length = size then some (.row T 1, .new ⟨1, e, size, es⟩) else none
    | none => none
  | .load n x =>
    match n with
    | some n => match readCells h n (ρ x) with | some cs => some (.agg cs, .none) | none => none
    | none => match readCells h 1 (ρ x) with | some [c] => some (c, .none) | _ => none
  | .store n a x =>
    match (ρ x).cells, ρ a with
    | some cs, .ptr t ver i off =>
      match getRow h t ver with
      | some o =>
        match o.elems[i]? with
        | some e => if cs.length = n ∧ off + n ≤ e.length then some (.u, .upd t { o with elems := o.elems.set i (spl e off cs) }) else none
        | none => none
      | none => none
    | _, _ => none
  | .nilchk x => match ρ x with
    | .ptr t ver i off => match getRow h t ver with | some _ => some (.ptr t ver i off, .none) | none => none
    | .fptr cs => some (.fptr cs, .none)
    | .fn f cs => some (.fn f cs, .none)
    | _ => none
  | .bin op x y => match binA op (ρ x) (ρ y) with | some v => some (.p v, .none) | none => none
  | .beq neg x y => match ρ x, ρ y with | .p (.bool a), .p (.bool b) => some (.p (.bool (if neg then !(a == b) else a == b)), .none) | _, _ => none
  | .eqnil neg x => match nilA h (ρ x) with | some b => some (.p (.bool (if neg then !b else b)), .none) | none => none
  | .eqagg neg size ix x y => match ρ x, ρ y with
    | .agg xs, .agg ys => if xs.length = size ∧ ys.length = size then (match eqIx xs ys ix with | some b => some (.p (.bool (if neg then !b else b)), .none) | none => none) else none
    | _, _ => none
  | .un op x => match unA op (ρ x) with | some v => some (.p v, .none) | none => none
  | .conv k x => match ρ x with | .p (.int _ n) => some (.p (.int k (k.wrap n)), .none) | _ => none
  | .convs x => match ρ x with | .p (.str s) => some (.p (.str s), .none) | _ => none
  | .mksl e size bytes zero len cap =>
    match asN (ρ len), asN (ρ cap) with
    | some n, some c => if n ≤ c ∧ bytes * c ≤ 2 * maxBytes ∧ c ≤ maxLen ∧ 0 < size ∧ zero.length = size then some (.row T 1, .new ⟨1, e, size, List.replicate n zero⟩) else none
    | _, _ => none
  | .slice size x lo hi mx => match sliceA h size ρ (ρ x) lo hi mx with | some v => some (v, .none) | none => none
  | .sstr x lo hi => match ρ x with
    | .p (.str s) => match bndA s.length true ρ lo hi none with | some (l, n, _) => some (.p (.str ((s.take n).drop l)), .none) | none => none
    | _ => none
  | .fld off x => match ρ x with
    | .ptr t ver i o => match getRow h t ver with | some _ => some (.ptr t ver i (o + off), .none) | none => none
    | .fptr cs => some (.fptr (cs.drop off), .none)
    | _ => none
  | .field off n x => match ρ x with
    | .agg cs => (match partA cs off n with | some v => some (v, .none) | none => none)
    | _ => none
  | .ixa size x i => match ixA h size (ρ x) (ρ i) with | some v => some (v, .none) | none => none
  | .ixarr len size x i => match asN (ρ i) with
    | none => none
    | some n => if n < len then match ρ x with
      | .ptr t ver i o => match getRow h t ver with | some _ => some (.ptr t ver i (o + n * size), .none) | none => none
      | .fptr cs => some (.fptr (cs.drop (n * size)), .none)
      | _ => none else none
  | .ixv len size m x i => match asN (ρ i) with
    | none => none
    | some n => if n < len then match ρ x with
      | .agg cs => (match partA cs (n * size) m with | some v => some (v, .none) | none => none)
      | _ => none else none
  | .ixs x i => match asN (ρ i), ρ x with
    | some n, .p (.str s) => match s[n]? with | some b => some (.p (.int .u8 b.toNat), .none) | none => none
    | _, _ => none
  | .extract i x => match ρ x with | .tuple vs => (match vs[i]? with | some v => some (v, .none) | none => none) | _ => none
  | .len x => match lenA h (ρ x) with | some n => some (.p (.int .i64 n), .none) | none => none
  | .lens x => match ρ x with | .p (.str s) => some (.p (.int .i64 s.length), .none) | _ => none
  | .append e size bytes s x => match elemsOf h (ρ x) with | some es => if 0 < size then appendA h T e size bytes (ρ s) es else none | none => none
  | .copy size d s => match elemsOf h (ρ s) with | some es => copyA h size (ρ d) es | none => none
  | .mm mx x y => match ρ x, ρ y with
    | .p (.int k a), .p (.int k' b) => some (.p (.int k (if mx then (if b > a then b else a) else (if b < a then b else a))), .none)
    | _, _ => none
  | .mkfn f caps => some (.fn f (caps.map ρ), .none)
  | .bad => none

/- How the model's operations are read. -/
def cav1 : Value → Option AV
  | .bool b => some (.p (.bool b))
  | .int k n => some (.p (.int k n))
  | .string s => some (.p (.str s.data.toList))
  | .slice none 0 0 => some .nil
  | .pointer none => some .nptr
  | .nilFunc => some .nilf
  | _ => none

def cav : Value → Option AV
  | .agg cs => match cs.toList.mapM cav1 with | some l => some (.agg l) | none => none
  | v => cav1 v

def opd : Operand → Option AOpd
  | .tmp t => some (.t t)
  | .const v => (cav v).map .c
  | .func f => some (.c (.fn f []))
  | .global _ => none

def isAggD : TypeDesc → Bool
  | .struct _ | .array _ _ => true
  | _ => false

/-- size of a type where it is an aggregate; none: one cell -/
def aggSize (P : Program) (t : TypeId) : Option (Option Nat) :=
  match P.underlying t, P.info? t with
  | some d, some i => some (if isAggD d then some i.size else none)
  | _, _ => none

def zeroOf (P : Program) (t : TypeId) : Option AV :=
  match P.info? t with
  | some i => match i.zero with | some z => cav z | none => none
  | none => none

def sizeA (P : Program) (t : TypeId) : Option Nat := (P.info? t).map (·.size)
def bytesA (P : Program) (t : TypeId) : Option Nat := (P.info? t).map (·.bytes)

def eqFs (size : Nat) (sz : TypeId → Option Nat) (rec : TypeId → Nat → Option (List (Nat × Nat))) (off : Nat) : List Field → Option (List (Nat × Nat))
  | [] => some []
  | f :: rest =>
    if f.name ≠ "_" then
      match sz f.type, rec f.type (off + f.offset), eqFs size sz rec off rest with
      | some s, some a, some b => if f.offset + s ≤ size ∧ 0 < s then some (a ++ b) else none
      | _, _, _ => none
    else eqFs size sz rec off rest

def eqAs (rec : Nat → Option (List (Nat × Nat))) (off s : Nat) : List Nat → Option (List (Nat × Nat))
  | [] => some []
  | i :: rest =>
    match rec (off + i * s), eqAs rec off s rest with
    | some a, some b => some (a ++ b)
    | _, _ => none

/-- the cells that '==' looks at, in its order -/
def eqCells (P : Program) : Nat → TypeId → Nat → Option (List (Nat × Nat))
  | 0, _, _ => none
  | d + 1, t, off =>
    match P.underlying t with
    | some (.int _) => some [(off, 0)]
    | some .bool => some [(off, 1)]
    | some .string => some [(off, 2)]
    | some (.struct fs) => match sizeA P t with
      | some size => if P.stoodInHeld t then none else eqFs size (sizeA P) (eqCells P d) off fs.toList
      | none => none
    | some (.array n e) =>
      match sizeA P t, sizeA P e with
      | some size, some s => if n * s ≤ size ∧ 0 < s then eqAs (eqCells P d e) off s (List.range n) else none
      | _, _ => none
    | _ => none

def optO : Option Operand → Option (Option AOpd)
  | none => some none
  | some x => (opd x).map some

def compParts (P : Program) (fields : Array Field) : List (Nat × Operand) → Option (List (Nat × Nat × AOpd))
  | [] => some []
  | (i, x) :: rest =>
    match fields[i]?, opd x, compParts P fields rest with
    | some f, some y, some r => match sizeA P f.type with | some s => some ((f.offset, s, y) :: r) | none => none
    | _, _, _ => none

def compPartsA (size : Nat) : List (Nat × Operand) → Option (List (Nat × Nat × AOpd))
  | [] => some []
  | (i, x) :: rest =>
    match opd x, compPartsA size rest with
    | some y, some r => some ((i * size, size, y) :: r)
    | _, _ => none

def compPartsS : List (Nat × Operand) → Option (List (Nat × AOpd))
  | [] => some []
  | (i, x) :: rest =>
    match opd x, compPartsS rest with
    | some y, some r => some ((i, y) :: r)
    | _, _ => none

def callable (P : Program) (f : FuncId) : Bool :=
  match P.funcs[f]? with
  | some fn => fn.body.isSome && !(fn.name == "runtime.NumGoroutine")
  | none => false

def AV.cellsD (x : AV) : List AV := (x.cells).getD []

def nilOp (neg : Bool) (a : AOpd) : AOpd → Option AOp
  | .c .nil => some (.eqnil neg a)
  | _ => none

def compOp (P : Program) (o : Oper) : Option AOp :=
  match o.op with
  | .move x | .assign x => do return .mv (← opd x)
  | .pick c a b => do return .pick (← opd c) (← opd a) (← opd b)
  | .alloc e => do return .box e (← sizeA P e) (.c (← zeroOf P e))
  | .box e x => do return .box e (← sizeA P e) (← opd x)
  | .build t parts => do
    let z ← zeroOf P t
    let zc ← z.cells
    match ← P.underlying t with
    | .struct fs => do if fs.toList.all (fun f => (P.info? f.type).isSome) then return .build zc (← compParts P fs parts.toList) else none
    | .array _ e => do return .build zc (← compPartsA (← sizeA P e) parts.toList)
    | _ => none
  | .buildSlice t n parts => do
    match ← P.underlying t with
    | .slice e => do
      let s ← sizeA P e
      if n * s > 2 ^ 24 then none else
      let z ← zeroOf P e
      let zc ← z.cells
      return .bslice e s n zc (← compPartsS parts.toList)
    | _ => none
  | .load t x => do return .load (← aggSize P t) (← opd x)
  | .store t a x => do return .store (← sizeA P t) (← opd a) (← opd x)
  | .nilCheck x => do return .nilchk (← opd x)
  | .binOp op t x y _ => do
    let a ← opd x
    let b ← opd y
    match op with
    | .eql | .neq =>
      match ← P.underlying t with
      | .int _ | .string => return .bin op a b
      | .bool => return .beq (op == .neq) a b
      | .slice _ => nilOp (op == .neq) a b
      | .struct _ | .array _ _ => do
        if P.eqGuardType P.depth t then none else
        return .eqagg (op == .neq) (← sizeA P t) (← eqCells P 100 t 0) a b
      | _ => none
    | _ => return .bin op a b
  | .unOp op _ x => do return .un op (← opd x)
  | .convert s d x => do
    let y ← opd x
    match ← P.underlying s, ← P.underlying d with
    | .int _, .int k => return .conv k y
    | .string, .string => return .convs y
    | _, _ => none
  | .makeSlice t l c => do
    match ← P.underlying t with
    | .slice e => do
      let z ← zeroOf P e
      return .mksl e (← sizeA P e) (← bytesA P e) (← z.cells) (← opd l) (← opd c)
    | _ => none
  | .slice t x lo hi mx => do
    match ← P.underlying t with
    | .slice e => do return .slice (← sizeA P e) (← opd x) (← optO lo) (← optO hi) (← optO mx)
    | .string => match mx with
      | none => do return .sstr (← opd x) (← optO lo) (← optO hi)
      | some _ => none
    | _ => none
  | .fieldAddr t x f => do
    match ← P.underlying t with
    | .struct fs => do
      let f ← fs[f]?
      if (← sizeA P f.type) = 0 then none else return .fld f.offset (← opd x)
    | _ => none
  | .field t x f => do
    match ← P.underlying t with
    | .struct fs => do
      let f ← fs[f]?
      return .field f.offset (← aggSize P f.type) (← opd x)
    | _ => none
  | .indexAddr t x i => do
    match ← P.underlying t with
    | .slice e => do return .ixa (← sizeA P e) (← opd x) (← opd i)
    | .array n e => do return .ixarr n (← sizeA P e) (← opd x) (← opd i)
    | _ => none
  | .index t x i => do
    match ← P.underlying t with
    | .array n e => do return .ixv n (← sizeA P e) (← aggSize P e) (← opd x) (← opd i)
    | .string => do return .ixs (← opd x) (← opd i)
    | _ => none
  | .extract x i => do return .extract i (← opd x)
  | .makeFunc (.func f) first caps => do
    if first.size = 0 then return .mkfn f (← caps.toList.mapM opd) else none
  | .call c =>
    match c.callee with
    | .builtin .len =>
      match c.argTypes.toList, c.args.toList with
      | [t], [x] => do
        match ← P.underlying t with
        | .slice _ => return .len (← opd x)
        | .string => return .lens (← opd x)
        | .array n _ => return .mv (.c (.p (.int .i64 n)))
        | _ => none
      | _, _ => none
    | .builtin .append =>
      match c.argTypes.toList, c.args.toList with
      | [t, t'], [s, x] => do
        if t ≠ t' then none else
        match ← P.underlying t with
        | .slice e => do
          let z ← zeroOf P e
          let zc ← z.cells
          let n ← sizeA P e
          if zc.length ≠ n then none else
          return .append e n (← bytesA P e) (← opd s) (← opd x)
        | _ => none
      | _, _ => none
    | .builtin .copy =>
      match c.argTypes.toList, c.args.toList with
      | [t, t'], [d, s] => do
        match ← P.underlying t, ← P.underlying t' with
        | .slice e, .slice _ => do return .copy (← sizeA P e) (← opd d) (← opd s)
        | _, _ => none
      | _, _ => none
    | .builtin .max => match c.args.toList with | [x, y] => do return .mm true (← opd x) (← opd y) | _ => none
    | .builtin .min => match c.args.toList with | [x, y] => do return .mm false (← opd x) (← opd y) | _ => none
    | _ => none
  | _ => none

inductive SOp where
  | op (o : AOp)
  | call (f : FuncId) (args : List AOpd)
  | callv (x : AOpd) (args : List AOpd)
  deriving Inhabited

def compCall (P : Program) (o : Oper) : Option SOp :=
  match o.op with
  | .call c =>
    match c.callee with
    | .value (.func f) => if callable P f then (c.args.toList.mapM opd).map (.call f) else none
    | .value x => match opd x, c.args.toList.mapM opd with | some y, some ys => some (.callv y ys) | _, _ => none
    | _ => none
  | _ => none

def compS (P : Program) (o : Oper) : Option SOp :=
  match compCall P o with
  | some s => some s
  | none => some (.op ((compOp P o).getD .bad))
end Go.Abs
