/- Typed values: what each stands for among the abstract values. -/
import Derived.Test.YtfdpoliibpelaaaAbsRead
set_option linter.unusedVariables false
set_option linter.unusedSimpArgs false
namespace Go.Abs

mutual
def CT.den : CT → Type
  | .bool => Bool
  | .int _ => Int
  | .str => List UInt8
  | .sl ts => List (denL ts)
def denL : List CT → Type
  | [] => Unit
  | t :: ts => t.den × denL ts
end

mutual
def CT.pv : (t : CT) → t.den → PV
  | .bool, b => .bool b
  | .int k, n => .int k n
  | .str, s => .str s
  | .sl ts, xs => .sl (List.map (pvL ts) xs)
def pvL : (ts : List CT) → denL ts → List PV
  | [], _ => []
  | t :: ts, e => t.pv e.1 :: pvL ts e.2
end

mutual
def CT.beq : CT → CT → Bool
  | .bool, .bool => true
  | .int k, .int k' => decide (k = k')
  | .str, .str => true
  | .sl ts, .sl ts' => beqL ts ts'
  | _, _ => false
def beqL : List CT → List CT → Bool
  | [], [] => true
  | t :: ts, t' :: ts' => t.beq t' && beqL ts ts'
  | _, _ => false
end

mutual
theorem CT.eq_of_beq : ∀ {a b : CT}, a.beq b = true → a = b
  | .bool, b, h => by cases b <;> simp_all [CT.beq]
  | .int k, b, h => by cases b <;> simp_all [CT.beq]
  | .str, b, h => by cases b <;> simp_all [CT.beq]
  | .sl ts, b, h => by
    cases b with
    | sl ts' =>
      simp only [CT.beq] at h
      rw [eq_of_beqL h]
    | _ => simp [CT.beq] at h
theorem eq_of_beqL : ∀ {a b : List CT}, beqL a b = true → a = b
  | [], b, h => by cases b <;> simp_all [beqL]
  | t :: ts, b, h => by
    cases b with
    | nil => simp [beqL] at h
    | cons t' ts' =>
      simp only [beqL, Bool.and_eq_true] at h
      rw [CT.eq_of_beq h.1, eq_of_beqL h.2]
end

def CT.castTo (a b : CT) (v : a.den) : Option b.den := if h : a.beq b = true then some (CT.eq_of_beq h ▸ v) else none
def castL (a b : List CT) (v : List (denL a)) : Option (List (denL b)) := if h : beqL a b = true then some (eq_of_beqL h ▸ v) else none

theorem castTo_some {a b : CT} {v : a.den} {w : b.den} (h : a.castTo b v = some w) : a.pv v = b.pv w := by
  unfold CT.castTo at h
  split at h
  · rename_i hb
    have := CT.eq_of_beq hb
    subst this
    obtain rfl := Option.some.inj h
    rfl
  · cases h
theorem castL_some {a b : List CT} {v : List (denL a)} {w : List (denL b)} (h : castL a b v = some w) : v.map (pvL a) = w.map (pvL b) := by
  unfold castL at h
  split at h
  · rename_i hb
    have := eq_of_beqL hb
    subst this
    obtain rfl := Option.some.inj h
    rfl
  · cases h

theorem pvL_length : ∀ (ts : List CT) (e : denL ts), (pvL ts e).length = ts.length
  | [], _ => rfl
  | t :: ts, e => by simp [pvL, pvL_length ts e.2]

/-- Typed values. -/
inductive TV where
  | raw (v : AV)
  | p (t : CT) (v : t.den)
  | xf (ts : List CT) (xs : List (denL ts))
  | row (t ver : Nat)
  | sl (t ver lo len : Nat) (ex : Bool)
  | ptr (t ver i off : Nat)
  | fptr (ts : List CT) (e : denL ts)
  | agg (cells : List TV)
  | tuple (vs : List TV)
  | fn (f : FuncId) (caps : List TV)
instance : Inhabited TV := ⟨.raw .any⟩

mutual
def TV.er : TV → AV
  | .raw v => v
  | .p t v => .p (t.pv v)
  | .xf ts xs => .xf (xs.map (pvL ts))
  | .row t ver => .row t ver
  | .sl t ver lo len ex => .sl t ver lo len ex
  | .ptr t ver i off => .ptr t ver i off
  | .fptr ts e => .fptr (pvL ts e)
  | .agg cs => .agg (erL cs)
  | .tuple cs => .tuple (erL cs)
  | .fn f cs => .fn f (erL cs)
def erL : List TV → List AV
  | [] => []
  | x :: xs => x.er :: erL xs
end

theorem erL_map : ∀ (xs : List TV), erL xs = xs.map TV.er
  | [] => rfl
  | x :: xs => by simp [erL, erL_map xs]
theorem erL_length (xs : List TV) : (erL xs).length = xs.length := by rw [erL_map, List.length_map]
theorem erL_get (xs : List TV) (i : Nat) : (erL xs)[i]? = xs[i]?.map TV.er := by rw [erL_map, List.getElem?_map]
theorem erL_app (xs ys : List TV) : erL (xs ++ ys) = erL xs ++ erL ys := by simp [erL_map]

/-- the cells of an element -/
def tcells : (ts : List CT) → denL ts → List TV
  | [], _ => []
  | t :: ts, e => .p t e.1 :: tcells ts e.2
theorem tcells_er : ∀ (ts : List CT) (e : denL ts), erL (tcells ts e) = (pvL ts e).map .p
  | [], _ => rfl
  | t :: ts, e => by simp [tcells, erL, pvL, TV.er, tcells_er ts e.2]

/-- constants, typed -/
def ofC : AV → TV
  | .p (.bool b) => .p .bool b
  | .p (.int k n) => .p (.int k) n
  | .p (.str s) => .p .str s
  | .row t ver => .row t ver
  | v => .raw v
def ofA : AV → TV
  | .agg cs => .agg (cs.map ofC)
  | .fn f [] => .fn f []
  | v => ofC v
theorem ofC_er (v : AV) : (ofC v).er = v := by
  unfold ofC
  split <;> simp [TV.er, CT.pv]
theorem ofA_er (v : AV) : (ofA v).er = v := by
  unfold ofA
  split
  · simp only [TV.er, erL_map, List.map_map]
    congr 1
    refine (List.map_congr_left fun x _ => ?_).trans (List.map_id _)
    exact ofC_er x
  · rfl
  · exact ofC_er v

def AOpd.tev (s : List TV) : AOpd → TV
  | .t n => s.getD n (.raw .any)
  | .c v => ofA v
theorem tev_er (s : List TV) (o : AOpd) : (o.tev s).er = o.eval (erL s) := by
  cases o with
  | t n =>
    simp only [AOpd.tev, AOpd.eval, List.getD_eq_getElem?_getD, erL_get]
    cases s[n]? <;> simp [TV.er]
  | c v => exact ofA_er v

/-- the elements of an object: each told, or a list of typed ones -/
inductive TE where
  | lit (es : List (List TV))
  | sym (ts : List CT) (xs : List (denL ts))
instance : Inhabited TE := ⟨.lit []⟩
def TE.er : TE → List (List AV)
  | .lit es => es.map erL
  | .sym ts xs => xs.map fun x => (pvL ts x).map .p
def TE.len : TE → Nat
  | .lit es => es.length
  | .sym _ xs => xs.length
theorem TE.len_er (e : TE) : e.er.length = e.len := by cases e <;> simp [TE.er, TE.len]

structure TObj where
  ver : Nat
  e : TypeId
  size : Nat
  el : TE
  deriving Inhabited
def TObj.er (o : TObj) : AObj := ⟨o.ver, o.e, o.size, o.el.er⟩
def erH (h : List TObj) : List AObj := h.map TObj.er
theorem erH_get (h : List TObj) (i : Nat) : (erH h)[i]? = h[i]?.map TObj.er := by simp [erH]
theorem erH_length (h : List TObj) : (erH h).length = h.length := by simp [erH]

def tget (h : List TObj) (t ver : Nat) : Option TObj :=
  match h[t]? with
  | some o => if o.ver = ver ∧ o.size ≠ 0 then some o else none
  | none => none
theorem tget_er {h : List TObj} {t ver : Nat} {o : TObj} (hg : tget h t ver = some o) : getRow (erH h) t ver = some o.er := by
  unfold tget at hg
  unfold getRow
  rw [erH_get]
  split at hg
  · rename_i p hp
    rw [hp]
    split at hg
    · rename_i hc
      obtain rfl := Option.some.inj hg
      simp [TObj.er, hc.1, hc.2]
    · cases hg
  · cases hg

structure TSt where
  slots : List TV
  heap : List TObj
def TSt.er (s : TSt) : St := ⟨erL s.slots, erH s.heap⟩
end Go.Abs
