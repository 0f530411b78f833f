import Derived.Test.YtdppkfgoiagepaaGreatDoorBAbsVM2
import Derived.Test.YtdppkfgoiagepaaGreatDoorBAbsClone
import Derived.Shelf.Small.Utf8
import Derived.Shelf.Small.Strs
import Derived.Shelf.LaysM
import Derived.Ground.Names2Prog
import Derived.Test.YtdppkfgoiagepaaGreatDoorProg
/- The package variables that the machine reads. -/
set_option linter.unusedVariables false
set_option linter.unusedSimpArgs false
namespace Tn
open Go Go.Abs Go.RowKit
def spc (n:Nat):Int:=match Nat.ble 9 n&&Nat.ble n 13||Nat.beq n 32 with | true=>1 | false=>0
instance gtab:GTab:=⟨fun g off=>match g with | 0=>(match Nat.blt off 256 with | true=>some (.int .u8 (spc off)) | false=>none) | _=>none⟩
instance glob:Glob:=⟨1,fun w=>∀ off,off<256→w.cell? ⟨0,off,none⟩=some (.int .u8 (spc off)),fun w w' h hb off ho=>(hb.cell (p:=⟨0,off,none⟩) Nat.zero_lt_one).trans (h off ho),fun w h g off x hx=>by
 cases g with
 | zero =>
  have hx:(match Nat.blt off 256 with | true=>some (PV.int .u8 (spc off)) | false=>none)=some x:=hx
  split at hx
  · rename_i hlt
    obtain rfl:=Option.some.inj hx
    exact⟨_,h off (by simpa using hlt),fun w' O=>.int _ _⟩
  · cases hx
 | succ g=>cases hx⟩
end Tn

/- From contracts of the model to the machine's. -/
namespace Go.Abs
open Go.RowKit (Below)
variable [GTab] [Glob]
theorem Spec.still {P:Program}{f:FuncId}{pas:List PA}{y:PV}{v:Value}(hy:∀ w O,PRel w O y v)(h:∀ (O:Nat→Prop) (w:World) (cargs:Array Value),Zgx w.heap.size w→Zdj w O pas cargs→Calls P f cargs w fun e w' => e = .returned v∧Below w.heap.size w w'):Spec P f pas [.c (.c y)]:=by
 intro O w cargs hO hgl hp
 refine (h O w cargs hgl hp).mono fun e w' he=>?_
 obtain⟨rfl,hb⟩:=he
 refine⟨v,⟨fun _=>undef,O,0,[]⟩,rfl,rfl,?_,.p _ _ (hy _ _)⟩
 exact⟨hb,Nat.le_refl _,hO,hgl,fun t o ho=>by simp [Za,Zdk,Yw] at ho,fun t t' g h1=>by simp [Za,Zdk,Yw] at h1⟩
theorem Spec.rowI {P:Program}{f:FuncId}{pas:List PA}{e:TypeId}{k:IntKind}{l:List Int}(h:∀ (O:Nat→Prop) (w:World) (cargs:Array Value),Zgx w.heap.size w→Zdj w O pas cargs→Calls P f cargs w fun x w' => ∃ v,x = .returned v∧w'.ownsRow w.heap.size e 1 v l.length (l.map (.int k))∧Below w.heap.size w w') :
    Spec P f pas [.c (.s e 1 (l.map fun n=>[.int k n]))]:=by
  intro O w cargs hO hgl hp
  refine (h O w cargs hgl hp).mono fun x w' he=>?_
  obtain⟨v,rfl,hrow,hb⟩:=he
  have hone:v.oneCell' = true:=by
   rcases hrow.2 with ⟨rfl,_⟩ | ⟨g,cap,cur,rfl,_⟩ <;> rfl
  have hobj:Za [.c (.s e 1 (l.map fun n=>[PV.int k n]))]=[⟨1,e,1,l.map fun n=>[AV.p (.int k n)]⟩]:=by
   simp [Za,Zdk,Yw]
  rw [hobj]
  refine⟨v,⟨fun _=>v,O,0,[]⟩,rfl,rfl,⟨hb,Nat.le_refl _,hO,hgl,fun t o ho=>?_,fun t t' g h1 h2 _ _=>?_⟩,?_⟩
  · cases t with
    | zero =>
     simp only [List.getElem?_cons_zero,Option.some.injEq] at ho
     subst ho
     refine .inr ⟨Nat.zero_lt_one,l.map (.int k),by simpa using hrow,fun i c hc=>?_⟩
     simp only [List.getElem?_map,Option.map_eq_some_iff] at hc
     obtain⟨n,hn,rfl⟩:=hc
     refine⟨rfl,fun j y hy=>?_⟩
     cases j with
     | zero =>
      simp only [List.getElem?_cons_zero,Option.some.injEq] at hy
      subst hy
      exact⟨.int k n,by simp [hn],.p _ _ (.int _ _)⟩
     | succ j=>simp at hy
    | succ t=>simp at ho
  · simp at h1 h2
    omega
  · refine .row 0 1 v (by simp) hone fun o ho=>?_
    simp only [List.getElem?_cons_zero,Option.some.injEq] at ho
    subst ho
    exact⟨Nat.le_refl _,fun _=>rfl⟩
def TOK (P:Program):List (FuncId×List PA×List RA)→Prop
 | []=>True
 | q::r=>Spec P q.1 q.2.1 q.2.2∧TOK P r
theorem TOK.mem {P:Program}:∀ {l:List (FuncId×List PA×List RA)},TOK P l → ∀ q∈l,Spec P q.1 q.2.1 q.2.2
 | q::r,h,x,hx=>by
  rcases List.mem_cons.1 hx with rfl | hx
  · exact h.1
  · exact TOK.mem h.2 x hx
theorem TOK.app {P:Program}:∀ {l m:List (FuncId×List PA×List RA)},TOK P l→TOK P m→TOK P (l++m)
 | [],m,_,h=>h
 | q::r,m,h,h2=>⟨h.1,TOK.app h.2 h2⟩
end Go.Abs
namespace Go.Abs
mutual
def Zm3:PV→PV→Bool
 | .bool a,.bool b=>a==b
 | .int k a,.int k' b=>decide (k=k')&&decide (a=b)
 | .str a,.str b=>decide (a=b)
 | .sl a,.sl b=>Ziv a b
 | _,_=>false
def Ziv:List (List PV)→List (List PV)→Bool
 | [],[]=>true
 | a::xs,b::ys=>match Zhp a b with | true=>Ziv xs ys | false=>false
 | _,_=>false
def Zhp:List PV→List PV→Bool
 | [],[]=>true
 | a::xs,b::ys=>match Zm3 a b with | true=>Zhp xs ys | false=>false
 | _,_=>false
end
mutual
theorem Zxk:∀ {a b:PV},Zm3 a b=true→a=b
 | .bool a,b,h=>by cases b <;> simp [Zm3] at h;rw [h]
 | .int k a,b,h=>by cases b <;> simp [Zm3] at h;rw [h.1,h.2]
 | .str a,b,h=>by cases b <;> simp [Zm3] at h;rw [h]
 | .sl a,b,h=>by
  cases b with
  | sl b=>rw [Zpn (a:=a) (b:=b) (by simpa [Zm3] using h)]
  | _=>simp [Zm3] at h
theorem Zpn:∀ {a b:List (List PV)},Ziv a b=true→a=b
 | [],b,h=>by cases b <;> simp [Ziv] at h;rfl
 | x::a,b,h=>by
  cases b with
  | nil=>simp [Ziv] at h
  | cons y b =>
   simp only [Ziv] at h
   split at h
   · rename_i hx
     rw [Zly hx,Zpn h]
   · cases h
theorem Zly:∀ {a b:List PV},Zhp a b=true→a=b
 | [],b,h=>by cases b <;> simp [Zhp] at h;rfl
 | x::a,b,h=>by
  cases b with
  | nil=>simp [Zhp] at h
  | cons y b =>
   simp only [Zhp] at h
   split at h
   · rename_i hx
     rw [Zxk hx,Zly h]
   · cases h
end
def Z5h:PA→PA→Bool
 | .c a,.c b=>Zm3 a b
 | .a a,.a b=>Zhp a b
 | .q a,.q b=>Zhp a b
 | _,_=>false
theorem Z5i {a b:PA}(h:Z5h a b=true):a=b:=by
 cases a <;> cases b <;> simp only [Z5h] at h <;> first | (rw [Zxk h]) | (rw [Zly h]) | cases h
def Zlz:List PA→List PA→Bool
 | [],[]=>true
 | a::xs,b::ys=>match Z5h a b with | true=>Zlz xs ys | false=>false
 | _,_=>false
theorem Zs8:∀ {a b:List PA},Zlz a b=true→a=b
 | [],b,h=>by cases b <;> simp [Zlz] at h;rfl
 | x::a,b,h=>by
  cases b with
  | nil=>simp [Zlz] at h
  | cons y b =>
   simp only [Zlz] at h
   split at h
   · rename_i hx
     rw [Z5i hx,Zs8 h]
   · cases h
def Zs9 (f:FuncId)(pas:List PA):List (FuncId×List PA×List RA)→Option (List RA)
 | []=>none
 | q::r=>match Nat.beq q.1 f with
  | true=>match Zlz q.2.1 pas with
   | true=>some q.2.2
   | false=>Zs9 f pas r
  | false=>Zs9 f pas r
theorem Zl0 {f:FuncId}{pas:List PA}{rs:List RA}:∀ {l:List (FuncId×List PA×List RA)},Zs9 f pas l=some rs→(f,pas,rs)∈l
 | [],h=>by cases h
 | q::r,h=>by
  simp only [Zs9] at h
  split at h
  · rename_i h1
    split at h
    · rename_i h2
      obtain⟨g,ps,qs⟩:=q
      have e1:g=f:=Nat.eq_of_beq_eq_true h1
      have e2:ps=pas:=Zs8 h2
      have e3:qs=rs:=Option.some.inj h
      subst e1;subst e2;subst e3
      exact List.mem_cons_self ..
    · exact List.mem_cons_of_mem _ (Zl0 h)
  · exact List.mem_cons_of_mem _ (Zl0 h)
end Go.Abs

/- IndexByte: the kit's contract laid at this dump. -/
namespace Go.Proofs
open Go.Shelf
def Tryz.lays137_ren:Go.Shelf.Ren:=⟨fun | 137=>158 | 217=>182 | 266=>204 | n=>n,fun | 9=>9 | 5=>5 | 3=>3 | n=>n,fun | n=>n⟩
theorem Tryz.lays137:Go.Proofs.Lays.n137 Tryz.prog Tryz.lays137_ren:={
 mixed:=by kernel_rfl
 f137:=Tryz.func158.trans (congrArg some (by kernel_rfl))
 f217:=Tryz.func182.trans (congrArg some (by kernel_rfl))
 f266:=Tryz.func204.trans (congrArg some (by kernel_rfl))
 t3:=Tryz.underlying3
 a3:=Tryz.isAgg3
 z3:=Tryz.sizeOf3
 v3:=Tryz.zeroValue3
 t5:=Tryz.underlying5
 a5:=Tryz.isAgg5
 z5:=Tryz.sizeOf5
 v5:=Tryz.zeroValue5
 t9:=Tryz.underlying9
 a9:=Tryz.isAgg9
 z9:=Tryz.sizeOf9
 v9:=Tryz.zeroValue9 }
open Go.RowKit in
theorem Tryz.strings_IndexByte (s:ByteArray)(c:Int)(w:World) :
    Calls Tryz.prog 158 #[.string s,.int .u8 c] w fun e w' => e = .returned (.int .i64 (Lib.indexByte s.data.toList c.toNat.toUInt8))∧w' = w:=Any.strings_IndexByte Tryz.lays137 s c w
end Go.Proofs
