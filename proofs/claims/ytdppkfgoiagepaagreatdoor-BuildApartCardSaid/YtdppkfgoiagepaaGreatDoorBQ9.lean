import Derived.Test.YtdppkfgoiagepaaGreatDoorBQG
/- The code's builder gives what the reference's gives. -/
set_option linter.unusedVariables false
set_option linter.unusedSimpArgs false
namespace Tg
open Go.Abs (Ze Zt tmm)
theorem b46 (q:Qr)(ops:List Op2)(chs:List Ch5)(ts:List Tk)(hl:chs.length≤1000)(hr:∀ c∈chs,1≤c.2.2.2.2.1∧c.2.2.2.2.1≤8):∀ (rest:List Ch5) (i n:Nat),chs.drop i=rest→i≤chs.length→rest.length+1≤n →
    Yp n q.1 q.2.1 q.2.2.1 q.2.2.2.1 q.2.2.2.2.1 q.2.2.2.2.2.1 q.2.2.2.2.2.2.1 q.2.2.2.2.2.2.2.1 q.2.2.2.2.2.2.2.2.1 q.2.2.2.2.2.2.2.2.2.1 ops chs ts ((chs.take i).map qOf) chs (chs.length:Int) (i:Int) =
     some ((q.1,q.2.1,q.2.2.1,q.2.2.2.1,q.2.2.2.2.1,q.2.2.2.2.2.1,q.2.2.2.2.2.2.1,q.2.2.2.2.2.2.2.1,q.2.2.2.2.2.2.2.2.1,q.2.2.2.2.2.2.2.2.2.1,ops,chs,ts,chs.map qOf,()),0,())
  | [],i,n,h,hi,hn=>by
   obtain⟨m,rfl⟩:∃ m,n=m+1:=⟨n - 1,by simp at hn;omega⟩
   have:=Za4 h hi
   subst this
   simp only [Zgv,iG (show ¬ chs.length<chs.length by omega),cond_false,List.take_length]
  | e::rest,i,n,h,hi,hn=>by
   obtain⟨m,rfl⟩:∃ m,n=m+1:=⟨n - 1,by simp at hn;omega⟩
   obtain⟨h1,h2,h3⟩:=Qs h
   have ih:=b46 q ops chs ts hl hr rest (i+1) m h3 (by omega) (by simp at hn;omega)
   obtain⟨r1,r2⟩:=hr e (List.mem_of_getElem? h2)
   have hn:Zex e.2.2.2.2.1=some (qOf e,0,()):=Ybq r1 r2
   simp only [Zgv,iL h1,iN,cond_true,cond_false,Int.toNat_natCast,h2,hn,Zck,Ze6 (show ((chs.take i).map qOf).length+[qOf e].length≤1000000 by simp;omega) (show 32≤1000 by omega),Zyc qOf h2,wS (show i<1000000000000 by omega),ih]
theorem bb1 {inp:Inp}(hi:Zlg inp)(h4:inp.length≤4){N:Int}(a:0≤N)(b:N<(inp.length:Int)):∃ l,Zgj N (inp,())=some ((1,N,0,[],[],[],l,[],[],()),0,())∧(inp.getD N.toNat ([],())).1=l:=by
 obtain⟨l,g1,g2,g3⟩:=Z9a hi a b
 exact⟨l,by rw [Zqm];simp only [dT a,cond_true,g1,Z9c a (by omega) g3],g2⟩
theorem bb2 (q:Qr){inp:Inp}(hq:q.2.2.1.length=inp.length)(h1:1≤inp.length)(h4:inp.length≤4){N:Int}(a:0≤N)(b:N<3):Zgk N (q.1,q.2.1,q.2.2.1,q.2.2.2.1,q.2.2.2.2.1,q.2.2.2.2.2.1,q.2.2.2.2.2.2.1,q.2.2.2.2.2.2.2.1,q.2.2.2.2.2.2.2.2.1,q.2.2.2.2.2.2.2.2.2.1,())=some ((4,N,0,[],List.replicate inp.length (low,()),[],[],[],[],()),0,()):=by
 rw [Zqn]
 simp only [Int.ofNat_eq_natCast,hq,Ybp a b h1 h4]
theorem b3 (N:Int):Zgl N=some ((6,0,0,[],[],[],[],[],[],()),0,()):=by
 rw [Zqo,Zql]
 rfl
theorem b4 (N:Int):Zgm N=some ((7,0,0,[],[],[],[],[],[],()),0,()):=by
 rw [Zqp,Zql]
 rfl
theorem bs41 (q:Qr)(inp:Inp)(ops:List Op2)(chs:List Ch5)(ts:List Tk)(ht:ts.length≤1000){i:Nat}(hi:i<1000)(m:Nat)(t:Tk) :
    Zq (m+1) q.1 q.2.1 q.2.2.1 q.2.2.2.1 q.2.2.2.2.1 q.2.2.2.2.2.1 q.2.2.2.2.2.2.1 q.2.2.2.2.2.2.2.1 q.2.2.2.2.2.2.2.2.1 q.2.2.2.2.2.2.2.2.2.1 inp chs q.1 q.2.1 q.2.2.1 q.2.2.2.1 q.2.2.2.2.1 q.2.2.2.2.2.1 q.2.2.2.2.2.2.1 q.2.2.2.2.2.2.2.1 q.2.2.2.2.2.2.2.2.1 q.2.2.2.2.2.2.2.2.2.1 ops chs ts t.1 t.2.1 t.2.2.1 t.2.2.2.1 t.2.2.2.2.1 t.2.2.2.2.2.1 t.2.2.2.2.2.2.1 t.2.2.2.2.2.2.2.1 t.2.2.2.2.2.2.2.2.1 ops (ops.length:Int) (i:Int) =
     Zw m q.1 q.2.1 q.2.2.1 q.2.2.2.1 q.2.2.2.2.1 q.2.2.2.2.2.1 q.2.2.2.2.2.2.1 q.2.2.2.2.2.2.2.1 q.2.2.2.2.2.2.2.2.1 q.2.2.2.2.2.2.2.2.2.1 inp chs q.1 q.2.1 q.2.2.1 q.2.2.2.1 q.2.2.2.2.1 q.2.2.2.2.2.1 q.2.2.2.2.2.2.1 q.2.2.2.2.2.2.2.1 q.2.2.2.2.2.2.2.2.1 q.2.2.2.2.2.2.2.2.2.1 ops chs (ts++[t]) ops (ops.length:Int) ((i+1:Nat):Int):=by
  obtain⟨a,b,c,d,e,f,g,h,j,u⟩:=t
  simp only [Znk,Ze6 (show ts.length+[((a,b,c,d,e,f,g,h,j,()):Tk)].length≤1000000 by simp;omega) (show 168≤1000 by omega),cond_true,wS (show i<1000000000000 by omega)]
theorem bs35 (q:Qr){inp:Inp}(hi:Zlg inp)(hq:q.2.2.1.length=inp.length)(h1:1≤inp.length)(h4:inp.length≤4)(ops:List Op2)(chs:List Ch5)(ts:List Tk)(hl:ops.length≤1000)(ht:ts.length≤1000){i:Nat}(hi' : i<ops.length){e:Op2}(he:ops[i]? = some e)(ho:okOp inp.length e)(m:Nat) :
    Zw (m+1+1) q.1 q.2.1 q.2.2.1 q.2.2.2.1 q.2.2.2.2.1 q.2.2.2.2.2.1 q.2.2.2.2.2.2.1 q.2.2.2.2.2.2.2.1 q.2.2.2.2.2.2.2.2.1 q.2.2.2.2.2.2.2.2.2.1 inp chs q.1 q.2.1 q.2.2.1 q.2.2.2.1 q.2.2.2.2.1 q.2.2.2.2.2.1 q.2.2.2.2.2.2.1 q.2.2.2.2.2.2.2.1 q.2.2.2.2.2.2.2.2.1 q.2.2.2.2.2.2.2.2.2.1 ops chs ts ops (ops.length:Int) (i:Int) =
     Zw m q.1 q.2.1 q.2.2.1 q.2.2.2.1 q.2.2.2.2.1 q.2.2.2.2.2.1 q.2.2.2.2.2.2.1 q.2.2.2.2.2.2.2.1 q.2.2.2.2.2.2.2.2.1 q.2.2.2.2.2.2.2.2.2.1 inp chs q.1 q.2.1 q.2.2.1 q.2.2.2.1 q.2.2.2.2.1 q.2.2.2.2.2.1 q.2.2.2.2.2.2.1 q.2.2.2.2.2.2.2.1 q.2.2.2.2.2.2.2.2.1 q.2.2.2.2.2.2.2.2.2.1 ops chs (ts++[Z5 inp.length inp e]) ops (ops.length:Int) ((i+1:Nat):Int):=by
  have h41:=bs41 q inp ops chs ts ht (show i<1000 by omega) m
  obtain⟨k,N,u⟩:=e
  rw [Zgu]
  generalize hJ:Zw m q.1 q.2.1 q.2.2.1 q.2.2.2.1 q.2.2.2.2.1 q.2.2.2.2.2.1 q.2.2.2.2.2.2.1 q.2.2.2.2.2.2.2.1 q.2.2.2.2.2.2.2.2.1 q.2.2.2.2.2.2.2.2.2.1 inp chs q.1 q.2.1 q.2.2.1 q.2.2.2.1 q.2.2.2.2.1 q.2.2.2.2.2.1 q.2.2.2.2.2.2.1 q.2.2.2.2.2.2.2.1 q.2.2.2.2.2.2.2.2.1 q.2.2.2.2.2.2.2.2.2.1 ops chs (ts++[Z5 inp.length inp (k,N,u)]) ops (ops.length:Int) ((i+1:Nat):Int)=R
  generalize hJ41:Zq (m+1)=J41 at h41 ⊢
  generalize Zw (m+1)=J35
  generalize Xt (m+1)=J33
  generalize Yf (m+1)=J9
  generalize Yo (m+1)=J11
  generalize Yp (m+1)=J46
  rcases ho with ⟨e,a,b⟩ | ⟨e | e,a,b⟩ | ⟨e | e,a,b⟩ | e | e
  · simp only at e a b
    subst e
    obtain⟨l,hb,hl⟩:=bb1 hi h4 a b
    have hk:Z5 inp.length inp (1,N,u)=(1,N,0,[],[],[],l,[],[],()):=by rw [← hl];rfl
    rw [hk,← h41] at hJ
    simp only [iL hi',iN,cond_true,cond_false,Int.toNat_natCast,he,show Go.IntKind.wrap Go.IntKind.u8 ((1:Int) - (1:Int))=0 from rfl,show decide ((0:Int)≤0)=true from rfl,show decide (Int.toNat (0:Int)=6)=false from rfl,show decide (Int.toNat (0:Int)=5)=false from rfl,show decide (Int.toNat (0:Int)=4)=false from rfl,show decide (Int.toNat (0:Int)=3)=false from rfl,show decide (Int.toNat (0:Int)=2)=false from rfl,show decide (Int.toNat (0:Int)=1)=false from rfl,show decide (Int.toNat (0:Int)=0)=true from rfl,hb,Zck,List.isEmpty_nil]
    exact hJ
  · simp only at e a b
    subst e
    have hk:Z5 inp.length inp (2,N,u)=(2,N,0,[],[(low,())],[],[],[],[],()):=rfl
    rw [hk,← h41] at hJ
    simp only [iL hi',iN,cond_true,cond_false,Int.toNat_natCast,he,show Go.IntKind.wrap Go.IntKind.u8 ((2:Int) - (1:Int))=1 from rfl,show decide ((0:Int)≤1)=true from rfl,show decide (Int.toNat (1:Int)=6)=false from rfl,show decide (Int.toNat (1:Int)=5)=false from rfl,show decide (Int.toNat (1:Int)=4)=false from rfl,show decide (Int.toNat (1:Int)=3)=false from rfl,show decide (Int.toNat (1:Int)=2)=false from rfl,show decide (Int.toNat (1:Int)=1)=true from rfl,Ybm a b,Zck]
    exact hJ
  · simp only at e a b
    subst e
    have hk:Z5 inp.length inp (3,N,u)=(3,N,0,[],[],[],[],[],[],()):=rfl
    rw [hk,← h41] at hJ
    simp only [iL hi',iN,cond_true,cond_false,Int.toNat_natCast,he,show Go.IntKind.wrap Go.IntKind.u8 ((3:Int) - (1:Int))=2 from rfl,show decide ((0:Int)≤2)=true from rfl,show decide (Int.toNat (2:Int)=6)=false from rfl,show decide (Int.toNat (2:Int)=5)=false from rfl,show decide (Int.toNat (2:Int)=4)=false from rfl,show decide (Int.toNat (2:Int)=3)=false from rfl,show decide (Int.toNat (2:Int)=2)=true from rfl,Ybn a b,Zck]
    exact hJ
  · simp only at e a b
    subst e
    have hb:=bb2 q hq h1 h4 a b
    have hk:Z5 inp.length inp (4,N,u)=(4,N,0,[],List.replicate inp.length (low,()),[],[],[],[],()):=rfl
    rw [hk,← h41] at hJ
    simp only [iL hi',iN,cond_true,cond_false,Int.toNat_natCast,he,show Go.IntKind.wrap Go.IntKind.u8 ((4:Int) - (1:Int))=3 from rfl,show decide ((0:Int)≤3)=true from rfl,show decide (Int.toNat (3:Int)=6)=false from rfl,show decide (Int.toNat (3:Int)=5)=false from rfl,show decide (Int.toNat (3:Int)=4)=false from rfl,show decide (Int.toNat (3:Int)=3)=true from rfl,hb,Zck,List.isEmpty_nil]
    exact hJ
  · simp only at e a b
    subst e
    have hk:Z5 inp.length inp (5,N,u)=(5,N,0,[],[(low,()),(low,())],[],[],[],[],()):=rfl
    rw [hk,← h41] at hJ
    simp only [iL hi',iN,cond_true,cond_false,Int.toNat_natCast,he,show Go.IntKind.wrap Go.IntKind.u8 ((5:Int) - (1:Int))=4 from rfl,show decide ((0:Int)≤4)=true from rfl,show decide (Int.toNat (4:Int)=6)=false from rfl,show decide (Int.toNat (4:Int)=5)=false from rfl,show decide (Int.toNat (4:Int)=4)=true from rfl,Ybo a b,Zck]
    exact hJ
  · simp only at e
    subst e
    have hk:Z5 inp.length inp (6,N,u)=(6,0,0,[],[],[],[],[],[],()):=rfl
    rw [hk,← h41] at hJ
    simp only [iL hi',iN,cond_true,cond_false,Int.toNat_natCast,he,show Go.IntKind.wrap Go.IntKind.u8 ((6:Int) - (1:Int))=5 from rfl,show decide ((0:Int)≤5)=true from rfl,show decide (Int.toNat (5:Int)=6)=false from rfl,show decide (Int.toNat (5:Int)=5)=true from rfl,b3 N,Zck]
    exact hJ
  · simp only at e
    subst e
    have hk:Z5 inp.length inp (7,N,u)=(7,0,0,[],[],[],[],[],[],()):=rfl
    rw [hk,← h41] at hJ
    simp only [iL hi',iN,cond_true,cond_false,Int.toNat_natCast,he,show Go.IntKind.wrap Go.IntKind.u8 ((7:Int) - (1:Int))=6 from rfl,show decide ((0:Int)≤6)=true from rfl,show decide (Int.toNat (6:Int)=6)=true from rfl,b4 N,Zck]
    exact hJ
theorem b35 (q:Qr){inp:Inp}(hi:Zlg inp)(hq:q.2.2.1.length=inp.length)(g1:1≤inp.length)(g4:inp.length≤4)(ops:List Op2)(chs:List Ch5)(hl:ops.length≤1000)(hl2:chs.length≤1000)(ho:∀ o∈ops,okOp inp.length o)(hr:∀ c∈chs,1≤c.2.2.2.2.1∧c.2.2.2.2.1≤8):∀ (rest:List Op2) (i n:Nat),ops.drop i=rest→i≤ops.length→2 * rest.length+2000≤n →
    Zw n q.1 q.2.1 q.2.2.1 q.2.2.2.1 q.2.2.2.2.1 q.2.2.2.2.2.1 q.2.2.2.2.2.2.1 q.2.2.2.2.2.2.2.1 q.2.2.2.2.2.2.2.2.1 q.2.2.2.2.2.2.2.2.2.1 inp chs q.1 q.2.1 q.2.2.1 q.2.2.2.1 q.2.2.2.2.1 q.2.2.2.2.2.1 q.2.2.2.2.2.2.1 q.2.2.2.2.2.2.2.1 q.2.2.2.2.2.2.2.2.1 q.2.2.2.2.2.2.2.2.2.1 ops chs ((ops.take i).map (Z5 inp.length inp)) ops (ops.length:Int) (i:Int) =
     some ((q.1,q.2.1,q.2.2.1,q.2.2.2.1,q.2.2.2.2.1,q.2.2.2.2.2.1,q.2.2.2.2.2.2.1,q.2.2.2.2.2.2.2.1,q.2.2.2.2.2.2.2.2.1,q.2.2.2.2.2.2.2.2.2.1,ops,chs,ops.map (Z5 inp.length inp),chs.map qOf,()),0,())
  | [],i,n,h,hi',hn=>by
   obtain⟨m,rfl⟩:∃ m,n=m+1+1:=⟨n - 2,by simp at hn;omega⟩
   have:=Za4 h hi'
   subst this
   have hq:=b46 q ops chs (ops.map (Z5 inp.length inp)) hl2 hr chs 0 m rfl (by omega) (by simp at hn;omega)
   simp only [Zgu,iG (show ¬ ops.length<ops.length by omega),cond_false,List.take_length,Znj,Int.ofNat_eq_natCast]
   rw [List.take_zero,List.map_nil,show ((0:Nat):Int)=0 from rfl] at hq
   exact hq
  | e::rest,i,n,h,hi',hn=>by
   obtain⟨m,rfl⟩:∃ m,n=m+1+1:=⟨n - 2,by simp at hn;omega⟩
   obtain⟨h1,h2,h3⟩:=Qs h
   have ih:=b35 q hi hq g1 g4 ops chs hl hl2 ho hr rest (i+1) m h3 (by omega) (by simp at hn;omega)
   have hs:=bs35 q hi hq g1 g4 ops chs ((ops.take i).map (Z5 inp.length inp)) hl (by simp;omega) h1 h2 (ho e (List.mem_of_getElem? h2)) m
   rw [hs,Zyc (Z5 inp.length inp) h2,ih]
theorem b11 (q:Qr)(inp:Inp)(p r:Int)(hl:inp.length≤1000):∀ (rest:Inp) (i n:Nat),inp.drop i=rest→i≤inp.length→rest.length+5000≤n →
    ∃ m,4000≤m∧Yo n p r q.1 q.2.1 q.2.2.1 q.2.2.2.1 q.2.2.2.2.1 q.2.2.2.2.2.1 q.2.2.2.2.2.2.1 q.2.2.2.2.2.2.2.1 q.2.2.2.2.2.2.2.2.1 q.2.2.2.2.2.2.2.2.2.1 inp inp (inp.length:Int) (i:Int)=bif Qj rest != 0 then some (zM,Qj rest,()) else Yf m p r q.1 q.2.1 q.2.2.1 q.2.2.2.1 q.2.2.2.2.1 q.2.2.2.2.2.1 q.2.2.2.2.2.2.1 q.2.2.2.2.2.2.2.1 q.2.2.2.2.2.2.2.2.1 q.2.2.2.2.2.2.2.2.2.1 inp
  | [],i,n,h,hi,hn=>by
   obtain⟨m,rfl⟩:∃ m,n=m+1:=⟨n - 1,by simp at hn;omega⟩
   have:=Za4 h hi
   refine⟨m,by simp at hn;omega,?_⟩
   rw [show Qj ([]:Inp)=0 from rfl,Zck,cond_false]
   simp only [Zgt,iG (show ¬ i<inp.length by omega),cond_false]
  | e::rest,i,n,h,hi,hn=>by
   obtain⟨m,rfl⟩:∃ m,n=m+1:=⟨n - 1,by simp at hn;omega⟩
   obtain⟨h1,h2,h3⟩:=Qs h
   obtain⟨m',hm,ih⟩:=b11 q inp p r hl rest (i+1) m h3 (by omega) (by simp at hn;omega)
   refine⟨m',hm,?_⟩
   have hf:Qj (e::rest)=bif Zcj e.1 != 0 then Zcj e.1 else Qj rest:=rfl
   rw [hf]
   rw [Zgt]
   generalize Yf m' = J9' at ih ⊢
   generalize Yo m=J11 at ih ⊢
   generalize Yf m=J9
   generalize Xt m=J33
   generalize Zw m=J35
   generalize Zq m=J41
   generalize Yp m=J46
   simp only [iL h1,iN,cond_true,cond_false,Int.toNat_natCast,h2,Z67,wS (show i<1000000000000 by omega),ih]
   cases he:(Zcj e.1 != 0) with
   | true =>
    rw [cond_true,cond_true,he,cond_true]
    rfl
   | false=>rw [cond_false,cond_false]
end Tg

/- The law of the builder, in plain terms: the code's machine and error are the reference's. -/
namespace Tg
open Go.Abs (Ze Zt tmm)
theorem Z7a {n P:Nat}(hn:1≤n∧n≤4)(hP:1≤P∧P≤3){len p late:Int}(hlen:len=(n:Int))(hp:p=(P:Int))(key join side:Bool)(hl:late=bif side then 2 else 1)(room:Int) :
    Xz fuel 1 [] len 0 p join key late room len=some ((opsG n (bif key then P else 1) key join side,chG n (bif key then P else 1) key side room,()),0,()):=by
  subst hlen
  subst hp
  subst hl
  exact Z9b n P hn hP key join side room
theorem Z2e (s:List (Int×Unit))(q:Qr)(hc:Zec (s,q)=some (0,()))(p r:Int) :
    Zle (s,q) p r=bif prE p r != 0 then some (([],[],()),prE p r,()) else Xz fuel 1 [] (Int.ofNat q.2.2.1.length) 0 p q.2.2.2.1 q.2.2.2.2.2.2.2.2.1 q.2.2.2.2.2.2.2.2.2.1 r (Int.ofNat q.2.2.1.length):=by
  rw [Z0c]
  generalize Xz fuel=J19
  simp only [hc,Zck,cond_false]
  unfold prE
  cases decide (p<1) <;> cases decide (p>3) <;> cases decide (r<1) <;> cases decide (r>8) <;> rfl
theorem Z9d {q:Qr}{inp:Inp}{p r:Int}(s:List (Int×Unit))(hc:Zec (s,q)=some (0,()))(e1:(chkQ q).2.1=0)(e2:inp.length=q.2.2.1.length)(h0:prE p r=0) :
    Zle (s,q) p r=some ((opsG inp.length (partsOf q p) q.2.2.2.2.2.2.2.2.1 q.2.2.2.1 (q.2.2.2.2.2.2.2.2.2.1==2),chG inp.length (partsOf q p) q.2.2.2.2.2.2.2.2.1 (q.2.2.2.2.2.2.2.2.2.1==2) r,()),0,()):=by
  have h:=Z2e s q hc p r
  rw [h0,Zck,cond_false] at h
  obtain⟨p1,p2,r1,r2⟩:=prE0 h0
  have hl:q.2.2.2.2.2.2.2.2.2.1=bif (q.2.2.2.2.2.2.2.2.2.1==2) then 2 else 1:=by
   rcases Z3k (Z2c e1) with h | h <;> rw [h] <;> rfl
  have h5:=Zqs (Zmd (Z2c e1))
  have hg:=Z7a (n:=inp.length) (P:=p.toNat) (by rw [e2];exact h5) ⟨by omega,by omega⟩ (len:=Int.ofNat q.2.2.1.length) (by rw [e2];rfl) (show p=(p.toNat:Int) by omega) q.2.2.2.2.2.2.2.2.1 q.2.2.2.1 (q.2.2.2.2.2.2.2.2.2.1==2) hl r
  exact h.trans hg
theorem b9 {q:Qr}{inp:Inp}{p r:Int}(e1:(chkQ q).2.1=0)(e2:inp.length=q.2.2.1.length)(hi:Zlg inp)(h1:q.2.1.length≤1000)(h2:q.2.2.1.length≤1000)(h3:q.2.2.2.2.1.length≤1000){m:Nat}(hm:4000≤m) :
    Yf m p r q.1 q.2.1 q.2.2.1 q.2.2.2.1 q.2.2.2.2.1 q.2.2.2.2.2.1 q.2.2.2.2.2.2.1 q.2.2.2.2.2.2.2.1 q.2.2.2.2.2.2.2.2.1 q.2.2.2.2.2.2.2.2.2.1 inp=some (bif prE p r != 0 then zM else mOf q inp p r,prE p r,()):=by
  obtain⟨k,rfl⟩:∃ k,m=k+1:=⟨m - 1,by omega⟩
  obtain⟨s,hp,hc⟩:=Z3j e1 h1 h2 h3
  have hp' : Znx (q.1,q.2.1,q.2.2.1,q.2.2.2.1,q.2.2.2.2.1,q.2.2.2.2.2.1,q.2.2.2.2.2.2.1,q.2.2.2.2.2.2.2.1,q.2.2.2.2.2.2.2.2.1,q.2.2.2.2.2.2.2.2.2.1,())=some ((s,q),0,()):=hp
  have h5:=Zqs (Zmd (Z2c e1))
  rw [Zqq]
  generalize hJ:Zw k=J35
  generalize Yf k=J9
  generalize Yo k=J11
  generalize Xt k=J33
  generalize Zq k=J41
  generalize Yp k=J46
  cases he:(prE p r != 0) with
  | true =>
   have hg:=Z2e s q hc p r
   rw [he,cond_true] at hg
   simp only [hp',Zck,cond_false,hg,he,cond_true]
   rfl
  | false =>
   have h0:prE p r=0:=by simpa using he
   have hg:=Z9d s hc e1 e2 h0
   obtain⟨p1,p2,r1,r2⟩:=prE0 h0
   obtain⟨P1,P2⟩:=Zgo q ⟨p1,p2⟩
   have n1:1≤inp.length:=by omega
   have n2:inp.length≤4:=by omega
   obtain⟨o1,o2⟩:=Zvx inp.length (partsOf q p) ⟨n1,n2⟩ ⟨P1,P2⟩ q.2.2.2.2.2.2.2.2.1 q.2.2.2.1 (q.2.2.2.2.2.2.2.2.2.1==2)
   obtain⟨c1,c2⟩:=Zqr inp.length (partsOf q p) ⟨n1,n2⟩ ⟨P1,P2⟩ q.2.2.2.2.2.2.2.2.1 (q.2.2.2.2.2.2.2.2.2.1==2) r
   have hb:=b35 q hi e2.symm n1 n2 (opsG inp.length (partsOf q p) q.2.2.2.2.2.2.2.2.1 q.2.2.2.1 (q.2.2.2.2.2.2.2.2.2.1==2)) (chG inp.length (partsOf q p) q.2.2.2.2.2.2.2.2.1 (q.2.2.2.2.2.2.2.2.2.1==2) r) (by omega) (by omega) o2 (fun c hc=>by rw [c2 c hc];exact⟨r1,r2⟩) (opsG inp.length (partsOf q p) q.2.2.2.2.2.2.2.2.1 q.2.2.2.1 (q.2.2.2.2.2.2.2.2.2.1==2)) 0 k rfl (by omega) (by omega)
   rw [hJ,List.take_zero,List.map_nil,show ((0:Nat):Int)=0 from rfl] at hb
   simp only [hp',Zck,cond_false,hg,Int.ofNat_eq_natCast,Zbw (show q.2.1.length≤1000000 by omega) (show 40≤1000 by omega),Zbw (show q.2.2.1.length≤1000000 by omega) (show 8≤1000 by omega),Zbw (show q.2.2.2.2.1.length≤1000000 by omega) (show 40≤1000 by omega),hb]
   rw [h0]
   rfl
theorem Zyd (q:Qr)(inp:Inp)(p r:Int)(hl:inp.length≤1000)(h1:q.2.1.length≤1000)(h2:q.2.2.1.length≤1000)(h3:q.2.2.2.2.1.length≤1000):Zar q inp p r=some (bif askE q inp p r != 0 then zM else mOf q inp p r,askE q inp p r,()):=by
 obtain⟨n,hn⟩:=Zan
 obtain⟨m,hm,hb⟩:=b11 q inp p r hl inp 0 fuel rfl (by omega) (by rw [hn];omega)
 rw [show ((0:Nat):Int)=0 from rfl] at hb
 have h9:=fun a b c=>b9 (q:=q) (inp:=inp) (p:=p) (r:=r) a b c h1 h2 h3 hm
 rw [Zru]
 generalize Yf m=J9' at hb h9
 generalize Yo fuel=J11 at hb ⊢
 generalize Yf fuel=J9
 generalize Xt fuel=J33
 generalize Zw fuel=J35
 generalize Zq fuel=J41
 generalize Yp fuel=J46
 simp only [Zmc,Int.ofNat_eq_natCast,hb]
 unfold askE
 cases hc:((chkQ q).2.1 != 0) with
 | true =>
  simp only [cond_true,hc]
  rfl
 | false =>
  simp only [cond_false]
  cases hd:((inp.length:Int) != (q.2.2.1.length:Int)) with
  | true=>rfl
  | false =>
   have e2:inp.length=q.2.2.1.length:=by
    have:(inp.length:Int)=(q.2.2.1.length:Int):=by simpa using hd
    omega
   simp only [cond_false]
   cases hf:(Qj inp != 0) with
   | true =>
    simp only [cond_true,hf]
   | false =>
    simp only [cond_false]
    exact h9 (by simpa using hc) e2 (Zme (by simpa using hf))
end Tg
