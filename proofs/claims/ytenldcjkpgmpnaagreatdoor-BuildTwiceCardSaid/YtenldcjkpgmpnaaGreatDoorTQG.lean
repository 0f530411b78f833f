import Derived.Test.YtenldcjkpgmpnaaGreatDoorTPK
import Derived.Test.YtenldcjkpgmpnaaGreatDoorTQz1
import Derived.Test.YtenldcjkpgmpnaaGreatDoorTMW
/- Events: what each check says of them. -/
set_option linter.unusedVariables false
set_option linter.unusedSimpArgs false
namespace Tg
open Go.Abs (Zb Zf tmm)
abbrev Ev:=Bool×Int×Int×Int×Int×Unit
def tmB (t:Int):Bool:=decide (t >= -1099511627776)&&decide (t<=1099511627776)
def zR (e:Ev):Bool:=e.2.2.1==0&&(e.2.2.2.1==0&&(e.2.2.2.2.1==0&&true))
def evOk (e:Ev):Bool:=bif e.1 then zR e&&(tmB e.2.1||e.2.1==9223372036854775807) else e.2.1==0&&tmB e.2.2.2.1
theorem Ytt (t:Int):Zft t=some (tmB t,()):=by rw [Z6p];unfold tmB;cases decide (t >= -1099511627776) <;> rfl
theorem Yqk {a b:Int}:decide (a<b) = !decide (a>=b):=by
 by_cases h:a<b
 . rw [dT h,dF (by omega)];rfl
 . rw [dF h,dT (by omega)];rfl
theorem Yql {a b:Int}:decide (a>b) = !decide (a<=b):=by
 by_cases h:a>b
 . rw [dT h,dF (by omega)];rfl
 . rw [dF h,dT (by omega)];rfl
theorem Z3k (e:Ev):evOk e=evtB e:=by unfold evOk evtB zR Zpn;have h:∀ t,tmB t=Zcm t:=fun t=>rfl;rw [h,h];cases e.1 <;> cases (e.2.2.1==0) <;> cases (e.2.2.2.1==0) <;> cases (e.2.2.2.2.1==0) <;> cases (e.2.1==0) <;> cases (e.2.1==9223372036854775807) <;> cases Zcm e.2.1 <;> cases Zcm e.2.2.2.1 <;> rfl
theorem mev (e:Ev):Zb3 e=some (bif evOk e then 0 else 8,()):=by rw [Z3k];exact Yb0 e

theorem Z0i (l:List Ev)(hl:l.length<=1000):∀ (rest:List Ev) (i n:Nat),l.drop i=rest->i<=l.length->rest.length+1<=n->Zb6 n l (l.length:Int) (i:Int)=some (bif rest.all evOk then 0 else 8,())
 | [],i,n,h,hi,hn=>by obtain⟨m,rfl⟩:∃ m,n=m+1:=⟨n - 1,by simp at hn;omega⟩;have:=Zc6 h hi;simp only [Znv,iG (show ¬ i<l.length by omega),cond_false,List.all_nil,cond_true]
 | e::rest,i,n,h,hi,hn=>by obtain⟨m,rfl⟩:∃ m,n=m+1:=⟨n - 1,by simp at hn;omega⟩;obtain⟨h1,h2,h3⟩:=Zc5 h;have ih:=Z0i l hl rest (i+1) m h3 (by omega) (by simp at hn;omega);simp only [Znv,iL h1,iN,cond_true,J0l,h2,Ytt,wS (show i<1000000000000 by omega),ih,List.all_cons];unfold evOk zR;cases e.1 <;> cases (e.2.2.1==0&&(e.2.2.2.1==0&&(e.2.2.2.2.1==0&&true))) <;> cases (e.2.1==0) <;> cases (e.2.1==9223372036854775807) <;> cases tmB e.2.1 <;> cases tmB e.2.2.2.1 <;> rfl
def Zdj (l:List Ev):Int:=bif decide ((l.length:Int)>60) then 4 else bif l.all evOk then 0 else 8
theorem Yi3 (l:List Ev):Zom l=some (Zdj l,()):=by
 rw [Z2v];unfold Zdj;by_cases h:(l.length:Int)>60
 . simp only [J0g,dT h,cond_true]
 . obtain⟨n,hn⟩:=Zb0;simp only [J0g,dF h,cond_false];exact Z0i l (by omega) l 0 fuel rfl (by omega) (by rw [hn];omega)
end Tg

/- Plans: the steps, and that a plan that was made is right. -/
namespace Tg
open Go.Abs (Zb Zf tmm)
theorem Zcq {α:Type}{b:Nat}{l:List α}(h:l.length<=1000000)(hb:b<=1000):Zf b l=some (l,()):=by unfold Zf;rw [Qi h hb,cond_true]
def Z3l (w k j s:Bool):List (Int×Unit):=[(1,()),(2,())]++(bif w then [(3,())] else [])++[(4,())]++(bif k then [(5,())] else [])++[(6,())]++(bif j then [(8,())] else [(7,())])++[(9,())]++(bif s then [(10,())] else [])
theorem ps_w (w k j:Bool)(l:Int):Zel fuel j k l (bif w then [(1,()),(2,())]++[(3,())] else [(1,()),(2,())])=(bif l==2 then some (Z3l w k j true,()) else some (Z3l w k j false,())):=by obtain⟨n,hn⟩:=Zb0;rw [hn,show n+1000000000000=(n+999999999997)+1+1+1 from rfl,Zx3];cases w <;> cases k <;> cases j <;> simp [Zx4,Zx5,Z3l,Zb,Go.Abs.Zx,Go.maxLen, *]
theorem Zjg (w k j s:Bool):(Z3l w k j s).length<=20:=by cases w <;> cases k <;> cases j <;> cases s <;> decide
theorem Ytu (q:Qr):∃ s,Zi3 q=some (s,())/\s.length<=20:=by
 have h:=ps_w (decide (Int.ofNat q.2.2.2.2.1.length>0)) q.2.2.2.2.2.2.2.2.1 q.2.2.2.1 q.2.2.2.2.2.2.2.2.2.1;rw [Z2w];generalize decide (Int.ofNat q.2.2.2.2.1.length>0)=w at h ⊢;cases w with
 | true =>
  simp only [cond_true] at h ⊢;rw [h];cases (q.2.2.2.2.2.2.2.2.2.1==2) with
  | true=>exact⟨_,rfl,Zjg _ _ _ _⟩
  | false=>exact⟨_,rfl,Zjg _ _ _ _⟩
 | false =>
  simp only [cond_false] at h ⊢;rw [h];cases (q.2.2.2.2.2.2.2.2.2.1==2) with
  | true=>exact⟨_,rfl,Zjg _ _ _ _⟩
  | false=>exact⟨_,rfl,Zjg _ _ _ _⟩
theorem Zaw (x:Int):(x != x)=false:=by simp
theorem Ycj (l:List (Int×Unit))(hl:l.length<=1000):∀ (rest:List (Int×Unit)) (i n:Nat),l.drop i=rest->i<=l.length->rest.length+1<=n->Ye n l l (l.length:Int) (i:Int)=some (true,())
 | [],i,n,h,hi,hn=>by obtain⟨m,rfl⟩:∃ m,n=m+1:=⟨n - 1,by grind⟩;have:=Zc6 h hi;simp only [Zak,iG (show ¬ i<l.length by omega),cond_false]
 | e::rest,i,n,h,hi,hn=>by obtain⟨m,rfl⟩:∃ m,n=m+1:=⟨n - 1,by grind⟩;obtain⟨h1,h2,h3⟩:=Zc5 h;have ih:=Ycj l hl rest (i+1) m h3 (by omega) (by grind);simp only [Zak,iL h1,iN,cond_true,cond_false,J0l,h2,wS (show i<1000000000000 by omega),Zaw,ih]
theorem Ymg {l:List (Int×Unit)}(hl:l.length<=1000):Xx l l=some (true,()):=by obtain⟨n,hn⟩:=Zb0;rw [Zez];simp only [Zaw,cond_false,J0g];exact Ycj l hl l 0 fuel rfl (by omega) (by grind)
theorem Yd4 {q:Qr}(h:(chkQ q).2.1=0)(h1:q.2.1.length<=1000)(h2:q.2.2.1.length<=1000)(h3:q.2.2.2.2.1.length<=1000):∃ s,Ztf q=some ((s,q),0,())/\Zgo (s,q)=some (0,()):=by
 obtain⟨s,hs,hl⟩:=Ytu q;refine⟨s,?_,?_⟩
 . rw [Yd2];simp only [Zm0,Z6i h,cond_false,Zcq (show q.2.1.length<=1000000 by omega) (show 40<=1000 by omega),Zcq (show q.2.2.1.length<=1000000 by omega) (show 8<=1000 by omega),Zcq (show q.2.2.2.2.1.length<=1000000 by omega) (show 40<=1000 by omega)];grind
 . rw [Z2x];simp only [Zm0,Z6i h,cond_false,hs,Ymg (show s.length<=1000 by omega)];rfl
/- the reference's steps: what they are does not matter -/
theorem w8 {k:Nat}(h:k<=20):Go.IntKind.wrap Go.IntKind.u8 ((k:Int)+1)=((k+1:Nat):Int):=by
 have:∀ j:Fin 21,Go.IntKind.wrap Go.IntKind.u8 ((j.1:Int)+1)=((j.1+1:Nat):Int):=by decide
 exact this ⟨k,by omega⟩
end Tg

/- The makers of graphs as plain functions that the kernel can run. -/
set_option maxRecDepth 100000
namespace Tg
open Go.Abs hiding fuel
open Go.Proofs.Tryz (prog)
open Int (ofNat toNat)
open Go.IntKind (wrap)
theorem Yi4:fuel=Go.Abs.fuel:=Zcl _
theorem itr0 {tab:Tb}{P:Go.Program}{g:Go.FuncId}{f:TFun}{i:Nat}{x:denL (Zds (Zc4 f.cuts i) [])}:itr tab P g f 0 i x=none:=by rw [Z8c];rfl
mutual
def tG13:Nat->Int->Bool->Bool->Int->Int->Int->Qy5->Option Qy4
 | 0,_,_,_,_,_,_,_=>none
 | n+1,x0,x1,x2,x3,x4,x5,x6=>tG31 n 2 x6 (ofNat x6.length) x5 0 x0 x1 x2 x3 x4 x5
def tG19:Nat->Int->Qy5->Int->Int->Int->Bool->Bool->Int->Int->Int->Option Qy4
 | 0,_,_,_,_,_,_,_,_,_,_=>none
 | n+1,x0,x1,x2,x3,x4,x5,x6,x7,x8,x9=>bif x3<x2 then bif Zb (x1.length+List.length [(x0,x3,())]) 16 then tG19 n x0 (x1++[(x0,x3,())]) x2 (wrap .i64 (x3+1)) x4 x5 x6 x7 x8 x9 else none else tG13 n x4 x5 x6 x7 x8 x9 x1
def tG25:Nat->Int->Bool->Bool->Int->Int->Int->Qy5->Int->Option Qy4
 | 0,_,_,_,_,_,_,_,_=>none
 | n+1,x0,x1,x2,x3,x4,x5,x6,x7=>bif x2 then tG45 n 3 x6 (ofNat x6.length) x5 0 x0 x1 x2 x3 x4 x5 x7 else tG38 n 1 x1 x2 x3 x4 x5 x6 x7 x7
def tG31:Nat->Int->Qy5->Int->Int->Int->Int->Bool->Bool->Int->Int->Int->Option Qy4
 | 0,_,_,_,_,_,_,_,_,_,_,_=>none
 | n+1,x0,x1,x2,x3,x4,x5,x6,x7,x8,x9,x10=>bif x4<x3 then bif Zb (x1.length+List.length [(x0,x4,())]) 16 then tG31 n x0 (x1++[(x0,x4,())]) x2 x3 (wrap .i64 (x4+1)) x5 x6 x7 x8 x9 x10 else none else tG25 n x5 x6 x7 x8 x9 x10 x1 x2
def tG38:Nat->Int->Bool->Bool->Int->Int->Int->Qy5->Int->Int->Option Qy4
 | 0,_,_,_,_,_,_,_,_,_=>none
 | n+1,x0,x1,x2,x3,x4,x5,x6,x7,x8=>bif x1 then tG52 n x0 x2 x3 x4 x5 x6 x7 x8 5 else tG52 n x0 x2 x3 x4 x5 x6 x7 x8 4
def tG45:Nat->Int->Qy5->Int->Int->Int->Int->Bool->Bool->Int->Int->Int->Int->Option Qy4
 | 0,_,_,_,_,_,_,_,_,_,_,_,_=>none
 | n+1,x0,x1,x2,x3,x4,x5,x6,x7,x8,x9,x10,x11=>bif x4<x3 then bif Zb (x1.length+List.length [(x0,x4,())]) 16 then tG45 n x0 (x1++[(x0,x4,())]) x2 x3 (wrap .i64 (x4+1)) x5 x6 x7 x8 x9 x10 x11 else none else tG38 n x5 x6 x7 x8 x9 x10 x1 x11 x2
def tG52:Nat->Int->Bool->Int->Int->Int->Qy5->Int->Int->Int->Option Qy4
 | 0,_,_,_,_,_,_,_,_,_=>none
 | n+1,x0,x1,x2,x3,x4,x5,x6,x7,x8=>tG60 n x8 x5 (ofNat x5.length) x0 0 x0 x1 x2 x3 x4 x6 x7
def tG54:Nat->Int->Bool->Int->Int->Int->Qy5->Int->Int->Int->Option Qy4
 | 0,_,_,_,_,_,_,_,_,_=>none
 | n+1,x0,x1,x2,x3,x4,x5,x6,x7,x8=>tG72 n 6 x5 (ofNat x5.length) 1 0 x0 x1 x2 x3 x4 x6 x7 x8
def tG60:Nat->Int->Qy5->Int->Int->Int->Int->Bool->Int->Int->Int->Int->Int->Option Qy4
 | 0,_,_,_,_,_,_,_,_,_,_,_,_=>none
 | n+1,x0,x1,x2,x3,x4,x5,x6,x7,x8,x9,x10,x11=>bif x4<x3 then bif Zb (x1.length+List.length [(x0,x4,())]) 16 then tG60 n x0 (x1++[(x0,x4,())]) x2 x3 (wrap .i64 (x4+1)) x5 x6 x7 x8 x9 x10 x11 else none else tG54 n x5 x6 x7 x8 x9 x1 x10 x11 x2
def tG66:Nat->Int->Bool->Int->Int->Int->Qy5->Int->Int->Int->Int->Option Qy4
 | 0,_,_,_,_,_,_,_,_,_,_=>none
 | n+1,x0,x1,x2,x3,x4,x5,x6,x7,x8,x9=>tG80 n x0 x1 x2 x3 x4 x5 ([]) x6 x7 x8 x9 x4 0
def tG72:Nat->Int->Qy5->Int->Int->Int->Int->Bool->Int->Int->Int->Int->Int->Int->Option Qy4
 | 0,_,_,_,_,_,_,_,_,_,_,_,_,_=>none
 | n+1,x0,x1,x2,x3,x4,x5,x6,x7,x8,x9,x10,x11,x12=>bif x4<x3 then bif Zb (x1.length+List.length [(x0,x4,())]) 16 then tG72 n x0 (x1++[(x0,x4,())]) x2 x3 (wrap .i64 (x4+1)) x5 x6 x7 x8 x9 x10 x11 x12 else none else tG66 n x5 x6 x7 x8 x9 x1 x10 x11 x12 x2
def tG78:Nat->Int->Bool->Int->Int->Int->Qy5->(List Qy2)->Int->Int->Int->Int->Option Qy4
 | 0,_,_,_,_,_,_,_,_,_,_,_=>none
 | n+1,x0,x1,x2,x3,x4,x5,x6,x7,x8,x9,x10=>tG88 n x0 x1 x2 x3 x4 x5 x6 x7 x8 x9 x10 x4 0
def tG80:Nat->Int->Bool->Int->Int->Int->Qy5->(List Qy2)->Int->Int->Int->Int->Int->Int->Option Qy4
 | 0,_,_,_,_,_,_,_,_,_,_,_,_,_=>none
 | n+1,x0,x1,x2,x3,x4,x5,x6,x7,x8,x9,x10,x11,x12=>bif x12<x11 then bif Zb (x6.length+List.length [(x12,0,wrap .i64 (x7+x12),0,x3,())]) 40 then tG80 n x0 x1 x2 x3 x4 x5 (x6++[(x12,0,wrap .i64 (x7+x12),0,x3,())]) x7 x8 x9 x10 x11 (wrap .i64 (x12+1)) else none else tG78 n x0 x1 x2 x3 x4 x5 x6 x7 x8 x9 x10
def tG86:Nat->Int->Bool->Int->Int->Int->Qy5->(List Qy2)->Int->Int->Int->Option Qy4
 | 0,_,_,_,_,_,_,_,_,_,_=>none
 | n+1,x0,x1,x2,x3,x4,x5,x6,x7,x8,x9=>Z6w n x0 x1 x2 x3 x5 x6 x7 x8 x9 x4 0
def tG88:Nat->Int->Bool->Int->Int->Int->Qy5->(List Qy2)->Int->Int->Int->Int->Int->Int->Option Qy4
 | 0,_,_,_,_,_,_,_,_,_,_,_,_,_=>none
 | n+1,x0,x1,x2,x3,x4,x5,x6,x7,x8,x9,x10,x11,x12=>bif x12<x11 then bif x1 then bif Zb (x6.length+List.length [(wrap .i64 (x7+x12),0,wrap .i64 (x8+x12),0,x3,())]) 40 then tG93 n x0 x1 x2 x3 x4 x5 (x6++[(wrap .i64 (x7+x12),0,wrap .i64 (x8+x12),0,x3,())]) x7 x8 x9 x10 x12 x11 x12 else none else bif Zb (x6.length+List.length [(wrap .i64 (x7+x12),0,x9,x12,x3,())]) 40 then tG93 n x0 x1 x2 x3 x4 x5 (x6++[(wrap .i64 (x7+x12),0,x9,x12,x3,())]) x7 x8 x9 x10 x12 x11 x12 else none else tG86 n x0 x1 x2 x3 x4 x5 x6 x8 x9 x10
def tG93:Nat->Int->Bool->Int->Int->Int->Qy5->(List Qy2)->Int->Int->Int->Int->Int->Int->Int->Option Qy4
 | 0,_,_,_,_,_,_,_,_,_,_,_,_,_,_=>none
 | n+1,x0,x1,x2,x3,x4,x5,x6,x7,x8,x9,x10,x11,x12,x13=>bif x2==2 then bif Zb (x6.length+List.length [(wrap .i64 (x7+x11),1,wrap .i64 (x10+1),x11,x3,())]) 40 then tG88 n x0 x1 x2 x3 x4 x5 (x6++[(wrap .i64 (x7+x11),1,wrap .i64 (x10+1),x11,x3,())]) x7 x8 x9 x10 x12 (wrap .i64 (x13+1)) else none else tG88 n x0 x1 x2 x3 x4 x5 x6 x7 x8 x9 x10 x12 (wrap .i64 (x13+1))
def tG99:Nat->Int->Int->Int->Qy5->(List Qy2)->Int->Int->Option Qy4
 | 0,_,_,_,_,_,_,_=>none
 | n+1,x0,x1,x2,x3,x4,x5,x6=>Z6x n x1 x2 x3 x4 x5 x6 x0 0
def Z6w:Nat->Int->Bool->Int->Int->Qy5->(List Qy2)->Int->Int->Int->Int->Int->Option Qy4
 | 0,_,_,_,_,_,_,_,_,_,_,_=>none
 | n+1,x0,x1,x2,x3,x4,x5,x6,x7,x8,x9,x10=>bif x10<x9 then Z0j n x0 x1 x2 x3 x4 x5 x6 x7 x8 x10 x9 x10 x0 0 else tG99 n x0 x2 x3 x4 x5 x7 x8
def Z0j:Nat->Int->Bool->Int->Int->Qy5->(List Qy2)->Int->Int->Int->Int->Int->Int->Int->Int->Option Qy4
 | 0,_,_,_,_,_,_,_,_,_,_,_,_,_,_=>none
 | n+1,x0,x1,x2,x3,x4,x5,x6,x7,x8,x9,x10,x11,x12,x13=>bif x13<x12 then bif x1 then bif Zb (x5.length+List.length [(wrap .i64 (x6+x9),x13,wrap .i64 (x7+x13),x9,x3,())]) 40 then Z0j n x0 x1 x2 x3 x4 (x5++[(wrap .i64 (x6+x9),x13,wrap .i64 (x7+x13),x9,x3,())]) x6 x7 x8 x9 x10 x11 x12 (wrap .i64 (x13+1)) else none else Z0j n x0 x1 x2 x3 x4 x5 x6 x7 x8 x9 x10 x11 x12 (wrap .i64 (x13+1)) else Z6w n x0 x1 x2 x3 x4 x5 x6 x7 x8 x10 (wrap .i64 (x11+1))
def Yck:Nat->Int->Qy5->(List Qy2)->Option Qy4
 | 0,_,_,_=>none
 | n+1,x0,x1,x2=>bif x0==2 then Z6y n 7 x1 x2 1 0 else some (((x1,x2,()),0,()))
def Z6x:Nat->Int->Int->Qy5->(List Qy2)->Int->Int->Int->Int->Option Qy4
 | 0,_,_,_,_,_,_,_,_=>none
 | n+1,x0,x1,x2,x3,x4,x5,x6,x7=>bif x7<x6 then bif Zb (x3.length+List.length [(wrap .i64 (x4+x7),0,x5,x7,x1,())]) 40 then Z6x n x0 x1 x2 (x3++[(wrap .i64 (x4+x7),0,x5,x7,x1,())]) x4 x5 x6 (wrap .i64 (x7+1)) else none else Yck n x0 x2 x3
def Z6y:Nat->Int->Qy5->(List Qy2)->Int->Int->Option Qy4
 | 0,_,_,_,_,_=>none
 | n+1,x0,x1,x2,x3,x4=>bif x4<x3 then bif Zb (x1.length+List.length [(x0,x4,())]) 16 then Z6y n x0 (x1++[(x0,x4,())]) x2 x3 (wrap .i64 (x4+1)) else none else some (((x1,x2,()),0,()))
end
theorem Ynv:∀ n,Zi4 n=tG13 n/\Qw n=tG19 n/\Zi5 n=tG25 n/\Zfj n=tG31 n/\Zfk n=tG38 n/\Zfl n=tG45 n/\Zfm n=tG52 n/\Zi6 n=tG54 n/\Zfn n=tG60 n/\Zi7 n=tG66 n/\Zfo n=tG72 n/\Zi8 n=tG78 n/\Zfp n=tG80 n/\Zi9 n=tG86 n/\Zdg n=tG88 n/\Zfq n=tG93 n/\Zja n=tG99 n/\Zem n=Z6w n/\Zb7 n=Z0j n/\Zhn n=Yck n/\Zen n=Z6x n/\Zeo n=Z6y n
 | 0=>⟨by funext x0 x1 x2 x3 x4 x5 x6;rw [tG13];exact itr0,by funext x0 x1 x2 x3 x4 x5 x6 x7 x8 x9;rw [tG19];exact itr0,by funext x0 x1 x2 x3 x4 x5 x6 x7;rw [tG25];exact itr0,by funext x0 x1 x2 x3 x4 x5 x6 x7 x8 x9 x10;rw [tG31];exact itr0,by funext x0 x1 x2 x3 x4 x5 x6 x7 x8;rw [tG38];exact itr0,by funext x0 x1 x2 x3 x4 x5 x6 x7 x8 x9 x10 x11;rw [tG45];exact itr0,by funext x0 x1 x2 x3 x4 x5 x6 x7 x8;rw [tG52];exact itr0,by funext x0 x1 x2 x3 x4 x5 x6 x7 x8;rw [tG54];exact itr0,by funext x0 x1 x2 x3 x4 x5 x6 x7 x8 x9 x10 x11;rw [tG60];exact itr0,by funext x0 x1 x2 x3 x4 x5 x6 x7 x8 x9;rw [tG66];exact itr0,by funext x0 x1 x2 x3 x4 x5 x6 x7 x8 x9 x10 x11 x12;rw [tG72];exact itr0,by funext x0 x1 x2 x3 x4 x5 x6 x7 x8 x9 x10;rw [tG78];exact itr0,by funext x0 x1 x2 x3 x4 x5 x6 x7 x8 x9 x10 x11 x12;rw [tG80];exact itr0,by funext x0 x1 x2 x3 x4 x5 x6 x7 x8 x9;rw [tG86];exact itr0,by funext x0 x1 x2 x3 x4 x5 x6 x7 x8 x9 x10 x11 x12;rw [tG88];exact itr0,by funext x0 x1 x2 x3 x4 x5 x6 x7 x8 x9 x10 x11 x12 x13;rw [tG93];exact itr0,by funext x0 x1 x2 x3 x4 x5 x6;rw [tG99];exact itr0,by funext x0 x1 x2 x3 x4 x5 x6 x7 x8 x9 x10;rw [Z6w];exact itr0,by funext x0 x1 x2 x3 x4 x5 x6 x7 x8 x9 x10 x11 x12 x13;rw [Z0j];exact itr0,by funext x0 x1 x2;rw [Yck];exact itr0,by funext x0 x1 x2 x3 x4 x5 x6 x7;rw [Z6x];exact itr0,by funext x0 x1 x2 x3 x4;rw [Z6y];exact itr0⟩
 | n+1=>by
  obtain⟨h13,h19,h25,h31,h38,h45,h52,h54,h60,h66,h72,h78,h80,h86,h88,h93,h99,h101,h107,h114,h116,h129⟩:=Ynv n;refine⟨?_,?_,?_,?_,?_,?_,?_,?_,?_,?_,?_,?_,?_,?_,?_,?_,?_,?_,?_,?_,?_,?_⟩
  . funext x0 x1 x2 x3 x4 x5 x6;rw [Z2y,tG13,h31]
  . funext x0 x1 x2 x3 x4 x5 x6 x7 x8 x9;rw [Z2z,tG19,h13,h19]
  . funext x0 x1 x2 x3 x4 x5 x6 x7;rw [Z20,tG25,h38,h45]
  . funext x0 x1 x2 x3 x4 x5 x6 x7 x8 x9 x10;rw [Z21,tG31,h25,h31]
  . funext x0 x1 x2 x3 x4 x5 x6 x7 x8;rw [Z22,tG38,h52]
  . funext x0 x1 x2 x3 x4 x5 x6 x7 x8 x9 x10 x11;rw [Z23,tG45,h38,h45]
  . funext x0 x1 x2 x3 x4 x5 x6 x7 x8;rw [Z24,tG52,h60]
  . funext x0 x1 x2 x3 x4 x5 x6 x7 x8;rw [Z25,tG54,h72]
  . funext x0 x1 x2 x3 x4 x5 x6 x7 x8 x9 x10 x11;rw [Z26,tG60,h54,h60]
  . funext x0 x1 x2 x3 x4 x5 x6 x7 x8 x9;rw [Z27,tG66,h80]
  . funext x0 x1 x2 x3 x4 x5 x6 x7 x8 x9 x10 x11 x12;rw [Z28,tG72,h66,h72]
  . funext x0 x1 x2 x3 x4 x5 x6 x7 x8 x9 x10;rw [Z29,tG78,h88]
  . funext x0 x1 x2 x3 x4 x5 x6 x7 x8 x9 x10 x11 x12;rw [Z3a,tG80,h78,h80]
  . funext x0 x1 x2 x3 x4 x5 x6 x7 x8 x9;rw [Z3b,tG86,h101]
  . funext x0 x1 x2 x3 x4 x5 x6 x7 x8 x9 x10 x11 x12;rw [Z3c,tG88,h86,h93]
  . funext x0 x1 x2 x3 x4 x5 x6 x7 x8 x9 x10 x11 x12 x13;rw [Z3d,tG93,h88]
  . funext x0 x1 x2 x3 x4 x5 x6;rw [Z3e,tG99,h116]
  . funext x0 x1 x2 x3 x4 x5 x6 x7 x8 x9 x10;rw [Zx6,Z6w,h99,h107]
  . funext x0 x1 x2 x3 x4 x5 x6 x7 x8 x9 x10 x11 x12 x13;rw [Zx7,Z0j,h101,h107]
  . funext x0 x1 x2;rw [Zx8,Yck,h129]
  . funext x0 x1 x2 x3 x4 x5 x6 x7;rw [Zx9,Z6x,h114,h116]
  . funext x0 x1 x2 x3 x4;rw [Zya,Z6y,h129]
def mulT (a0 a1:Int):Option (Int×Int×Unit):=some ((wrap .u64 (wrap .u64 (wrap .u64 (Int.fdiv a0 4294967296*Int.fdiv a1 4294967296)+Int.fdiv (wrap .u64 (wrap .u64 (Int.fdiv a0 4294967296*Go.bits Go.BinOp.and Go.IntKind.u64 a1 4294967295)+Int.fdiv (wrap .u64 (Go.bits Go.BinOp.and Go.IntKind.u64 a0 4294967295*Go.bits Go.BinOp.and Go.IntKind.u64 a1 4294967295)) 4294967296)) 4294967296)+Int.fdiv (wrap .u64 (Go.bits Go.BinOp.and Go.IntKind.u64 (wrap .u64 (wrap .u64 (Int.fdiv a0 4294967296*Go.bits Go.BinOp.and Go.IntKind.u64 a1 4294967295)+Int.fdiv (wrap .u64 (Go.bits Go.BinOp.and Go.IntKind.u64 a0 4294967295*Go.bits Go.BinOp.and Go.IntKind.u64 a1 4294967295)) 4294967296)) 4294967295+wrap .u64 (Go.bits Go.BinOp.and Go.IntKind.u64 a0 4294967295*Int.fdiv a1 4294967296))) 4294967296),wrap .u64 (a0*a1),()))
theorem Ytv (a0 a1:Int):Zho a0 a1=mulT a0 a1:=by rw [Zst,Zqb];rfl
mutual
def tP1:Nat->Qy9->Int->Option Qy11
 | 0,_,_=>none
 | n+1,x0,x1=>match mulT (wrap .u64 (ofNat x0.length)) (wrap .u64 x1) with | none=>none | some e0=>bif e0.1>0 then none else bif e0.2.1>9223372036854775807 then none else tP5 n x0 e0.2.1
def tP5:Nat->Qy9->Int->Option Qy11
 | 0,_,_=>none
 | n+1,x0,x1=>bif 0<=wrap .i64 x1 then bif 0<=wrap .i64 x1 then bif decide (toNat (wrap .i64 x1)<=toNat (wrap .i64 x1))&&(decide (8*toNat (wrap .i64 x1)<=281474976710656)&&decide (toNat (wrap .i64 x1)<=9223372036854775807)) then tP10 n (List.take (min x0.length (List.length (List.replicate (α:=Int×Unit) (toNat (wrap .i64 x1)) (0,())))) x0++List.drop (min x0.length (List.length (List.replicate (α:=Int×Unit) (toNat (wrap .i64 x1)) (0,())))) (List.replicate (toNat (wrap .i64 x1)) (0,()))) (ofNat (min x0.length (List.length (List.replicate (α:=Int×Unit) (toNat (wrap .i64 x1)) (0,()))))) else none else none else none
def tP10:Nat->Qy9->Int->Option Qy11
 | 0,_,_=>none
 | n+1,x0,x1=>bif x1<ofNat x0.length then bif 0<=x1 then bif x1.toNat<=x0.length then bif x1.toNat=x0.length then bif 0<=x1 then bif decide (0<=x1.toNat)&&decide (x1.toNat<=x0.length) then none else none else none else bif 0<=x1 then bif decide (0<=x1.toNat)&&decide (x1.toNat<=x0.length) then bif x1.toNat+(x0.length - x1.toNat)<=x0.length then tP10 n (List.take x1.toNat x0++(List.take (min (List.length (List.take x1.toNat (List.drop 0 x0))) (x0.length - x1.toNat)) (List.take x1.toNat (List.drop 0 x0))++List.drop (x1.toNat+min (List.length (List.take x1.toNat (List.drop 0 x0))) (x0.length - x1.toNat)) x0)) (wrap .i64 (x1+ofNat (min (List.length (List.take x1.toNat (List.drop 0 x0))) (x0.length - x1.toNat)))) else none else none else none else none else none else some (x0,())
end
theorem Ynw:∀ n,Xc n=tP1 n/\Xd n=tP5 n/\Yb n=tP10 n
 | 0=>⟨by funext x0 x1;rw [tP1];exact itr0,by funext x0 x1;rw [tP5];exact itr0,by funext x0 x1;rw [tP10];exact itr0⟩
 | n+1=>by
  obtain⟨h1,h5,h10⟩:=Ynw n;refine⟨?_,?_,?_⟩
  . funext x0 x1;rw [Zdo,tP1,Ytv,h5];rfl
  . funext x0 x1;rw [Zdp,tP5,h10]
  . funext x0 x1;rw [Zdi,tP10,h10]
end Tg

/- The reference's graph of a plan, told. -/
namespace Tg
open Go.Abs (Zb Zf tmm)
abbrev Op2:=Int×Int×Unit
abbrev Ch5:=Int×Int×Int×Int×Int×Unit
def nums (n:Nat)(k:Int):List Op2:=(List.range n).map fun (i:Nat)=>(k,(i:Int),())
def opsG (n p:Nat)(key join side:Bool):List Op2:=nums n 1++nums n 2++(bif key then nums n 3 else [])++nums p (bif join then 5 else 4)++[(6,0,())]++(bif side then [(7,0,())] else [])
def chG (n p:Nat)(key side:Bool)(room:Int):List Ch5 :=
 let part:Nat:=2 * n+(bif key then n else 0);let sink:Nat:=part+p
 ((List.range n).map fun (i:Nat)=>((i:Int),0,((n+i:Nat):Int),0,room,())) ++
 ((List.range n).flatMap fun (i:Nat)=>(((n+i:Nat):Int),0,(bif key then ((2 * n+i:Nat):Int) else (part:Int)),(bif key then 0 else (i:Int)),room,())::(bif side then [(((n+i:Nat):Int),1,((sink+1:Nat):Int),(i:Int),room,())] else [])) ++
 (bif key then ((List.range n).flatMap fun (i:Nat)=>(List.range p).map fun (k:Nat)=>(((2 * n+i:Nat):Int),(k:Int),((part+k:Nat):Int),(i:Int),room,())) else []) ++
 ((List.range p).map fun (k:Nat)=>(((part+k:Nat):Int),0,(sink:Int),(k:Int),room,()))
end Tg

/- The reference's tasks and machine, told. -/
namespace Tg
open Go.Abs (Zb Zf tmm)
abbrev low:Int:=-9223372036854775808
abbrev Tk:=Int×Int×Int×List (Int×Int×Int×Int×Int×Int×Int×Int×Int×Int×Int×Unit)×List (Int×Unit)×List (Int×Int×Int×Int×Int×Int×Int×Int×Int×Int×Int×Unit)×List Ev×List Ch5×List (Int×Int×Int×Unit)×Unit
abbrev Inp:=List (List Ev×Unit)
abbrev Qu:=Int×List (Int×Int×Int×Int×Int×Int×Int×Int×Int×Int×Unit)×Unit
def Zy (n:Nat)(inp:Inp)(o:Op2):Tk :=
 bif o.1==1 then (1,o.2.1,0,[],[],[],(inp.getD o.2.1.toNat ([],())).1,[],[],())
 else bif o.1==2 then (2,o.2.1,0,[],[(low,())],[],[],[],[],())
 else bif o.1==3 then (3,o.2.1,0,[],[],[],[],[],[],())
 else bif o.1==4 then (4,o.2.1,0,[],List.replicate n (low,()),[],[],[],[],())
 else bif o.1==5 then (5,o.2.1,0,[],[(low,()),(low,())],[],[],[],[],())
 else bif o.1==7 then (7,0,0,[],[],[],[],[],[],())
 else (6,0,0,[],[],[],[],[],[],())
def okOp (n:Nat)(o:Op2):Prop:=(o.1=1/\0<=o.2.1/\o.2.1<(n:Int))∨((o.1=2∨o.1=3)/\0<=o.2.1/\o.2.1<4)∨((o.1=4∨o.1=5)/\0<=o.2.1/\o.2.1<3)∨o.1=6∨o.1=7
instance (n:Nat) (o:Op2):Decidable (okOp n o):=by unfold okOp;infer_instance
theorem Z95 {l:List Ev}(h:Zdj l=0):l.length<=60/\l.all evOk=true:=by unfold Zdj at h;grind
def Zny (inp:Inp):Prop:=∀ l∈inp,Zdj l.1=0
theorem Ymh {inp:Inp}(hi:Zny inp){N:Int}(h1:0<=N)(h2:N<(inp.length:Int)):∃ l,inp[N.toNat]? = some (l,())/\(inp.getD N.toNat ([],())).1=l/\Zdj l=0:=by
 have hlt:N.toNat<inp.length:=by omega
 refine⟨inp[N.toNat].1,J0c hlt,?_,hi _ (List.getElem_mem hlt)⟩;grind
def qOf (c:Ch5):Qu:=(c.2.2.2.2.1,[],())
theorem Yi5 {α β:Type}(f:α->β){l:List α}{i:Nat}{e:α}(h:l[i]? = some e):(l.take i).map f++[f e]=(l.take (i+1)).map f:=by rw [List.take_add_one,h];simp
set_option maxRecDepth 100000 in
theorem Z3m (n p:Nat)(hn:1<=n/\n<=4)(hp:1<=p/\p<=3)(key join side:Bool):(opsG n p key join side).length<=20 /\ ∀ o∈opsG n p key join side,okOp n o:=by
 obtain rfl | rfl | rfl | rfl:n=1∨n=2∨n=3∨n=4:=by omega
 all_goals
  obtain rfl | rfl | rfl:p=1∨p=2∨p=3:=by omega
 all_goals
  cases key <;> cases join <;> cases side <;> decide
set_option maxRecDepth 100000 in
theorem Z96 (n p:Nat)(hn:1<=n/\n<=4)(hp:1<=p/\p<=3)(key side:Bool)(room:Int):(chG n p key side room).length<=100 /\ ∀ c∈chG n p key side room,c.2.2.2.2.1=room:=by
 constructor
 . obtain rfl | rfl | rfl | rfl:n=1∨n=2∨n=3∨n=4:=by omega
   all_goals
    obtain rfl | rfl | rfl:p=1∨p=2∨p=3:=by omega
   all_goals
    cases key <;> cases side <;> exact Nat.le_of_ble_eq_true rfl
 . intro c hc;unfold chG at hc;simp only [List.mem_append,List.mem_map,List.mem_flatMap,List.mem_cons] at hc;grind
end Tg

/- The code's graph of a plan, told. -/
namespace Tg
open Go.Abs (Zb Zf tmm)
set_option maxRecDepth 100000 in
theorem Ymi (n p:Nat)(hn:1<=n/\n<=4)(hp:1<=p/\p<=3)(key join side:Bool)(room:Int) :
    Qw fuel 1 [] (n:Int) 0 (p:Int) join key (bif side then 2 else 1) room (n:Int)=some ((opsG n (bif key then p else 1) key join side,chG n (bif key then p else 1) key side room,()),0,()):=by
  rw [(Ynv fuel).2.1,Yi4];obtain rfl | rfl | rfl | rfl:n=1∨n=2∨n=3∨n=4:=by omega
  all_goals
   obtain rfl | rfl | rfl:p=1∨p=2∨p=3:=by omega
  all_goals
   cases key <;> cases join <;> cases side <;> kernel_rfl
theorem Z0k {q:Qr}(h:(chkQ q).2.1=0):chkC q=0:=by
 unfold chkQ at h;cases hc:(chkC q==0) with
 | true=>simpa using hc
 | false=>rw [hc] at h;exact h
theorem Yd5 {q:Qr}(h:chkC q=0):q.2.2.2.2.2.2.2.2.2.1=1∨q.2.2.2.2.2.2.2.2.2.1=2:=by
 unfold chkC at h;by_cases h1:q.2.2.2.2.2.2.2.2.2.1<1
 . rw [dT h1] at h;simp at h
 . by_cases h2:q.2.2.2.2.2.2.2.2.2.1>2
   . rw [dT h2] at h;simp at h
   . omega
theorem Zh4 {q:Qr}(h:chkC q=0):srcE q.2.2.1 q.2.2.2.1=0:=by
 have ht:Zsf q=0->srcE q.2.2.1 q.2.2.2.1=0:=fun h=>by
  unfold Zsf at h;cases hs:(srcE q.2.2.1 q.2.2.2.1==0) with
  | true=>simpa using hs
  | false=>rw [hs] at h;exact h
 have hw:Zhk q=0->srcE q.2.2.1 q.2.2.2.1=0:=fun h=>by
  unfold Zhk at h;cases hc:(decide ((q.2.2.2.2.1.length:Int)>0)&&errN q.2.2.2.2.1 != 0) with
  | true=>rw [hc] at h;have h:errN q.2.2.2.2.1=0:=h;rw [h] at hc;simp at hc
  | false=>rw [hc] at h;exact ht h
 unfold chkC at h;cases hb:(decide (q.1<1)||(decide (q.1>4)||(decide (q.2.2.2.2.2.2.2.2.2.1<1)||decide (q.2.2.2.2.2.2.2.2.2.1>2)))) with
 | true=>rw [hb] at h;simp at h
 | false =>
  rw [hb] at h;simp only [cond_false] at h;cases h1:(q.1==1) with
  | true =>
   rw [h1] at h;simp only [cond_true] at h;by_cases h0:(q.2.1.length:Int)>0
   . rw [dT h0] at h;simp at h
   . rw [dF h0] at h;exact hw h
  | false =>
   rw [h1] at h;simp only [cond_false] at h;by_cases he:errN q.2.1=0
   . rw [Z6i he] at h;exact hw h
   . rw [Ys4 he] at h;exact absurd h he
theorem Zqc {l:IL}{j:Bool}(h:srcE l j=0):1<=l.length/\l.length<=4:=by
 unfold srcE at h;split at h
 . cases h
 . split at h
   . cases h
   . omega
end Tg

/- The code's new tasks, told. -/
namespace Tg
open Go.Abs (Zb Zf tmm)
theorem Z0l (N:Int)(l:List Ev)(hl:l.length<=1000)(ha:l.all evOk=true):∀ (rest:List Ev) (i n:Nat),l.drop i=rest->i<=l.length->rest.length+1<=n->Zdh n l (l.length:Int) (i:Int) N l=some ((1,N,0,[],[],[],l,[],[],()),0,())
 | [],i,n,h,hi,hn=>by obtain⟨m,rfl⟩:∃ m,n=m+1:=⟨n - 1,by grind⟩;have:=Zc6 h hi;simp only [Zlz,iG (show ¬ i<l.length by omega),cond_false,Zcq (show l.length<=1000000 by omega) (show 40<=1000 by omega)]
 | e::rest,i,n,h,hi,hn=>by obtain⟨m,rfl⟩:∃ m,n=m+1:=⟨n - 1,by grind⟩;obtain⟨h1,h2,h3⟩:=Zc5 h;have ih:=Z0l N l hl ha rest (i+1) m h3 (by omega) (by grind);have he:evOk e=true:=List.all_eq_true.1 ha e (J0j h2);simp only [Zlz,iL h1,iN,cond_true,cond_false,J0l,h2,mev,he,Zaw,wS (show i<1000000000000 by omega),ih]
theorem Ymj {N:Int}{l:List Ev}(h1:0<=N)(h2:N<4)(h:Zdj l=0):Zon N l=some ((1,N,0,[],[],[],l,[],[],()),0,()):=by obtain⟨h3,h4⟩:=Z95 h;obtain⟨n,hn⟩:=Zb0;rw [Z3f];simp only [dF (show ¬ N<0 by omega),dF (show ¬ N>=4 by omega),J0g,dF (show ¬ (l.length:Int)>60 by omega),cond_false];exact Z0l N l (by omega) h4 l 0 fuel rfl (by omega) (by grind)
theorem Yqm {N:Int}(h1:0<=N)(h2:N<4):Zoo N=some ((2,N,0,[],[(low,())],[],[],[],[],()),0,()):=by rw [Z3i];grind
theorem Yqn {N:Int}(h1:0<=N)(h2:N<4):Zwi N=some ((3,N,0,[],[],[],[],[],[],()),0,()):=by rw [Z93];grind
set_option maxRecDepth 100000 in
theorem Yi6 {n:Nat}(h1:1<=n)(h2:n<=4):Zh3 (n:Int)=some (List.replicate n (low,()),0,()):=by
 rw [Z6t,Zd8,(Ynw fuel).1,Yi4];obtain rfl | rfl | rfl | rfl:n=1∨n=2∨n=3∨n=4:=by omega
 all_goals kernel_rfl
theorem Ytw:Zh3 2=some ([(low,()),(low,())],0,()):=Yi6 (n:=2) (by omega) (by omega)
theorem Yqo {N:Int}(h1:0<=N)(h2:N<3):Zwj N=some ((5,N,0,[],[(low,()),(low,())],[],[],[],[],()),0,()):=by rw [Z94];simp only [dF (show ¬ N<0 by omega),dF (show ¬ N>=3 by omega),Ytw];rfl
theorem Yqp {N:Int}(h1:0<=N)(h2:N<3){n:Nat}(g1:1<=n)(g2:n<=4):Z3h N (n:Int)=some ((4,N,0,[],List.replicate n (low,()),[],[],[],[],()),0,()):=by rw [Yd3];simp only [Yi6 g1 g2,dF (show ¬ N<0 by omega),dF (show ¬ N>=3 by omega),Zaw,cond_false]
theorem Yqq {N:Int}(h1:1<=N)(h2:N<=8):Zg9 N=some ((N,[],()),0,()):=by rw [Zyb];grind
end Tg

/- What the reference's builder answers, told. -/
namespace Tg
open Go.Abs (Zb Zf tmm)
abbrev Mc:=Mch
def zM:Mc:=(0,[],[],false,[],0,0,0,false,0,[],[],[],[],())
def Zal:Inp->Int
 | []=>0
 | l::ls=>bif Zdj l.1 != 0 then Zdj l.1 else Zal ls
def prE (p r:Int):Int:=bif decide (p<1) then 2 else bif decide (p>3) then 2 else bif decide (r<1) then 2 else bif decide (r>8) then 2 else 0
def askE (q:Qr)(inp:Inp)(p r:Int):Int:=bif (chkQ q).2.1 != 0 then (chkQ q).2.1 else bif (inp.length:Int) != (q.2.2.1.length:Int) then 2 else bif Zal inp != 0 then Zal inp else prE p r
theorem Zri:∀ {inp:Inp},Zal inp=0->Zny inp
 | [],_=>fun _ h=>by simp at h
 | l::ls,h=>by
  unfold Zal at h;cases hl:(Zdj l.1 != 0) with
  | true=>grind
  | false =>
   rw [hl] at h;have ih:=Zri (inp:=ls) h;intro x hx;rcases List.mem_cons.1 hx with rfl | hx
   . grind
   . exact ih x hx
theorem prE0 {p r:Int}(h:prE p r=0):1<=p/\p<=3/\1<=r/\r<=8:=by unfold prE at h;grind
def partsOf (q:Qr)(p:Int):Nat:=bif q.2.2.2.2.2.2.2.2.1 then p.toNat else 1
def mOf (q:Qr)(inp:Inp)(p r:Int):Mc :=
 (q.1,q.2.1,q.2.2.1,q.2.2.2.1,q.2.2.2.2.1,q.2.2.2.2.2.1,q.2.2.2.2.2.2.1,q.2.2.2.2.2.2.2.1,q.2.2.2.2.2.2.2.2.1,q.2.2.2.2.2.2.2.2.2.1,
  opsG inp.length (partsOf q p) q.2.2.2.2.2.2.2.2.1 q.2.2.2.1 (q.2.2.2.2.2.2.2.2.2.1==2),chG inp.length (partsOf q p) q.2.2.2.2.2.2.2.2.1 (q.2.2.2.2.2.2.2.2.2.1==2) r,
  (opsG inp.length (partsOf q p) q.2.2.2.2.2.2.2.2.1 q.2.2.2.1 (q.2.2.2.2.2.2.2.2.2.1==2)).map (Zy inp.length inp),(chG inp.length (partsOf q p) q.2.2.2.2.2.2.2.2.1 (q.2.2.2.2.2.2.2.2.2.1==2) r).map qOf,())
theorem Yi7 {q:Qr}{inp:Inp}{p r:Int}(h:askE q inp p r=0):(chkQ q).2.1=0/\inp.length=q.2.2.1.length/\Zny inp/\Zal inp=0/\(1<=p/\p<=3/\1<=r/\r<=8)/\(1<=inp.length/\inp.length<=4):=by
 unfold askE at h;cases h1:((chkQ q).2.1 != 0) with
 | true=>grind
 | false =>
  have e1:(chkQ q).2.1=0:=by grind
  rw [h1] at h;cases h2:((inp.length:Int) != (q.2.2.1.length:Int)) with
  | true=>grind
  | false =>
   have e2:inp.length=q.2.2.1.length:=by grind
   rw [h2] at h;cases h3:(Zal inp != 0) with
   | true=>grind
   | false =>
    have e3:Zal inp=0:=by grind
    rw [h3] at h;have h5:=Zqc (Zh4 (Z0k e1));exact⟨e1,e2,Zri e3,e3,prE0 h,by grind⟩
theorem Zjh (q:Qr){p:Int}(h:1<=p/\p<=3):1<=partsOf q p/\partsOf q p<=3:=by unfold partsOf;grind
end Tg

/- The code's builder gives what the reference's gives. -/
namespace Tg
open Go.Abs (Zb Zf tmm)
theorem b46 (q:Qr)(ops:List Op2)(chs:List Ch5)(ts:List Tk)(hl:chs.length<=1000)(hr:∀ c∈chs,1<=c.2.2.2.2.1/\c.2.2.2.2.1<=8):∀ (rest:List Ch5) (i n:Nat),chs.drop i=rest->i<=chs.length->rest.length+1<=n ->
    Xa n q.1 q.2.1 q.2.2.1 q.2.2.2.1 q.2.2.2.2.1 q.2.2.2.2.2.1 q.2.2.2.2.2.2.1 q.2.2.2.2.2.2.2.1 q.2.2.2.2.2.2.2.2.1 q.2.2.2.2.2.2.2.2.2.1 ops chs ts ((chs.take i).map qOf) chs (chs.length:Int) (i:Int) =
     some ((q.1,q.2.1,q.2.2.1,q.2.2.2.1,q.2.2.2.2.1,q.2.2.2.2.2.1,q.2.2.2.2.2.2.1,q.2.2.2.2.2.2.2.1,q.2.2.2.2.2.2.2.2.1,q.2.2.2.2.2.2.2.2.2.1,ops,chs,ts,chs.map qOf,()),0,())
  | [],i,n,h,hi,hn=>by obtain⟨m,rfl⟩:∃ m,n=m+1:=⟨n - 1,by grind⟩;have:=Zc6 h hi;subst this;simp only [Zju,iG (show ¬ chs.length<chs.length by omega),cond_false,List.take_length]
  | e::rest,i,n,h,hi,hn=>by obtain⟨m,rfl⟩:∃ m,n=m+1:=⟨n - 1,by grind⟩;obtain⟨h1,h2,h3⟩:=Zc5 h;have ih:=b46 q ops chs ts hl hr rest (i+1) m h3 (by omega) (by grind);obtain⟨r1,r2⟩:=hr e (J0j h2);have hn:Zg9 e.2.2.2.2.1=some (qOf e,0,()):=Yqq r1 r2;simp only [Zju,iL h1,iN,cond_true,cond_false,J0l,h2,hn,Zaw,Qi (show ((chs.take i).map qOf).length+[qOf e].length<=1000000 by grind) (show 32<=1000 by omega),Yi5 qOf h2,wS (show i<1000000000000 by omega),ih]
theorem bb1 {inp:Inp}(hi:Zny inp)(h4:inp.length<=4){N:Int}(a:0<=N)(b:N<(inp.length:Int)):∃ l,Zjc N (inp,())=some ((1,N,0,[],[],[],l,[],[],()),0,())/\(inp.getD N.toNat ([],())).1=l:=by obtain⟨l,g1,g2,g3⟩:=Ymh hi a b;exact⟨l,by rw [Zwm];simp only [dT a,cond_true,g1,Ymj a (by omega) g3],g2⟩
theorem bb2 (q:Qr){inp:Inp}(hq:q.2.2.1.length=inp.length)(h1:1<=inp.length)(h4:inp.length<=4){N:Int}(a:0<=N)(b:N<3):Zjd N (q.1,q.2.1,q.2.2.1,q.2.2.2.1,q.2.2.2.2.1,q.2.2.2.2.2.1,q.2.2.2.2.2.2.1,q.2.2.2.2.2.2.2.1,q.2.2.2.2.2.2.2.2.1,q.2.2.2.2.2.2.2.2.2.1,())=some ((4,N,0,[],List.replicate inp.length (low,()),[],[],[],[],()),0,()):=by rw [Zwn];simp only [J0g,hq,Yqp a b h1 h4]
theorem b3 (N:Int):Zje N=some ((6,0,0,[],[],[],[],[],[],()),0,()):=by rw [Zwo,Zwl];rfl
theorem b4 (N:Int):Zjf N=some ((7,0,0,[],[],[],[],[],[],()),0,()):=by rw [Zwp,Zwl];rfl
theorem bs41 (q:Qr)(inp:Inp)(ops:List Op2)(chs:List Ch5)(ts:List Tk)(ht:ts.length<=1000){i:Nat}(hi:i<1000)(m:Nat)(t:Tk) :
    Zr (m+1) q.1 q.2.1 q.2.2.1 q.2.2.2.1 q.2.2.2.2.1 q.2.2.2.2.2.1 q.2.2.2.2.2.2.1 q.2.2.2.2.2.2.2.1 q.2.2.2.2.2.2.2.2.1 q.2.2.2.2.2.2.2.2.2.1 inp chs q.1 q.2.1 q.2.2.1 q.2.2.2.1 q.2.2.2.2.1 q.2.2.2.2.2.1 q.2.2.2.2.2.2.1 q.2.2.2.2.2.2.2.1 q.2.2.2.2.2.2.2.2.1 q.2.2.2.2.2.2.2.2.2.1 ops chs ts t.1 t.2.1 t.2.2.1 t.2.2.2.1 t.2.2.2.2.1 t.2.2.2.2.2.1 t.2.2.2.2.2.2.1 t.2.2.2.2.2.2.2.1 t.2.2.2.2.2.2.2.2.1 ops (ops.length:Int) (i:Int) =
     Zz m q.1 q.2.1 q.2.2.1 q.2.2.2.1 q.2.2.2.2.1 q.2.2.2.2.2.1 q.2.2.2.2.2.2.1 q.2.2.2.2.2.2.2.1 q.2.2.2.2.2.2.2.2.1 q.2.2.2.2.2.2.2.2.2.1 inp chs q.1 q.2.1 q.2.2.1 q.2.2.2.1 q.2.2.2.2.1 q.2.2.2.2.2.1 q.2.2.2.2.2.2.1 q.2.2.2.2.2.2.2.1 q.2.2.2.2.2.2.2.2.1 q.2.2.2.2.2.2.2.2.2.1 ops chs (ts++[t]) ops (ops.length:Int) ((i+1:Nat):Int):=by
  obtain⟨a,b,c,d,e,f,g,h,j,u⟩:=t;simp only [Zsv,Qi (show ts.length+[((a,b,c,d,e,f,g,h,j,()):Tk)].length<=1000000 by grind) (show 168<=1000 by omega),cond_true,wS (show i<1000000000000 by omega)]
theorem bs35 (q:Qr){inp:Inp}(hi:Zny inp)(hq:q.2.2.1.length=inp.length)(h1:1<=inp.length)(h4:inp.length<=4)(ops:List Op2)(chs:List Ch5)(ts:List Tk)(hl:ops.length<=1000)(ht:ts.length<=1000){i:Nat}(hi' : i<ops.length){e:Op2}(he:ops[i]? = some e)(ho:okOp inp.length e)(m:Nat) :
    Zz (m+1+1) q.1 q.2.1 q.2.2.1 q.2.2.2.1 q.2.2.2.2.1 q.2.2.2.2.2.1 q.2.2.2.2.2.2.1 q.2.2.2.2.2.2.2.1 q.2.2.2.2.2.2.2.2.1 q.2.2.2.2.2.2.2.2.2.1 inp chs q.1 q.2.1 q.2.2.1 q.2.2.2.1 q.2.2.2.2.1 q.2.2.2.2.2.1 q.2.2.2.2.2.2.1 q.2.2.2.2.2.2.2.1 q.2.2.2.2.2.2.2.2.1 q.2.2.2.2.2.2.2.2.2.1 ops chs ts ops (ops.length:Int) (i:Int) =
     Zz m q.1 q.2.1 q.2.2.1 q.2.2.2.1 q.2.2.2.2.1 q.2.2.2.2.2.1 q.2.2.2.2.2.2.1 q.2.2.2.2.2.2.2.1 q.2.2.2.2.2.2.2.2.1 q.2.2.2.2.2.2.2.2.2.1 inp chs q.1 q.2.1 q.2.2.1 q.2.2.2.1 q.2.2.2.2.1 q.2.2.2.2.2.1 q.2.2.2.2.2.2.1 q.2.2.2.2.2.2.2.1 q.2.2.2.2.2.2.2.2.1 q.2.2.2.2.2.2.2.2.2.1 ops chs (ts++[Zy inp.length inp e]) ops (ops.length:Int) ((i+1:Nat):Int):=by
  have h41:=bs41 q inp ops chs ts ht (show i<1000 by omega) m;obtain⟨k,N,u⟩:=e;rw [Zjt];generalize hJ:Zz m q.1 q.2.1 q.2.2.1 q.2.2.2.1 q.2.2.2.2.1 q.2.2.2.2.2.1 q.2.2.2.2.2.2.1 q.2.2.2.2.2.2.2.1 q.2.2.2.2.2.2.2.2.1 q.2.2.2.2.2.2.2.2.2.1 inp chs q.1 q.2.1 q.2.2.1 q.2.2.2.1 q.2.2.2.2.1 q.2.2.2.2.2.1 q.2.2.2.2.2.2.1 q.2.2.2.2.2.2.2.1 q.2.2.2.2.2.2.2.2.1 q.2.2.2.2.2.2.2.2.2.1 ops chs (ts++[Zy inp.length inp (k,N,u)]) ops (ops.length:Int) ((i+1:Nat):Int)=R;generalize hJ41:Zr (m+1)=J41 at h41 ⊢;generalize Zz (m+1)=J35;generalize Qn (m+1)=J33;generalize Ym (m+1)=J9;generalize Y9 (m+1)=J11;generalize Xa (m+1)=J46;rcases ho with ⟨e,a,b⟩ | ⟨e | e,a,b⟩ | ⟨e | e,a,b⟩ | e | e
  . simp only at e a b;subst e;obtain⟨l,hb,hl⟩:=bb1 hi h4 a b;have hk:Zy inp.length inp (1,N,u)=(1,N,0,[],[],[],l,[],[],()):=by rw [<- hl];rfl
    rw [hk,<- h41] at hJ;simp only [iL hi',iN,cond_true,cond_false,J0l,he,show Go.IntKind.wrap Go.IntKind.u8 ((1:Int) - (1:Int))=0 from rfl,show decide ((0:Int)<=0)=true from rfl,show decide (Int.toNat (0:Int)=6)=false from rfl,show decide (Int.toNat (0:Int)=5)=false from rfl,show decide (Int.toNat (0:Int)=4)=false from rfl,show decide (Int.toNat (0:Int)=3)=false from rfl,show decide (Int.toNat (0:Int)=2)=false from rfl,show decide (Int.toNat (0:Int)=1)=false from rfl,show decide (Int.toNat (0:Int)=0)=true from rfl,hb,Zaw,List.isEmpty_nil];exact hJ
  . simp only at e a b;subst e;have hk:Zy inp.length inp (2,N,u)=(2,N,0,[],[(low,())],[],[],[],[],()):=rfl;rw [hk,<- h41] at hJ;simp only [iL hi',iN,cond_true,cond_false,J0l,he,show Go.IntKind.wrap Go.IntKind.u8 ((2:Int) - (1:Int))=1 from rfl,show decide ((0:Int)<=1)=true from rfl,show decide (Int.toNat (1:Int)=6)=false from rfl,show decide (Int.toNat (1:Int)=5)=false from rfl,show decide (Int.toNat (1:Int)=4)=false from rfl,show decide (Int.toNat (1:Int)=3)=false from rfl,show decide (Int.toNat (1:Int)=2)=false from rfl,show decide (Int.toNat (1:Int)=1)=true from rfl,Yqm a b,Zaw];exact hJ
  . simp only at e a b;subst e;have hk:Zy inp.length inp (3,N,u)=(3,N,0,[],[],[],[],[],[],()):=rfl;rw [hk,<- h41] at hJ;simp only [iL hi',iN,cond_true,cond_false,J0l,he,show Go.IntKind.wrap Go.IntKind.u8 ((3:Int) - (1:Int))=2 from rfl,show decide ((0:Int)<=2)=true from rfl,show decide (Int.toNat (2:Int)=6)=false from rfl,show decide (Int.toNat (2:Int)=5)=false from rfl,show decide (Int.toNat (2:Int)=4)=false from rfl,show decide (Int.toNat (2:Int)=3)=false from rfl,show decide (Int.toNat (2:Int)=2)=true from rfl,Yqn a b,Zaw];exact hJ
  . simp only at e a b;subst e;have hb:=bb2 q hq h1 h4 a b;have hk:Zy inp.length inp (4,N,u)=(4,N,0,[],List.replicate inp.length (low,()),[],[],[],[],()):=rfl;rw [hk,<- h41] at hJ;simp only [iL hi',iN,cond_true,cond_false,J0l,he,show Go.IntKind.wrap Go.IntKind.u8 ((4:Int) - (1:Int))=3 from rfl,show decide ((0:Int)<=3)=true from rfl,show decide (Int.toNat (3:Int)=6)=false from rfl,show decide (Int.toNat (3:Int)=5)=false from rfl,show decide (Int.toNat (3:Int)=4)=false from rfl,show decide (Int.toNat (3:Int)=3)=true from rfl,hb,Zaw,List.isEmpty_nil];exact hJ
  . simp only at e a b;subst e;have hk:Zy inp.length inp (5,N,u)=(5,N,0,[],[(low,()),(low,())],[],[],[],[],()):=rfl;rw [hk,<- h41] at hJ;simp only [iL hi',iN,cond_true,cond_false,J0l,he,show Go.IntKind.wrap Go.IntKind.u8 ((5:Int) - (1:Int))=4 from rfl,show decide ((0:Int)<=4)=true from rfl,show decide (Int.toNat (4:Int)=6)=false from rfl,show decide (Int.toNat (4:Int)=5)=false from rfl,show decide (Int.toNat (4:Int)=4)=true from rfl,Yqo a b,Zaw];exact hJ
  . simp only at e;subst e;have hk:Zy inp.length inp (6,N,u)=(6,0,0,[],[],[],[],[],[],()):=rfl;rw [hk,<- h41] at hJ;simp only [iL hi',iN,cond_true,cond_false,J0l,he,show Go.IntKind.wrap Go.IntKind.u8 ((6:Int) - (1:Int))=5 from rfl,show decide ((0:Int)<=5)=true from rfl,show decide (Int.toNat (5:Int)=6)=false from rfl,show decide (Int.toNat (5:Int)=5)=true from rfl,b3 N,Zaw];exact hJ
  . simp only at e;subst e;have hk:Zy inp.length inp (7,N,u)=(7,0,0,[],[],[],[],[],[],()):=rfl;rw [hk,<- h41] at hJ;simp only [iL hi',iN,cond_true,cond_false,J0l,he,show Go.IntKind.wrap Go.IntKind.u8 ((7:Int) - (1:Int))=6 from rfl,show decide ((0:Int)<=6)=true from rfl,show decide (Int.toNat (6:Int)=6)=true from rfl,b4 N,Zaw];exact hJ
theorem b35 (q:Qr){inp:Inp}(hi:Zny inp)(hq:q.2.2.1.length=inp.length)(g1:1<=inp.length)(g4:inp.length<=4)(ops:List Op2)(chs:List Ch5)(hl:ops.length<=1000)(hl2:chs.length<=1000)(ho:∀ o∈ops,okOp inp.length o)(hr:∀ c∈chs,1<=c.2.2.2.2.1/\c.2.2.2.2.1<=8):∀ (rest:List Op2) (i n:Nat),ops.drop i=rest->i<=ops.length->2 * rest.length+2000<=n ->
    Zz n q.1 q.2.1 q.2.2.1 q.2.2.2.1 q.2.2.2.2.1 q.2.2.2.2.2.1 q.2.2.2.2.2.2.1 q.2.2.2.2.2.2.2.1 q.2.2.2.2.2.2.2.2.1 q.2.2.2.2.2.2.2.2.2.1 inp chs q.1 q.2.1 q.2.2.1 q.2.2.2.1 q.2.2.2.2.1 q.2.2.2.2.2.1 q.2.2.2.2.2.2.1 q.2.2.2.2.2.2.2.1 q.2.2.2.2.2.2.2.2.1 q.2.2.2.2.2.2.2.2.2.1 ops chs ((ops.take i).map (Zy inp.length inp)) ops (ops.length:Int) (i:Int) =
     some ((q.1,q.2.1,q.2.2.1,q.2.2.2.1,q.2.2.2.2.1,q.2.2.2.2.2.1,q.2.2.2.2.2.2.1,q.2.2.2.2.2.2.2.1,q.2.2.2.2.2.2.2.2.1,q.2.2.2.2.2.2.2.2.2.1,ops,chs,ops.map (Zy inp.length inp),chs.map qOf,()),0,())
  | [],i,n,h,hi',hn=>by obtain⟨m,rfl⟩:∃ m,n=m+1+1:=⟨n - 2,by grind⟩;have:=Zc6 h hi';subst this;have hq:=b46 q ops chs (ops.map (Zy inp.length inp)) hl2 hr chs 0 m rfl (by omega) (by grind);simp only [Zjt,iG (show ¬ ops.length<ops.length by omega),cond_false,List.take_length,Zsu,J0g];grind
  | e::rest,i,n,h,hi',hn=>by obtain⟨m,rfl⟩:∃ m,n=m+1+1:=⟨n - 2,by grind⟩;obtain⟨h1,h2,h3⟩:=Zc5 h;have ih:=b35 q hi hq g1 g4 ops chs hl hl2 ho hr rest (i+1) m h3 (by omega) (by grind);have hs:=bs35 q hi hq g1 g4 ops chs ((ops.take i).map (Zy inp.length inp)) hl (by grind) h1 h2 (ho e (J0j h2)) m;grind
theorem b11 (q:Qr)(inp:Inp)(p r:Int)(hl:inp.length<=1000):∀ (rest:Inp) (i n:Nat),inp.drop i=rest->i<=inp.length->rest.length+5000<=n ->
    ∃ m,4000<=m/\Y9 n p r q.1 q.2.1 q.2.2.1 q.2.2.2.1 q.2.2.2.2.1 q.2.2.2.2.2.1 q.2.2.2.2.2.2.1 q.2.2.2.2.2.2.2.1 q.2.2.2.2.2.2.2.2.1 q.2.2.2.2.2.2.2.2.2.1 inp inp (inp.length:Int) (i:Int)=bif Zal rest != 0 then some (zM,Zal rest,()) else Ym m p r q.1 q.2.1 q.2.2.1 q.2.2.2.1 q.2.2.2.2.1 q.2.2.2.2.2.1 q.2.2.2.2.2.2.1 q.2.2.2.2.2.2.2.1 q.2.2.2.2.2.2.2.2.1 q.2.2.2.2.2.2.2.2.2.1 inp
  | [],i,n,h,hi,hn=>by obtain⟨m,rfl⟩:∃ m,n=m+1:=⟨n - 1,by grind⟩;have:=Zc6 h hi;refine⟨m,by grind,?_⟩;rw [show Zal ([]:Inp)=0 from rfl,Zaw,cond_false];simp only [Zjs,iG (show ¬ i<inp.length by omega),cond_false]
  | e::rest,i,n,h,hi,hn=>by
   obtain⟨m,rfl⟩:∃ m,n=m+1:=⟨n - 1,by grind⟩;obtain⟨h1,h2,h3⟩:=Zc5 h;obtain⟨m',hm,ih⟩:=b11 q inp p r hl rest (i+1) m h3 (by omega) (by grind);refine⟨m',hm,?_⟩;have hf:Zal (e::rest)=bif Zdj e.1 != 0 then Zdj e.1 else Zal rest:=rfl
   rw [hf];rw [Zjs];generalize Ym m' = J9' at ih ⊢;generalize Y9 m=J11 at ih ⊢;generalize Ym m=J9;generalize Qn m=J33;generalize Zz m=J35;generalize Zr m=J41;generalize Xa m=J46;simp only [iL h1,iN,cond_true,cond_false,J0l,h2,Yi3,wS (show i<1000000000000 by omega),ih];cases he:(Zdj e.1 != 0) with
   | true=>rw [cond_true,cond_true,he,cond_true];rfl
   | false=>grind
end Tg

/- The law of the builder, in plain terms: the code's machine and error are the reference's. -/
namespace Tg
open Go.Abs (Zb Zf tmm)
theorem Yi8 {n P:Nat}(hn:1<=n/\n<=4)(hP:1<=P/\P<=3){len p late:Int}(hlen:len=(n:Int))(hp:p=(P:Int))(key join side:Bool)(hl:late=bif side then 2 else 1)(room:Int) :
    Qw fuel 1 [] len 0 p join key late room len=some ((opsG n (bif key then P else 1) key join side,chG n (bif key then P else 1) key side room,()),0,()):=by
  subst hlen;subst hp;subst hl;exact Ymi n P hn hP key join side room
theorem Ycl (s:List (Int×Unit))(q:Qr)(hc:Zgo (s,q)=some (0,()))(p r:Int) :
    Zqa (s,q) p r=bif prE p r != 0 then some (([],[],()),prE p r,()) else Qw fuel 1 [] (Int.ofNat q.2.2.1.length) 0 p q.2.2.2.1 q.2.2.2.2.2.2.2.2.1 q.2.2.2.2.2.2.2.2.2.1 r (Int.ofNat q.2.2.1.length):=by
  rw [Z9y];generalize Qw fuel=J19;simp only [hc,Zaw,cond_false];unfold prE;grind
theorem Ymk {q:Qr}{inp:Inp}{p r:Int}(s:List (Int×Unit))(hc:Zgo (s,q)=some (0,()))(e1:(chkQ q).2.1=0)(e2:inp.length=q.2.2.1.length)(h0:prE p r=0) :
    Zqa (s,q) p r=some ((opsG inp.length (partsOf q p) q.2.2.2.2.2.2.2.2.1 q.2.2.2.1 (q.2.2.2.2.2.2.2.2.2.1==2),chG inp.length (partsOf q p) q.2.2.2.2.2.2.2.2.1 (q.2.2.2.2.2.2.2.2.2.1==2) r,()),0,()):=by
  have h:=Ycl s q hc p r;rw [h0,Zaw,cond_false] at h;obtain⟨p1,p2,r1,r2⟩:=prE0 h0;have hl:q.2.2.2.2.2.2.2.2.2.1=bif (q.2.2.2.2.2.2.2.2.2.1==2) then 2 else 1:=by rcases Yd5 (Z0k e1) with h | h <;> rw [h] <;> rfl
  have h5:=Zqc (Zh4 (Z0k e1));have hg:=Yi8 (n:=inp.length) (P:=p.toNat) (by grind) ⟨by omega,by omega⟩ (len:=Int.ofNat q.2.2.1.length) (by grind) (show p=(p.toNat:Int) by omega) q.2.2.2.2.2.2.2.2.1 q.2.2.2.1 (q.2.2.2.2.2.2.2.2.2.1==2) hl r;exact h.trans hg
theorem b9 {q:Qr}{inp:Inp}{p r:Int}(e1:(chkQ q).2.1=0)(e2:inp.length=q.2.2.1.length)(hi:Zny inp)(h1:q.2.1.length<=1000)(h2:q.2.2.1.length<=1000)(h3:q.2.2.2.2.1.length<=1000){m:Nat}(hm:4000<=m) :
    Ym m p r q.1 q.2.1 q.2.2.1 q.2.2.2.1 q.2.2.2.2.1 q.2.2.2.2.2.1 q.2.2.2.2.2.2.1 q.2.2.2.2.2.2.2.1 q.2.2.2.2.2.2.2.2.1 q.2.2.2.2.2.2.2.2.2.1 inp=some (bif prE p r != 0 then zM else mOf q inp p r,prE p r,()):=by
  obtain⟨k,rfl⟩:∃ k,m=k+1:=⟨m - 1,by omega⟩;obtain⟨s,hp,hc⟩:=Yd4 e1 h1 h2 h3;have hp' : Ztf (q.1,q.2.1,q.2.2.1,q.2.2.2.1,q.2.2.2.2.1,q.2.2.2.2.2.1,q.2.2.2.2.2.2.1,q.2.2.2.2.2.2.2.1,q.2.2.2.2.2.2.2.2.1,q.2.2.2.2.2.2.2.2.2.1,())=some ((s,q),0,()):=hp;have h5:=Zqc (Zh4 (Z0k e1));rw [Zwq];generalize hJ:Zz k=J35;generalize Ym k=J9;generalize Y9 k=J11;generalize Qn k=J33;generalize Zr k=J41;generalize Xa k=J46;cases he:(prE p r != 0) with
  | true=>have hg:=Ycl s q hc p r;rw [he,cond_true] at hg;simp only [hp',Zaw,cond_false,hg,he,cond_true];rfl
  | false =>
   have h0:prE p r=0:=by grind
   have hg:=Ymk s hc e1 e2 h0;obtain⟨p1,p2,r1,r2⟩:=prE0 h0;obtain⟨P1,P2⟩:=Zjh q ⟨p1,p2⟩;have n1:1<=inp.length:=by omega
   have n2:inp.length<=4:=by omega
   obtain⟨o1,o2⟩:=Z3m inp.length (partsOf q p) ⟨n1,n2⟩ ⟨P1,P2⟩ q.2.2.2.2.2.2.2.2.1 q.2.2.2.1 (q.2.2.2.2.2.2.2.2.2.1==2);obtain⟨c1,c2⟩:=Z96 inp.length (partsOf q p) ⟨n1,n2⟩ ⟨P1,P2⟩ q.2.2.2.2.2.2.2.2.1 (q.2.2.2.2.2.2.2.2.2.1==2) r;have hb:=b35 q hi e2.symm n1 n2 (opsG inp.length (partsOf q p) q.2.2.2.2.2.2.2.2.1 q.2.2.2.1 (q.2.2.2.2.2.2.2.2.2.1==2)) (chG inp.length (partsOf q p) q.2.2.2.2.2.2.2.2.1 (q.2.2.2.2.2.2.2.2.2.1==2) r) (by omega) (by omega) o2 (fun c hc=>by grind) (opsG inp.length (partsOf q p) q.2.2.2.2.2.2.2.2.1 q.2.2.2.1 (q.2.2.2.2.2.2.2.2.2.1==2)) 0 k rfl (by omega) (by omega);rw [hJ,List.take_zero,List.map_nil,show ((0:Nat):Int)=0 from rfl] at hb;simp only [hp',Zaw,cond_false,hg,J0g,Zcq (show q.2.1.length<=1000000 by omega) (show 40<=1000 by omega),Zcq (show q.2.2.1.length<=1000000 by omega) (show 8<=1000 by omega),Zcq (show q.2.2.2.2.1.length<=1000000 by omega) (show 40<=1000 by omega),hb];rw [h0];rfl
theorem Z6z (q:Qr)(inp:Inp)(p r:Int)(hl:inp.length<=1000)(h1:q.2.1.length<=1000)(h2:q.2.2.1.length<=1000)(h3:q.2.2.2.2.1.length<=1000):Zan q inp p r=some (bif askE q inp p r != 0 then zM else mOf q inp p r,askE q inp p r,()):=by
 obtain⟨n,hn⟩:=Zb0;obtain⟨m,hm,hb⟩:=b11 q inp p r hl inp 0 fuel rfl (by omega) (by grind);rw [show ((0:Nat):Int)=0 from rfl] at hb;have h9:=fun a b c=>b9 (q:=q) (inp:=inp) (p:=p) (r:=r) a b c h1 h2 h3 hm;rw [Zyd];generalize Ym m=J9' at hb h9;generalize Y9 fuel=J11 at hb ⊢;generalize Ym fuel=J9;generalize Qn fuel=J33;generalize Zz fuel=J35;generalize Zr fuel=J41;generalize Xa fuel=J46;simp only [Zm0,J0g,hb];unfold askE;cases hc:((chkQ q).2.1 != 0) with
 | true=>simp only [cond_true,hc];rfl
 | false =>
  simp only [cond_false];cases hd:((inp.length:Int) != (q.2.2.1.length:Int)) with
  | true=>rfl
  | false =>
   have e2:inp.length=q.2.2.1.length:=by grind
   simp only [cond_false];cases hf:(Zal inp != 0) with
   | true=>grind
   | false=>simp only [cond_false];exact h9 (by grind) e2 (Zri (by grind))
end Tg
