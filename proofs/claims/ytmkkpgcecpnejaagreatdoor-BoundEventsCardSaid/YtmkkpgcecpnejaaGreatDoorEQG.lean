import Derived.Test.YtmkkpgcecpnejaaGreatDoorEPK
import Derived.Test.YtmkkpgcecpnejaaGreatDoorEMW
import Derived.Test.YtmkkpgcecpnejaaGreatDoorEQz1
/- Events: what each check says of them. -/
set_option linter.unusedVariables false
set_option linter.unusedSimpArgs false
namespace Tg
open Go.Abs (Zc Zh tmm)
abbrev Ev:=Bool×Int×Int×Int×Int×Unit
def tmB (t:Int):Bool:=decide (t >= -1099511627776)&&decide (t<=1099511627776)
def zR (e:Ev):Bool:=e.2.2.1==0&&(e.2.2.2.1==0&&(e.2.2.2.2.1==0&&true))
def evOk (e:Ev):Bool:=bif e.1 then zR e&&(tmB e.2.1||e.2.1==9223372036854775807) else e.2.1==0&&tmB e.2.2.2.1
theorem Ynv (t:Int):Zev t=some (tmB t,()):=by rw [Z3m];unfold tmB;cases decide (t >= -1099511627776) <;> rfl
theorem Ykx {a b:Int}:decide (a<b) = !decide (a>=b):=by
 by_cases h:a<b
 . rw [dT h,dF (by omega)];rfl
 . rw [dF h,dT (by omega)];rfl
theorem Yky {a b:Int}:decide (a>b) = !decide (a<=b):=by
 by_cases h:a>b
 . rw [dT h,dF (by omega)];rfl
 . rw [dF h,dT (by omega)];rfl
theorem Z8z (e:Ev):evOk e=evtB e:=by unfold evOk evtB zR Zp4;have h:∀ t,tmB t=Zcc t:=fun t=>rfl;rw [h,h];cases e.1 <;> cases (e.2.2.1==0) <;> cases (e.2.2.2.1==0) <;> cases (e.2.2.2.2.1==0) <;> cases (e.2.1==0) <;> cases (e.2.1==9223372036854775807) <;> cases Zcc e.2.1 <;> cases Zcc e.2.2.2.1 <;> rfl
theorem mev (e:Ev):Zbh e=some (bif evOk e then 0 else 8,()):=by rw [Z8z];exact Z8e e

theorem Zx0 (l:List Ev)(hl:l.length<=1000):∀ (rest:List Ev) (i n:Nat),l.drop i=rest->i<=l.length->rest.length+1<=n->Zbk n l (l.length:Int) (i:Int)=some (bif rest.all evOk then 0 else 8,())
 | [],i,n,h,hi,hn=>by obtain⟨m,rfl⟩:∃ m,n=m+1:=⟨n - 1,by simp at hn;omega⟩;have:=Zdz h hi;simp only [Zl1,iG (show ¬ i<l.length by omega),cond_false,List.all_nil,cond_true]
 | e::rest,i,n,h,hi,hn=>by obtain⟨m,rfl⟩:∃ m,n=m+1:=⟨n - 1,by simp at hn;omega⟩;obtain⟨h1,h2,h3⟩:=Zdy h;have ih:=Zx0 l hl rest (i+1) m h3 (by omega) (by simp at hn;omega);simp only [Zl1,iL h1,iN,cond_true,J0l,h2,Ynv,wS (show i<1000000000000 by omega),ih,List.all_cons];unfold evOk zR;cases e.1 <;> cases (e.2.2.1==0&&(e.2.2.2.1==0&&(e.2.2.2.2.1==0&&true))) <;> cases (e.2.1==0) <;> cases (e.2.1==9223372036854775807) <;> cases tmB e.2.1 <;> cases tmB e.2.2.2.1 <;> rfl
def Zee (l:List Ev):Int:=bif decide ((l.length:Int)>60) then 4 else bif l.all evOk then 0 else 8
theorem Yfd (l:List Ev):Zmn l=some (Zee l,()):=by
 rw [Zzz];unfold Zee;by_cases h:(l.length:Int)>60
 . simp only [J0g,dT h,cond_true]
 . obtain⟨n,hn⟩:=Zbx;simp only [J0g,dF h,cond_false];exact Zx0 l (by omega) l 0 fuel rfl (by omega) (by rw [hn];omega)
end Tg

/- Plans: the steps, and that a plan that was made is right. -/
namespace Tg
open Go.Abs (Zc Zh tmm)
theorem Zdb {α:Type}{b:Nat}{l:List α}(h:l.length<=1000000)(hb:b<=1000):Zh b l=some (l,()):=by unfold Zh;rw [Zgi h hb,cond_true]
def Z0m (w k j s:Bool):List (Int×Unit):=[(1,()),(2,())]++(bif w then [(3,())] else [])++[(4,())]++(bif k then [(5,())] else [])++[(6,())]++(bif j then [(8,())] else [(7,())])++[(9,())]++(bif s then [(10,())] else [])
theorem ps_w (w k j:Bool)(l:Int):Zdn fuel j k l (bif w then [(1,()),(2,())]++[(3,())] else [(1,()),(2,())])=(bif l==2 then some (Z0m w k j true,()) else some (Z0m w k j false,())):=by obtain⟨n,hn⟩:=Zbx;rw [hn,show n+1000000000000=(n+999999999997)+1+1+1 from rfl,Zvu];cases w <;> cases k <;> cases j <;> simp [Zvv,Zvw,Z0m,Zc,Go.Abs.Zw,Go.maxLen, *]
theorem Zh5 (w k j s:Bool):(Z0m w k j s).length<=20:=by cases w <;> cases k <;> cases j <;> cases s <;> decide
theorem Ynw (q:Qr):∃ s,Zht q=some (s,())/\s.length<=20:=by
 have h:=ps_w (decide (Int.ofNat q.2.2.2.2.1.length>0)) q.2.2.2.2.2.2.2.2.1 q.2.2.2.1 q.2.2.2.2.2.2.2.2.2.1;rw [Zz0];generalize decide (Int.ofNat q.2.2.2.2.1.length>0)=w at h ⊢;cases w with
 | true =>
  simp only [cond_true] at h ⊢;rw [h];cases (q.2.2.2.2.2.2.2.2.2.1==2) with
  | true=>exact⟨_,rfl,Zh5 _ _ _ _⟩
  | false=>exact⟨_,rfl,Zh5 _ _ _ _⟩
 | false =>
  simp only [cond_false] at h ⊢;rw [h];cases (q.2.2.2.2.2.2.2.2.2.1==2) with
  | true=>exact⟨_,rfl,Zh5 _ _ _ _⟩
  | false=>exact⟨_,rfl,Zh5 _ _ _ _⟩
theorem Zd5 (x:Int):(x != x)=false:=by simp
theorem Z80 (l:List (Int×Unit))(hl:l.length<=1000):∀ (rest:List (Int×Unit)) (i n:Nat),l.drop i=rest->i<=l.length->rest.length+1<=n->Yb n l l (l.length:Int) (i:Int)=some (true,())
 | [],i,n,h,hi,hn=>by obtain⟨m,rfl⟩:∃ m,n=m+1:=⟨n - 1,by grind⟩;have:=Zdz h hi;simp only [Zaf,iG (show ¬ i<l.length by omega),cond_false]
 | e::rest,i,n,h,hi,hn=>by obtain⟨m,rfl⟩:∃ m,n=m+1:=⟨n - 1,by grind⟩;obtain⟨h1,h2,h3⟩:=Zdy h;have ih:=Z80 l hl rest (i+1) m h3 (by omega) (by grind);simp only [Zaf,iL h1,iN,cond_true,cond_false,J0l,h2,wS (show i<1000000000000 by omega),Zd5,ih]
theorem Yh0 {l:List (Int×Unit)}(hl:l.length<=1000):Xu l l=some (true,()):=by obtain⟨n,hn⟩:=Zbx;rw [Zd4];simp only [Zd5,cond_false,J0g];exact Z80 l hl l 0 fuel rfl (by omega) (by grind)
theorem Yai {q:Qr}(h:(chkQ q).2.1=0)(h1:q.2.1.length<=1000)(h2:q.2.2.1.length<=1000)(h3:q.2.2.2.2.1.length<=1000):∃ s,Zrd q=some ((s,q),0,())/\Zfn (s,q)=some (0,()):=by
 obtain⟨s,hs,hl⟩:=Ynw q;refine⟨s,?_,?_⟩
 . rw [Yag];simp only [Zlc,Zxw h,cond_false,Zdb (show q.2.1.length<=1000000 by omega) (show 40<=1000 by omega),Zdb (show q.2.2.1.length<=1000000 by omega) (show 8<=1000 by omega),Zdb (show q.2.2.2.2.1.length<=1000000 by omega) (show 40<=1000 by omega)];grind
 . rw [Zz1];simp only [Zlc,Zxw h,cond_false,hs,Yh0 (show s.length<=1000 by omega)];rfl
/- the reference's steps: what they are does not matter -/
theorem w8 {k:Nat}(h:k<=20):Go.IntKind.wrap Go.IntKind.u8 ((k:Int)+1)=((k+1:Nat):Int):=by
 have:∀ j:Fin 21,Go.IntKind.wrap Go.IntKind.u8 ((j.1:Int)+1)=((j.1+1:Nat):Int):=by decide
 exact this ⟨k,by omega⟩
end Tg

/- The makers of graphs as plain functions that the kernel can run. -/
set_option maxRecDepth 100000
namespace Tg
open Go.Abs hiding fuel
open Go.Proofs.Tryz (prog)
open Int (ofNat toNat)
open Go.IntKind (wrap)
theorem Yfe:fuel=Go.Abs.fuel:=Zbw _
theorem itr0 {tab:Tb}{P:Go.Program}{g:Go.FuncId}{f:TFun}{i:Nat}{x:denL (Zcw (Zcb f.cuts i) [])}:itr tab P g f 0 i x=none:=by rw [Z5e];rfl
mutual
def tG13:Nat->Int->Bool->Bool->Int->Int->Int->Qy5->Option Qy4
 | 0,_,_,_,_,_,_,_=>none
 | n+1,x0,x1,x2,x3,x4,x5,x6=>tG31 n 2 x6 (ofNat x6.length) x5 0 x0 x1 x2 x3 x4 x5
def tG19:Nat->Int->Qy5->Int->Int->Int->Bool->Bool->Int->Int->Int->Option Qy4
 | 0,_,_,_,_,_,_,_,_,_,_=>none
 | n+1,x0,x1,x2,x3,x4,x5,x6,x7,x8,x9=>bif x3<x2 then bif Zc (x1.length+List.length [(x0,x3,())]) 16 then tG19 n x0 (x1++[(x0,x3,())]) x2 (wrap .i64 (x3+1)) x4 x5 x6 x7 x8 x9 else none else tG13 n x4 x5 x6 x7 x8 x9 x1
def tG25:Nat->Int->Bool->Bool->Int->Int->Int->Qy5->Int->Option Qy4
 | 0,_,_,_,_,_,_,_,_=>none
 | n+1,x0,x1,x2,x3,x4,x5,x6,x7=>bif x2 then tG45 n 3 x6 (ofNat x6.length) x5 0 x0 x1 x2 x3 x4 x5 x7 else tG38 n 1 x1 x2 x3 x4 x5 x6 x7 x7
def tG31:Nat->Int->Qy5->Int->Int->Int->Int->Bool->Bool->Int->Int->Int->Option Qy4
 | 0,_,_,_,_,_,_,_,_,_,_,_=>none
 | n+1,x0,x1,x2,x3,x4,x5,x6,x7,x8,x9,x10=>bif x4<x3 then bif Zc (x1.length+List.length [(x0,x4,())]) 16 then tG31 n x0 (x1++[(x0,x4,())]) x2 x3 (wrap .i64 (x4+1)) x5 x6 x7 x8 x9 x10 else none else tG25 n x5 x6 x7 x8 x9 x10 x1 x2
def tG38:Nat->Int->Bool->Bool->Int->Int->Int->Qy5->Int->Int->Option Qy4
 | 0,_,_,_,_,_,_,_,_,_=>none
 | n+1,x0,x1,x2,x3,x4,x5,x6,x7,x8=>bif x1 then tG52 n x0 x2 x3 x4 x5 x6 x7 x8 5 else tG52 n x0 x2 x3 x4 x5 x6 x7 x8 4
def tG45:Nat->Int->Qy5->Int->Int->Int->Int->Bool->Bool->Int->Int->Int->Int->Option Qy4
 | 0,_,_,_,_,_,_,_,_,_,_,_,_=>none
 | n+1,x0,x1,x2,x3,x4,x5,x6,x7,x8,x9,x10,x11=>bif x4<x3 then bif Zc (x1.length+List.length [(x0,x4,())]) 16 then tG45 n x0 (x1++[(x0,x4,())]) x2 x3 (wrap .i64 (x4+1)) x5 x6 x7 x8 x9 x10 x11 else none else tG38 n x5 x6 x7 x8 x9 x10 x1 x11 x2
def tG52:Nat->Int->Bool->Int->Int->Int->Qy5->Int->Int->Int->Option Qy4
 | 0,_,_,_,_,_,_,_,_,_=>none
 | n+1,x0,x1,x2,x3,x4,x5,x6,x7,x8=>tG60 n x8 x5 (ofNat x5.length) x0 0 x0 x1 x2 x3 x4 x6 x7
def tG54:Nat->Int->Bool->Int->Int->Int->Qy5->Int->Int->Int->Option Qy4
 | 0,_,_,_,_,_,_,_,_,_=>none
 | n+1,x0,x1,x2,x3,x4,x5,x6,x7,x8=>tG72 n 6 x5 (ofNat x5.length) 1 0 x0 x1 x2 x3 x4 x6 x7 x8
def tG60:Nat->Int->Qy5->Int->Int->Int->Int->Bool->Int->Int->Int->Int->Int->Option Qy4
 | 0,_,_,_,_,_,_,_,_,_,_,_,_=>none
 | n+1,x0,x1,x2,x3,x4,x5,x6,x7,x8,x9,x10,x11=>bif x4<x3 then bif Zc (x1.length+List.length [(x0,x4,())]) 16 then tG60 n x0 (x1++[(x0,x4,())]) x2 x3 (wrap .i64 (x4+1)) x5 x6 x7 x8 x9 x10 x11 else none else tG54 n x5 x6 x7 x8 x9 x1 x10 x11 x2
def tG66:Nat->Int->Bool->Int->Int->Int->Qy5->Int->Int->Int->Int->Option Qy4
 | 0,_,_,_,_,_,_,_,_,_,_=>none
 | n+1,x0,x1,x2,x3,x4,x5,x6,x7,x8,x9=>tG80 n x0 x1 x2 x3 x4 x5 ([]) x6 x7 x8 x9 x4 0
def tG72:Nat->Int->Qy5->Int->Int->Int->Int->Bool->Int->Int->Int->Int->Int->Int->Option Qy4
 | 0,_,_,_,_,_,_,_,_,_,_,_,_,_=>none
 | n+1,x0,x1,x2,x3,x4,x5,x6,x7,x8,x9,x10,x11,x12=>bif x4<x3 then bif Zc (x1.length+List.length [(x0,x4,())]) 16 then tG72 n x0 (x1++[(x0,x4,())]) x2 x3 (wrap .i64 (x4+1)) x5 x6 x7 x8 x9 x10 x11 x12 else none else tG66 n x5 x6 x7 x8 x9 x1 x10 x11 x12 x2
def tG78:Nat->Int->Bool->Int->Int->Int->Qy5->(List Qy2)->Int->Int->Int->Int->Option Qy4
 | 0,_,_,_,_,_,_,_,_,_,_,_=>none
 | n+1,x0,x1,x2,x3,x4,x5,x6,x7,x8,x9,x10=>tG88 n x0 x1 x2 x3 x4 x5 x6 x7 x8 x9 x10 x4 0
def tG80:Nat->Int->Bool->Int->Int->Int->Qy5->(List Qy2)->Int->Int->Int->Int->Int->Int->Option Qy4
 | 0,_,_,_,_,_,_,_,_,_,_,_,_,_=>none
 | n+1,x0,x1,x2,x3,x4,x5,x6,x7,x8,x9,x10,x11,x12=>bif x12<x11 then bif Zc (x6.length+List.length [(x12,0,wrap .i64 (x7+x12),0,x3,())]) 40 then tG80 n x0 x1 x2 x3 x4 x5 (x6++[(x12,0,wrap .i64 (x7+x12),0,x3,())]) x7 x8 x9 x10 x11 (wrap .i64 (x12+1)) else none else tG78 n x0 x1 x2 x3 x4 x5 x6 x7 x8 x9 x10
def tG86:Nat->Int->Bool->Int->Int->Int->Qy5->(List Qy2)->Int->Int->Int->Option Qy4
 | 0,_,_,_,_,_,_,_,_,_,_=>none
 | n+1,x0,x1,x2,x3,x4,x5,x6,x7,x8,x9=>Z3s n x0 x1 x2 x3 x5 x6 x7 x8 x9 x4 0
def tG88:Nat->Int->Bool->Int->Int->Int->Qy5->(List Qy2)->Int->Int->Int->Int->Int->Int->Option Qy4
 | 0,_,_,_,_,_,_,_,_,_,_,_,_,_=>none
 | n+1,x0,x1,x2,x3,x4,x5,x6,x7,x8,x9,x10,x11,x12=>bif x12<x11 then bif x1 then bif Zc (x6.length+List.length [(wrap .i64 (x7+x12),0,wrap .i64 (x8+x12),0,x3,())]) 40 then tG93 n x0 x1 x2 x3 x4 x5 (x6++[(wrap .i64 (x7+x12),0,wrap .i64 (x8+x12),0,x3,())]) x7 x8 x9 x10 x12 x11 x12 else none else bif Zc (x6.length+List.length [(wrap .i64 (x7+x12),0,x9,x12,x3,())]) 40 then tG93 n x0 x1 x2 x3 x4 x5 (x6++[(wrap .i64 (x7+x12),0,x9,x12,x3,())]) x7 x8 x9 x10 x12 x11 x12 else none else tG86 n x0 x1 x2 x3 x4 x5 x6 x8 x9 x10
def tG93:Nat->Int->Bool->Int->Int->Int->Qy5->(List Qy2)->Int->Int->Int->Int->Int->Int->Int->Option Qy4
 | 0,_,_,_,_,_,_,_,_,_,_,_,_,_,_=>none
 | n+1,x0,x1,x2,x3,x4,x5,x6,x7,x8,x9,x10,x11,x12,x13=>bif x2==2 then bif Zc (x6.length+List.length [(wrap .i64 (x7+x11),1,wrap .i64 (x10+1),x11,x3,())]) 40 then tG88 n x0 x1 x2 x3 x4 x5 (x6++[(wrap .i64 (x7+x11),1,wrap .i64 (x10+1),x11,x3,())]) x7 x8 x9 x10 x12 (wrap .i64 (x13+1)) else none else tG88 n x0 x1 x2 x3 x4 x5 x6 x7 x8 x9 x10 x12 (wrap .i64 (x13+1))
def tG99:Nat->Int->Int->Int->Qy5->(List Qy2)->Int->Int->Option Qy4
 | 0,_,_,_,_,_,_,_=>none
 | n+1,x0,x1,x2,x3,x4,x5,x6=>Z3t n x1 x2 x3 x4 x5 x6 x0 0
def Z3s:Nat->Int->Bool->Int->Int->Qy5->(List Qy2)->Int->Int->Int->Int->Int->Option Qy4
 | 0,_,_,_,_,_,_,_,_,_,_,_=>none
 | n+1,x0,x1,x2,x3,x4,x5,x6,x7,x8,x9,x10=>bif x10<x9 then Zx1 n x0 x1 x2 x3 x4 x5 x6 x7 x8 x10 x9 x10 x0 0 else tG99 n x0 x2 x3 x4 x5 x7 x8
def Zx1:Nat->Int->Bool->Int->Int->Qy5->(List Qy2)->Int->Int->Int->Int->Int->Int->Int->Int->Option Qy4
 | 0,_,_,_,_,_,_,_,_,_,_,_,_,_,_=>none
 | n+1,x0,x1,x2,x3,x4,x5,x6,x7,x8,x9,x10,x11,x12,x13=>bif x13<x12 then bif x1 then bif Zc (x5.length+List.length [(wrap .i64 (x6+x9),x13,wrap .i64 (x7+x13),x9,x3,())]) 40 then Zx1 n x0 x1 x2 x3 x4 (x5++[(wrap .i64 (x6+x9),x13,wrap .i64 (x7+x13),x9,x3,())]) x6 x7 x8 x9 x10 x11 x12 (wrap .i64 (x13+1)) else none else Zx1 n x0 x1 x2 x3 x4 x5 x6 x7 x8 x9 x10 x11 x12 (wrap .i64 (x13+1)) else Z3s n x0 x1 x2 x3 x4 x5 x6 x7 x8 x10 (wrap .i64 (x11+1))
def Z81:Nat->Int->Qy5->(List Qy2)->Option Qy4
 | 0,_,_,_=>none
 | n+1,x0,x1,x2=>bif x0==2 then Z3u n 7 x1 x2 1 0 else some (((x1,x2,()),0,()))
def Z3t:Nat->Int->Int->Qy5->(List Qy2)->Int->Int->Int->Int->Option Qy4
 | 0,_,_,_,_,_,_,_,_=>none
 | n+1,x0,x1,x2,x3,x4,x5,x6,x7=>bif x7<x6 then bif Zc (x3.length+List.length [(wrap .i64 (x4+x7),0,x5,x7,x1,())]) 40 then Z3t n x0 x1 x2 (x3++[(wrap .i64 (x4+x7),0,x5,x7,x1,())]) x4 x5 x6 (wrap .i64 (x7+1)) else none else Z81 n x0 x2 x3
def Z3u:Nat->Int->Qy5->(List Qy2)->Int->Int->Option Qy4
 | 0,_,_,_,_,_=>none
 | n+1,x0,x1,x2,x3,x4=>bif x4<x3 then bif Zc (x1.length+List.length [(x0,x4,())]) 16 then Z3u n x0 (x1++[(x0,x4,())]) x2 x3 (wrap .i64 (x4+1)) else none else some (((x1,x2,()),0,()))
end
theorem Yi4:∀ n,Zhu n=tG13 n/\Qv n=tG19 n/\Zhv n=tG25 n/\Zel n=tG31 n/\Zem n=tG38 n/\Zen n=tG45 n/\Zeo n=tG52 n/\Zhw n=tG54 n/\Zep n=tG60 n/\Zhx n=tG66 n/\Zeq n=tG72 n/\Zhy n=tG78 n/\Zer n=tG80 n/\Zhz n=tG86 n/\Zco n=tG88 n/\Zes n=tG93 n/\Zh0 n=tG99 n/\Zdo n=Z3s n/\Zbl n=Zx1 n/\Zgp n=Z81 n/\Zdp n=Z3t n/\Zdq n=Z3u n
 | 0=>⟨by funext x0 x1 x2 x3 x4 x5 x6;rw [tG13];exact itr0,by funext x0 x1 x2 x3 x4 x5 x6 x7 x8 x9;rw [tG19];exact itr0,by funext x0 x1 x2 x3 x4 x5 x6 x7;rw [tG25];exact itr0,by funext x0 x1 x2 x3 x4 x5 x6 x7 x8 x9 x10;rw [tG31];exact itr0,by funext x0 x1 x2 x3 x4 x5 x6 x7 x8;rw [tG38];exact itr0,by funext x0 x1 x2 x3 x4 x5 x6 x7 x8 x9 x10 x11;rw [tG45];exact itr0,by funext x0 x1 x2 x3 x4 x5 x6 x7 x8;rw [tG52];exact itr0,by funext x0 x1 x2 x3 x4 x5 x6 x7 x8;rw [tG54];exact itr0,by funext x0 x1 x2 x3 x4 x5 x6 x7 x8 x9 x10 x11;rw [tG60];exact itr0,by funext x0 x1 x2 x3 x4 x5 x6 x7 x8 x9;rw [tG66];exact itr0,by funext x0 x1 x2 x3 x4 x5 x6 x7 x8 x9 x10 x11 x12;rw [tG72];exact itr0,by funext x0 x1 x2 x3 x4 x5 x6 x7 x8 x9 x10;rw [tG78];exact itr0,by funext x0 x1 x2 x3 x4 x5 x6 x7 x8 x9 x10 x11 x12;rw [tG80];exact itr0,by funext x0 x1 x2 x3 x4 x5 x6 x7 x8 x9;rw [tG86];exact itr0,by funext x0 x1 x2 x3 x4 x5 x6 x7 x8 x9 x10 x11 x12;rw [tG88];exact itr0,by funext x0 x1 x2 x3 x4 x5 x6 x7 x8 x9 x10 x11 x12 x13;rw [tG93];exact itr0,by funext x0 x1 x2 x3 x4 x5 x6;rw [tG99];exact itr0,by funext x0 x1 x2 x3 x4 x5 x6 x7 x8 x9 x10;rw [Z3s];exact itr0,by funext x0 x1 x2 x3 x4 x5 x6 x7 x8 x9 x10 x11 x12 x13;rw [Zx1];exact itr0,by funext x0 x1 x2;rw [Z81];exact itr0,by funext x0 x1 x2 x3 x4 x5 x6 x7;rw [Z3t];exact itr0,by funext x0 x1 x2 x3 x4;rw [Z3u];exact itr0⟩
 | n+1=>by
  obtain⟨h13,h19,h25,h31,h38,h45,h52,h54,h60,h66,h72,h78,h80,h86,h88,h93,h99,h101,h107,h114,h116,h129⟩:=Yi4 n;refine⟨?_,?_,?_,?_,?_,?_,?_,?_,?_,?_,?_,?_,?_,?_,?_,?_,?_,?_,?_,?_,?_,?_⟩
  . funext x0 x1 x2 x3 x4 x5 x6;rw [Zz2,tG13,h31]
  . funext x0 x1 x2 x3 x4 x5 x6 x7 x8 x9;rw [Zz3,tG19,h13,h19]
  . funext x0 x1 x2 x3 x4 x5 x6 x7;rw [Zz4,tG25,h38,h45]
  . funext x0 x1 x2 x3 x4 x5 x6 x7 x8 x9 x10;rw [Zz5,tG31,h25,h31]
  . funext x0 x1 x2 x3 x4 x5 x6 x7 x8;rw [Zz6,tG38,h52]
  . funext x0 x1 x2 x3 x4 x5 x6 x7 x8 x9 x10 x11;rw [Zz7,tG45,h38,h45]
  . funext x0 x1 x2 x3 x4 x5 x6 x7 x8;rw [Zz8,tG52,h60]
  . funext x0 x1 x2 x3 x4 x5 x6 x7 x8;rw [Zz9,tG54,h72]
  . funext x0 x1 x2 x3 x4 x5 x6 x7 x8 x9 x10 x11;rw [Z0a,tG60,h54,h60]
  . funext x0 x1 x2 x3 x4 x5 x6 x7 x8 x9;rw [Z0b,tG66,h80]
  . funext x0 x1 x2 x3 x4 x5 x6 x7 x8 x9 x10 x11 x12;rw [Z0c,tG72,h66,h72]
  . funext x0 x1 x2 x3 x4 x5 x6 x7 x8 x9 x10;rw [Z0d,tG78,h88]
  . funext x0 x1 x2 x3 x4 x5 x6 x7 x8 x9 x10 x11 x12;rw [Z0e,tG80,h78,h80]
  . funext x0 x1 x2 x3 x4 x5 x6 x7 x8 x9;rw [Z0f,tG86,h101]
  . funext x0 x1 x2 x3 x4 x5 x6 x7 x8 x9 x10 x11 x12;rw [Z0g,tG88,h86,h93]
  . funext x0 x1 x2 x3 x4 x5 x6 x7 x8 x9 x10 x11 x12 x13;rw [Z0h,tG93,h88]
  . funext x0 x1 x2 x3 x4 x5 x6;rw [Z0i,tG99,h116]
  . funext x0 x1 x2 x3 x4 x5 x6 x7 x8 x9 x10;rw [Zvx,Z3s,h99,h107]
  . funext x0 x1 x2 x3 x4 x5 x6 x7 x8 x9 x10 x11 x12 x13;rw [Zvy,Zx1,h101,h107]
  . funext x0 x1 x2;rw [Zvz,Z81,h129]
  . funext x0 x1 x2 x3 x4 x5 x6 x7;rw [Zv0,Z3t,h114,h116]
  . funext x0 x1 x2 x3 x4;rw [Zv1,Z3u,h129]
def mulT (a0 a1:Int):Option (Int×Int×Unit):=some ((wrap .u64 (wrap .u64 (wrap .u64 (Int.fdiv a0 4294967296*Int.fdiv a1 4294967296)+Int.fdiv (wrap .u64 (wrap .u64 (Int.fdiv a0 4294967296*Go.bits Go.BinOp.and Go.IntKind.u64 a1 4294967295)+Int.fdiv (wrap .u64 (Go.bits Go.BinOp.and Go.IntKind.u64 a0 4294967295*Go.bits Go.BinOp.and Go.IntKind.u64 a1 4294967295)) 4294967296)) 4294967296)+Int.fdiv (wrap .u64 (Go.bits Go.BinOp.and Go.IntKind.u64 (wrap .u64 (wrap .u64 (Int.fdiv a0 4294967296*Go.bits Go.BinOp.and Go.IntKind.u64 a1 4294967295)+Int.fdiv (wrap .u64 (Go.bits Go.BinOp.and Go.IntKind.u64 a0 4294967295*Go.bits Go.BinOp.and Go.IntKind.u64 a1 4294967295)) 4294967296)) 4294967295+wrap .u64 (Go.bits Go.BinOp.and Go.IntKind.u64 a0 4294967295*Int.fdiv a1 4294967296))) 4294967296),wrap .u64 (a0*a1),()))
theorem Ynx (a0 a1:Int):Zgq a0 a1=mulT a0 a1:=by rw [Zqu,Zn9];rfl
mutual
def tP1:Nat->Qy9->Int->Option Qy11
 | 0,_,_=>none
 | n+1,x0,x1=>match mulT (wrap .u64 (ofNat x0.length)) (wrap .u64 x1) with | none=>none | some e0=>bif e0.1>0 then none else bif e0.2.1>9223372036854775807 then none else tP5 n x0 e0.2.1
def tP5:Nat->Qy9->Int->Option Qy11
 | 0,_,_=>none
 | n+1,x0,x1=>bif 0<=wrap .i64 x1 then bif 0<=wrap .i64 x1 then bif decide (toNat (wrap .i64 x1)<=toNat (wrap .i64 x1))&&(decide (8*toNat (wrap .i64 x1)<=281474976710656)&&decide (toNat (wrap .i64 x1)<=9223372036854775807)) then tP10 n (List.take (min x0.length (List.length (List.replicate (α:=Int×Unit) (toNat (wrap .i64 x1)) (0,())))) x0++List.drop (min x0.length (List.length (List.replicate (α:=Int×Unit) (toNat (wrap .i64 x1)) (0,())))) (List.replicate (toNat (wrap .i64 x1)) (0,()))) (ofNat (min x0.length (List.length (List.replicate (α:=Int×Unit) (toNat (wrap .i64 x1)) (0,()))))) else none else none else none
def tP10:Nat->Qy9->Int->Option Qy11
 | 0,_,_=>none
 | n+1,x0,x1=>bif x1<ofNat x0.length then bif 0<=x1 then bif x1.toNat<=x0.length then bif x1.toNat=x0.length then bif 0<=x1 then bif decide (0<=x1.toNat)&&decide (x1.toNat<=x0.length) then none else none else none else bif 0<=x1 then bif decide (0<=x1.toNat)&&decide (x1.toNat<=x0.length) then bif x1.toNat+(x0.length - x1.toNat)<=x0.length then tP10 n (List.take x1.toNat x0++(List.take (min (List.length (List.take x1.toNat (List.drop 0 x0))) (x0.length - x1.toNat)) (List.take x1.toNat (List.drop 0 x0))++List.drop (x1.toNat+min (List.length (List.take x1.toNat (List.drop 0 x0))) (x0.length - x1.toNat)) x0)) (wrap .i64 (x1+ofNat (min (List.length (List.take x1.toNat (List.drop 0 x0))) (x0.length - x1.toNat)))) else none else none else none else none else none else some (x0,())
end
theorem Yi5:∀ n,Yx n=tP1 n/\Yy n=tP5 n/\Z9 n=tP10 n
 | 0=>⟨by funext x0 x1;rw [tP1];exact itr0,by funext x0 x1;rw [tP5];exact itr0,by funext x0 x1;rw [tP10];exact itr0⟩
 | n+1=>by
  obtain⟨h1,h5,h10⟩:=Yi5 n;refine⟨?_,?_,?_⟩
  . funext x0 x1;rw [Zct,tP1,Ynx,h5];rfl
  . funext x0 x1;rw [Zcu,tP5,h10]
  . funext x0 x1;rw [Zcq,tP10,h10]
end Tg

/- The reference's graph of a plan, told. -/
namespace Tg
open Go.Abs (Zc Zh tmm)
abbrev Op2:=Int×Int×Unit
abbrev Ch5:=Int×Int×Int×Int×Int×Unit
def nums (n:Nat)(k:Int):List Op2:=(List.range n).map fun (i:Nat)=>(k,(i:Int),())
def opsG (n p:Nat)(key join side:Bool):List Op2:=nums n 1++nums n 2++(bif key then nums n 3 else [])++nums p (bif join then 5 else 4)++[(6,0,())]++(bif side then [(7,0,())] else [])
def chG (n p:Nat)(key side:Bool)(room:Int):List Ch5 :=
 let part:Nat:=2 * n+(bif key then n else 0);let sink:Nat:=part+p
 ((List.range n).map fun (i:Nat)=>((i:Int),0,((n+i:Nat):Int),0,room,())) ++
 ((List.range n).flatMap fun (i:Nat)=>(((n+i:Nat):Int),0,(bif key then ((2 * n+i:Nat):Int) else (part:Int)),(bif key then 0 else (i:Int)),room,())::(bif side then [(((n+i:Nat):Int),1,((sink+1:Nat):Int),(i:Int),room,())] else [])) ++
 (bif key then ((List.range n).flatMap fun (i:Nat)=>(List.range p).map fun (k:Nat)=>(((2 * n+i:Nat):Int),(k:Int),((part+k:Nat):Int),(i:Int),room,())) else []) ++
 ((List.range p).map fun (k:Nat)=>(((part+k:Nat):Int),0,(sink:Int),(k:Int),room,()))
end Tg

/- The reference's tasks and machine, told. -/
namespace Tg
open Go.Abs (Zc Zh tmm)
abbrev low:Int:=-9223372036854775808
abbrev Tk:=Int×Int×Int×List (Int×Int×Int×Int×Int×Int×Int×Int×Int×Int×Int×Unit)×List (Int×Unit)×List (Int×Int×Int×Int×Int×Int×Int×Int×Int×Int×Int×Unit)×List Ev×List Ch5×List (Int×Int×Int×Unit)×Unit
abbrev Inp:=List (List Ev×Unit)
abbrev Qu:=Int×List (Int×Int×Int×Int×Int×Int×Int×Int×Int×Int×Unit)×Unit
def Zx (n:Nat)(inp:Inp)(o:Op2):Tk :=
 bif o.1==1 then (1,o.2.1,0,[],[],[],(inp.getD o.2.1.toNat ([],())).1,[],[],())
 else bif o.1==2 then (2,o.2.1,0,[],[(low,())],[],[],[],[],())
 else bif o.1==3 then (3,o.2.1,0,[],[],[],[],[],[],())
 else bif o.1==4 then (4,o.2.1,0,[],List.replicate n (low,()),[],[],[],[],())
 else bif o.1==5 then (5,o.2.1,0,[],[(low,()),(low,())],[],[],[],[],())
 else bif o.1==7 then (7,0,0,[],[],[],[],[],[],())
 else (6,0,0,[],[],[],[],[],[],())
def okOp (n:Nat)(o:Op2):Prop:=(o.1=1/\0<=o.2.1/\o.2.1<(n:Int))∨((o.1=2∨o.1=3)/\0<=o.2.1/\o.2.1<4)∨((o.1=4∨o.1=5)/\0<=o.2.1/\o.2.1<3)∨o.1=6∨o.1=7
instance (n:Nat) (o:Op2):Decidable (okOp n o):=by unfold okOp;infer_instance
theorem Zui {l:List Ev}(h:Zee l=0):l.length<=60/\l.all evOk=true:=by unfold Zee at h;grind
def Zl2 (inp:Inp):Prop:=∀ l∈inp,Zee l.1=0
theorem Yh1 {inp:Inp}(hi:Zl2 inp){N:Int}(h1:0<=N)(h2:N<(inp.length:Int)):∃ l,inp[N.toNat]? = some (l,())/\(inp.getD N.toNat ([],())).1=l/\Zee l=0:=by
 have hlt:N.toNat<inp.length:=by omega
 refine⟨inp[N.toNat].1,J0c hlt,?_,hi _ (List.getElem_mem hlt)⟩;grind
def qOf (c:Ch5):Qu:=(c.2.2.2.2.1,[],())
theorem Yff {α β:Type}(f:α->β){l:List α}{i:Nat}{e:α}(h:l[i]? = some e):(l.take i).map f++[f e]=(l.take (i+1)).map f:=by rw [List.take_add_one,h];simp
set_option maxRecDepth 100000 in
theorem Z82 (n p:Nat)(hn:1<=n/\n<=4)(hp:1<=p/\p<=3)(key join side:Bool):(opsG n p key join side).length<=20 /\ ∀ o∈opsG n p key join side,okOp n o:=by
 obtain rfl | rfl | rfl | rfl:n=1∨n=2∨n=3∨n=4:=by omega
 all_goals
  obtain rfl | rfl | rfl:p=1∨p=2∨p=3:=by omega
 all_goals
  cases key <;> cases join <;> cases side <;> decide
set_option maxRecDepth 100000 in
theorem Yfg (n p:Nat)(hn:1<=n/\n<=4)(hp:1<=p/\p<=3)(key side:Bool)(room:Int):(chG n p key side room).length<=100 /\ ∀ c∈chG n p key side room,c.2.2.2.2.1=room:=by
 constructor
 . obtain rfl | rfl | rfl | rfl:n=1∨n=2∨n=3∨n=4:=by omega
   all_goals
    obtain rfl | rfl | rfl:p=1∨p=2∨p=3:=by omega
   all_goals
    cases key <;> cases side <;> exact Nat.le_of_ble_eq_true rfl
 . intro c hc;unfold chG at hc;simp only [List.mem_append,List.mem_map,List.mem_flatMap,List.mem_cons] at hc;grind
end Tg

/- The code's graph of a plan, told. -/
namespace Tg
open Go.Abs (Zc Zh tmm)
set_option maxRecDepth 100000 in
theorem Yh2 (n p:Nat)(hn:1<=n/\n<=4)(hp:1<=p/\p<=3)(key join side:Bool)(room:Int) :
    Qv fuel 1 [] (n:Int) 0 (p:Int) join key (bif side then 2 else 1) room (n:Int)=some ((opsG n (bif key then p else 1) key join side,chG n (bif key then p else 1) key side room,()),0,()):=by
  rw [(Yi4 fuel).2.1,Yfe];obtain rfl | rfl | rfl | rfl:n=1∨n=2∨n=3∨n=4:=by omega
  all_goals
   obtain rfl | rfl | rfl:p=1∨p=2∨p=3:=by omega
  all_goals
   cases key <;> cases join <;> cases side <;> kernel_rfl
theorem Z3v {q:Qr}(h:(chkQ q).2.1=0):chkC q=0:=by
 unfold chkQ at h;cases hc:(chkC q==0) with
 | true=>simpa using hc
 | false=>rw [hc] at h;exact h
theorem Yaj {q:Qr}(h:chkC q=0):q.2.2.2.2.2.2.2.2.2.1=1∨q.2.2.2.2.2.2.2.2.2.1=2:=by
 unfold chkC at h;by_cases h1:q.2.2.2.2.2.2.2.2.2.1<1
 . rw [dT h1] at h;simp at h
 . by_cases h2:q.2.2.2.2.2.2.2.2.2.1>2
   . rw [dT h2] at h;simp at h
   . omega
theorem Zld {q:Qr}(h:chkC q=0):srcE q.2.2.1 q.2.2.2.1=0:=by
 have ht:Zqa q=0->srcE q.2.2.1 q.2.2.2.1=0:=fun h=>by
  unfold Zqa at h;cases hs:(srcE q.2.2.1 q.2.2.2.1==0) with
  | true=>simpa using hs
  | false=>rw [hs] at h;exact h
 have hw:Zgm q=0->srcE q.2.2.1 q.2.2.2.1=0:=fun h=>by
  unfold Zgm at h;cases hc:(decide ((q.2.2.2.2.1.length:Int)>0)&&errN q.2.2.2.2.1 != 0) with
  | true=>rw [hc] at h;have h:errN q.2.2.2.2.1=0:=h;rw [h] at hc;simp at hc
  | false=>rw [hc] at h;exact ht h
 unfold chkC at h;cases hb:(decide (q.1<1)||(decide (q.1>4)||(decide (q.2.2.2.2.2.2.2.2.2.1<1)||decide (q.2.2.2.2.2.2.2.2.2.1>2)))) with
 | true=>rw [hb] at h;simp at h
 | false =>
  rw [hb] at h;simp only [cond_false] at h;cases h1:(q.1==1) with
  | true =>
   rw [h1] at h;simp only [cond_true] at h;by_cases h0:(q.2.1.length:Int)>0
   . rw [dT h0] at h;simp at h
   . rw [dF h0] at h;exact hw h
  | false =>
   rw [h1] at h;simp only [cond_false] at h;by_cases he:errN q.2.1=0
   . rw [Zxw he] at h;exact hw h
   . rw [Yis he] at h;exact absurd h he
theorem Zuj {l:IL}{j:Bool}(h:srcE l j=0):1<=l.length/\l.length<=4:=by
 unfold srcE at h;split at h
 . cases h
 . split at h
   . cases h
   . omega
end Tg

/- The code's new tasks, told. -/
namespace Tg
open Go.Abs (Zc Zh tmm)
theorem Zx2 (N:Int)(l:List Ev)(hl:l.length<=1000)(ha:l.all evOk=true):∀ (rest:List Ev) (i n:Nat),l.drop i=rest->i<=l.length->rest.length+1<=n->Zcp n l (l.length:Int) (i:Int) N l=some ((1,N,0,[],[],[],l,[],[],()),0,())
 | [],i,n,h,hi,hn=>by obtain⟨m,rfl⟩:∃ m,n=m+1:=⟨n - 1,by grind⟩;have:=Zdz h hi;simp only [Zkk,iG (show ¬ i<l.length by omega),cond_false,Zdb (show l.length<=1000000 by omega) (show 40<=1000 by omega)]
 | e::rest,i,n,h,hi,hn=>by obtain⟨m,rfl⟩:∃ m,n=m+1:=⟨n - 1,by grind⟩;obtain⟨h1,h2,h3⟩:=Zdy h;have ih:=Zx2 N l hl ha rest (i+1) m h3 (by omega) (by grind);have he:evOk e=true:=List.all_eq_true.1 ha e (J0j h2);simp only [Zkk,iL h1,iN,cond_true,cond_false,J0l,h2,mev,he,Zd5,wS (show i<1000000000000 by omega),ih]
theorem Yh3 {N:Int}{l:List Ev}(h1:0<=N)(h2:N<4)(h:Zee l=0):Zmo N l=some ((1,N,0,[],[],[],l,[],[],()),0,()):=by obtain⟨h3,h4⟩:=Zui h;obtain⟨n,hn⟩:=Zbx;rw [Z0j];simp only [dF (show ¬ N<0 by omega),dF (show ¬ N>=4 by omega),J0g,dF (show ¬ (l.length:Int)>60 by omega),cond_false];exact Zx2 N l (by omega) h4 l 0 fuel rfl (by omega) (by grind)
theorem Ykz {N:Int}(h1:0<=N)(h2:N<4):Zmp N=some ((2,N,0,[],[(low,())],[],[],[],[],()),0,()):=by rw [Z0l];grind
theorem Yk0 {N:Int}(h1:0<=N)(h2:N<4):Zt9 N=some ((3,N,0,[],[],[],[],[],[],()),0,()):=by rw [Z6k];grind
set_option maxRecDepth 100000 in
theorem Yfh {n:Nat}(h1:1<=n)(h2:n<=4):Zg3 (n:Int)=some (List.replicate n (low,()),0,()):=by
 rw [Z3p,Zda,(Yi5 fuel).1,Yfe];obtain rfl | rfl | rfl | rfl:n=1∨n=2∨n=3∨n=4:=by omega
 all_goals kernel_rfl
theorem Yny:Zg3 2=some ([(low,()),(low,())],0,()):=Yfh (n:=2) (by omega) (by omega)
theorem Yk1 {N:Int}(h1:0<=N)(h2:N<3):Zua N=some ((5,N,0,[],[(low,()),(low,())],[],[],[],[],()),0,()):=by rw [Z6l];simp only [dF (show ¬ N<0 by omega),dF (show ¬ N>=3 by omega),Yny];rfl
theorem Yk2 {N:Int}(h1:0<=N)(h2:N<3){n:Nat}(g1:1<=n)(g2:n<=4):Z0k N (n:Int)=some ((4,N,0,[],List.replicate n (low,()),[],[],[],[],()),0,()):=by rw [Yah];simp only [Yfh g1 g2,dF (show ¬ N<0 by omega),dF (show ¬ N>=3 by omega),Zd5,cond_false]
theorem Yk3 {N:Int}(h1:1<=N)(h2:N<=8):Zgb N=some ((N,[],()),0,()):=by rw [Zv2];grind
end Tg

/- What the reference's builder answers, told. -/
namespace Tg
open Go.Abs (Zc Zh tmm)
abbrev Mc:=Mch
def zM:Mc:=(0,[],[],false,[],0,0,0,false,0,[],[],[],[],())
def Za6:Inp->Int
 | []=>0
 | l::ls=>bif Zee l.1 != 0 then Zee l.1 else Za6 ls
def prE (p r:Int):Int:=bif decide (p<1) then 2 else bif decide (p>3) then 2 else bif decide (r<1) then 2 else bif decide (r>8) then 2 else 0
def askE (q:Qr)(inp:Inp)(p r:Int):Int:=bif (chkQ q).2.1 != 0 then (chkQ q).2.1 else bif (inp.length:Int) != (q.2.2.1.length:Int) then 2 else bif Za6 inp != 0 then Za6 inp else prE p r
theorem Zpf:∀ {inp:Inp},Za6 inp=0->Zl2 inp
 | [],_=>fun _ h=>by simp at h
 | l::ls,h=>by
  unfold Za6 at h;cases hl:(Zee l.1 != 0) with
  | true=>grind
  | false =>
   rw [hl] at h;have ih:=Zpf (inp:=ls) h;intro x hx;rcases List.mem_cons.1 hx with rfl | hx
   . grind
   . exact ih x hx
theorem prE0 {p r:Int}(h:prE p r=0):1<=p/\p<=3/\1<=r/\r<=8:=by unfold prE at h;grind
def partsOf (q:Qr)(p:Int):Nat:=bif q.2.2.2.2.2.2.2.2.1 then p.toNat else 1
def mOf (q:Qr)(inp:Inp)(p r:Int):Mc :=
 (q.1,q.2.1,q.2.2.1,q.2.2.2.1,q.2.2.2.2.1,q.2.2.2.2.2.1,q.2.2.2.2.2.2.1,q.2.2.2.2.2.2.2.1,q.2.2.2.2.2.2.2.2.1,q.2.2.2.2.2.2.2.2.2.1,
  opsG inp.length (partsOf q p) q.2.2.2.2.2.2.2.2.1 q.2.2.2.1 (q.2.2.2.2.2.2.2.2.2.1==2),chG inp.length (partsOf q p) q.2.2.2.2.2.2.2.2.1 (q.2.2.2.2.2.2.2.2.2.1==2) r,
  (opsG inp.length (partsOf q p) q.2.2.2.2.2.2.2.2.1 q.2.2.2.1 (q.2.2.2.2.2.2.2.2.2.1==2)).map (Zx inp.length inp),(chG inp.length (partsOf q p) q.2.2.2.2.2.2.2.2.1 (q.2.2.2.2.2.2.2.2.2.1==2) r).map qOf,())
theorem Z3w {q:Qr}{inp:Inp}{p r:Int}(h:askE q inp p r=0):(chkQ q).2.1=0/\inp.length=q.2.2.1.length/\Zl2 inp/\Za6 inp=0/\(1<=p/\p<=3/\1<=r/\r<=8)/\(1<=inp.length/\inp.length<=4):=by
 unfold askE at h;cases h1:((chkQ q).2.1 != 0) with
 | true=>grind
 | false =>
  have e1:(chkQ q).2.1=0:=by grind
  rw [h1] at h;cases h2:((inp.length:Int) != (q.2.2.1.length:Int)) with
  | true=>grind
  | false =>
   have e2:inp.length=q.2.2.1.length:=by grind
   rw [h2] at h;cases h3:(Za6 inp != 0) with
   | true=>grind
   | false =>
    have e3:Za6 inp=0:=by grind
    rw [h3] at h;have h5:=Zuj (Zld (Z3v e1));exact⟨e1,e2,Zpf e3,e3,prE0 h,by grind⟩
theorem Zh6 (q:Qr){p:Int}(h:1<=p/\p<=3):1<=partsOf q p/\partsOf q p<=3:=by unfold partsOf;grind
end Tg
