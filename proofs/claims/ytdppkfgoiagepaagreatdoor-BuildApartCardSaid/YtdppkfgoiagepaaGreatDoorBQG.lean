import Derived.Test.YtdppkfgoiagepaaGreatDoorBPK
import Derived.Test.YtdppkfgoiagepaaGreatDoorBWP
import Derived.Test.YtdppkfgoiagepaaGreatDoorBQz1
/- Events: what each check says of them. -/
set_option linter.unusedVariables false
set_option linter.unusedSimpArgs false
namespace Tg
open Go.Abs (Ze Zt tmm)
abbrev Ev:=Bool×Int×Int×Int×Int×Unit
def tmB (t:Int):Bool:=decide (t ≥ -1099511627776)&&decide (t≤1099511627776)
def zR (e:Ev):Bool:=e.2.2.1==0&&(e.2.2.2.1==0&&(e.2.2.2.2.1==0&&true))
def evOk (e:Ev):Bool:=bif e.1 then zR e&&(tmB e.2.1||e.2.1==9223372036854775807) else e.2.1==0&&tmB e.2.2.2.1
theorem Ydw (t:Int):Zdc t=some (tmB t,()):=by
 rw [Zx3]
 unfold tmB
 cases decide (t ≥ -1099511627776) <;> rfl
theorem Ybk {a b:Int}:decide (a<b) = !decide (a≥b):=by
 by_cases h:a<b
 · rw [dT h,dF (by omega)];rfl
 · rw [dF h,dT (by omega)];rfl
theorem Ybl {a b:Int}:decide (a>b) = !decide (a≤b):=by
 by_cases h:a>b
 · rw [dT h,dF (by omega)];rfl
 · rw [dF h,dT (by omega)];rfl
theorem Z88 (e:Ev):evOk e=evtB e:=by
 unfold evOk evtB zR Z1w
 have h:∀ t,tmB t=Zpr t:=fun t=>rfl
 rw [h,h]
 cases e.1 <;> cases (e.2.2.1==0) <;> cases (e.2.2.2.1==0) <;> cases (e.2.2.2.2.1==0) <;> cases (e.2.1==0) <;> cases (e.2.1==9223372036854775807) <;> cases Zpr e.2.1 <;> cases Zpr e.2.2.2.1 <;> rfl
theorem mev (e:Ev):Zb3 e=some (bif evOk e then 0 else 8,()):=by rw [Z88];exact Z8x e

theorem Ztj (l:List Ev)(hl:l.length≤1000):∀ (rest:List Ev) (i n:Nat),l.drop i=rest→i≤l.length→rest.length+1≤n→Zab n l (l.length:Int) (i:Int)=some (bif rest.all evOk then 0 else 8,())
 | [],i,n,h,hi,hn=>by
  obtain⟨m,rfl⟩:∃ m,n=m+1:=⟨n - 1,by simp at hn;omega⟩
  have:=Za4 h hi
  simp only [Zjk,iG (show ¬ i<l.length by omega),cond_false,List.all_nil,cond_true]
 | e::rest,i,n,h,hi,hn=>by
  obtain⟨m,rfl⟩:∃ m,n=m+1:=⟨n - 1,by simp at hn;omega⟩
  obtain⟨h1,h2,h3⟩:=Qs h
  have ih:=Ztj l hl rest (i+1) m h3 (by omega) (by simp at hn;omega)
  simp only [Zjk,iL h1,iN,cond_true,Int.toNat_natCast,h2,Ydw,wS (show i<1000000000000 by omega),ih,List.all_cons]
  unfold evOk zR
  cases e.1 <;> cases (e.2.2.1==0&&(e.2.2.2.1==0&&(e.2.2.2.2.1==0&&true))) <;> cases (e.2.1==0) <;> cases (e.2.1==9223372036854775807) <;> cases tmB e.2.1 <;> cases tmB e.2.2.2.1 <;> rfl
def Zcj (l:List Ev):Int:=bif decide ((l.length:Int)>60) then 4 else bif l.all evOk then 0 else 8
theorem Z67 (l:List Ev):Zj4 l=some (Zcj l,()):=by
 rw [Zu8]
 unfold Zcj
 by_cases h:(l.length:Int)>60
 · simp only [Int.ofNat_eq_natCast,dT h,cond_true]
 · obtain⟨n,hn⟩:=Zan
   simp only [Int.ofNat_eq_natCast,dF h,cond_false]
   exact Ztj l (by omega) l 0 fuel rfl (by omega) (by rw [hn];omega)
end Tg

/- Plans: the steps, and that a plan that was made is right. -/
namespace Tg
open Go.Abs (Ze Zt tmm)
theorem Zbw {α:Type}{b:Nat}{l:List α}(h:l.length≤1000000)(hb:b≤1000):Zt b l=some (l,()):=by
 unfold Zt
 rw [Ze6 h hb,cond_true]
def Zvw (w k j s:Bool):List (Int×Unit) :=
 [(1,()),(2,())]++(bif w then [(3,())] else [])++[(4,())]++(bif k then [(5,())] else [])++[(6,())]++(bif j then [(8,())] else [(7,())])++[(9,())]++(bif s then [(10,())] else [])
theorem ps_w (w k j:Bool)(l:Int):Zb5 fuel j k l (bif w then [(1,()),(2,())]++[(3,())] else [(1,()),(2,())])=(bif l==2 then some (Zvw w k j true,()) else some (Zvw w k j false,())):=by
 obtain⟨n,hn⟩:=Zan
 rw [hn,show n+1000000000000=(n+999999999997)+1+1+1 from rfl,Zrk]
 cases w <;> cases k <;> cases j <;> simp [Zrl,Zrm,Zvw,Ze,Go.Abs.Zv,Go.maxLen, *]
theorem Zgn (w k j s:Bool):(Zvw w k j s).length≤20:=by
 cases w <;> cases k <;> cases j <;> cases s <;> decide
theorem Ydx (q:Qr):∃ s,Zgb q=some (s,())∧s.length≤20:=by
 have h:=ps_w (decide (Int.ofNat q.2.2.2.2.1.length>0)) q.2.2.2.2.2.2.2.2.1 q.2.2.2.1 q.2.2.2.2.2.2.2.2.2.1
 rw [Zu9]
 generalize decide (Int.ofNat q.2.2.2.2.1.length>0)=w at h ⊢
 cases w with
 | true =>
  simp only [cond_true] at h ⊢
  rw [h]
  cases (q.2.2.2.2.2.2.2.2.2.1==2) with
  | true=>exact⟨_,rfl,Zgn _ _ _ _⟩
  | false=>exact⟨_,rfl,Zgn _ _ _ _⟩
 | false =>
  simp only [cond_false] at h ⊢
  rw [h]
  cases (q.2.2.2.2.2.2.2.2.2.1==2) with
  | true=>exact⟨_,rfl,Zgn _ _ _ _⟩
  | false=>exact⟨_,rfl,Zgn _ _ _ _⟩
theorem Zck (x:Int):(x != x)=false:=by simp
theorem Z2a (l:List (Int×Unit))(hl:l.length≤1000):∀ (rest:List (Int×Unit)) (i n:Nat),l.drop i=rest→i≤l.length→rest.length+1≤n→Ya n l l (l.length:Int) (i:Int)=some (true,())
 | [],i,n,h,hi,hn=>by
  obtain⟨m,rfl⟩:∃ m,n=m+1:=⟨n - 1,by simp at hn;omega⟩
  have:=Za4 h hi
  simp only [Qb,iG (show ¬ i<l.length by omega),cond_false]
 | e::rest,i,n,h,hi,hn=>by
  obtain⟨m,rfl⟩:∃ m,n=m+1:=⟨n - 1,by simp at hn;omega⟩
  obtain⟨h1,h2,h3⟩:=Qs h
  have ih:=Z2a l hl rest (i+1) m h3 (by omega) (by simp at hn;omega)
  simp only [Qb,iL h1,iN,cond_true,cond_false,Int.toNat_natCast,h2,wS (show i<1000000000000 by omega),Zck,ih]
theorem Z89 {l:List (Int×Unit)}(hl:l.length≤1000):Xa l l=some (true,()):=by
 obtain⟨n,hn⟩:=Zan
 rw [Zci]
 simp only [Zck,cond_false,Int.ofNat_eq_natCast]
 exact Z2a l hl l 0 fuel rfl (by omega) (by rw [hn];omega)
theorem Z3j {q:Qr}(h:(chkQ q).2.1=0)(h1:q.2.1.length≤1000)(h2:q.2.2.1.length≤1000)(h3:q.2.2.2.2.1.length≤1000):∃ s,Znx q=some ((s,q),0,())∧Zec (s,q)=some (0,()):=by
 obtain⟨s,hs,hl⟩:=Ydx q
 refine⟨s,?_,?_⟩
 · rw [Z3h]
   simp only [Zmc,Zm6 h,cond_false,Zbw (show q.2.1.length≤1000000 by omega) (show 40≤1000 by omega),Zbw (show q.2.2.1.length≤1000000 by omega) (show 8≤1000 by omega),Zbw (show q.2.2.2.2.1.length≤1000000 by omega) (show 40≤1000 by omega)]
   rw [show (q.1,q.2.1,q.2.2.1,q.2.2.2.1,q.2.2.2.2.1,q.2.2.2.2.2)=q from rfl,hs]
 · rw [Zva]
   simp only [Zmc,Zm6 h,cond_false,hs,Z89 (show s.length≤1000 by omega)]
   rfl
/- the reference's steps: what they are does not matter -/
theorem w8 {k:Nat}(h:k≤20):Go.IntKind.wrap Go.IntKind.u8 ((k:Int)+1)=((k+1:Nat):Int):=by
 have:∀ j:Fin 21,Go.IntKind.wrap Go.IntKind.u8 ((j.1:Int)+1)=((j.1+1:Nat):Int):=by decide
 exact this ⟨k,by omega⟩
end Tg

/- The makers of graphs as plain functions that the kernel can run. -/
set_option maxRecDepth 100000
namespace Tg
open Go.Abs hiding fuel
open Go.Proofs.Tryz (prog)
open Int (ofNat toNat)
open Go.IntKind (wrap)
theorem Z68:fuel=Go.Abs.fuel:=Zl2 _
theorem itr0 {tab:Tb}{P:Go.Program}{g:Go.FuncId}{f:TFun}{i:Nat}{x:denL (Zbl (Za3 f.cuts i) [])}:itr tab P g f 0 i x=none:=by
 rw [Zzp]
 rfl
mutual
def tG13:Nat→Int→Bool→Bool→Int→Int→Int→Qy5→Option Qy4
 | 0,_,_,_,_,_,_,_=>none
 | n+1,x0,x1,x2,x3,x4,x5,x6=>tG31 n 2 x6 (ofNat x6.length) x5 0 x0 x1 x2 x3 x4 x5
def tG19:Nat→Int→Qy5→Int→Int→Int→Bool→Bool→Int→Int→Int→Option Qy4
 | 0,_,_,_,_,_,_,_,_,_,_=>none
 | n+1,x0,x1,x2,x3,x4,x5,x6,x7,x8,x9=>bif x3<x2 then bif Ze (x1.length+List.length [(x0,x3,())]) 16 then tG19 n x0 (x1++[(x0,x3,())]) x2 (wrap .i64 (x3+1)) x4 x5 x6 x7 x8 x9 else none else tG13 n x4 x5 x6 x7 x8 x9 x1
def tG25:Nat→Int→Bool→Bool→Int→Int→Int→Qy5→Int→Option Qy4
 | 0,_,_,_,_,_,_,_,_=>none
 | n+1,x0,x1,x2,x3,x4,x5,x6,x7=>bif x2 then tG45 n 3 x6 (ofNat x6.length) x5 0 x0 x1 x2 x3 x4 x5 x7 else tG38 n 1 x1 x2 x3 x4 x5 x6 x7 x7
def tG31:Nat→Int→Qy5→Int→Int→Int→Int→Bool→Bool→Int→Int→Int→Option Qy4
 | 0,_,_,_,_,_,_,_,_,_,_,_=>none
 | n+1,x0,x1,x2,x3,x4,x5,x6,x7,x8,x9,x10=>bif x4<x3 then bif Ze (x1.length+List.length [(x0,x4,())]) 16 then tG31 n x0 (x1++[(x0,x4,())]) x2 x3 (wrap .i64 (x4+1)) x5 x6 x7 x8 x9 x10 else none else tG25 n x5 x6 x7 x8 x9 x10 x1 x2
def tG38:Nat→Int→Bool→Bool→Int→Int→Int→Qy5→Int→Int→Option Qy4
 | 0,_,_,_,_,_,_,_,_,_=>none
 | n+1,x0,x1,x2,x3,x4,x5,x6,x7,x8=>bif x1 then tG52 n x0 x2 x3 x4 x5 x6 x7 x8 5 else tG52 n x0 x2 x3 x4 x5 x6 x7 x8 4
def tG45:Nat→Int→Qy5→Int→Int→Int→Int→Bool→Bool→Int→Int→Int→Int→Option Qy4
 | 0,_,_,_,_,_,_,_,_,_,_,_,_=>none
 | n+1,x0,x1,x2,x3,x4,x5,x6,x7,x8,x9,x10,x11=>bif x4<x3 then bif Ze (x1.length+List.length [(x0,x4,())]) 16 then tG45 n x0 (x1++[(x0,x4,())]) x2 x3 (wrap .i64 (x4+1)) x5 x6 x7 x8 x9 x10 x11 else none else tG38 n x5 x6 x7 x8 x9 x10 x1 x11 x2
def tG52:Nat→Int→Bool→Int→Int→Int→Qy5→Int→Int→Int→Option Qy4
 | 0,_,_,_,_,_,_,_,_,_=>none
 | n+1,x0,x1,x2,x3,x4,x5,x6,x7,x8=>tG60 n x8 x5 (ofNat x5.length) x0 0 x0 x1 x2 x3 x4 x6 x7
def tG54:Nat→Int→Bool→Int→Int→Int→Qy5→Int→Int→Int→Option Qy4
 | 0,_,_,_,_,_,_,_,_,_=>none
 | n+1,x0,x1,x2,x3,x4,x5,x6,x7,x8=>tG72 n 6 x5 (ofNat x5.length) 1 0 x0 x1 x2 x3 x4 x6 x7 x8
def tG60:Nat→Int→Qy5→Int→Int→Int→Int→Bool→Int→Int→Int→Int→Int→Option Qy4
 | 0,_,_,_,_,_,_,_,_,_,_,_,_=>none
 | n+1,x0,x1,x2,x3,x4,x5,x6,x7,x8,x9,x10,x11=>bif x4<x3 then bif Ze (x1.length+List.length [(x0,x4,())]) 16 then tG60 n x0 (x1++[(x0,x4,())]) x2 x3 (wrap .i64 (x4+1)) x5 x6 x7 x8 x9 x10 x11 else none else tG54 n x5 x6 x7 x8 x9 x1 x10 x11 x2
def tG66:Nat→Int→Bool→Int→Int→Int→Qy5→Int→Int→Int→Int→Option Qy4
 | 0,_,_,_,_,_,_,_,_,_,_=>none
 | n+1,x0,x1,x2,x3,x4,x5,x6,x7,x8,x9=>tG80 n x0 x1 x2 x3 x4 x5 ([]) x6 x7 x8 x9 x4 0
def tG72:Nat→Int→Qy5→Int→Int→Int→Int→Bool→Int→Int→Int→Int→Int→Int→Option Qy4
 | 0,_,_,_,_,_,_,_,_,_,_,_,_,_=>none
 | n+1,x0,x1,x2,x3,x4,x5,x6,x7,x8,x9,x10,x11,x12=>bif x4<x3 then bif Ze (x1.length+List.length [(x0,x4,())]) 16 then tG72 n x0 (x1++[(x0,x4,())]) x2 x3 (wrap .i64 (x4+1)) x5 x6 x7 x8 x9 x10 x11 x12 else none else tG66 n x5 x6 x7 x8 x9 x1 x10 x11 x12 x2
def tG78:Nat→Int→Bool→Int→Int→Int→Qy5→(List Qy2)→Int→Int→Int→Int→Option Qy4
 | 0,_,_,_,_,_,_,_,_,_,_,_=>none
 | n+1,x0,x1,x2,x3,x4,x5,x6,x7,x8,x9,x10=>tG88 n x0 x1 x2 x3 x4 x5 x6 x7 x8 x9 x10 x4 0
def tG80:Nat→Int→Bool→Int→Int→Int→Qy5→(List Qy2)→Int→Int→Int→Int→Int→Int→Option Qy4
 | 0,_,_,_,_,_,_,_,_,_,_,_,_,_=>none
 | n+1,x0,x1,x2,x3,x4,x5,x6,x7,x8,x9,x10,x11,x12=>bif x12<x11 then bif Ze (x6.length+List.length [(x12,0,wrap .i64 (x7+x12),0,x3,())]) 40 then tG80 n x0 x1 x2 x3 x4 x5 (x6++[(x12,0,wrap .i64 (x7+x12),0,x3,())]) x7 x8 x9 x10 x11 (wrap .i64 (x12+1)) else none else tG78 n x0 x1 x2 x3 x4 x5 x6 x7 x8 x9 x10
def tG86:Nat→Int→Bool→Int→Int→Int→Qy5→(List Qy2)→Int→Int→Int→Option Qy4
 | 0,_,_,_,_,_,_,_,_,_,_=>none
 | n+1,x0,x1,x2,x3,x4,x5,x6,x7,x8,x9=>Zx9 n x0 x1 x2 x3 x5 x6 x7 x8 x9 x4 0
def tG88:Nat→Int→Bool→Int→Int→Int→Qy5→(List Qy2)→Int→Int→Int→Int→Int→Int→Option Qy4
 | 0,_,_,_,_,_,_,_,_,_,_,_,_,_=>none
 | n+1,x0,x1,x2,x3,x4,x5,x6,x7,x8,x9,x10,x11,x12=>bif x12<x11 then bif x1 then bif Ze (x6.length+List.length [(wrap .i64 (x7+x12),0,wrap .i64 (x8+x12),0,x3,())]) 40 then tG93 n x0 x1 x2 x3 x4 x5 (x6++[(wrap .i64 (x7+x12),0,wrap .i64 (x8+x12),0,x3,())]) x7 x8 x9 x10 x12 x11 x12 else none else bif Ze (x6.length+List.length [(wrap .i64 (x7+x12),0,x9,x12,x3,())]) 40 then tG93 n x0 x1 x2 x3 x4 x5 (x6++[(wrap .i64 (x7+x12),0,x9,x12,x3,())]) x7 x8 x9 x10 x12 x11 x12 else none else tG86 n x0 x1 x2 x3 x4 x5 x6 x8 x9 x10
def tG93:Nat→Int→Bool→Int→Int→Int→Qy5→(List Qy2)→Int→Int→Int→Int→Int→Int→Int→Option Qy4
 | 0,_,_,_,_,_,_,_,_,_,_,_,_,_,_=>none
 | n+1,x0,x1,x2,x3,x4,x5,x6,x7,x8,x9,x10,x11,x12,x13=>bif x2==2 then bif Ze (x6.length+List.length [(wrap .i64 (x7+x11),1,wrap .i64 (x10+1),x11,x3,())]) 40 then tG88 n x0 x1 x2 x3 x4 x5 (x6++[(wrap .i64 (x7+x11),1,wrap .i64 (x10+1),x11,x3,())]) x7 x8 x9 x10 x12 (wrap .i64 (x13+1)) else none else tG88 n x0 x1 x2 x3 x4 x5 x6 x7 x8 x9 x10 x12 (wrap .i64 (x13+1))
def tG99:Nat→Int→Int→Int→Qy5→(List Qy2)→Int→Int→Option Qy4
 | 0,_,_,_,_,_,_,_=>none
 | n+1,x0,x1,x2,x3,x4,x5,x6=>Zya n x1 x2 x3 x4 x5 x6 x0 0
def Zx9:Nat→Int→Bool→Int→Int→Qy5→(List Qy2)→Int→Int→Int→Int→Int→Option Qy4
 | 0,_,_,_,_,_,_,_,_,_,_,_=>none
 | n+1,x0,x1,x2,x3,x4,x5,x6,x7,x8,x9,x10=>bif x10<x9 then Ztk n x0 x1 x2 x3 x4 x5 x6 x7 x8 x10 x9 x10 x0 0 else tG99 n x0 x2 x3 x4 x5 x7 x8
def Ztk:Nat→Int→Bool→Int→Int→Qy5→(List Qy2)→Int→Int→Int→Int→Int→Int→Int→Int→Option Qy4
 | 0,_,_,_,_,_,_,_,_,_,_,_,_,_,_=>none
 | n+1,x0,x1,x2,x3,x4,x5,x6,x7,x8,x9,x10,x11,x12,x13=>bif x13<x12 then bif x1 then bif Ze (x5.length+List.length [(wrap .i64 (x6+x9),x13,wrap .i64 (x7+x13),x9,x3,())]) 40 then Ztk n x0 x1 x2 x3 x4 (x5++[(wrap .i64 (x6+x9),x13,wrap .i64 (x7+x13),x9,x3,())]) x6 x7 x8 x9 x10 x11 x12 (wrap .i64 (x13+1)) else none else Ztk n x0 x1 x2 x3 x4 x5 x6 x7 x8 x9 x10 x11 x12 (wrap .i64 (x13+1)) else Zx9 n x0 x1 x2 x3 x4 x5 x6 x7 x8 x10 (wrap .i64 (x11+1))
def Z2b:Nat→Int→Qy5→(List Qy2)→Option Qy4
 | 0,_,_,_=>none
 | n+1,x0,x1,x2=>bif x0==2 then Zyb n 7 x1 x2 1 0 else some (((x1,x2,()),0,()))
def Zya:Nat→Int→Int→Qy5→(List Qy2)→Int→Int→Int→Int→Option Qy4
 | 0,_,_,_,_,_,_,_,_=>none
 | n+1,x0,x1,x2,x3,x4,x5,x6,x7=>bif x7<x6 then bif Ze (x3.length+List.length [(wrap .i64 (x4+x7),0,x5,x7,x1,())]) 40 then Zya n x0 x1 x2 (x3++[(wrap .i64 (x4+x7),0,x5,x7,x1,())]) x4 x5 x6 (wrap .i64 (x7+1)) else none else Z2b n x0 x2 x3
def Zyb:Nat→Int→Qy5→(List Qy2)→Int→Int→Option Qy4
 | 0,_,_,_,_,_=>none
 | n+1,x0,x1,x2,x3,x4=>bif x4<x3 then bif Ze (x1.length+List.length [(x0,x4,())]) 16 then Zyb n x0 (x1++[(x0,x4,())]) x2 x3 (wrap .i64 (x4+1)) else none else some (((x1,x2,()),0,()))
end
theorem Z97:∀ n,Zgc n=tG13 n∧Xz n=tG19 n∧Zgd n=tG25 n∧Zc2 n=tG31 n∧Zc3 n=tG38 n∧Zc4 n=tG45 n∧Zc5 n=tG52 n∧Zge n=tG54 n∧Zc6 n=tG60 n∧Zgf n=tG66 n∧Zc7 n=tG72 n∧Zgg n=tG78 n∧Zc8 n=tG80 n∧Zgh n=tG86 n∧Zbb n=tG88 n∧Zc9 n=tG93 n∧Zgi n=tG99 n∧Zb6 n=Zx9 n∧Zac n=Ztk n∧Zfb n=Z2b n∧Zb7 n=Zya n∧Zb8 n=Zyb n
 | 0=>⟨by funext x0 x1 x2 x3 x4 x5 x6;rw [tG13];exact itr0,by funext x0 x1 x2 x3 x4 x5 x6 x7 x8 x9;rw [tG19];exact itr0,by funext x0 x1 x2 x3 x4 x5 x6 x7;rw [tG25];exact itr0,by funext x0 x1 x2 x3 x4 x5 x6 x7 x8 x9 x10;rw [tG31];exact itr0,by funext x0 x1 x2 x3 x4 x5 x6 x7 x8;rw [tG38];exact itr0,by funext x0 x1 x2 x3 x4 x5 x6 x7 x8 x9 x10 x11;rw [tG45];exact itr0,by funext x0 x1 x2 x3 x4 x5 x6 x7 x8;rw [tG52];exact itr0,by funext x0 x1 x2 x3 x4 x5 x6 x7 x8;rw [tG54];exact itr0,by funext x0 x1 x2 x3 x4 x5 x6 x7 x8 x9 x10 x11;rw [tG60];exact itr0,by funext x0 x1 x2 x3 x4 x5 x6 x7 x8 x9;rw [tG66];exact itr0,by funext x0 x1 x2 x3 x4 x5 x6 x7 x8 x9 x10 x11 x12;rw [tG72];exact itr0,by funext x0 x1 x2 x3 x4 x5 x6 x7 x8 x9 x10;rw [tG78];exact itr0,by funext x0 x1 x2 x3 x4 x5 x6 x7 x8 x9 x10 x11 x12;rw [tG80];exact itr0,by funext x0 x1 x2 x3 x4 x5 x6 x7 x8 x9;rw [tG86];exact itr0,by funext x0 x1 x2 x3 x4 x5 x6 x7 x8 x9 x10 x11 x12;rw [tG88];exact itr0,by funext x0 x1 x2 x3 x4 x5 x6 x7 x8 x9 x10 x11 x12 x13;rw [tG93];exact itr0,by funext x0 x1 x2 x3 x4 x5 x6;rw [tG99];exact itr0,by funext x0 x1 x2 x3 x4 x5 x6 x7 x8 x9 x10;rw [Zx9];exact itr0,by funext x0 x1 x2 x3 x4 x5 x6 x7 x8 x9 x10 x11 x12 x13;rw [Ztk];exact itr0,by funext x0 x1 x2;rw [Z2b];exact itr0,by funext x0 x1 x2 x3 x4 x5 x6 x7;rw [Zya];exact itr0,by funext x0 x1 x2 x3 x4;rw [Zyb];exact itr0⟩
 | n+1=>by
  obtain⟨h13,h19,h25,h31,h38,h45,h52,h54,h60,h66,h72,h78,h80,h86,h88,h93,h99,h101,h107,h114,h116,h129⟩:=Z97 n
  refine⟨?_,?_,?_,?_,?_,?_,?_,?_,?_,?_,?_,?_,?_,?_,?_,?_,?_,?_,?_,?_,?_,?_⟩
  · funext x0 x1 x2 x3 x4 x5 x6
    rw [Zvb,tG13,h31]
  · funext x0 x1 x2 x3 x4 x5 x6 x7 x8 x9
    rw [Zvc,tG19,h13,h19]
  · funext x0 x1 x2 x3 x4 x5 x6 x7
    rw [Zvd,tG25,h38,h45]
  · funext x0 x1 x2 x3 x4 x5 x6 x7 x8 x9 x10
    rw [Zve,tG31,h25,h31]
  · funext x0 x1 x2 x3 x4 x5 x6 x7 x8
    rw [Zvf,tG38,h52]
  · funext x0 x1 x2 x3 x4 x5 x6 x7 x8 x9 x10 x11
    rw [Zvg,tG45,h38,h45]
  · funext x0 x1 x2 x3 x4 x5 x6 x7 x8
    rw [Zvh,tG52,h60]
  · funext x0 x1 x2 x3 x4 x5 x6 x7 x8
    rw [Zvi,tG54,h72]
  · funext x0 x1 x2 x3 x4 x5 x6 x7 x8 x9 x10 x11
    rw [Zvj,tG60,h54,h60]
  · funext x0 x1 x2 x3 x4 x5 x6 x7 x8 x9
    rw [Zvk,tG66,h80]
  · funext x0 x1 x2 x3 x4 x5 x6 x7 x8 x9 x10 x11 x12
    rw [Zvl,tG72,h66,h72]
  · funext x0 x1 x2 x3 x4 x5 x6 x7 x8 x9 x10
    rw [Zvm,tG78,h88]
  · funext x0 x1 x2 x3 x4 x5 x6 x7 x8 x9 x10 x11 x12
    rw [Zvn,tG80,h78,h80]
  · funext x0 x1 x2 x3 x4 x5 x6 x7 x8 x9
    rw [Zvo,tG86,h101]
  · funext x0 x1 x2 x3 x4 x5 x6 x7 x8 x9 x10 x11 x12
    rw [Zvp,tG88,h86,h93]
  · funext x0 x1 x2 x3 x4 x5 x6 x7 x8 x9 x10 x11 x12 x13
    rw [Zvq,tG93,h88]
  · funext x0 x1 x2 x3 x4 x5 x6
    rw [Zvr,tG99,h116]
  · funext x0 x1 x2 x3 x4 x5 x6 x7 x8 x9 x10
    rw [Zrn,Zx9,h99,h107]
  · funext x0 x1 x2 x3 x4 x5 x6 x7 x8 x9 x10 x11 x12 x13
    rw [Zro,Ztk,h101,h107]
  · funext x0 x1 x2
    rw [Zrp,Z2b,h129]
  · funext x0 x1 x2 x3 x4 x5 x6 x7
    rw [Zrq,Zya,h114,h116]
  · funext x0 x1 x2 x3 x4
    rw [Zrr,Zyb,h129]
def mulT (a0 a1:Int):Option (Int×Int×Unit):=some ((wrap .u64 (wrap .u64 (wrap .u64 (Int.fdiv a0 4294967296*Int.fdiv a1 4294967296)+Int.fdiv (wrap .u64 (wrap .u64 (Int.fdiv a0 4294967296*Go.bits Go.BinOp.and Go.IntKind.u64 a1 4294967295)+Int.fdiv (wrap .u64 (Go.bits Go.BinOp.and Go.IntKind.u64 a0 4294967295*Go.bits Go.BinOp.and Go.IntKind.u64 a1 4294967295)) 4294967296)) 4294967296)+Int.fdiv (wrap .u64 (Go.bits Go.BinOp.and Go.IntKind.u64 (wrap .u64 (wrap .u64 (Int.fdiv a0 4294967296*Go.bits Go.BinOp.and Go.IntKind.u64 a1 4294967295)+Int.fdiv (wrap .u64 (Go.bits Go.BinOp.and Go.IntKind.u64 a0 4294967295*Go.bits Go.BinOp.and Go.IntKind.u64 a1 4294967295)) 4294967296)) 4294967295+wrap .u64 (Go.bits Go.BinOp.and Go.IntKind.u64 a0 4294967295*Int.fdiv a1 4294967296))) 4294967296),wrap .u64 (a0*a1),()))
theorem Ydy (a0 a1:Int):Zfc a0 a1=mulT a0 a1:=by
 rw [Zni,Zlf]
 rfl
mutual
def tP1:Nat→Qy9→Int→Option Qy11
 | 0,_,_=>none
 | n+1,x0,x1=>match mulT (wrap .u64 (ofNat x0.length)) (wrap .u64 x1) with | none=>none | some e0=>bif e0.1>0 then none else bif e0.2.1>9223372036854775807 then none else tP5 n x0 e0.2.1
def tP5:Nat→Qy9→Int→Option Qy11
 | 0,_,_=>none
 | n+1,x0,x1=>bif 0≤wrap .i64 x1 then bif 0≤wrap .i64 x1 then bif decide (toNat (wrap .i64 x1)≤toNat (wrap .i64 x1))&&(decide (8*toNat (wrap .i64 x1)≤281474976710656)&&decide (toNat (wrap .i64 x1)≤9223372036854775807)) then tP10 n (List.take (min x0.length (List.length (List.replicate (α:=Int×Unit) (toNat (wrap .i64 x1)) (0,())))) x0++List.drop (min x0.length (List.length (List.replicate (α:=Int×Unit) (toNat (wrap .i64 x1)) (0,())))) (List.replicate (toNat (wrap .i64 x1)) (0,()))) (ofNat (min x0.length (List.length (List.replicate (α:=Int×Unit) (toNat (wrap .i64 x1)) (0,()))))) else none else none else none
def tP10:Nat→Qy9→Int→Option Qy11
 | 0,_,_=>none
 | n+1,x0,x1=>bif x1<ofNat x0.length then bif 0≤x1 then bif x1.toNat≤x0.length then bif x1.toNat=x0.length then bif 0≤x1 then bif decide (0≤x1.toNat)&&decide (x1.toNat≤x0.length) then none else none else none else bif 0≤x1 then bif decide (0≤x1.toNat)&&decide (x1.toNat≤x0.length) then bif x1.toNat+(x0.length - x1.toNat)≤x0.length then tP10 n (List.take x1.toNat x0++(List.take (min (List.length (List.take x1.toNat (List.drop 0 x0))) (x0.length - x1.toNat)) (List.take x1.toNat (List.drop 0 x0))++List.drop (x1.toNat+min (List.length (List.take x1.toNat (List.drop 0 x0))) (x0.length - x1.toNat)) x0)) (wrap .i64 (x1+ofNat (min (List.length (List.take x1.toNat (List.drop 0 x0))) (x0.length - x1.toNat)))) else none else none else none else none else none else some (x0,())
end
theorem Z98:∀ n,Yr n=tP1 n∧Yt n=tP5 n∧Z7 n=tP10 n
 | 0=>⟨by funext x0 x1;rw [tP1];exact itr0,by funext x0 x1;rw [tP5];exact itr0,by funext x0 x1;rw [tP10];exact itr0⟩
 | n+1=>by
  obtain⟨h1,h5,h10⟩:=Z98 n
  refine⟨?_,?_,?_⟩
  · funext x0 x1
    rw [Zbi,tP1,Ydy,h5]
    rfl
  · funext x0 x1
    rw [Zbj,tP5,h10]
  · funext x0 x1
    rw [Zbd,tP10,h10]
end Tg

/- The reference's graph of a plan, told. -/
namespace Tg
open Go.Abs (Ze Zt tmm)
abbrev Op2:=Int×Int×Unit
abbrev Ch5:=Int×Int×Int×Int×Int×Unit
def nums (n:Nat)(k:Int):List Op2:=(List.range n).map fun (i:Nat)=>(k,(i:Int),())
def opsG (n p:Nat)(key join side:Bool):List Op2 :=
 nums n 1++nums n 2++(bif key then nums n 3 else [])++nums p (bif join then 5 else 4)++[(6,0,())]++(bif side then [(7,0,())] else [])
def chG (n p:Nat)(key side:Bool)(room:Int):List Ch5 :=
 let part:Nat:=2 * n+(bif key then n else 0)
 let sink:Nat:=part+p
 ((List.range n).map fun (i:Nat)=>((i:Int),0,((n+i:Nat):Int),0,room,())) ++
 ((List.range n).flatMap fun (i:Nat)=>(((n+i:Nat):Int),0,(bif key then ((2 * n+i:Nat):Int) else (part:Int)),(bif key then 0 else (i:Int)),room,())::(bif side then [(((n+i:Nat):Int),1,((sink+1:Nat):Int),(i:Int),room,())] else [])) ++
 (bif key then ((List.range n).flatMap fun (i:Nat)=>(List.range p).map fun (k:Nat)=>(((2 * n+i:Nat):Int),(k:Int),((part+k:Nat):Int),(i:Int),room,())) else []) ++
 ((List.range p).map fun (k:Nat)=>(((part+k:Nat):Int),0,(sink:Int),(k:Int),room,()))
end Tg

/- The reference's tasks and machine, told. -/
namespace Tg
open Go.Abs (Ze Zt tmm)
abbrev low:Int:=-9223372036854775808
abbrev Tk:=Int×Int×Int×List (Int×Int×Int×Int×Int×Int×Int×Int×Int×Int×Int×Unit)×List (Int×Unit)×List (Int×Int×Int×Int×Int×Int×Int×Int×Int×Int×Int×Unit)×List Ev×List Ch5×List (Int×Int×Int×Unit)×Unit
abbrev Inp:=List (List Ev×Unit)
abbrev Qu:=Int×List (Int×Int×Int×Int×Int×Int×Int×Int×Int×Int×Unit)×Unit
def Z5 (n:Nat)(inp:Inp)(o:Op2):Tk :=
 bif o.1==1 then (1,o.2.1,0,[],[],[],(inp.getD o.2.1.toNat ([],())).1,[],[],())
 else bif o.1==2 then (2,o.2.1,0,[],[(low,())],[],[],[],[],())
 else bif o.1==3 then (3,o.2.1,0,[],[],[],[],[],[],())
 else bif o.1==4 then (4,o.2.1,0,[],List.replicate n (low,()),[],[],[],[],())
 else bif o.1==5 then (5,o.2.1,0,[],[(low,()),(low,())],[],[],[],[],())
 else bif o.1==7 then (7,0,0,[],[],[],[],[],[],())
 else (6,0,0,[],[],[],[],[],[],())
def okOp (n:Nat)(o:Op2):Prop :=
 (o.1=1∧0≤o.2.1∧o.2.1<(n:Int))∨((o.1=2∨o.1=3)∧0≤o.2.1∧o.2.1<4)∨((o.1=4∨o.1=5)∧0≤o.2.1∧o.2.1<3)∨o.1=6∨o.1=7
instance (n:Nat) (o:Op2):Decidable (okOp n o):=by unfold okOp;infer_instance
theorem Z0h {l:List Ev}(h:Zcj l=0):l.length≤60∧l.all evOk=true:=by
 unfold Zcj at h
 by_cases h1:(l.length:Int)>60
 · rw [dT h1] at h;cases h
 · rw [dF h1] at h
   refine⟨by omega,?_⟩
   cases ha:l.all evOk with
   | true=>rfl
   | false=>rw [ha] at h;cases h
def Zlg (inp:Inp):Prop:=∀ l∈inp,Zcj l.1=0
theorem Z9a {inp:Inp}(hi:Zlg inp){N:Int}(h1:0≤N)(h2:N<(inp.length:Int)):∃ l,inp[N.toNat]? = some (l,())∧(inp.getD N.toNat ([],())).1=l∧Zcj l=0:=by
 have hlt:N.toNat<inp.length:=by omega
 refine⟨inp[N.toNat].1,List.getElem?_eq_getElem hlt,?_,hi _ (List.getElem_mem hlt)⟩
 rw [List.getD_eq_getElem?_getD,List.getElem?_eq_getElem hlt]
 rfl
def qOf (c:Ch5):Qu:=(c.2.2.2.2.1,[],())
theorem Zyc {α β:Type}(f:α→β){l:List α}{i:Nat}{e:α}(h:l[i]? = some e):(l.take i).map f++[f e]=(l.take (i+1)).map f:=by
 rw [List.take_add_one,h]
 simp
set_option maxRecDepth 100000 in
theorem Zvx (n p:Nat)(hn:1≤n∧n≤4)(hp:1≤p∧p≤3)(key join side:Bool):(opsG n p key join side).length≤20 ∧ ∀ o∈opsG n p key join side,okOp n o:=by
 obtain rfl | rfl | rfl | rfl:n=1∨n=2∨n=3∨n=4:=by omega
 all_goals
  obtain rfl | rfl | rfl:p=1∨p=2∨p=3:=by omega
 all_goals
  cases key <;> cases join <;> cases side <;> decide
set_option maxRecDepth 100000 in
theorem Zqr (n p:Nat)(hn:1≤n∧n≤4)(hp:1≤p∧p≤3)(key side:Bool)(room:Int):(chG n p key side room).length≤100 ∧ ∀ c∈chG n p key side room,c.2.2.2.2.1=room:=by
 constructor
 · obtain rfl | rfl | rfl | rfl:n=1∨n=2∨n=3∨n=4:=by omega
   all_goals
    obtain rfl | rfl | rfl:p=1∨p=2∨p=3:=by omega
   all_goals
    cases key <;> cases side <;> exact Nat.le_of_ble_eq_true rfl
 · intro c hc
   unfold chG at hc
   simp only [List.mem_append,List.mem_map,List.mem_flatMap,List.mem_cons] at hc
   rcases hc with ((⟨i,_,rfl⟩ | ⟨i,_,h⟩) | h) | ⟨i,_,rfl⟩
   · rfl
   · rcases h with rfl | h
     · rfl
     · cases side with
       | false=>simp at h
       | true=>simp at h;subst h;rfl
   · cases key with
     | false=>simp at h
     | true =>
      simp only [cond_true,List.mem_flatMap,List.mem_map] at h
      obtain⟨i,_,k,_,rfl⟩:=h
      rfl
   · rfl
end Tg

/- The code's graph of a plan, told. -/
namespace Tg
open Go.Abs (Ze Zt tmm)
set_option maxRecDepth 100000 in
theorem Z9b (n p:Nat)(hn:1≤n∧n≤4)(hp:1≤p∧p≤3)(key join side:Bool)(room:Int) :
    Xz fuel 1 [] (n:Int) 0 (p:Int) join key (bif side then 2 else 1) room (n:Int)=some ((opsG n (bif key then p else 1) key join side,chG n (bif key then p else 1) key side room,()),0,()):=by
  rw [(Z97 fuel).2.1,Z68]
  obtain rfl | rfl | rfl | rfl:n=1∨n=2∨n=3∨n=4:=by omega
  all_goals
   obtain rfl | rfl | rfl:p=1∨p=2∨p=3:=by omega
  all_goals
   cases key <;> cases join <;> cases side <;> kernel_rfl
theorem Z2c {q:Qr}(h:(chkQ q).2.1=0):chkC q=0:=by
 unfold chkQ at h
 cases hc:(chkC q==0) with
 | true=>simpa using hc
 | false=>rw [hc] at h;exact h
theorem Z3k {q:Qr}(h:chkC q=0):q.2.2.2.2.2.2.2.2.2.1=1∨q.2.2.2.2.2.2.2.2.2.1=2:=by
 unfold chkC at h
 by_cases h1:q.2.2.2.2.2.2.2.2.2.1<1
 · rw [dT h1] at h
   simp at h
 · by_cases h2:q.2.2.2.2.2.2.2.2.2.1>2
   · rw [dT h2] at h
     simp at h
   · omega
theorem Zmd {q:Qr}(h:chkC q=0):srcE q.2.2.1 q.2.2.2.1=0:=by
 have ht:Zm7 q=0→srcE q.2.2.1 q.2.2.2.1=0:=fun h=>by
  unfold Zm7 at h
  cases hs:(srcE q.2.2.1 q.2.2.2.1==0) with
  | true=>simpa using hs
  | false=>rw [hs] at h;exact h
 have hw:Ze8 q=0→srcE q.2.2.1 q.2.2.2.1=0:=fun h=>by
  unfold Ze8 at h
  cases hc:(decide ((q.2.2.2.2.1.length:Int)>0)&&errN q.2.2.2.2.1 != 0) with
  | true =>
   rw [hc] at h
   have h:errN q.2.2.2.2.1=0:=h
   rw [h] at hc
   simp at hc
  | false=>rw [hc] at h;exact ht h
 unfold chkC at h
 cases hb:(decide (q.1<1)||(decide (q.1>4)||(decide (q.2.2.2.2.2.2.2.2.2.1<1)||decide (q.2.2.2.2.2.2.2.2.2.1>2)))) with
 | true=>rw [hb] at h;simp at h
 | false =>
  rw [hb] at h
  simp only [cond_false] at h
  cases h1:(q.1==1) with
  | true =>
   rw [h1] at h
   simp only [cond_true] at h
   by_cases h0:(q.2.1.length:Int)>0
   · rw [dT h0] at h;simp at h
   · rw [dF h0] at h;exact hw h
  | false =>
   rw [h1] at h
   simp only [cond_false] at h
   by_cases he:errN q.2.1=0
   · rw [Zm6 he] at h;exact hw h
   · rw [Zjj he] at h;exact absurd h he
theorem Zqs {l:IL}{j:Bool}(h:srcE l j=0):1≤l.length∧l.length≤4:=by
 unfold srcE at h
 split at h
 · cases h
 · split at h
   · cases h
   · omega
end Tg

/- The code's new tasks, told. -/
namespace Tg
open Go.Abs (Ze Zt tmm)
theorem Ztl (N:Int)(l:List Ev)(hl:l.length≤1000)(ha:l.all evOk=true):∀ (rest:List Ev) (i n:Nat),l.drop i=rest→i≤l.length→rest.length+1≤n→Zbc n l (l.length:Int) (i:Int) N l=some ((1,N,0,[],[],[],l,[],[],()),0,())
 | [],i,n,h,hi,hn=>by
  obtain⟨m,rfl⟩:∃ m,n=m+1:=⟨n - 1,by simp at hn;omega⟩
  have:=Za4 h hi
  simp only [Zh8,iG (show ¬ i<l.length by omega),cond_false,Zbw (show l.length≤1000000 by omega) (show 40≤1000 by omega)]
 | e::rest,i,n,h,hi,hn=>by
  obtain⟨m,rfl⟩:∃ m,n=m+1:=⟨n - 1,by simp at hn;omega⟩
  obtain⟨h1,h2,h3⟩:=Qs h
  have ih:=Ztl N l hl ha rest (i+1) m h3 (by omega) (by simp at hn;omega)
  have he:evOk e=true:=List.all_eq_true.1 ha e (List.mem_of_getElem? h2)
  simp only [Zh8,iL h1,iN,cond_true,cond_false,Int.toNat_natCast,h2,mev,he,Zck,wS (show i<1000000000000 by omega),ih]
theorem Z9c {N:Int}{l:List Ev}(h1:0≤N)(h2:N<4)(h:Zcj l=0):Zj5 N l=some ((1,N,0,[],[],[],l,[],[],()),0,()):=by
 obtain⟨h3,h4⟩:=Z0h h
 obtain⟨n,hn⟩:=Zan
 rw [Zvs]
 simp only [dF (show ¬ N<0 by omega),dF (show ¬ N≥4 by omega),Int.ofNat_eq_natCast,dF (show ¬ (l.length:Int)>60 by omega),cond_false]
 exact Ztl N l (by omega) h4 l 0 fuel rfl (by omega) (by rw [hn];omega)
theorem Ybm {N:Int}(h1:0≤N)(h2:N<4):Zj6 N=some ((2,N,0,[],[(low,())],[],[],[],[],()),0,()):=by
 rw [Zvu]
 simp only [dF (show ¬ N<0 by omega),dF (show ¬ N≥4 by omega)]
 rfl
theorem Ybn {N:Int}(h1:0≤N)(h2:N<4):Zqi N=some ((3,N,0,[],[],[],[],[],[],()),0,()):=by
 rw [Z0f]
 simp only [dF (show ¬ N<0 by omega),dF (show ¬ N≥4 by omega)]
 rfl
set_option maxRecDepth 100000 in
theorem Z69 {n:Nat}(h1:1≤n)(h2:n≤4):Zfn (n:Int)=some (List.replicate n (low,()),0,()):=by
 rw [Zx6,Zbv,(Z98 fuel).1,Z68]
 obtain rfl | rfl | rfl | rfl:n=1∨n=2∨n=3∨n=4:=by omega
 all_goals kernel_rfl
theorem Ydz:Zfn 2=some ([(low,()),(low,())],0,()):=Z69 (n:=2) (by omega) (by omega)
theorem Ybo {N:Int}(h1:0≤N)(h2:N<3):Zqj N=some ((5,N,0,[],[(low,()),(low,())],[],[],[],[],()),0,()):=by
 rw [Z0g]
 simp only [dF (show ¬ N<0 by omega),dF (show ¬ N≥3 by omega),Ydz]
 rfl
theorem Ybp {N:Int}(h1:0≤N)(h2:N<3){n:Nat}(g1:1≤n)(g2:n≤4):Zvt N (n:Int)=some ((4,N,0,[],List.replicate n (low,()),[],[],[],[],()),0,()):=by
 rw [Z3i]
 simp only [Z69 g1 g2,dF (show ¬ N<0 by omega),dF (show ¬ N≥3 by omega),Zck,cond_false]
theorem Ybq {N:Int}(h1:1≤N)(h2:N≤8):Zex N=some ((N,[],()),0,()):=by
 rw [Zrs]
 simp only [dF (show ¬ N<1 by omega),dF (show ¬ N>8 by omega)]
 rfl
end Tg

/- What the reference's builder answers, told. -/
namespace Tg
open Go.Abs (Ze Zt tmm)
abbrev Mc:=Mch
def zM:Mc:=(0,[],[],false,[],0,0,0,false,0,[],[],[],[],())
def Qj:Inp→Int
 | []=>0
 | l::ls=>bif Zcj l.1 != 0 then Zcj l.1 else Qj ls
def prE (p r:Int):Int:=bif decide (p<1) then 2 else bif decide (p>3) then 2 else bif decide (r<1) then 2 else bif decide (r>8) then 2 else 0
def askE (q:Qr)(inp:Inp)(p r:Int):Int:=bif (chkQ q).2.1 != 0 then (chkQ q).2.1 else bif (inp.length:Int) != (q.2.2.1.length:Int) then 2 else bif Qj inp != 0 then Qj inp else prE p r
theorem Zme:∀ {inp:Inp},Qj inp=0→Zlg inp
 | [],_=>fun _ h=>by simp at h
 | l::ls,h=>by
  unfold Qj at h
  cases hl:(Zcj l.1 != 0) with
  | true =>
   rw [hl] at h
   have h:Zcj l.1=0:=h
   rw [h] at hl
   cases hl
  | false =>
   rw [hl] at h
   have ih:=Zme (inp:=ls) h
   intro x hx
   rcases List.mem_cons.1 hx with rfl | hx
   · simpa using hl
   · exact ih x hx
theorem prE0 {p r:Int}(h:prE p r=0):1≤p∧p≤3∧1≤r∧r≤8:=by
 unfold prE at h
 by_cases h1:p<1
 · rw [dT h1] at h;cases h
 · by_cases h2:p>3
   · rw [dF h1,dT h2] at h;cases h
   · by_cases h3:r<1
     · rw [dF h1,dF h2,dT h3] at h;cases h
     · by_cases h4:r>8
       · rw [dF h1,dF h2,dF h3,dT h4] at h;cases h
       · omega
def partsOf (q:Qr)(p:Int):Nat:=bif q.2.2.2.2.2.2.2.2.1 then p.toNat else 1
def mOf (q:Qr)(inp:Inp)(p r:Int):Mc :=
 (q.1,q.2.1,q.2.2.1,q.2.2.2.1,q.2.2.2.2.1,q.2.2.2.2.2.1,q.2.2.2.2.2.2.1,q.2.2.2.2.2.2.2.1,q.2.2.2.2.2.2.2.2.1,q.2.2.2.2.2.2.2.2.2.1,
  opsG inp.length (partsOf q p) q.2.2.2.2.2.2.2.2.1 q.2.2.2.1 (q.2.2.2.2.2.2.2.2.2.1==2),chG inp.length (partsOf q p) q.2.2.2.2.2.2.2.2.1 (q.2.2.2.2.2.2.2.2.2.1==2) r,
  (opsG inp.length (partsOf q p) q.2.2.2.2.2.2.2.2.1 q.2.2.2.1 (q.2.2.2.2.2.2.2.2.2.1==2)).map (Z5 inp.length inp),(chG inp.length (partsOf q p) q.2.2.2.2.2.2.2.2.1 (q.2.2.2.2.2.2.2.2.2.1==2) r).map qOf,())
theorem Z2d {q:Qr}{inp:Inp}{p r:Int}(h:askE q inp p r=0):(chkQ q).2.1=0∧inp.length=q.2.2.1.length∧Zlg inp∧Qj inp=0∧(1≤p∧p≤3∧1≤r∧r≤8)∧(1≤inp.length∧inp.length≤4):=by
 unfold askE at h
 cases h1:((chkQ q).2.1 != 0) with
 | true =>
  rw [h1] at h
  have h:(chkQ q).2.1=0:=h
  rw [h] at h1;cases h1
 | false =>
  have e1:(chkQ q).2.1=0:=by simpa using h1
  rw [h1] at h
  cases h2:((inp.length:Int) != (q.2.2.1.length:Int)) with
  | true=>rw [h2] at h;cases h
  | false =>
   have e2:inp.length=q.2.2.1.length:=by
    have:(inp.length:Int)=(q.2.2.1.length:Int):=by simpa using h2
    omega
   rw [h2] at h
   cases h3:(Qj inp != 0) with
   | true =>
    rw [h3] at h
    have h:Qj inp=0:=h
    rw [h] at h3;cases h3
   | false =>
    have e3:Qj inp=0:=by simpa using h3
    rw [h3] at h
    have h5:=Zqs (Zmd (Z2c e1))
    exact⟨e1,e2,Zme e3,e3,prE0 h,by rw [e2];exact h5⟩
theorem Zgo (q:Qr){p:Int}(h:1≤p∧p≤3):1≤partsOf q p∧partsOf q p≤3:=by
 unfold partsOf
 cases q.2.2.2.2.2.2.2.2.1 with
 | true=>simp only [cond_true];omega
 | false=>simp only [cond_false];omega
end Tg
