import Derived.Test.YtdgcdoiefodccaaGreatBQz1
import Derived.Test.YtdgcdoiefodccaaGreatBPK
import Derived.Test.YtdgcdoiefodccaaGreatBMW
/- The makers of graphs as plain functions that the kernel can run. -/
set_option linter.unusedVariables false
set_option linter.unusedSimpArgs false
set_option maxRecDepth 100000
namespace Tg
open Go.Abs hiding fuel
open Go.Proofs.Tryz (prog)
open Int (ofNat toNat)
open Go.IntKind (wrap)
theorem Z4j:fuel=Go.Abs.fuel:=Zb8 _
theorem itr0 {tab:Tb}{P:Go.Program}{g:Go.FuncId}{f:TFun}{i:Nat}{x:denL (Zd5 (Zdc f.cuts i) [])}:itr tab P g f 0 i x=none:=by
 rw [Z8x]
 rfl
mutual
def tM3:Nat→Int→Int→Bool→Int→Bool→Bool→Option (Qy4×Unit)
 | 0,_,_,_,_,_,_=>none
 | n+1,x0,x1,x2,x3,x4,x5=>bif x4 then tM6 n x0 x1 x2 x3 x4 x5 x3 else tM6 n x0 x1 x2 x3 x4 x5 0
def tM6:Nat→Int→Int→Bool→Int→Bool→Bool→Int→Option (Qy4×Unit)
 | 0,_,_,_,_,_,_,_=>none
 | n+1,x0,x1,x2,x3,x4,x5,x6=>tM13 n x0 x1 x2 x3 x4 x5 (wrap .i64 (wrap .i64 (2*x3)+x6)) (wrap .i64 (wrap .i64 (wrap .i64 (2*x3)+x6)+x0)) ([]) ([]) 0
def tM11:Nat→Bool→Qy6→(List Qy2)→Option (Qy4×Unit)
 | 0,_,_,_=>none
 | n+1,x0,x1,x2=>bif x0 then bif Zb (x1.length+1) 16 then some (((x1++[(7,0,())],x2,()),())) else none else some (((x1,x2,()),()))
def tM13:Nat→Int→Int→Bool→Int→Bool→Bool→Int→Int→Qy6→(List Qy2)→Int→Option (Qy4×Unit)
 | 0,_,_,_,_,_,_,_,_,_,_,_=>none
 | n+1,x0,x1,x2,x3,x4,x5,x6,x7,x8,x9,x10=>bif x10≤x7 then bif x10<x3 then bif Zb (x8.length+List.length [(1,x10,())]) 16 then bif Zb (x9.length+List.length [(x10,0,wrap .i64 (x3+x10),0,x1,())]) 40 then tM13 n x0 x1 x2 x3 x4 x5 x6 x7 (x8++[(1,x10,())]) (x9++[(x10,0,wrap .i64 (x3+x10),0,x1,())]) (wrap .i64 (x10+1)) else none else none else bif x10<wrap .i64 (2*x3) then bif Zb (x8.length+List.length [(2,wrap .i64 (x10 - x3),())]) 16 then bif !x4 then tM22 n x0 x1 x2 x3 x4 x5 x6 x7 (x8++[(2,wrap .i64 (x10 - x3),())]) x9 x10 x10 0 x6 (wrap .i64 (x10 - x3)) x1 else tM22 n x0 x1 x2 x3 x4 x5 x6 x7 (x8++[(2,wrap .i64 (x10 - x3),())]) x9 x10 x10 0 (wrap .i64 (x3+x10)) 0 x1 else none else bif x10<x6 then bif Zb (x8.length+List.length [(3,wrap .i64 (x10 - wrap .i64 (2*x3)),())]) 16 then tM29 n x0 x1 x2 x3 x4 x5 x6 x7 (x8++[(3,wrap .i64 (x10 - wrap .i64 (2*x3)),())]) x9 x10 0 else none else bif x10<x7 then bif x2 then tM35 n x0 x1 x2 x3 x4 x5 x6 x7 x8 x9 x10 5 else tM35 n x0 x1 x2 x3 x4 x5 x6 x7 x8 x9 x10 4 else bif Zb (x8.length+1) 16 then tM13 n x0 x1 x2 x3 x4 x5 x6 x7 (x8++[(6,0,())]) x9 (wrap .i64 (x10+1)) else none else tM11 n x5 x8 x9
def tM22:Nat→Int→Int→Bool→Int→Bool→Bool→Int→Int→Qy6→(List Qy2)→Int→Int→Int→Int→Int→Int→Option (Qy4×Unit)
 | 0,_,_,_,_,_,_,_,_,_,_,_,_,_,_,_,_=>none
 | n+1,x0,x1,x2,x3,x4,x5,x6,x7,x8,x9,x10,x11,x12,x13,x14,x15=>bif Zb (x9.length+List.length [(x11,x12,x13,x14,x15,())]) 40 then bif x5 then bif Zb (List.length (x9++[(x11,x12,x13,x14,x15,())])+List.length [(x10,1,wrap .i64 (x7+1),wrap .i64 (x10 - x3),x1,())]) 40 then tM13 n x0 x1 x2 x3 x4 x5 x6 x7 x8 (x9++[(x11,x12,x13,x14,x15,())]++[(x10,1,wrap .i64 (x7+1),wrap .i64 (x10 - x3),x1,())]) (wrap .i64 (x10+1)) else none else tM13 n x0 x1 x2 x3 x4 x5 x6 x7 x8 (x9++[(x11,x12,x13,x14,x15,())]) (wrap .i64 (x10+1)) else none
def tM29:Nat→Int→Int→Bool→Int→Bool→Bool→Int→Int→Qy6→(List Qy2)→Int→Int→Option (Qy4×Unit)
 | 0,_,_,_,_,_,_,_,_,_,_,_,_=>none
 | n+1,x0,x1,x2,x3,x4,x5,x6,x7,x8,x9,x10,x11=>bif x11<x0 then bif Zb (x9.length+List.length [(x10,x11,wrap .i64 (x6+x11),wrap .i64 (x10 - wrap .i64 (2*x3)),x1,())]) 40 then tM29 n x0 x1 x2 x3 x4 x5 x6 x7 x8 (x9++[(x10,x11,wrap .i64 (x6+x11),wrap .i64 (x10 - wrap .i64 (2*x3)),x1,())]) x10 (wrap .i64 (x11+1)) else none else tM13 n x0 x1 x2 x3 x4 x5 x6 x7 x8 x9 (wrap .i64 (x10+1))
def tM35:Nat→Int→Int→Bool→Int→Bool→Bool→Int→Int→Qy6→(List Qy2)→Int→Int→Option (Qy4×Unit)
 | 0,_,_,_,_,_,_,_,_,_,_,_,_=>none
 | n+1,x0,x1,x2,x3,x4,x5,x6,x7,x8,x9,x10,x11=>bif Zb (x8.length+List.length [(x11,wrap .i64 (x10 - x6),())]) 16 then bif Zb (x9.length+List.length [(x10,0,x7,wrap .i64 (x10 - x6),x1,())]) 40 then tM13 n x0 x1 x2 x3 x4 x5 x6 x7 (x8++[(x11,wrap .i64 (x10 - x6),())]) (x9++[(x10,0,x7,wrap .i64 (x10 - x6),x1,())]) (wrap .i64 (x10+1)) else none else none
end
theorem Yoh:∀ n,X8 n=tM3 n∧Ze2 n=tM6 n∧Zhe n=tM11 n∧Yx n=tM13 n∧Zdx n=tM22 n∧Zdy n=tM29 n∧Zdz n=tM35 n
 | 0=>⟨by funext x0 x1 x2 x3 x4 x5;rw [tM3];exact itr0,by funext x0 x1 x2 x3 x4 x5 x6;rw [tM6];exact itr0,by funext x0 x1 x2;rw [tM11];exact itr0,by funext x0 x1 x2 x3 x4 x5 x6 x7 x8 x9 x10;rw [tM13];exact itr0,by funext x0 x1 x2 x3 x4 x5 x6 x7 x8 x9 x10 x11 x12 x13 x14 x15;rw [tM22];exact itr0,by funext x0 x1 x2 x3 x4 x5 x6 x7 x8 x9 x10 x11;rw [tM29];exact itr0,by funext x0 x1 x2 x3 x4 x5 x6 x7 x8 x9 x10 x11;rw [tM35];exact itr0⟩
 | n+1=>by
  obtain⟨h3,h6,h11,h13,h22,h29,h35⟩:=Yoh n
  refine⟨?_,?_,?_,?_,?_,?_,?_⟩
  · funext x0 x1 x2 x3 x4 x5
    rw [Zzl,tM3,h6]
  · funext x0 x1 x2 x3 x4 x5 x6
    rw [Zzm,tM6,h13]
  · funext x0 x1 x2
    rw [Zxg,tM11]
  · funext x0 x1 x2 x3 x4 x5 x6 x7 x8 x9 x10
    rw [Zxh,tM13,h11,h13,h22,h29,h35]
  · funext x0 x1 x2 x3 x4 x5 x6 x7 x8 x9 x10 x11 x12 x13 x14 x15
    rw [Zxi,tM22,h13]
  · funext x0 x1 x2 x3 x4 x5 x6 x7 x8 x9 x10 x11
    rw [Zxj,tM29,h13,h29]
  · funext x0 x1 x2 x3 x4 x5 x6 x7 x8 x9 x10 x11
    rw [Zxk,tM35,h13]
mutual
def tG13:Nat→Int→Bool→Bool→Int→Int→Int→Qy6→Option Qy12
 | 0,_,_,_,_,_,_,_=>none
 | n+1,x0,x1,x2,x3,x4,x5,x6=>tG31 n 2 x6 (ofNat x6.length) x5 0 x0 x1 x2 x3 x4 x5
def tG19:Nat→Int→Qy6→Int→Int→Int→Bool→Bool→Int→Int→Int→Option Qy12
 | 0,_,_,_,_,_,_,_,_,_,_=>none
 | n+1,x0,x1,x2,x3,x4,x5,x6,x7,x8,x9=>bif x3<x2 then bif Zb (x1.length+List.length [(x0,x3,())]) 16 then tG19 n x0 (x1++[(x0,x3,())]) x2 (wrap .i64 (x3+1)) x4 x5 x6 x7 x8 x9 else none else tG13 n x4 x5 x6 x7 x8 x9 x1
def tG25:Nat→Int→Bool→Bool→Int→Int→Int→Qy6→Int→Option Qy12
 | 0,_,_,_,_,_,_,_,_=>none
 | n+1,x0,x1,x2,x3,x4,x5,x6,x7=>bif x2 then tG45 n 3 x6 (ofNat x6.length) x5 0 x0 x1 x2 x3 x4 x5 x7 else tG38 n 1 x1 x2 x3 x4 x5 x6 x7 x7
def tG31:Nat→Int→Qy6→Int→Int→Int→Int→Bool→Bool→Int→Int→Int→Option Qy12
 | 0,_,_,_,_,_,_,_,_,_,_,_=>none
 | n+1,x0,x1,x2,x3,x4,x5,x6,x7,x8,x9,x10=>bif x4<x3 then bif Zb (x1.length+List.length [(x0,x4,())]) 16 then tG31 n x0 (x1++[(x0,x4,())]) x2 x3 (wrap .i64 (x4+1)) x5 x6 x7 x8 x9 x10 else none else tG25 n x5 x6 x7 x8 x9 x10 x1 x2
def tG38:Nat→Int→Bool→Bool→Int→Int→Int→Qy6→Int→Int→Option Qy12
 | 0,_,_,_,_,_,_,_,_,_=>none
 | n+1,x0,x1,x2,x3,x4,x5,x6,x7,x8=>bif x1 then tG52 n x0 x2 x3 x4 x5 x6 x7 x8 5 else tG52 n x0 x2 x3 x4 x5 x6 x7 x8 4
def tG45:Nat→Int→Qy6→Int→Int→Int→Int→Bool→Bool→Int→Int→Int→Int→Option Qy12
 | 0,_,_,_,_,_,_,_,_,_,_,_,_=>none
 | n+1,x0,x1,x2,x3,x4,x5,x6,x7,x8,x9,x10,x11=>bif x4<x3 then bif Zb (x1.length+List.length [(x0,x4,())]) 16 then tG45 n x0 (x1++[(x0,x4,())]) x2 x3 (wrap .i64 (x4+1)) x5 x6 x7 x8 x9 x10 x11 else none else tG38 n x5 x6 x7 x8 x9 x10 x1 x11 x2
def tG52:Nat→Int→Bool→Int→Int→Int→Qy6→Int→Int→Int→Option Qy12
 | 0,_,_,_,_,_,_,_,_,_=>none
 | n+1,x0,x1,x2,x3,x4,x5,x6,x7,x8=>tG60 n x8 x5 (ofNat x5.length) x0 0 x0 x1 x2 x3 x4 x6 x7
def tG54:Nat→Int→Bool→Int→Int→Int→Qy6→Int→Int→Int→Option Qy12
 | 0,_,_,_,_,_,_,_,_,_=>none
 | n+1,x0,x1,x2,x3,x4,x5,x6,x7,x8=>tG72 n 6 x5 (ofNat x5.length) 1 0 x0 x1 x2 x3 x4 x6 x7 x8
def tG60:Nat→Int→Qy6→Int→Int→Int→Int→Bool→Int→Int→Int→Int→Int→Option Qy12
 | 0,_,_,_,_,_,_,_,_,_,_,_,_=>none
 | n+1,x0,x1,x2,x3,x4,x5,x6,x7,x8,x9,x10,x11=>bif x4<x3 then bif Zb (x1.length+List.length [(x0,x4,())]) 16 then tG60 n x0 (x1++[(x0,x4,())]) x2 x3 (wrap .i64 (x4+1)) x5 x6 x7 x8 x9 x10 x11 else none else tG54 n x5 x6 x7 x8 x9 x1 x10 x11 x2
def tG66:Nat→Int→Bool→Int→Int→Int→Qy6→Int→Int→Int→Int→Option Qy12
 | 0,_,_,_,_,_,_,_,_,_,_=>none
 | n+1,x0,x1,x2,x3,x4,x5,x6,x7,x8,x9=>tG80 n x0 x1 x2 x3 x4 x5 ([]) x6 x7 x8 x9 x4 0
def tG72:Nat→Int→Qy6→Int→Int→Int→Int→Bool→Int→Int→Int→Int→Int→Int→Option Qy12
 | 0,_,_,_,_,_,_,_,_,_,_,_,_,_=>none
 | n+1,x0,x1,x2,x3,x4,x5,x6,x7,x8,x9,x10,x11,x12=>bif x4<x3 then bif Zb (x1.length+List.length [(x0,x4,())]) 16 then tG72 n x0 (x1++[(x0,x4,())]) x2 x3 (wrap .i64 (x4+1)) x5 x6 x7 x8 x9 x10 x11 x12 else none else tG66 n x5 x6 x7 x8 x9 x1 x10 x11 x12 x2
def tG78:Nat→Int→Bool→Int→Int→Int→Qy6→(List Qy2)→Int→Int→Int→Int→Option Qy12
 | 0,_,_,_,_,_,_,_,_,_,_,_=>none
 | n+1,x0,x1,x2,x3,x4,x5,x6,x7,x8,x9,x10=>tG88 n x0 x1 x2 x3 x4 x5 x6 x7 x8 x9 x10 x4 0
def tG80:Nat→Int→Bool→Int→Int→Int→Qy6→(List Qy2)→Int→Int→Int→Int→Int→Int→Option Qy12
 | 0,_,_,_,_,_,_,_,_,_,_,_,_,_=>none
 | n+1,x0,x1,x2,x3,x4,x5,x6,x7,x8,x9,x10,x11,x12=>bif x12<x11 then bif Zb (x6.length+List.length [(x12,0,wrap .i64 (x7+x12),0,x3,())]) 40 then tG80 n x0 x1 x2 x3 x4 x5 (x6++[(x12,0,wrap .i64 (x7+x12),0,x3,())]) x7 x8 x9 x10 x11 (wrap .i64 (x12+1)) else none else tG78 n x0 x1 x2 x3 x4 x5 x6 x7 x8 x9 x10
def tG86:Nat→Int→Bool→Int→Int→Int→Qy6→(List Qy2)→Int→Int→Int→Option Qy12
 | 0,_,_,_,_,_,_,_,_,_,_=>none
 | n+1,x0,x1,x2,x3,x4,x5,x6,x7,x8,x9=>Z7n n x0 x1 x2 x3 x5 x6 x7 x8 x9 x4 0
def tG88:Nat→Int→Bool→Int→Int→Int→Qy6→(List Qy2)→Int→Int→Int→Int→Int→Int→Option Qy12
 | 0,_,_,_,_,_,_,_,_,_,_,_,_,_=>none
 | n+1,x0,x1,x2,x3,x4,x5,x6,x7,x8,x9,x10,x11,x12=>bif x12<x11 then bif x1 then bif Zb (x6.length+List.length [(wrap .i64 (x7+x12),0,wrap .i64 (x8+x12),0,x3,())]) 40 then tG93 n x0 x1 x2 x3 x4 x5 (x6++[(wrap .i64 (x7+x12),0,wrap .i64 (x8+x12),0,x3,())]) x7 x8 x9 x10 x12 x11 x12 else none else bif Zb (x6.length+List.length [(wrap .i64 (x7+x12),0,x9,x12,x3,())]) 40 then tG93 n x0 x1 x2 x3 x4 x5 (x6++[(wrap .i64 (x7+x12),0,x9,x12,x3,())]) x7 x8 x9 x10 x12 x11 x12 else none else tG86 n x0 x1 x2 x3 x4 x5 x6 x8 x9 x10
def tG93:Nat→Int→Bool→Int→Int→Int→Qy6→(List Qy2)→Int→Int→Int→Int→Int→Int→Int→Option Qy12
 | 0,_,_,_,_,_,_,_,_,_,_,_,_,_,_=>none
 | n+1,x0,x1,x2,x3,x4,x5,x6,x7,x8,x9,x10,x11,x12,x13=>bif x2==2 then bif Zb (x6.length+List.length [(wrap .i64 (x7+x11),1,wrap .i64 (x10+1),x11,x3,())]) 40 then tG88 n x0 x1 x2 x3 x4 x5 (x6++[(wrap .i64 (x7+x11),1,wrap .i64 (x10+1),x11,x3,())]) x7 x8 x9 x10 x12 (wrap .i64 (x13+1)) else none else tG88 n x0 x1 x2 x3 x4 x5 x6 x7 x8 x9 x10 x12 (wrap .i64 (x13+1))
def tG99:Nat→Int→Int→Int→Qy6→(List Qy2)→Int→Int→Option Qy12
 | 0,_,_,_,_,_,_,_=>none
 | n+1,x0,x1,x2,x3,x4,x5,x6=>Z7o n x1 x2 x3 x4 x5 x6 x0 0
def Z7n:Nat→Int→Bool→Int→Int→Qy6→(List Qy2)→Int→Int→Int→Int→Int→Option Qy12
 | 0,_,_,_,_,_,_,_,_,_,_,_=>none
 | n+1,x0,x1,x2,x3,x4,x5,x6,x7,x8,x9,x10=>bif x10<x9 then Z1n n x0 x1 x2 x3 x4 x5 x6 x7 x8 x10 x9 x10 x0 0 else tG99 n x0 x2 x3 x4 x5 x7 x8
def Z1n:Nat→Int→Bool→Int→Int→Qy6→(List Qy2)→Int→Int→Int→Int→Int→Int→Int→Int→Option Qy12
 | 0,_,_,_,_,_,_,_,_,_,_,_,_,_,_=>none
 | n+1,x0,x1,x2,x3,x4,x5,x6,x7,x8,x9,x10,x11,x12,x13=>bif x13<x12 then bif x1 then bif Zb (x5.length+List.length [(wrap .i64 (x6+x9),x13,wrap .i64 (x7+x13),x9,x3,())]) 40 then Z1n n x0 x1 x2 x3 x4 (x5++[(wrap .i64 (x6+x9),x13,wrap .i64 (x7+x13),x9,x3,())]) x6 x7 x8 x9 x10 x11 x12 (wrap .i64 (x13+1)) else none else Z1n n x0 x1 x2 x3 x4 x5 x6 x7 x8 x9 x10 x11 x12 (wrap .i64 (x13+1)) else Z7n n x0 x1 x2 x3 x4 x5 x6 x7 x8 x10 (wrap .i64 (x11+1))
def Yc7:Nat→Int→Qy6→(List Qy2)→Option Qy12
 | 0,_,_,_=>none
 | n+1,x0,x1,x2=>bif x0==2 then Z7p n 7 x1 x2 1 0 else some (((x1,x2,()),0,()))
def Z7o:Nat→Int→Int→Qy6→(List Qy2)→Int→Int→Int→Int→Option Qy12
 | 0,_,_,_,_,_,_,_,_=>none
 | n+1,x0,x1,x2,x3,x4,x5,x6,x7=>bif x7<x6 then bif Zb (x3.length+List.length [(wrap .i64 (x4+x7),0,x5,x7,x1,())]) 40 then Z7o n x0 x1 x2 (x3++[(wrap .i64 (x4+x7),0,x5,x7,x1,())]) x4 x5 x6 (wrap .i64 (x7+1)) else none else Yc7 n x0 x2 x3
def Z7p:Nat→Int→Qy6→(List Qy2)→Int→Int→Option Qy12
 | 0,_,_,_,_,_=>none
 | n+1,x0,x1,x2,x3,x4=>bif x4<x3 then bif Zb (x1.length+List.length [(x0,x4,())]) 16 then Z7p n x0 (x1++[(x0,x4,())]) x2 x3 (wrap .i64 (x4+1)) else none else some (((x1,x2,()),0,()))
end
theorem Yoi:∀ n,Zjv n=tG13 n∧Q3 n=tG19 n∧Zjw n=tG25 n∧Zf1 n=tG31 n∧Zf2 n=tG38 n∧Zf3 n=tG45 n∧Zf4 n=tG52 n∧Zjx n=tG54 n∧Zf5 n=tG60 n∧Zjy n=tG66 n∧Zf6 n=tG72 n∧Zjz n=tG78 n∧Zf7 n=tG80 n∧Zj0 n=tG86 n∧Zdu n=tG88 n∧Zf8 n=tG93 n∧Zj1 n=tG99 n∧Zez n=Z7n n∧Zcf n=Z1n n∧Zij n=Yc7 n∧Ze0 n=Z7o n∧Ze1 n=Z7p n
 | 0=>⟨by funext x0 x1 x2 x3 x4 x5 x6;rw [tG13];exact itr0,by funext x0 x1 x2 x3 x4 x5 x6 x7 x8 x9;rw [tG19];exact itr0,by funext x0 x1 x2 x3 x4 x5 x6 x7;rw [tG25];exact itr0,by funext x0 x1 x2 x3 x4 x5 x6 x7 x8 x9 x10;rw [tG31];exact itr0,by funext x0 x1 x2 x3 x4 x5 x6 x7 x8;rw [tG38];exact itr0,by funext x0 x1 x2 x3 x4 x5 x6 x7 x8 x9 x10 x11;rw [tG45];exact itr0,by funext x0 x1 x2 x3 x4 x5 x6 x7 x8;rw [tG52];exact itr0,by funext x0 x1 x2 x3 x4 x5 x6 x7 x8;rw [tG54];exact itr0,by funext x0 x1 x2 x3 x4 x5 x6 x7 x8 x9 x10 x11;rw [tG60];exact itr0,by funext x0 x1 x2 x3 x4 x5 x6 x7 x8 x9;rw [tG66];exact itr0,by funext x0 x1 x2 x3 x4 x5 x6 x7 x8 x9 x10 x11 x12;rw [tG72];exact itr0,by funext x0 x1 x2 x3 x4 x5 x6 x7 x8 x9 x10;rw [tG78];exact itr0,by funext x0 x1 x2 x3 x4 x5 x6 x7 x8 x9 x10 x11 x12;rw [tG80];exact itr0,by funext x0 x1 x2 x3 x4 x5 x6 x7 x8 x9;rw [tG86];exact itr0,by funext x0 x1 x2 x3 x4 x5 x6 x7 x8 x9 x10 x11 x12;rw [tG88];exact itr0,by funext x0 x1 x2 x3 x4 x5 x6 x7 x8 x9 x10 x11 x12 x13;rw [tG93];exact itr0,by funext x0 x1 x2 x3 x4 x5 x6;rw [tG99];exact itr0,by funext x0 x1 x2 x3 x4 x5 x6 x7 x8 x9 x10;rw [Z7n];exact itr0,by funext x0 x1 x2 x3 x4 x5 x6 x7 x8 x9 x10 x11 x12 x13;rw [Z1n];exact itr0,by funext x0 x1 x2;rw [Yc7];exact itr0,by funext x0 x1 x2 x3 x4 x5 x6 x7;rw [Z7o];exact itr0,by funext x0 x1 x2 x3 x4;rw [Z7p];exact itr0⟩
 | n+1=>by
  obtain⟨h13,h19,h25,h31,h38,h45,h52,h54,h60,h66,h72,h78,h80,h86,h88,h93,h99,h101,h107,h114,h116,h129⟩:=Yoi n
  refine⟨?_,?_,?_,?_,?_,?_,?_,?_,?_,?_,?_,?_,?_,?_,?_,?_,?_,?_,?_,?_,?_,?_⟩
  · funext x0 x1 x2 x3 x4 x5 x6
    rw [Z3t,tG13,h31]
  · funext x0 x1 x2 x3 x4 x5 x6 x7 x8 x9
    rw [Z3u,tG19,h13,h19]
  · funext x0 x1 x2 x3 x4 x5 x6 x7
    rw [Z3v,tG25,h38,h45]
  · funext x0 x1 x2 x3 x4 x5 x6 x7 x8 x9 x10
    rw [Z3w,tG31,h25,h31]
  · funext x0 x1 x2 x3 x4 x5 x6 x7 x8
    rw [Z3x,tG38,h52]
  · funext x0 x1 x2 x3 x4 x5 x6 x7 x8 x9 x10 x11
    rw [Z3y,tG45,h38,h45]
  · funext x0 x1 x2 x3 x4 x5 x6 x7 x8
    rw [Z3z,tG52,h60]
  · funext x0 x1 x2 x3 x4 x5 x6 x7 x8
    rw [Z30,tG54,h72]
  · funext x0 x1 x2 x3 x4 x5 x6 x7 x8 x9 x10 x11
    rw [Z31,tG60,h54,h60]
  · funext x0 x1 x2 x3 x4 x5 x6 x7 x8 x9
    rw [Z32,tG66,h80]
  · funext x0 x1 x2 x3 x4 x5 x6 x7 x8 x9 x10 x11 x12
    rw [Z33,tG72,h66,h72]
  · funext x0 x1 x2 x3 x4 x5 x6 x7 x8 x9 x10
    rw [Z34,tG78,h88]
  · funext x0 x1 x2 x3 x4 x5 x6 x7 x8 x9 x10 x11 x12
    rw [Z35,tG80,h78,h80]
  · funext x0 x1 x2 x3 x4 x5 x6 x7 x8 x9
    rw [Z36,tG86,h101]
  · funext x0 x1 x2 x3 x4 x5 x6 x7 x8 x9 x10 x11 x12
    rw [Z37,tG88,h86,h93]
  · funext x0 x1 x2 x3 x4 x5 x6 x7 x8 x9 x10 x11 x12 x13
    rw [Z38,tG93,h88]
  · funext x0 x1 x2 x3 x4 x5 x6
    rw [Z39,tG99,h116]
  · funext x0 x1 x2 x3 x4 x5 x6 x7 x8 x9 x10
    rw [Zze,Z7n,h99,h107]
  · funext x0 x1 x2 x3 x4 x5 x6 x7 x8 x9 x10 x11 x12 x13
    rw [Zzf,Z1n,h101,h107]
  · funext x0 x1 x2
    rw [Zzg,Yc7,h129]
  · funext x0 x1 x2 x3 x4 x5 x6 x7
    rw [Zzh,Z7o,h114,h116]
  · funext x0 x1 x2 x3 x4
    rw [Zzi,Z7p,h129]
def mulT (a0 a1:Int):Option (Int×Int×Unit):=some ((wrap .u64 (wrap .u64 (wrap .u64 (Int.fdiv a0 4294967296*Int.fdiv a1 4294967296)+Int.fdiv (wrap .u64 (wrap .u64 (Int.fdiv a0 4294967296*Go.bits Go.BinOp.and Go.IntKind.u64 a1 4294967295)+Int.fdiv (wrap .u64 (Go.bits Go.BinOp.and Go.IntKind.u64 a0 4294967295*Go.bits Go.BinOp.and Go.IntKind.u64 a1 4294967295)) 4294967296)) 4294967296)+Int.fdiv (wrap .u64 (Go.bits Go.BinOp.and Go.IntKind.u64 (wrap .u64 (wrap .u64 (Int.fdiv a0 4294967296*Go.bits Go.BinOp.and Go.IntKind.u64 a1 4294967295)+Int.fdiv (wrap .u64 (Go.bits Go.BinOp.and Go.IntKind.u64 a0 4294967295*Go.bits Go.BinOp.and Go.IntKind.u64 a1 4294967295)) 4294967296)) 4294967295+wrap .u64 (Go.bits Go.BinOp.and Go.IntKind.u64 a0 4294967295*Int.fdiv a1 4294967296))) 4294967296),wrap .u64 (a0*a1),()))
theorem Yut (a0 a1:Int):Zik a0 a1=mulT a0 a1:=by
 rw [Ztr,Zq5]
 rfl
mutual
def tP1:Nat→Qy9→Int→Option Qy13
 | 0,_,_=>none
 | n+1,x0,x1=>match mulT (wrap .u64 (ofNat x0.length)) (wrap .u64 x1) with | none=>none | some e0=>bif e0.1>0 then none else bif e0.2.1>9223372036854775807 then none else tP5 n x0 e0.2.1
def tP5:Nat→Qy9→Int→Option Qy13
 | 0,_,_=>none
 | n+1,x0,x1=>bif 0≤wrap .i64 x1 then bif 0≤wrap .i64 x1 then bif decide (toNat (wrap .i64 x1)≤toNat (wrap .i64 x1))&&(decide (8*toNat (wrap .i64 x1)≤281474976710656)&&decide (toNat (wrap .i64 x1)≤9223372036854775807)) then tP10 n (List.take (min x0.length (List.length (List.replicate (α:=Int×Unit) (toNat (wrap .i64 x1)) (0,())))) x0++List.drop (min x0.length (List.length (List.replicate (α:=Int×Unit) (toNat (wrap .i64 x1)) (0,())))) (List.replicate (toNat (wrap .i64 x1)) (0,()))) (ofNat (min x0.length (List.length (List.replicate (α:=Int×Unit) (toNat (wrap .i64 x1)) (0,()))))) else none else none else none
def tP10:Nat→Qy9→Int→Option Qy13
 | 0,_,_=>none
 | n+1,x0,x1=>bif x1<ofNat x0.length then bif 0≤x1 then bif x1.toNat≤x0.length then bif x1.toNat=x0.length then bif 0≤x1 then bif decide (0≤x1.toNat)&&decide (x1.toNat≤x0.length) then none else none else none else bif 0≤x1 then bif decide (0≤x1.toNat)&&decide (x1.toNat≤x0.length) then bif x1.toNat+(x0.length - x1.toNat)≤x0.length then tP10 n (List.take x1.toNat x0++(List.take (min (List.length (List.take x1.toNat (List.drop 0 x0))) (x0.length - x1.toNat)) (List.take x1.toNat (List.drop 0 x0))++List.drop (x1.toNat+min (List.length (List.take x1.toNat (List.drop 0 x0))) (x0.length - x1.toNat)) x0)) (wrap .i64 (x1+ofNat (min (List.length (List.take x1.toNat (List.drop 0 x0))) (x0.length - x1.toNat)))) else none else none else none else none else none else some (x0,())
end
theorem Yoj:∀ n,Xd n=tP1 n∧Xe n=tP5 n∧Z9 n=tP10 n
 | 0=>⟨by funext x0 x1;rw [tP1];exact itr0,by funext x0 x1;rw [tP5];exact itr0,by funext x0 x1;rw [tP10];exact itr0⟩
 | n+1=>by
  obtain⟨h1,h5,h10⟩:=Yoj n
  refine⟨?_,?_,?_⟩
  · funext x0 x1
    rw [Zd2,tP1,Yut,h5]
    rfl
  · funext x0 x1
    rw [Zd3,tP5,h10]
  · funext x0 x1
    rw [Zdw,tP10,h10]
def tR7:Nat→Int→Qy9→Int→Option (List (Int×Unit)×Int×Unit)
 | 0,_,_,_=>none
 | n+1,x0,x1,x2=>bif x2<x0 then bif Zb (x1.length+1) 8 then tR7 n x0 (x1++[((-9223372036854775808),())]) (wrap .i64 (x2+1)) else none else some (x1,0,())
theorem Yok:∀ n,Zga n=tR7 n
 | 0=>by funext x0 x1 x2;rw [tR7];exact itr0
 | n+1=>by
  have h7:=Yok n
  funext x0 x1 x2
  rw [Z4g,tR7,h7]
end Tg

/- Events: what each check says of them. -/
namespace Tg
open Go.Abs (Zb Zj tmm)
abbrev Ev:=Bool×Int×Int×Int×Int×Unit
def tmB (t:Int):Bool:=decide (t ≥ -1099511627776)&&decide (t≤1099511627776)
def zR (e:Ev):Bool:=e.2.2.1==0&&(e.2.2.2.1==0&&(e.2.2.2.2.1==0&&true))
def evOk (e:Ev):Bool:=bif e.1 then zR e&&(tmB e.2.1||e.2.1==9223372036854775807) else e.2.1==0&&tmB e.2.2.2.1
theorem Yuu (t:Int):Zgd t=some (tmB t,()):=by
 rw [Z63]
 unfold tmB
 cases decide (t ≥ -1099511627776) <;> rfl
theorem Z4k (e:Ev):evOk e=evtB e:=by
 unfold evOk evtB zR Zlp
 have h:∀ t,tmB t=Xz t:=fun t=>rfl
 rw [h,h]
 cases e.1 <;> cases (e.2.2.1==0) <;> cases (e.2.2.2.1==0) <;> cases (e.2.2.2.2.1==0) <;> cases (e.2.1==0) <;> cases (e.2.1==9223372036854775807) <;> cases Xz e.2.1 <;> cases Xz e.2.2.2.1 <;> rfl
theorem r25e (e:Ev):Zfb e=some (bif evOk e then 0 else 8,()):=by rw [Z4k];exact Z52 e
theorem mev (e:Ev):Zcc e=some (bif evOk e then 0 else 8,()):=by rw [Z4k];exact Yb9 e

theorem Z1o (l:List Ev)(hl:l.length≤1000):∀ (rest:List Ev) (i n:Nat),l.drop i=rest→i≤l.length→rest.length+1≤n→Zce n l (l.length:Int) (i:Int)=some (bif rest.all evOk then 0 else 8,())
 | [],i,n,h,hi,hn=>by
  obtain⟨m,rfl⟩:∃ m,n=m+1:=⟨n - 1,by simp at hn;omega⟩
  have:=Xg h hi
  simp only [Zor,iG (show ¬ i<l.length by omega),cond_false,List.all_nil,cond_true]
 | e::rest,i,n,h,hi,hn=>by
  obtain⟨m,rfl⟩:∃ m,n=m+1:=⟨n - 1,by simp at hn;omega⟩
  obtain⟨h1,h2,h3⟩:=Yt h
  have ih:=Z1o l hl rest (i+1) m h3 (by omega) (by simp at hn;omega)
  simp only [Zor,iL h1,iN,cond_true,Int.toNat_natCast,h2,Yuu,wS (show i<1000000000000 by omega),ih,List.all_cons]
  unfold evOk zR
  cases e.1 <;> cases (e.2.2.1==0&&(e.2.2.2.1==0&&(e.2.2.2.2.1==0&&true))) <;> cases (e.2.1==0) <;> cases (e.2.1==9223372036854775807) <;> cases tmB e.2.1 <;> cases tmB e.2.2.2.1 <;> rfl
def Zd7 (l:List Ev):Int:=bif decide ((l.length:Int)>60) then 4 else bif l.all evOk then 0 else 8
theorem Yki (l:List Ev):Zpq l=some (Zd7 l,()):=by
 rw [Z3q]
 unfold Zd7
 by_cases h:(l.length:Int)>60
 · simp only [Int.ofNat_eq_natCast,dT h,cond_true]
 · obtain⟨n,hn⟩:=Xc
   simp only [Int.ofNat_eq_natCast,dF h,cond_false]
   exact Z1o l (by omega) l 0 fuel rfl (by omega) (by rw [hn];omega)
end Tg

/- Plans: the steps, and that a plan that was made is right. -/
namespace Tg
open Go.Abs (Zb Zj tmm)
theorem Zcy {α:Type}{b:Nat}{l:List α}(h:l.length≤1000000)(hb:b≤1000):Zj b l=some (l,()):=by
 unfold Zj
 rw [Zay h hb,cond_true]
def Z4l (w k j s:Bool):List (Int×Unit) :=
 [(1,()),(2,())]++(bif w then [(3,())] else [])++[(4,())]++(bif k then [(5,())] else [])++[(6,())]++(bif j then [(8,())] else [(7,())])++[(9,())]++(bif s then [(10,())] else [])
theorem ps_w (w k j:Bool)(l:Int):Zey fuel j k l (bif w then [(1,()),(2,())]++[(3,())] else [(1,()),(2,())])=(bif l==2 then some (Z4l w k j true,()) else some (Z4l w k j false,())):=by
 obtain⟨n,hn⟩:=Xc
 rw [hn,show n+1000000000000=(n+999999999997)+1+1+1 from rfl,Zzb]
 cases w <;> cases k <;> cases j <;> simp [Zzc,Zzd,Z4l,Zb,Go.Abs.Yq,Go.maxLen, *]
theorem Zj9 (w k j s:Bool):(Z4l w k j s).length≤20:=by
 cases w <;> cases k <;> cases j <;> cases s <;> decide
theorem Yuv (q:Qr):∃ s,Zju q=some (s,())∧s.length≤20:=by
 have h:=ps_w (decide (Int.ofNat q.2.2.2.2.1.length>0)) q.2.2.2.2.2.2.2.2.1 q.2.2.2.1 q.2.2.2.2.2.2.2.2.2.1
 rw [Z3r]
 generalize decide (Int.ofNat q.2.2.2.2.1.length>0)=w at h ⊢
 cases w with
 | true =>
  simp only [cond_true] at h ⊢
  rw [h]
  cases (q.2.2.2.2.2.2.2.2.2.1==2) with
  | true=>exact⟨_,rfl,Zj9 _ _ _ _⟩
  | false=>exact⟨_,rfl,Zj9 _ _ _ _⟩
 | false =>
  simp only [cond_false] at h ⊢
  rw [h]
  cases (q.2.2.2.2.2.2.2.2.2.1==2) with
  | true=>exact⟨_,rfl,Zj9 _ _ _ _⟩
  | false=>exact⟨_,rfl,Zj9 _ _ _ _⟩
theorem Q4 (x:Int):(x != x)=false:=by simp
theorem Yc8 (l:List (Int×Unit))(hl:l.length≤1000):∀ (rest:List (Int×Unit)) (i n:Nat),l.drop i=rest→i≤l.length→rest.length+1≤n→Yc n l l (l.length:Int) (i:Int)=some (true,())
 | [],i,n,h,hi,hn=>by
  obtain⟨m,rfl⟩:∃ m,n=m+1:=⟨n - 1,by simp at hn;omega⟩
  have:=Xg h hi
  simp only [Zas,iG (show ¬ i<l.length by omega),cond_false]
 | e::rest,i,n,h,hi,hn=>by
  obtain⟨m,rfl⟩:∃ m,n=m+1:=⟨n - 1,by simp at hn;omega⟩
  obtain⟨h1,h2,h3⟩:=Yt h
  have ih:=Yc8 l hl rest (i+1) m h3 (by omega) (by simp at hn;omega)
  simp only [Zas,iL h1,iN,cond_true,cond_false,Int.toNat_natCast,h2,wS (show i<1000000000000 by omega),Q4,ih]
theorem Ym2 {l:List (Int×Unit)}(hl:l.length≤1000):Xw l l=some (true,()):=by
 obtain⟨n,hn⟩:=Xc
 rw [Zfe]
 simp only [Q4,cond_false,Int.ofNat_eq_natCast]
 exact Yc8 l hl l 0 fuel rfl (by omega) (by rw [hn];omega)
theorem Yeu {q:Qr}(h:(chkQ q).2.1=0)(h1:q.2.1.length≤1000)(h2:q.2.2.1.length≤1000)(h3:q.2.2.2.2.1.length≤1000):∃ s,Zub q=some ((s,q),0,())∧Zhd (s,q)=some (0,()):=by
 obtain⟨s,hs,hl⟩:=Yuv q
 refine⟨s,?_,?_⟩
 · rw [Yes]
   simp only [Zn1,Z1e h,cond_false,Zcy (show q.2.1.length≤1000000 by omega) (show 40≤1000 by omega),Zcy (show q.2.2.1.length≤1000000 by omega) (show 8≤1000 by omega),Zcy (show q.2.2.2.2.1.length≤1000000 by omega) (show 40≤1000 by omega)]
   rw [show (q.1,q.2.1,q.2.2.1,q.2.2.2.1,q.2.2.2.2.1,q.2.2.2.2.2)=q from rfl,hs]
 · rw [Z3s]
   simp only [Zn1,Z1e h,cond_false,hs,Ym2 (show s.length≤1000 by omega)]
   rfl
/- the reference's steps: what they are does not matter -/
theorem Ykj (q:Qr)(k:Int):∃ b,Za9 q k=some (b,()):=by
 rw [Znd]
 cases (k==3) <;> cases (k==5) <;> cases (k==7) <;> cases (k==8) <;> cases (k==10) <;> cases decide (k≥1) <;> exact⟨_,rfl⟩
theorem w8 {k:Nat}(h:k≤20):Go.IntKind.wrap Go.IntKind.u8 ((k:Int)+1)=((k+1:Nat):Int):=by
 have:∀ j:Fin 21,Go.IntKind.wrap Go.IntKind.u8 ((j.1:Int)+1)=((j.1+1:Nat):Int):=by decide
 exact this ⟨k,by omega⟩
theorem Znj (q:Qr):∀ (c k n:Nat) (L:List (Int×Unit)),k+c=11→L.length≤100 * k→c<n → ∃ s,Zbr n q.1 q.2.1 q.2.2.1 q.2.2.2.1 q.2.2.2.2.1 q.2.2.2.2.2.1 q.2.2.2.2.2.2.1 q.2.2.2.2.2.2.2.1 q.2.2.2.2.2.2.2.2.1 q.2.2.2.2.2.2.2.2.2.1 L (k:Int)=some (s,())
 | 0,k,n,L,hk,hL,hn=>by
  obtain⟨m,rfl⟩:∃ m,n=m+1:=⟨n - 1,by omega⟩
  simp only [Znf,dF (show ¬ (k:Int)≤10 by omega),cond_false]
  exact⟨_,rfl⟩
 | c+1,k,n,L,hk,hL,hn=>by
  obtain⟨m,rfl⟩:∃ m,n=m+1:=⟨n - 1,by omega⟩
  obtain⟨b,hb⟩:=Ykj q (k:Int)
  have hb' : Za9 (q.1,q.2.1,q.2.2.1,q.2.2.2.1,q.2.2.2.2.1,q.2.2.2.2.2.1,q.2.2.2.2.2.2.1,q.2.2.2.2.2.2.2.1,q.2.2.2.2.2.2.2.2.1,q.2.2.2.2.2.2.2.2.2.1,()) (k:Int)=some (b,()):=hb
  obtain⟨s1,i1⟩:=Znj q c (k+1) m L (by omega) (by omega) (by omega)
  obtain⟨s2,i2⟩:=Znj q c (k+1) m (L++[((k:Int),())]) (by omega) (by simp;omega) (by omega)
  simp only [Znf,dT (show (k:Int)≤10 by omega),cond_true,hb',w8 (show k≤20 by omega),Zay (show L.length+[((k:Int),())].length≤1000000 by simp;omega) (show 1≤1000 by omega),i1,i2]
  cases b
  · exact⟨_,rfl⟩
  · exact⟨_,rfl⟩
theorem Yc9 {q:Qr}(h1:q.2.1.length≤1000)(h2:q.2.2.1.length≤1000)(h3:q.2.2.2.2.1.length≤1000):Zj2 q=some (q,()):=by
 rw [Z4e]
 simp only [Zay (show 0+q.2.1.length≤1000000 by omega) (show 40≤1000 by omega),Zay (show 0+q.2.2.1.length≤1000000 by omega) (show 8≤1000 by omega),Zay (show 0+q.2.2.2.2.1.length≤1000000 by omega) (show 40≤1000 by omega),cond_true]
theorem Yda {q:Qr}(h:(chkQ q).2.1=0)(h1:q.2.1.length≤1000)(h2:q.2.2.1.length≤1000)(h3:q.2.2.2.2.1.length≤1000):∃ s,Zng q=some ((s,q),0,()):=by
 obtain⟨n,hn⟩:=Xc
 obtain⟨s,hs⟩:=Znj q 10 1 fuel [] (by omega) (by simp) (by rw [hn];omega)
 have hs' : Zne q=some (s,()):=(Zzk q).trans hs
 refine⟨s,?_⟩
 rw [Ya0]
 simp only [Zxb,Z1e h,cond_false,hs',Yc9 h1 h2 h3]
end Tg

/- The reference's graph of a plan, told. -/
namespace Tg
open Go.Abs (Zb Zj tmm)
abbrev Op2:=Int×Int×Unit
abbrev Ch5:=Int×Int×Int×Int×Int×Unit
def nums (n:Nat)(k:Int):List Op2:=(List.range n).map fun (i:Nat)=>(k,(i:Int),())
def opsG (n p:Nat)(key join side:Bool):List Op2 :=
 nums n 1++nums n 2++(bif key then nums n 3 else [])++nums p (bif join then 5 else 4)++[(6,0,())]++(bif side then [(7,0,())] else [])
def chG (n p:Nat)(key side:Bool)(room:Int):List Ch5 :=
 let part:Nat:=2 * n+(bif key then n else 0)
 let sink:Nat:=part+p
 ((List.range n).map fun (i:Nat)=>((i:Int),0,((n+i:Nat):Int),0,room,())) ++
 ((List.range n).flatMap fun (i:Nat)=>(((n+i:Nat):Int),0,(bif key then ((2 * n+i:Nat):Int) else (part:Int)),(bif key then 0 else (i:Int)),room,())::(bif side then [(((n+i:Nat):Int),1,((sink+1:Nat):Int),(i:Int),room,())] else [])) ++
 (bif key then ((List.range n).flatMap fun (i:Nat)=>(List.range p).map fun (k:Nat)=>(((2 * n+i:Nat):Int),(k:Int),((part+k:Nat):Int),(i:Int),room,())) else []) ++
 ((List.range p).map fun (k:Nat)=>(((part+k:Nat):Int),0,(sink:Int),(k:Int),room,()))
set_option maxRecDepth 100000 in
theorem Yq9 (n p:Nat)(hn:1≤n∧n≤4)(hp:1≤p∧p≤3)(key join side:Bool)(room:Int) :
    X8 fuel (p:Int) room join (n:Int) key side=some ((opsG n p key join side,chG n p key side room,()),()):=by
  rw [(Yoh fuel).1,Z4j]
  obtain rfl | rfl | rfl | rfl:n=1∨n=2∨n=3∨n=4:=by omega
  all_goals
   obtain rfl | rfl | rfl:p=1∨p=2∨p=3:=by omega
  all_goals
   cases key <;> cases join <;> cases side <;> kernel_rfl
end Tg

/- The reference's tasks and machine, told. -/
namespace Tg
open Go.Abs (Zb Zj tmm)
abbrev low:Int:=-9223372036854775808
abbrev Tk:=Int×Int×Int×List (Int×Int×Int×Int×Int×Int×Int×Int×Int×Int×Int×Unit)×List (Int×Unit)×List (Int×Int×Int×Int×Int×Int×Int×Int×Int×Int×Int×Unit)×List Ev×List Ch5×List (Int×Int×Int×Unit)×Unit
abbrev Inp:=List (List Ev×Unit)
abbrev Qu:=Int×List (Int×Int×Int×Int×Int×Int×Int×Int×Int×Int×Unit)×Unit
def Xi (n:Nat)(inp:Inp)(o:Op2):Tk :=
 bif o.1==1 then (1,o.2.1,0,[],[],[],(inp.getD o.2.1.toNat ([],())).1,[],[],())
 else bif o.1==2 then (2,o.2.1,0,[],[(low,())],[],[],[],[],())
 else bif o.1==3 then (3,o.2.1,0,[],[],[],[],[],[],())
 else bif o.1==4 then (4,o.2.1,0,[],List.replicate n (low,()),[],[],[],[],())
 else bif o.1==5 then (5,o.2.1,0,[],[(low,()),(low,())],[],[],[],[],())
 else bif o.1==7 then (7,0,0,[],[],[],[],[],[],())
 else (6,0,0,[],[],[],[],[],[],())
def okOp (n:Nat)(o:Op2):Prop :=
 (o.1=1∧0≤o.2.1∧o.2.1<(n:Int))∨((o.1=2∨o.1=3)∧0≤o.2.1∧o.2.1<4)∨((o.1=4∨o.1=5)∧0≤o.2.1∧o.2.1<3)∨o.1=6∨o.1=7
instance (n:Nat) (o:Op2):Decidable (okOp n o):=by unfold okOp;infer_instance
theorem Z7q (N:Int)(l:List Ev)(hl:l.length≤1000)(ha:l.all evOk=true):∀ (rest:List Ev) (i n:Nat),l.drop i=rest→i≤l.length→rest.length+1≤n→Zf9 n N l (i:Int)=some ((1,N,0,[],[],[],l,[],[],()),0,())
 | [],i,n,h,hi,hn=>by
  obtain⟨m,rfl⟩:∃ m,n=m+1:=⟨n - 1,by simp at hn;omega⟩
  have:=Xg h hi
  simp only [Zq6,Int.ofNat_eq_natCast,iG (show ¬ i<l.length by omega),cond_false,Zay (show 0+l.length≤1000000 by omega) (show 40≤1000 by omega),cond_true]
 | e::rest,i,n,h,hi,hn=>by
  obtain⟨m,rfl⟩:∃ m,n=m+1:=⟨n - 1,by simp at hn;omega⟩
  obtain⟨h1,h2,h3⟩:=Yt h
  have ih:=Z7q N l hl ha rest (i+1) m h3 (by omega) (by simp at hn;omega)
  have he:evOk e=true:=List.all_eq_true.1 ha e (List.mem_of_getElem? h2)
  simp only [Zq6,Int.ofNat_eq_natCast,iL h1,iN,cond_true,cond_false,Int.toNat_natCast,h2,r25e,he,Q4,wS (show i<1000000000000 by omega),ih]
theorem Ykk {l:List Ev}(h:Zd7 l=0):l.length≤60∧l.all evOk=true:=by
 unfold Zd7 at h
 by_cases h1:(l.length:Int)>60
 · rw [dT h1] at h;cases h
 · rw [dF h1] at h
   refine⟨by omega,?_⟩
   cases ha:l.all evOk with
   | true=>rfl
   | false=>rw [ha] at h;cases h
theorem Yra {N:Int}{l:List Ev}(h1:0≤N)(h2:N<4)(h:Zd7 l=0):Zsc N l=some ((1,N,0,[],[],[],l,[],[],()),0,()):=by
 obtain⟨h3,h4⟩:=Ykk h
 obtain⟨n,hn⟩:=Xc
 rw [Z7d]
 simp only [dF (show ¬ N<0 by omega),dF (show ¬ N≥4 by omega),Int.ofNat_eq_natCast,dF (show ¬ (l.length:Int)>60 by omega),cond_false]
 exact Z7q N l (by omega) h4 l 0 fuel rfl (by omega) (by rw [hn];omega)
set_option maxRecDepth 100000 in
theorem Ykl {n:Nat}(h1:1≤n)(h2:n≤4):Zi1 (n:Int)=some (List.replicate n (low,()),0,()):=by
 rw [Z7h,Yok fuel,Z4j]
 obtain rfl | rfl | rfl | rfl:n=1∨n=2∨n=3∨n=4:=by omega
 all_goals kernel_rfl
theorem Yuw:Zi1 2=some ([(low,()),(low,())],0,()):=Ykl (n:=2) (by omega) (by omega)
def Zq7 (inp:Inp):Prop:=∀ l∈inp,Zd7 l.1=0
theorem Ydb {inp:Inp}(hi:Zq7 inp){N:Int}(h1:0≤N)(h2:N<(inp.length:Int)):∃ l,inp[N.toNat]? = some (l,())∧(inp.getD N.toNat ([],())).1=l∧Zd7 l=0:=by
 have hlt:N.toNat<inp.length:=by omega
 refine⟨inp[N.toNat].1,List.getElem?_eq_getElem hlt,?_,hi _ (List.getElem_mem hlt)⟩
 rw [List.getD_eq_getElem?_getD,List.getElem?_eq_getElem hlt]
 rfl
theorem Ykm {q:Qr}{inp:Inp}(hi:Zq7 inp)(hq:q.2.2.1.length=inp.length)(h1:1≤inp.length)(h4:inp.length≤4){o:Op2}(ho:okOp inp.length o):Zh3 q inp o=some (Xi inp.length inp o,()):=by
 obtain⟨k,N,u⟩:=o
 rw [Zzn]
 unfold Xi
 rcases ho with ⟨e,a,b⟩ | ⟨e | e,a,b⟩ | ⟨e | e,a,b⟩ | e | e
 · simp only at e a b
   subst e
   obtain⟨l,g1,g2,g3⟩:=Ydb hi a b
   simp only [beq_self_eq_true,cond_true,dT a,g1,Yra a (by omega) g3,g2]
 · simp only at e a b
   subst e
   rw [Z7f]
   simp only [dF (show ¬ N<0 by omega),dF (show ¬ N≥4 by omega)]
   rfl
 · simp only at e a b
   subst e
   rw [Z7g]
   simp only [dF (show ¬ N<0 by omega),dF (show ¬ N≥4 by omega)]
   rfl
 · simp only at e a b
   subst e
   rw [Z7i]
   simp only [dF (show ¬ N<0 by omega),dF (show ¬ N≥3 by omega),Int.ofNat_eq_natCast,hq,dF (show ¬ (inp.length:Int)<1 by omega),dF (show ¬ (inp.length:Int)>4 by omega),Ykl h1 h4]
   rfl
 · simp only at e a b
   subst e
   rw [Z7j]
   simp only [dF (show ¬ N<0 by omega),dF (show ¬ N≥3 by omega),Yuw]
   rfl
 · simp only at e
   subst e
   simp only [Zs8]
   rfl
 · simp only at e
   subst e
   simp only [Zs8]
   rfl
def qOf (c:Ch5):Qu:=(c.2.2.2.2.1,[],())
theorem Zq8 {α β:Type}(f:α→β){l:List α}{i:Nat}{e:α}(h:l[i]? = some e):(l.take i).map f++[f e]=(l.take (i+1)).map f:=by
 rw [List.take_add_one,h]
 simp
theorem Zxr (q:Qr)(ops:List Op2)(chs:List Ch5)(ts:List Tk)(hl:chs.length≤1000)(hr:∀ c∈chs,1≤c.2.2.2.2.1∧c.2.2.2.2.1≤8):∀ (rest:List Ch5) (i n:Nat),chs.drop i=rest→i≤chs.length→rest.length+1≤n →
    Zd0 n q.1 q.2.1 q.2.2.1 q.2.2.2.1 q.2.2.2.2.1 q.2.2.2.2.2.1 q.2.2.2.2.2.2.1 q.2.2.2.2.2.2.2.1 q.2.2.2.2.2.2.2.2.1 q.2.2.2.2.2.2.2.2.2.1 ops chs ts ((chs.take i).map qOf) (i:Int) =
     some ((q.1,q.2.1,q.2.2.1,q.2.2.2.1,q.2.2.2.2.1,q.2.2.2.2.2.1,q.2.2.2.2.2.2.1,q.2.2.2.2.2.2.2.1,q.2.2.2.2.2.2.2.2.1,q.2.2.2.2.2.2.2.2.2.1,ops,chs,ts,chs.map qOf,()),())
  | [],i,n,h,hi,hn=>by
   obtain⟨m,rfl⟩:∃ m,n=m+1:=⟨n - 1,by simp at hn;omega⟩
   have:=Xg h hi
   subst this
   simp only [Znh,Int.ofNat_eq_natCast,iG (show ¬ chs.length<chs.length by omega),cond_false,List.take_length]
  | e::rest,i,n,h,hi,hn=>by
   obtain⟨m,rfl⟩:∃ m,n=m+1:=⟨n - 1,by simp at hn;omega⟩
   obtain⟨h1,h2,h3⟩:=Yt h
   have ih:=Zxr q ops chs ts hl hr rest (i+1) m h3 (by omega) (by simp at hn;omega)
   obtain⟨r1,r2⟩:=hr e (List.mem_of_getElem? h2)
   have hn:Zse e.2.2.2.2.1=some (qOf e,0,()):=by
    rw [Z7k]
    simp only [dF (show ¬ e.2.2.2.2.1<1 by omega),dF (show ¬ e.2.2.2.2.1>8 by omega)]
    rfl
   simp only [Znh,Int.ofNat_eq_natCast,iL h1,iN,cond_true,Int.toNat_natCast,h2,hn,Zay (show ((chs.take i).map qOf).length+[qOf e].length≤1000000 by simp;omega) (show 32≤1000 by omega),Zq8 qOf h2,wS (show i<1000000000000 by omega),ih]
theorem Z1p (q:Qr)(inp:Inp)(hi:Zq7 inp)(hq:q.2.2.1.length=inp.length)(g1:1≤inp.length)(g4:inp.length≤4)(ops:List Op2)(chs:List Ch5)(hl:ops.length≤1000)(hl2:chs.length≤1000)(ho:∀ o∈ops,okOp inp.length o)(hr:∀ c∈chs,1≤c.2.2.2.2.1∧c.2.2.2.2.1≤8)(K:Nat)(hK:chs.length+10≤K):∀ (rest:List Op2) (i n:Nat),ops.drop i=rest→i≤ops.length→rest.length+K≤n →
    Ze3 n inp q.1 q.2.1 q.2.2.1 q.2.2.2.1 q.2.2.2.2.1 q.2.2.2.2.2.1 q.2.2.2.2.2.2.1 q.2.2.2.2.2.2.2.1 q.2.2.2.2.2.2.2.2.1 q.2.2.2.2.2.2.2.2.2.1 q.1 q.2.1 q.2.2.1 q.2.2.2.1 q.2.2.2.2.1 q.2.2.2.2.2.1 q.2.2.2.2.2.2.1 q.2.2.2.2.2.2.2.1 q.2.2.2.2.2.2.2.2.1 q.2.2.2.2.2.2.2.2.2.1 ops chs ((ops.take i).map (Xi inp.length inp)) (i:Int) =
     some ((q.1,q.2.1,q.2.2.1,q.2.2.2.1,q.2.2.2.2.1,q.2.2.2.2.2.1,q.2.2.2.2.2.2.1,q.2.2.2.2.2.2.2.1,q.2.2.2.2.2.2.2.2.1,q.2.2.2.2.2.2.2.2.2.1,ops,chs,ops.map (Xi inp.length inp),chs.map qOf,()),())
  | [],i,n,h,hi',hn=>by
   obtain⟨m,rfl⟩:∃ m,n=m+1+1:=⟨n - 2,by simp at hn;omega⟩
   have:=Xg h hi'
   subst this
   have hq:=Zxr q ops chs (ops.map (Xi inp.length inp)) hl2 hr chs 0 m rfl (by omega) (by simp at hn;omega)
   simp only [Zot,Int.ofNat_eq_natCast,iG (show ¬ ops.length<ops.length by omega),cond_false,List.take_length,Zzo]
   exact hq
  | e::rest,i,n,h,hi',hn=>by
   obtain⟨m,rfl⟩:∃ m,n=m+1:=⟨n - 1,by simp at hn;omega⟩
   obtain⟨h1,h2,h3⟩:=Yt h
   have ih:=Z1p q inp hi hq g1 g4 ops chs hl hl2 ho hr K hK rest (i+1) m h3 (by omega) (by simp at hn;omega)
   have hf:=Ykm hi hq g1 g4 (ho e (List.mem_of_getElem? h2))
   have hf' : Zh3 (q.1,q.2.1,q.2.2.1,q.2.2.2.1,q.2.2.2.2.1,q.2.2.2.2.2.1,q.2.2.2.2.2.2.1,q.2.2.2.2.2.2.2.1,q.2.2.2.2.2.2.2.2.1,q.2.2.2.2.2.2.2.2.2.1,()) inp e=some (Xi inp.length inp e,()):=hf
   simp only [Zot,Int.ofNat_eq_natCast,iL h1,iN,cond_true,Int.toNat_natCast,h2,hf',Zay (show ((ops.take i).map (Xi inp.length inp)).length+[Xi inp.length inp e].length≤1000000 by simp;omega) (show 168≤1000 by omega),Zq8 (Xi inp.length inp) h2,wS (show i<1000000000000 by omega),ih]
set_option maxRecDepth 100000 in
theorem Zuc (n p:Nat)(hn:1≤n∧n≤4)(hp:1≤p∧p≤3)(key join side:Bool):(opsG n p key join side).length≤20 ∧ ∀ o∈opsG n p key join side,okOp n o:=by
 obtain rfl | rfl | rfl | rfl:n=1∨n=2∨n=3∨n=4:=by omega
 all_goals
  obtain rfl | rfl | rfl:p=1∨p=2∨p=3:=by omega
 all_goals
  cases key <;> cases join <;> cases side <;> decide
set_option maxRecDepth 100000 in
theorem Z4m (n p:Nat)(hn:1≤n∧n≤4)(hp:1≤p∧p≤3)(key side:Bool)(room:Int):(chG n p key side room).length≤100 ∧ ∀ c∈chG n p key side room,c.2.2.2.2.1=room:=by
 constructor
 · obtain rfl | rfl | rfl | rfl:n=1∨n=2∨n=3∨n=4:=by omega
   all_goals
    obtain rfl | rfl | rfl:p=1∨p=2∨p=3:=by omega
   all_goals
    cases key <;> cases side <;> exact Nat.le_of_ble_eq_true rfl
 · intro c hc
   unfold chG at hc
   simp only [List.mem_append,List.mem_map,List.mem_flatMap,List.mem_cons] at hc
   rcases hc with ((⟨i,_,rfl⟩ | ⟨i,_,h⟩) | h) | ⟨i,_,rfl⟩
   · rfl
   · rcases h with rfl | h
     · rfl
     · cases side with
       | false=>simp at h
       | true=>simp at h;subst h;rfl
   · cases key with
     | false=>simp at h
     | true =>
      simp only [cond_true,List.mem_flatMap,List.mem_map] at h
      obtain⟨i,_,k,_,rfl⟩:=h
      rfl
   · rfl
end Tg

/- The code's graph of a plan, told. -/
namespace Tg
open Go.Abs (Zb Zj tmm)
set_option maxRecDepth 100000 in
theorem Ym3 (n p:Nat)(hn:1≤n∧n≤4)(hp:1≤p∧p≤3)(key join side:Bool)(room:Int) :
    Q3 fuel 1 [] (n:Int) 0 (p:Int) join key (bif side then 2 else 1) room (n:Int)=some ((opsG n (bif key then p else 1) key join side,chG n (bif key then p else 1) key side room,()),0,()):=by
  rw [(Yoi fuel).2.1,Z4j]
  obtain rfl | rfl | rfl | rfl:n=1∨n=2∨n=3∨n=4:=by omega
  all_goals
   obtain rfl | rfl | rfl:p=1∨p=2∨p=3:=by omega
  all_goals
   cases key <;> cases join <;> cases side <;> kernel_rfl
theorem Z7r {q:Qr}(h:(chkQ q).2.1=0):chkC q=0:=by
 unfold chkQ at h
 cases hc:(chkC q==0) with
 | true=>simpa using hc
 | false=>rw [hc] at h;exact h
theorem Yev {q:Qr}(h:chkC q=0):q.2.2.2.2.2.2.2.2.2.1=1∨q.2.2.2.2.2.2.2.2.2.1=2:=by
 unfold chkC at h
 by_cases h1:q.2.2.2.2.2.2.2.2.2.1<1
 · rw [dT h1] at h
   simp at h
 · by_cases h2:q.2.2.2.2.2.2.2.2.2.1>2
   · rw [dT h2] at h
     simp at h
   · omega
theorem Zn2 {q:Qr}(h:chkC q=0):srcE q.2.2.1 q.2.2.2.1=0:=by
 have ht:Zs6 q=0→srcE q.2.2.1 q.2.2.2.1=0:=fun h=>by
  unfold Zs6 at h
  cases hs:(srcE q.2.2.1 q.2.2.2.1==0) with
  | true=>simpa using hs
  | false=>rw [hs] at h;exact h
 have hw:Zig q=0→srcE q.2.2.1 q.2.2.2.1=0:=fun h=>by
  unfold Zig at h
  cases hc:(decide ((q.2.2.2.2.1.length:Int)>0)&&errN q.2.2.2.2.1 != 0) with
  | true =>
   rw [hc] at h
   have h:errN q.2.2.2.2.1=0:=h
   rw [h] at hc
   simp at hc
  | false=>rw [hc] at h;exact ht h
 unfold chkC at h
 cases hb:(decide (q.1<1)||(decide (q.1>4)||(decide (q.2.2.2.2.2.2.2.2.2.1<1)||decide (q.2.2.2.2.2.2.2.2.2.1>2)))) with
 | true=>rw [hb] at h;simp at h
 | false =>
  rw [hb] at h
  simp only [cond_false] at h
  cases h1:(q.1==1) with
  | true =>
   rw [h1] at h
   simp only [cond_true] at h
   by_cases h0:(q.2.1.length:Int)>0
   · rw [dT h0] at h;simp at h
   · rw [dF h0] at h;exact hw h
  | false =>
   rw [h1] at h
   simp only [cond_false] at h
   by_cases he:errN q.2.1=0
   · rw [Z1e he] at h;exact hw h
   · rw [Yto he] at h;exact absurd h he
theorem Zq9 {l:IL}{j:Bool}(h:srcE l j=0):1≤l.length∧l.length≤4:=by
 unfold srcE at h
 split at h
 · cases h
 · split at h
   · cases h
   · omega
end Tg

/- The code's new tasks, told. -/
namespace Tg
open Go.Abs (Zb Zj tmm)
theorem Z1q (N:Int)(l:List Ev)(hl:l.length≤1000)(ha:l.all evOk=true):∀ (rest:List Ev) (i n:Nat),l.drop i=rest→i≤l.length→rest.length+1≤n→Zdv n l (l.length:Int) (i:Int) N l=some ((1,N,0,[],[],[],l,[],[],()),0,())
 | [],i,n,h,hi,hn=>by
  obtain⟨m,rfl⟩:∃ m,n=m+1:=⟨n - 1,by simp at hn;omega⟩
  have:=Xg h hi
  simp only [Znc,iG (show ¬ i<l.length by omega),cond_false,Zcy (show l.length≤1000000 by omega) (show 40≤1000 by omega)]
 | e::rest,i,n,h,hi,hn=>by
  obtain⟨m,rfl⟩:∃ m,n=m+1:=⟨n - 1,by simp at hn;omega⟩
  obtain⟨h1,h2,h3⟩:=Yt h
  have ih:=Z1q N l hl ha rest (i+1) m h3 (by omega) (by simp at hn;omega)
  have he:evOk e=true:=List.all_eq_true.1 ha e (List.mem_of_getElem? h2)
  simp only [Znc,iL h1,iN,cond_true,cond_false,Int.toNat_natCast,h2,mev,he,Q4,wS (show i<1000000000000 by omega),ih]
theorem Ym4 {N:Int}{l:List Ev}(h1:0≤N)(h2:N<4)(h:Zd7 l=0):Zpr N l=some ((1,N,0,[],[],[],l,[],[],()),0,()):=by
 obtain⟨h3,h4⟩:=Ykk h
 obtain⟨n,hn⟩:=Xc
 rw [Z4a]
 simp only [dF (show ¬ N<0 by omega),dF (show ¬ N≥4 by omega),Int.ofNat_eq_natCast,dF (show ¬ (l.length:Int)>60 by omega),cond_false]
 exact Z1q N l (by omega) h4 l 0 fuel rfl (by omega) (by rw [hn];omega)
theorem Yrb {N:Int}(h1:0≤N)(h2:N<4):Zps N=some ((2,N,0,[],[(low,())],[],[],[],[],()),0,()):=by
 rw [Z4d]
 simp only [dF (show ¬ N<0 by omega),dF (show ¬ N≥4 by omega)]
 rfl
theorem Yrc {N:Int}(h1:0≤N)(h2:N<4):Zxc N=some ((3,N,0,[],[],[],[],[],[],()),0,()):=by
 rw [Yax]
 simp only [dF (show ¬ N<0 by omega),dF (show ¬ N≥4 by omega)]
 rfl
set_option maxRecDepth 100000 in
theorem Ykn {n:Nat}(h1:1≤n)(h2:n≤4):Zi0 (n:Int)=some (List.replicate n (low,()),0,()):=by
 rw [Z66,Zel,(Yoj fuel).1,Z4j]
 obtain rfl | rfl | rfl | rfl:n=1∨n=2∨n=3∨n=4:=by omega
 all_goals kernel_rfl
theorem Yux:Zi0 2=some ([(low,()),(low,())],0,()):=Ykn (n:=2) (by omega) (by omega)
theorem Yrd {N:Int}(h1:0≤N)(h2:N<3):Zxd N=some ((5,N,0,[],[(low,()),(low,())],[],[],[],[],()),0,()):=by
 rw [Yay]
 simp only [dF (show ¬ N<0 by omega),dF (show ¬ N≥3 by omega),Yux]
 rfl
theorem Yre {N:Int}(h1:0≤N)(h2:N<3){n:Nat}(g1:1≤n)(g2:n≤4):Z4c N (n:Int)=some ((4,N,0,[],List.replicate n (low,()),[],[],[],[],()),0,()):=by
 rw [Yet]
 simp only [Ykn g1 g2,dF (show ¬ N<0 by omega),dF (show ¬ N≥3 by omega),Q4,cond_false]
theorem Yrf {N:Int}(h1:1≤N)(h2:N≤8):Zh2 N=some ((N,[],()),0,()):=by
 rw [Zzj]
 simp only [dF (show ¬ N<1 by omega),dF (show ¬ N>8 by omega)]
 rfl
end Tg

/- What the reference's builder answers, told. -/
namespace Tg
open Go.Abs (Zb Zj tmm)
abbrev Mc:=Mch
theorem has5 (q:Qr):Za9 q 5=some (q.2.2.2.2.2.2.2.2.1,()):=by
 rw [Znd]
 rfl
theorem Yuy (q:Qr):Za9 q 10=some (q.2.2.2.2.2.2.2.2.2.1==2,()):=by
 rw [Znd]
 rfl
def zM:Mc:=(0,[],[],false,[],0,0,0,false,0,[],[],[],[],())
def Zbc:Inp→Int
 | []=>0
 | l::ls=>bif Zd7 l.1 != 0 then Zd7 l.1 else Zbc ls
def prE (p r:Int):Int:=bif decide (p<1) then 2 else bif decide (p>3) then 2 else bif decide (r<1) then 2 else bif decide (r>8) then 2 else 0
def askE (q:Qr)(inp:Inp)(p r:Int):Int:=bif (chkQ q).2.1 != 0 then (chkQ q).2.1 else bif (inp.length:Int) != (q.2.2.1.length:Int) then 2 else bif Zbc inp != 0 then Zbc inp else prE p r
theorem Zsf:∀ {inp:Inp},Zbc inp=0→Zq7 inp
 | [],_=>fun _ h=>by simp at h
 | l::ls,h=>by
  unfold Zbc at h
  cases hl:(Zd7 l.1 != 0) with
  | true =>
   rw [hl] at h
   have h:Zd7 l.1=0:=h
   rw [h] at hl
   cases hl
  | false =>
   rw [hl] at h
   have ih:=Zsf (inp:=ls) h
   intro x hx
   rcases List.mem_cons.1 hx with rfl | hx
   · simpa using hl
   · exact ih x hx
theorem prE0 {p r:Int}(h:prE p r=0):1≤p∧p≤3∧1≤r∧r≤8:=by
 unfold prE at h
 by_cases h1:p<1
 · rw [dT h1] at h;cases h
 · by_cases h2:p>3
   · rw [dF h1,dT h2] at h;cases h
   · by_cases h3:r<1
     · rw [dF h1,dF h2,dT h3] at h;cases h
     · by_cases h4:r>8
       · rw [dF h1,dF h2,dF h3,dT h4] at h;cases h
       · omega
def partsOf (q:Qr)(p:Int):Nat:=bif q.2.2.2.2.2.2.2.2.1 then p.toNat else 1
def mOf (q:Qr)(inp:Inp)(p r:Int):Mc :=
 (q.1,q.2.1,q.2.2.1,q.2.2.2.1,q.2.2.2.2.1,q.2.2.2.2.2.1,q.2.2.2.2.2.2.1,q.2.2.2.2.2.2.2.1,q.2.2.2.2.2.2.2.2.1,q.2.2.2.2.2.2.2.2.2.1,
  opsG inp.length (partsOf q p) q.2.2.2.2.2.2.2.2.1 q.2.2.2.1 (q.2.2.2.2.2.2.2.2.2.1==2),chG inp.length (partsOf q p) q.2.2.2.2.2.2.2.2.1 (q.2.2.2.2.2.2.2.2.2.1==2) r,
  (opsG inp.length (partsOf q p) q.2.2.2.2.2.2.2.2.1 q.2.2.2.1 (q.2.2.2.2.2.2.2.2.2.1==2)).map (Xi inp.length inp),(chG inp.length (partsOf q p) q.2.2.2.2.2.2.2.2.1 (q.2.2.2.2.2.2.2.2.2.1==2) r).map qOf,())
theorem Yuz {q:Qr}{inp:Inp}{p r:Int}(h:askE q inp p r=0):(chkQ q).2.1=0∧inp.length=q.2.2.1.length∧Zq7 inp∧Zbc inp=0∧(1≤p∧p≤3∧1≤r∧r≤8)∧(1≤inp.length∧inp.length≤4):=by
 unfold askE at h
 cases h1:((chkQ q).2.1 != 0) with
 | true =>
  rw [h1] at h
  have h:(chkQ q).2.1=0:=h
  rw [h] at h1;cases h1
 | false =>
  have e1:(chkQ q).2.1=0:=by simpa using h1
  rw [h1] at h
  cases h2:((inp.length:Int) != (q.2.2.1.length:Int)) with
  | true=>rw [h2] at h;cases h
  | false =>
   have e2:inp.length=q.2.2.1.length:=by
    have:(inp.length:Int)=(q.2.2.1.length:Int):=by simpa using h2
    omega
   rw [h2] at h
   cases h3:(Zbc inp != 0) with
   | true =>
    rw [h3] at h
    have h:Zbc inp=0:=h
    rw [h] at h3;cases h3
   | false =>
    have e3:Zbc inp=0:=by simpa using h3
    rw [h3] at h
    have h5:=Zq9 (Zn2 (Z7r e1))
    exact⟨e1,e2,Zsf e3,e3,prE0 h,by rw [e2];exact h5⟩
theorem Zka (q:Qr){p:Int}(h:1≤p∧p≤3):1≤partsOf q p∧partsOf q p≤3:=by
 unfold partsOf
 cases q.2.2.2.2.2.2.2.2.1 with
 | true=>simp only [cond_true];omega
 | false=>simp only [cond_false];omega
theorem Ydc {n P:Nat}(hn:1≤n∧n≤4)(hP:1≤P∧P≤3){x m:Int}(hx:x=(P:Int))(hm:m=(n:Int))(key join side:Bool)(room:Int) :
    X8 fuel x room join m key side=some ((opsG n P key join side,chG n P key side room,()),()):=by
  subst hx
  subst hm
  exact Yq9 n P hn hP key join side room
theorem Yrg {n:Nat}(hn:1≤n∧n≤4){p m:Int}(p1:1≤p)(p2:p≤3)(hm:m=(n:Int))(key join side:Bool)(r:Int) :
    (bif !key then X8 fuel 1 r join m key side else X8 fuel p r join m key side)=some ((opsG n (bif key then p.toNat else 1) key join side,chG n (bif key then p.toNat else 1) key side r,()),()):=by
  cases key with
  | true =>
   have h:=Ydc hn (P:=p.toNat) ⟨by omega,by omega⟩ (show p=(p.toNat:Int) by omega) hm true join side r
   rw [Bool.not_true,cond_false,cond_true]
   exact h
  | false =>
   have h:=Ydc hn (P:=1) ⟨Nat.le_refl _,by omega⟩ (show (1:Int)=((1:Nat):Int) from rfl) hm false join side r
   rw [Bool.not_false,cond_true,cond_false]
   exact h
theorem Yko {q:Qr}{inp:Inp}(s:List (Int×Unit))(e2:inp.length=q.2.2.1.length)(n1:1≤inp.length)(n2:inp.length≤4){p:Int}(p1:1≤p)(p2:p≤3)(r:Int) :
    Zj3 (s,q) p r=some ((opsG inp.length (partsOf q p) q.2.2.2.2.2.2.2.2.1 q.2.2.2.1 (q.2.2.2.2.2.2.2.2.2.1==2),chG inp.length (partsOf q p) q.2.2.2.2.2.2.2.2.1 (q.2.2.2.2.2.2.2.2.2.1==2) r,()),()):=by
  have hm:Int.ofNat q.2.2.1.length=(inp.length:Int):=by rw [e2];rfl
  rw [Z4f]
  have h5:Za9 (s,q).2 5=some (q.2.2.2.2.2.2.2.2.1,()):=has5 q
  have h10:Za9 (s,q).2 10=some (q.2.2.2.2.2.2.2.2.2.1==2,()):=Yuy q
  rw [h5,h10]
  exact Yrg ⟨n1,n2⟩ p1 p2 hm _ _ _ _
theorem Ym5 {q:Qr}{inp:Inp}{p r:Int}(h:askE q inp p r=0)(h1:q.2.1.length≤1000)(h2:q.2.2.1.length≤1000)(h3:q.2.2.2.2.1.length≤1000):Zj4 q inp p r=some (mOf q inp p r,()):=by
 obtain⟨e1,e2,e3,_,⟨p1,p2,r1,r2⟩,n1,n2⟩:=Yuz h
 obtain⟨s,hs⟩:=Yda e1 h1 h2 h3
 obtain⟨P1,P2⟩:=Zka q ⟨p1,p2⟩
 have hg:=Yko s e2 n1 n2 p1 p2 r
 obtain⟨o1,o2⟩:=Zuc inp.length (partsOf q p) ⟨n1,n2⟩ ⟨P1,P2⟩ q.2.2.2.2.2.2.2.2.1 q.2.2.2.1 (q.2.2.2.2.2.2.2.2.2.1==2)
 obtain⟨c1,c2⟩:=Z4m inp.length (partsOf q p) ⟨n1,n2⟩ ⟨P1,P2⟩ q.2.2.2.2.2.2.2.2.1 (q.2.2.2.2.2.2.2.2.2.1==2) r
 obtain⟨n,hn⟩:=Xc
 rw [Z4h]
 simp only [hs,Yc9 h1 h2 h3,hg]
 have hm:=Z1p q inp e3 e2.symm n1 n2 _ _ (by omega) (by omega) o2 (fun c hc=>by rw [c2 c hc];exact⟨r1,r2⟩) ((chG inp.length (partsOf q p) q.2.2.2.2.2.2.2.2.1 (q.2.2.2.2.2.2.2.2.2.1==2) r).length+10) (Nat.le_refl _) (opsG inp.length (partsOf q p) q.2.2.2.2.2.2.2.2.1 q.2.2.2.1 (q.2.2.2.2.2.2.2.2.2.1==2)) 0 fuel rfl (by omega) (by rw [hn];omega)
 rw [List.take_zero,List.map_nil,show ((0:Nat):Int)=0 from rfl] at hm
 exact hm
end Tg
