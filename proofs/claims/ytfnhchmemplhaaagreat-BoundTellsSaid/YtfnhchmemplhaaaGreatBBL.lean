import Derived.Test.YtfnhchmemplhaaaGreatBBS
import Derived.Test.YtfnhchmemplhaaaGreatBMJ
/- Functions of the code, told plainly and checked by the kernel. -/
set_option linter.unusedVariables false
set_option linter.unusedSimpArgs false
set_option maxRecDepth 100000
namespace Tg
open Go.Abs hiding fuel
open Go.Proofs.Tryz (prog)
open Int (ofNat toNat)
open Go.IntKind (wrap)
noncomputable def tab3:Tb:=[(5,con5),(6,Ygr),(7,Ydu),(8,con8),(9,con9),(10,Ydw),(11,Z6z),(12,Yat)]
def F3:TFun:=⟨[],[],[.a Uq2],[.c (.p db)],qc [qn 2,qb,qn 65],[],[],0⟩
noncomputable def con3:=mkC tab3 prog 3 F3
theorem ok3:con3.ok prog 3:=mkO ⟨ok5,ok6p,ok7p,ok8,ok9,ok10,ok11,ok12,trivial⟩ (by kernel_rfl)
noncomputable def Zhn (a0:Uy2):Option (Bool×Unit):=con3.fn (a0,())
theorem Znz a0:Eq (Zhn a0) <| (Zj0 a0).bind fun e0=>bif e0.1 then some (true,()) else (Zno a0).bind fun e1=>(Zbv e1.1).bind fun e2=>(Zea a0).bind fun e3=>(Zgu e1.1).bind fun e4=>(Zgv a0).bind fun e5=>(Q3 e2.1 e3.1).bind fun e6=>let k1:=some (false,());bif e6.1 then (Q3 e2.2.1 e3.2.1).bind fun e7=>bif e7.1 then bif e2.2.2.1==e3.2.2.1 then bif e4.1==e5.1 then bif e4.2.1==e5.2.1 then (Znl e1.1 a0).bind fun e8=>some (e8.1,()) else k1 else k1 else k1 else k1 else k1:=mkE (by kernel_rfl)
end Tg

/- The law of BoundTells in plain words. -/
namespace Tg
open Go
theorem Yd3 {l:List (Int×Unit)}(h:l.length≤1000000):Q3 l l=some (true,()):=by
 have:=Yji h
 rw [Zoo] at this
 obtain⟨⟨b,u⟩,hx,he⟩:=Option.bind_eq_some_iff.1 this
 rw [hx]
 have:b=true:=congrArg (fun y:Bool×Unit=>y.1) (Option.some.inj he)
 rw [this]
theorem Ygh (m:Mch):Zhn m=some (true,()):=by
 obtain⟨g,hg,hb⟩:=Yfr m
 rw [Znz,hg]
 cases g with
 | true=>rfl
 | false =>
  have hm:=hb rfl
  have hq:QOk (mQ m) ((chkQ (mQ m)).2.1==0):=by
   refine⟨⟨(chkQ (mQ m)).1,(chkQ (mQ m)).2.1,Z8y (mQ m),rfl⟩,?_⟩
   rw [Zpz,Z5t]
  have hr:=Yde m _ hq hm
  have hc:=Yfq m _ hq hm
  rw [Option.bind_some,Yjd hm]
  simp only [cond_false,Option.bind_some]
  cases h:mchB ((chkQ (mQ m)).2.1==0) m with
  | false =>
   rw [h] at hr hc
   have p1:Zbv m=some ([],[],8,()):=by rw [Ziy,hc];rfl
   have p2:Zea m=some ([],[],8,()):=by rw [Zja,hr];rfl
   have p3:Zgu m=some (0,8,()):=by rw [Zm3,p1];rfl
   have p4:Zgv m=some (0,8,()):=by rw [Zm9,hr];rfl
   rw [p1,p2,p3,p4]
   simp only [Option.bind_some,Yd3 (l:=[]) (by simp),Ydf hm,beq_self_eq_true,cond_true]
  | true =>
   rw [h] at hr hc
   obtain⟨r,hv⟩:=Yjq h
   have htk:∀ i t,(mT m)[i]? = some t→Tok m i t:=fun i t ht=>Yjs h ht
   have hl:=hv.chs
   have p1:=Z3d hv hc
   have p2:Zea m=some (rowW m false,rowW m true,0,()):=by rw [Zja,hr,cond_true,Option.bind_some,Yd2 hv];rfl
   have p3:=Yjr hv hm hc
   have p4:Zgv m=some (Wr (0+sumI (vQ m) 0 (mU m)+sumI (vR m) 0 (mT m)),0,()):=by rw [Zm9,hr,cond_true,Option.bind_some,rSum hv hm htk];rfl
   have hs:Wr (0+sumI (vQ m) 0 (mU m)+sumI (vC m) 0 (mG m).2.1+sumI vS 0 (mT m))=Wr (0+sumI (vQ m) 0 (mU m)+sumI (vR m) 0 (mT m)):=by
    rw [Int.add_assoc,Ygg hv htk]
   rw [p1,p2,p3,p4,hs]
   have r1:∀ mk,Q3 (rowW m mk) (rowW m mk)=some (true,()):=fun mk=>Yd3 (by rw [rowW,Zlr];omega)
   simp only [Option.bind_some,r1,Ydf hm,beq_self_eq_true,cond_true]
end Tg

/- The law BoundTells from the contracts of its functions. -/
namespace Tg
open Go.Abs
theorem Yjw:∀ pas,POKAs con3.args pas→Spec Go.Proofs.Tryz.prog 3 pas [.c (.c (.bool true))]:=Yh4 ok3 fun a _=>Ygh a.1
end Tg
