import Derived.Test.YtfnhchmemplhaaaGreatMJ
import Derived.Test.YtfnhchmemplhaaaGreatPK
/- Functions of the code, told plainly and checked by the kernel. -/
set_option linter.unusedVariables false
set_option linter.unusedSimpArgs false
set_option maxRecDepth 100000
namespace Tg
open Go.Abs hiding fuel
open Go.Proofs.Tryz (prog)
open Int (ofNat toNat)
open Go.IntKind (wrap)
noncomputable def tab4:Tb:=[(5,con5),(6,con6p),(13,con13p),(14,con14),(15,con15),(16,con16),(17,con17),(18,con18),(19,con19),(12,con12)]
def F4:TFun:=⟨[],[],[.a [.int .u8,.sl [.int .u8,.int .i64,.int .i64,.int .i64,.int .i64],.sl [.int .i64],.bool,.sl [.int .u8,.int .i64,.int .i64,.int .i64,.int .i64],.int .u8,.int .i64,.int .i64,.bool,.int .u8,.sl [.int .u8,.int .i64],.sl [.int .i64,.int .i64,.int .i64,.int .i64,.int .i64],.sl [.int .u8,.int .i64,.int .i64,.sl [.int .i64,.int .u8,.int .i64,.int .i64,.int .i64,.int .i64,.int .i64,.int .i64,.int .i64,.int .i64,.int .i64],.sl [.int .i64],.sl [.int .i64,.int .i64,.int .i64,.int .i64,.int .i64,.int .i64,.int .i64,.int .i64,.int .i64,.int .i64,.int .i64],.sl [.bool,.int .i64,.int .i64,.int .i64,.int .i64],.sl [.int .i64,.int .i64,.int .i64,.int .i64,.int .i64],.sl [.int .i64,.int .i64,.int .i64]],.sl [.int .i64,.sl [.int .u8,.int .i64,.int .i64,.int .i64,.int .i64,.int .i64,.int .i64,.int .i64,.int .i64,.int .i64]]],.c di],[.c (.p db)],qc [qn 4,qb,qn 82],[],[],0⟩
noncomputable def con4:=mkC tab4 prog 4 F4
theorem ok4:con4.ok prog 4:=mkO ⟨ok5,ok6p,ok13p,ok14,ok15,ok16,ok17,ok18,ok19,ok12,trivial⟩ (by kernel_rfl)
noncomputable def law38_EnabledTells (a0:(Int×List (Int×Int×Int×Int×Int×Unit)×List (Int×Unit)×Bool×List (Int×Int×Int×Int×Int×Unit)×Int×Int×Int×Bool×Int×List (Int×Int×Unit)×List (Int×Int×Int×Int×Int×Unit)×List (Int×Int×Int×List (Int×Int×Int×Int×Int×Int×Int×Int×Int×Int×Int×Unit)×List (Int×Unit)×List (Int×Int×Int×Int×Int×Int×Int×Int×Int×Int×Int×Unit)×List (Bool×Int×Int×Int×Int×Unit)×List (Int×Int×Int×Int×Int×Unit)×List (Int×Int×Int×Unit)×Unit)×List (Int×List (Int×Int×Int×Int×Int×Int×Int×Int×Int×Int×Unit)×Unit)×Unit))(a1:Int):Option (Bool×Unit):=con4.fn (a0,a1,())
theorem law38_EnabledTells_c a0 a1:Eq (law38_EnabledTells a0 a1) <| (ref35_Great a0).bind fun e0=>bif e0.1 then some (true,()) else (ref35_Twin a0).bind fun e1=>(enabled_All e1.1).bind fun e2=>(ref38_All a0).bind fun e3=>(enabled_Left e1.1).bind fun e4=>(ref38_Left a0).bind fun e5=>(enabled_First e1.1 a1).bind fun e6=>(ref38_First a0 a1).bind fun e7=>(law38_same e2.1 e3.1).bind fun e8=>let k1:=some (false,());bif e8.1 then bif e2.2.1==e3.2.1 then bif e4.1.1==e5.1.1&&(e4.1.2.1==e5.1.2.1&&(e4.1.2.2.1==e5.1.2.2.1&&true)) then bif e4.2.1==e5.2.1 then bif e6.1==e7.1 then bif e6.2.1==e7.2.1 then (ref35_Same e1.1 a0).bind fun e9=>some (e9.1,()) else k1 else k1 else k1 else k1 else k1 else k1:=mkE (by kernel_rfl)
end Tg

/- The law of EnabledTells in plain words. -/
namespace Tg
open Go
theorem qok (q:Qry):∃ b,QOk q b:=by
 refine⟨(chkQ q).2.1==0,⟨⟨(chkQ q).1,(chkQ q).2.1,checks_eq q,rfl⟩,?_⟩⟩
 rw [ref29_Accepted_c,rchecks_eq]
theorem law_w (m:Mch)(from_:Int):law38_EnabledTells m from_=some (true,()):=by
 obtain⟨g,hg,hb⟩:=great35 m
 rw [law38_EnabledTells_c,hg]
 cases g with
 | true=>rfl
 | false =>
  have hm:=hb rfl
  obtain⟨b,hq⟩:=qok (mQ m)
  have hr:=rcheck_w m b hq hm
  obtain⟨x,x1,x2⟩:=First_w hq hr hm from_
  obtain⟨y,y1,y2⟩:=Left_w hq hr hm
  have ht:=hm.tl
  have ha:=ables_len (m:=m)
  have hs:law38_same (bif mchB b m then ablesL m else []) (bif mchB b m then ablesL m else [])=some (true,()):=by
   cases mchB b m with
   | true=>exact ints_r (by simp only [cond_true];omega)
   | false=>exact ints_r (by simp)
  rw [twin35 hm]
  simp only [Option.bind_some,cond_false,All_w hq hm,rAll_w hr hm,x1,x2,y1,y2,hs,same35 hm,beq_self_eq_true,Bool.and_true,cond_true]
end Tg

/- The law EnabledTells from the contracts of its functions. -/
namespace Tg
open Go.Abs
theorem etSpec:∀ pas,POKAs con4.args pas→Spec Go.Proofs.Tryz.prog 4 pas [.c (.c (.bool true))]:=law_of ok4 fun a _=>law_w a.1 a.2.1
end Tg
