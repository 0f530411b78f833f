import Derived.Test.YtijadjbnapojfaaGreatDoorAAL
import Derived.Test.YtijadjbnapojfaaGreatDoorAME
import Derived.Test.YtijadjbnapojfaaGreatDoorAPK
/- Functions of the code, told plainly and checked by the kernel. -/
set_option linter.unusedVariables false
set_option linter.unusedSimpArgs false
set_option maxRecDepth 100000
namespace Tg
noncomputable section
open Go.Abs hiding fuel
open Go.Proofs.Tryz (prog)
open Int (ofNat toNat)
open Go.IntKind (wrap)
def tab6:Tb:=[(14,Yc1),(15,Yez)]
def F6:TFun:=⟨[],[],[.a Wq1],[.c (.p db)],qc [qn 2,qb,qn 8],[],[],0⟩
def con6:=mkC tab6 prog 6 F6
theorem ok6:con6.ok prog 6:=mkO ⟨ok14,ok15,trivial⟩
def Zlk (a0:Wy1):Option (Bool×Unit):=con6.fn (a0,())
theorem Z3u a0:Eq (Zlk a0) <| (Zjd a0).bind fun e0=>bif !e0.1 then (Zkq a0).bind fun e1=>some (e1.1==0,()) else some (false,()):=mkE
def tab4:Tb:=[(5,con5),(6,con6),(7,Z82),(10,Z3i),(9,con9)]
def F4:TFun:=⟨[13],[(13,qc [qn 1,qi,[.boxN 35 14 [.p (.int .u8),.p (.sl Wq4),.p (.sl [.int .i64]),.p db,.p (.sl Wq4),.p (.int .u8),.p di,.p di,.p db,.p (.int .u8),.p (.sl [.int .u8,.int .i64]),.p (.sl [.int .i64,.int .i64,.int .i64,.int .i64,.int .i64]),.p (.sl Wq2),.p (.sl Wq3)]],qn 2,qb,[.c (.p (.sl [.int .i64]))],qn 1,qi,qi,qn 118]),(15,qc [qn 1,qi,[.boxN 35 14 [.p (.int .u8),.p (.sl Wq4),.p (.sl [.int .i64]),.p db,.p (.sl Wq4),.p (.int .u8),.p di,.p di,.p db,.p (.int .u8),.p (.sl [.int .u8,.int .i64]),.p (.sl [.int .i64,.int .i64,.int .i64,.int .i64,.int .i64]),.p (.sl Wq2),.p (.sl Wq3)]],qn 2,qb,[.c (.p (.sl [.int .i64]))],qn 1,qi,qi,qi,qn 117])],[.a Wq1,.c di],[.c (.p db)],qc [qn 4,qb,qn 123],[],[],0⟩
def con4:=mkC tab4 prog 4 F4
theorem ok4:con4.ok prog 4:=mkO ⟨ok5,ok6,ok7p,ok10,ok9,trivial⟩
def Zgv (a0:Wy1)(a1:Int):Option (Bool×Unit):=con4.fn (a0,a1,())
def Zdx (n:Nat)(x0 x1:Int)(x2:Wy3)(x3:(List (Int×Unit)))(x4:Bool)(x5:Wy3)(x6 x7 x8:Int)(x9:Bool)(x10:Int)(x11:(List (Int×Int×Unit)))(x12:Wy3)(x13:Wy2)(x14:(List (Int×List (Int×Int×Int×Int×Int×Int×Int×Int×Int×Int×Unit)×Unit)))(x15:Bool)(x16:(List (Int×Unit)))(x17 x18:Int):Option (Bool×Unit):=itr tab4 prog 4 F4 n 13 (x0,x1,x2,x3,x4,x5,x6,x7,x8,x9,x10,x11,x12,x13,x14,x15,x16,x17,x18,())
def Yh (n:Nat)(x0 x1:Int)(x2:Wy3)(x3:(List (Int×Unit)))(x4:Bool)(x5:Wy3)(x6 x7 x8:Int)(x9:Bool)(x10:Int)(x11:(List (Int×Int×Unit)))(x12:Wy3)(x13:Wy2)(x14:(List (Int×List (Int×Int×Int×Int×Int×Int×Int×Int×Int×Int×Unit)×Unit)))(x15:Bool)(x16:(List (Int×Unit)))(x17 x18 x19:Int):Option (Bool×Unit):=itr tab4 prog 4 F4 n 15 (x0,x1,x2,x3,x4,x5,x6,x7,x8,x9,x10,x11,x12,x13,x14,x15,x16,x17,x18,x19,())
theorem Zmy a0 a1:Eq (Zgv a0 a1) <| (Zlk a0).bind fun e0=>bif !e0.1 then some (true,()) else (Zax a0).bind fun e1=>bif e1.2.1 !=0 then some (false,()) else Yh fuel a1 a0.1 a0.2.1 a0.2.2.1 a0.2.2.2.1 a0.2.2.2.2.1 a0.2.2.2.2.2.1 a0.2.2.2.2.2.2.1 a0.2.2.2.2.2.2.2.1 a0.2.2.2.2.2.2.2.2.1 a0.2.2.2.2.2.2.2.2.2.1 a0.2.2.2.2.2.2.2.2.2.2.1 a0.2.2.2.2.2.2.2.2.2.2.2.1 a0.2.2.2.2.2.2.2.2.2.2.2.2.1 a0.2.2.2.2.2.2.2.2.2.2.2.2.2.1 true e1.1 0 (-1) 0:=mkE
theorem Zk0 n x0 x1 x2 x3 x4 x5 x6 x7 x8 x9 x10 x11 x12 x13 x14 x15 x16 x17 x18:Eq (Zdx (n+1) x0 x1 x2 x3 x4 x5 x6 x7 x8 x9 x10 x11 x12 x13 x14 x15 x16 x17 x18) <| (Zbc (x1,x2,x3,x4,x5,x6,x7,x8,x9,x10,x11,x12,x13,x14,()) x0).bind fun e0=>let k1:=bif x15 then bif x17==ofNat x16.length then some (e0.2.1==51,()) else some (false,()) else some (false,());bif x0<0 then k1 else bif x0>ofNat x13.length then k1 else let k2:=some (false,());bif x15 then bif x17==ofNat x16.length then bif decide (x18<0)==(e0.2.1==6) then bif x18<0 then some (true,()) else bif e0.2.1==0 then some (e0.1==x18,()) else k2 else k2 else k2 else k2:=mkI
theorem Zdy n x0 x1 x2 x3 x4 x5 x6 x7 x8 x9 x10 x11 x12 x13 x14 x15 x16 x17 x18 x19:Eq (Yh (n+1) x0 x1 x2 x3 x4 x5 x6 x7 x8 x9 x10 x11 x12 x13 x14 x15 x16 x17 x18 x19) <| bif x19<ofNat x13.length then (Q5 (x1,x2,x3,x4,x5,x6,x7,x8,x9,x10,x11,x12,x13,x14,()) x19).bind fun e0=>bif e0.2.1 !=0 then some (false,()) else bif !e0.1 then Yh n x0 x1 x2 x3 x4 x5 x6 x7 x8 x9 x10 x11 x12 x13 x14 x15 x16 x17 x18 (wrap .i64 (x19+1)) else bif x17≥ofNat x16.length then some (false,()) else ix x16 x17 fun e1=>bif e1.1 !=x19 then some (false,()) else let k1:=Yh n x0 x1 x2 x3 x4 x5 x6 x7 x8 x9 x10 x11 x12 x13 x14 x15 x16 (wrap .i64 (x17+1)) x19 (wrap .i64 (x19+1));bif x18<0 then k1 else let k2:=Yh n x0 x1 x2 x3 x4 x5 x6 x7 x8 x9 x10 x11 x12 x13 x14 x15 x16 (wrap .i64 (x17+1)) x18 (wrap .i64 (x19+1));bif x19≥x0 then bif x18<x0 then k1 else k2 else k2 else Zdx n x0 x1 x2 x3 x4 x5 x6 x7 x8 x9 x10 x11 x12 x13 x14 x15 x16 x17 x18:=mkI
def tab3:Tb:=[(5,con5),(6,con6),(7,Z82),(8,con8),(9,con9),(10,Z3i)]
def F3:TFun:=⟨[],[],[.a Wq1,.c di],[.c (.p db)],qc [qn 4,qb,qn 104],[],[],0⟩
def con3:=mkC tab3 prog 3 F3
theorem ok3:con3.ok prog 3:=mkO ⟨ok5,ok6,ok7p,ok8,ok9,ok10,trivial⟩
def Zf5 (a0:Wy1)(a1:Int):Option (Bool×Unit):=con3.fn (a0,a1,())
theorem Zlm a0 a1:Eq (Zf5 a0 a1) <| (Zlk a0).bind fun e0=>bif !e0.1 then some (true,()) else (Zax a0).bind fun e1=>(Zho a0).bind fun e2=>(Zbc a0 a1).bind fun e3=>let k1:=some (false,());bif e1.2.1 !=0 then k1 else bif e2.2.1 !=0 then k1 else bif !(ofNat e1.1.length==0)==(e2.1.1==0&&(e2.1.2.1==0&&(e2.1.2.2.1==0&&true))) then k1 else bif e2.1.1<0 then k1 else bif e2.1.2.1<0 then k1 else bif e2.1.2.2.1<0 then k1 else bif a1<0 then some (e3.2.1==51,()) else bif a1>ofNat a0.2.2.2.2.2.2.2.2.2.2.2.2.1.length then some (e3.2.1==51,()) else bif ofNat e1.1.length==0 then some (e3.2.1==6,()) else (Q5 a0 e3.1).bind fun e4=>bif e3.2.1==0 then bif e4.2.1==0 then some (e4.1,()) else k1 else k1:=mkE
end
end Tg

/- If no operator of a right machine can do a step, nothing is left. -/
namespace Tg
open Go
open Go.Abs (Zl Z8 tmm)
theorem most {E:List Tn.Ch}(hE:∀ x,¬ Pth E x x):∀ (n:Nat) (R:List Int),R.length≤n→R≠[] → ∃ m∈R,∀ z∈R,¬ Pth E m z:=by
 intro n
 induction n with
 | zero=>intro R h h0;exact absurd (List.length_eq_zero_iff.1 (by omega)) h0
 | succ n ih =>
  intro R h h0;cases R with
  | nil=>exact absurd rfl h0
  | cons x R =>
   by_cases hx:∃ y∈R,Pth E x y
   · have hdec:∀ y,Decidable (Pth E x y):=fun y=>Classical.propDecidable _;let S:=R.filter fun y=>@decide (Pth E x y) (hdec y);have hS:S≠[]:=by obtain⟨y,hy,hp⟩:=hx;have:y∈S:=List.mem_filter.2 ⟨hy,by simpa using hp⟩;intro e;rw [e] at this;cases this
     have hl:S.length≤n:=by have:=List.length_filter_le (fun y=>@decide (Pth E x y) (hdec y)) R;simp only [List.length_cons] at h;show (R.filter _).length≤n;omega
     obtain⟨m,hm,hmin⟩:=ih S hl hS;obtain⟨hmR,hmx⟩:=List.mem_filter.1 hm;have hmx:Pth E x m:=by simpa using hmx
     refine⟨m,by simp [hmR],fun z hz hzm=>?_⟩;rcases List.mem_cons.1 hz with rfl | hz
     · exact hE m (hzm.trans hmx)
     · exact hmin z (List.mem_filter.2 ⟨hz,by simpa using hmx.trans hzm⟩) hzm
   · refine⟨x,by simp,fun z hz hzx=>?_⟩;rcases List.mem_cons.1 hz with rfl | hz
     · exact hE _ hzx
     · exact hx ⟨z,hz,hzx⟩
theorem Yh1 {m:Mch}{b:Bool}(h:mchB b m=true)(x:Int):¬ Pth ((mG m).2.1.map Tj.tch) x x:=by intro hp;have hr:=(Zdd h).2.1;unfold mchB at h;simp only [Bool.and_eq_true,beq_iff_eq] at h;obtain⟨_,_,g3⟩:=Z0m h.2.1;have hg:=(Tj.Zq7 (mG m).1 (mG m).2.1).2 g3;obtain⟨c,hc,hx,_⟩:=Z2p hp;obtain⟨d,hd,rfl⟩:=List.mem_map.1 hc;have:=hr.1 d hd;unfold Tj.okC at this;simp only [Bool.and_eq_true,decide_eq_true_eq] at this;have e:d.2.2.1=x:=hx;exact hg.2.2 x (by omega) (by omega) hp
theorem Yn0 {m:Mch}(hr:Tj.Zd8 (mG m).1 (mG m).2.1){b:Bool}{k:Nat}{q:Que}{c:Cn}(hq:(mU m)[k]? = some q)(hc:(mG m).2.1[k]? = some c):q∈qsAt (mU m) (joinL b (mG m) (Tj.selF b c)):=by unfold qsAt;rw [List.mem_filterMap];refine⟨((k:Int),()),?_,by simpa using hq⟩;unfold joinL;rw [List.mem_map];refine⟨k,(Tj.Zkp (Zli hr b _)).2 ?_,rfl⟩;unfold Tj.idxN;rw [List.mem_filter,List.mem_range];exact⟨(List.getElem?_eq_some_iff.1 hc).1,by rw [hc];simp⟩
theorem Yi2 {m:Mch}(hr:Tj.Zd8 (mG m).1 (mG m).2.1){b:Bool}{op:Int}{q:Que}(h:q∈qsAt (mU m) (joinL b (mG m) op)):∃ (k:Nat) (c:Cn),(mU m)[k]? = some q∧(mG m).2.1[k]? = some c∧Tj.selF b c=op:=by unfold qsAt at h;rw [List.mem_filterMap] at h;obtain⟨y,hy,hq⟩:=h;unfold joinL at hy;rw [List.mem_map] at hy;obtain⟨k,hk,rfl⟩:=hy;obtain⟨_,c,hc,hs⟩:=Tj.Z0b ((Tj.Zkp (Zli hr b op)).1 hk);exact⟨k,c,by simpa using hq,hc,hs⟩
theorem Zye:∀ {l:List Que} {i:Nat} {q:Que},q∈l→q.2.1≠[]→0≤Zgg i l
 | [],_,_,h,_=>by cases h
 | a::l,i,q,h,h0=>by
  rw [Zgg];cases e:decide (0<a.2.1.length) with
  | true=>exact Int.natCast_nonneg _
  | false =>
   have e:=of_decide_eq_false e;rcases List.mem_cons.1 h with rfl | h
   · exact absurd (List.length_eq_zero_iff.1 (by omega)) h0
   · exact Zye h h0
theorem Zur:∀ {l:List Que} {i:Nat},(∀ q∈l,q.2.1=[])→Zgg i l = -1
 | [],_,_=>rfl
 | a::l,i,h=>by rw [Zgg,h a (by simp)];exact Zur fun q hq=>h q (by simp [hq])
theorem Zrb {m:Mch}{i:Nat}{t:Tsk}(ht:(mT m)[i]? = some t):Qj m i=Zkw t (qsAt (mU m) (joinL true (mG m) (i:Int))) (qsAt (mU m) (joinL false (mG m) (i:Int))):=by unfold Qj;rw [ht]
theorem Zpg {t:Tsk}{ins outs:List Que}(hp:t.2.2.2.1=[]):Zkw t ins outs=bif t.1==1 then decide (0<t.2.2.2.2.2.2.1.length) else decide (0≤Zgg 0 ins):=by unfold Zkw;rw [hp]
theorem Z6z {t:Tsk}{ins outs:List Que}{s:Snd}{r:List Snd}{q:Que}(hp:t.2.2.2.1=s::r)(hq:outs[s.1.toNat]? = some q):Zkw t ins outs=decide ((q.2.1.length:Int)<q.1):=by unfold Zkw;rw [hp];simp only [hq]
theorem Yfq {b:Bool}{m:Mch}(h:mchB b m=true){i:Nat}{t:Tsk}(ht:(mT m)[i]? = some t)(hn:Qj m i=false)(hp:t.2.2.2.1≠[]) :
    ∃ (k:Nat) (q:Que) (c:Cn),(mU m)[k]? = some q∧(mG m).2.1[k]? = some c∧q.2.1≠[]∧c.1=(i:Int):=by
  obtain⟨_,hr,g1,g2,hl,hu,hqs,hts⟩:=Zdd h;have hfit:=hts i t ht;have hi:=(List.getElem?_eq_some_iff.1 ht).1;obtain⟨o,ho⟩:∃ o,(mG m).1[i]? = some o:=⟨_,List.getElem?_eq_getElem (by omega)⟩;unfold fitB at hfit;rw [ho] at hfit;simp only [Bool.and_eq_true] at hfit;obtain⟨_,htask,hpend,_⟩:=hfit;rw [Zrb ht] at hn;cases hs:t.2.2.2.1 with
  | nil=>exact absurd hs hp
  | cons s r =>
   have hm:s∈t.2.2.2.1:=by rw [hs];simp
   have a:=List.all_eq_true.1 hpend s hm;unfold Zcz at htask;simp only [Bool.and_eq_true] at htask;have a2:=List.all_eq_true.1 htask.2.2.2.1 s hm;unfold sndB at a2;simp only [Bool.and_eq_true,decide_eq_true_eq] at a a2;have n2:=Zn3 (u:=mU m) (l:=joinL false (mG m) (i:Int)) (fun y hy=>by rw [hu];exact Zx4 hr hy);have j2:=Zbz hr false (i:Int);obtain⟨q,hq⟩:∃ q,(qsAt (mU m) (joinL false (mG m) (i:Int)))[s.1.toNat]? = some q:=⟨_,List.getElem?_eq_getElem (by omega)⟩;rw [Z6z hs hq] at hn;have hn:=of_decide_eq_false hn;obtain⟨k,c,h1,h2,h3⟩:=Yi2 hr (List.mem_of_getElem? hq);have hb:=hqs q (List.mem_of_getElem? h1);unfold queB at hb;simp only [Bool.and_eq_true,decide_eq_true_eq] at hb;refine⟨k,q,c,h1,h2,fun e=>?_,h3⟩;rw [e] at hn;simp at hn;omega
theorem Ylg {b:Bool}{m:Mch}(h:mchB b m=true)(hn:∀ i,i<(mT m).length→Qj m i=false){k:Nat}{q:Que}{c:Cn}(hq:(mU m)[k]? = some q)(hc:(mG m).2.1[k]? = some c)(h0:q.2.1≠[]) :
    ∃ (k' : Nat) (q' : Que) (c' : Cn),(mU m)[k']? = some q' ∧ (mG m).2.1[k']? = some c' ∧ q'.2.1≠[]∧c'.1=c.2.2.1:=by
  obtain⟨_,hr,g1,g2,hl,hu,hqs,hts⟩:=Zdd h;have hok:=hr.1 c (List.mem_of_getElem? hc);unfold Tj.okC at hok;simp only [Bool.and_eq_true,decide_eq_true_eq] at hok;obtain⟨i,hi⟩:∃ i:Nat,c.2.2.1=(i:Int):=⟨c.2.2.1.toNat,by omega⟩;have hlt:i<(mT m).length:=by omega
  obtain⟨t,ht⟩:∃ t,(mT m)[i]? = some t:=⟨_,List.getElem?_eq_getElem hlt⟩;by_cases hp:t.2.2.2.1=[]
  · have ha:=hn i hlt;have hin:=Yn0 (b:=true) hr hq hc;rw [show Tj.selF true c=(i:Int) from hi] at hin;have hfit:=hts i t ht;obtain⟨o,ho⟩:∃ o,(mG m).1[i]? = some o:=⟨_,List.getElem?_eq_getElem (by omega)⟩;unfold fitB at hfit;rw [ho] at hfit;simp only [Bool.and_eq_true,beq_iff_eq] at hfit;have hk:(t.1==1)=false:=by
     rw [beq_eq_false_iff_ne];intro e;have hm:=(hr.2.2 i o ho).2;rw [← hfit.1.1,e] at hm;unfold Zhv bnd at hm;simp only [Bool.and_eq_true,decide_eq_true_eq,if_pos] at hm;have hz:cnt true (i:Int) (mG m).2.1=0:=by omega
     have:=Zbz hr true (i:Int);rw [hz] at this;rw [List.length_eq_zero_iff.1 this] at hin;cases hin
    rw [Zrb ht,Zpg hp,hk,cond_false] at ha;have:=Zye (i:=0) hin h0;exact absurd this (of_decide_eq_false ha)
  · obtain⟨k',q',c',e1,e2,e3,e4⟩:=Yfq h ht (hn i hlt) hp;exact⟨k',q',c',e1,e2,e3,by rw [e4,hi]⟩
theorem no_q {b:Bool}{m:Mch}(h:mchB b m=true)(hn:∀ i,i<(mT m).length→Qj m i=false):∀ q∈mU m,q.2.1=[]:=by
 obtain⟨_,hr,g1,g2,hl,hu,hqs,hts⟩:=Zdd h;intro q hq;refine Classical.byContradiction fun h0=>?_;have hdec:∀ x:Que×Cn,Decidable (x.1.2.1≠[]):=fun x=>Classical.propDecidable _;let R:=(((mU m).zip (mG m).2.1).filter fun x=>@decide (x.1.2.1≠[]) (hdec x)).map fun x=>x.2.2.2.1;have inR:∀ (k:Nat) (q:Que) (c:Cn),(mU m)[k]? = some q→(mG m).2.1[k]? = some c→q.2.1≠[]→c.2.2.1∈R:=fun k q c h1 h2 h3=>by refine List.mem_map.2 ⟨(q,c),List.mem_filter.2 ⟨List.mem_of_getElem? (List.getElem?_zip_eq_some.2 ⟨h1,h2⟩),by simpa using h3⟩,rfl⟩
 obtain⟨k,hk⟩:=List.getElem?_of_mem hq;obtain⟨c,hc⟩:∃ c,(mG m).2.1[k]? = some c:=⟨_,List.getElem?_eq_getElem (by have:=(List.getElem?_eq_some_iff.1 hk).1;omega)⟩;have hR:R≠[]:=fun e=>by have:=inR k q c hk hc h0;rw [e] at this;cases this
 obtain⟨x,hx,hmax⟩:=most (Yh1 h) R.length R (Nat.le_refl _) hR;obtain⟨⟨q1,c1⟩,hm,rfl⟩:=List.mem_map.1 hx;obtain⟨hz,hne⟩:=List.mem_filter.1 hm;have hne:q1.2.1≠[]:=by simpa using hne
 obtain⟨k1,hk1⟩:=List.getElem?_of_mem hz;obtain⟨e1,e2⟩:=List.getElem?_zip_eq_some.1 hk1;obtain⟨k2,q2,c2,f1,f2,f3,f4⟩:=Ylg h hn e1 e2 hne;refine hmax _ (inR k2 q2 c2 f1 f2 f3) ?_;have:=Pth.one (E:=(mG m).2.1.map Tj.tch) (Tj.tch c2) (List.mem_map.2 ⟨c2,List.mem_of_getElem? f2,rfl⟩);show Pth _ c1.2.2.1 c2.2.2.1;rw [← f4];exact this
def bare (m:Mch):Prop:=(∀ q∈mU m,q.2.1=[]) ∧ ∀ t∈mT m,t.2.2.2.1=[]∧t.2.2.2.2.2.2.1=[]
theorem Yaj {b:Bool}{m:Mch}(h:mchB b m=true)(hn:∀ i,i<(mT m).length→Qj m i=false):bare m:=by
 have hq:=no_q h hn;obtain⟨_,hr,g1,g2,hl,hu,hqs,hts⟩:=Zdd h;refine⟨hq,fun t ht=>?_⟩;obtain⟨i,hi⟩:=List.getElem?_of_mem ht;have hlt:=(List.getElem?_eq_some_iff.1 hi).1;have hp:t.2.2.2.1=[]:=Classical.byContradiction fun h0=>by obtain⟨k,q,c,e1,_,e3,_⟩:=Yfq h hi (hn i hlt) h0;exact e3 (hq q (List.mem_of_getElem? e1))
 refine⟨hp,?_⟩;have hfit:=hts i t hi;obtain⟨o,ho⟩:∃ o,(mG m).1[i]? = some o:=⟨_,List.getElem?_eq_getElem (by omega)⟩;unfold fitB at hfit;rw [ho] at hfit;simp only [Bool.and_eq_true] at hfit;have htask:=hfit.2.1;unfold Zcz at htask;simp only [Bool.and_eq_true] at htask;have hk:=htask.2.2.1;have ha:=hn i hlt;rw [Zrb hi,Zpg hp] at ha;cases h1:(t.1==1) with
 | true=>rw [h1,cond_true] at ha;have ha:=of_decide_eq_false ha;exact List.length_eq_zero_iff.1 (by omega)
 | false=>unfold Zp4 at hk;simp only [h1,cond_false] at hk;refine List.length_eq_zero_iff.1 ?_;cases h2:(t.1==2) <;> cases h3:(t.1==3) <;> cases h4:(t.1==4) <;> cases h5:(t.1==5) <;> cases h6:(t.1==6) <;> simp only [h2,h3,h4,h5,h6,cond_true,cond_false,Bool.and_eq_true,beq_iff_eq,decide_eq_true_eq] at hk <;> omega
theorem Yak {m:Mch}(hr:Tj.Zd8 (mG m).1 (mG m).2.1)(h:bare m)(i:Nat):Qj m i=false:=by
 cases hi:(mT m)[i]? with
 | none=>unfold Qj;rw [hi]
 | some t=>obtain⟨h1,h2⟩:=h.2 t (List.mem_of_getElem? hi);rw [Zrb hi,Zpg h1,h2,Zur fun q hq=>by obtain⟨k,c,e1,_,_⟩:=Yi2 hr hq;exact h.1 q (List.mem_of_getElem? e1)];cases (t.1==1) <;> rfl
def sumN {α:Type}(f:α→Nat):List α→Nat
 | []=>0
 | x::l=>f x+sumN f l
theorem Zrc {α:Type}{f:α→Nat}{B:Nat}:∀ {l:List α},(∀ x∈l,f x≤B)→sumN f l≤B * l.length
 | [],_=>Nat.zero_le _
 | x::l,h=>by have h1:=h x (by simp);have h2:=Zrc (l:=l) fun y hy=>h y (by simp [hy]);rw [sumN,List.length_cons,Nat.mul_add];omega
theorem Z0r {α:Type}{f:α→Nat}:∀ {l:List α},sumN f l=0 ↔ ∀ x∈l,f x=0
 | []=>by simp [sumN]
 | x::l=>by have:=Z0r (f:=f) (l:=l);simp only [sumN,List.mem_cons,forall_eq_or_imp];rw [← this];omega
def evN (t:Tsk):Nat:=t.2.2.2.2.2.2.1.length
def pnN (t:Tsk):Nat:=t.2.2.2.1.length
def quN (q:Que):Nat:=q.2.1.length
theorem Yfr:∀ (l:List Tsk) (a b:Nat),a+sumN evN l≤1000000000000→b+sumN pnN l≤1000000000000→l.foldl Zx6 ((a:Int),(b:Int))=(((a+sumN evN l:Nat):Int),((b+sumN pnN l:Nat):Int))
 | [],a,b,_,_=>rfl
 | t::l,a,b,h1,h2=>by
  simp only [sumN] at h1 h2;have e:Zx6 ((a:Int),(b:Int)) t=(((a+evN t:Nat):Int),((b+pnN t:Nat):Int)):=by
   unfold Zx6;have p1:(a:Int)+Int.ofNat t.2.2.2.2.2.2.1.length=((a+evN t:Nat):Int):=by simp [evN]
   have p2:(b:Int)+Int.ofNat t.2.2.2.1.length=((b+pnN t:Nat):Int):=by simp [pnN]
   simp only [p1,p2];rw [w64 (by omega) (by omega),w64 (by omega) (by omega)]
  rw [List.foldl_cons,e,Yfr l _ _ (by omega) (by omega),sumN,sumN,Nat.add_assoc,Nat.add_assoc]
theorem Yfs:∀ (l:List Que) (a:Nat),a+sumN quN l≤1000000000000→l.foldl Zn4 (a:Int)=((a+sumN quN l:Nat):Int)
 | [],a,_=>rfl
 | t::l,a,h1=>by
  simp only [sumN] at h1;have e:Zn4 (a:Int) t=((a+quN t:Nat):Int):=by
   unfold Zn4;have p1:(a:Int)+Int.ofNat t.2.1.length=((a+quN t:Nat):Int):=by simp [quN]
   rw [p1,w64 (by omega) (by omega)]
  rw [List.foldl_cons,e,Yfs l _ (by omega),sumN,Nat.add_assoc]
theorem Ylh {m:Mch}(hm:MLen m)(h1:(mT m).length≤100)(h2:(mU m).length≤100):Yff m=((sumN evN (mT m):Int),(sumN pnN (mT m):Int),(sumN quN (mU m):Int),()):=by have a:=Zrc (f:=evN) (B:=100000) (l:=mT m) fun t ht=>(hm.t t ht).h4;have b:=Zrc (f:=pnN) (B:=100000) (l:=mT m) fun t ht=>(hm.t t ht).h1;have c:=Zrc (f:=quN) (B:=100000) (l:=mU m) fun q hq=>hm.u q hq;unfold Yff;rw [show ((0:Int),(0:Int))=(((0:Nat):Int),((0:Nat):Int)) from rfl,Yfr _ _ _ (by omega) (by omega),show (mU m).foldl Zn4 0=(mU m).foldl Zn4 ((0:Nat):Int) from rfl,Yfs _ _ (by omega)];simp
theorem Yli {m:Mch}:bare m↔sumN evN (mT m)=0∧sumN pnN (mT m)=0∧sumN quN (mU m)=0:=by
 rw [Z0r,Z0r,Z0r];unfold bare evN pnN quN;constructor
 · rintro⟨h1,h2⟩;exact⟨fun t ht=>by rw [(h2 t ht).2];rfl,fun t ht=>by rw [(h2 t ht).1];rfl,fun q hq=>by rw [h1 q hq];rfl⟩
 · rintro⟨h1,h2,h3⟩;exact⟨fun q hq=>List.length_eq_zero_iff.1 (h3 q hq),fun t ht=>⟨List.length_eq_zero_iff.1 (h2 t ht),List.length_eq_zero_iff.1 (h1 t ht)⟩⟩
end Tg

/- enabled.All, First and Left, told plainly. -/
namespace Tg
open Go
open Go.Abs (Zl Z8 tmm)
def Zcv (m:Mch)(n:Nat):List Nat:=(List.range n).filter fun i=>Qj m i
theorem Zoa (m:Mch):Xf m=(Zcv m (mT m).length).map fun (i:Nat)=>((i:Int),()):=by
 have key:∀ (l:List Tsk) (s:List (Int×Unit)) (k:Nat),(l.foldl (fun s _=>Zfh m s) (s,k)).1=s++((List.range' k l.length).filter fun i=>Qj m i).map fun (i:Nat)=>((i:Int),()):=by
  intro l
  induction l with
  | nil=>intro s k;simp
  | cons t l ih=>intro s k;rw [List.foldl_cons,show Zfh m (s,k)=(bif Qj m k then s++[((k:Int),())] else s,k+1) from rfl,ih,List.length_cons,List.range'_succ,List.filter_cons];cases Qj m k <;> simp
 have:=key (mT m) [] 0;unfold Xf Zcv;rw [this,List.range_eq_range',List.nil_append]
theorem Yh2 (m:Mch){i:Nat}(hi:Qj m i=true):∀ {n:Nat},i<n→(Zcv m n)[(Zcv m i).length]? = some i:=by
 intro n
 induction n with
 | zero=>intro h;omega
 | succ n ih =>
  intro h;unfold Zcv at ih ⊢;rw [List.range_succ,List.filter_append];by_cases e:i=n
  · subst e;simp [hi]
  · have:=ih (by omega);rw [List.getElem?_append_left (List.getElem?_eq_some_iff.1 this).1];exact this
theorem Yal (m:Mch)(n:Nat):Zcv m (n+1)=bif Qj m n then Zcv m n++[n] else Zcv m n:=by unfold Zcv;rw [List.range_succ,List.filter_append];cases h:Qj m n <;> simp [h]
theorem Yam (m:Mch)(n:Nat):(Zcv m n).length≤n:=by have:=List.length_filter_le (fun i=>Qj m i) (List.range n);rw [List.length_range] at this;exact this
def Zob (f:Int)(l:List (Int×Unit))(d:Int):Int:=match l.find? (fun e=>decide (e.1≥f)) with
 | some e=>e.1
 | none=>d
def Zus (f:Int)(m:Mch):Int×Int×Unit:=bif decide (f<0) then (0,51,()) else bif decide (f>((mT m).length:Int)) then (0,51,()) else match Xf m with
 | []=>(0,6,())
 | e::l=>(Zob f (e::l) e.1,0,())
theorem Z84 {b:Bool}{m:Mch}(hq:QOk (mQ m) b)(hm:MLen m)(h:mchB b m=true)(f:Int):Zbc m f=some (Zus f m):=by
 have hf:=Y0;have hl:=hm.tl;have ha:=Yaf (m:=m);rw [Zqt,Yfe hq hm,h,cond_true,cond_true,Option.bind_some,bne_self_eq_false,cond_false];unfold Zus;rw [show ((mT m).length:Int)=Int.ofNat m.2.2.2.2.2.2.2.2.2.2.2.2.1.length from rfl];cases decide (f<0) with
 | true=>rfl
 | false =>
 cases decide (f>Int.ofNat m.2.2.2.2.2.2.2.2.2.2.2.2.1.length) with
 | true=>rfl
 | false =>
 rw [cond_false,cond_false,cond_false,cond_false];cases hL:Xf m with
 | nil=>rfl
 | cons e l =>
  rw [hL] at ha;have e1:(Int.ofNat (e::l).length==0)=false:=by rw [beq_eq_false_iff_ne];simp only [List.length_cons,Int.ofNat_eq_natCast];omega
  have:=Ynv (f:=fun n k=>Zaj n f e.1 (e::l) (Int.ofNat (e::l).length) k) (l:=e::l) (p:=fun e=>decide (e.1≥f)) (hit:=fun e=>some (e.1,0,())) (fin:=some (e.1,0,())) (N:=1)
   (fun n i x hx=>by have hk:=(List.getElem?_eq_some_iff.1 hx).1;rw [Zf2,ltL hx,ix_s hx,wS (show i<1000000000000 by omega)];rfl)
   (fun n hn=>by rw [Zf2,geL];rfl) fuel (by omega)
  simp only [e1,cond_false,List.getElem?_cons_zero,Option.bind_some];rw [this];unfold Zob;cases (e::l).find? (fun e=>decide (e.1≥f)) <;> rfl
theorem Ylj {b:Bool}{m:Mch}(hq:QOk (mQ m) b)(hm:MLen m)(h:mchB b m=true):Zho m=some (Yff m,0,()):=by
 rw [Zuh,Z0n m b hq hm,h];have hf:=Y0;have hl:=hm.tl;have hu:=hm.ul;simp only [cond_true,Option.bind_some,bne_self_eq_false,cond_false];have hQ:∀ (n:Nat) (x y:Int),(mU m).length+2≤n→Zd4 (n+1) (mU m) x y 0=some ((x,y,(mU m).foldl Zn4 0,()),0,()):=by
  intro n x y hn;rw [Zqr];exact Zxm (f:=fun n s k=>Za5 n x y s (mU m) (Int.ofNat (mU m).length) k) (l:=mU m) (g:=Zn4) (fin:=fun s=>some ((x,y,s,()),0,())) (N:=1) (fun _ _=>True)
   (fun n s i e he _=>⟨by
    have hk:=(List.getElem?_eq_some_iff.1 he).1;rw [Zgu,ltL he,ix_s he,wS (show i<1000000000000 by omega)];rfl,trivial⟩)
   (fun n s hn _=>by rw [Zgu,geL];rfl) n 0 trivial (by omega)
 exact Zxm (f:=fun n (s:Int×Int) k=>Zbm n (mU m) s.1 s.2 0 (mT m) (Int.ofNat (mT m).length) k) (l:=mT m) (g:=Zx6) (fin:=fun s=>some ((s.1,s.2,(mU m).foldl Zn4 0,()),0,())) (N:=(mU m).length+3) (fun _ _=>True)
  (fun n s i e he _=>⟨by
   have hk:=(List.getElem?_eq_some_iff.1 he).1;rw [Zid,ltL he,ix_s he,wS (show i<1000000000000 by omega)];rfl,trivial⟩)
  (fun n s hn _=>by obtain⟨k,rfl⟩:∃ k,n=k+1:=⟨n - 1,by omega⟩;rw [Zid,geL,cond_false];exact hQ k s.1 s.2 (by omega)) fuel (0,0) trivial (by omega)
def Zif (f:Int)(w:Int)(i:Nat):Int:=bif decide (w<0)||(decide ((i:Int)≥f)&&decide (w<f)) then (i:Int) else w
theorem Z0s (f:Int):∀ (l:List Nat) (w:Int),0≤w→l.foldl (Zif f) w=if f≤w then w else match l.find? (fun (i:Nat)=>decide ((i:Int)≥f)) with
    | some i=>(i:Int)
    | none=>w
  | [],w,_=>by simp
  | i::l,w,h=>by
   rw [List.foldl_cons,List.find?_cons];by_cases h1:f≤w
   · rw [show Zif f w i=w by unfold Zif;rw [show decide (w<0)=false from decide_eq_false (by omega),show decide (w<f)=false from decide_eq_false (by omega)];simp,Z0s f l w h,if_pos h1,if_pos h1]
   · by_cases h2:(i:Int)≥f
     · rw [show Zif f w i=(i:Int) by unfold Zif;rw [show decide (w<f)=true from decide_eq_true (by omega),show decide ((i:Int)≥f)=true from decide_eq_true h2];simp,Z0s f l _ (Int.natCast_nonneg _),if_pos h2,if_neg h1,show decide ((i:Int)≥f)=true from decide_eq_true h2]
     · rw [show Zif f w i=w by unfold Zif;rw [show decide (w<0)=false from decide_eq_false (by omega),show decide ((i:Int)≥f)=false from decide_eq_false h2];simp,Z0s f l w h,if_neg h1,if_neg h1,show decide ((i:Int)≥f)=false from decide_eq_false h2]
theorem Yan (f:Int)(L:List Nat):L.foldl (Zif f) (-1)=match L.map (fun (i:Nat)=>((i:Int),())) with
    | []=>-1
    | e::l=>Zob f (e::l) e.1:=by
  cases L with
  | nil=>rfl
  | cons i l =>
   rw [List.foldl_cons,show Zif f (-1) i=(i:Int) from rfl,Z0s f l _ (Int.natCast_nonneg _)];show _=Zob f (((i:Int),())::l.map fun (i:Nat)=>((i:Int),())) (i:Int);unfold Zob;rw [List.find?_cons];by_cases h:(i:Int)≥f
   · rw [if_pos h,show decide ((i:Int)≥f)=true from decide_eq_true h]
   · rw [if_neg h,show decide ((i:Int)≥f)=false from decide_eq_false h,List.find?_map];show _=match (l.find? fun (i:Nat)=>decide ((i:Int)≥f)).map (fun (i:Nat)=>((i:Int),())) with
      | some e=>e.1
      | none=>(i:Int)
     cases l.find? fun (i:Nat)=>decide ((i:Int)≥f) <;> rfl
end Tg

/- The laws EnabledNone and EnabledAll in plain words. -/
namespace Tg
open Go
open Go.Abs (Zl Z8 tmm)
theorem qok (q:Qry):∃ b,QOk q b:=by refine⟨(chkQ q).2.1==0,⟨⟨(chkQ q).1,(chkQ q).2.1,Yai q,rfl⟩,?_⟩⟩;rw [Zo5,Z6y]
theorem Yi3 (m:Mch):∃ g,Zlk m=some (g,())∧(g=true → ∃ b,QOk (mQ m) b∧MLen m∧mchB b m=true):=by
 obtain⟨g,hg,hb⟩:=Yhr m;rw [Z3u,hg,Option.bind_some];cases g with
 | true=>exact⟨false,rfl,fun h=>by cases h⟩
 | false=>have hm:=hb rfl;obtain⟨b,hq⟩:=qok (mQ m);rw [Ye6 m b hq hm];refine⟨mchB b m,?_,fun h=>⟨b,hq,hm,h⟩⟩;cases mchB b m <;> rfl
theorem Yao {m:Mch}:Xf m=[] ↔ ∀ i,i<(mT m).length→Qj m i=false:=by rw [Zoa,List.map_eq_nil_iff];unfold Zcv;rw [List.filter_eq_nil_iff];simp
theorem Yap {m:Mch}{x:Int×Unit}(h:x∈Xf m):∃ i:Nat,x.1=(i:Int)∧i<(mT m).length∧Qj m i=true:=by rw [Zoa,List.mem_map] at h;obtain⟨i,hi,rfl⟩:=h;unfold Zcv at hi;rw [List.mem_filter,List.mem_range] at hi;exact⟨i,rfl,hi⟩
theorem Z3v (f:Int)(e:Int×Unit)(l:List (Int×Unit)):∃ x∈e::l,Zob f (e::l) e.1=x.1:=by
 unfold Zob;cases h:(e::l).find? (fun e=>decide (e.1≥f)) with
 | none=>exact⟨e,by simp,rfl⟩
 | some x=>exact⟨x,List.mem_of_find?_eq_some h,rfl⟩
theorem Yft (m:Mch)(f:Int):Zf5 m f=some (true,()):=by
 obtain⟨g,hg,hb⟩:=Yi3 m;rw [Zlm,hg,Option.bind_some];cases g with
 | false=>rfl
 | true =>
  obtain⟨b,hq,hm,h⟩:=hb rfl;obtain⟨_,hr,g1,g2,hl,hu,_,_⟩:=Zdd h;have e1:Zax m=some (Xf m,0,()):=by rw [Yfe hq hm,h];rfl
  have e2:=Ylj hq hm h;rw [Ylh hm (by omega) (by omega)] at e2;have e5:(Int.ofNat (Xf m).length==0)=(((sumN evN (mT m):Nat):Int)==0&&(((sumN pnN (mT m):Nat):Int)==0&&(((sumN quN (mU m):Nat):Int)==0&&true))):=by
   rw [Bool.eq_iff_iff];simp only [Bool.and_eq_true,beq_iff_eq,Int.ofNat_eq_natCast,and_true];have k:(sumN evN (mT m)=0∧sumN pnN (mT m)=0∧sumN quN (mU m)=0)↔Xf m=[]:=by rw [← Yli,Yao];exact⟨fun hbr i _=>Yak hr hbr i,Yaj h⟩
   have k2:(Xf m).length=0↔Xf m=[]:=List.length_eq_zero_iff;constructor
   · intro hz;have:=k.2 (k2.1 (by omega));omega
   · intro hz;have:=k2.2 (k.1 ⟨by omega,by omega,by omega⟩);omega
  rw [e1,e2,Z84 hq hm h f];simp only [Option.bind_some,cond_false,cond_true,Bool.not_true,bne_self_eq_false,e5,beq_self_eq_true,show ∀ a:Nat,decide ((a:Int)<0)=false from fun a=>decide_eq_false (by omega)];rw [← e5];unfold Zus;rw [show Int.ofNat m.2.2.2.2.2.2.2.2.2.2.2.2.1.length=((mT m).length:Int) from rfl];cases decide (f<0) with
  | true=>rfl
  | false =>
  cases decide (f>((mT m).length:Int)) with
  | true=>rfl
  | false =>
  simp only [cond_false];cases hL:Xf m with
  | nil=>rfl
  | cons e l=>obtain⟨x,hx,hn⟩:=Z3v f e l;rw [← hL] at hx;obtain⟨i,hi,hlt,hab⟩:=Yap hx;have e6:=Zpd hq hm h hlt;rw [show (Int.ofNat (e::l).length==0)=false by rw [beq_eq_false_iff_ne];simp only [List.length_cons,Int.ofNat_eq_natCast];omega,cond_false];simp only [hn,hi,e6,hab,Option.bind_some];rfl
def stE (f:Int)(m:Mch)(i:Nat):Int×Int×Nat:=(((Zcv m i).length:Int),(Zcv m i).foldl (Zif f) (-1),i)
theorem Yh3 (m:Mch)(f:Int):Zgv m f=some (true,()):=by
 obtain⟨g,hg,hb⟩:=Yi3 m;rw [Zmy,hg,Option.bind_some];cases g with
 | false=>rfl
 | true =>
  obtain⟨b,hq,hm,h⟩:=hb rfl;have hf:=Y0;have hl:=hm.tl;have e1:Zax m=some (Xf m,0,()):=by rw [Yfe hq hm,h];rfl
  have la:(Xf m).length=(Zcv m (mT m).length).length:=by rw [Zoa,List.length_map]
  rw [e1,Option.bind_some,Bool.not_true,cond_false,bne_self_eq_false,cond_false];refine Zxm (f:=fun n (s:Int×Int×Nat) k=>Yh n f m.1 m.2.1 m.2.2.1 m.2.2.2.1 m.2.2.2.2.1 m.2.2.2.2.2.1 m.2.2.2.2.2.2.1 m.2.2.2.2.2.2.2.1 m.2.2.2.2.2.2.2.2.1 m.2.2.2.2.2.2.2.2.2.1 m.2.2.2.2.2.2.2.2.2.2.1 m.2.2.2.2.2.2.2.2.2.2.2.1 m.2.2.2.2.2.2.2.2.2.2.2.2.1 m.2.2.2.2.2.2.2.2.2.2.2.2.2.1 true (Xf m) s.1 s.2.1 k)
   (l:=mT m) (g:=fun s _=>stE f m (s.2.2+1)) (fin:=fun _=>some (true,())) (N:=3) (fun i s=>s=stE f m i)
   (fun n s i e he hp=>?_) (fun n s hn hp=>?_) fuel (stE f m 0) rfl (by omega)
  · subst hp;have hk:=(List.getElem?_eq_some_iff.1 he).1;have e0:Q5 (m.1,m.2.1,m.2.2.1,m.2.2.2.1,m.2.2.2.2.1,m.2.2.2.2.2.1,m.2.2.2.2.2.2.1,m.2.2.2.2.2.2.2.1,m.2.2.2.2.2.2.2.2.1,m.2.2.2.2.2.2.2.2.2.1,m.2.2.2.2.2.2.2.2.2.2.1,m.2.2.2.2.2.2.2.2.2.2.2.1,m.2.2.2.2.2.2.2.2.2.2.2.2.1,m.2.2.2.2.2.2.2.2.2.2.2.2.2.1,()) (i:Int)=some (Qj m i,0,()):=Zpd hq hm h hk;have e2:decide ((i:Int)<Int.ofNat m.2.2.2.2.2.2.2.2.2.2.2.2.1.length)=true:=ltL he;refine⟨?_,rfl⟩;rw [Zdy,e2,cond_true,e0,Option.bind_some,wS (show i<1000000000000 by omega)];rw [show (stE f m i).2.2=i from rfl];unfold stE;rw [Yal];cases ha:Qj m i with
    | false=>rfl
    | true =>
     have h1:=Yh2 m ha hk;have h2:=(List.getElem?_eq_some_iff.1 h1).1;have h3:(Xf m)[(Zcv m i).length]? = some ((i:Int),()):=by rw [Zoa,List.getElem?_map,h1];rfl
     have h4:decide (((Zcv m i).length:Int)≥Int.ofNat (Xf m).length)=false:=decide_eq_false (by simp only [Int.ofNat_eq_natCast];omega);simp only [bne_self_eq_false,cond_false,Bool.not_true,h4,ix_s h3,cond_true,List.length_append,List.length_singleton,List.foldl_append,List.foldl_cons,List.foldl_nil];rw [wS (show (Zcv m i).length<1000000000000 by have:=Yam m i;omega)];generalize (Zcv m i).foldl (Zif f) (-1)=V;unfold Zif;cases decide (V<0) <;> cases decide ((i:Int)≥f) <;> cases decide (V<f) <;> rfl
  · subst hp;obtain⟨k,rfl⟩:∃ k,n=k+1:=⟨n - 1,by omega⟩;have e0:Zbc (m.1,m.2.1,m.2.2.1,m.2.2.2.1,m.2.2.2.2.1,m.2.2.2.2.2.1,m.2.2.2.2.2.2.1,m.2.2.2.2.2.2.2.1,m.2.2.2.2.2.2.2.2.1,m.2.2.2.2.2.2.2.2.2.1,m.2.2.2.2.2.2.2.2.2.2.1,m.2.2.2.2.2.2.2.2.2.2.2.1,m.2.2.2.2.2.2.2.2.2.2.2.2.1,m.2.2.2.2.2.2.2.2.2.2.2.2.2.1,()) f=some (Zus f m):=Z84 hq hm h f;have e2:decide ((((mT m).length:Nat):Int)<Int.ofNat m.2.2.2.2.2.2.2.2.2.2.2.2.1.length)=false:=geL;have e3:((stE f m (mT m).length).1==Int.ofNat (Xf m).length)=true:=by rw [la];exact beq_self_eq_true _
    have e4:(stE f m (mT m).length).2.1=match Xf m with
        | []=>-1
        | e::l=>Zob f (e::l) e.1:=by
      rw [Zoa];exact Yan f _
    rw [Zdy,e2,cond_false,Zk0,e0,Option.bind_some];simp only [e3,cond_true,e4];unfold Zus;rw [show Int.ofNat m.2.2.2.2.2.2.2.2.2.2.2.2.1.length=((mT m).length:Int) from rfl];cases decide (f<0) with
    | true=>rfl
    | false =>
    cases decide (f>((mT m).length:Int)) with
    | true=>rfl
    | false =>
    simp only [cond_false];cases hL:Xf m with
    | nil=>rfl
    | cons e l=>obtain⟨x,hx,hn⟩:=Z3v f e l;have:=Yfd m x (by rw [hL];exact hx);rw [← hn] at this;simp only [show decide (Zob f (e::l) e.1<0)=false from decide_eq_false (by omega),cond_false,beq_self_eq_true];rfl
end Tg

/- The laws EnabledNone and EnabledAll from the contracts of their functions. -/
namespace Tg
open Go.Abs
theorem Ylk:∀ pas,POKAs con3.args pas→Spec Go.Proofs.Tryz.prog 3 pas [.c (.c (.bool true))]:=Ycg ok3 fun a _=>Yft a.1 a.2.1
theorem Yll:∀ pas,POKAs con4.args pas→Spec Go.Proofs.Tryz.prog 4 pas [.c (.c (.bool true))]:=Ycg ok4 fun a _=>Yh3 a.1 a.2.1
end Tg
