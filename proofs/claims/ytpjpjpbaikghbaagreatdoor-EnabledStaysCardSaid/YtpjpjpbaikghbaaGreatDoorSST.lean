import Derived.Test.YtpjpjpbaikghbaaGreatDoorSME
import Derived.Test.YtpjpjpbaikghbaaGreatDoorSTu3
import Derived.Test.YtpjpjpbaikghbaaGreatDoorSPK
set_option linter.all false
/- If no operator of a right machine can do a step, nothing is left. -/
namespace Tg
open Go
open Go.Abs (Ze Zj tmm)
theorem most{E:List Tn.Ch}(hE:∀x,¬Pth E x x):∀(n:Nat) (R:List Int),R.length<=n->R≠[] -> ∃m∈R,∀z∈R,¬Pth E m z:=by
 intro n
 induction n with
 | zero=>grind
 | succ n ih =>
  intro R h h0;cases R with
  | nil=>grind
  | cons x R =>
   by_cases hx:∃y∈R,Pth E x y
   . have hdec:∀y,Decidable (Pth E x y):=λy=>Classical.propDecidable _;let S:=R.filter λy=>@decide (Pth E x y) (hdec y);have hS:S≠[]:=by obtain⟨y,hy,hp⟩:=hx;have:y∈S:=List.mem_filter.2 ⟨hy,by simpa using hp⟩;grind
     have hl:S.length<=n:=by grind
     obtain⟨m,hm,hmin⟩:=ih S hl hS;obtain⟨hmR,hmx⟩:=List.mem_filter.1 hm;have hmx:Pth E x m:=by simpa using hmx
     refine⟨m,by simp[hmR],λz hz hzm=>?_⟩;rcases List.mem_cons.1 hz with rfl|hz
     . exact hE m (hzm.trans hmx)
     . exact hmin z (List.mem_filter.2 ⟨hz,by simpa using hmx.trans hzm⟩) hzm
   simp_all
theorem Z26:∀{l:List Que} {i:Nat} {q:Que},q∈l->q.2.1≠[]->0<=Zgk i l
 | [],_,_,h,_=>by cases h
 | a::l,i,q,h,h0=>by
  rw[Zgk];cases e:decide (0<a.2.1.length)with
  | true=>grind
  | false =>
   have e:=of_decide_eq_false e;rcases List.mem_cons.1 h with rfl|h
   . grind
   . exact Z26 h h0
theorem Zph:∀{l:List Que} {i:Nat},(∀q∈l,q.2.1=[])->Zgk i l = -1
 | [],_,_=>rfl
 | a::l,i,h=>by rw[Zgk,h a (by simp)];exact Zph λq hq=>h q (by simp[hq])
variable {t:Tsk}
theorem Zhe{m:Mch}{i:Nat}(ht:(mT m)[i]? = some t):Q9 m i=Zhc t (qsAt (mU m) (joinL true (mG m) (i:Int))) (qsAt (mU m) (joinL false (mG m) (i:Int))):=by grind[Q9]
theorem Z27{ins outs:List Que}(hp:t.2.2.2.1=[]):Zhc t ins outs=bif t.1==1 then decide (0<t.2.2.2.2.2.2.1.length)else decide (0<=Zgk 0 ins):=by grind[Zhc]
end Tg

/- enabled.All, First and Left, told plainly. -/
namespace Tg
open Go
open Go.Abs (Ze Zj tmm)
def Yoi(m:Mch)(n:Nat):List Nat:=(List.range n).filter λi=>Q9 m i
theorem Ysb(m:Mch):Zr9 m=(Yoi m (mT m).length).map λ(i:Nat)=>((i:Int),()):=by
 have key:∀(l:List Tsk) (s:List (Int×Unit)) (k:Nat),(l.foldl (λs _=>Zpf m s) (s,k)).1=s++((List.range' k l.length).filter λi=>Q9 m i).map λ(i:Nat)=>((i:Int),()):=by
  intro l
  induction l with
  | nil=>intro s k;simp
  | cons t l ih=>intro s k;rw[List.foldl_cons,show Zpf m (s,k)=(bif Q9 m k then s++[((k:Int),())]else s,k+1) from rfl,ih,J0p,List.range'_succ,List.filter_cons];cases Q9 m k<;>simp
 grind[Zr9,Yoi,List.range_eq_range']
end Tg
/- What the functions of tasks answer, in plain words. -/
namespace Tg
open Go
open Go.Abs (Ze Zj tmm)
theorem Ypu{α:Type}{l:List α}{b:Nat}(h:l.length<=1000000)(hb:b<=1000):Zj b l=some (l,()):=by grind[Zj,Xd]
variable {t:Tsk}
theorem Z6l(h:TLen t):Zd2 t=some (t,()):=by have h1:=h.h1;have h2:=h.h2;have h3:=h.h3;have h4:=h.h4;have h5:=h.h5;have h6:=h.h6;grind[Z6d,Xd]
theorem tlen(h:Zy t=true):TLen t:=by obtain⟨h1,h2,h3,h4,h5,h6⟩:=Zdy h;exact⟨by omega,by omega,by omega,by omega,by omega,by omega⟩
def zT:Tsk:=(0,0,0,[],[],[],[],[],[],())
def Zy7(t:Tsk)(l:List Snd):Tsk:=(t.1,t.2.1,t.2.2.1,t.2.2.2.1++l,t.2.2.2.2)
theorem Yer{l:List Snd}(h:TLen t)(hl:l.length<=100000):Zm t l=some (bif Zy t then bif l.all sndB then bif decide (t.2.2.2.1.length+l.length<=4000)then(Zy7 t l,0,())else(zT,4,())else(zT,8,())else(zT,8,())):=by
 have h1:=h.h1;rw[Z92,h.chk,Ygj l (by omega),Z6l h];simp only[J0k];cases Zy t with
 | false=>rfl
 | true =>
  rw[cond_true,bne_self_eq_false,cond_false,cond_true];cases l.all sndB with
  | false=>rfl
  | true =>
   rw[Bool.not_true,cond_false,cond_true,w64 (x:=4000-Int.ofNat t.2.2.2.1.length) (by grind) (by grind)];by_cases e:t.2.2.2.1.length+l.length<=4000
   . rw[decide_eq_true e,cond_true,decide_eq_false (by grind),cond_false,Xd (show t.2.2.2.1.length+l.length<=1000000 by omega) (show 88<=1000 by omega)];rfl
   . rw[decide_eq_false e,cond_false,decide_eq_true (by grind)];rfl
theorem Ypv(h:Zy t=true):Zm t []=some (t,0,()):=by grind[Zdy,Yer,tlen,Zy7]
theorem Ypw{l:List Snd}(h:Zy t=true)(hl:l.all sndB=true)(hn:t.2.2.2.1.length+l.length<=4000):Zy (Zy7 t l)=true:=by unfold Zy at h ⊢;unfold Zy7;simp only[J0e,J0h,List.all_append,J0s]at h ⊢;obtain⟨a,b,c,d,e⟩:=h;exact⟨a,hn,c,⟨d,hl⟩,e⟩
theorem of_w{e:Evt}(h:evtB e=true):∃x,Zi0 e=some (x,0,())/\msgB x=true:=by
 rw[Zqj];simp only[Zqk,Zxl,J0k];unfold evtB at h;obtain⟨k,a,b,c,d,u⟩:=e;dsimp only at h ⊢;cases k with
 | true =>
  simp only[cond_true,J0e,beq_iff_eq]at h;obtain⟨h1,rfl,rfl,rfl⟩:=h;refine⟨(2,0,0,0,a,0,0,0,0,0,()),?_,?_⟩
  . rw[h1];rfl
  . unfold msgB;rw[show Ze8 ((2,0,0,0,a,0,0,0,0,0,()):Msg).2.2.2.2.1=true from h1];rfl
 | false =>
  simp only[cond_false,J0e,beq_iff_eq]at h;obtain⟨rfl,h1⟩:=h;refine⟨(1,b,c,d,0,0,0,0,0,0,()),?_,?_⟩
  . rw[h1];rfl
  . unfold msgB;rw[show Yx ((1,b,c,d,0,0,0,0,0,0,()):Msg).2.2.1=true from h1];rfl
def srcT(t:Tsk)(x:Msg)(l:List Evt):Tsk:=(t.1,t.2.1,t.2.2.1,[(0,x)],t.2.2.2.2.1,t.2.2.2.2.2.1,l,t.2.2.2.2.2.2.2)
theorem Yso{e:Evt}{l:List Evt}(h:Zy t=true)(h1:t.1=1)(hp:t.2.2.2.1=[])(he:t.2.2.2.2.2.2.1=e::l):∃x,msgB x=true/\Zy (srcT t x l)=true/\Zmz t=some (srcT t x l,0,()):=by
 obtain⟨z1,z2,z3,z4,z5,z6⟩:=Zdy h;have hu:=h;unfold Zy at h;simp only[J0e,J0h]at h;obtain⟨a,b,c,d,f,g,i,j⟩:=h;have hev:evtB e=true/\l.all evtB=true:=by grind
 obtain⟨x,x1,x2⟩:=of_w hev.1;have hB0:Zy (t.1,t.2.1,t.2.2.1,t.2.2.2.1,t.2.2.2.2.1,t.2.2.2.2.2.1,l,t.2.2.2.2.2.2.2)=true:=by grind[Zy,Zh3]
 have hs:([(0,x)]:List Snd).all sndB=true:=by grind[sndB]
 have hn:t.2.2.2.1.length+([(0,x)]:List Snd).length<=4000:=by grind
 have hP:=Yer (t:=(t.1,t.2.1,t.2.2.1,t.2.2.2.1,t.2.2.2.2.1,t.2.2.2.2.2.1,l,t.2.2.2.2.2.2.2)) (l:=[(0,x)]) (tlen hB0) (Nat.le_of_ble_eq_true rfl);rw[hB0,hs,decide_eq_true hn,cond_true,cond_true,cond_true]at hP;have hT:Zy7 (t.1,t.2.1,t.2.2.1,t.2.2.2.1,t.2.2.2.2.1,t.2.2.2.2.2.1,l,t.2.2.2.2.2.2.2) [(0,x)]=srcT t x l:=by grind[Zy7,srcT]
 refine⟨x,x2,?_,?_⟩
 . grind[Ypw]
 . rw[Z1b,Zyx,Zba hu];rw[hT]at hP;clear hT hB0 hs hn a b c d f g i j hu hev;obtain⟨k,N,u,pe,mk,st,ev,ro,la,w⟩:=t;dsimp only at *;subst h1 hp he;rw[J0k,bne_self_eq_false,cond_false,bne_self_eq_false,cond_false,J0k,bne_self_eq_false,cond_false,show decide (Int.ofNat ([]:List Snd).length>0)=false from rfl,cond_false,show(Int.ofNat (e::l).length==0)=false from beq_eq_false_iff_ne.2 (by grind),cond_false,J0q,J0k,x1,J0k,Ypu (show(e::l).length<=1000000 by omega) (show 40<=1000 by omega),J0k];grind
end Tg

/- A machine is copied; a step of a source. -/
namespace Tg
open Go
open Go.Abs (Ze Zj tmm)
theorem set_self{α:Type}{l:List α}{i:Nat}{e:α}(h:l[i]? = some e):l.set i e=l:=by grind[List.set_getElem_self]
def mW(m:Mch)(t:List Tsk)(u:List Que):Mch:=(m.1,m.2.1,m.2.2.1,m.2.2.2.1,m.2.2.2.2.1,m.2.2.2.2.2.1,m.2.2.2.2.2.2.1,m.2.2.2.2.2.2.2.1,m.2.2.2.2.2.2.2.2.1,m.2.2.2.2.2.2.2.2.2.1,m.2.2.2.2.2.2.2.2.2.2.1,m.2.2.2.2.2.2.2.2.2.2.2.1,t,u,())
variable {m:Mch}
theorem Zy8(ht:∀t∈mT m,Zy t=true)(hu:∀u∈mU m,queB u=true)(h1:(mT m).length<=1000)(h2:(mU m).length<=1000):Zd3 m=some (m,()):=by
 have hf:=Zu;have e11:∀n,1001<=n->Zbe n m.1 m.2.1 m.2.2.1 m.2.2.2.1 m.2.2.2.2.1 m.2.2.2.2.2.1 m.2.2.2.2.2.2.1 m.2.2.2.2.2.2.2.1 m.2.2.2.2.2.2.2.2.1 m.2.2.2.2.2.2.2.2.2.1 m.2.2.2.2.2.2.2.2.2.2.1 m.2.2.2.2.2.2.2.2.2.2.2.1 (mT m) (mU m) (Int.ofNat (mU m).length) 0=some (m,()):=λn hn=>by
  refine(Zcv (f:=λn k=>Zbe n m.1 m.2.1 m.2.2.1 m.2.2.2.1 m.2.2.2.2.1 m.2.2.2.2.2.1 m.2.2.2.2.2.2.1 m.2.2.2.2.2.2.2.1 m.2.2.2.2.2.2.2.2.1 m.2.2.2.2.2.2.2.2.2.1 m.2.2.2.2.2.2.2.2.2.2.1 m.2.2.2.2.2.2.2.2.2.2.2.1 (mT m) (mU m) (Int.ofNat (mU m).length) k) (l:=mU m) (p:=λ_=>true) (bad:=none) (fin:=some (m,())) (N:=0)
   (λn i u hi=>?_) (λn _=>by rw[Zmy,geL,cond_false];rfl) n (by omega)).trans (by grind)
  grind[Zic,Zmy,Zeu,Ypu,wS,set_self]
 have e4:=Zcv (f:=λn k=>Zem n m.1 m.2.1 m.2.2.1 m.2.2.2.1 m.2.2.2.2.1 m.2.2.2.2.2.1 m.2.2.2.2.2.2.1 m.2.2.2.2.2.2.2.1 m.2.2.2.2.2.2.2.2.1 m.2.2.2.2.2.2.2.2.2.1 m.2.2.2.2.2.2.2.2.2.2.1 m.2.2.2.2.2.2.2.2.2.2.2.1 (mT m) (mU m) (Int.ofNat (mT m).length) k) (l:=mT m) (p:=λ_=>true) (bad:=none) (fin:=some (m,())) (N:=1100)
  (λn i t hi=>by grind[Zop,Zeu,Ypv,wS,Int.toNat_natCast,set_self])
  (λn hn=>by obtain⟨k,rfl⟩:∃k,n=k+1:=⟨n-1,by omega⟩;grind[Zop,Z1a]) fuel (by omega)
 rw[List.all_eq_true.2 λ_ _=>rfl,cond_true]at e4;rw[Z6i,Xd (show m.2.2.2.2.2.2.2.2.2.2.2.2.1.length<=1000000 from Nat.le_trans h1 (Nat.le_of_ble_eq_true rfl)) (show 168<=1000 by omega),Xd (show m.2.2.2.2.2.2.2.2.2.2.2.2.2.1.length<=1000000 from Nat.le_trans h2 (Nat.le_of_ble_eq_true rfl)) (show 32<=1000 by omega)];exact e4
variable {t:Tsk}
theorem Z3g{i:Nat}{e:Evt}{l:List Evt}(ht:∀t∈mT m,Zy t=true)(hu:∀u∈mU m,queB u=true)(h1:(mT m).length<=1000)(h2:(mU m).length<=1000)
    (hi:(mT m)[i]? = some t) (h0:t.1=1) (hp:t.2.2.2.1=[]) (he:t.2.2.2.2.2.2.1=e::l):∃x,msgB x=true/\Zy (srcT t x l)=true/\Zd4 m (i:Int)=some (mW m ((mT m).set i (srcT t x l)) (mU m),true,()):=by
  obtain⟨x,x1,x2,x3⟩:=Yso (ht t (J0j hi)) h0 hp he;refine⟨x,x1,x2,?_⟩;have hi' : m.2.2.2.2.2.2.2.2.2.2.2.2.1[i]? = some t:=hi;rw[Zjl,ix_s hi',hp,List.length_nil,show decide (Int.ofNat 0>0)=false from rfl,cond_false,h0,bne_self_eq_false,cond_false,x3,J0k,Zy8 ht hu h1 h2,J0k,Zeu hi',J0l];rfl
theorem Zq9{α:Type}{p:Nat->α->Bool}:∀{l:List α} {k i:Nat} {e:α},allI p k l=true->p (k+i) e=true->allI p k (l.set i e)=true
 | [],_,_,_,_,_=>rfl
 | a::l,k,0,e,h,he=>by grind[allI]
 | a::l,k,i+1,e,h,he=>by rw[allI,J0e]at h;rw[List.set_cons_succ,allI,J0e];exact⟨h.1,Zq9 h.2 (by grind)⟩
theorem Yes{b:Bool}(h:mchB b m=true){i:Nat}(ht:fitB m.2.2.2.1 m.2.2.2.2.2.2.2.2.2.1 (mG m) i t=true):mchB b (mW m ((mT m).set i t) (mU m))=true:=by
 unfold mchB at h ⊢;simp only[J0e]at h ⊢;obtain⟨h1,h2,h3,h4,h5,h6⟩:=h;refine⟨h1,h2,?_,h4,h5,?_⟩
 . show(((mT m).set i t).length==(mG m).1.length)=true;grind
 . exact Zq9 h6 (by rw[Nat.zero_add];exact ht)
end Tg

/- A step by turns: who may do it. -/
namespace Tg
open Go
open Go.Abs (Ze Zj tmm)
def zMch:Mch:=(0,[],[],false,[],0,0,0,false,0,[],[],[],[],())
section
variable {b:Bool} {m:Mch} (hq:QOk (mQ m) b) (hm:MLen m) (h:mchB b m=true)
include hq hm h
theorem Zy9{i:Nat}(hi:i<(mT m).length):Zgi m (i:Int)=some (0,()):=by rw[Zjc,Zur m b hq hm,h,cond_true,J0k,bne_self_eq_false,cond_false,decide_eq_false (show ¬(i:Int)<0 by omega),cond_false,decide_eq_false (show ¬(i:Int)>=Int.ofNat m.2.2.2.2.2.2.2.2.2.2.2.2.1.length from by have:i<m.2.2.2.2.2.2.2.2.2.2.2.2.1.length:=hi;grind)];rfl
theorem Yjb{op:Int}(ho:op<0∨((mT m).length:Int)<=op):Zgi m op=some (51,()):=by
 rw[Zjc,Zur m b hq hm,h,cond_true,J0k,bne_self_eq_false,cond_false];rcases ho with ho|ho
 . grind
 . rw[decide_eq_true (show op>=Int.ofNat m.2.2.2.2.2.2.2.2.2.2.2.2.1.length from ho)];grind
theorem Ypx{op:Int}(ho:op<0∨((mT m).length:Int)<=op):Zd5 m op=some (zMch,51,()):=by rw[Zhi,Yjb hq hm h ho];rfl
theorem Ysp{i:Nat}(hi:i<(mT m).length)(ha:Q9 m i=false):Zd5 m (i:Int)=some (zMch,6,()):=by rw[Zhi,Zy9 hq hm h hi,J0k,bne_self_eq_false,cond_false,Znp h hi,ha];rfl
theorem Zpj{i:Nat}(hi:i<(mT m).length)(ha:Q9 m i=true){x:Mch}(hb:Zd4 m (i:Int)=some (x,true,())):Zd5 m (i:Int)=some (x,0,()):=by grind[Zhi,Zy9,Znp]
end
variable {b:Bool}{m:Mch}
theorem Zhj(h:mchB b m=true):∀t∈mT m,Zy t=true:=λt ht=>by obtain⟨_,_,_,_,_,_,_,hts⟩:=Zaa h;grind[List.getElem?_of_mem,fitB]
theorem mlen(h:mchB b m=true):MLen m:=by obtain⟨_,_,h1,h2,h3,h4,h5,_⟩:=Zaa h;exact⟨λt ht=>tlen (Zhj h t ht),λq hq=>by grind[Zic],by omega,by omega,by omega,by omega⟩
theorem Ypy(hq:QOk (mQ m) b)(h:mchB b m=true){i:Nat}{t:Tsk}{e:Evt}{l:List Evt}(hi:(mT m)[i]? = some t)(h0:t.1=1)(hp:t.2.2.2.1=[])(he:t.2.2.2.2.2.2.1=e::l) :
    ∃t',t'.2.2.2.1≠[]/\Zd5 m (i:Int)=some (mW m ((mT m).set i t') (mU m),0,())/\mchB b (mW m ((mT m).set i t') (mU m))=true:=by
  obtain⟨_,hr,g1,g2,h3,h4,h5,hts⟩:=Zaa h;have hl:=(J0d.1 hi).1;obtain⟨x,x1,x2,x3⟩:=Z3g (Zhj h) h5 (by omega) (by omega) hi h0 hp he;have ha:Q9 m i=true:=by rw[Zhe hi];grind[Zhc]
  refine⟨srcT t x l,by simp[srcT],Zpj hq (mlen h) h hl ha x3,Yes h ?_⟩;have hf:=hts i t hi;obtain⟨o,ho⟩:∃o,(mG m).1[i]? = some o:=⟨_,J0c (by omega)⟩;have hb:=(hr.2.2 i o ho).2;unfold fitB at hf ⊢;rw[ho]at hf ⊢;simp only[J0e]at hf ⊢;grind[srcT,Zh2,bnd]
end Tg

/- What an operator sends. -/
namespace Tg
open Go
open Go.Abs (Ze Zj tmm)
abbrev zX:Msg:=(0,0,0,0,0,0,0,0,0,0,())
theorem cp_w{α:Type}(l:List α)(z:α){n:Nat}(h:l.length<=n):List.take (min l.length (List.replicate n z).length) l++List.drop (min l.length (List.replicate n z).length) (List.replicate n z)=l++List.replicate (n-l.length) z:=by grind
variable {x:Msg}
theorem Y09{q:Que}(h:queB q=true)(hx:msgB x=true)(hr:(q.2.1.length:Int)<q.1):Zmr q x=some ((q.1,q.2.1++[x],()),0,()):=by
 have hl:=Zic h;rw[Z01,Zgh h,Q8,hx];have e1:Go.IntKind.wrap .i64 (Int.ofNat q.2.1.length+1)=((q.2.1.length+1:Nat):Int):=wS (by omega);have e2:(Int.ofNat q.2.1.length==q.1)=false:=beq_eq_false_iff_ne.2 (by grind);have e3:(decide (Int.toNat ((q.2.1.length+1:Nat):Int)<=Int.toNat ((q.2.1.length+1:Nat):Int))&&(decide (80*Int.toNat ((q.2.1.length+1:Nat):Int)<=281474976710656)&&decide (Int.toNat ((q.2.1.length+1:Nat):Int)<=9223372036854775807)))=true:=by grind
 rw[J0k,bne_self_eq_false,cond_false,J0k,cond_true,bne_self_eq_false,cond_false,e2,cond_false,e1,iN,cond_true,cond_true,e3,cond_true,J0l];simp_all
theorem Yxa{q:Que}{l:List Msg}(h:queB q=true)(hq:q.2.1=x::l):Zjg q=some (x,(q.1,l,()),0,()):=by
 have hl:=Zic h;rw[Zyj,Zgh h];have e2:(Int.ofNat q.2.1.length==0)=false:=beq_eq_false_iff_ne.2 (by grind);have e3:(decide (Int.toNat (Int.ofNat q.2.1.length)<=Int.toNat (Int.ofNat q.2.1.length))&&(decide (80*Int.toNat (Int.ofNat q.2.1.length)<=281474976710656)&&decide (Int.toNat (Int.ofNat q.2.1.length)<=9223372036854775807)))=true:=by grind
 rw[J0k,bne_self_eq_false,cond_false,e2,cond_false,e3,cond_true];have ec:=cp_w q.2.1 zX (n:=Int.toNat (Int.ofNat q.2.1.length)) (Nat.le_refl _);rw[ec,show Int.toNat (Int.ofNat q.2.1.length)=q.2.1.length from rfl,Nat.sub_self,List.replicate_zero,List.append_nil,hq];rw[decide_eq_true (show 0<(x::l).length by simp),cond_true,J0q,J0k,decide_eq_true rfl,cond_true];rw[show(decide (1<=(x::l).length)&&decide ((x::l).length<=(x::l).length))=true by simp,cond_true];cases l with
 | nil=>rfl
 | cons y l=>simp_all
def Zm2(t:Tsk)(l:List Snd):Tsk:=(t.1,t.2.1,t.2.2.1,l,t.2.2.2.2)
theorem Yxb{t:Tsk}{outs:List Que}{s:Snd}{l:List Snd}{k:Nat}{q:Que}(h:Zy t=true)(h3:outs.length<=3)(h5:outs.all queB=true)(hp:t.2.2.2.1=s::l)(hk:s.1=(k:Int))(hq:outs[k]? = some q)(hr:(q.2.1.length:Int)<q.1) :
    Zsj t outs=some (Zm2 t l,outs.set k (q.1,q.2.1++[s.2],()),0,())/\Zy (Zm2 t l)=true:=by
  have hf:=Zu;have hkl:=(J0d.1 hq).1;have hqB:=List.all_eq_true.1 h5 q (J0j hq);have hT:=h;have hlen:=(Zdy h).1;unfold Zy at h;simp only[J0e,J0h]at h;obtain⟨a,b,c,d,e⟩:=h;rw[hp,List.all_cons,J0e]at d;have hs:msgB s.2=true:=by grind[sndB]
  constructor
  . rw[Z95,Zi8 hT (by simp) h3 (by rfl) h5,hp];have e1:(Int.ofNat (s::l).length==0)=false:=beq_eq_false_iff_ne.2 (by grind);rw[J0k,bne_self_eq_false,cond_false,e1,cond_false,J0q,J0k,hk,decide_eq_false (show ¬((k:Int)>=Int.ofNat outs.length) by grind),cond_false,ix_s hq,Y09 hqB hs hr,J0k,bne_self_eq_false,cond_false,Xd (show outs.length<=1000000 by omega) (show 32<=1000 by omega),cond_true,J0k];have lp:=Zcv (f:=λn i=>Zel n t.1 t.2.1 t.2.2.1 (s::l) t.2.2.2.2.1 t.2.2.2.2.2.1 t.2.2.2.2.2.2.1 t.2.2.2.2.2.2.2.1 t.2.2.2.2.2.2.2.2.1 (k:Int) q.1 (q.2.1++[s.2]) outs (Int.ofNat outs.length) i) (l:=outs) (p:=λ_=>true) (bad:=none)
     (fin:=some (Zm2 t l,outs.set k (q.1,q.2.1++[s.2],()),0,())) (N:=5)
     (λn i u hi=>by grind[Zic,Zom,Zeu,Ypu,wS,Int.toNat_natCast,set_self])
     (λn hn=>by obtain⟨m,rfl⟩:∃m,n=m+1:=⟨n-1,by omega⟩;rw[Zom,geL,cond_false,Z07,Zeu hq,J0l];rw[show Zd2 (t.1,t.2.1,t.2.2.1,s::l,t.2.2.2.2.1,t.2.2.2.2.2.1,t.2.2.2.2.2.2.1,t.2.2.2.2.2.2.2.1,t.2.2.2.2.2.2.2.2.1,())=some (t,()) by grind[Z6l,tlen]];rw[J0k,hp,decide_eq_true (show 1<=(s::l).length by simp),cond_true,List.take_length,List.drop_one,List.tail_cons];rfl) fuel (by omega)
    grind
  . unfold Zy Zm2;simp only[J0e,J0h];rw[hp]at hlen;simp only[J0p]at hlen;exact⟨a,by omega,c,d.2,e⟩
end Tg

/- A step that sends. -/
namespace Tg
open Go
open Go.Abs (Ze Zj tmm)
theorem Yai{x:Gr}(h:Tj.Zfa x.1 x.2.1)(b:Bool)(op:Int):(joinL b x op).Nodup:=by grind[joinL,Tj.Ztl,Znm]
theorem Zm3{u:List Que}:∀{l:List (Int×Unit)} {k:Nat} {j:Nat} {q:Que},(∀y∈l,∃i:Nat,i<u.length/\y=((i:Int),()))->l[k]? = some ((j:Int),())->u[j]? = some q->(qsAt u l)[k]? = some q
 | [],_,_,_,_,h,_=>by simp at h
 | y::l,k,j,q,hl,h,hq=>by
  obtain⟨i,hi,rfl⟩:=hl y (by simp);have e:qsAt u (((i:Int),())::l)=u[i]::qsAt u l:=by grind[qsAt]
  rw[e];cases k with
  | zero=>grind
  | succ k=>rw[List.getElem?_cons_succ]at h ⊢;exact Zm3 (λz hz=>hl z (by simp[hz])) h hq
theorem Yhj{u:List Que}:∀{l:List (Int×Unit)} {k:Nat} {q:Que},(∀y∈l,∃i:Nat,i<u.length/\y=((i:Int),()))->(qsAt u l)[k]? = some q -> ∃j:Nat,l[k]? = some ((j:Int),())/\u[j]? = some q:=λ{l k q} hl h=>by grind[Zid,List.getElem_mem,Zm3]
theorem Ypz{m:Mch}(h5:∀q∈mU m,queB q=true)(l:List (Int×Unit)):(qsAt (mU m) l).all queB=true:=by grind[qsAt]
theorem Zza{j:Nat}{q:Que}:∀(l:List (Int×Unit)) (s:List Que),l.foldl (λs e=>bif e.1==(j:Int)then s.set j q else s) (s.set j q)=s.set j q
 | [],_=>rfl
 | e::l,s=>by
  rw[List.foldl_cons];cases e.1==(j:Int)with
  | true=>rw[cond_true,List.set_set];exact Zza l s
  | false=>exact Zza l s
theorem Yhk{j:Nat}{q:Que}:∀(l:List (Int×Unit)) (s:List Que),((j:Int),())∈l->l.foldl (λs e=>bif e.1==(j:Int)then s.set j q else s) s=s.set j q
 | [],_,h=>by cases h
 | e::l,s,h=>by
  rw[List.foldl_cons];cases he:e.1==(j:Int)with
  | true=>exact Zza l s
  | false=>refine Yhk l s ?_;grind
section
variable {b:Bool} {m:Mch} (h:mchB b m=true)
include h
theorem Z6m(c:Bool)(i:Nat):∀y∈joinL c (mG m) (i:Int),∃k:Nat,k<(mU m).length/\y=((k:Int),()):=λy hy=>by grind[Zaa,Z2y]
theorem Yet{i:Nat}{t:Tsk}{s:Snd}{l:List Snd}(hi:(mT m)[i]? = some t)(hp:t.2.2.2.1=s::l)(ha:Q9 m i=true) :
    ∃(j k:Nat) (q:Que),s.1=(k:Int)/\(joinL false (mG m) (i:Int))[k]? = some ((j:Int),())/\(mU m)[j]? = some q/\(q.2.1.length:Int)<q.1/\Zy (Zm2 t l)=true/\msgB s.2=true /\
     Zd4 m (i:Int)=some (mW m ((mT m).set i (Zm2 t l)) ((mU m).set j (q.1,q.2.1++[s.2],())),true,()):=by
  have hf:=Zu;obtain⟨_,hr,g1,g2,h3,h4,h5,hts⟩:=Zaa h;have hl:=(J0d.1 hi).1;have hB:=Zhj h t (J0j hi);have hJ:=Z6m h false i;have hn:=Zbk hr false (i:Int);have hc:=Zi9 hr (i:=i) (by omega);have hs:=hts i t hi;have hms:0<=s.1/\msgB s.2=true:=by grind[Zy,sndB]
  have hsl:s.1<(cnt false (i:Int) (mG m).2.1:Int):=by grind[fitB]
  obtain⟨k,hk⟩:∃k:Nat,s.1=(k:Int):=⟨s.1.toNat,by omega⟩;have hkl:k<(joinL false (mG m) (i:Int)).length:=by omega
  obtain⟨j,hj,ej⟩:=hJ _ (List.getElem_mem hkl);have hy:(joinL false (mG m) (i:Int))[k]? = some ((j:Int),()):=by grind
  obtain⟨q,hq⟩:∃q,(mU m)[j]? = some q:=⟨_,J0c hj⟩;have hqk:=Zm3 hJ hy hq;have hroom:(q.2.1.length:Int)<q.1:=by rw[Zhe hi]at ha;grind[Zhc]
  have hol:=Zid hJ;obtain⟨e1,e2⟩:=Yxb hB (by omega) (Ypz h5 (joinL false (mG m) (i:Int))) hp hk hqk hroom;refine⟨j,k,q,hk,hy,hq,hroom,e2,hms.2,?_⟩;have hi' : m.2.2.2.2.2.2.2.2.2.2.2.2.1[i]? = some t:=hi;have hnd:=Yai hr false (i:Int);have lp:=Z8a (f:=λn u z=>Zdi n m.1 m.2.1 m.2.2.1 m.2.2.2.1 m.2.2.2.2.1 m.2.2.2.2.2.1 m.2.2.2.2.2.2.1 m.2.2.2.2.2.2.2.1 m.2.2.2.2.2.2.2.2.1 m.2.2.2.2.2.2.2.2.2.1 m.2.2.2.2.2.2.2.2.2.2.1 m.2.2.2.2.2.2.2.2.2.2.2.1 ((mT m).set i (Zm2 t l)) u ((qsAt (mU m) (joinL false (mG m) (i:Int))).set k (q.1,q.2.1++[s.2],())) (joinL false (mG m) (i:Int)) (Int.ofNat (joinL false (mG m) (i:Int)).length) z)
   (l:=joinL false (mG m) (i:Int)) (g:=λu e=>bif e.1==(j:Int)then u.set j (q.1,q.2.1++[s.2],())else u) (fin:=λu=>some (mW m ((mT m).set i (Zm2 t l)) u,true,())) (N:=0)
   (λ_ u=>u=mU m∨u=(mU m).set j (q.1,q.2.1++[s.2],()))
   (λn u d e hd hu=>by
    have hdl:=(J0d.1 hd).1;obtain⟨j',hj',rfl⟩:=hJ e (J0j hd);obtain⟨v,hv⟩:∃v,(mU m)[j']? = some v:=⟨_,J0c hj'⟩;have hqd:=Zm3 hJ hd hv;by_cases ek:d=k
    . subst ek;obtain rfl:j' = j:=by grind
      have hu' : ∃v',u[j']? = some v' := by grind
      obtain⟨v',hv'⟩:=hu';constructor
      . rw[Zgp,ltL hd,cond_true,ix_s hd,ix_s (e:=(q.1,q.2.1++[s.2],())) (by grind),Zeu hv',wS (show d<1000000000000 by omega),J0l,beq_self_eq_true];rfl
      grind[List.set_set]
    . have ne:j' ≠ j:=λe=>by grind[List.getElem?_inj]
      have hu' : u[j']? = some v:=by grind
      constructor
      . rw[Zgp,ltL hd,cond_true,ix_s hd,ix_s (e:=v) (by grind),Zeu hu',wS (show d<1000000000000 by omega),J0l,show u.set j' (v.1,v.2.1,v.2.2)=u from set_self hu',show((j' : Int)==(j:Int))=false from beq_eq_false_iff_ne.2 (by omega)];rfl
      grind)
   (λn u _ _=>by rw[Zgp,geL,cond_false];rfl) fuel (mU m) (.inl rfl) (by omega)
  rw[Zjl,ix_s hi',hp,show decide (Int.ofNat (s::l).length>0)=true from decide_eq_true (by grind),cond_true];rw[show Ya (m.2.2.2.2.2.2.2.2.2.2.1,m.2.2.2.2.2.2.2.2.2.2.2.1,()) (i:Int)=some (joinL false (mG m) (i:Int),()) from Znn hr g2 (by omega),J0k,Zqv m _ (by omega) hJ,J0k,e1,J0k,Zy8 (Zhj h) h5 (by omega) (by omega),J0k,Zeu hi',J0l];refine lp.trans ?_;grind[Yhk]
end
end Tg

/- What is taken never stands still: expressions. -/
namespace Tg
open Go
open Go.Abs (Ze Zj tmm)
theorem b63(a:Int):decide (Go.bits .and .i64 a 63<0)=false:=by
 have h:(BitVec.ofInt 64 a &&& BitVec.ofInt 64 63).toNat<=63:=by grind[Nat.and_le_right]
 refine decide_eq_false ?_;show ¬Go.IntKind.wrap .i64 ((BitVec.ofInt 64 a &&& BitVec.ofInt 64 63).toNat:Int)<0;grind[w64]
theorem Ysq(b:Bool):Xl b=some (bif b then 1 else 0,()):=by grind[Z5w]
theorem Yxc(k a b:Int):∃v e,Z5x k a b=some (v,e,()):=by
 rw[Yiz];simp only[Ysq,J0k,b63,cond_false];cases k==5<;>cases k==6<;>cases k==7<;>cases k==8<;>cases k==9<;>try exact⟨_,_,rfl⟩
 cases k==10<;>cases k==11<;>cases k==12<;>cases k==13<;>cases k==14<;>try exact⟨_,_,rfl⟩
 cases k==15<;>cases k==16<;>cases k==17<;>cases k==18<;>cases k==19<;>try grind
 all_goals cases a != 0<;>exact⟨_,_,rfl⟩
theorem Zzb{l:List Nd5}(hl:l.length<=60)(hok:∀(i:Nat) x,l[i]? = some x->okN i x)(x0 x1 x2 x3 x4:Int):∀(d i n:Nat) (v:List (Int×Unit)),i+d=l.length->v.length=l.length->d+1<=n ->
    ∃w e,Yp n x0 x1 x2 x3 x4 v l (Int.ofNat l.length) (i:Int)=some (w,e,())/\(e=0->w.length=l.length)
  | 0,i,n,v,h1,h2,h3=>by
   obtain⟨m,rfl⟩:∃m,n=m+1:=⟨n-1,by omega⟩;obtain rfl:i=l.length:=by omega
   rw[Zoq,geL,cond_false];grind
  | d+1,i,n,v,h1,h2,h3=>by
   obtain⟨m,rfl⟩:∃m,n=m+1:=⟨n-1,by omega⟩;obtain⟨x,hx⟩:∃x,l[i]? = some x:=⟨_,J0c (by omega)⟩;obtain⟨c,hc⟩:∃c,v[i]? = some c:=⟨_,J0c (by omega)⟩;obtain⟨o1,o2,o3,o4,o5,o6,_⟩:=hok i x hx;have ih:=λv' (h:v'.length=l.length)=>Zzb hl hok x0 x1 x2 x3 x4 d (i+1) m v' (by omega) h (by omega);have hs:∀z:Int×Unit,(v.set i z).length=l.length:=λz=>by grind
   rw[Zoq,ltL hx,cond_true,ix_s hx,wS (show i<1000000000000 by omega)];simp only[Zeu hc,J0l];cases x.1==1 with
   | true=>exact ih _ (hs _)
   | false =>
    rw[cond_false];by_cases h4:x.1<=4
    . rw[decide_eq_true h4,cond_true,decide_eq_true (show(0:Int)<=x.1 by omega),cond_true];obtain h|h|h|h:x.1.toNat=1∨x.1.toNat=2∨x.1.toNat=3∨x.1.toNat=4:=by omega
      all_goals
       grind
    . rw[decide_eq_false h4,cond_false];obtain⟨a,ha⟩:∃a:Nat,x.2.2.1=(a:Int):=⟨x.2.2.1.toNat,by omega⟩;obtain⟨b,hb⟩:∃b:Nat,x.2.2.2.1=(b:Int):=⟨x.2.2.2.1.toNat,by omega⟩;obtain⟨ca,hca⟩:∃c,v[a]? = some c:=⟨_,J0c (by omega)⟩;obtain⟨cb,hcb⟩:∃c,v[b]? = some c:=⟨_,J0c (by omega)⟩;obtain⟨r,e,hr⟩:=Yxc x.1 ca.1 cb.1;rw[ha,hb,Zeu hca,Zeu hcb,hr,J0k];grind
theorem Z3h(l:List Nd5)(r:Rec3):∃v e,Zq5 l r=some (v,e,()):=by
 rw[Yeg,Z98,Z02];rw[show Zme l=some (ofK l) from Yof l];simp only[J0k];cases he:(ofK l).2.2.1 != 0 with
 | true=>grind
 | false =>
  have h0:errN l=0:=by grind[ofK]
  obtain⟨h60,h1,hok⟩:=err0 h0;have hf:=Zu;rw[cond_false,show(decide (Int.toNat (Int.ofNat l.length)<=Int.toNat (Int.ofNat l.length))&&(decide (8*Int.toNat (Int.ofNat l.length)<=281474976710656)&&decide (Int.toNat (Int.ofNat l.length)<=9223372036854775807)))=true by grind,cond_true];obtain⟨w,e,k1,k2⟩:=Zzb h60 hok 0 0 r.1 r.2.1 r.2.2.1 l.length 0 fuel (List.replicate (Int.toNat (Int.ofNat l.length)) (0,())) (by omega) (by grind) (by omega);rw[show(0:Int)=((0:Nat):Int) from rfl]at *;rw[k1,J0k];cases hz:e != ((0:Nat):Int)with
  | true=>grind
  | false=>have:=k2 (by simpa using hz);obtain⟨c,hc⟩:∃c,w[w.length-1]? = some c:=⟨_,J0c (by omega)⟩;grind[w64,ix_s]
theorem Yaj(q:Qry)(r:Rec3)(hr:Yx r.2.1=true):∃r' ok e,Zgo q r=some (r',ok,e,())/\(ok=true->r'.2.1=r.2.1):=by
 obtain⟨n,hn⟩:∃n,fuel=n+2:=⟨fuel-2,by grind[Zu]⟩;rw[Zsl,Zhh,show Yk q=some (chkQ q) from Zie q];have hm:msgB (1,r.1,r.2.1,r.2.2.1,0,0,0,0,0,0,())=true:=by unfold msgB;rw[show Yx ((1,r.1,r.2.1,r.2.2.1,0,0,0,0,0,0,()):Msg).2.2.1=true from hr];rfl
 have k13:∀m x0 x1 x2 x4,∃r' ok e,Zam (m+1) x0 x1 x2 r.2.1 x4=some (r',ok,e,())/\(ok=true->r'.2.1=r.2.1):=λm x0 x1 x2 x4=>by grind[Zpi]
 have k6:∀x0 x1 x2,∃r' ok e,Zdh fuel x0 x1 x2 r.1 r.2.1 r.2.2.1=some (r',ok,e,())/\(ok=true->r'.2.1=r.2.1):=λx0 x1 x2=>by
  rw[hn,Zq6];obtain⟨v,e,hv⟩:=Z3h x1 (r.1,r.2.1,r.2.2.1,());rw[hv,J0k];cases x0 != 1 with
  | true=>exact k13 _ _ _ _ _
  | false=>exact k13 _ _ _ _ _
 simp only[J0k,Q8,hm,cond_true,bne_self_eq_false,cond_false];cases((chkQ q).2.1==0)with
 | false=>grind
 | true =>
  rw[Bool.not_true,cond_false];obtain⟨v,e,hv⟩:=Z3h q.2.2.2.2.1 r;cases decide (Int.ofNat q.2.2.2.2.1.length>0)with
  | false=>exact k6 _ _ _
  | true =>
   rw[cond_true,hv,J0k];cases v==0 with
   | true=>grind
   | false=>exact k6 _ _ _
end Tg

/- What is taken: filters, splits and sinks. -/
namespace Tg
open Go
open Go.Abs (Ze Zj tmm)
structure Nxt(t t' : Tsk) (o:Int):Prop where
 B:Zy t' = true
 k:t'.1=t.1
 n:t'.2.1=t.2.1
 ms:t'.2.2.2.2.1.length=t.2.2.2.2.1.length
 ev:t'.2.2.2.2.2.2.1=t.2.2.2.2.2.2.1
 out:∀s∈t'.2.2.2.1,s.1<o
def Ret(t:Tsk)(o:Int)(r:Option (Tsk×Int×Unit)):Prop:=∃t' e,r=some (t',e,())/\(e=0->Nxt t t' o)
variable {t:Tsk}{o:Int}
theorem Qa{z: Tsk}{e: Int}(h:(e != 0)=true):Ret t o (some (z,e,())):=⟨z,e,rfl,λh0=>by grind⟩
theorem Zm4{t1: Tsk}{l:List Snd}(h:TLen t1)(hl:l.length<=100000)(e1:t1.1=t.1)(e2:t1.2.1=t.2.1)(e3:t1.2.2.2.2.1.length=t.2.2.2.2.1.length)(e4:t1.2.2.2.2.2.2.1=t.2.2.2.2.2.2.1)(e5:t1.2.2.2.1=[])(ho:∀s∈l,s.1<o) :
    Ret t o ((Zm t1 l).bind λe=>some (e.1,e.2.1,())):=by
  rw[Yer h hl];cases hB:Zy t1 with
  | false=>exact Qa rfl
  | true =>
   cases hs:l.all sndB with
   | false=>exact Qa rfl
   | true =>
    by_cases hn:t1.2.2.2.1.length+l.length<=4000
    . rw[decide_eq_true hn];refine⟨Zy7 t1 l,0,rfl,λ_=>⟨Ypw hB hs hn,e1,e2,e3,e4,λs hs=>ho s ?_⟩⟩;have hs:s∈t1.2.2.2.1++l:=hs;rwa [e5]at hs
    grind[Qa]
theorem Yjc{q:Qry}{x:Msg}(h:Zy t=true)(h1:t.1=2)(hp:t.2.2.2.1=[])(hx:msgB x=true)(ho:0<o)(ho2:q.2.2.2.2.2.2.2.2.2.1=2->1<o):Ret t o (Zm0 q t x):=by
 have hT:=tlen h;have h2:=hT.h2;have h3:=hT.h3;have h4:=hT.h4;have h5:=hT.h5;have h6:=hT.h6;obtain⟨mk,hm⟩:∃mk,t.2.2.2.2.1=[mk]:=by unfold Zy at h;simp only[J0e]at h;have:=h.2.2.1;unfold Zh3 at this;rw[h1]at this;simp only[show((2:Int)==1)=false from rfl,cond_false,show((2:Int)==2)=true from rfl,cond_true,J0e,beq_iff_eq]at this;exact List.length_eq_one_iff.1 this.1
 have P0:Ret t o ((Zm t []).bind λe=>some (e.1,e.2.1,())):=Zm4 hT (Nat.zero_le _) rfl rfl rfl rfl hp (λs hs=>by cases hs);have P1:∀s:Snd,s.1<o->Ret t o ((Zm t [s]).bind λe=>some (e.1,e.2.1,())):=λs hs=>Zm4 hT (Nat.le_of_ble_eq_true rfl) rfl rfl rfl rfl hp (λs' hs' => by grind);have PM:∀z:Int×Unit,Ret t o ((Zm (t.1,t.2.1,t.2.2.1,t.2.2.2.1,t.2.2.2.2.1.set 0 z,t.2.2.2.2.2) [(0,x)]).bind λe=>some (e.1,e.2.1,())):=λz=>Zm4 ⟨hT.h1,by grind,h3,h4,h5,h6⟩ (Nat.le_of_ble_eq_true rfl) rfl rfl List.length_set rfl hp (λs hs=>by grind);have a0:(t.1 != 2)=false:=by rw[h1];rfl
 have hp0:decide (Int.ofNat t.2.2.2.1.length>0)=false:=by rw[hp];rfl
 have hm0:t.2.2.2.2.1[0]? = some mk:=by rw[hm];rfl
 have hm1:t.2.2.2.2.1.length=1:=by rw[hm];rfl
 rw[Z1c,Zhh,show Yk q=some (chkQ q) from Zie q,Zba h];simp only[J0k,Q8,hx,cond_true,bne_self_eq_false,cond_false,a0,hp0,hm0];cases((chkQ q).2.1==0)with
 | false=>exact Qa rfl
 | true =>
  rw[Bool.not_true,cond_false];by_cases k1:x.1=1
  . rw[show(x.1 != 1)=false by rw[k1];rfl,cond_false,show(x.1==2)=false by rw[k1];rfl,cond_false];have ht:Yx x.2.2.1=true:=by grind[msgB]
    cases decide (x.2.2.1<mk.1)with
    | true =>
     cases hl:q.2.2.2.2.2.2.2.2.2.1 != 2 with
     | true=>exact P0
     | false=>grind
    | false =>
     obtain⟨r',ok,e,hr,_⟩:=Yaj q (x.2.1,x.2.2.1,x.2.2.2.1,()) ht;rw[cond_false,hr,J0k];cases ok with
     | false=>exact P0
     | true=>exact P1 _ ho
  . rw[show(x.1 != 1)=true by simpa using k1,cond_true];by_cases k2:x.1=2
    . rw[show(x.1 != 2)=false by rw[k2];rfl,cond_false,show(x.1==2)=true by rw[k2];rfl,cond_true];cases decide (x.2.2.2.2.1<=mk.1)with
      | true=>exact P0
      | false=>grind[Xd]
    grind[Qa]
end Tg

/- What is taken: splits and sinks. -/
namespace Tg
open Go
open Go.Abs (Ze Zj tmm)
theorem Yak{α β:Type}(f:α->β):∀(l:List α) (s:List β),l.foldl (λs e=>s++[f e]) s=s++l.map f
 | [],s=>by simp
 | a::l,s=>by rw[List.foldl_cons,Yak f l];simp
theorem to_w(x:Msg)(l:List (Int×Unit))(hl:l.length<=1000):Zuu x l=some (l.map λe=>(e.1,x),()):=by
 have hf:=Zu;have:=Z8a (f:=λn s k=>Zjh n x.1 x.2.1 x.2.2.1 x.2.2.2.1 x.2.2.2.2.1 x.2.2.2.2.2.1 x.2.2.2.2.2.2.1 x.2.2.2.2.2.2.2.1 x.2.2.2.2.2.2.2.2.1 x.2.2.2.2.2.2.2.2.2.1 s l (Int.ofNat l.length) k) (l:=l) (g:=λ(s:List Snd) e=>s++[(e.1,x)]) (fin:=λs=>some (s,())) (N:=0) (λi s=>s.length<=i)
  (λn s i e h hp=>by grind[Zyk,ix_s,wS,Xd])
  (λn s _ _=>by grind[Zyk]) fuel [] (Nat.le_refl _) (by omega)
 grind[Yi1,Yak]
def nat0(n:Nat):List (Int×Unit):=(List.range n).map λi:Nat=>((i:Int),())
variable {t:Tsk}{x:Msg}
theorem Yp0{n:Nat}(h:Zy t=true)(h1:t.1=3)(hp:t.2.2.2.1=[])(hx:msgB x=true)(hn:1<=n/\n<=3):Ret t (n:Int) (Zsm t x (Int.ofNat n)):=by
 have hT:=tlen h;have hf:=Zu;have PL:∀l:List Snd,l.length<=1000->(∀s∈l,s.1<(n:Int))->Ret t (n:Int) ((Zm t l).bind λe=>some (e.1,e.2.1,())):=λl hl hs=>Zm4 hT (by omega) rfl rfl rfl rfl hp hs;have lp:∀d i k:Nat,i+d=n->d+1<=k->Zbw k t.1 t.2.1 t.2.2.1 t.2.2.2.1 t.2.2.2.2.1 t.2.2.2.2.2.1 t.2.2.2.2.2.2.1 t.2.2.2.2.2.2.2.1 t.2.2.2.2.2.2.2.2.1 x.1 x.2.1 x.2.2.1 x.2.2.2.1 x.2.2.2.2.1 x.2.2.2.2.2.1 x.2.2.2.2.2.2.1 x.2.2.2.2.2.2.2.1 x.2.2.2.2.2.2.2.2.1 x.2.2.2.2.2.2.2.2.2.1 (nat0 i) (Int.ofNat n) (i:Int)=(Zm t ((nat0 n).map λe=>(e.1,x))).bind λe=>some (e.1,e.2.1,()):=by
  intro d
  induction d with
  | zero=>intro i k hi hk;obtain⟨k,rfl⟩:∃j,k=j+1:=⟨k-1,by omega⟩;grind[Zor,nat0,to_w]
  | succ d ih =>
   intro i k hi hk;obtain⟨k,rfl⟩:∃j,k=j+1:=⟨k-1,by omega⟩;have hl:(nat0 i).length=i:=by unfold nat0;simp
   rw[Zor,decide_eq_true (show(i:Int)<Int.ofNat n by grind),cond_true,Xd (show(nat0 i).length+List.length [((i:Int),())]<=1000000 by grind) (show 8<=1000 by omega),cond_true,wS (show i<1000000000000 by omega)];rw[show nat0 i++[((i:Int),())]=nat0 (i+1) by grind[nat0,List.range_succ]];grind
 have a0:(t.1 != 3)=false:=by rw[h1];rfl
 have hp0:decide (Int.ofNat t.2.2.2.1.length>0)=false:=by rw[hp];rfl
 have hO:Z5y x.2.1 (Int.ofNat n)=some (Int.tmod (Go.IntKind.wrap .i64 (Int.tmod x.2.1 (Int.ofNat n)+Int.ofNat n)) (Int.ofNat n),0,()):=by grind[Yi0]
 rw[Z99,Zba h,hO];simp only[J0k,Q8,hx,cond_true,bne_self_eq_false,cond_false,a0,hp0];by_cases k1:x.1=1
 . rw[show(x.1 != 1)=false by rw[k1];rfl,cond_false,show(x.1==1)=true by rw[k1];rfl,cond_true,to_w x _ (Nat.le_of_ble_eq_true rfl),J0k];refine PL _ (Nat.le_of_ble_eq_true rfl) λs hs=>?_;rw[List.map_cons,List.map_nil,List.mem_singleton]at hs;rw[hs];exact Int.tmod_lt_of_pos _ (by grind)
 . rw[show(x.1 != 1)=true by simpa using k1,cond_true];by_cases k2:x.1=2
   . rw[show(x.1 != 2)=false by rw[k2];rfl,cond_false,show(x.1==1)=false by rw[k2];rfl,cond_false];rw[show Zbw fuel t.1 t.2.1 t.2.2.1 t.2.2.2.1 t.2.2.2.2.1 t.2.2.2.2.2.1 t.2.2.2.2.2.2.1 t.2.2.2.2.2.2.2.1 t.2.2.2.2.2.2.2.2.1 x.1 x.2.1 x.2.2.1 x.2.2.2.1 x.2.2.2.2.1 x.2.2.2.2.2.1 x.2.2.2.2.2.2.1 x.2.2.2.2.2.2.2.1 x.2.2.2.2.2.2.2.2.1 x.2.2.2.2.2.2.2.2.2.1 [] (Int.ofNat n) 0=_ from lp n 0 fuel (by omega) (by omega)];grind[nat0]
   grind[Qa]
theorem Ysr{o:Int}(h:Zy t=true)(h1:t.1=6∨t.1=7)(hp:t.2.2.2.1=[])(hx:msgB x=true):Ret t o (Zsk t x):=by
 have hT:=tlen h;obtain⟨z1,z2,z3,z4,z5,z6⟩:=Zdy h;have hB:=h;unfold Zy at h;simp only[J0e]at h;obtain⟨a,b,c,d,e,f,g,i,j,k⟩:=h;rw[Z97,Zba hB,Ypv hB];simp only[J0k,Q8,hx,cond_true,bne_self_eq_false,cond_false];rcases h1 with h1|h1
 . rw[show(t.1==7)=false by rw[h1];rfl,Bool.not_false,cond_true,show(t.1 != 6)=false by rw[h1];rfl,cond_false,cond_false,cond_true,cond_false];by_cases k3:x.1=3
   . rw[show(x.1 != 3)=false by rw[k3];rfl,cond_false,tmax];by_cases hm:max (Int.ofNat t.2.2.2.2.2.2.2.1.length) (Int.ofNat t.2.2.2.2.2.2.2.2.1.length)=4000
     . grind[Qa]
     . rw[show(max (Int.ofNat t.2.2.2.2.2.2.2.1.length) (Int.ofNat t.2.2.2.2.2.2.2.2.1.length)==4000)=false by simpa using hm,cond_false,Xd (show t.2.2.2.2.2.2.2.1.length+List.length [x.2.2.2.2.2]<=1000000 by grind) (show 40<=1000 by omega),cond_true];have hr:rowB x.2.2.2.2.2=true:=by unfold msgB at hx;simp_all
       refine⟨_,_,rfl,λ_=>⟨?_,rfl,rfl,rfl,rfl,λs hs=>?_⟩⟩
       . unfold Zy;simp only[J0e];refine⟨a,b,?_,d,e,f,g,?_,j,k⟩
         . unfold Zh3 at c ⊢;rw[h1]at c;grind
         grind
       grind
   grind[Qa]
 . rw[show(t.1==7)=true by rw[h1];rfl,Bool.not_true,cond_false,cond_true,cond_false,cond_true];by_cases k3:x.1=4
   . rw[show(x.1 != 4)=false by rw[k3];rfl,cond_false,tmax];by_cases hm:max (Int.ofNat t.2.2.2.2.2.2.2.1.length) (Int.ofNat t.2.2.2.2.2.2.2.2.1.length)=4000
     . grind[Qa]
     . rw[show(max (Int.ofNat t.2.2.2.2.2.2.2.1.length) (Int.ofNat t.2.2.2.2.2.2.2.2.1.length)==4000)=false by simpa using hm,cond_false,Xd (show t.2.2.2.2.2.2.2.2.1.length+List.length [(x.2.1,x.2.2.1,x.2.2.2.1,())]<=1000000 by grind) (show 24<=1000 by omega),cond_true];have hr:Yx x.2.2.1=true:=by grind[msgB]
       refine⟨_,_,rfl,λ_=>⟨?_,rfl,rfl,rfl,rfl,λs hs=>?_⟩⟩
       . unfold Zy;simp only[J0e];refine⟨a,b,?_,d,e,f,g,i,?_,k⟩
         . grind[Zh3,List.length_cons]
         grind
       grind
   grind[Qa]
end Tg

/- What is taken: windows and joins. -/
namespace Tg
open Go
open Go.Abs (Ze Zj tmm)
abbrev Mks:=List (Int×Unit)
theorem Yhl(t:Int):Zfk t=some (Ze8 t,()):=by
 rw[Zym];have:msgB (2,0,0,0,t,0,0,0,0,0,())=Ze8 t:=by simp[msgB,Zwq,Zwr]
 rw[Q8,this];cases Ze8 t<;>rfl
structure MkOk(l:Mks):Prop where
 one:1<=l.length
 four:l.length<=4
 all:(l.all λx=>Zcf x.1)=true
theorem Yxd{l:Mks}(h:MkOk l):Zmt l=some (0,()):=by
 have hf:=Zu;have h1:=h.one;have h4:=h.four;have lp:=Zcv (f:=λn k=>Zdf n l (Int.ofNat l.length) k) (l:=l) (p:=λx=>Zcf x.1) (bad:=some (8,())) (fin:=some (0,())) (N:=0)
  (λn i e he=>by grind[Zmu,ix_s,wS,Yhl,Zcf])
  (λn _=>by grind[Zmu]) fuel (by omega)
 rw[h.all,cond_true]at lp;grind[Z04]
theorem Zzc{l:Mks}(hl:l.length<=4):∀(d i n:Nat) (m:Int),i+d=l.length->d+1<=n -> ∃v,Zb7 n l m (i:Int)=some (v,0,())
 | 0,i,n,m,h1,h2=>by
  obtain⟨n,rfl⟩:∃k,n=k+1:=⟨n-1,by omega⟩;obtain rfl:i=l.length:=by omega
  rw[Zj9,geL];exact⟨_,rfl⟩
 | d+1,i,n,m,h1,h2=>by obtain⟨n,rfl⟩:∃k,n=k+1:=⟨n-1,by omega⟩;obtain⟨x,hx⟩:∃x,l[i]? = some x:=⟨_,J0c (by omega)⟩;rw[Zj9,ltL hx,cond_true,ix_s hx,wS (show i<1000000000000 by omega)];exact Zzc hl d (i+1) n _ (by omega) (by omega)
theorem Zsq{l:Mks}(h:MkOk l):∃v,Zez l=some (v,0,()):=by have hf:=Zu;have h1:=h.one;have h4:=h.four;obtain⟨n,hn⟩:∃n,fuel=n+1:=⟨fuel-1,by omega⟩;obtain⟨x,hx⟩:∃x,l[0]? = some x:=⟨_,J0c (by omega)⟩;rw[Z08,Yxd h,J0k,bne_self_eq_false,cond_false,decide_eq_false (show ¬Int.ofNat l.length<1 by grind),cond_false,hn,Zyz,hx,J0k];exact Zzc h4 (l.length-1) 1 n x.1 (by omega) (by omega)
theorem Zzd{l:Mks}(hl:l.length<=4)(b:Int):∀(d i n:Nat) (m:Int),i+d=l.length->d+1<=n -> ∃v,Zb8 n l m (i:Int) b=some (l,v,0,())
 | 0,i,n,m,h1,h2=>by
  obtain⟨n,rfl⟩:∃k,n=k+1:=⟨n-1,by omega⟩;obtain rfl:i=l.length:=by omega
  rw[Zkb,geL];exact⟨_,rfl⟩
 | d+1,i,n,m,h1,h2=>by obtain⟨n,rfl⟩:∃k,n=k+1:=⟨n-1,by omega⟩;obtain⟨x,hx⟩:∃x,l[i]? = some x:=⟨_,J0c (by omega)⟩;rw[Zkb,ltL hx,cond_true,Zeu hx,wS (show i<1000000000000 by omega)];exact Zzd hl b d (i+1) n _ (by omega) (by omega)
theorem Z3i{l:Mks}(h:MkOk l){i:Nat}(hi:i<l.length){t:Int}(ht:Ze8 t=true):∃l' g,Zhg l (i:Int) t=some (l',g,0,())/\l'.length=l.length/\MkOk l' := by
 have hf:=Zu;have h1:=h.one;have h4:=h.four;obtain⟨v,hv⟩:=Zsq h;obtain⟨n,hn⟩:∃n,fuel=n+1:=⟨fuel-1,by omega⟩;obtain⟨x,hx⟩:∃x,l[i]? = some x:=⟨_,J0c hi⟩;have hlen:(l.set i (tmm true x.1 t,x.2)).length=l.length:=List.length_set;obtain⟨y,hy⟩:∃y,(l.set i (tmm true x.1 t,x.2))[0]? = some y:=⟨_,J0c (by omega)⟩;obtain⟨g,hg⟩:=Zzd (l:=l.set i (tmm true x.1 t,x.2)) (by omega) v (l.length-1) 1 n y.1 (by omega) (by omega);refine⟨_,g,?_,hlen,⟨by omega,by omega,?_⟩⟩
 . rw[Z09,hv,J0k,bne_self_eq_false,cond_false,Yhl,ht];grind[Xd,Zeu,Int.toNat_natCast,Zua]
 . rw[List.all_eq_true];intro z hz;have hall:=List.all_eq_true.1 h.all;grind[Zcf,tmax]
theorem Zsr{s:List Ent}(hs:s.length<=4000)(mk:Int):∀(d i n:Nat) (a b:List Ent),i+d=s.length->a.length<=i->b.length<=i->d+1<=n -> ∃a' b',Zbv n mk a b s (Int.ofNat s.length) (i:Int)=some (a',b',0,())/\a'.length<=4000/\b'.length<=4000
 | 0,i,n,a,b,h1,h2,h3,h4=>by obtain⟨n,rfl⟩:∃k,n=k+1:=⟨n-1,by omega⟩;grind[Zon]
 | d+1,i,n,a,b,h1,h2,h3,h4=>by
  obtain⟨n,rfl⟩:∃k,n=k+1:=⟨n-1,by omega⟩;obtain⟨x,hx⟩:∃x,s[i]? = some x:=⟨_,J0c (by omega)⟩;rw[Zon,ltL hx,cond_true,ix_s hx,wS (show i<1000000000000 by omega),Xd (show a.length+List.length [x]<=1000000 by grind) (show 88<=1000 by omega),Xd (show b.length+List.length [x]<=1000000 by grind) (show 88<=1000 by omega)];cases decide (x.2.2.1<=mk)with
  | true=>exact Zsr hs mk d (i+1) n _ _ (by omega) (by grind) (by omega) (by omega)
  | false=>exact Zsr hs mk d (i+1) n _ _ (by omega) (by omega) (by grind) (by omega)
theorem Yal{s:List Ent}(hs:stoE s=0)(mk:Int):∃a b,Zjk s mk=some (a,b,0,())/\a.length<=4000/\b.length<=4000:=by have hf:=Zu;have hl:=Zmg (by simpa using hs);rw[Z6g,Z5d s (by omega),hs,J0k,bne_self_eq_false,cond_false];exact Zsr hl mk s.length 0 fuel [] [] (by omega) (Nat.le_refl _) (Nat.le_refl _) (by omega)
theorem Zss(k:Int)(a:Acc):∃v e,Zde k a=some (v,e,()):=by grind[Zyl,Zql]
end Tg

/- store.Add: it always answers, with at most 4000 entries. -/
namespace Tg
open Go
open Go.Abs (Ze Zj tmm)
theorem wi{x:Int}(h1 : -9223372036854775808<=x)(h2:x<=9223372036854775807):Go.IntKind.wrap .i64 x=x:=w64 h1 h2
variable {t:Int}
theorem Zze{z: Int}(h1:1<=z)(h2:z<=1073741824)(h3 : -1099511627776<=t)(h4:t<=1099511627776):∃s,Znq t z=some ((s,s+z,()),0,())/\s<=t/\t<s+z:=by
 have e0:=Int.tdiv_mul_add_tmod t z;have e1:=Int.tmod_lt_of_pos t (b:=z) (by omega);have e2:=Int.lt_tmod_of_pos t (b:=z) (by omega);have e3:=Int.natAbs_tdiv_le_natAbs t z;rw[Z9o,Zt8,Zyn,decide_eq_false (show ¬z<1 by omega),decide_eq_false (show ¬z>1073741824 by omega),decide_eq_false (show ¬t<(-1099511627776) by omega),decide_eq_false (show ¬t>1099511627776 by omega)];simp only[cond_false,J0k,bne_self_eq_false,decide_eq_false (show ¬z=0 by omega)];have a1:(Int.tdiv t z-1)*z=Int.tdiv t z*z-z:=by grind
 have a2:(Int.tdiv t z+1)*z=Int.tdiv t z*z+z:=by grind
 generalize hq:Int.tdiv t z=q at *;generalize hr:Int.tmod t z=r at *;rw[wi (x:=q) (by omega) (by omega),wi (x:=q-1) (by omega) (by omega)];by_cases hn:r<0
 . rw[decide_eq_true hn];simp only[cond_true,J0k,bne_self_eq_false,cond_false];rw[show q-1+1=q by omega,wi (x:=q) (by omega) (by omega),a1,wi (x:=q*z-z) (by omega) (by omega),wi (x:=q*z) (by omega) (by omega)];exact⟨q*z-z,by grind,by omega,by omega⟩
 . rw[decide_eq_false hn];simp only[cond_false,J0k,bne_self_eq_false];rw[wi (x:=q+1) (by omega) (by omega),a2,wi (x:=q*z) (by omega) (by omega),wi (x:=q*z+z) (by omega) (by omega)];grind
theorem Yp1{x:List (Int×Int×Unit)}(hx:x.length<=900):∀(k n:Nat) (acc:List (Int×Int×Unit)),k<=x.length->k+2<=n->acc.length+k<=1000 -> ∃l,Zej n x ((k:Int)-1) acc=some (l,0,())/\l.length=acc.length+k
 | 0,n,acc,_,h,_=>by obtain⟨n,rfl⟩:∃j,n=j+1:=⟨n-1,by omega⟩;grind[Zok]
 | k+1,n,acc,h1,h2,h3=>by
  obtain⟨n,rfl⟩:∃j,n=j+1:=⟨n-1,by omega⟩;obtain⟨l,a,b⟩:=Yp1 hx k n (acc++[x[k]]) (by omega) (by omega) (by simp;omega);refine⟨l,?_,by grind⟩;rw[Zok,decide_eq_true (show((k+1:Nat):Int)-1>=0 by omega),cond_true,show((k+1:Nat):Int)-1=(k:Int) by omega,Zeu (J0c (show k<x.length by omega)),
   Xd (by simp;omega) (by omega),cond_true,wi (by omega) (by omega)]
  exact a
theorem Yss{z ev: Int}(h1:1<=ev)(h2:ev<=z)(h3:z<=1073741824)(h4 : -1099511627776<=t)(h5:t<=1099511627776):∀(d n:Nat) (s:Int) (acc:List (Int×Int×Unit)),s+z-t<=d*ev->s<=t -> -2199023255552<=s->acc.length+d<=800->d+1000<=n ->
    ∃l,Zbu n t z ev acc s=some (l,0,())/\l.length<=acc.length+d:=by
  have fin:∀(n:Nat) (s:Int) (acc:List (Int×Int×Unit)),¬s+z>t->s<=t -> -2199023255552<=s->acc.length<=800->1000<=n -> ∃l,Zbu n t z ev acc s=some (l,0,())/\l.length<=acc.length:=λn s acc h g1 g2 g3 g4=>by obtain⟨n,rfl⟩:∃j,n=j+1+1:=⟨n-2,by omega⟩;obtain⟨l,a,b⟩:=Yp1 (x:=acc) (by omega) acc.length n [] (Nat.le_refl _) (by omega) (by simp;omega);grind[Zoj,wi,Z05]
  intro d
  induction d with
  | zero=>grind
  | succ d ih =>
   intro n s acc a1 a2 a3 a4 a5;by_cases hc:s+z>t
   . obtain⟨n,rfl⟩:∃j,n=j+1:=⟨n-1,by omega⟩;have e:((d+1:Nat):Int)*ev=d*ev+ev:=by grind
     obtain⟨l,a,b⟩:=ih n (s-ev) (acc++[(s,s+z,())]) (by omega) (by omega) (by omega) (by simp;omega) (by omega);grind[Zoj,wi,Xd]
   . obtain⟨l,a,b⟩:=fin n s acc hc a2 a3 (by omega) (by omega);grind
theorem Yjd{w:Int×Int×Int×Unit}(hw:Yg w=some (0,()))(h3:¬w.1=3)(h4 : -1099511627776<=t)(h5:t<=1099511627776):∃l,Zmv w t=some (l,0,())/\l.length<=1000:=by
 have hf:=Zu;obtain⟨k,z,ev,u⟩:=w;have h3:¬k=3:=h3;rw[Ydz,hw];rw[Zdw]at hw;simp only[J0k,bne_self_eq_false,cond_false]at hw ⊢;by_cases z1:z<1
 . simp[z1]at hw
 by_cases z2:z>1073741824
 . grind
 simp only[decide_eq_false z1,decide_eq_false z2,cond_false]at hw;by_cases k1:k=1
 . subst k1;obtain⟨s,hs,_⟩:=Zze (t:=t) (z:=z) (by omega) (by omega) h4 h5;simp_all
 . by_cases k2:k=2
   . subst k2;rw[show((2:Int)==2)=true from rfl,cond_true]at hw;by_cases e1:ev>=1
     . by_cases e2:ev<=z
       . rw[decide_eq_true e1,decide_eq_true e2,cond_true,cond_true,wi (x:=16*ev) (by omega) (by omega)]at hw;by_cases e3:z<=16*ev
         . rw[show((2:Int)==1)=false from rfl,cond_false,show((2:Int)==2)=true from rfl,cond_true,Z9p];obtain⟨s,hs,s1,s2⟩:=Zze (t:=t) (z:=ev) (by omega) (by omega) h4 h5;obtain⟨l,a,b⟩:=Yss e1 e2 (by omega) h4 h5 16 fuel s [] (by omega) s1 (by omega) (by simp) (by omega);grind[tmm,wi]
         . simp[e3]at hw
       grind
     . simp[e1]at hw
   grind
theorem Zto{z: Int}(h1:1<=z)(h2:z<=1073741824)(h3 : -1099511627776<=t)(h4:t<=1099511627776):Xa t z=some (0,()):=by grind[Zt9]
theorem Yam{w:Int×Int×Int×Unit}(hw:Yg w=some (0,())):1<=w.2.1/\w.2.1<=1073741824:=by grind[Zdw]
theorem Yhm{s:List Ent}{w:Int×Int×Int×Unit}{r:Int×Int×Int×Unit}{side:Int}(hs:stoE s=0)(hw:Yg w=some (0,()))(ht:Yx r.2.1=true)(hd:side=0∨side=1) :
    ∃l e,Zd1 s w r side=some (l,e,())/\(e=0->l.length<=4000):=by
  have hl:s.length<=4000:=Zmg (by rw[hs];rfl);have hz:=Yam hw;simp only[Yx,J0e,J0h]at ht;have ok:Tj.AddOk s w r side:=⟨by grind[Z5d],hw,hd,ht,hl,λh=>⟨Zto hz.1 hz.2 (by omega) (by omega),Zto hz.1 hz.2 ht.1 ht.2,hz⟩,λh=>Yjd hw h ht.1 ht.2⟩;grind[Tj.addE,Zd1,Za3,Tj.addO,Tj.Yo3]
end Tg

/- What is taken: every kind of operator. -/
namespace Tg
open Go
open Go.Abs (Ze Zj tmm)
theorem big1{α β:Type}(l:List α)(z:β)(h:l.length<=100000):Ze (l.length+[z].length) 88=true:=Xd (by grind) (by omega)
theorem Yan{t:Tsk}(h:Zy t=true)(h1:t.1=4∨t.1=5):MkOk t.2.2.2.2.1/\stoE t.2.2.2.2.2.1=0:=by
 unfold Zy at h;simp only[J0e]at h;obtain⟨a,b,c,d,e,f,g⟩:=h;unfold Zh3 at c;refine⟨?_,by simpa using e⟩;rcases h1 with h1|h1
 . rw[h1]at c;simp only[show((4:Int)==1)=false from rfl,show((4:Int)==2)=false from rfl,show((4:Int)==3)=false from rfl,show((4:Int)==4)=true from rfl,cond_false,cond_true,J0e,J0h]at c;exact⟨c.1,c.2.1,f⟩
 . rw[h1]at c;simp only[show((5:Int)==1)=false from rfl,show((5:Int)==2)=false from rfl,show((5:Int)==3)=false from rfl,show((5:Int)==4)=false from rfl,show((5:Int)==5)=true from rfl,cond_false,cond_true,J0e,beq_iff_eq]at c;exact⟨by omega,by omega,f⟩
theorem Yao{q:Qry}(h:((chkQ q).2.1==0)=true):Yg (q.2.2.2.2.2.1,q.2.2.2.2.2.2.1,q.2.2.2.2.2.2.2.1,())=some (0,()):=by grind[chkQ,Yts,Yoh]
section
variable {t:Tsk} {x:Msg} {o:Int} (h:Zy t=true) (hp:t.2.2.2.1=[]) (hx:msgB x=true) (ho:0<o)
include h hp
theorem Zns{ms:Mks}{st:List Ent}{l:List Snd}(h2:ms.length=t.2.2.2.2.1.length)(h3:st.length<=4000)(hl:l.length<=100000)(ho:∀s∈l,s.1<o) :
    Ret t o ((Zm (t.1,t.2.1,t.2.2.1,t.2.2.2.1,ms,st,t.2.2.2.2.2.2) l).bind λe=>some (e.1,e.2.1,())):=by
  have hT:=tlen h;have q2:=hT.h2;exact Zm4 ⟨hT.h1,by grind,by grind,hT.h4,hT.h5,hT.h6⟩ hl rfl rfl h2 rfl hp ho
include ho
theorem Yap(k:Int){l:List Ent}(hl:l.length<=4000){ms:Mks}{st:List Ent}(h2:ms.length=t.2.2.2.2.1.length)(h3:st.length<=4000):∀(d i n:Nat) (out:List Snd),i+d=l.length->out.length<=i->(∀s∈out,s.1=0)->d+1<=n ->
    Ret t o (Zfm n k l (Int.ofNat l.length) (i:Int) t.1 t.2.1 t.2.2.1 t.2.2.2.1 ms st t.2.2.2.2.2.2.1 t.2.2.2.2.2.2.2.1 t.2.2.2.2.2.2.2.2.1 out)
  | 0,i,n,out,q1,q2,q3,q4=>by
   obtain⟨n,rfl⟩:∃j,n=j+1:=⟨n-1,by omega⟩;obtain rfl:i=l.length:=by omega
   rw[Zq8,geL,cond_false];exact Zns h hp h2 h3 (by omega) λs hs=>by grind
  | d+1,i,n,out,q1,q2,q3,q4=>by obtain⟨n,rfl⟩:∃j,n=j+1:=⟨n-1,by omega⟩;obtain⟨y,hy⟩:∃y,l[i]? = some y:=⟨_,J0c (by omega)⟩;obtain⟨v,e,hv⟩:=Zss k (y.2.2.2.1,y.2.2.2.2.1,y.2.2.2.2.2.1,y.2.2.2.2.2.2.1,());rw[Zq8,ltL hy,cond_true,ix_s hy,hv,J0k,wS (show i<1000000000000 by omega)];dsimp only;rw[big1 out _ (by omega),cond_true];refine Yap k hl h2 h3 d (i+1) n _ (by omega) (by grind) (λs hs=>?_) (by omega);grind
theorem Zst(q:Qry){l:List Ent}(hl:l.length<=4000){ms:Mks}{st:List Ent}(h2:ms.length=t.2.2.2.2.1.length)(h3:st.length<=4000):∀(d i n:Nat) (out:List Snd),i+d=l.length->out.length<=i->(∀s∈out,s.1=0)->d+1<=n ->
    Ret t o (Zbx n q.1 q.2.1 q.2.2.1 q.2.2.2.1 q.2.2.2.2.1 q.2.2.2.2.2.1 q.2.2.2.2.2.2.1 q.2.2.2.2.2.2.2.1 q.2.2.2.2.2.2.2.2.1 q.2.2.2.2.2.2.2.2.2.1 t.1 t.2.1 t.2.2.1 t.2.2.2.1 ms st t.2.2.2.2.2.2.1 t.2.2.2.2.2.2.2.1 t.2.2.2.2.2.2.2.2.1 out l (Int.ofNat l.length) (i:Int))
  | 0,i,n,out,q1,q2,q3,q4=>by
   obtain⟨n,rfl⟩:∃j,n=j+1:=⟨n-1,by omega⟩;obtain rfl:i=l.length:=by omega
   rw[Zot,geL,cond_false];exact Zns h hp h2 h3 (by omega) λs hs=>by grind
  | d+1,i,n,out,q1,q2,q3,q4=>by
   obtain⟨n,rfl⟩:∃j,n=j+1:=⟨n-1,by omega⟩;obtain⟨y,hy⟩:∃y,l[i]? = some y:=⟨_,J0c (by omega)⟩;obtain⟨r,b,hr⟩:∃r b,Zy6 (q.1,q.2.1,q.2.2.1,q.2.2.2.1,q.2.2.2.2.1,q.2.2.2.2.2.1,q.2.2.2.2.2.2.1,q.2.2.2.2.2.2.2.1,q.2.2.2.2.2.2.2.2.1,q.2.2.2.2.2.2.2.2.2.1,()) y=some (r,b,()):=by
    rw[Yeo];obtain⟨v,e,hv⟩:=Zss q.1 (y.2.2.2.1,y.2.2.2.2.1,y.2.2.2.2.2.1,y.2.2.2.2.2.2.1,());obtain⟨v',e',hv'⟩:=Zss q.1 y.2.2.2.2.2.2.2;dsimp only;rw[hv,J0k,hv',J0k];dsimp only;cases e != 0 with
    | true=>grind
    | false=>cases e' != 0<;>exact⟨_,_,rfl⟩
   rw[Zot,ltL hy,cond_true,ix_s hy,hr,J0k,wS (show i<1000000000000 by omega)];dsimp only;rw[big1 out _ (by omega),cond_true];cases b with
   | false=>exact Zst q hl h2 h3 d (i+1) n _ (by omega) (by omega) q3 (by omega)
   | true=>refine Zst q hl h2 h3 d (i+1) n _ (by omega) (by grind) (λs hs=>?_) (by omega);grind
include hx
theorem Yxe{q:Qry}(h1:t.1=4){i:Nat}(hi:i<t.2.2.2.2.1.length):Ret t o (Zy5 q t (i:Int) x):=by
 have hf:=Zu;obtain⟨hm,hs⟩:=Yan h (.inl h1);have hT:=tlen h;have hl:=Zmg (by simpa using hs);have a0:(t.1 != 4)=false:=by rw[h1];rfl
 have hp0:decide (Int.ofNat t.2.2.2.1.length>0)=false:=by rw[hp];rfl
 rw[Yel,Zy3,show Yk q=some (chkQ q) from Zie q,Zba h];simp only[J0k,Q8,hx,cond_true,bne_self_eq_false,cond_false,a0,hp0,decide_eq_false (show ¬(i:Int)<0 by omega),decide_eq_false (show ¬(i:Int)>=Int.ofNat t.2.2.2.2.1.length by grind)];cases hq:((chkQ q).2.1==0)with
 | false=>exact Qa rfl
 | true =>
  cases q.2.2.2.1 with
  | true=>exact Qa rfl
  | false =>
   rw[cond_true,J0k,Bool.not_false,Bool.not_true,cond_false];by_cases k1:x.1=1
   . rw[show(x.1 != 1)=false by rw[k1];rfl,cond_false,show(x.1==1)=true by rw[k1];rfl,cond_true];have ht:Yx x.2.2.1=true:=by grind[msgB]
     obtain⟨l,e,ha,hb⟩:=Yhm (s:=t.2.2.2.2.2.1) (r:=(x.2.1,x.2.2.1,x.2.2.2.1,())) (side:=0) hs (Yao hq) ht (.inl rfl);rw[ha,J0k];cases he:e != 0 with
     | true=>exact Qa he
     | false=>exact Zns h hp rfl (hb (by simpa using he)) (Nat.zero_le _) (λs hs=>by cases hs)
   . rw[show(x.1 != 1)=true by simpa using k1,cond_true];by_cases k2:x.1=2
     . rw[show(x.1 != 2)=false by rw[k2];rfl,cond_false,show(x.1==1)=false by rw[k2];rfl,cond_false];have ht:Ze8 x.2.2.2.2.1=true:=by grind[msgB]
       obtain⟨ms,g,hr,r1,r2⟩:=Z3i hm hi ht;rw[hr,J0k];cases g with
       | false=>exact Zns h hp r1 hl (Nat.zero_le _) (λs hs=>by cases hs)
       | true=>obtain⟨v,hv⟩:=Zsq r2;obtain⟨a,b,hab,la,lb⟩:=Yal hs v;rw[Bool.not_true,cond_false,hv,J0k,hab,J0k];exact Yap h hp ho q.1 la r1 lb a.length 0 fuel [] (by omega) (Nat.le_refl _) (λs hs=>by cases hs) (by omega)
     grind[Qa]
theorem Yst{q:Qry}(h1:t.1=5){i:Nat}(hi:i<2)(hl2:t.2.2.2.2.1.length=2):Ret t o (Zsn q t (i:Int) x):=by
 have hf:=Zu;obtain⟨hm,hs⟩:=Yan h (.inr h1);have hT:=tlen h;have hl:=Zmg (by simpa using hs);have a0:(t.1 != 5)=false:=by rw[h1];rfl
 have hp0:decide (Int.ofNat t.2.2.2.1.length>0)=false:=by rw[hp];rfl
 rw[Yae,Zub,show Yk q=some (chkQ q) from Zie q,Zba h];simp only[J0k,Q8,hx,cond_true,bne_self_eq_false,cond_false,a0,hp0,decide_eq_false (show ¬(i:Int)<0 by omega),decide_eq_false (show ¬(i:Int)>1 by omega)];cases hq:((chkQ q).2.1==0)with
 | false=>exact Qa rfl
 | true =>
  cases hj:q.2.2.2.1 with
  | false=>exact Qa rfl
  | true =>
   rw[cond_true,J0k,Bool.not_true,cond_false];by_cases k1:x.1=1
   . rw[show(x.1 != 1)=false by rw[k1];rfl,cond_false,show(x.1==1)=true by rw[k1];rfl,cond_true];have ht:Yx x.2.2.1=true:=by grind[msgB]
     obtain⟨l,e,ha,hb⟩:=Yhm (s:=t.2.2.2.2.2.1) (r:=(x.2.1,x.2.2.1,x.2.2.2.1,())) (side:=(i:Int)) hs (Yao hq) ht (by omega);rw[ha,J0k];cases he:e != 0 with
     | true=>exact Qa he
     | false=>exact Zns h hp rfl (hb (by simpa using he)) (Nat.zero_le _) (λs hs=>by cases hs)
   . rw[show(x.1 != 1)=true by simpa using k1,cond_true];by_cases k2:x.1=2
     . rw[show(x.1 != 2)=false by rw[k2];rfl,cond_false,show(x.1==1)=false by rw[k2];rfl,cond_false];have ht:Ze8 x.2.2.2.2.1=true:=by grind[msgB]
       obtain⟨ms,g,hr,r1,r2⟩:=Z3i hm (show i<t.2.2.2.2.1.length by omega) ht;rw[hr,J0k];cases g with
       | false=>exact Zns h hp r1 hl (Nat.zero_le _) (λs hs=>by cases hs)
       | true=>obtain⟨v,hv⟩:=Zsq r2;obtain⟨a,b,hab,la,lb⟩:=Yal hs v;rw[Bool.not_true,cond_false,hv,J0k,hab,J0k];have J:=Zst h hp ho q la r1 lb a.length 0 fuel [] (by omega) (Nat.le_refl _) (λs hs=>by cases hs) (by omega);grind
     grind[Qa]
end
end Tg

/- A step that takes. -/
namespace Tg
open Go
open Go.Abs (Ze Zj tmm)
variable {k0:Nat}{q0:Que}
theorem Zzf{l:List Que}{T D: Nat}(hl:l.length<=4)(hT:T<l.length)(hD:(T+D) % l.length=k0)(hq:l[k0]? = some q0)(hne:q0.2.1≠[])(hDl:D<l.length):∀(d i n:Nat),i+d=D->d+1<=n ->
    ∃(k:Nat) (q:Que),Qq n (T:Int) l (Int.ofNat l.length) (i:Int)=some ((k:Int),())/\l[k]? = some q/\q.2.1≠[]:=by
  have step:∀(i n:Nat),i<=D -> ∃(k:Nat) (q:Que),l[k]? = some q/\k=(T+i) % l.length/\Qq (n+1) (T:Int) l (Int.ofNat l.length) (i:Int)=bif decide (0<q.2.1.length)then some ((k:Int),())else Qq n (T:Int) l (Int.ofNat l.length) ((i+1:Nat):Int):=λi n hi=>by
   have hk:(T+i) % l.length<l.length:=Nat.mod_lt _ (by omega);obtain⟨q,hq⟩:∃q,l[(T+i) % l.length]? = some q:=⟨_,J0c hk⟩;refine⟨_,q,hq,rfl,?_⟩;have e1:Int.tmod (Go.IntKind.wrap .i64 ((T:Int)+(i:Int))) (Int.ofNat l.length)=(((T+i) % l.length:Nat):Int):=by grind[w64]
   have e2:decide (Int.ofNat q.2.1.length>0)=decide (0<q.2.1.length):=by grind
   rw[Zht,decide_eq_true (show(i:Int)<Int.ofNat l.length by grind),cond_true,decide_eq_false (show ¬Int.ofNat l.length=0 by grind),cond_false,e1,ix_s hq,e2,wS (show i<1000000000000 by omega)]
  intro d
  induction d with
  | zero=>intro i n hi hn;obtain⟨n,rfl⟩:∃j,n=j+1:=⟨n-1,by omega⟩;obtain⟨k,q,k1,k2,k3⟩:=step i n (by omega);grind
  | succ d ih =>
   intro i n hi hn;obtain⟨n,rfl⟩:∃j,n=j+1:=⟨n-1,by omega⟩;obtain⟨k,q,k1,k2,k3⟩:=step i n (by omega);by_cases hz:q.2.1=[]
   . obtain⟨k',q',r1,r2⟩:=ih (i+1) n (by omega) (by omega);grind
   . refine⟨k,q,?_,k1,hz⟩;rw[k3,decide_eq_true (List.length_pos_iff.2 hz)];rfl
theorem Yeu{u:Int}{l:List Que}(h0:0<=u)(hl:l.length<=4)(hq:l[k0]? = some q0)(hne:q0.2.1≠[]):∃(k:Nat) (q:Que),Zgj u l=some ((k:Int),())/\l[k]? = some q/\q.2.1≠[]:=by
 have hf:=Zu;have hk:=(J0d.1 hq).1;obtain⟨n,hn⟩:∃n,fuel=n+1:=⟨fuel-1,by omega⟩;have go:∀T:Nat,T<l.length -> ∃(k:Nat) (q:Que),Zeh fuel (T:Int) l=some ((k:Int),())/\l[k]? = some q/\q.2.1≠[]:=λT hT=>by
  rw[hn,Zog];by_cases h:T<=k0
  . exact Zzf hl hT (D:=k0-T) (by grind[Nat.mod_eq_of_lt]) hq hne (by omega) (k0-T) 0 n (by omega) (by omega)
  . exact Zzf hl hT (D:=k0+l.length-T) (by grind[Nat.add_mod_right,Nat.mod_eq_of_lt]) hq hne (by omega) (k0+l.length-T) 0 n (by omega) (by omega)
 rw[Zqu];by_cases hu:u>=Int.ofNat l.length
 . grind
 . rw[decide_eq_false hu];obtain⟨T,rfl⟩:∃T:Nat,u=(T:Int):=⟨u.toNat,by omega⟩;grind
variable {t:Tsk}
theorem Yxf{l:List Que}(h:Zy t=true)(hl:l.length<=4)(hq:l.all queB=true)(hp:t.2.2.2.1=[])(hne:∃q∈l,q.2.1≠[]) :
    ∃(k:Nat) (q:Que) (t' : Tsk),Zsi t l=some ((k:Int),t',0,())/\l[k]? = some q/\q.2.1≠[]/\0<=t'.2.2.1/\t'.2.2.1<20:=by
  obtain⟨q0,hm,h0⟩:=hne;obtain⟨k0,hk0⟩:=List.getElem?_of_mem hm;have hu:0<=t.2.2.1:=by grind[Zy]
  obtain⟨k,q,e1,e2,e3⟩:=Yeu hu hl hk0 h0;have hk:=(J0d.1 e2).1;refine⟨k,q,(t.1,t.2.1,(((k+1) % l.length:Nat):Int),t.2.2.2),?_,e2,e3,?_,?_⟩
  . grind[wS,Z93,Zi8,Z6l,tlen]
  . grind
  . show(((k+1) % l.length:Nat):Int)<20;have:=Nat.mod_lt (k+1) (show l.length>0 by omega);omega
theorem Yaq{j:Bool}{late:Int}{x:Gr}{i:Nat}{t': Tsk}(h:fitB j late x i t=true)(hn:Nxt t t' (cnt false (i:Int) x.2.1)):fitB j late x i t' = true:=by
 unfold fitB at h ⊢;cases ho:x.1[i]? with
 | none=>grind
 | some o=>rw[ho]at h;simp only[J0e]at h ⊢;rw[hn.k,hn.n,hn.ms];exact⟨h.1,hn.B,List.all_eq_true.2 λs hs=>decide_eq_true (hn.out s hs),h.2.2.2⟩
section
variable {b:Bool} {m:Mch} (h:mchB b m=true)
include h
theorem Y1a{i k:Nat}{t:Tsk}{x:Msg}(hi:(mT m)[i]? = some t)(h1:t.1≠1)(hp:t.2.2.2.1=[])(hx:msgB x=true)(hk:k<cnt true (i:Int) (mG m).2.1):Ret t (cnt false (i:Int) (mG m).2.1) (Zux m (i:Int) (k:Int) x):=by
 obtain⟨_,hr,g1,g2,h3,h4,h5,hts⟩:=Zaa h;have hl:=(J0d.1 hi).1;have hB:=Zhj h t (J0j hi);have hf:=hts i t hi;obtain⟨o,ho⟩:∃o,(mG m).1[i]? = some o:=⟨_,J0c (by omega)⟩;have hb:=(hr.2.2 i o ho).2;have hj:=Zbk hr false (i:Int);unfold fitB at hf;rw[ho]at hf;simp only[J0e]at hf;obtain⟨f1,_,_,f4⟩:=hf;have ek:t.1=o.1:=by simpa using f1.1
 unfold Zh2 at hb;rw[<- ek]at hb;simp only[J0e,J0h]at hb;obtain⟨⟨b1,b2⟩,⟨b3,b4⟩,b5,b6⟩:=hb;have id:∀r:Option (Tsk×Int×Unit),Ret t (cnt false (i:Int) (mG m).2.1) r->Ret t (cnt false (i:Int) (mG m).2.1) (r.bind λe=>some (e.1,e.2.1,())):=λr ⟨t',e,hr,he⟩=>by grind
 have hi' : m.2.2.2.2.2.2.2.2.2.2.2.2.1[i]? = some t:=hi;rw[Yja,ix_s hi'];obtain hk2|hk3|hk4|hk5|hk6:t.1=2∨t.1=3∨t.1=4∨t.1=5∨(t.1=6∨t.1=7):=by omega
 . grind[Yjc]
 . grind[mG,Znn,bnd,Yp0]
 . grind[bnd,Yxe]
 . rw[show(t.1==2)=false by rw[hk5];rfl,cond_false,show(t.1==3)=false by rw[hk5];rfl,cond_false,show(t.1==4)=false by rw[hk5];rfl,cond_false,show(t.1==5)=true by rw[hk5];rfl,cond_true];rw[hk5]at f4;simp only[show((5:Int)==2)=false from rfl,show((5:Int)==4)=false from rfl,show((5:Int)==5)=true from rfl,cond_false,cond_true,J0e,beq_iff_eq]at f4;have e5:(bnd t.1).2.2.1=1:=by rw[hk5];rfl
   have hm2:t.2.2.2.2.1.length=2:=by have:=hB;unfold Zy at this;simp only[J0e]at this;have:=this.2.2.1;unfold Zh3 at this;rw[hk5]at this;grind
   grind[Yst]
 grind[Ysr]
end
end Tg

/- A step of a right machine: a right machine, or an error. -/
namespace Tg
open Go
open Go.Abs (Ze Zj tmm)
def stT(t:Tsk)(u:Int):Tsk:=(t.1,t.2.1,u,t.2.2.2)
inductive Stp(m:Mch) (i:Nat):Mch->Prop
 | send {t:Tsk} {s:Snd} {l:List Snd} {j:Nat} {q:Que} (hi:(mT m)[i]? = some t) (hp:t.2.2.2.1=s::l) (hj:((j:Int),())∈joinL false (mG m) (i:Int)) (hq:(mU m)[j]? = some q) (hr:(q.2.1.length:Int)<q.1):Stp m i (mW m ((mT m).set i (Zm2 t l)) ((mU m).set j (q.1,q.2.1++[s.2],())))
 | src {t:Tsk} {e:Evt} {l:List Evt} {x:Msg} (hi:(mT m)[i]? = some t) (h1:t.1=1) (hp:t.2.2.2.1=[]) (he:t.2.2.2.2.2.2.1=e::l):Stp m i (mW m ((mT m).set i (srcT t x l)) (mU m))
 | take {t t' : Tsk} {y:Msg} {l:List Msg} {j k:Nat} {q:Que} {u:Int} (hi:(mT m)[i]? = some t) (h1:t.1≠1) (hp:t.2.2.2.1=[]) (hj:(joinL true (mG m) (i:Int))[k]? = some ((j:Int),())) (hq:(mU m)[j]? = some q) (hy:q.2.1=y::l) (hn:Nxt t t' (cnt false (i:Int) (mG m).2.1)) (hd:Zux m (i:Int) (k:Int) y=some (t',0,())) :
  Stp m i (mW m ((mT m).set i (stT t' u)) ((mU m).set j (q.1,l,())))
section
variable {b:Bool} {m:Mch} (h:mchB b m=true)
include h
variable {j:Nat}{q':Que}
theorem set_right{i: Nat}{t' : Tsk}(ht:fitB m.2.2.2.1 m.2.2.2.2.2.2.2.2.2.1 (mG m) i t' = true)(hq:queI (mG m) j q' = true):mchB b (mW m ((mT m).set i t') ((mU m).set j q'))=true:=by
 unfold mchB at h ⊢;simp only[J0e]at h ⊢;obtain⟨h1,h2,h3,h4,h5,h6⟩:=h;refine⟨h1,h2,?_,?_,?_,?_⟩
 . show(((mT m).set i t').length==(mG m).1.length)=true;grind
 . show(((mU m).set j q').length==(mG m).2.1.length)=true;grind
 . exact Zq9 h5 (by rw[Nat.zero_add];exact hq)
 . exact Zq9 h6 (by rw[Nat.zero_add];exact ht)
theorem Z3j{q: Que}(hq:(mU m)[j]? = some q)(e:q'.1=q.1)(hB:queB q' = true):queI (mG m) j q' = true:=by grind[queI,mchB,Z5t]
variable {t:Tsk}
theorem Yev{i:Nat}{s:Snd}{l:List Snd}{q:Que}(hi:(mT m)[i]? = some t)(hp:t.2.2.2.1=s::l)(hB:Zy (Zm2 t l)=true)(hs:msgB s.2=true)(hq:(mU m)[j]? = some q)(hr:(q.2.1.length:Int)<q.1) :
    mchB b (mW m ((mT m).set i (Zm2 t l)) ((mU m).set j (q.1,q.2.1++[s.2],())))=true:=by
  obtain⟨_,_,_,_,_,_,h5,hts⟩:=Zaa h;refine set_right h (Yaq (hts i t hi) ⟨hB,rfl,rfl,rfl,rfl,λs' hs' => ?_⟩) (Z3j h hq rfl ?_)
  . have hf:=hts i t hi;unfold fitB at hf;split at hf
    . cases hf
    . simp only[J0e]at hf;have:=List.all_eq_true.1 hf.2.2.1 s' (by rw[hp];exact List.mem_cons_of_mem _ hs');simpa using this
  . have:=h5 q (J0j hq);grind[queB]
omit h in
theorem Yp2{i:Nat}(hi:(mT m)[i]? = some t)(h1:t.1≠1)(hp:t.2.2.2.1=[])(ha:Q9 m i=true):∃q∈qsAt (mU m) (joinL true (mG m) (i:Int)),q.2.1≠[]:=by rw[Zhe hi,Z27 hp,show(t.1==1)=false by simpa using h1,cond_false,J0h]at ha;grind[Zph]
theorem Yp3(hq:QOk (mQ m) b){i:Nat}(hi:i<(mT m).length)(ha:Q9 m i=true):∃x e,Zd5 m (i:Int)=some (x,e,())/\(e=0->Stp m i x/\mchB b x=true):=by
 obtain⟨_,hr,g1,g2,h3,h4,h5,hts⟩:=Zaa h;obtain⟨t,ht⟩:∃t,(mT m)[i]? = some t:=⟨_,J0c hi⟩;have hB:=Zhj h t (J0j ht);cases hp:t.2.2.2.1 with
 | cons s l=>obtain⟨j,k,q,_,hj,hu,hroom,e2,e3,e4⟩:=Yet h ht hp ha;exact⟨_,_,Zpj hq (mlen h) h hi ha e4,λ_=>⟨.send ht hp (J0j hj) hu hroom,Yev h ht hp e2 e3 hu hroom⟩⟩
 | nil =>
  by_cases h1:t.1=1
  . have he:∃e l,t.2.2.2.2.2.2.1=e::l:=by
     rw[Zhe ht,Z27 hp,show(t.1==1)=true by simpa using h1,cond_true,J0h]at ha;cases hz:t.2.2.2.2.2.2.1 with
     | nil=>grind
     | cons e l=>grind
    obtain⟨e,l,he⟩:=he;obtain⟨x,_,x2,x3⟩:=Z3g (Zhj h) h5 (by omega) (by omega) ht h1 hp he;obtain⟨t'',k1,k2,k3⟩:=Ypy hq h ht h1 hp he;have k4:=Zpj hq (mlen h) h hi ha x3;rw[k2]at k4;have k5:=(Prod.mk.inj (J0a k4)).1;refine⟨_,_,k2,λ_=>⟨?_,k3⟩⟩;rw[k5];exact .src ht h1 hp he
  . have hJ:=Z6m h true i;have hJl:=Zid hJ;have hn:=Zbk hr true (i:Int);have hc:=Zi9 hr (i:=i) (by omega);obtain⟨k,q,t2,e1,e2,e3,e4,e5⟩:=Yxf hB (by omega) (Ypz h5 (joinL true (mG m) (i:Int))) hp (Yp2 ht h1 hp ha);obtain⟨j,hj,hu⟩:=Yhj hJ e2;have hkl:=(J0d.1 hj).1;have hjl:=(J0d.1 hu).1;obtain⟨y,l,hy⟩:∃y l,q.2.1=y::l:=by
     cases hz:q.2.1 with
     | nil=>exact absurd hz e3
     | cons y l=>grind
    have hqB:=h5 q (J0j hu);have hym:msgB y=true/\l.all msgB=true:=by grind[queB]
    obtain⟨t',e,d1,d2⟩:=Y1a h ht h1 hp hym.1 (k:=k) (by omega);have hi' : m.2.2.2.2.2.2.2.2.2.2.2.2.1[i]? = some t:=ht;have hu' : m.2.2.2.2.2.2.2.2.2.2.2.2.2.1[j]? = some q:=hu;have hin:Yn (m.2.2.2.2.2.2.2.2.2.2.1,m.2.2.2.2.2.2.2.2.2.2.2.1,()) (i:Int)=some (joinL true (mG m) (i:Int),()):=Zx4 hr g2 (by omega);have hbeg:Zd4 m (i:Int)=some (m,false,()):=by rw[Zjl,ix_s hi',hp,show decide (Int.ofNat ([]:List Snd).length>0)=false from rfl,cond_false,show(t.1 != 1)=true by simpa using h1];rfl
    have htake:∃x,Zso m (i:Int) (k:Int) t2.2.2.1=some (x,e,())/\(e=0->x=mW m ((mT m).set i (stT t' t2.2.2.1)) ((mU m).set j (q.1,l,()))):=by
     rw[Yag,hin,J0k,ix_s hj,ix_s hu',Yxa hqB hy,J0k,d1,J0k];cases he:e != 0 with
     | true=>grind
     | false =>
      obtain rfl:e=0:=by simpa using he
      obtain⟨n,hn⟩:∃n,fuel=n+1:=⟨fuel-1,by grind[Zu]⟩;rw[cond_false,decide_eq_true (show t2.2.2.1>=0 from e4),cond_true,hn,Z1d];rw[show Zd3 (m.1,m.2.1,m.2.2.1,m.2.2.2.1,m.2.2.2.2.1,m.2.2.2.2.2.1,m.2.2.2.2.2.2.1,m.2.2.2.2.2.2.2.1,m.2.2.2.2.2.2.2.2.1,m.2.2.2.2.2.2.2.2.2.1,m.2.2.2.2.2.2.2.2.2.2.1,m.2.2.2.2.2.2.2.2.2.2.2.1,m.2.2.2.2.2.2.2.2.2.2.2.2.1,m.2.2.2.2.2.2.2.2.2.2.2.2.2.1,())=some (m,()) from Zy8 (m:=m) (Zhj h) h5 (by omega) (by omega),J0k,Zeu hi',Zeu hu',J0l,J0l];exact⟨_,rfl,λ_=>rfl⟩
    obtain⟨x,hx,hx2⟩:=htake;refine⟨x,e,?_,λhe=>?_⟩
    . rw[Zhi,Zy9 hq (mlen h) h hi,J0k,bne_self_eq_false,cond_false,Znp h hi,ha,J0k,Bool.not_true,cond_false,hbeg,J0k,cond_false,ix_s hi',hin,J0k,Zqv m _ (by omega) hJ,J0k,e1,J0k,hx];rfl
    . subst he;have hN:=d2 rfl;obtain rfl:=hx2 rfl;refine⟨.take ht h1 hp hj hu hy hN d1,set_right h (Yaq (hts i t ht) ⟨?_,hN.k,hN.n,hN.ms,hN.ev,hN.out⟩) (Z3j h hu rfl ?_)⟩
      . have:=hN.B;unfold Zy at this ⊢;unfold stT;simp only[J0e,J0h]at this ⊢;exact⟨⟨e4,e5,this.1.2.2⟩,this.2⟩
      grind[queB]
end
end Tg

/- What can do a step can still do it behind a step of another. -/
namespace Tg
open Go
open Go.Abs (Ze Zj tmm)
variable {x:Gr}{j:Nat}
theorem Yje(h:Tj.Zfa x.1 x.2.1){c:Bool}{op:Int}(hj:((j:Int),())∈joinL c x op):∃ch,x.2.1[j]? = some ch/\Tj.selF c ch=op:=by unfold joinL at hj;rw[List.mem_map]at hj;obtain⟨i,hi,e⟩:=hj;obtain rfl:i=j:=Int.ofNat.inj (Prod.mk.inj e).1;exact Tj.Zup.1 ((Tj.Zqr (Znm h c op)).1 hi)
theorem Z3k(h:Tj.Zfa x.1 x.2.1){c:Bool}{a i:Nat}(h1:((j:Int),())∈joinL c x (a:Int))(h2:((j:Int),())∈joinL c x (i:Int)):a=i:=by grind[Yje]
theorem Yar{l:List Que}(h:0<=Zgk 0 l):∃q∈l,q.2.1≠[]:=by grind[Zph]
theorem Z3l{t:Tsk}{ins ins' outs outs' : List Que}(hi:(∃q∈ins,q.2.1≠[]) -> ∃q∈ins',q.2.1≠[])(ho:∀(k:Nat) q,outs[k]? = some q -> ∃q',outs'[k]? = some q' /\ q'.1=q.1/\q'.2.1.length<=q.2.1.length)(h:Zhc t ins outs=true):Zhc t ins' outs' = true:=by
 unfold Zhc at h ⊢;cases hp:t.2.2.2.1 with
 | nil=>grind[Yar,Z26]
 | cons s l=>grind
theorem Zra{u:List Que}{q' : Que}{l:List (Int×Unit)}(hl:∀y∈l,∃i:Nat,i<u.length/\y=((i:Int),())):∀(k:Nat) q,(qsAt u l)[k]? = some q -> ∃j' : Nat,l[k]? = some ((j' : Int),())/\u[j']? = some q/\(qsAt (u.set j q') l)[k]? = some (if j' = j then q' else q):=λk q hq=>by obtain⟨j',e1,e2⟩:=Yhj hl hq;have hj:=(J0d.1 e2).1;refine⟨j',e1,e2,Zm3 (λy hy=>by grind) e1 ?_⟩;grind
section
variable {b:Bool} {m x:Mch} {i a:Nat} (h:mchB b m=true) (hs:Stp m i x) (ha:Q9 m a=true) (hne:a≠i)
include h hs ha hne
theorem Yew:Q9 x a=true:=by
 obtain⟨_,hr,g1,g2,h3,h4,h5,hts⟩:=Zaa h;obtain⟨t,ht⟩:∃t,(mT m)[a]? = some t:=by grind[Q9]
 rw[Zhe ht]at ha;have hJ:=λc=>Z6m h c a;have other:∀{t' : Tsk} {u:List Que},(mT (mW m ((mT m).set i t') u))[a]? = some t:=λ{t' u}=>by show((mT m).set i t')[a]? = some t;grind
 cases hs with
 | send hi hp hj hq hroom =>
  rename_i t0 s l j q;rw[Zhe other];refine Z3l ?hi ?ho ha
  case hi =>
   rintro⟨q1,m1,n1⟩;obtain⟨k,hk⟩:=List.getElem?_of_mem m1;obtain⟨j',e1,e2,e3⟩:=Zra (j:=j) (q' := (q.1,q.2.1++[s.2],())) (hJ true) k q1 hk;refine⟨_,J0j e3,?_⟩;split
   . simp
   . exact n1
  case ho =>
   intro k q1 hk;obtain⟨j',e1,e2,e3⟩:=Zra (j:=j) (q' := (q.1,q.2.1++[s.2],())) (hJ false) k q1 hk;have:j' ≠ j:=λe=>by subst e;exact hne (Z3k hr (J0j e1) hj)
   rw[if_neg this]at e3;exact⟨q1,e3,rfl,Nat.le_refl _⟩
 | src hi h1 hp he=>rw[Zhe other];exact ha
 | take hi h1 hp hj hq hy hn hd =>
  rename_i t0 t' y l j k0 q u;rw[Zhe other];refine Z3l ?hi ?ho ha
  case hi =>
   rintro⟨q1,m1,n1⟩;obtain⟨k,hk⟩:=List.getElem?_of_mem m1;obtain⟨j',e1,e2,e3⟩:=Zra (j:=j) (q' := (q.1,l,())) (hJ true) k q1 hk;have:j' ≠ j:=λe=>by subst e;exact hne (Z3k hr (J0j e1) (J0j hj))
   rw[if_neg this]at e3;exact⟨q1,J0j e3,n1⟩
  case ho =>
   intro k q1 hk;obtain⟨j',e1,e2,e3⟩:=Zra (j:=j) (q' := (q.1,l,())) (hJ false) k q1 hk;refine⟨_,e3,?_⟩;split
   . grind
   grind
end
end Tg

/- The laws EnabledStays and EnabledSends in plain words. -/
namespace Tg
open Go
open Go.Abs (Ze Zj tmm)
theorem qok(q:Qry):∃b,QOk q b:=by refine⟨(chkQ q).2.1==0,⟨⟨(chkQ q).1,(chkQ q).2.1,Zie q,rfl⟩,?_⟩⟩;rw[Zr3,Ydq]
theorem Y1b(m:Mch):∃g,Zsp m=some (g,())/\(g=true -> ∃b,QOk (mQ m) b/\MLen m/\mchB b m=true):=by
 obtain⟨g,hg,hb⟩:=Yr1 m;rw[Yah,hg,J0k];cases g with
 | true=>exact⟨false,rfl,λh=>by cases h⟩
 | false=>have hm:=hb rfl;obtain⟨b,hq⟩:=qok (mQ m);rw[Yn1 m b hq hm];refine⟨mchB b m,?_,λh=>⟨b,hq,hm,h⟩⟩;cases mchB b m<;>rfl
variable {m:Mch}
theorem Yp4{a:Nat}(ha:a<(mT m).length)(h:Q9 m a=true):((a:Int),())∈Zr9 m:=by rw[Ysb,List.mem_map];refine⟨a,?_,rfl⟩;unfold Yoi;rw[List.mem_filter,List.mem_range];exact⟨ha,h⟩
theorem Ysu{x: Mch}{i:Nat}(h:Stp m i x):(mT x).length=(mT m).length/\mQ x=mQ m:=by cases h<;>exact⟨List.length_set,rfl⟩
theorem Zzg{a:Int}{l:List (Int×Unit)}(hl:l.length<=1000){k:Nat}(hk:l[k]? = some (a,())):∀(d i n:Nat),i+d=k->d+1<=n->Xp n a true l 0 (i:Int)=some (true,())
 | d,i,n,h1,h2=>by
  obtain⟨n,rfl⟩:∃j,n=j+1:=⟨n-1,by omega⟩;have hkl:=(J0d.1 hk).1;obtain⟨e,he⟩:∃e,l[i]? = some e:=⟨_,J0c (by omega)⟩;rw[Zjm,ltL he,cond_true,ix_s he,wS (show i<1000000000000 by omega)];cases hz:e.1==a with
  | true=>rfl
  | false =>
   rw[cond_false];cases d with
   | zero =>
    obtain rfl:i=k:=by omega
    rw[hk]at he;obtain rfl:=J0a he;simp at hz
   | succ d=>exact Zzg hl hk d (i+1) n (by omega) (by omega)
theorem Yjf(m:Mch)(a b:Int):Zgq m a b=some (true,()):=by
 obtain⟨g,hg,hb⟩:=Y1b m;rw[Zm1,hg,J0k];cases g with
 | false=>rfl
 | true =>
  obtain⟨v,hq,hm,h⟩:=hb rfl;rw[Bool.not_true,cond_false];by_cases e1:a=b
  . rw[show(a==b)=true by simpa using e1];rfl
  . rw[show(a==b)=false by simpa using e1,cond_false];by_cases e2:a<0
    . rw[decide_eq_true e2];rfl
    . rw[decide_eq_false e2,cond_false];by_cases e3:a>=Int.ofNat m.2.2.2.2.2.2.2.2.2.2.2.2.1.length
      . rw[decide_eq_true e3];rfl
      . rw[decide_eq_false e3,cond_false];obtain⟨i,rfl⟩:∃i:Nat,a=(i:Int):=⟨a.toNat,by omega⟩;have hi:i<(mT m).length:=by have:¬((i:Int)>=((mT m).length:Int)):=e3;omega
        rw[Z2z hq hm h hi,J0k];by_cases hbo:b<0∨((mT m).length:Int)<=b
        . rw[Ypx hq hm h hbo,J0k];dsimp only;rw[bne_self_eq_false,cond_false];cases Q9 m i<;>rfl
        . obtain⟨j,rfl⟩:∃j:Nat,b=(j:Int):=⟨b.toNat,by omega⟩;have hj:j<(mT m).length:=by omega
          cases hab:Q9 m j with
          | false=>rw[Ysp hq hm h hj hab,J0k];dsimp only;rw[bne_self_eq_false,cond_false];cases Q9 m i<;>rfl
          | true =>
           obtain⟨x,e,hx,hx2⟩:=Yp3 h hq hj hab;rw[hx,J0k];dsimp only;rw[bne_self_eq_false,cond_false];cases ha:Q9 m i with
           | false=>rfl
           | true =>
            rw[Bool.not_true,cond_false];cases he:e != 0 with
            | true=>rfl
            | false =>
             obtain⟨s1,s2⟩:=hx2 (by simpa using he);obtain⟨l1,l2⟩:=Ysu s1;have hqx:QOk (mQ x) v:=by rw[l2];exact hq
             have hmx:=mlen s2;have hk:=Yew h s1 ha (by omega);obtain⟨k,hk⟩:=List.getElem?_of_mem (Yp4 (m:=x) (by omega) hk);have hkl:=(J0d.1 hk).1;obtain⟨_,_,g1,_,g3,_⟩:=Zaa s2;have hal:=Yiw (m:=x);have hf:=Zu;rw[cond_false,Yzs hqx hmx,s2,J0k];exact Zzg (by omega) hk k 0 fuel (by omega) (by omega)
section
variable {v:Bool} {m:Mch} (hq:QOk (mQ m) v) (h:mchB v m=true)
include hq h
end
end Tg
