import Derived.Test.YtlnihcefchoofaaGreatDoorDTu3
import Derived.Test.YtlnihcefchoofaaGreatDoorDPK
set_option linter.all false
namespace Tg
open Go
open Go.Abs (Ze Zj tmm)
theorem most{E:List Tn.Ch}(hE:∀x,¬Pth E x x):∀(n:Nat) (R:List Int),R.length<=n->R≠[] -> ∃m∈R,∀z∈R,¬Pth E m z:=by
 intro n
 induction n with
 |zero=>grind|succ n ih =>
  intro R h h0;cases R with
  |nil=>grind|cons x R =>
   by_cases hx:∃y∈R,Pth E x y;have hdec:∀y,Decidable (Pth E x y):=λy=>Classical.propDecidable _;let S:=R.filter λy=>@decide (Pth E x y) (hdec y);have hS:S≠[]:=by obtain⟨y,hy,hp⟩:=hx;have:y∈S:=List.mem_filter.2 ⟨hy,by simpa using hp⟩;grind
   have hl:S.length<=n:=by grind
   obtain⟨m,hm,hmin⟩:=ih S hl hS;obtain⟨hmR,hmx⟩:=List.mem_filter.1 hm;have hmx:Pth E x m:=by simpa using hmx
   refine⟨m,by simp[hmR],λz hz hzm=>?_⟩;rcases List.mem_cons.1 hz with rfl|hz
   exact hE m (hzm.trans hmx);exact hmin z (List.mem_filter.2 ⟨hz,by simpa using hmx.trans hzm⟩) hzm;simp_all
theorem Zzq:∀{l:List Que} {i:Nat},(∀q∈l,q.2.1=[])->Zm2 i l = -1|[],_,_=>rfl|a::l,i,h=>by rw[Zm2,h a (by simp)];exact Zzq λq hq=>h q (by simp[hq])
variable {m:Mch}{t:Tsk}
theorem Zvc{i:Nat}(ht:(mT m)[i]? = some t):Zcn m i=Zm3 t (qsAt (mU m) (joinL true (mG m) (i:Int))) (qsAt (mU m) (joinL false (mG m) (i:Int))):=by grind[Zcn]
theorem Z3y{ins outs:List Que}(hp:t.2.2.2.1=[]):Zm3 t ins outs=bif t.1==1 then decide (0<t.2.2.2.2.2.2.1.length)else decide (0<=Zm2 0 ins):=by grind[Zm3]
def sumN{α:Type}(f:α->Nat):List α->Nat|[]=>0|x::l=>f x+sumN f l
theorem Zjy{α:Type}{f:α->Nat}{B:Nat}:∀{l:List α},(∀x∈l,f x<=B)->sumN f l<=B*l.length|[],_=>Nat.zero_le _|x::l,h=>by have h1:=h x (by simp);have h2:=Zjy (l:=l) λy hy=>h y (by simp[hy]);grind[sumN,Nat.mul_add]
def evN(t:Tsk):Nat:=t.2.2.2.2.2.2.1.length
def pnN(t:Tsk):Nat:=t.2.2.2.1.length
def quN(q:Que):Nat:=q.2.1.length
theorem Yqd:∀(l:List Tsk) (a b:Nat),a+sumN evN l<=1000000000000->b+sumN pnN l<=1000000000000->l.foldl Z3j ((a:Int),(b:Int))=(((a+sumN evN l:Nat):Int),((b+sumN pnN l:Nat):Int))
 |[],a,b,_,_=>rfl|t::l,a,b,h1,h2=>by
  simp only[sumN]at h1 h2;have e:Z3j ((a:Int),(b:Int)) t=(((a+evN t:Nat):Int),((b+pnN t:Nat):Int)):=by grind[Z3j,evN,pnN,w64]
  rw[List.foldl_cons,e,Yqd l _ _ (by omega) (by omega),sumN,sumN,Nat.add_assoc,Nat.add_assoc]
theorem Yqe:∀(l:List Que) (a:Nat),a+sumN quN l<=1000000000000->l.foldl Zyw (a:Int)=((a+sumN quN l:Nat):Int)
 |[],a,_=>rfl|t::l,a,h1=>by
  simp only[sumN]at h1;have e:Zyw (a:Int) t=((a+quN t:Nat):Int):=by grind[Zyw,quN,w64]
  rw[List.foldl_cons,e,Yqe l _ (by omega),sumN,Nat.add_assoc]
theorem Yxv(hm:MLen m)(h1:(mT m).length<=100)(h2:(mU m).length<=100):Yop m=((sumN evN (mT m):Int),(sumN pnN (mT m):Int),(sumN quN (mU m):Int),()):=by have a:=Zjy (f:=evN) (B:=100000) (l:=mT m) λt ht=>(hm.t t ht).h4;have b:=Zjy (f:=pnN) (B:=100000) (l:=mT m) λt ht=>(hm.t t ht).h1;have c:=Zjy (f:=quN) (B:=100000) (l:=mU m) λq hq=>hm.u q hq;grind[Yop,Yqd,Yqe]
end Tg
namespace Tg
open Go
open Go.Abs (Ze Zj tmm)
def Yqf(m:Mch)(n:Nat):List Nat:=(List.range n).filter λi=>Zcn m i
theorem Ys9(m:Mch):Zgv m=(Yqf m (mT m).length).map λ(i:Nat)=>((i:Int),()):=by
 have key:∀(l:List Tsk) (s:List (Int×Unit)) (k:Nat),(l.foldl (λs _=>Zpq m s) (s,k)).1=s++((List.range' k l.length).filter λi=>Zcn m i).map λ(i:Nat)=>((i:Int),()):=by
  intro l
  induction l with|nil=>intro s k;simp|cons t l ih=>intro s k;rw[List.foldl_cons,show Zpq m (s,k)=(bif Zcn m k then s++[((k:Int),())]else s,k+1) from rfl,ih,J0p,List.range'_succ,List.filter_cons];cases Zcn m k<;>simp
 grind[Zgv,Yqf,List.range_eq_range']
theorem Yxw{b:Bool}{m:Mch}(hq:QOk (mQ m) b)(hm:MLen m)(h:mchB b m=true):Zbk m=some (Yop m,0,()):=by
 rw[Zyr,Zu5 m b hq hm,h];have hf:=Zr;have hl:=hm.tl;have hu:=hm.ul;simp only[cond_true,J0k,bne_self_eq_false,cond_false];have hQ:∀(n:Nat) (x y:Int),(mU m).length+2<=n->Zfe (n+1) (mU m) x y 0=some ((x,y,(mU m).foldl Zyw 0,()),0,()):=by
  intro n x y hn;rw[Zul];exact Zw5 (f:=λn s k=>Zbl n x y s (mU m) (Int.ofNat (mU m).length) k) (l:=mU m) (g:=Zyw) (fin:=λs=>some ((x,y,s,()),0,())) (N:=1) (λ_ _=>True)
   (λn s i e he _=>⟨by
    have hk:=(J0d.1 he).1;rw[Zim,ltL he,ix_s he,wS (show i<1000000000000 by omega)];rfl,trivial⟩)
   (λn s hn _=>by grind[Zim]) n 0 trivial (by omega)
 exact Zw5 (f:=λn (s:Int×Int) k=>Zb7 n (mU m) s.1 s.2 0 (mT m) (Int.ofNat (mT m).length) k) (l:=mT m) (g:=Z3j) (fin:=λs=>some ((s.1,s.2,(mU m).foldl Zyw 0,()),0,())) (N:=(mU m).length+3) (λ_ _=>True)
  (λn s i e he _=>⟨by
   have hk:=(J0d.1 he).1;rw[Zkj,ltL he,ix_s he,wS (show i<1000000000000 by omega)];rfl,trivial⟩)
  (λn s hn _=>by obtain⟨k,rfl⟩:∃k,n=k+1:=⟨n-1,by omega⟩;grind[Zkj]) fuel (0,0) trivial (by omega)
theorem Yqg{α:Type}{l:List α}{b:Nat}(h:l.length<=1000000)(hb:b<=1000):Zj b l=some (l,()):=by grind[Zj,Xe]
variable {t:Tsk}
theorem Z63(h:TLen t):Zeb t=some (t,()):=by have h1:=h.h1;have h2:=h.h2;have h3:=h.h3;have h4:=h.h4;have h5:=h.h5;have h6:=h.h6;grind[Z6v,Xe]
theorem tlen(h:Zy t=true):TLen t:=by obtain⟨h1,h2,h3,h4,h5,h6⟩:=Zd7 h;exact⟨by omega,by omega,by omega,by omega,by omega,by omega⟩
def zT:Tsk:=(0,0,0,[],[],[],[],[],[],())
def Zzr(t:Tsk)(l:List Snd):Tsk:=(t.1,t.2.1,t.2.2.1,t.2.2.2.1++l,t.2.2.2.2)
theorem Yfa{l:List Snd}(h:TLen t)(hl:l.length<=100000):Zm t l=some (bif Zy t then bif l.all sndB then bif decide (t.2.2.2.1.length+l.length<=4000)then(Zzr t l,0,())else(zT,4,())else(zT,8,())else(zT,8,())):=by
 have h1:=h.h1;rw[Yak,h.chk,Yg1 l (by omega),Z63 h];simp only[J0k];cases Zy t with|false=>rfl|true => rw[cond_true,bne_self_eq_false,cond_false,cond_true];cases l.all sndB with|false=>rfl|true => rw[Bool.not_true,cond_false,cond_true,w64 (x:=4000-Int.ofNat t.2.2.2.1.length) (by grind) (by grind)];by_cases e:t.2.2.2.1.length+l.length<=4000;rw[decide_eq_true e,cond_true,decide_eq_false (by grind),cond_false,Xe (show t.2.2.2.1.length+l.length<=1000000 by omega) (show 88<=1000 by omega)];rfl;rw[decide_eq_false e,cond_false,decide_eq_true (by grind)];rfl
theorem Yqh(h:Zy t=true):Zm t []=some (t,0,()):=by grind[Zd7,Yfa,tlen,Zzr]
theorem Yqi{l:List Snd}(h:Zy t=true)(hl:l.all sndB=true)(hn:t.2.2.2.1.length+l.length<=4000):Zy (Zzr t l)=true:=by unfold Zy at h ⊢;unfold Zzr;simp only[J0e,J0h,List.all_append,J0s]at h ⊢;obtain⟨a,b,c,d,e⟩:=h;exact⟨a,hn,c,⟨d,hl⟩,e⟩
theorem of_w{e:Evt}(h:evtB e=true):∃x,Zja e=some (x,0,())/\msgB x=true:=by
 rw[Zqu];simp only[Zqv,Zx1,J0k];unfold evtB at h;obtain⟨k,a,b,c,d,u⟩:=e;dsimp only at h ⊢;cases k with|true => simp only[cond_true,J0e,beq_iff_eq]at h;obtain⟨h1,rfl,rfl,rfl⟩:=h;refine⟨(2,0,0,0,a,0,0,0,0,0,()),?_,?_⟩;rw[h1];rfl;unfold msgB;rw[show Zfi ((2,0,0,0,a,0,0,0,0,0,()):Msg).2.2.2.2.1=true from h1];rfl|false => simp only[cond_false,J0e,beq_iff_eq]at h;obtain⟨rfl,h1⟩:=h;refine⟨(1,b,c,d,0,0,0,0,0,0,()),?_,?_⟩;rw[h1];rfl;unfold msgB;rw[show Yy ((1,b,c,d,0,0,0,0,0,0,()):Msg).2.2.1=true from h1];rfl
def srcT(t:Tsk)(x:Msg)(l:List Evt):Tsk:=(t.1,t.2.1,t.2.2.1,[(0,x)],t.2.2.2.2.1,t.2.2.2.2.2.1,l,t.2.2.2.2.2.2.2)
theorem Yta{e:Evt}{l:List Evt}(h:Zy t=true)(h1:t.1=1)(hp:t.2.2.2.1=[])(he:t.2.2.2.2.2.2.1=e::l):∃x,msgB x=true/\Zy (srcT t x l)=true/\Zne t=some (srcT t x l,0,()):=by
 obtain⟨z1,z2,z3,z4,z5,z6⟩:=Zd7 h;have hu:=h;unfold Zy at h;simp only[J0e,J0h]at h;obtain⟨a,b,c,d,f,g,i,j⟩:=h;have hev:evtB e=true/\l.all evtB=true:=by grind
 obtain⟨x,x1,x2⟩:=of_w hev.1;have hB0:Zy (t.1,t.2.1,t.2.2.1,t.2.2.2.1,t.2.2.2.2.1,t.2.2.2.2.2.1,l,t.2.2.2.2.2.2.2)=true:=by grind[Zy,Zic]
 have hs:([(0,x)]:List Snd).all sndB=true:=by grind[sndB]
 have hn:t.2.2.2.1.length+([(0,x)]:List Snd).length<=4000:=by grind
 have hP:=Yfa (t:=(t.1,t.2.1,t.2.2.1,t.2.2.2.1,t.2.2.2.2.1,t.2.2.2.2.2.1,l,t.2.2.2.2.2.2.2)) (l:=[(0,x)]) (tlen hB0) (Nat.le_of_ble_eq_true rfl);rw[hB0,hs,decide_eq_true hn,cond_true,cond_true,cond_true]at hP;have hT:Zzr (t.1,t.2.1,t.2.2.1,t.2.2.2.1,t.2.2.2.2.1,t.2.2.2.2.2.1,l,t.2.2.2.2.2.2.2) [(0,x)]=srcT t x l:=by grind[Zzr,srcT]
 refine⟨x,x2,?_,?_⟩;grind[Yqi];rw[Z1u,Zzg,Za9 hu];rw[hT]at hP;clear hT hB0 hs hn a b c d f g i j hu hev;obtain⟨k,N,u,pe,mk,st,ev,ro,la,w⟩:=t;dsimp only at *;subst h1 hp he;rw[J0k,bne_self_eq_false,cond_false,bne_self_eq_false,cond_false,J0k,bne_self_eq_false,cond_false,show decide (Int.ofNat ([]:List Snd).length>0)=false from rfl,cond_false,show(Int.ofNat (e::l).length==0)=false from beq_eq_false_iff_ne.2 (by grind),cond_false,J0q,J0k,x1,J0k,Yqg (show(e::l).length<=1000000 by omega) (show 40<=1000 by omega),J0k];grind
end Tg
namespace Tg
open Go
open Go.Abs (Ze Zj tmm)
theorem set_self{α:Type}{l:List α}{i:Nat}{e:α}(h:l[i]? = some e):l.set i e=l:=by grind[List.set_getElem_self]
def mW(m:Mch)(t:List Tsk)(u:List Que):Mch:=(m.1,m.2.1,m.2.2.1,m.2.2.2.1,m.2.2.2.2.1,m.2.2.2.2.2.1,m.2.2.2.2.2.2.1,m.2.2.2.2.2.2.2.1,m.2.2.2.2.2.2.2.2.1,m.2.2.2.2.2.2.2.2.2.1,m.2.2.2.2.2.2.2.2.2.2.1,m.2.2.2.2.2.2.2.2.2.2.2.1,t,u,())
variable {m:Mch}
theorem Zzs(ht:∀t∈mT m,Zy t=true)(hu:∀u∈mU m,queB u=true)(h1:(mT m).length<=1000)(h2:(mU m).length<=1000):Zec m=some (m,()):=by
 have hf:=Zr;have e11:∀n,1001<=n->Zbd n m.1 m.2.1 m.2.2.1 m.2.2.2.1 m.2.2.2.2.1 m.2.2.2.2.2.1 m.2.2.2.2.2.2.1 m.2.2.2.2.2.2.2.1 m.2.2.2.2.2.2.2.2.1 m.2.2.2.2.2.2.2.2.2.1 m.2.2.2.2.2.2.2.2.2.2.1 m.2.2.2.2.2.2.2.2.2.2.2.1 (mT m) (mU m) (Int.ofNat (mU m).length) 0=some (m,()):=λn hn=>by
  refine(Zcy (f:=λn k=>Zbd n m.1 m.2.1 m.2.2.1 m.2.2.2.1 m.2.2.2.2.1 m.2.2.2.2.2.1 m.2.2.2.2.2.2.1 m.2.2.2.2.2.2.2.1 m.2.2.2.2.2.2.2.2.1 m.2.2.2.2.2.2.2.2.2.1 m.2.2.2.2.2.2.2.2.2.2.1 m.2.2.2.2.2.2.2.2.2.2.2.1 (mT m) (mU m) (Int.ofNat (mU m).length) k) (l:=mU m) (p:=λ_=>true) (bad:=none) (fin:=some (m,())) (N:=0)
   (λn i u hi=>?_) (λn _=>by rw[Znd,geL,cond_false];rfl) n (by omega)).trans (by grind)
  grind[Zil,Znd,Ze2,Yqg,wS,set_self]
 have e4:=Zcy (f:=λn k=>Zeu n m.1 m.2.1 m.2.2.1 m.2.2.2.1 m.2.2.2.2.1 m.2.2.2.2.2.1 m.2.2.2.2.2.2.1 m.2.2.2.2.2.2.2.1 m.2.2.2.2.2.2.2.2.1 m.2.2.2.2.2.2.2.2.2.1 m.2.2.2.2.2.2.2.2.2.2.1 m.2.2.2.2.2.2.2.2.2.2.2.1 (mT m) (mU m) (Int.ofNat (mT m).length) k) (l:=mT m) (p:=λ_=>true) (bad:=none) (fin:=some (m,())) (N:=1100)
  (λn i t hi=>by grind[Zo0,Ze2,Yqh,wS,Int.toNat_natCast,set_self])
  (λn hn=>by obtain⟨k,rfl⟩:∃k,n=k+1:=⟨n-1,by omega⟩;grind[Zo0,Z1t]) fuel (by omega)
 rw[List.all_eq_true.2 λ_ _=>rfl,cond_true]at e4;rw[Z60,Xe (show m.2.2.2.2.2.2.2.2.2.2.2.2.1.length<=1000000 from Nat.le_trans h1 (Nat.le_of_ble_eq_true rfl)) (show 168<=1000 by omega),Xe (show m.2.2.2.2.2.2.2.2.2.2.2.2.2.1.length<=1000000 from Nat.le_trans h2 (Nat.le_of_ble_eq_true rfl)) (show 32<=1000 by omega)];exact e4
variable {t:Tsk}
theorem Z3z{i:Nat}{e:Evt}{l:List Evt}(ht:∀t∈mT m,Zy t=true)(hu:∀u∈mU m,queB u=true)(h1:(mT m).length<=1000)(h2:(mU m).length<=1000)
    (hi:(mT m)[i]? = some t) (h0:t.1=1) (hp:t.2.2.2.1=[]) (he:t.2.2.2.2.2.2.1=e::l):∃x,msgB x=true/\Zy (srcT t x l)=true/\Zed m (i:Int)=some (mW m ((mT m).set i (srcT t x l)) (mU m),true,()):=by
  obtain⟨x,x1,x2,x3⟩:=Yta (ht t (J0j hi)) h0 hp he;refine⟨x,x1,x2,?_⟩;have hi' : m.2.2.2.2.2.2.2.2.2.2.2.2.1[i]? = some t:=hi;rw[Zju,ix_s hi',hp,List.length_nil,show decide (Int.ofNat 0>0)=false from rfl,cond_false,h0,bne_self_eq_false,cond_false,x3,J0k,Zzs ht hu h1 h2,J0k,Ze2 hi',J0l];rfl
theorem Zrl{α:Type}{p:Nat->α->Bool}:∀{l:List α} {k i:Nat} {e:α},allI p k l=true->p (k+i) e=true->allI p k (l.set i e)=true|[],_,_,_,_,_=>rfl|a::l,k,0,e,h,he=>by grind[allI]|a::l,k,i+1,e,h,he=>by rw[allI,J0e]at h;rw[List.set_cons_succ,allI,J0e];exact⟨h.1,Zrl h.2 (by grind)⟩
theorem Yfb{b:Bool}(h:mchB b m=true){i:Nat}(ht:fitB m.2.2.2.1 m.2.2.2.2.2.2.2.2.2.1 (mG m) i t=true):mchB b (mW m ((mT m).set i t) (mU m))=true:=by
 unfold mchB at h ⊢;simp only[J0e]at h ⊢;obtain⟨h1,h2,h3,h4,h5,h6⟩:=h;refine⟨h1,h2,?_,h4,h5,?_⟩;show(((mT m).set i t).length==(mG m).1.length)=true;grind;exact Zrl h6 (by rw[Nat.zero_add];exact ht)
end Tg
namespace Tg
open Go
open Go.Abs (Ze Zj tmm)
section
variable {b:Bool} {m:Mch} (hq:QOk (mQ m) b) (hm:MLen m) (h:mchB b m=true)
include hq hm h
theorem Ya0{i:Nat}(hi:i<(mT m).length):Zjl m (i:Int)=some (0,()):=by rw[Zq5,Zu5 m b hq hm,h,cond_true,J0k,bne_self_eq_false,cond_false,decide_eq_false (show ¬(i:Int)<0 by omega),cond_false,decide_eq_false (show ¬(i:Int)>=Int.ofNat m.2.2.2.2.2.2.2.2.2.2.2.2.1.length from by have:i<m.2.2.2.2.2.2.2.2.2.2.2.2.1.length:=hi;grind)];rfl
theorem Zpu{i:Nat}(hi:i<(mT m).length)(ha:Zcn m i=true){x:Mch}(hb:Zed m (i:Int)=some (x,true,())):Zf1 m (i:Int)=some (x,0,()):=by grind[Zt1,Ya0,Zsl]
end
variable {b:Bool}{m:Mch}
theorem Zhs(h:mchB b m=true):∀t∈mT m,Zy t=true:=λt ht=>by obtain⟨_,_,_,_,_,_,_,hts⟩:=Xy h;grind[List.getElem?_of_mem,fitB]
theorem mlen(h:mchB b m=true):MLen m:=by obtain⟨_,_,h1,h2,h3,h4,h5,_⟩:=Xy h;exact⟨λt ht=>tlen (Zhs h t ht),λq hq=>by grind[Zil],by omega,by omega,by omega,by omega⟩
theorem Yqj(hq:QOk (mQ m) b)(h:mchB b m=true){i:Nat}{t:Tsk}{e:Evt}{l:List Evt}(hi:(mT m)[i]? = some t)(h0:t.1=1)(hp:t.2.2.2.1=[])(he:t.2.2.2.2.2.2.1=e::l) :
    ∃t',t'.2.2.2.1≠[]/\Zf1 m (i:Int)=some (mW m ((mT m).set i t') (mU m),0,())/\mchB b (mW m ((mT m).set i t') (mU m))=true:=by
  obtain⟨_,hr,g1,g2,h3,h4,h5,hts⟩:=Xy h;have hl:=(J0d.1 hi).1;obtain⟨x,x1,x2,x3⟩:=Z3z (Zhs h) h5 (by omega) (by omega) hi h0 hp he;have ha:Zcn m i=true:=by rw[Zvc hi];grind[Zm3]
  refine⟨srcT t x l,by simp[srcT],Zpu hq (mlen h) h hl ha x3,Yfb h ?_⟩;have hf:=hts i t hi;obtain⟨o,ho⟩:∃o,(mG m).1[i]? = some o:=⟨_,J0c (by omega)⟩;have hb:=(hr.2.2 i o ho).2;unfold fitB at hf ⊢;rw[ho]at hf ⊢;simp only[J0e]at hf ⊢;grind[srcT,Zib,bnd]
end Tg
namespace Tg
open Go
open Go.Abs (Ze Zj tmm)
abbrev zX:Msg:=(0,0,0,0,0,0,0,0,0,0,())
theorem cp_w{α:Type}(l:List α)(z:α){n:Nat}(h:l.length<=n):List.take (min l.length (List.replicate n z).length) l++List.drop (min l.length (List.replicate n z).length) (List.replicate n z)=l++List.replicate (n-l.length) z:=by grind
variable {x:Msg}
theorem Y1w{q:Que}(h:queB q=true)(hx:msgB x=true)(hr:(q.2.1.length:Int)<q.1):Zm6 q x=some ((q.1,q.2.1++[x],()),0,()):=by
 have hl:=Zil h;rw[Z1k,Zgs h,Q9,hx];have e1:Go.IntKind.wrap .i64 (Int.ofNat q.2.1.length+1)=((q.2.1.length+1:Nat):Int):=wS (by omega);have e2:(Int.ofNat q.2.1.length==q.1)=false:=beq_eq_false_iff_ne.2 (by grind);have e3:(decide (Int.toNat ((q.2.1.length+1:Nat):Int)<=Int.toNat ((q.2.1.length+1:Nat):Int))&&(decide (80*Int.toNat ((q.2.1.length+1:Nat):Int)<=281474976710656)&&decide (Int.toNat ((q.2.1.length+1:Nat):Int)<=9223372036854775807)))=true:=by grind
 rw[J0k,bne_self_eq_false,cond_false,J0k,cond_true,bne_self_eq_false,cond_false,e2,cond_false,e1,iN,cond_true,cond_true,e3,cond_true,J0l];simp_all
theorem Yxx{q:Que}{l:List Msg}(h:queB q=true)(hq:q.2.1=x::l):Zjp q=some (x,(q.1,l,()),0,()):=by
 have hl:=Zil h;rw[Zy2,Zgs h];have e2:(Int.ofNat q.2.1.length==0)=false:=beq_eq_false_iff_ne.2 (by grind);have e3:(decide (Int.toNat (Int.ofNat q.2.1.length)<=Int.toNat (Int.ofNat q.2.1.length))&&(decide (80*Int.toNat (Int.ofNat q.2.1.length)<=281474976710656)&&decide (Int.toNat (Int.ofNat q.2.1.length)<=9223372036854775807)))=true:=by grind
 rw[J0k,bne_self_eq_false,cond_false,e2,cond_false,e3,cond_true];have ec:=cp_w q.2.1 zX (n:=Int.toNat (Int.ofNat q.2.1.length)) (Nat.le_refl _);rw[ec,show Int.toNat (Int.ofNat q.2.1.length)=q.2.1.length from rfl,Nat.sub_self,List.replicate_zero,List.append_nil,hq];rw[decide_eq_true (show 0<(x::l).length by simp),cond_true,J0q,J0k,decide_eq_true rfl,cond_true];rw[show(decide (1<=(x::l).length)&&decide ((x::l).length<=(x::l).length))=true by simp,cond_true];cases l with|nil=>rfl|cons y l=>simp_all
def Ze8(t:Tsk)(l:List Snd):Tsk:=(t.1,t.2.1,t.2.2.1,l,t.2.2.2.2)
theorem Yxy{t:Tsk}{outs:List Que}{s:Snd}{l:List Snd}{k:Nat}{q:Que}(h:Zy t=true)(h3:outs.length<=3)(h5:outs.all queB=true)(hp:t.2.2.2.1=s::l)(hk:s.1=(k:Int))(hq:outs[k]? = some q)(hr:(q.2.1.length:Int)<q.1) :
    Zsv t outs=some (Ze8 t l,outs.set k (q.1,q.2.1++[s.2],()),0,())/\Zy (Ze8 t l)=true:=by
  have hf:=Zr;have hkl:=(J0d.1 hq).1;have hqB:=List.all_eq_true.1 h5 q (J0j hq);have hT:=h;have hlen:=(Zd7 h).1;unfold Zy at h;simp only[J0e,J0h]at h;obtain⟨a,b,c,d,e⟩:=h;rw[hp,List.all_cons,J0e]at d;have hs:msgB s.2=true:=by grind[sndB]
  constructor;rw[Yan,Zji hT (by simp) h3 (by rfl) h5,hp];have e1:(Int.ofNat (s::l).length==0)=false:=beq_eq_false_iff_ne.2 (by grind);rw[J0k,bne_self_eq_false,cond_false,e1,cond_false,J0q,J0k,hk,decide_eq_false (show ¬((k:Int)>=Int.ofNat outs.length) by grind),cond_false,ix_s hq,Y1w hqB hs hr,J0k,bne_self_eq_false,cond_false,Xe (show outs.length<=1000000 by omega) (show 32<=1000 by omega),cond_true,J0k];have lp:=Zcy (f:=λn i=>Zet n t.1 t.2.1 t.2.2.1 (s::l) t.2.2.2.2.1 t.2.2.2.2.2.1 t.2.2.2.2.2.2.1 t.2.2.2.2.2.2.2.1 t.2.2.2.2.2.2.2.2.1 (k:Int) q.1 (q.2.1++[s.2]) outs (Int.ofNat outs.length) i) (l:=outs) (p:=λ_=>true) (bad:=none)
   (fin:=some (Ze8 t l,outs.set k (q.1,q.2.1++[s.2],()),0,())) (N:=5)
   (λn i u hi=>by grind[Zil,Zox,Ze2,Yqg,wS,Int.toNat_natCast,set_self])
   (λn hn=>by obtain⟨m,rfl⟩:∃m,n=m+1:=⟨n-1,by omega⟩;rw[Zox,geL,cond_false,Z1q,Ze2 hq,J0l];rw[show Zeb (t.1,t.2.1,t.2.2.1,s::l,t.2.2.2.2.1,t.2.2.2.2.2.1,t.2.2.2.2.2.2.1,t.2.2.2.2.2.2.2.1,t.2.2.2.2.2.2.2.2.1,())=some (t,()) by grind[Z63,tlen]];rw[J0k,hp,decide_eq_true (show 1<=(s::l).length by simp),cond_true,List.take_length,List.drop_one,List.tail_cons];rfl) fuel (by omega)
  grind;unfold Zy Ze8;simp only[J0e,J0h];rw[hp]at hlen;simp only[J0p]at hlen;exact⟨a,by omega,c,d.2,e⟩
end Tg
namespace Tg
open Go
open Go.Abs (Ze Zj tmm)
theorem Ya1{x:Gr}(h:Tj.Zhn x.1 x.2.1)(b:Bool)(op:Int):(joinL b x op).Nodup:=by grind[joinL,Tj.Zty,Zq2]
theorem Zrm{u:List Que}:∀{l:List (Int×Unit)} {k:Nat} {j:Nat} {q:Que},(∀y∈l,∃i:Nat,i<u.length/\y=((i:Int),()))->l[k]? = some ((j:Int),())->u[j]? = some q->(qsAt u l)[k]? = some q
 |[],_,_,_,_,h,_=>by simp at h|y::l,k,j,q,hl,h,hq=>by
  obtain⟨i,hi,rfl⟩:=hl y (by simp);have e:qsAt u (((i:Int),())::l)=u[i]::qsAt u l:=by grind[qsAt]
  rw[e];cases k with|zero=>grind|succ k=>rw[List.getElem?_cons_succ]at h ⊢;exact Zrm (λz hz=>hl z (by simp[hz])) h hq
theorem Ytb{u:List Que}:∀{l:List (Int×Unit)} {k:Nat} {q:Que},(∀y∈l,∃i:Nat,i<u.length/\y=((i:Int),()))->(qsAt u l)[k]? = some q -> ∃j:Nat,l[k]? = some ((j:Int),())/\u[j]? = some q:=λ{l k q} hl h=>by grind[Zin,List.getElem_mem,Zrm]
theorem Yqk{m:Mch}(h5:∀q∈mU m,queB q=true)(l:List (Int×Unit)):(qsAt (mU m) l).all queB=true:=by grind[qsAt]
theorem Zzt{j:Nat}{q:Que}:∀(l:List (Int×Unit)) (s:List Que),l.foldl (λs e=>bif e.1==(j:Int)then s.set j q else s) (s.set j q)=s.set j q
 |[],_=>rfl|e::l,s=>by
  rw[List.foldl_cons];cases e.1==(j:Int)with|true=>rw[cond_true,List.set_set];exact Zzt l s|false=>exact Zzt l s
theorem Yh1{j:Nat}{q:Que}:∀(l:List (Int×Unit)) (s:List Que),((j:Int),())∈l->l.foldl (λs e=>bif e.1==(j:Int)then s.set j q else s) s=s.set j q
 |[],_,h=>by cases h|e::l,s,h=>by
  rw[List.foldl_cons];cases he:e.1==(j:Int)with|true=>exact Zzt l s|false=>refine Yh1 l s ?_;grind
section
variable {b:Bool} {m:Mch} (h:mchB b m=true)
include h
theorem Yh2(c:Bool)(i:Nat):∀y∈joinL c (mG m) (i:Int),∃k:Nat,k<(mU m).length/\y=((k:Int),()):=λy hy=>by grind[Xy,Z3h]
theorem Yfc{i:Nat}{t:Tsk}{s:Snd}{l:List Snd}(hi:(mT m)[i]? = some t)(hp:t.2.2.2.1=s::l)(ha:Zcn m i=true) :
    ∃(j k:Nat) (q:Que),s.1=(k:Int)/\(joinL false (mG m) (i:Int))[k]? = some ((j:Int),())/\(mU m)[j]? = some q/\(q.2.1.length:Int)<q.1/\Zy (Ze8 t l)=true/\msgB s.2=true /\
     Zed m (i:Int)=some (mW m ((mT m).set i (Ze8 t l)) ((mU m).set j (q.1,q.2.1++[s.2],())),true,()):=by
  have hf:=Zr;obtain⟨_,hr,g1,g2,h3,h4,h5,hts⟩:=Xy h;have hl:=(J0d.1 hi).1;have hB:=Zhs h t (J0j hi);have hJ:=Yh2 h false i;have hn:=Zbj hr false (i:Int);have hc:=Zjj hr (i:=i) (by omega);have hs:=hts i t hi;have hms:0<=s.1/\msgB s.2=true:=by grind[Zy,sndB]
  have hsl:s.1<(cnt false (i:Int) (mG m).2.1:Int):=by grind[fitB]
  obtain⟨k,hk⟩:∃k:Nat,s.1=(k:Int):=⟨s.1.toNat,by omega⟩;have hkl:k<(joinL false (mG m) (i:Int)).length:=by omega
  obtain⟨j,hj,ej⟩:=hJ _ (List.getElem_mem hkl);have hy:(joinL false (mG m) (i:Int))[k]? = some ((j:Int),()):=by grind
  obtain⟨q,hq⟩:∃q,(mU m)[j]? = some q:=⟨_,J0c hj⟩;have hqk:=Zrm hJ hy hq;have hroom:(q.2.1.length:Int)<q.1:=by rw[Zvc hi]at ha;grind[Zm3]
  have hol:=Zin hJ;obtain⟨e1,e2⟩:=Yxy hB (by omega) (Yqk h5 (joinL false (mG m) (i:Int))) hp hk hqk hroom;refine⟨j,k,q,hk,hy,hq,hroom,e2,hms.2,?_⟩;have hi' : m.2.2.2.2.2.2.2.2.2.2.2.2.1[i]? = some t:=hi;have hnd:=Ya1 hr false (i:Int);have lp:=Zw5 (f:=λn u z=>Zdk n m.1 m.2.1 m.2.2.1 m.2.2.2.1 m.2.2.2.2.1 m.2.2.2.2.2.1 m.2.2.2.2.2.2.1 m.2.2.2.2.2.2.2.1 m.2.2.2.2.2.2.2.2.1 m.2.2.2.2.2.2.2.2.2.1 m.2.2.2.2.2.2.2.2.2.2.1 m.2.2.2.2.2.2.2.2.2.2.2.1 ((mT m).set i (Ze8 t l)) u ((qsAt (mU m) (joinL false (mG m) (i:Int))).set k (q.1,q.2.1++[s.2],())) (joinL false (mG m) (i:Int)) (Int.ofNat (joinL false (mG m) (i:Int)).length) z)
   (l:=joinL false (mG m) (i:Int)) (g:=λu e=>bif e.1==(j:Int)then u.set j (q.1,q.2.1++[s.2],())else u) (fin:=λu=>some (mW m ((mT m).set i (Ze8 t l)) u,true,())) (N:=0)
   (λ_ u=>u=mU m∨u=(mU m).set j (q.1,q.2.1++[s.2],()))
   (λn u d e hd hu=>by
    have hdl:=(J0d.1 hd).1;obtain⟨j',hj',rfl⟩:=hJ e (J0j hd);obtain⟨v,hv⟩:∃v,(mU m)[j']? = some v:=⟨_,J0c hj'⟩;have hqd:=Zrm hJ hd hv;by_cases ek:d=k;subst ek;obtain rfl:j' = j:=by grind
    have hu' : ∃v',u[j']? = some v' := by grind
    obtain⟨v',hv'⟩:=hu';constructor;rw[Zg0,ltL hd,cond_true,ix_s hd,ix_s (e:=(q.1,q.2.1++[s.2],())) (by grind),Ze2 hv',wS (show d<1000000000000 by omega),J0l,beq_self_eq_true];rfl;grind[List.set_set];have ne:j' ≠ j:=λe=>by grind[List.getElem?_inj]
    have hu' : u[j']? = some v:=by grind
    constructor;rw[Zg0,ltL hd,cond_true,ix_s hd,ix_s (e:=v) (by grind),Ze2 hu',wS (show d<1000000000000 by omega),J0l,show u.set j' (v.1,v.2.1,v.2.2)=u from set_self hu',show((j' : Int)==(j:Int))=false from beq_eq_false_iff_ne.2 (by omega)];rfl;grind)
   (λn u _ _=>by rw[Zg0,geL,cond_false];rfl) fuel (mU m) (.inl rfl) (by omega)
  rw[Zju,ix_s hi',hp,show decide (Int.ofNat (s::l).length>0)=true from decide_eq_true (by grind),cond_true];rw[show Ya (m.2.2.2.2.2.2.2.2.2.2.1,m.2.2.2.2.2.2.2.2.2.2.2.1,()) (i:Int)=some (joinL false (mG m) (i:Int),()) from Znz hr g2 (by omega),J0k,Zq7 m _ (by omega) hJ,J0k,e1,J0k,Zzs (Zhs h) h5 (by omega) (by omega),J0k,Ze2 hi',J0l];refine lp.trans ?_;grind[Yh1]
end
theorem b63(a:Int):decide (Go.bits .and .i64 a 63<0)=false:=by
 have h:(BitVec.ofInt 64 a &&& BitVec.ofInt 64 63).toNat<=63:=by grind[Nat.and_le_right]
 refine decide_eq_false ?_;show ¬Go.IntKind.wrap .i64 ((BitVec.ofInt 64 a &&& BitVec.ofInt 64 63).toNat:Int)<0;grind[w64]
theorem Ytc(b:Bool):Xl b=some (bif b then 1 else 0,()):=by grind[Z6e]
theorem Yxz(k a b:Int):∃v e,Z6f k a b=some (v,e,()):=by
 rw[Yji];simp only[Ytc,J0k,b63,cond_false];cases k==5<;>cases k==6<;>cases k==7<;>cases k==8<;>cases k==9<;>try exact⟨_,_,rfl⟩
 cases k==10<;>cases k==11<;>cases k==12<;>cases k==13<;>cases k==14<;>try exact⟨_,_,rfl⟩
 cases k==15<;>cases k==16<;>cases k==17<;>cases k==18<;>cases k==19<;>try grind
 all_goals cases a != 0<;>exact⟨_,_,rfl⟩
theorem Zzu{l:List Nd5}(hl:l.length<=60)(hok:∀(i:Nat) x,l[i]? = some x->okN i x)(x0 x1 x2 x3 x4:Int):∀(d i n:Nat) (v:List (Int×Unit)),i+d=l.length->v.length=l.length->d+1<=n ->
    ∃w e,Yq n x0 x1 x2 x3 x4 v l (Int.ofNat l.length) (i:Int)=some (w,e,())/\(e=0->w.length=l.length)
  |0,i,n,v,h1,h2,h3=>by
   obtain⟨m,rfl⟩:∃m,n=m+1:=⟨n-1,by omega⟩;obtain rfl:i=l.length:=by omega
   rw[Zo1,geL,cond_false];grind
  |d+1,i,n,v,h1,h2,h3=>by
   obtain⟨m,rfl⟩:∃m,n=m+1:=⟨n-1,by omega⟩;obtain⟨x,hx⟩:∃x,l[i]? = some x:=⟨_,J0c (by omega)⟩;obtain⟨c,hc⟩:∃c,v[i]? = some c:=⟨_,J0c (by omega)⟩;obtain⟨o1,o2,o3,o4,o5,o6,_⟩:=hok i x hx;have ih:=λv' (h:v'.length=l.length)=>Zzu hl hok x0 x1 x2 x3 x4 d (i+1) m v' (by omega) h (by omega);have hs:∀z:Int×Unit,(v.set i z).length=l.length:=λz=>by grind
   rw[Zo1,ltL hx,cond_true,ix_s hx,wS (show i<1000000000000 by omega)];simp only[Ze2 hc,J0l];cases x.1==1 with
   |true=>exact ih _ (hs _)|false =>
    rw[cond_false];by_cases h4:x.1<=4
    . rw[decide_eq_true h4,cond_true,decide_eq_true (show(0:Int)<=x.1 by omega),cond_true];obtain h|h|h|h:x.1.toNat=1∨x.1.toNat=2∨x.1.toNat=3∨x.1.toNat=4:=by omega
      all_goals
       grind
    rw[decide_eq_false h4,cond_false];obtain⟨a,ha⟩:∃a:Nat,x.2.2.1=(a:Int):=⟨x.2.2.1.toNat,by omega⟩;obtain⟨b,hb⟩:∃b:Nat,x.2.2.2.1=(b:Int):=⟨x.2.2.2.1.toNat,by omega⟩;obtain⟨ca,hca⟩:∃c,v[a]? = some c:=⟨_,J0c (by omega)⟩;obtain⟨cb,hcb⟩:∃c,v[b]? = some c:=⟨_,J0c (by omega)⟩;obtain⟨r,e,hr⟩:=Yxz x.1 ca.1 cb.1;rw[ha,hb,Ze2 hca,Ze2 hcb,hr,J0k];grind
theorem Z30(l:List Nd5)(r:Rec3):∃v e,Zrh l r=some (v,e,()):=by
 rw[Yez,Yaq,Z1l];rw[show Zmr l=some (ofK l) from Yoz l];simp only[J0k];cases he:(ofK l).2.2.1 != 0 with
 |true=>grind|false =>
  have h0:errN l=0:=by grind[ofK]
  obtain⟨h60,h1,hok⟩:=err0 h0;have hf:=Zr;rw[cond_false,show(decide (Int.toNat (Int.ofNat l.length)<=Int.toNat (Int.ofNat l.length))&&(decide (8*Int.toNat (Int.ofNat l.length)<=281474976710656)&&decide (Int.toNat (Int.ofNat l.length)<=9223372036854775807)))=true by grind,cond_true];obtain⟨w,e,k1,k2⟩:=Zzu h60 hok 0 0 r.1 r.2.1 r.2.2.1 l.length 0 fuel (List.replicate (Int.toNat (Int.ofNat l.length)) (0,())) (by omega) (by grind) (by omega);rw[show(0:Int)=((0:Nat):Int) from rfl]at *;rw[k1,J0k];cases hz:e != ((0:Nat):Int)with|true=>grind|false=>have:=k2 (by simpa using hz);obtain⟨c,hc⟩:∃c,w[w.length-1]? = some c:=⟨_,J0c (by omega)⟩;grind[w64,ix_s]
theorem Ya2(q:Qry)(r:Rec3)(hr:Yy r.2.1=true):∃r' ok e,Zgz q r=some (r',ok,e,())/\(ok=true->r'.2.1=r.2.1):=by
 obtain⟨n,hn⟩:∃n,fuel=n+2:=⟨fuel-2,by grind[Zr]⟩;rw[Zsx,Zhr,show Yl q=some (chkQ q) from Zio q];have hm:msgB (1,r.1,r.2.1,r.2.2.1,0,0,0,0,0,0,())=true:=by unfold msgB;rw[show Yy ((1,r.1,r.2.1,r.2.2.1,0,0,0,0,0,0,()):Msg).2.2.1=true from hr];rfl
 have k13:∀m x0 x1 x2 x4,∃r' ok e,Zal (m+1) x0 x1 x2 r.2.1 x4=some (r',ok,e,())/\(ok=true->r'.2.1=r.2.1):=λm x0 x1 x2 x4=>by grind[Zps]
 have k6:∀x0 x1 x2,∃r' ok e,Zdj fuel x0 x1 x2 r.1 r.2.1 r.2.2.1=some (r',ok,e,())/\(ok=true->r'.2.1=r.2.1):=λx0 x1 x2=>by
  rw[hn,Zri];obtain⟨v,e,hv⟩:=Z30 x1 (r.1,r.2.1,r.2.2.1,());rw[hv,J0k];cases x0 != 1 with|true=>exact k13 _ _ _ _ _|false=>exact k13 _ _ _ _ _
 simp only[J0k,Q9,hm,cond_true,bne_self_eq_false,cond_false];cases((chkQ q).2.1==0)with|false=>grind|true => rw[Bool.not_true,cond_false];obtain⟨v,e,hv⟩:=Z30 q.2.2.2.2.1 r;cases decide (Int.ofNat q.2.2.2.2.1.length>0)with|false=>exact k6 _ _ _|true => rw[cond_true,hv,J0k];cases v==0 with|true=>grind|false=>exact k6 _ _ _
structure Nxt(t t' : Tsk) (o:Int):Prop where
 B:Zy t' = true
 k:t'.1=t.1
 n:t'.2.1=t.2.1
 ms:t'.2.2.2.2.1.length=t.2.2.2.2.1.length
 ev:t'.2.2.2.2.2.2.1=t.2.2.2.2.2.2.1
 out:∀s∈t'.2.2.2.1,s.1<o
def Ret(t:Tsk)(o:Int)(r:Option (Tsk×Int×Unit)):Prop:=∃t' e,r=some (t',e,())/\(e=0->Nxt t t' o)
variable {t:Tsk}{o:Int}
theorem Qa{z: Tsk}{e: Int}(h:(e != 0)=true):Ret t o (some (z,e,())):=⟨z,e,rfl,λh0=>by grind⟩
theorem Znh{t1: Tsk}{l:List Snd}(h:TLen t1)(hl:l.length<=100000)(e1:t1.1=t.1)(e2:t1.2.1=t.2.1)(e3:t1.2.2.2.2.1.length=t.2.2.2.2.1.length)(e4:t1.2.2.2.2.2.2.1=t.2.2.2.2.2.2.1)(e5:t1.2.2.2.1=[])(ho:∀s∈l,s.1<o) :
    Ret t o ((Zm t1 l).bind λe=>some (e.1,e.2.1,())):=by
  rw[Yfa h hl];cases hB:Zy t1 with|false=>exact Qa rfl|true => cases hs:l.all sndB with|false=>exact Qa rfl|true => by_cases hn:t1.2.2.2.1.length+l.length<=4000;rw[decide_eq_true hn];refine⟨Zzr t1 l,0,rfl,λ_=>⟨Yqi hB hs hn,e1,e2,e3,e4,λs hs=>ho s ?_⟩⟩;have hs:s∈t1.2.2.2.1++l:=hs;rwa [e5]at hs;grind[Qa]
theorem Yju{q:Qry}{x:Msg}(h:Zy t=true)(h1:t.1=2)(hp:t.2.2.2.1=[])(hx:msgB x=true)(ho:0<o)(ho2:q.2.2.2.2.2.2.2.2.2.1=2->1<o):Ret t o (Znf q t x):=by
 have hT:=tlen h;have h2:=hT.h2;have h3:=hT.h3;have h4:=hT.h4;have h5:=hT.h5;have h6:=hT.h6;obtain⟨mk,hm⟩:∃mk,t.2.2.2.2.1=[mk]:=by unfold Zy at h;simp only[J0e]at h;have:=h.2.2.1;unfold Zic at this;rw[h1]at this;simp only[show((2:Int)==1)=false from rfl,cond_false,show((2:Int)==2)=true from rfl,cond_true,J0e,beq_iff_eq]at this;exact List.length_eq_one_iff.1 this.1
 have P0:Ret t o ((Zm t []).bind λe=>some (e.1,e.2.1,())):=Znh hT (Nat.zero_le _) rfl rfl rfl rfl hp (λs hs=>by cases hs);have P1:∀s:Snd,s.1<o->Ret t o ((Zm t [s]).bind λe=>some (e.1,e.2.1,())):=λs hs=>Znh hT (Nat.le_of_ble_eq_true rfl) rfl rfl rfl rfl hp (λs' hs' => by grind);have PM:∀z:Int×Unit,Ret t o ((Zm (t.1,t.2.1,t.2.2.1,t.2.2.2.1,t.2.2.2.2.1.set 0 z,t.2.2.2.2.2) [(0,x)]).bind λe=>some (e.1,e.2.1,())):=λz=>Znh ⟨hT.h1,by grind,h3,h4,h5,h6⟩ (Nat.le_of_ble_eq_true rfl) rfl rfl List.length_set rfl hp (λs hs=>by grind);have a0:(t.1 != 2)=false:=by rw[h1];rfl
 have hp0:decide (Int.ofNat t.2.2.2.1.length>0)=false:=by rw[hp];rfl
 have hm0:t.2.2.2.2.1[0]? = some mk:=by rw[hm];rfl
 have hm1:t.2.2.2.2.1.length=1:=by rw[hm];rfl
 rw[Z1v,Zhr,show Yl q=some (chkQ q) from Zio q,Za9 h];simp only[J0k,Q9,hx,cond_true,bne_self_eq_false,cond_false,a0,hp0,hm0];cases((chkQ q).2.1==0)with
 |false=>exact Qa rfl|true =>
  rw[Bool.not_true,cond_false];by_cases k1:x.1=1;rw[show(x.1 != 1)=false by rw[k1];rfl,cond_false,show(x.1==2)=false by rw[k1];rfl,cond_false];have ht:Yy x.2.2.1=true:=by grind[msgB]
  cases decide (x.2.2.1<mk.1)with
  |true => cases hl:q.2.2.2.2.2.2.2.2.2.1 != 2 with|true=>exact P0|false=>grind
  |false => obtain⟨r',ok,e,hr,_⟩:=Ya2 q (x.2.1,x.2.2.1,x.2.2.2.1,()) ht;rw[cond_false,hr,J0k];cases ok with|false=>exact P0|true=>exact P1 _ ho
  rw[show(x.1 != 1)=true by simpa using k1,cond_true];by_cases k2:x.1=2;rw[show(x.1 != 2)=false by rw[k2];rfl,cond_false,show(x.1==2)=true by rw[k2];rfl,cond_true];cases decide (x.2.2.2.2.1<=mk.1)with|true=>exact P0|false=>grind[Xe]
  grind[Qa]
end Tg
namespace Tg
open Go
open Go.Abs (Ze Zj tmm)
theorem Ya3{α β:Type}(f:α->β):∀(l:List α) (s:List β),l.foldl (λs e=>s++[f e]) s=s++l.map f|[],s=>by simp|a::l,s=>by rw[List.foldl_cons,Ya3 f l];simp
theorem to_w(x:Msg)(l:List (Int×Unit))(hl:l.length<=1000):Zu8 x l=some (l.map λe=>(e.1,x),()):=by
 have hf:=Zr;have:=Zw5 (f:=λn s k=>Zjq n x.1 x.2.1 x.2.2.1 x.2.2.2.1 x.2.2.2.2.1 x.2.2.2.2.2.1 x.2.2.2.2.2.2.1 x.2.2.2.2.2.2.2.1 x.2.2.2.2.2.2.2.2.1 x.2.2.2.2.2.2.2.2.2.1 s l (Int.ofNat l.length) k) (l:=l) (g:=λ(s:List Snd) e=>s++[(e.1,x)]) (fin:=λs=>some (s,())) (N:=0) (λi s=>s.length<=i)
  (λn s i e h hp=>by grind[Zy3,ix_s,wS,Xe])
  (λn s _ _=>by grind[Zy3]) fuel [] (Nat.le_refl _) (by omega)
 grind[Yjk,Ya3]
def nat0(n:Nat):List (Int×Unit):=(List.range n).map λi:Nat=>((i:Int),())
variable {t:Tsk}{x:Msg}
theorem Yql{n:Nat}(h:Zy t=true)(h1:t.1=3)(hp:t.2.2.2.1=[])(hx:msgB x=true)(hn:1<=n/\n<=3):Ret t (n:Int) (Zsy t x (Int.ofNat n)):=by
 have hT:=tlen h;have hf:=Zr;have PL:∀l:List Snd,l.length<=1000->(∀s∈l,s.1<(n:Int))->Ret t (n:Int) ((Zm t l).bind λe=>some (e.1,e.2.1,())):=λl hl hs=>Znh hT (by omega) rfl rfl rfl rfl hp hs;have lp:∀d i k:Nat,i+d=n->d+1<=k->Zbx k t.1 t.2.1 t.2.2.1 t.2.2.2.1 t.2.2.2.2.1 t.2.2.2.2.2.1 t.2.2.2.2.2.2.1 t.2.2.2.2.2.2.2.1 t.2.2.2.2.2.2.2.2.1 x.1 x.2.1 x.2.2.1 x.2.2.2.1 x.2.2.2.2.1 x.2.2.2.2.2.1 x.2.2.2.2.2.2.1 x.2.2.2.2.2.2.2.1 x.2.2.2.2.2.2.2.2.1 x.2.2.2.2.2.2.2.2.2.1 (nat0 i) (Int.ofNat n) (i:Int)=(Zm t ((nat0 n).map λe=>(e.1,x))).bind λe=>some (e.1,e.2.1,()):=by
  intro d
  induction d with
  |zero=>intro i k hi hk;obtain⟨k,rfl⟩:∃j,k=j+1:=⟨k-1,by omega⟩;grind[Zo2,nat0,to_w]|succ d ih =>
   intro i k hi hk;obtain⟨k,rfl⟩:∃j,k=j+1:=⟨k-1,by omega⟩;have hl:(nat0 i).length=i:=by unfold nat0;simp
   rw[Zo2,decide_eq_true (show(i:Int)<Int.ofNat n by grind),cond_true,Xe (show(nat0 i).length+List.length [((i:Int),())]<=1000000 by grind) (show 8<=1000 by omega),cond_true,wS (show i<1000000000000 by omega)];rw[show nat0 i++[((i:Int),())]=nat0 (i+1) by grind[nat0,List.range_succ]];grind
 have a0:(t.1 != 3)=false:=by rw[h1];rfl
 have hp0:decide (Int.ofNat t.2.2.2.1.length>0)=false:=by rw[hp];rfl
 have hO:Z6g x.2.1 (Int.ofNat n)=some (Int.tmod (Go.IntKind.wrap .i64 (Int.tmod x.2.1 (Int.ofNat n)+Int.ofNat n)) (Int.ofNat n),0,()):=by grind[Yjj]
 rw[Yar,Za9 h,hO];simp only[J0k,Q9,hx,cond_true,bne_self_eq_false,cond_false,a0,hp0];by_cases k1:x.1=1;rw[show(x.1 != 1)=false by rw[k1];rfl,cond_false,show(x.1==1)=true by rw[k1];rfl,cond_true,to_w x _ (Nat.le_of_ble_eq_true rfl),J0k];refine PL _ (Nat.le_of_ble_eq_true rfl) λs hs=>?_;rw[List.map_cons,List.map_nil,List.mem_singleton]at hs;rw[hs];exact Int.tmod_lt_of_pos _ (by grind);rw[show(x.1 != 1)=true by simpa using k1,cond_true];by_cases k2:x.1=2;rw[show(x.1 != 2)=false by rw[k2];rfl,cond_false,show(x.1==1)=false by rw[k2];rfl,cond_false];rw[show Zbx fuel t.1 t.2.1 t.2.2.1 t.2.2.2.1 t.2.2.2.2.1 t.2.2.2.2.2.1 t.2.2.2.2.2.2.1 t.2.2.2.2.2.2.2.1 t.2.2.2.2.2.2.2.2.1 x.1 x.2.1 x.2.2.1 x.2.2.2.1 x.2.2.2.2.1 x.2.2.2.2.2.1 x.2.2.2.2.2.2.1 x.2.2.2.2.2.2.2.1 x.2.2.2.2.2.2.2.2.1 x.2.2.2.2.2.2.2.2.2.1 [] (Int.ofNat n) 0=_ from lp n 0 fuel (by omega) (by omega)];grind[nat0];grind[Qa]
theorem Ytd{o:Int}(h:Zy t=true)(h1:t.1=6∨t.1=7)(hp:t.2.2.2.1=[])(hx:msgB x=true):Ret t o (Zsw t x):=by
 have hT:=tlen h;obtain⟨z1,z2,z3,z4,z5,z6⟩:=Zd7 h;have hB:=h;unfold Zy at h;simp only[J0e]at h;obtain⟨a,b,c,d,e,f,g,i,j,k⟩:=h;rw[Yap,Za9 hB,Yqh hB];simp only[J0k,Q9,hx,cond_true,bne_self_eq_false,cond_false];rcases h1 with h1|h1
 rw[show(t.1==7)=false by rw[h1];rfl,Bool.not_false,cond_true,show(t.1 != 6)=false by rw[h1];rfl,cond_false,cond_false,cond_true,cond_false];by_cases k3:x.1=3;rw[show(x.1 != 3)=false by rw[k3];rfl,cond_false,tmax];by_cases hm:max (Int.ofNat t.2.2.2.2.2.2.2.1.length) (Int.ofNat t.2.2.2.2.2.2.2.2.1.length)=4000;grind[Qa];rw[show(max (Int.ofNat t.2.2.2.2.2.2.2.1.length) (Int.ofNat t.2.2.2.2.2.2.2.2.1.length)==4000)=false by simpa using hm,cond_false,Xe (show t.2.2.2.2.2.2.2.1.length+List.length [x.2.2.2.2.2]<=1000000 by grind) (show 40<=1000 by omega),cond_true];have hr:rowB x.2.2.2.2.2=true:=by unfold msgB at hx;simp_all
 refine⟨_,_,rfl,λ_=>⟨?_,rfl,rfl,rfl,rfl,λs hs=>?_⟩⟩;unfold Zy;simp only[J0e];refine⟨a,b,?_,d,e,f,g,?_,j,k⟩;unfold Zic at c ⊢;rw[h1]at c;grind;grind;grind;grind[Qa];rw[show(t.1==7)=true by rw[h1];rfl,Bool.not_true,cond_false,cond_true,cond_false,cond_true];by_cases k3:x.1=4;rw[show(x.1 != 4)=false by rw[k3];rfl,cond_false,tmax];by_cases hm:max (Int.ofNat t.2.2.2.2.2.2.2.1.length) (Int.ofNat t.2.2.2.2.2.2.2.2.1.length)=4000;grind[Qa];rw[show(max (Int.ofNat t.2.2.2.2.2.2.2.1.length) (Int.ofNat t.2.2.2.2.2.2.2.2.1.length)==4000)=false by simpa using hm,cond_false,Xe (show t.2.2.2.2.2.2.2.2.1.length+List.length [(x.2.1,x.2.2.1,x.2.2.2.1,())]<=1000000 by grind) (show 24<=1000 by omega),cond_true];have hr:Yy x.2.2.1=true:=by grind[msgB]
 refine⟨_,_,rfl,λ_=>⟨?_,rfl,rfl,rfl,rfl,λs hs=>?_⟩⟩;unfold Zy;simp only[J0e];refine⟨a,b,?_,d,e,f,g,i,?_,k⟩;grind[Zic,List.length_cons];grind;grind;grind[Qa]
end Tg
namespace Tg
open Go
open Go.Abs (Ze Zj tmm)
abbrev Mks:=List (Int×Unit)
theorem Yh3(t:Int):Zfu t=some (Zfi t,()):=by
 rw[Zy5];have:msgB (2,0,0,0,t,0,0,0,0,0,())=Zfi t:=by simp[msgB,Zw6,Zw7]
 rw[Q9,this];cases Zfi t<;>rfl
structure MkOk(l:Mks):Prop where
 one:1<=l.length
 four:l.length<=4
 all:(l.all λx=>Zch x.1)=true
theorem Yx0{l:Mks}(h:MkOk l):Zm8 l=some (0,()):=by
 have hf:=Zr;have h1:=h.one;have h4:=h.four;have lp:=Zcy (f:=λn k=>Zdh n l (Int.ofNat l.length) k) (l:=l) (p:=λx=>Zch x.1) (bad:=some (8,())) (fin:=some (0,())) (N:=0)
  (λn i e he=>by grind[Zm9,ix_s,wS,Yh3,Zch])
  (λn _=>by grind[Zm9]) fuel (by omega)
 rw[h.all,cond_true]at lp;grind[Z1n]
theorem Zzv{l:Mks}(hl:l.length<=4):∀(d i n:Nat) (m:Int),i+d=l.length->d+1<=n -> ∃v,Zb9 n l m (i:Int)=some (v,0,())
 |0,i,n,m,h1,h2=>by
  obtain⟨n,rfl⟩:∃k,n=k+1:=⟨n-1,by omega⟩;obtain rfl:i=l.length:=by omega
  rw[Zkm,geL];exact⟨_,rfl⟩
 |d+1,i,n,m,h1,h2=>by obtain⟨n,rfl⟩:∃k,n=k+1:=⟨n-1,by omega⟩;obtain⟨x,hx⟩:∃x,l[i]? = some x:=⟨_,J0c (by omega)⟩;rw[Zkm,ltL hx,cond_true,ix_s hx,wS (show i<1000000000000 by omega)];exact Zzv hl d (i+1) n _ (by omega) (by omega)
theorem Zs3{l:Mks}(h:MkOk l):∃v,Ze7 l=some (v,0,()):=by have hf:=Zr;have h1:=h.one;have h4:=h.four;obtain⟨n,hn⟩:∃n,fuel=n+1:=⟨fuel-1,by omega⟩;obtain⟨x,hx⟩:∃x,l[0]? = some x:=⟨_,J0c (by omega)⟩;rw[Z1r,Yx0 h,J0k,bne_self_eq_false,cond_false,decide_eq_false (show ¬Int.ofNat l.length<1 by grind),cond_false,hn,Zzi,hx,J0k];exact Zzv h4 (l.length-1) 1 n x.1 (by omega) (by omega)
theorem Zzw{l:Mks}(hl:l.length<=4)(b:Int):∀(d i n:Nat) (m:Int),i+d=l.length->d+1<=n -> ∃v,Zca n l m (i:Int) b=some (l,v,0,())
 |0,i,n,m,h1,h2=>by
  obtain⟨n,rfl⟩:∃k,n=k+1:=⟨n-1,by omega⟩;obtain rfl:i=l.length:=by omega
  rw[Zko,geL];exact⟨_,rfl⟩
 |d+1,i,n,m,h1,h2=>by obtain⟨n,rfl⟩:∃k,n=k+1:=⟨n-1,by omega⟩;obtain⟨x,hx⟩:∃x,l[i]? = some x:=⟨_,J0c (by omega)⟩;rw[Zko,ltL hx,cond_true,Ze2 hx,wS (show i<1000000000000 by omega)];exact Zzw hl b d (i+1) n _ (by omega) (by omega)
theorem Z31{l:Mks}(h:MkOk l){i:Nat}(hi:i<l.length){t:Int}(ht:Zfi t=true):∃l' g,Zhq l (i:Int) t=some (l',g,0,())/\l'.length=l.length/\MkOk l' := by have hf:=Zr;have h1:=h.one;have h4:=h.four;obtain⟨v,hv⟩:=Zs3 h;obtain⟨n,hn⟩:∃n,fuel=n+1:=⟨fuel-1,by omega⟩;obtain⟨x,hx⟩:∃x,l[i]? = some x:=⟨_,J0c hi⟩;have hlen:(l.set i (tmm true x.1 t,x.2)).length=l.length:=List.length_set;obtain⟨y,hy⟩:∃y,(l.set i (tmm true x.1 t,x.2))[0]? = some y:=⟨_,J0c (by omega)⟩;obtain⟨g,hg⟩:=Zzw (l:=l.set i (tmm true x.1 t,x.2)) (by omega) v (l.length-1) 1 n y.1 (by omega) (by omega);refine⟨_,g,?_,hlen,⟨by omega,by omega,?_⟩⟩;rw[Z1s,hv,J0k,bne_self_eq_false,cond_false,Yh3,ht];grind[Xe,Ze2,Int.toNat_natCast,Zup];rw[List.all_eq_true];intro z hz;have hall:=List.all_eq_true.1 h.all;grind[Zch,tmax]
theorem Zs4{s:List Ent}(hs:s.length<=4000)(mk:Int):∀(d i n:Nat) (a b:List Ent),i+d=s.length->a.length<=i->b.length<=i->d+1<=n -> ∃a' b',Zbw n mk a b s (Int.ofNat s.length) (i:Int)=some (a',b',0,())/\a'.length<=4000/\b'.length<=4000
 |0,i,n,a,b,h1,h2,h3,h4=>by obtain⟨n,rfl⟩:∃k,n=k+1:=⟨n-1,by omega⟩;grind[Zoy]|d+1,i,n,a,b,h1,h2,h3,h4=>by
  obtain⟨n,rfl⟩:∃k,n=k+1:=⟨n-1,by omega⟩;obtain⟨x,hx⟩:∃x,s[i]? = some x:=⟨_,J0c (by omega)⟩;rw[Zoy,ltL hx,cond_true,ix_s hx,wS (show i<1000000000000 by omega),Xe (show a.length+List.length [x]<=1000000 by grind) (show 88<=1000 by omega),Xe (show b.length+List.length [x]<=1000000 by grind) (show 88<=1000 by omega)];cases decide (x.2.2.1<=mk)with|true=>exact Zs4 hs mk d (i+1) n _ _ (by omega) (by grind) (by omega) (by omega)|false=>exact Zs4 hs mk d (i+1) n _ _ (by omega) (by omega) (by grind) (by omega)
theorem Ya4{s:List Ent}(hs:stoE s=0)(mk:Int):∃a b,Zjt s mk=some (a,b,0,())/\a.length<=4000/\b.length<=4000:=by have hf:=Zr;have hl:=Zmt (by simpa using hs);rw[Z6y,Z5u s (by omega),hs,J0k,bne_self_eq_false,cond_false];exact Zs4 hl mk s.length 0 fuel [] [] (by omega) (Nat.le_refl _) (Nat.le_refl _) (by omega)
theorem Zs5(k:Int)(a:Acc):∃v e,Zdg k a=some (v,e,()):=by grind[Zy4,Zqw]
theorem wi{x:Int}(h1 : -9223372036854775808<=x)(h2:x<=9223372036854775807):Go.IntKind.wrap .i64 x=x:=w64 h1 h2
variable {t:Int}
theorem Zzx{z: Int}(h1:1<=z)(h2:z<=1073741824)(h3 : -1099511627776<=t)(h4:t<=1099511627776):∃s,Zn1 t z=some ((s,s+z,()),0,())/\s<=t/\t<s+z:=by
 have e0:=Int.tdiv_mul_add_tmod t z;have e1:=Int.tmod_lt_of_pos t (b:=z) (by omega);have e2:=Int.lt_tmod_of_pos t (b:=z) (by omega);have e3:=Int.natAbs_tdiv_le_natAbs t z;rw[Z96,Zun,Zy6,decide_eq_false (show ¬z<1 by omega),decide_eq_false (show ¬z>1073741824 by omega),decide_eq_false (show ¬t<(-1099511627776) by omega),decide_eq_false (show ¬t>1099511627776 by omega)];simp only[cond_false,J0k,bne_self_eq_false,decide_eq_false (show ¬z=0 by omega)];have a1:(Int.tdiv t z-1)*z=Int.tdiv t z*z-z:=by grind
 have a2:(Int.tdiv t z+1)*z=Int.tdiv t z*z+z:=by grind
 generalize hq:Int.tdiv t z=q at *;generalize hr:Int.tmod t z=r at *;rw[wi (x:=q) (by omega) (by omega),wi (x:=q-1) (by omega) (by omega)];by_cases hn:r<0;rw[decide_eq_true hn];simp only[cond_true,J0k,bne_self_eq_false,cond_false];rw[show q-1+1=q by omega,wi (x:=q) (by omega) (by omega),a1,wi (x:=q*z-z) (by omega) (by omega),wi (x:=q*z) (by omega) (by omega)];exact⟨q*z-z,by grind,by omega,by omega⟩;rw[decide_eq_false hn];simp only[cond_false,J0k,bne_self_eq_false];rw[wi (x:=q+1) (by omega) (by omega),a2,wi (x:=q*z) (by omega) (by omega),wi (x:=q*z+z) (by omega) (by omega)];grind
theorem Yqm{x:List (Int×Int×Unit)}(hx:x.length<=900):∀(k n:Nat) (acc:List (Int×Int×Unit)),k<=x.length->k+2<=n->acc.length+k<=1000 -> ∃l,Zer n x ((k:Int)-1) acc=some (l,0,())/\l.length=acc.length+k
 |0,n,acc,_,h,_=>by obtain⟨n,rfl⟩:∃j,n=j+1:=⟨n-1,by omega⟩;grind[Zov]|k+1,n,acc,h1,h2,h3=>by
  obtain⟨n,rfl⟩:∃j,n=j+1:=⟨n-1,by omega⟩;obtain⟨l,a,b⟩:=Yqm hx k n (acc++[x[k]]) (by omega) (by omega) (by simp;omega);refine⟨l,?_,by grind⟩;rw[Zov,decide_eq_true (show((k+1:Nat):Int)-1>=0 by omega),cond_true,show((k+1:Nat):Int)-1=(k:Int) by omega,Ze2 (J0c (show k<x.length by omega)),
   Xe (by simp;omega) (by omega),cond_true,wi (by omega) (by omega)]
  exact a
theorem Yte{z ev: Int}(h1:1<=ev)(h2:ev<=z)(h3:z<=1073741824)(h4 : -1099511627776<=t)(h5:t<=1099511627776):∀(d n:Nat) (s:Int) (acc:List (Int×Int×Unit)),s+z-t<=d*ev->s<=t -> -2199023255552<=s->acc.length+d<=800->d+1000<=n ->
    ∃l,Zbv n t z ev acc s=some (l,0,())/\l.length<=acc.length+d:=by
  have fin:∀(n:Nat) (s:Int) (acc:List (Int×Int×Unit)),¬s+z>t->s<=t -> -2199023255552<=s->acc.length<=800->1000<=n -> ∃l,Zbv n t z ev acc s=some (l,0,())/\l.length<=acc.length:=λn s acc h g1 g2 g3 g4=>by obtain⟨n,rfl⟩:∃j,n=j+1+1:=⟨n-2,by omega⟩;obtain⟨l,a,b⟩:=Yqm (x:=acc) (by omega) acc.length n [] (Nat.le_refl _) (by omega) (by simp;omega);grind[Zou,wi,Z1o]
  intro d
  induction d with
  |zero=>grind|succ d ih =>
   intro n s acc a1 a2 a3 a4 a5;by_cases hc:s+z>t;obtain⟨n,rfl⟩:∃j,n=j+1:=⟨n-1,by omega⟩;have e:((d+1:Nat):Int)*ev=d*ev+ev:=by grind
   obtain⟨l,a,b⟩:=ih n (s-ev) (acc++[(s,s+z,())]) (by omega) (by omega) (by omega) (by simp;omega) (by omega);grind[Zou,wi,Xe];obtain⟨l,a,b⟩:=fin n s acc hc a2 a3 (by omega) (by omega);grind
theorem Yjv{w:Int×Int×Int×Unit}(hw:Yh w=some (0,()))(h3:¬w.1=3)(h4 : -1099511627776<=t)(h5:t<=1099511627776):∃l,Zna w t=some (l,0,())/\l.length<=1000:=by
 have hf:=Zr;obtain⟨k,z,ev,u⟩:=w;have h3:¬k=3:=h3;rw[Yei,hw];rw[Zd5]at hw;simp only[J0k,bne_self_eq_false,cond_false]at hw ⊢;by_cases z1:z<1;simp[z1]at hw;by_cases z2:z>1073741824;grind;simp only[decide_eq_false z1,decide_eq_false z2,cond_false]at hw;by_cases k1:k=1;subst k1;obtain⟨s,hs,_⟩:=Zzx (t:=t) (z:=z) (by omega) (by omega) h4 h5;simp_all;by_cases k2:k=2;subst k2;rw[show((2:Int)==2)=true from rfl,cond_true]at hw;by_cases e1:ev>=1;by_cases e2:ev<=z;rw[decide_eq_true e1,decide_eq_true e2,cond_true,cond_true,wi (x:=16*ev) (by omega) (by omega)]at hw;by_cases e3:z<=16*ev;rw[show((2:Int)==1)=false from rfl,cond_false,show((2:Int)==2)=true from rfl,cond_true,Z97];obtain⟨s,hs,s1,s2⟩:=Zzx (t:=t) (z:=ev) (by omega) (by omega) h4 h5;obtain⟨l,a,b⟩:=Yte e1 e2 (by omega) h4 h5 16 fuel s [] (by omega) s1 (by omega) (by simp) (by omega);grind[tmm,wi];simp[e3]at hw;grind;simp[e1]at hw;grind
theorem Zt2{z: Int}(h1:1<=z)(h2:z<=1073741824)(h3 : -1099511627776<=t)(h4:t<=1099511627776):Xb t z=some (0,()):=by grind[Zuo]
theorem Ya5{w:Int×Int×Int×Unit}(hw:Yh w=some (0,())):1<=w.2.1/\w.2.1<=1073741824:=by grind[Zd5]
theorem Yh4{s:List Ent}{w:Int×Int×Int×Unit}{r:Int×Int×Int×Unit}{side:Int}(hs:stoE s=0)(hw:Yh w=some (0,()))(ht:Yy r.2.1=true)(hd:side=0∨side=1) :
    ∃l e,Zea s w r side=some (l,e,())/\(e=0->l.length<=4000):=by
  have hl:s.length<=4000:=Zmt (by rw[hs];rfl);have hz:=Ya5 hw;simp only[Yy,J0e,J0h]at ht;have ok:Tj.AddOk s w r side:=⟨by grind[Z5u],hw,hd,ht,hl,λh=>⟨Zt2 hz.1 hz.2 (by omega) (by omega),Zt2 hz.1 hz.2 ht.1 ht.2,hz⟩,λh=>Yjv hw h ht.1 ht.2⟩;grind[Tj.addE,Zea,Za2,Tj.addO,Tj.Ypm]
end Tg
namespace Tg
open Go
open Go.Abs (Ze Zj tmm)
theorem big1{α β:Type}(l:List α)(z:β)(h:l.length<=100000):Ze (l.length+[z].length) 88=true:=Xe (by grind) (by omega)
theorem Ya6{t:Tsk}(h:Zy t=true)(h1:t.1=4∨t.1=5):MkOk t.2.2.2.2.1/\stoE t.2.2.2.2.2.1=0:=by
 unfold Zy at h;simp only[J0e]at h;obtain⟨a,b,c,d,e,f,g⟩:=h;unfold Zic at c;refine⟨?_,by simpa using e⟩;rcases h1 with h1|h1
 rw[h1]at c;simp only[show((4:Int)==1)=false from rfl,show((4:Int)==2)=false from rfl,show((4:Int)==3)=false from rfl,show((4:Int)==4)=true from rfl,cond_false,cond_true,J0e,J0h]at c;exact⟨c.1,c.2.1,f⟩;rw[h1]at c;simp only[show((5:Int)==1)=false from rfl,show((5:Int)==2)=false from rfl,show((5:Int)==3)=false from rfl,show((5:Int)==4)=false from rfl,show((5:Int)==5)=true from rfl,cond_false,cond_true,J0e,beq_iff_eq]at c;exact⟨by omega,by omega,f⟩
theorem Ya7{q:Qry}(h:((chkQ q).2.1==0)=true):Yh (q.2.2.2.2.2.1,q.2.2.2.2.2.2.1,q.2.2.2.2.2.2.2.1,())=some (0,()):=by grind[chkQ,Yue,Yo1]
section
variable {t:Tsk} {x:Msg} {o:Int} (h:Zy t=true) (hp:t.2.2.2.1=[]) (hx:msgB x=true) (ho:0<o)
include h hp
theorem Zn3{ms:Mks}{st:List Ent}{l:List Snd}(h2:ms.length=t.2.2.2.2.1.length)(h3:st.length<=4000)(hl:l.length<=100000)(ho:∀s∈l,s.1<o) :
    Ret t o ((Zm (t.1,t.2.1,t.2.2.1,t.2.2.2.1,ms,st,t.2.2.2.2.2.2) l).bind λe=>some (e.1,e.2.1,())):=by
  have hT:=tlen h;have q2:=hT.h2;exact Znh ⟨hT.h1,by grind,by grind,hT.h4,hT.h5,hT.h6⟩ hl rfl rfl h2 rfl hp ho
include ho
theorem Ya8(k:Int){l:List Ent}(hl:l.length<=4000){ms:Mks}{st:List Ent}(h2:ms.length=t.2.2.2.2.1.length)(h3:st.length<=4000):∀(d i n:Nat) (out:List Snd),i+d=l.length->out.length<=i->(∀s∈out,s.1=0)->d+1<=n ->
    Ret t o (Zfw n k l (Int.ofNat l.length) (i:Int) t.1 t.2.1 t.2.2.1 t.2.2.2.1 ms st t.2.2.2.2.2.2.1 t.2.2.2.2.2.2.2.1 t.2.2.2.2.2.2.2.2.1 out)
  |0,i,n,out,q1,q2,q3,q4=>by
   obtain⟨n,rfl⟩:∃j,n=j+1:=⟨n-1,by omega⟩;obtain rfl:i=l.length:=by omega
   rw[Zrk,geL,cond_false];exact Zn3 h hp h2 h3 (by omega) λs hs=>by grind
  |d+1,i,n,out,q1,q2,q3,q4=>by obtain⟨n,rfl⟩:∃j,n=j+1:=⟨n-1,by omega⟩;obtain⟨y,hy⟩:∃y,l[i]? = some y:=⟨_,J0c (by omega)⟩;obtain⟨v,e,hv⟩:=Zs5 k (y.2.2.2.1,y.2.2.2.2.1,y.2.2.2.2.2.1,y.2.2.2.2.2.2.1,());rw[Zrk,ltL hy,cond_true,ix_s hy,hv,J0k,wS (show i<1000000000000 by omega)];dsimp only;rw[big1 out _ (by omega),cond_true];refine Ya8 k hl h2 h3 d (i+1) n _ (by omega) (by grind) (λs hs=>?_) (by omega);grind
theorem Zs6(q:Qry){l:List Ent}(hl:l.length<=4000){ms:Mks}{st:List Ent}(h2:ms.length=t.2.2.2.2.1.length)(h3:st.length<=4000):∀(d i n:Nat) (out:List Snd),i+d=l.length->out.length<=i->(∀s∈out,s.1=0)->d+1<=n ->
    Ret t o (Zby n q.1 q.2.1 q.2.2.1 q.2.2.2.1 q.2.2.2.2.1 q.2.2.2.2.2.1 q.2.2.2.2.2.2.1 q.2.2.2.2.2.2.2.1 q.2.2.2.2.2.2.2.2.1 q.2.2.2.2.2.2.2.2.2.1 t.1 t.2.1 t.2.2.1 t.2.2.2.1 ms st t.2.2.2.2.2.2.1 t.2.2.2.2.2.2.2.1 t.2.2.2.2.2.2.2.2.1 out l (Int.ofNat l.length) (i:Int))
  |0,i,n,out,q1,q2,q3,q4=>by
   obtain⟨n,rfl⟩:∃j,n=j+1:=⟨n-1,by omega⟩;obtain rfl:i=l.length:=by omega
   rw[Zo4,geL,cond_false];exact Zn3 h hp h2 h3 (by omega) λs hs=>by grind
  |d+1,i,n,out,q1,q2,q3,q4=>by
   obtain⟨n,rfl⟩:∃j,n=j+1:=⟨n-1,by omega⟩;obtain⟨y,hy⟩:∃y,l[i]? = some y:=⟨_,J0c (by omega)⟩;obtain⟨r,b,hr⟩:∃r b,Zzp (q.1,q.2.1,q.2.2.1,q.2.2.2.1,q.2.2.2.2.1,q.2.2.2.2.2.1,q.2.2.2.2.2.2.1,q.2.2.2.2.2.2.2.1,q.2.2.2.2.2.2.2.2.1,q.2.2.2.2.2.2.2.2.2.1,()) y=some (r,b,()):=by
    rw[Ye7];obtain⟨v,e,hv⟩:=Zs5 q.1 (y.2.2.2.1,y.2.2.2.2.1,y.2.2.2.2.2.1,y.2.2.2.2.2.2.1,());obtain⟨v',e',hv'⟩:=Zs5 q.1 y.2.2.2.2.2.2.2;dsimp only;rw[hv,J0k,hv',J0k];dsimp only;cases e != 0 with|true=>grind|false=>cases e' != 0<;>exact⟨_,_,rfl⟩
   rw[Zo4,ltL hy,cond_true,ix_s hy,hr,J0k,wS (show i<1000000000000 by omega)];dsimp only;rw[big1 out _ (by omega),cond_true];cases b with|false=>exact Zs6 q hl h2 h3 d (i+1) n _ (by omega) (by omega) q3 (by omega)|true=>refine Zs6 q hl h2 h3 d (i+1) n _ (by omega) (by grind) (λs hs=>?_) (by omega);grind
include hx
theorem Yx1{q:Qry}(h1:t.1=4){i:Nat}(hi:i<t.2.2.2.2.1.length):Ret t o (Zzo q t (i:Int) x):=by
 have hf:=Zr;obtain⟨hm,hs⟩:=Ya6 h (.inl h1);have hT:=tlen h;have hl:=Zmt (by simpa using hs);have a0:(t.1 != 4)=false:=by rw[h1];rfl
 have hp0:decide (Int.ofNat t.2.2.2.1.length>0)=false:=by rw[hp];rfl
 rw[Ye4,Zzm,show Yl q=some (chkQ q) from Zio q,Za9 h];simp only[J0k,Q9,hx,cond_true,bne_self_eq_false,cond_false,a0,hp0,decide_eq_false (show ¬(i:Int)<0 by omega),decide_eq_false (show ¬(i:Int)>=Int.ofNat t.2.2.2.2.1.length by grind)];cases hq:((chkQ q).2.1==0)with
 |false=>exact Qa rfl|true =>
  cases q.2.2.2.1 with
  |true=>exact Qa rfl|false =>
   rw[cond_true,J0k,Bool.not_false,Bool.not_true,cond_false];by_cases k1:x.1=1;rw[show(x.1 != 1)=false by rw[k1];rfl,cond_false,show(x.1==1)=true by rw[k1];rfl,cond_true];have ht:Yy x.2.2.1=true:=by grind[msgB]
   obtain⟨l,e,ha,hb⟩:=Yh4 (s:=t.2.2.2.2.2.1) (r:=(x.2.1,x.2.2.1,x.2.2.2.1,())) (side:=0) hs (Ya7 hq) ht (.inl rfl);rw[ha,J0k];cases he:e != 0 with|true=>exact Qa he|false=>exact Zn3 h hp rfl (hb (by simpa using he)) (Nat.zero_le _) (λs hs=>by cases hs)
   rw[show(x.1 != 1)=true by simpa using k1,cond_true];by_cases k2:x.1=2;rw[show(x.1 != 2)=false by rw[k2];rfl,cond_false,show(x.1==1)=false by rw[k2];rfl,cond_false];have ht:Zfi x.2.2.2.2.1=true:=by grind[msgB]
   obtain⟨ms,g,hr,r1,r2⟩:=Z31 hm hi ht;rw[hr,J0k];cases g with|false=>exact Zn3 h hp r1 hl (Nat.zero_le _) (λs hs=>by cases hs)|true=>obtain⟨v,hv⟩:=Zs3 r2;obtain⟨a,b,hab,la,lb⟩:=Ya4 hs v;rw[Bool.not_true,cond_false,hv,J0k,hab,J0k];exact Ya8 h hp ho q.1 la r1 lb a.length 0 fuel [] (by omega) (Nat.le_refl _) (λs hs=>by cases hs) (by omega)
   grind[Qa]
theorem Ytf{q:Qry}(h1:t.1=5){i:Nat}(hi:i<2)(hl2:t.2.2.2.2.1.length=2):Ret t o (Zsz q t (i:Int) x):=by
 have hf:=Zr;obtain⟨hm,hs⟩:=Ya6 h (.inr h1);have hT:=tlen h;have hl:=Zmt (by simpa using hs);have a0:(t.1 != 5)=false:=by rw[h1];rfl
 have hp0:decide (Int.ofNat t.2.2.2.1.length>0)=false:=by rw[hp];rfl
 rw[Yaw,Zuq,show Yl q=some (chkQ q) from Zio q,Za9 h];simp only[J0k,Q9,hx,cond_true,bne_self_eq_false,cond_false,a0,hp0,decide_eq_false (show ¬(i:Int)<0 by omega),decide_eq_false (show ¬(i:Int)>1 by omega)];cases hq:((chkQ q).2.1==0)with
 |false=>exact Qa rfl|true =>
  cases hj:q.2.2.2.1 with
  |false=>exact Qa rfl|true =>
   rw[cond_true,J0k,Bool.not_true,cond_false];by_cases k1:x.1=1;rw[show(x.1 != 1)=false by rw[k1];rfl,cond_false,show(x.1==1)=true by rw[k1];rfl,cond_true];have ht:Yy x.2.2.1=true:=by grind[msgB]
   obtain⟨l,e,ha,hb⟩:=Yh4 (s:=t.2.2.2.2.2.1) (r:=(x.2.1,x.2.2.1,x.2.2.2.1,())) (side:=(i:Int)) hs (Ya7 hq) ht (by omega);rw[ha,J0k];cases he:e != 0 with|true=>exact Qa he|false=>exact Zn3 h hp rfl (hb (by simpa using he)) (Nat.zero_le _) (λs hs=>by cases hs)
   rw[show(x.1 != 1)=true by simpa using k1,cond_true];by_cases k2:x.1=2;rw[show(x.1 != 2)=false by rw[k2];rfl,cond_false,show(x.1==1)=false by rw[k2];rfl,cond_false];have ht:Zfi x.2.2.2.2.1=true:=by grind[msgB]
   obtain⟨ms,g,hr,r1,r2⟩:=Z31 hm (show i<t.2.2.2.2.1.length by omega) ht;rw[hr,J0k];cases g with|false=>exact Zn3 h hp r1 hl (Nat.zero_le _) (λs hs=>by cases hs)|true=>obtain⟨v,hv⟩:=Zs3 r2;obtain⟨a,b,hab,la,lb⟩:=Ya4 hs v;rw[Bool.not_true,cond_false,hv,J0k,hab,J0k];have J:=Zs6 h hp ho q la r1 lb a.length 0 fuel [] (by omega) (Nat.le_refl _) (λs hs=>by cases hs) (by omega);grind
   grind[Qa]
end
variable {k0:Nat}{q0:Que}
theorem Zzy{l:List Que}{T D: Nat}(hl:l.length<=4)(hT:T<l.length)(hD:(T+D) % l.length=k0)(hq:l[k0]? = some q0)(hne:q0.2.1≠[])(hDl:D<l.length):∀(d i n:Nat),i+d=D->d+1<=n ->
    ∃(k:Nat) (q:Que),Qs n (T:Int) l (Int.ofNat l.length) (i:Int)=some ((k:Int),())/\l[k]? = some q/\q.2.1≠[]:=by
  have step:∀(i n:Nat),i<=D -> ∃(k:Nat) (q:Que),l[k]? = some q/\k=(T+i) % l.length/\Qs (n+1) (T:Int) l (Int.ofNat l.length) (i:Int)=bif decide (0<q.2.1.length)then some ((k:Int),())else Qs n (T:Int) l (Int.ofNat l.length) ((i+1:Nat):Int):=λi n hi=>by
   have hk:(T+i) % l.length<l.length:=Nat.mod_lt _ (by omega);obtain⟨q,hq⟩:∃q,l[(T+i) % l.length]? = some q:=⟨_,J0c hk⟩;refine⟨_,q,hq,rfl,?_⟩;have e1:Int.tmod (Go.IntKind.wrap .i64 ((T:Int)+(i:Int))) (Int.ofNat l.length)=(((T+i) % l.length:Nat):Int):=by grind[w64]
   have e2:decide (Int.ofNat q.2.1.length>0)=decide (0<q.2.1.length):=by grind
   rw[Zh2,decide_eq_true (show(i:Int)<Int.ofNat l.length by grind),cond_true,decide_eq_false (show ¬Int.ofNat l.length=0 by grind),cond_false,e1,ix_s hq,e2,wS (show i<1000000000000 by omega)]
  intro d
  induction d with|zero=>intro i n hi hn;obtain⟨n,rfl⟩:∃j,n=j+1:=⟨n-1,by omega⟩;obtain⟨k,q,k1,k2,k3⟩:=step i n (by omega);grind|succ d ih => intro i n hi hn;obtain⟨n,rfl⟩:∃j,n=j+1:=⟨n-1,by omega⟩;obtain⟨k,q,k1,k2,k3⟩:=step i n (by omega);by_cases hz:q.2.1=[];obtain⟨k',q',r1,r2⟩:=ih (i+1) n (by omega) (by omega);grind;refine⟨k,q,?_,k1,hz⟩;rw[k3,decide_eq_true (List.length_pos_iff.2 hz)];rfl
theorem Yfd{u:Int}{l:List Que}(h0:0<=u)(hl:l.length<=4)(hq:l[k0]? = some q0)(hne:q0.2.1≠[]):∃(k:Nat) (q:Que),Zgu u l=some ((k:Int),())/\l[k]? = some q/\q.2.1≠[]:=by
 have hf:=Zr;have hk:=(J0d.1 hq).1;obtain⟨n,hn⟩:∃n,fuel=n+1:=⟨fuel-1,by omega⟩;have go:∀T:Nat,T<l.length -> ∃(k:Nat) (q:Que),Zep fuel (T:Int) l=some ((k:Int),())/\l[k]? = some q/\q.2.1≠[]:=λT hT=>by
  rw[hn,Zor];by_cases h:T<=k0;exact Zzy hl hT (D:=k0-T) (by grind[Nat.mod_eq_of_lt]) hq hne (by omega) (k0-T) 0 n (by omega) (by omega);exact Zzy hl hT (D:=k0+l.length-T) (by grind[Nat.add_mod_right,Nat.mod_eq_of_lt]) hq hne (by omega) (k0+l.length-T) 0 n (by omega) (by omega)
 rw[Zq6];by_cases hu:u>=Int.ofNat l.length;grind;rw[decide_eq_false hu];obtain⟨T,rfl⟩:∃T:Nat,u=(T:Int):=⟨u.toNat,by omega⟩;grind
variable {t:Tsk}
theorem Yx2{l:List Que}(h:Zy t=true)(hl:l.length<=4)(hq:l.all queB=true)(hp:t.2.2.2.1=[])(hne:∃q∈l,q.2.1≠[]) :
    ∃(k:Nat) (q:Que) (t' : Tsk),Zsu t l=some ((k:Int),t',0,())/\l[k]? = some q/\q.2.1≠[]/\0<=t'.2.2.1/\t'.2.2.1<20:=by
  obtain⟨q0,hm,h0⟩:=hne;obtain⟨k0,hk0⟩:=List.getElem?_of_mem hm;have hu:0<=t.2.2.1:=by grind[Zy]
  obtain⟨k,q,e1,e2,e3⟩:=Yfd hu hl hk0 h0;have hk:=(J0d.1 e2).1;refine⟨k,q,(t.1,t.2.1,(((k+1) % l.length:Nat):Int),t.2.2.2),?_,e2,e3,?_,?_⟩;grind[wS,Yal,Zji,Z63,tlen];grind;show(((k+1) % l.length:Nat):Int)<20;have:=Nat.mod_lt (k+1) (show l.length>0 by omega);omega
theorem Ya9{j:Bool}{late:Int}{x:Gr}{i:Nat}{t': Tsk}(h:fitB j late x i t=true)(hn:Nxt t t' (cnt false (i:Int) x.2.1)):fitB j late x i t' = true:=by
 unfold fitB at h ⊢;cases ho:x.1[i]? with|none=>grind|some o=>rw[ho]at h;simp only[J0e]at h ⊢;rw[hn.k,hn.n,hn.ms];exact⟨h.1,hn.B,List.all_eq_true.2 λs hs=>decide_eq_true (hn.out s hs),h.2.2.2⟩
section
variable {b:Bool} {m:Mch} (h:mchB b m=true)
include h
theorem Y1x{i k:Nat}{t:Tsk}{x:Msg}(hi:(mT m)[i]? = some t)(h1:t.1≠1)(hp:t.2.2.2.1=[])(hx:msgB x=true)(hk:k<cnt true (i:Int) (mG m).2.1):Ret t (cnt false (i:Int) (mG m).2.1) (Zvb m (i:Int) (k:Int) x):=by
 obtain⟨_,hr,g1,g2,h3,h4,h5,hts⟩:=Xy h;have hl:=(J0d.1 hi).1;have hB:=Zhs h t (J0j hi);have hf:=hts i t hi;obtain⟨o,ho⟩:∃o,(mG m).1[i]? = some o:=⟨_,J0c (by omega)⟩;have hb:=(hr.2.2 i o ho).2;have hj:=Zbj hr false (i:Int);unfold fitB at hf;rw[ho]at hf;simp only[J0e]at hf;obtain⟨f1,_,_,f4⟩:=hf;have ek:t.1=o.1:=by simpa using f1.1
 unfold Zib at hb;rw[<- ek]at hb;simp only[J0e,J0h]at hb;obtain⟨⟨b1,b2⟩,⟨b3,b4⟩,b5,b6⟩:=hb;have id:∀r:Option (Tsk×Int×Unit),Ret t (cnt false (i:Int) (mG m).2.1) r->Ret t (cnt false (i:Int) (mG m).2.1) (r.bind λe=>some (e.1,e.2.1,())):=λr ⟨t',e,hr,he⟩=>by grind
 have hi' : m.2.2.2.2.2.2.2.2.2.2.2.2.1[i]? = some t:=hi;rw[Yjt,ix_s hi'];obtain hk2|hk3|hk4|hk5|hk6:t.1=2∨t.1=3∨t.1=4∨t.1=5∨(t.1=6∨t.1=7):=by omega
 grind[Yju];grind[mG,Znz,bnd,Yql];grind[bnd,Yx1];rw[show(t.1==2)=false by rw[hk5];rfl,cond_false,show(t.1==3)=false by rw[hk5];rfl,cond_false,show(t.1==4)=false by rw[hk5];rfl,cond_false,show(t.1==5)=true by rw[hk5];rfl,cond_true];rw[hk5]at f4;simp only[show((5:Int)==2)=false from rfl,show((5:Int)==4)=false from rfl,show((5:Int)==5)=true from rfl,cond_false,cond_true,J0e,beq_iff_eq]at f4;have e5:(bnd t.1).2.2.1=1:=by rw[hk5];rfl
 have hm2:t.2.2.2.2.1.length=2:=by have:=hB;unfold Zy at this;simp only[J0e]at this;have:=this.2.2.1;unfold Zic at this;rw[hk5]at this;grind
 grind[Ytf];grind[Ytd]
end
end Tg
namespace Tg
open Go
open Go.Abs (Ze Zj tmm)
def stT(t:Tsk)(u:Int):Tsk:=(t.1,t.2.1,u,t.2.2.2)
inductive Stp(m:Mch) (i:Nat):Mch->Prop
 |send {t:Tsk} {s:Snd} {l:List Snd} {j:Nat} {q:Que} (hi:(mT m)[i]? = some t) (hp:t.2.2.2.1=s::l) (hj:((j:Int),())∈joinL false (mG m) (i:Int)) (hq:(mU m)[j]? = some q) (hr:(q.2.1.length:Int)<q.1):Stp m i (mW m ((mT m).set i (Ze8 t l)) ((mU m).set j (q.1,q.2.1++[s.2],())))|src {t:Tsk} {e:Evt} {l:List Evt} {x:Msg} (hi:(mT m)[i]? = some t) (h1:t.1=1) (hp:t.2.2.2.1=[]) (he:t.2.2.2.2.2.2.1=e::l):Stp m i (mW m ((mT m).set i (srcT t x l)) (mU m))|take {t t' : Tsk} {y:Msg} {l:List Msg} {j k:Nat} {q:Que} {u:Int} (hi:(mT m)[i]? = some t) (h1:t.1≠1) (hp:t.2.2.2.1=[]) (hj:(joinL true (mG m) (i:Int))[k]? = some ((j:Int),())) (hq:(mU m)[j]? = some q) (hy:q.2.1=y::l) (hn:Nxt t t' (cnt false (i:Int) (mG m).2.1)) (hd:Zvb m (i:Int) (k:Int) y=some (t',0,())) :
  Stp m i (mW m ((mT m).set i (stT t' u)) ((mU m).set j (q.1,l,())))
section
variable {b:Bool} {m:Mch} (h:mchB b m=true)
include h
variable {j:Nat}{q':Que}
theorem set_right{i: Nat}{t' : Tsk}(ht:fitB m.2.2.2.1 m.2.2.2.2.2.2.2.2.2.1 (mG m) i t' = true)(hq:queI (mG m) j q' = true):mchB b (mW m ((mT m).set i t') ((mU m).set j q'))=true:=by
 unfold mchB at h ⊢;simp only[J0e]at h ⊢;obtain⟨h1,h2,h3,h4,h5,h6⟩:=h;refine⟨h1,h2,?_,?_,?_,?_⟩;show(((mT m).set i t').length==(mG m).1.length)=true;grind;show(((mU m).set j q').length==(mG m).2.1.length)=true;grind;exact Zrl h5 (by rw[Nat.zero_add];exact hq);exact Zrl h6 (by rw[Nat.zero_add];exact ht)
theorem Z32{q: Que}(hq:(mU m)[j]? = some q)(e:q'.1=q.1)(hB:queB q' = true):queI (mG m) j q' = true:=by grind[queI,mchB,Z6b]
variable {t:Tsk}
theorem Yfe{i:Nat}{s:Snd}{l:List Snd}{q:Que}(hi:(mT m)[i]? = some t)(hp:t.2.2.2.1=s::l)(hB:Zy (Ze8 t l)=true)(hs:msgB s.2=true)(hq:(mU m)[j]? = some q)(hr:(q.2.1.length:Int)<q.1) :
    mchB b (mW m ((mT m).set i (Ze8 t l)) ((mU m).set j (q.1,q.2.1++[s.2],())))=true:=by
  obtain⟨_,_,_,_,_,_,h5,hts⟩:=Xy h;refine set_right h (Ya9 (hts i t hi) ⟨hB,rfl,rfl,rfl,rfl,λs' hs' => ?_⟩) (Z32 h hq rfl ?_);have hf:=hts i t hi;unfold fitB at hf;split at hf;cases hf;simp only[J0e]at hf;have:=List.all_eq_true.1 hf.2.2.1 s' (by rw[hp];exact List.mem_cons_of_mem _ hs');simpa using this;have:=h5 q (J0j hq);grind[queB]
omit h in
theorem Yqn{i:Nat}(hi:(mT m)[i]? = some t)(h1:t.1≠1)(hp:t.2.2.2.1=[])(ha:Zcn m i=true):∃q∈qsAt (mU m) (joinL true (mG m) (i:Int)),q.2.1≠[]:=by rw[Zvc hi,Z3y hp,show(t.1==1)=false by simpa using h1,cond_false,J0h]at ha;grind[Zzq]
theorem Yqo(hq:QOk (mQ m) b){i:Nat}(hi:i<(mT m).length)(ha:Zcn m i=true):∃x e,Zf1 m (i:Int)=some (x,e,())/\(e=0->Stp m i x/\mchB b x=true):=by
 obtain⟨_,hr,g1,g2,h3,h4,h5,hts⟩:=Xy h;obtain⟨t,ht⟩:∃t,(mT m)[i]? = some t:=⟨_,J0c hi⟩;have hB:=Zhs h t (J0j ht);cases hp:t.2.2.2.1 with
 |cons s l=>obtain⟨j,k,q,_,hj,hu,hroom,e2,e3,e4⟩:=Yfc h ht hp ha;exact⟨_,_,Zpu hq (mlen h) h hi ha e4,λ_=>⟨.send ht hp (J0j hj) hu hroom,Yfe h ht hp e2 e3 hu hroom⟩⟩|nil =>
  by_cases h1:t.1=1;have he:∃e l,t.2.2.2.2.2.2.1=e::l:=by
   rw[Zvc ht,Z3y hp,show(t.1==1)=true by simpa using h1,cond_true,J0h]at ha;cases hz:t.2.2.2.2.2.2.1 with|nil=>grind|cons e l=>grind
  obtain⟨e,l,he⟩:=he;obtain⟨x,_,x2,x3⟩:=Z3z (Zhs h) h5 (by omega) (by omega) ht h1 hp he;obtain⟨t'',k1,k2,k3⟩:=Yqj hq h ht h1 hp he;have k4:=Zpu hq (mlen h) h hi ha x3;rw[k2]at k4;have k5:=(Prod.mk.inj (J0a k4)).1;refine⟨_,_,k2,λ_=>⟨?_,k3⟩⟩;rw[k5];exact .src ht h1 hp he;have hJ:=Yh2 h true i;have hJl:=Zin hJ;have hn:=Zbj hr true (i:Int);have hc:=Zjj hr (i:=i) (by omega);obtain⟨k,q,t2,e1,e2,e3,e4,e5⟩:=Yx2 hB (by omega) (Yqk h5 (joinL true (mG m) (i:Int))) hp (Yqn ht h1 hp ha);obtain⟨j,hj,hu⟩:=Ytb hJ e2;have hkl:=(J0d.1 hj).1;have hjl:=(J0d.1 hu).1;obtain⟨y,l,hy⟩:∃y l,q.2.1=y::l:=by
   cases hz:q.2.1 with|nil=>exact absurd hz e3|cons y l=>grind
  have hqB:=h5 q (J0j hu);have hym:msgB y=true/\l.all msgB=true:=by grind[queB]
  obtain⟨t',e,d1,d2⟩:=Y1x h ht h1 hp hym.1 (k:=k) (by omega);have hi' : m.2.2.2.2.2.2.2.2.2.2.2.2.1[i]? = some t:=ht;have hu' : m.2.2.2.2.2.2.2.2.2.2.2.2.2.1[j]? = some q:=hu;have hin:Yo (m.2.2.2.2.2.2.2.2.2.2.1,m.2.2.2.2.2.2.2.2.2.2.2.1,()) (i:Int)=some (joinL true (mG m) (i:Int),()):=Zyl hr g2 (by omega);have hbeg:Zed m (i:Int)=some (m,false,()):=by rw[Zju,ix_s hi',hp,show decide (Int.ofNat ([]:List Snd).length>0)=false from rfl,cond_false,show(t.1 != 1)=true by simpa using h1];rfl
  have htake:∃x,Zs0 m (i:Int) (k:Int) t2.2.2.1=some (x,e,())/\(e=0->x=mW m ((mT m).set i (stT t' t2.2.2.1)) ((mU m).set j (q.1,l,()))):=by
   rw[Yay,hin,J0k,ix_s hj,ix_s hu',Yxx hqB hy,J0k,d1,J0k];cases he:e != 0 with
   |true=>grind|false =>
    obtain rfl:e=0:=by simpa using he
    obtain⟨n,hn⟩:∃n,fuel=n+1:=⟨fuel-1,by grind[Zr]⟩;rw[cond_false,decide_eq_true (show t2.2.2.1>=0 from e4),cond_true,hn,Z1w];rw[show Zec (m.1,m.2.1,m.2.2.1,m.2.2.2.1,m.2.2.2.2.1,m.2.2.2.2.2.1,m.2.2.2.2.2.2.1,m.2.2.2.2.2.2.2.1,m.2.2.2.2.2.2.2.2.1,m.2.2.2.2.2.2.2.2.2.1,m.2.2.2.2.2.2.2.2.2.2.1,m.2.2.2.2.2.2.2.2.2.2.2.1,m.2.2.2.2.2.2.2.2.2.2.2.2.1,m.2.2.2.2.2.2.2.2.2.2.2.2.2.1,())=some (m,()) from Zzs (m:=m) (Zhs h) h5 (by omega) (by omega),J0k,Ze2 hi',Ze2 hu',J0l,J0l];exact⟨_,rfl,λ_=>rfl⟩
  obtain⟨x,hx,hx2⟩:=htake;refine⟨x,e,?_,λhe=>?_⟩;rw[Zt1,Ya0 hq (mlen h) h hi,J0k,bne_self_eq_false,cond_false,Zsl h hi,ha,J0k,Bool.not_true,cond_false,hbeg,J0k,cond_false,ix_s hi',hin,J0k,Zq7 m _ (by omega) hJ,J0k,e1,J0k,hx];rfl;subst he;have hN:=d2 rfl;obtain rfl:=hx2 rfl;refine⟨.take ht h1 hp hj hu hy hN d1,set_right h (Ya9 (hts i t ht) ⟨?_,hN.k,hN.n,hN.ms,hN.ev,hN.out⟩) (Z32 h hu rfl ?_)⟩;have:=hN.B;unfold Zy at this ⊢;unfold stT;simp only[J0e,J0h]at this ⊢;exact⟨⟨e4,e5,this.1.2.2⟩,this.2⟩;grind[queB]
end
section
variable {b:Bool} {m x:Mch} {i a:Nat} (h:mchB b m=true) (hs:Stp m i x) (ha:Zcn m a=true) (hne:a≠i)
include h hs ha hne
end
theorem qok(q:Qry):∃b,QOk q b:=by refine⟨(chkQ q).2.1==0,⟨⟨(chkQ q).1,(chkQ q).2.1,Zio q,rfl⟩,?_⟩⟩;rw[Zsf,Yd9]
theorem Y1y(m:Mch):∃g,Zs1 m=some (g,())/\(g=true -> ∃b,QOk (mQ m) b/\MLen m/\mchB b m=true):=by
 obtain⟨g,hg,hb⟩:=Ysn m;rw[Yaz,hg,J0k];cases g with|true=>exact⟨false,rfl,λh=>by cases h⟩|false=>have hm:=hb rfl;obtain⟨b,hq⟩:=qok (mQ m);rw[Yok m b hq hm];refine⟨mchB b m,?_,λh=>⟨b,hq,hm,h⟩⟩;cases mchB b m<;>rfl
variable {m:Mch}
theorem Yjw{x:Int×Unit}(h:x∈Zgv m):∃i:Nat,x.1=(i:Int)/\i<(mT m).length/\Zcn m i=true:=by rw[Ys9,List.mem_map]at h;obtain⟨i,hi,rfl⟩:=h;unfold Yqf at hi;rw[List.mem_filter,List.mem_range]at hi;exact⟨i,rfl,hi⟩
variable {x:Mch}
theorem Ytg{i:Nat}(h:Stp m i x):(mT x).length=(mT m).length/\mQ x=mQ m:=by cases h<;>exact⟨List.length_set,rfl⟩
theorem Zdr{α:Type}{f:α->Nat}:∀{l:List α} {i:Nat} {e e' : α},l[i]? = some e->sumN f (l.set i e')+f e=sumN f l+f e'|[],_,_,_,h=>by simp at h|a::l,0,e,e',h=>by obtain rfl:=J0a h;rw[List.set_cons_zero,sumN,sumN];omega|a::l,i+1,e,e',h=>by have ih:=Zdr (f:=f) (l:=l) (i:=i) (e:=e) (e' := e') (by simpa using h);rw[List.set_cons_succ,sumN,sumN];omega
theorem Yqp{i:Nat}(h:Stp m i x):∃t,(mT m)[i]? = some t /\
    ((t.2.2.2.1≠[]/\sumN evN (mT x)=sumN evN (mT m)/\sumN pnN (mT x)+1=sumN pnN (mT m)/\sumN quN (mU x)=sumN quN (mU m)+1) ∨
     (t.2.2.2.1=[]/\t.1=1/\sumN evN (mT x)+1=sumN evN (mT m)/\sumN pnN (mT x)=sumN pnN (mT m)+1/\sumN quN (mU x)=sumN quN (mU m)) ∨
     (t.2.2.2.1=[]/\t.1≠1/\sumN evN (mT x)=sumN evN (mT m)/\sumN pnN (mT m)<=sumN pnN (mT x)/\sumN quN (mU x)+1=sumN quN (mU m))):=by
  cases h with
  |send hi hp hj hq hr =>
   rename_i t s l j q;have a1:=Zdr (f:=evN) (e' := Ze8 t l) hi;have a2:=Zdr (f:=pnN) (e' := Ze8 t l) hi;have a3:=Zdr (f:=quN) (e' := (q.1,q.2.1++[s.2],())) hq;have b1:evN (Ze8 t l)=evN t:=rfl;have b2:pnN t=pnN (Ze8 t l)+1:=by show t.2.2.2.1.length=_;rw[hp];rfl
   have b3:quN (q.1,q.2.1++[s.2],())=quN q+1:=by show(q.2.1++[s.2]).length=q.2.1.length+1;rw[J0s];rfl
   refine⟨t,hi,.inl ⟨by rw[hp];simp,?_,?_,?_⟩⟩;show sumN evN ((mT m).set i (Ze8 t l))=_;omega;show sumN pnN ((mT m).set i (Ze8 t l))+1=_;omega;show sumN quN ((mU m).set j (q.1,q.2.1++[s.2],()))=_;omega
  |src hi h1 hp he =>
   rename_i t e l y;have a1:=Zdr (f:=evN) (e' := srcT t y l) hi;have a2:=Zdr (f:=pnN) (e' := srcT t y l) hi;have b1:evN t=evN (srcT t y l)+1:=by show t.2.2.2.2.2.2.1.length=_;rw[he];rfl
   have b2:pnN t=0:=by show t.2.2.2.1.length=_;rw[hp];rfl
   have b3:pnN (srcT t y l)=1:=rfl;refine⟨t,hi,.inr (.inl ⟨hp,h1,?_,?_,rfl⟩)⟩;show sumN evN ((mT m).set i (srcT t y l))+1=_;omega;show sumN pnN ((mT m).set i (srcT t y l))=_;omega
  |take hi h1 hp hj hq hy hn hd =>
   rename_i t t' y l j k q u;have a1:=Zdr (f:=evN) (e' := stT t' u) hi;have a2:=Zdr (f:=pnN) (e' := stT t' u) hi;have a3:=Zdr (f:=quN) (e' := (q.1,l,())) hq;have b1:evN (stT t' u)=evN t:=congrArg List.length hn.ev;have b2:pnN t=0:=by show t.2.2.2.1.length=_;rw[hp];rfl
   have b3:quN q=quN (q.1,l,())+1:=by show q.2.1.length=l.length+1;rw[hy];rfl
   refine⟨t,hi,.inr (.inr ⟨hp,h1,?_,?_,?_⟩)⟩;show sumN evN ((mT m).set i (stT t' u))=_;omega;show _<=sumN pnN ((mT m).set i (stT t' u));omega;show sumN quN ((mU m).set j (q.1,l,()))+1=_;omega
section
variable {v:Bool} {m:Mch} (hq:QOk (mQ m) v) (h:mchB v m=true)
include hq h
theorem Yqq:Zbk m=some (((sumN evN (mT m):Int),(sumN pnN (mT m):Int),(sumN quN (mU m):Int),()),0,()):=by obtain⟨_,_,g1,g2,g3,g4,_⟩:=Xy h;rw[Yxw hq (mlen h) h,Yxv (mlen h) (by omega) (by omega)]
theorem Yh5:sumN evN (mT m)<=2000000/\sumN pnN (mT m)<=2000000/\sumN quN (mU m)<=10000000:=by obtain⟨_,_,g1,g2,g3,g4,_⟩:=Xy h;have hm:=mlen h;have a:=Zjy (f:=evN) (B:=100000) (l:=mT m) λt ht=>(hm.t t ht).h4;have b:=Zjy (f:=pnN) (B:=100000) (l:=mT m) λt ht=>(hm.t t ht).h1;have c:=Zjy (f:=quN) (B:=100000) (l:=mU m) λq hq=>hm.u q hq;omega
theorem Zzz:∀(d i n:Nat),i+d=(Zgv m).length->6*d+1<=n->Yb n m.1 m.2.1 m.2.2.1 m.2.2.2.1 m.2.2.2.2.1 m.2.2.2.2.2.1 m.2.2.2.2.2.2.1 m.2.2.2.2.2.2.2.1 m.2.2.2.2.2.2.2.2.1 m.2.2.2.2.2.2.2.2.2.1 m.2.2.2.2.2.2.2.2.2.2.1 m.2.2.2.2.2.2.2.2.2.2.2.1 (mT m) (mU m) true (sumN evN (mT m):Int) (sumN pnN (mT m):Int) (sumN quN (mU m):Int) (Zgv m) (i:Int)=some (true,())
 |0,i,n,h1,h2=>by
  obtain⟨n,rfl⟩:∃j,n=j+1:=⟨n-1,by omega⟩;obtain rfl:i=(Zgv m).length:=by omega
  rw[Zdp,geL];rfl
 |d+1,i,n,h1,h2=>by
  obtain⟨n,rfl⟩:∃j,n=j+5+1:=⟨n-6,by omega⟩;obtain⟨_,_,g1,_,g3,_⟩:=Xy h;have hal:=Z3i (m:=m);have hm:=mlen h;obtain⟨s1,s2,s3⟩:=Yh5 hq h;obtain⟨e,he⟩:∃e,(Zgv m)[i]? = some e:=⟨_,J0c (by omega)⟩;obtain⟨a,ea,hal2,hab⟩:=Yjw (J0j he);obtain⟨t,ht⟩:∃t,(mT m)[a]? = some t:=⟨_,J0c hal2⟩;have ih:=λk (hk:6*d+1<=k)=>Zzz d (i+1) k (by omega) hk;have hw:=wS (show i<1000000000000 by omega);rw[Zdp,ltL he,cond_true,ix_s he,ea,decide_eq_false (show ¬(a:Int)<0 by omega),cond_false,ix_s he,ea,decide_eq_false (show ¬(a:Int)>=Int.ofNat (mT m).length by simp only[J0g];omega),cond_false,Zjv,ix_s he,ea];obtain⟨x,e',hx,hx2⟩:=Yqo h hq hal2 hab;rw[show Zf1 (m.1,m.2.1,m.2.2.1,m.2.2.2.1,m.2.2.2.2.1,m.2.2.2.2.2.1,m.2.2.2.2.2.2.1,m.2.2.2.2.2.2.2.1,m.2.2.2.2.2.2.2.2.1,m.2.2.2.2.2.2.2.2.2.1,m.2.2.2.2.2.2.2.2.2.2.1,m.2.2.2.2.2.2.2.2.2.2.2.1,mT m,mU m,()) (a:Int)=some (x,e',()) from hx,J0k];dsimp only;cases he' : e' != 0 with
  |true=>rw[cond_true,hw];exact ih _ (by omega)|false =>
   obtain⟨k1,k2⟩:=hx2 (by simpa using he');obtain⟨_,l2⟩:=Ytg k1;have hqx:QOk (mQ x) v:=by rw[l2];exact hq
   obtain⟨q1,q2,q3⟩:=Yh5 hqx k2;obtain⟨t',ht',hs⟩:=Yqp k1;obtain rfl:t' = t:=by rw[ht]at ht';exact(J0a ht').symm
   rw[cond_false,Zjw];rw[show Zbk (x.1,x.2.1,x.2.2.1,x.2.2.2.1,x.2.2.2.2.1,x.2.2.2.2.2.1,x.2.2.2.2.2.2.1,x.2.2.2.2.2.2.2.1,x.2.2.2.2.2.2.2.2.1,x.2.2.2.2.2.2.2.2.2.1,x.2.2.2.2.2.2.2.2.2.2.1,x.2.2.2.2.2.2.2.2.2.2.2.1,x.2.2.2.2.2.2.2.2.2.2.2.2.1,x.2.2.2.2.2.2.2.2.2.2.2.2.2.1,())=_ from Yqq hqx k2,J0k,bne_self_eq_false,cond_false,Zjx,ix_s he,ea,ix_s ht];dsimp only;rcases hs with⟨r1,r2,r3,r4⟩|⟨r1,r0,r2,r3,r4⟩|⟨r1,r0,r2,r3,r4⟩
   rw[decide_eq_true (show Int.ofNat t'.2.2.2.1.length>0 by have:=List.length_pos_iff.2 r1;simp only[J0g];omega),cond_true];rw[w64 (x:=(sumN pnN (mT m):Int)-1) (by omega) (by omega),w64 (x:=(sumN quN (mU m):Int)+1) (by omega) (by omega)];rw[show((sumN evN (mT x):Int)==(sumN evN (mT m):Int))=true from beq_iff_eq.2 (by omega),show((sumN pnN (mT x):Int)==(sumN pnN (mT m):Int)-1)=true from beq_iff_eq.2 (by omega),show((sumN quN (mU x):Int)==(sumN quN (mU m):Int)+1)=true from beq_iff_eq.2 (by omega),hw];exact ih _ (by omega);rw[r1,show decide (Int.ofNat ([]:List Snd).length>0)=false from rfl,cond_false,Zdq,ix_s he,ea,ix_s ht];dsimp only;rw[show(t'.1==1)=true from beq_iff_eq.2 r0,cond_true,ix_s he,ea,ix_s ht,show(t'.1 != 1)=false by rw[r0];rfl,cond_false];rw[w64 (x:=(sumN evN (mT m):Int)-1) (by omega) (by omega),w64 (x:=(sumN pnN (mT m):Int)+1) (by omega) (by omega)];rw[show((sumN evN (mT x):Int)==(sumN evN (mT m):Int)-1)=true from beq_iff_eq.2 (by omega),show((sumN pnN (mT x):Int)==(sumN pnN (mT m):Int)+1)=true from beq_iff_eq.2 (by omega),show((sumN quN (mU x):Int)==(sumN quN (mU m):Int))=true from beq_iff_eq.2 (by omega),hw];exact ih _ (by omega);rw[r1,show decide (Int.ofNat ([]:List Snd).length>0)=false from rfl,cond_false,Zdq,ix_s he,ea,ix_s ht];dsimp only;rw[show(t'.1==1)=false from beq_eq_false_iff_ne.2 r0,cond_false,ix_s he,ea,ix_s ht,show(t'.1 != 1)=true by simpa using r0,cond_true];rw[w64 (x:=(sumN quN (mU m):Int)-1) (by omega) (by omega)];rw[show((sumN evN (mT x):Int) != (sumN evN (mT m):Int))=false by rw[r2];exact bne_self_eq_false _,cond_false,show((sumN quN (mU x):Int) != (sumN quN (mU m):Int)-1)=false from bne_eq_false_iff_eq.2 (by omega),cond_false,decide_eq_false (show ¬(sumN pnN (mT x):Int)<(sumN pnN (mT m):Int) by omega),cond_false,hw];exact ih _ (by omega)
end
theorem Yjx(m:Mch):Zg1 m=some (true,()):=by
 obtain⟨g,hg,hb⟩:=Y1y m;rw[Zng,hg,J0k];cases g with|false=>rfl|true=>obtain⟨v,hq,hm,h⟩:=hb rfl;obtain⟨_,_,g1,_,g3,_⟩:=Xy h;have hal:=Z3i (m:=m);have hf:=Zr;rw[Bool.not_true,cond_false,Yqq hq h,J0k,Y0f hq hm,h,J0k];simp only[bne_self_eq_false,cond_false,cond_true];exact Zzz hq h (Zgv m).length 0 fuel (by omega) (by omega)
end Tg
