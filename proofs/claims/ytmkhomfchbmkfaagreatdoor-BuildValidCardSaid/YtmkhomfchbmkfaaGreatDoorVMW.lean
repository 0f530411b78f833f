import Derived.Test.YtmkhomfchbmkfaaGreatDoorVWP
import Derived.Test.YtmkhomfchbmkfaaGreatDoorVYb8
import Derived.Test.YtmkhomfchbmkfaaGreatDoorVYb9
/- Which machines are right: the program and the reference say the same. -/
set_option linter.unusedVariables false
set_option linter.unusedSimpArgs false
namespace Tg
open Go
open Go.Abs (Zb Zf tmm)
abbrev Nd5:=Int×Int×Int×Int×Int×Unit
abbrev Qry:=Int×List Nd5×List (Int×Unit)×Bool×List Nd5×Int×Int×Int×Bool×Int×Unit
abbrev Mch:=Int×List Nd5×List (Int×Unit)×Bool×List Nd5×Int×Int×Int×Bool×Int×List Op×List Cn×List Tsk×List Que×Unit
def mQ (m:Mch):Qry:=(m.1,m.2.1,m.2.2.1,m.2.2.2.1,m.2.2.2.2.1,m.2.2.2.2.2.1,m.2.2.2.2.2.2.1,m.2.2.2.2.2.2.2.1,m.2.2.2.2.2.2.2.2.1,m.2.2.2.2.2.2.2.2.2.1,())
def mG (m:Mch):Gr:=(m.2.2.2.2.2.2.2.2.2.2.1,m.2.2.2.2.2.2.2.2.2.2.2.1,())
def mT (m:Mch):List Tsk:=m.2.2.2.2.2.2.2.2.2.2.2.2.1
def mU (m:Mch):List Que:=m.2.2.2.2.2.2.2.2.2.2.2.2.2.1
def allI {α:Type}(p:Nat->α->Bool):Nat->List α->Bool
 | _,[]=>true
 | i,e::l=>p i e&&allI p (i+1) l
theorem Zod {α:Type}{p:Nat->α->Bool}:∀ {l:List α} {i j:Nat} {e:α},allI p i l=true->l[j]? = some e->p (i+j) e=true
 | [],_,_,_,_,h=>by simp at h
 | x::l,i,0,e,h,he=>by obtain rfl:=J0a he;rw [allI,J0e] at h;exact h.1
 | x::l,i,j+1,e,h,he=>by rw [allI,J0e] at h;have:=Zod (j:=j) h.2 (by simpa using he);grind
theorem Yel {α β:Type}{f:Nat->Int->Option β}{l:List α}{p:Nat->α->Bool}{bad fin:Option β}{N:Nat}
    (hs:∀ n (i:Nat) e,l[i]? = some e->f (n+1) (i:Int)=bif p i e then f n ((i+1:Nat):Int) else bad)
    (he:∀ n,N<=n->f (n+1) (l.length:Int)=fin) (n:Nat) (hn:N+l.length+1<=n):f n 0=bif allI p 0 l then fin else bad:=by
  have key:∀ (r:List α) (i n:Nat),l.drop i=r->i<=l.length->N+r.length+1<=n->f n (i:Int)=bif allI p i r then fin else bad:=by
   intro r
   induction r with
   | nil=>intro i n h hi hn;obtain⟨m,rfl⟩:∃ m,n=m+1:=⟨n - 1,by omega⟩;have:=Xn h hi;subst this;exact he m (by grind)
   | cons e r ih=>intro i n h hi hn;obtain⟨m,rfl⟩:∃ m,n=m+1:=⟨n - 1,by omega⟩;obtain⟨h1,h2,h3⟩:=Xg h;rw [hs m i e h2,allI,ih (i+1) m h3 (by omega) (by grind)];grind
  exact key l 0 n rfl (by omega) hn
def fitB (j:Bool)(late:Int)(x:Gr)(i:Nat)(t:Tsk):Bool:=match x.1[i]? with
 | none=>false
 | some o=>(t.1==o.1&&(t.2.1==o.2.1&&true))&&(Zc1 t&&(t.2.2.2.1.all (fun s=>decide (s.1<(cnt false (i:Int) x.2.1:Int))) &&
  bif t.1==2 then bif late==2 then cnt false (i:Int) x.2.1==2 else cnt false (i:Int) x.2.1==1
  else bif t.1==4 then t.2.2.2.2.1.length==cnt true (i:Int) x.2.1 && !j
  else bif t.1==5 then cnt true (i:Int) x.2.1==2&&j else true))
structure TLen (t:Tsk):Prop where
 h1:t.2.2.2.1.length<=100000
 h2:t.2.2.2.2.1.length<=100000
 h3:t.2.2.2.2.2.1.length<=100000
 h4:t.2.2.2.2.2.2.1.length<=100000
 h5:t.2.2.2.2.2.2.2.1.length<=100000
 h6:t.2.2.2.2.2.2.2.2.1.length<=100000
theorem TLen.chk {t:Tsk}(h:TLen t):Zcy t=some (bif Zc1 t then 0 else 8,()):=Z7n t (by have:=h.h1;omega) (by have:=h.h2;omega) (by have:=h.h3;omega) (by have:=h.h4;omega) (by have:=h.h5;omega) (by have:=h.h6;omega)
theorem TLen.rchk {t:Tsk}(h:TLen t):Zhw t=some (bif Zc1 t then 0 else 8,()):=Yof t (by have:=h.h1;omega) (by have:=h.h2;omega) (by have:=h.h3;omega) (by have:=h.h4;omega) (by have:=h.h5;omega) (by have:=h.h6;omega)
theorem natE (a b:Nat):((a:Int)==(b:Int))=(a==b):=by grind
theorem Yp3 (a:Nat):((a:Int)==1)=(a==1):=by grind
theorem Yp4 (a:Nat):((a:Int)==2)=(a==2):=by grind
theorem Ysu (m:Mch)(i:Nat)(t:Tsk)(hg:Tj.Zhy (mG m).1 (mG m).2.1)(hl:(mG m).2.1.length<=100)(ht:(mT m)[i]? = some t)(hi:i<(mG m).1.length)(hT:TLen t) :
    Zsd m (i:Int)=some (fitB m.2.2.2.1 m.2.2.2.2.2.2.2.2.2.1 (mG m) i t,()):=by
  obtain⟨o,ho⟩:∃ o,(mG m).1[i]? = some o:=⟨_,J0c hi⟩;have hf:=Yu;have l1:=hT.h1;have a1:Qe (m.2.2.2.2.2.2.2.2.2.2.1,m.2.2.2.2.2.2.2.2.2.2.2.1,()) (i:Int)=some (joinL true (mG m) (i:Int),()):=Z71 hg hl hi;have a2:Xj (m.2.2.2.2.2.2.2.2.2.2.1,m.2.2.2.2.2.2.2.2.2.2.2.1,()) (i:Int)=some (joinL false (mG m) (i:Int),()):=Z16 hg hl hi;have c1:=Zgc hg true (i:Int);have c2:=Zgc hg false (i:Int);have ho' : m.2.2.2.2.2.2.2.2.2.2.1[i]? = some o:=ho;have ht' : m.2.2.2.2.2.2.2.2.2.2.2.2.1[i]? = some t:=ht;rw [Z76,ix_s ht',ix_s ho',hT.chk,a1,a2];simp only [J0k,c1,c2,J0g];have lp:=fun (hb:Zc1 t=true)=>Zeb (f:=fun n k=>Zf1 n m.2.2.2.1 m.2.2.2.2.2.2.2.2.2.1 t.1 t.2.2.2.2.1 (cnt true (i:Int) (mG m).2.1:Int) (cnt false (i:Int) (mG m).2.1:Int) t.2.2.2.1 (Int.ofNat t.2.2.2.1.length) k) (l:=t.2.2.2.1)
   (p:=fun s=>decide (s.1<(cnt false (i:Int) (mG m).2.1:Int))) (bad:=some (false,())) (N:=1)
   (fin:=some (bif t.1==2 then bif m.2.2.2.2.2.2.2.2.2.1==2 then cnt false (i:Int) (mG m).2.1==2 else cnt false (i:Int) (mG m).2.1==1
    else bif t.1==4 then t.2.2.2.2.1.length==cnt true (i:Int) (mG m).2.1 && !m.2.2.2.1
    else bif t.1==5 then cnt true (i:Int) (mG m).2.1==2&&m.2.2.2.1 else true,()))
   (fun n k e he=>by
    have hk:=(J0d.1 he).1;have hd:decide (e.1>=(cnt false (i:Int) (mG m).2.1:Int)) = !decide (e.1<(cnt false (i:Int) (mG m).2.1:Int)):=by grind
    simp only [Zq3,ltL he,ix_s he,cond_true,wS (show k<1000000000000 by omega),hd];grind)
   (fun n hn=>by obtain⟨q,rfl⟩:∃ q,n=q+1:=⟨n - 1,by omega⟩;rw [Zq3];simp only [geL,cond_false,Z4k];simp only [J0g,natE,Yp3,Yp4];grind) fuel (by omega)
  unfold fitB;rw [ho];grind
end Tg

/- The check of a machine: the reference's and the program's are one. -/
namespace Tg
open Go
open Go.Abs (Zb Zf tmm)
theorem Yk0 (m:Mch)(i:Nat)(t:Tsk)(hg:Tj.Zhy (mG m).1 (mG m).2.1)(hl:(mG m).2.1.length<=100)(ht:(mT m)[i]? = some t)(hi:i<(mG m).1.length)(hT:TLen t) :
    Zjq m (i:Int)=some (fitB m.2.2.2.1 m.2.2.2.2.2.2.2.2.2.1 (mG m) i t,()):=by
  obtain⟨o,ho⟩:∃ o,(mG m).1[i]? = some o:=⟨_,J0c hi⟩;have hf:=Yu;have l1:=hT.h1;have c1:=Zgc hg true (i:Int);have c2:=Zgc hg false (i:Int);have a2:Zpr m (i:Int)=some (joinL false (mG m) (i:Int),()):=by rw [Z4j];have:=Z74 (mG m) (i:Int) false (by omega);unfold mG at this;rw [this];rfl
  have a1:Zoc m (i:Int)=some (joinL true (mG m) (i:Int),()):=by rw [Z72];have:=Z74 (mG m) (i:Int) true (by omega);unfold mG at this;rw [this];rfl
  have ho' : m.2.2.2.2.2.2.2.2.2.2.1[i]? = some o:=ho;have ht' : m.2.2.2.2.2.2.2.2.2.2.2.2.1[i]? = some t:=ht;have a1' : Zoc (m.1,m.2.1,m.2.2.1,m.2.2.2.1,m.2.2.2.2.1,m.2.2.2.2.2.1,m.2.2.2.2.2.2.1,m.2.2.2.2.2.2.2.1,m.2.2.2.2.2.2.2.2.1,m.2.2.2.2.2.2.2.2.2.1,m.2.2.2.2.2.2.2.2.2.2.1,m.2.2.2.2.2.2.2.2.2.2.2.1,m.2.2.2.2.2.2.2.2.2.2.2.2.1,m.2.2.2.2.2.2.2.2.2.2.2.2.2.1,()) (i:Int)=some (joinL true (mG m) (i:Int),()):=a1;rw [Zxh,ix_s ht',ix_s ho',hT.rchk,a2];simp only [J0k,c2];have lp:=fun (hb:Zc1 t=true)=>Zeb (f:=fun n k=>Zcl n (i:Int) m.1 m.2.1 m.2.2.1 m.2.2.2.1 m.2.2.2.2.1 m.2.2.2.2.2.1 m.2.2.2.2.2.2.1 m.2.2.2.2.2.2.2.1 m.2.2.2.2.2.2.2.2.1 m.2.2.2.2.2.2.2.2.2.1 m.2.2.2.2.2.2.2.2.2.2.1 m.2.2.2.2.2.2.2.2.2.2.2.1 m.2.2.2.2.2.2.2.2.2.2.2.2.1 m.2.2.2.2.2.2.2.2.2.2.2.2.2.1 t.1 t.2.2.2.1 t.2.2.2.2.1 (Int.ofNat (cnt false (i:Int) (mG m).2.1)) k) (l:=t.2.2.2.1)
   (p:=fun s=>decide (s.1<(cnt false (i:Int) (mG m).2.1:Int))) (bad:=some (false,())) (N:=1)
   (fin:=some (bif t.1==2 then bif m.2.2.2.2.2.2.2.2.2.1==2 then cnt false (i:Int) (mG m).2.1==2 else cnt false (i:Int) (mG m).2.1==1
    else bif t.1==4 then t.2.2.2.2.1.length==cnt true (i:Int) (mG m).2.1 && !m.2.2.2.1
    else bif t.1==5 then cnt true (i:Int) (mG m).2.1==2&&m.2.2.2.1 else true,()))
   (fun n k e he=>by
    have hk:=(J0d.1 he).1;have hd:decide (e.1>=Int.ofNat (cnt false (i:Int) (mG m).2.1)) = !decide (e.1<(cnt false (i:Int) (mG m).2.1:Int)):=by grind
    rw [Zkr];simp only [ltL he,ix_s he,cond_true,wS (show k<1000000000000 by omega),hd];grind)
   (fun n hn=>by obtain⟨q,rfl⟩:∃ q,n=q+1:=⟨n - 1,by omega⟩;rw [Zkr];simp only [geL,cond_false,Ztu,a1',J0k,c1];simp only [J0g,natE,Yp3,Yp4,bne];grind) fuel (by omega)
  unfold fitB;rw [ho];grind
end Tg

/- The check of a machine in plain words, of the program and of the reference. -/
namespace Tg
open Go
open Go.Abs (Zb Zf tmm)
structure QOk (q:Qry) (b:Bool):Prop where
 prog:∃ k e,Q7 q=some (k,e,())/\(e==0)=b
 ref:Zbr q=some (b,())
def queI (x:Gr)(i:Nat)(q:Que):Bool:=match x.2.1[i]? with
 | none=>false
 | some c=>q.1==c.2.2.2.2.1&&queB q
def mchB (b:Bool)(m:Mch):Bool:=b&&(gChk (mG m)==0&&((mT m).length==(mG m).1.length&&((mU m).length==(mG m).2.1.length&&(allI (queI (mG m)) 0 (mU m)&&allI (fitB m.2.2.2.1 m.2.2.2.2.2.2.2.2.2.1 (mG m)) 0 (mT m)))))
theorem Z4n {x:Gr}(h:gChk x=0):x.1.length<=20/\x.2.1.length<=100/\gOkB x=true:=by unfold gChk at h;grind
structure MLen (m:Mch):Prop where
 t:∀ t∈mT m,TLen t
 u:∀ q∈mU m,q.2.1.length<=100000
 ops:(mG m).1.length<=100000
 chs:(mG m).2.1.length<=100000
 tl:(mT m).length<=100000
 ul:(mU m).length<=100000
theorem Yem (m:Mch)(b:Bool)(hq:QOk (mQ m) b)(hm:MLen m):Zcz m=some (bif mchB b m then 0 else 8,()):=by
 have hf:=Yu;have h1:=hm.ops;have h2:=hm.chs;have h3:=hm.tl;have h4:=hm.ul;obtain⟨k,e,hc,he⟩:=hq.prog;have hgr:=Zzp (mG m) (by omega) (by omega);rw [Z4l];rw [show Q7 (m.1,m.2.1,m.2.2.1,m.2.2.2.1,m.2.2.2.2.1,m.2.2.2.2.2.1,m.2.2.2.2.2.2.1,m.2.2.2.2.2.2.2.1,m.2.2.2.2.2.2.2.2.1,m.2.2.2.2.2.2.2.2.2.1,())=some (k,e,()) from hc,show Zbu (m.2.2.2.2.2.2.2.2.2.2.1,m.2.2.2.2.2.2.2.2.2.2.2.1,())=some (gChk (mG m),()) from hgr];simp only [J0k,bne,he,J0g];unfold mchB;cases b with
 | false=>rfl
 | true =>
  cases hz:gChk (mG m)==0 with
  | false=>rfl
  | true =>
   obtain⟨g1,g2,g3⟩:=Z4n (by simpa using hz);have hr:=Ybn g3;have e1:((m.2.2.2.2.2.2.2.2.2.2.2.2.1.length:Int)==(m.2.2.2.2.2.2.2.2.2.2.1.length:Int))=((mT m).length==(mG m).1.length):=natE _ _;have e2:((m.2.2.2.2.2.2.2.2.2.2.2.2.2.1.length:Int)==(m.2.2.2.2.2.2.2.2.2.2.2.1.length:Int))=((mU m).length==(mG m).2.1.length):=natE _ _;rw [e1,e2];cases ht:(mT m).length==(mG m).1.length with
   | false=>rfl
   | true =>
    have ht:=beq_iff_eq.1 ht;cases hu:(mU m).length==(mG m).2.1.length with
    | false=>rfl
    | true =>
     have hu:=beq_iff_eq.1 hu;simp only [Bool.not_true,cond_false,Bool.true_and];have l2:=fun n (hn:(mT m).length+1<=n)=>Yel (f:=fun n k=>Zdx n m.1 m.2.1 m.2.2.1 m.2.2.2.1 m.2.2.2.2.1 m.2.2.2.2.2.1 m.2.2.2.2.2.2.1 m.2.2.2.2.2.2.2.1 m.2.2.2.2.2.2.2.2.1 m.2.2.2.2.2.2.2.2.2.1 m.2.2.2.2.2.2.2.2.2.2.1 m.2.2.2.2.2.2.2.2.2.2.2.1 m.2.2.2.2.2.2.2.2.2.2.2.2.1 m.2.2.2.2.2.2.2.2.2.2.2.2.2.1 (Int.ofNat (mT m).length) k) (l:=mT m)
      (p:=fitB m.2.2.2.1 m.2.2.2.2.2.2.2.2.2.1 (mG m)) (bad:=some (8,())) (fin:=some (0,())) (N:=0)
      (fun n i t he=>by have hi:=(J0d.1 he).1;have:=Ysu m i t hr g2 he (by omega) (hm.t t (J0j he));rw [Zna];simp only [ltL he,cond_true,wS (show i<1000000000000 by omega)];grind)
      (fun n _=>by rw [Zna];grind) n (by omega)
     have l1:=Yel (f:=fun n k=>Zez n m.1 m.2.1 m.2.2.1 m.2.2.2.1 m.2.2.2.2.1 m.2.2.2.2.2.1 m.2.2.2.2.2.2.1 m.2.2.2.2.2.2.2.1 m.2.2.2.2.2.2.2.2.1 m.2.2.2.2.2.2.2.2.2.1 m.2.2.2.2.2.2.2.2.2.2.1 m.2.2.2.2.2.2.2.2.2.2.2.1 m.2.2.2.2.2.2.2.2.2.2.2.2.1 m.2.2.2.2.2.2.2.2.2.2.2.2.2.1 (mU m) (Int.ofNat (mU m).length) k) (l:=mU m)
      (p:=queI (mG m)) (bad:=some (8,())) (fin:=bif allI (fitB m.2.2.2.1 m.2.2.2.2.2.2.2.2.2.1 (mG m)) 0 (mT m) then some (0,()) else some (8,())) (N:=(mT m).length+2)
      (fun n i q he=>by have hi:=(J0d.1 he).1;obtain⟨c,hcc⟩:∃ c,(mG m).2.1[i]? = some c:=⟨_,J0c (by omega)⟩;have hcc' : m.2.2.2.2.2.2.2.2.2.2.2.1[i]? = some c:=hcc;rw [Zo0];simp only [ltL he,cond_true,wS (show i<1000000000000 by omega),ix_s he,ix_s hcc',Z7l q (by have:=hm.u q (J0j he);omega),J0k];unfold queI;grind)
      (fun n hn=>by obtain⟨z,rfl⟩:∃ z,n=z+1:=⟨n - 1,by omega⟩;rw [Zo0];simp only [geL,cond_false,Zzt];exact l2 z (by omega)) fuel (by omega)
     refine Eq.trans l1 ?_;grind
end Tg

/- The reference's check of a machine in plain words. -/
namespace Tg
open Go
open Go.Abs (Zb Zf tmm)
theorem Yk1 (m:Mch)(b:Bool)(hq:QOk (mQ m) b)(hm:MLen m):Zm6 m=some (bif mchB b m then 0 else 8,()):=by
 have hf:=Yu;have h1:=hm.ops;have h2:=hm.chs;have h3:=hm.tl;have h4:=hm.ul;have hgr:=Yko (mG m);rw [Zzr];rw [show Zbr (m.1,m.2.1,m.2.2.1,m.2.2.2.1,m.2.2.2.2.1,m.2.2.2.2.2.1,m.2.2.2.2.2.2.1,m.2.2.2.2.2.2.2.1,m.2.2.2.2.2.2.2.2.1,m.2.2.2.2.2.2.2.2.2.1,())=some (b,()) from hq.ref,show Zhu (m.2.2.2.2.2.2.2.2.2.2.1,m.2.2.2.2.2.2.2.2.2.2.2.1,())=some (gChk (mG m),()) from hgr];simp only [J0k,bne,J0g];unfold mchB;cases b with
 | false=>rfl
 | true =>
  cases hz:gChk (mG m)==0 with
  | false=>rfl
  | true =>
   obtain⟨g1,g2,g3⟩:=Z4n (by simpa using hz);have hr:=Ybn g3;have e1:((m.2.2.2.2.2.2.2.2.2.2.2.2.1.length:Int)==(m.2.2.2.2.2.2.2.2.2.2.1.length:Int))=((mT m).length==(mG m).1.length):=natE _ _;have e2:((m.2.2.2.2.2.2.2.2.2.2.2.2.2.1.length:Int)==(m.2.2.2.2.2.2.2.2.2.2.2.1.length:Int))=((mU m).length==(mG m).2.1.length):=natE _ _;rw [e1,e2];cases ht:(mT m).length==(mG m).1.length with
   | false=>rfl
   | true =>
    have ht:=beq_iff_eq.1 ht;cases hu:(mU m).length==(mG m).2.1.length with
    | false=>rfl
    | true =>
     have hu:=beq_iff_eq.1 hu;simp only [Bool.not_true,cond_false,Bool.true_and];have l2:=fun n (hn:(mT m).length+1<=n)=>Yel (f:=fun n k=>Zcm n m.1 m.2.1 m.2.2.1 m.2.2.2.1 m.2.2.2.2.1 m.2.2.2.2.2.1 m.2.2.2.2.2.2.1 m.2.2.2.2.2.2.2.1 m.2.2.2.2.2.2.2.2.1 m.2.2.2.2.2.2.2.2.2.1 m.2.2.2.2.2.2.2.2.2.2.1 m.2.2.2.2.2.2.2.2.2.2.2.1 m.2.2.2.2.2.2.2.2.2.2.2.2.1 m.2.2.2.2.2.2.2.2.2.2.2.2.2.1 k) (l:=mT m)
      (p:=fitB m.2.2.2.1 m.2.2.2.2.2.2.2.2.2.1 (mG m)) (bad:=some (8,())) (fin:=some (0,())) (N:=0)
      (fun n i t he=>by have hi:=(J0d.1 he).1;have:=Yk0 m i t hr g2 he (by omega) (hm.t t (J0j he));have he' : m.2.2.2.2.2.2.2.2.2.2.2.2.1[i]? = some t:=he;rw [Zks];simp only [ltL he',cond_true,wS (show i<1000000000000 by omega)];grind)
      (fun n _=>by rw [Zks];show (bif decide (((m.2.2.2.2.2.2.2.2.2.2.2.2.1).length:Int)<Int.ofNat _) then _ else _)=_;grind) n (by omega)
     have l1:=Yel (f:=fun n k=>Zdv n m.1 m.2.1 m.2.2.1 m.2.2.2.1 m.2.2.2.2.1 m.2.2.2.2.2.1 m.2.2.2.2.2.2.1 m.2.2.2.2.2.2.2.1 m.2.2.2.2.2.2.2.2.1 m.2.2.2.2.2.2.2.2.2.1 m.2.2.2.2.2.2.2.2.2.2.1 m.2.2.2.2.2.2.2.2.2.2.2.1 m.2.2.2.2.2.2.2.2.2.2.2.2.1 m.2.2.2.2.2.2.2.2.2.2.2.2.2.1 k) (l:=mU m)
      (p:=queI (mG m)) (bad:=some (8,())) (fin:=bif allI (fitB m.2.2.2.1 m.2.2.2.2.2.2.2.2.2.1 (mG m)) 0 (mT m) then some (0,()) else some (8,())) (N:=(mT m).length+2)
      (fun n i q he=>by have hi:=(J0d.1 he).1;obtain⟨c,hcc⟩:∃ c,(mG m).2.1[i]? = some c:=⟨_,J0c (by omega)⟩;have hcc' : m.2.2.2.2.2.2.2.2.2.2.2.1[i]? = some c:=hcc;have he' : m.2.2.2.2.2.2.2.2.2.2.2.2.2.1[i]? = some q:=he;rw [Zm8];simp only [ltL he',cond_true,wS (show i<1000000000000 by omega),ix_s he',ix_s hcc',Yjp q (by have:=hm.u q (J0j he);omega),J0k];unfold queI;grind)
      (fun n hn=>by obtain⟨z,rfl⟩:∃ z,n=z+1:=⟨n - 1,by omega⟩;rw [Zm8];show (bif decide (((m.2.2.2.2.2.2.2.2.2.2.2.2.2.1).length:Int)<Int.ofNat _) then _ else _)=_;simp only [geL,cond_false,Zxi];grind) fuel (by omega)
     grind
end Tg
