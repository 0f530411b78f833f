import Derived.Test.YtlnihcefchoofaaGreatDoorDWP
import Derived.Test.YtlnihcefchoofaaGreatDoorDYb9
set_option linter.all false
namespace Tg
open Go
open Go.Abs (Ze Zj tmm)
abbrev Nd5:=Int×Int×Int×Int×Int×Unit
abbrev Qry:=Int×List Nd5×List (Int×Unit)×Bool×List Nd5×Int×Int×Int×Bool×Int×Unit
abbrev Mch:=Int×List Nd5×List (Int×Unit)×Bool×List Nd5×Int×Int×Int×Bool×Int×List Op×List Cn×List Tsk×List Que×Unit
def mQ(m:Mch):Qry:=(m.1,m.2.1,m.2.2.1,m.2.2.2.1,m.2.2.2.2.1,m.2.2.2.2.2.1,m.2.2.2.2.2.2.1,m.2.2.2.2.2.2.2.1,m.2.2.2.2.2.2.2.2.1,m.2.2.2.2.2.2.2.2.2.1,())
def mG(m:Mch):Gr:=(m.2.2.2.2.2.2.2.2.2.2.1,m.2.2.2.2.2.2.2.2.2.2.2.1,())
def mT(m:Mch):List Tsk:=m.2.2.2.2.2.2.2.2.2.2.2.2.1
def mU(m:Mch):List Que:=m.2.2.2.2.2.2.2.2.2.2.2.2.2.1
def allI{α:Type}(p:Nat->α->Bool):Nat->List α->Bool|_,[]=>true|i,e::l=>p i e&&allI p (i+1) l
theorem Z6b{α:Type}{p:Nat->α->Bool}:∀{l:List α} {i j:Nat} {e:α},allI p i l=true->l[j]? = some e->p (i+j) e=true|[],_,_,_,_,h=>by simp at h|x::l,i,0,e,h,he=>by grind[allI]|x::l,i,j+1,e,h,he=>by rw[allI,J0e]at h;have:=Z6b (j:=j) h.2 (by simpa using he);grind
theorem Yho{α β:Type}{f:Nat->Int->Option β}{l:List α}{p:Nat->α->Bool}{bad fin:Option β}{N:Nat}
    (hs:∀n (i:Nat) e,l[i]? = some e->f (n+1) (i:Int)=bif p i e then f n ((i+1:Nat):Int)else bad)
    (he:∀n,N<=n->f (n+1) (l.length:Int)=fin) (n:Nat) (hn:N+l.length+1<=n):f n 0=bif allI p 0 l then fin else bad:=by
  have key:∀(r:List α) (i n:Nat),l.drop i=r->i<=l.length->N+r.length+1<=n->f n (i:Int)=bif allI p i r then fin else bad:=by
   intro r
   induction r with|nil=>intro i n h hi hn;obtain⟨m,rfl⟩:∃m,n=m+1:=⟨n-1,by omega⟩;have:=Zqr h hi;subst this;exact he m (by grind)|cons e r ih=>intro i n h hi hn;obtain⟨m,rfl⟩:∃m,n=m+1:=⟨n-1,by omega⟩;grind[Za3,allI]
  exact key l 0 n rfl (by omega) hn
def fitB(j:Bool)(late:Int)(x:Gr)(i:Nat)(t:Tsk):Bool:=match x.1[i]? with
 |none=>false|some o=>(t.1==o.1&&(t.2.1==o.2.1&&true))&&(Zy t&&(t.2.2.2.1.all (λs=>decide (s.1<(cnt false (i:Int) x.2.1:Int))) &&
  bif t.1==2 then bif late==2 then cnt false (i:Int) x.2.1==2 else cnt false (i:Int) x.2.1==1
  else bif t.1==4 then t.2.2.2.2.1.length==cnt true (i:Int) x.2.1 && !j
  else bif t.1==5 then cnt true (i:Int) x.2.1==2&&j else true))
structure TLen(t:Tsk):Prop where
 h1:t.2.2.2.1.length<=100000
 h2:t.2.2.2.2.1.length<=100000
 h3:t.2.2.2.2.2.1.length<=100000
 h4:t.2.2.2.2.2.2.1.length<=100000
 h5:t.2.2.2.2.2.2.2.1.length<=100000
 h6:t.2.2.2.2.2.2.2.2.1.length<=100000
variable {t:Tsk}
theorem TLen.chk(h:TLen t):Yu t=some (bif Zy t then 0 else 8,()):=Z9c t (by have:=h.h1;omega) (by have:=h.h2;omega) (by have:=h.h3;omega) (by have:=h.h4;omega) (by have:=h.h5;omega) (by have:=h.h6;omega)
theorem TLen.rchk(h:TLen t):Zhl t=some (bif Zy t then 0 else 8,()):=Ysh t (by have:=h.h1;omega) (by have:=h.h2;omega) (by have:=h.h3;omega) (by have:=h.h4;omega) (by have:=h.h5;omega) (by have:=h.h6;omega)
theorem natE(a b:Nat):((a:Int)==(b:Int))=(a==b):=by grind
theorem Yt8(a:Nat):((a:Int)==1)=(a==1):=by grind
theorem Yt9(a:Nat):((a:Int)==2)=(a==2):=by grind
theorem Ywz(m:Mch)(i:Nat)(t:Tsk)(hg:Tj.Zhn (mG m).1 (mG m).2.1)(hl:(mG m).2.1.length<=100)(ht:(mT m)[i]? = some t)(hi:i<(mG m).1.length)(hT:TLen t) :
    Zsk m (i:Int)=some (fitB m.2.2.2.1 m.2.2.2.2.2.2.2.2.2.1 (mG m) i t,()):=by
  obtain⟨o,ho⟩:∃o,(mG m).1[i]? = some o:=⟨_,J0c hi⟩;have hf:=Zr;have l1:=hT.h1;have a1:Yo (m.2.2.2.2.2.2.2.2.2.2.1,m.2.2.2.2.2.2.2.2.2.2.2.1,()) (i:Int)=some (joinL true (mG m) (i:Int),()):=Zyl hg hl hi;have a2:Ya (m.2.2.2.2.2.2.2.2.2.2.1,m.2.2.2.2.2.2.2.2.2.2.2.1,()) (i:Int)=some (joinL false (mG m) (i:Int),()):=Znz hg hl hi;have c1:=Zbj hg true (i:Int);have c2:=Zbj hg false (i:Int);have ho' : m.2.2.2.2.2.2.2.2.2.2.1[i]? = some o:=ho;have ht' : m.2.2.2.2.2.2.2.2.2.2.2.2.1[i]? = some t:=ht;rw[Z9r,ix_s ht',ix_s ho',hT.chk,a1,a2];simp only[J0k,c1,c2,J0g];have lp:=λ(hb:Zy t=true)=>Zcy (f:=λn k=>Zfr n m.2.2.2.1 m.2.2.2.2.2.2.2.2.2.1 t.1 t.2.2.2.2.1 (cnt true (i:Int) (mG m).2.1:Int) (cnt false (i:Int) (mG m).2.1:Int) t.2.2.2.1 (Int.ofNat t.2.2.2.1.length) k) (l:=t.2.2.2.1)
   (p:=λs=>decide (s.1<(cnt false (i:Int) (mG m).2.1:Int))) (bad:=some (false,())) (N:=1)
   (fin:=some (bif t.1==2 then bif m.2.2.2.2.2.2.2.2.2.1==2 then cnt false (i:Int) (mG m).2.1==2 else cnt false (i:Int) (mG m).2.1==1
    else bif t.1==4 then t.2.2.2.2.1.length==cnt true (i:Int) (mG m).2.1 && !m.2.2.2.1
    else bif t.1==5 then cnt true (i:Int) (mG m).2.1==2&&m.2.2.2.1 else true,()))
   (λn k e he=>by grind[Zq4,ix_s,wS])
   (λn hn=>by obtain⟨q,rfl⟩:∃q,n=q+1:=⟨n-1,by omega⟩;rw[Zq4];simp only[geL,cond_false,Z59];simp only[J0g,natE,Yt8,Yt9];grind) fuel (by omega)
  unfold fitB;rw[ho];grind
end Tg
namespace Tg
open Go
open Go.Abs (Ze Zj tmm)
theorem Yoj(m:Mch)(i:Nat)(t:Tsk)(hg:Tj.Zhn (mG m).1 (mG m).2.1)(hl:(mG m).2.1.length<=100)(ht:(mT m)[i]? = some t)(hi:i<(mG m).1.length)(hT:TLen t) :
    Zjk m (i:Int)=some (fitB m.2.2.2.1 m.2.2.2.2.2.2.2.2.2.1 (mG m) i t,()):=by
  obtain⟨o,ho⟩:∃o,(mG m).1[i]? = some o:=⟨_,J0c hi⟩;have hf:=Zr;have l1:=hT.h1;have c1:=Zbj hg true (i:Int);have c2:=Zbj hg false (i:Int);have a2:Zpp m (i:Int)=some (joinL false (mG m) (i:Int),()):=by grind[Z57,Z9p,mG]
  have a1:Zn0 m (i:Int)=some (joinL true (mG m) (i:Int),()):=by grind[Z9n,Z9p,mG]
  have ho' : m.2.2.2.2.2.2.2.2.2.2.1[i]? = some o:=ho;have ht' : m.2.2.2.2.2.2.2.2.2.2.2.2.1[i]? = some t:=ht;have a1' : Zn0 (m.1,m.2.1,m.2.2.1,m.2.2.2.1,m.2.2.2.2.1,m.2.2.2.2.2.1,m.2.2.2.2.2.2.1,m.2.2.2.2.2.2.2.1,m.2.2.2.2.2.2.2.2.1,m.2.2.2.2.2.2.2.2.2.1,m.2.2.2.2.2.2.2.2.2.2.1,m.2.2.2.2.2.2.2.2.2.2.2.1,m.2.2.2.2.2.2.2.2.2.2.2.2.1,m.2.2.2.2.2.2.2.2.2.2.2.2.2.1,()) (i:Int)=some (joinL true (mG m) (i:Int),()):=a1;rw[Zyp,ix_s ht',ix_s ho',hT.rchk,a2];simp only[J0k,c2];have lp:=λ(hb:Zy t=true)=>Zcy (f:=λn k=>Zb5 n (i:Int) m.1 m.2.1 m.2.2.1 m.2.2.2.1 m.2.2.2.2.1 m.2.2.2.2.2.1 m.2.2.2.2.2.2.1 m.2.2.2.2.2.2.2.1 m.2.2.2.2.2.2.2.2.1 m.2.2.2.2.2.2.2.2.2.1 m.2.2.2.2.2.2.2.2.2.2.1 m.2.2.2.2.2.2.2.2.2.2.2.1 m.2.2.2.2.2.2.2.2.2.2.2.2.1 m.2.2.2.2.2.2.2.2.2.2.2.2.2.1 t.1 t.2.2.2.1 t.2.2.2.2.1 (Int.ofNat (cnt false (i:Int) (mG m).2.1)) k) (l:=t.2.2.2.1)
   (p:=λs=>decide (s.1<(cnt false (i:Int) (mG m).2.1:Int))) (bad:=some (false,())) (N:=1)
   (fin:=some (bif t.1==2 then bif m.2.2.2.2.2.2.2.2.2.1==2 then cnt false (i:Int) (mG m).2.1==2 else cnt false (i:Int) (mG m).2.1==1
    else bif t.1==4 then t.2.2.2.2.1.length==cnt true (i:Int) (mG m).2.1 && !m.2.2.2.1
    else bif t.1==5 then cnt true (i:Int) (mG m).2.1==2&&m.2.2.2.1 else true,()))
   (λn k e he=>by grind[Zkh,ix_s,wS])
   (λn hn=>by obtain⟨q,rfl⟩:∃q,n=q+1:=⟨n-1,by omega⟩;rw[Zkh];simp only[geL,cond_false,Zuk,a1',J0k,c1];simp only[J0g,natE,Yt8,Yt9,bne];grind) fuel (by omega)
  unfold fitB;rw[ho];grind
structure QOk(q:Qry) (b:Bool):Prop where
 prog:∃k e,Yl q=some (k,e,())/\(e==0)=b
 ref:Zc6 q=some (b,())
def queI(x:Gr)(i:Nat)(q:Que):Bool:=match x.2.1[i]? with|none=>false|some c=>q.1==c.2.2.2.2.1&&queB q
def mchB(b:Bool)(m:Mch):Bool:=b&&(gChk (mG m)==0&&((mT m).length==(mG m).1.length&&((mU m).length==(mG m).2.1.length&&(allI (queI (mG m)) 0 (mU m)&&allI (fitB m.2.2.2.1 m.2.2.2.2.2.2.2.2.2.1 (mG m)) 0 (mT m)))))
theorem Ydz{x:Gr}(h:gChk x=0):x.1.length<=20/\x.2.1.length<=100/\gOkB x=true:=by grind[gChk]
structure MLen(m:Mch):Prop where
 t:∀t∈mT m,TLen t
 u:∀q∈mU m,q.2.1.length<=100000
 ops:(mG m).1.length<=100000
 chs:(mG m).2.1.length<=100000
 tl:(mT m).length<=100000
 ul:(mU m).length<=100000
theorem Zu5(m:Mch)(b:Bool)(hq:QOk (mQ m) b)(hm:MLen m):Zgt m=some (bif mchB b m then 0 else 8,()):=by
 have hf:=Zr;have h1:=hm.ops;have h2:=hm.chs;have h3:=hm.tl;have h4:=hm.ul;obtain⟨k,e,hc,he⟩:=hq.prog;have hgr:=Z1d (mG m) (by omega) (by omega);rw[Z6a];rw[show Yl (m.1,m.2.1,m.2.2.1,m.2.2.2.1,m.2.2.2.2.1,m.2.2.2.2.2.1,m.2.2.2.2.2.2.1,m.2.2.2.2.2.2.2.1,m.2.2.2.2.2.2.2.2.1,m.2.2.2.2.2.2.2.2.2.1,())=some (k,e,()) from hc,show Za8 (m.2.2.2.2.2.2.2.2.2.2.1,m.2.2.2.2.2.2.2.2.2.2.2.1,())=some (gChk (mG m),()) from hgr];simp only[J0k,bne,he,J0g];unfold mchB;cases b with
 |false=>rfl|true =>
  cases hz:gChk (mG m)==0 with
  |false=>rfl|true =>
   obtain⟨g1,g2,g3⟩:=Ydz (by simpa using hz);have hr:=Ydv g3;have e1:((m.2.2.2.2.2.2.2.2.2.2.2.2.1.length:Int)==(m.2.2.2.2.2.2.2.2.2.2.1.length:Int))=((mT m).length==(mG m).1.length):=natE _ _;have e2:((m.2.2.2.2.2.2.2.2.2.2.2.2.2.1.length:Int)==(m.2.2.2.2.2.2.2.2.2.2.2.1.length:Int))=((mU m).length==(mG m).2.1.length):=natE _ _;rw[e1,e2];cases ht:(mT m).length==(mG m).1.length with
   |false=>rfl|true =>
    have ht:=beq_iff_eq.1 ht;cases hu:(mU m).length==(mG m).2.1.length with
    |false=>rfl|true =>
     have hu:=beq_iff_eq.1 hu;simp only[Bool.not_true,cond_false,Bool.true_and];have l2:=λn (hn:(mT m).length+1<=n)=>Yho (f:=λn k=>Zdf n m.1 m.2.1 m.2.2.1 m.2.2.2.1 m.2.2.2.2.1 m.2.2.2.2.2.1 m.2.2.2.2.2.2.1 m.2.2.2.2.2.2.2.1 m.2.2.2.2.2.2.2.2.1 m.2.2.2.2.2.2.2.2.2.1 m.2.2.2.2.2.2.2.2.2.2.1 m.2.2.2.2.2.2.2.2.2.2.2.1 m.2.2.2.2.2.2.2.2.2.2.2.2.1 m.2.2.2.2.2.2.2.2.2.2.2.2.2.1 (Int.ofNat (mT m).length) k) (l:=mT m)
      (p:=fitB m.2.2.2.1 m.2.2.2.2.2.2.2.2.2.1 (mG m)) (bad:=some (8,())) (fin:=some (0,())) (N:=0)
      (λn i t he=>by have hi:=(J0d.1 he).1;have:=Ywz m i t hr g2 he (by omega) (hm.t t (J0j he));grind[Zmz,wS])
      (λn _=>by grind[Zmz]) n (by omega)
     have l1:=Yho (f:=λn k=>Zeo n m.1 m.2.1 m.2.2.1 m.2.2.2.1 m.2.2.2.2.1 m.2.2.2.2.2.1 m.2.2.2.2.2.2.1 m.2.2.2.2.2.2.2.1 m.2.2.2.2.2.2.2.2.1 m.2.2.2.2.2.2.2.2.2.1 m.2.2.2.2.2.2.2.2.2.2.1 m.2.2.2.2.2.2.2.2.2.2.2.1 m.2.2.2.2.2.2.2.2.2.2.2.2.1 m.2.2.2.2.2.2.2.2.2.2.2.2.2.1 (mU m) (Int.ofNat (mU m).length) k) (l:=mU m)
      (p:=queI (mG m)) (bad:=some (8,())) (fin:=bif allI (fitB m.2.2.2.1 m.2.2.2.2.2.2.2.2.2.1 (mG m)) 0 (mT m)then some (0,())else some (8,())) (N:=(mT m).length+2)
      (λn i q he=>by have hi:=(J0d.1 he).1;obtain⟨c,hcc⟩:∃c,(mG m).2.1[i]? = some c:=⟨_,J0c (by omega)⟩;have hcc' : m.2.2.2.2.2.2.2.2.2.2.2.1[i]? = some c:=hcc;rw[Zoq];simp only[ltL he,cond_true,wS (show i<1000000000000 by omega),ix_s he,ix_s hcc',Z9a q (by have:=hm.u q (J0j he);omega),J0k];grind[queI])
      (λn hn=>by obtain⟨z,rfl⟩:∃z,n=z+1:=⟨n-1,by omega⟩;rw[Zoq];simp only[geL,cond_false,Z1h];exact l2 z (by omega)) fuel (by omega)
     refine Eq.trans l1 ?_;grind
theorem Yok(m:Mch)(b:Bool)(hq:QOk (mQ m) b)(hm:MLen m):Zmv m=some (bif mchB b m then 0 else 8,()):=by
 have hf:=Zr;have h1:=hm.ops;have h2:=hm.chs;have h3:=hm.tl;have h4:=hm.ul;have hgr:=Yn5 (mG m);rw[Z1f];rw[show Zc6 (m.1,m.2.1,m.2.2.1,m.2.2.2.1,m.2.2.2.2.1,m.2.2.2.2.2.1,m.2.2.2.2.2.2.1,m.2.2.2.2.2.2.2.1,m.2.2.2.2.2.2.2.2.1,m.2.2.2.2.2.2.2.2.2.1,())=some (b,()) from hq.ref,show Zhj (m.2.2.2.2.2.2.2.2.2.2.1,m.2.2.2.2.2.2.2.2.2.2.2.1,())=some (gChk (mG m),()) from hgr];simp only[J0k,bne,J0g];unfold mchB;cases b with
 |false=>rfl|true =>
  cases hz:gChk (mG m)==0 with
  |false=>rfl|true =>
   obtain⟨g1,g2,g3⟩:=Ydz (by simpa using hz);have hr:=Ydv g3;have e1:((m.2.2.2.2.2.2.2.2.2.2.2.2.1.length:Int)==(m.2.2.2.2.2.2.2.2.2.2.1.length:Int))=((mT m).length==(mG m).1.length):=natE _ _;have e2:((m.2.2.2.2.2.2.2.2.2.2.2.2.2.1.length:Int)==(m.2.2.2.2.2.2.2.2.2.2.2.1.length:Int))=((mU m).length==(mG m).2.1.length):=natE _ _;rw[e1,e2];cases ht:(mT m).length==(mG m).1.length with
   |false=>rfl|true =>
    have ht:=beq_iff_eq.1 ht;cases hu:(mU m).length==(mG m).2.1.length with
    |false=>rfl|true =>
     have hu:=beq_iff_eq.1 hu;simp only[Bool.not_true,cond_false,Bool.true_and];have l2:=λn (hn:(mT m).length+1<=n)=>Yho (f:=λn k=>Zb6 n m.1 m.2.1 m.2.2.1 m.2.2.2.1 m.2.2.2.2.1 m.2.2.2.2.2.1 m.2.2.2.2.2.2.1 m.2.2.2.2.2.2.2.1 m.2.2.2.2.2.2.2.2.1 m.2.2.2.2.2.2.2.2.2.1 m.2.2.2.2.2.2.2.2.2.2.1 m.2.2.2.2.2.2.2.2.2.2.2.1 m.2.2.2.2.2.2.2.2.2.2.2.2.1 m.2.2.2.2.2.2.2.2.2.2.2.2.2.1 k) (l:=mT m)
      (p:=fitB m.2.2.2.1 m.2.2.2.2.2.2.2.2.2.1 (mG m)) (bad:=some (8,())) (fin:=some (0,())) (N:=0)
      (λn i t he=>by have hi:=(J0d.1 he).1;have:=Yoj m i t hr g2 he (by omega) (hm.t t (J0j he));have he' : m.2.2.2.2.2.2.2.2.2.2.2.2.1[i]? = some t:=he;grind[Zki,wS])
      (λn _=>by rw[Zki];show(bif decide (((m.2.2.2.2.2.2.2.2.2.2.2.2.1).length:Int)<Int.ofNat _)then _ else _)=_;grind) n (by omega)
     have l1:=Yho (f:=λn k=>Zdd n m.1 m.2.1 m.2.2.1 m.2.2.2.1 m.2.2.2.2.1 m.2.2.2.2.2.1 m.2.2.2.2.2.2.1 m.2.2.2.2.2.2.2.1 m.2.2.2.2.2.2.2.2.1 m.2.2.2.2.2.2.2.2.2.1 m.2.2.2.2.2.2.2.2.2.2.1 m.2.2.2.2.2.2.2.2.2.2.2.1 m.2.2.2.2.2.2.2.2.2.2.2.2.1 m.2.2.2.2.2.2.2.2.2.2.2.2.2.1 k) (l:=mU m)
      (p:=queI (mG m)) (bad:=some (8,())) (fin:=bif allI (fitB m.2.2.2.1 m.2.2.2.2.2.2.2.2.2.1 (mG m)) 0 (mT m)then some (0,())else some (8,())) (N:=(mT m).length+2)
      (λn i q he=>by have hi:=(J0d.1 he).1;obtain⟨c,hcc⟩:∃c,(mG m).2.1[i]? = some c:=⟨_,J0c (by omega)⟩;have hcc' : m.2.2.2.2.2.2.2.2.2.2.2.1[i]? = some c:=hcc;have he' : m.2.2.2.2.2.2.2.2.2.2.2.2.2.1[i]? = some q:=he;rw[Zmx];simp only[ltL he',cond_true,wS (show i<1000000000000 by omega),ix_s he',ix_s hcc',Ym8 q (by have:=hm.u q (J0j he);omega),J0k];grind[queI])
      (λn hn=>by obtain⟨z,rfl⟩:∃z,n=z+1:=⟨n-1,by omega⟩;rw[Zmx];show(bif decide (((m.2.2.2.2.2.2.2.2.2.2.2.2.2.1).length:Int)<Int.ofNat _)then _ else _)=_;grind[Zyq]) fuel (by omega)
     grind
end Tg
