import Derived.Test.YtmkkpgcecpnejaaGreatDoorEBW
import Derived.Test.YtmkkpgcecpnejaaGreatDoorENq1
import Derived.Test.YtmkkpgcecpnejaaGreatDoorEED1
import Derived.Test.YtmkkpgcecpnejaaGreatDoorEAL
/- Built machines. -/
set_option linter.unusedVariables false
set_option linter.unusedSimpArgs false
namespace Tg
open Go.Abs (Zc Zh tmm)
theorem Yfr {n:Nat}{a:Inp}(hn:n<=4)(ha:Zl2 a)(o:Op2):TLen (Zx n a o):=by
 have he:(a.getD o.2.1.toNat ([],())).1.length<=60:=by
  rw [List.getD_eq_getElem?_getD];cases h:a[o.2.1.toNat]? with
  | none=>simp
  | some x=>exact (Zui (ha x (J0j h))).1
 unfold Zx;cases (o.1==1)
 . cases (o.1==2)
   . cases (o.1==3)
     . cases (o.1==4)
       . cases (o.1==5)
         . cases (o.1==7) <;> constructor <;> simp
         . constructor <;> simp
       . constructor <;> simp;omega
     . constructor <;> simp
   . constructor <;> simp
 . constructor <;> simp only [cond_true,List.length_nil] <;> omega
end Tg

/- Weights: at least 1, not too great; those of marks are at most those of records. -/
namespace Tg
open Go
open Go.Abs (Zc Zh tmm)
theorem Zre {α:Type}{v:Nat->α->Int}{C:Int}:∀ {l:List α} {i:Nat},(∀ k e,l[k]? = some e->0<=v (i+k) e/\v (i+k) e<=C)->0<=sumI v i l/\sumI v i l<=C * (l.length:Int)
 | [],i,_=>by simp [sumI]
 | e::l,i,h=>by
  have h0:=h 0 e rfl;have ih:=Zre (v:=v) (C:=C) (l:=l) (i:=i+1) fun k e he=>by have:=h (k+1) e (by simpa using he);rwa [show i+(k+1)=i+1+k by omega] at this
  rw [Nat.add_zero] at h0;rw [sumI,J0p,Int.natCast_add,Int.mul_add,show C * ((1:Nat):Int)=C from Int.mul_one C];omega
def bB:Nat->Int
 | 0=>35
 | d+1=>3 * bB d+4
theorem Yi7:∀ d,d<=22->35<=bB d/\bB d<=1161099205531:=by decide
section
variable {x:Gr} {W:Int}
theorem Yi8 (hr:Tj.Zat x.1 x.2.1){k:Nat}{c:Cn}(hc:x.2.1[k]? = some c):∃ t:Nat,c.2.2.1=(t:Int)/\t<x.1.length:=by have:=hr.1 c (J0j hc);unfold Tj.okC at this;simp only [J0e,J0h] at this;exact⟨c.2.2.1.toNat,by omega,by omega⟩
theorem Yh5 (hr:Tj.Zat x.1 x.2.1){op:Int}{k:Nat}{y:Int×Unit}(hy:(joinL false x op)[k]? = some y):∃ t:Nat,toO x y.1.toNat=(t:Int)/\t<x.1.length:=by obtain⟨i,c,rfl,hc,_⟩:=Z8r hr (J0j hy);rw [J0l,Zg2 hc];exact Yi8 hr hc
theorem Yk6 (hr:Tj.Zat x.1 x.2.1){i:Nat}(hi:i<x.1.length):(joinL false x (i:Int)).length<=3:=by rw [Zpb hr];exact (Znw hr hi).2
def wtU (x:Gr)(W:Int)(mk:Bool)(d:Nat)(op:Int):Int:=bif kdO x op==6||kdO x op==7 then 1 else bif kdO x op==4||kdO x op==5 then (bif mk then 1 else 1+2 * W) else 1+sumI (fun _ (j:Int×Unit)=>1+wt x W mk d (toO x j.1.toNat)) 0 (joinL false x op)
theorem Yi9 (hr:Tj.Zat x.1 x.2.1)(hW:1<=W/\W<=17)(mk:Bool):∀ (d i:Nat),i<x.1.length->d<=22->(0<=wt x W mk d (i:Int)/\wt x W mk d (i:Int)<=bB d) /\ ∀ e,d=e+1->1<=wt x W mk d (i:Int)/\wt x W mk d (i:Int)=wtU x W mk e (i:Int)
 | 0,i,_,_=>⟨⟨Int.le_refl 0,show (0:Int)<=35 by decide⟩,fun e h=>by omega⟩
 | d+1,i,hi,hd=>by
  have hb:=Yi7 d (by omega);have hs:=Zre (v:=fun _ (j:Int×Unit)=>1+wt x W mk d (toO x j.1.toNat)) (C:=1+bB d) (l:=joinL false x (i:Int)) (i:=0) fun k y hy=>by obtain⟨t,ht,hlt⟩:=Yh5 hr hy;have:=(Yi9 hr hW mk d t hlt (by omega)).1;rw [ht];omega
  have h3:=Yk6 hr hi;have hm:(1+bB d) * ((joinL false x (i:Int)).length:Int)<=(1+bB d) * 3:=Int.mul_le_mul_of_nonneg_left (by omega) (by omega);have e:wt x W mk (d+1) (i:Int)=wtU x W mk d (i:Int):=by rw [wt,wtU,show Wr (1+Wr (2 * W))=1+2 * W by rw [show Wr (2 * W)=2 * W from w64 (by omega) (by omega)];exact w64 (by omega) (by omega)];rw [show Wr (1+sumI (fun _ (j:Int×Unit)=>1+wt x W mk d (toO x j.1.toNat)) 0 (joinL false x (i:Int)))=1+sumI (fun _ (j:Int×Unit)=>1+wt x W mk d (toO x j.1.toNat)) 0 (joinL false x (i:Int)) from w64 (by omega) (by omega)]
  have hu:1<=wtU x W mk d (i:Int)/\wtU x W mk d (i:Int)<=bB (d+1):=by
   unfold wtU;rw [bB];cases kdO x (i:Int)==6||kdO x (i:Int)==7 with
   | true=>simp only [cond_true];omega
   | false =>
    cases kdO x (i:Int)==4||kdO x (i:Int)==5 with
    | true=>cases mk <;> simp only [cond_true,cond_false] <;> omega
    | false=>simp only [cond_false];omega
  rw [e];refine⟨by omega,fun e' he=>?_⟩;obtain rfl:d=e' := by omega
  exact⟨hu.1,rfl⟩
theorem Yja {pos:Int->Nat}(hr:Tj.Zat x.1 x.2.1)(ht:Topo x pos)(hW:1<=W/\W<=17)(mk:Bool){i:Nat}(hi:i<x.1.length):1<=wv x W mk (i:Int)/\wv x W mk (i:Int)<=1161099205531:=by have h:=Yi9 hr hW mk 22 i hi (Nat.le_refl _);rw [wv,Z8s hr ht 30 22 (i:Int) (by omega) (by omega)];exact⟨(h.2 21 rfl).1,Int.le_trans h.1.2 (Yi7 22 (Nat.le_refl _)).2⟩
end
theorem Yh6 {w:Int×Int×Int×Unit}(h:fitW w=true):1<=winK w/\winK w<=17:=by
 unfold winK;by_cases hk:w.1=2
 . rw [if_pos hk];obtain⟨h1,h2,h3,h4,h5⟩:=Yiv h hk;have hc:=Yad (S:=w.2.1) h3;have hq:w.2.1 / w.2.2.1<=16:=Int.ediv_le_of_le_mul (by omega) h5;have hm:=Int.emod_add_mul_ediv w.2.1 w.2.2.1;unfold winN at hc ⊢;cases hd:decide (w.2.1 % w.2.2.1>0) with
   | true=>simp only [cond_true];have:0<=w.2.1 / w.2.2.1:=Int.ediv_nonneg (by omega) (by omega);omega
   | false =>
    rw [hd] at hc;simp only [cond_false] at hc ⊢;have h0:0<=w.2.1 / w.2.2.1:=Int.ediv_nonneg (by omega) (by omega);refine⟨?_,by omega⟩;rcases Int.lt_or_le (w.2.1 / w.2.2.1) 1 with hlt | hge
    . have:w.2.1 / w.2.2.1=0:=by omega
      rw [this] at hc;simp at hc;omega
    . exact hge
 . rw [if_neg hk];omega
end Tg

/- The bound that the program tells, as a sum. -/
namespace Tg
open Go
open Go.Abs (Zc Zh tmm)
theorem Zx6 {α β:Type}{f:Nat->Int->Int->Option β}{l:List α}{v:Nat->α->Int}{fin:Int->Option β}{C N:Nat}
    (hs:∀ (i:Nat) (e:α) (M:Nat) (R:Int->Option β),l[i]? = some e->(∀ n S,M<=n->f n (Wr S) ((i+1:Nat):Int)=R S) -> ∀ n S,M+C<=n->f n (Wr S) (i:Int)=R (S+v i e))
    (he:∀ n S,N<=n->f n (Wr S) (l.length:Int)=fin S) (n:Nat) (S:Int) (hn:N+C * l.length<=n):f n (Wr S) 0=fin (S+sumI v 0 l):=by
  have key:∀ (r:List α) (i:Nat),l.drop i=r->i<=l.length -> ∀ n S,N+C * r.length<=n->f n (Wr S) (i:Int)=fin (S+sumI v i r):=by
   intro r
   induction r with
   | nil =>
    intro i hd hi n S hn;have:i=l.length:=by have:=congrArg List.length hd;simp at this;omega
    subst this;rw [sumI,Int.add_zero];exact he n S (by simpa using hn)
   | cons e r ih =>
    intro i hd hi n S hn;obtain⟨h1,h2,h3⟩:=drop_at hd;have hm:C * (e::r).length=C * r.length+C:=by rw [J0p,Nat.mul_add,Nat.mul_one]
    have:=hs i e (N+C * r.length) (fun S=>fin (S+sumI v (i+1) r)) h2 (fun n' S' hn' => ih (i+1) h3 (by omega) n' S' hn') n S (by omega);rw [this,sumI,Int.add_assoc]
  exact key l 0 rfl (Nat.zero_le _) n S hn
section
variable (m:Mch)
def wA (k:Nat):Int:=wv (mG m) (mWn m) false (toO (mG m) k)
def wB (k:Nat):Int:=wv (mG m) (mWn m) true (toO (mG m) k)
def ofv (kind:Int)(k:Nat):Int:=bif kind==1 then wA m k else bif kind==2 then wB m k else 1
def evv (k:Nat)(x:Evt):Int:=2+bif x.1 then wB m k else wA m k
def vQ (k:Nat)(q:Que):Int:=sumI (fun _ (e:Msg)=>ofv m e.1 k) 0 q.2.1
def vP (k:Nat)(c:Cn)(t:Tsk):Int:=sumI (fun _ (s:Snd)=>bif s.1==c.2.1 then 1+ofv m s.2.1 k else 0) 0 t.2.2.2.1+sumI (fun _ x=>evv m k x) 0 t.2.2.2.2.2.2.1
def vC (k:Nat)(c:Cn):Int:=((mT m)[c.1.toNat]?).elim 0 (vP m k c)
def vS (_:Nat)(t:Tsk):Int:=2 * (t.2.2.2.2.2.1.length:Int)
end
variable {m:Mch}
theorem Z85 {k:Nat}(h:k<(mG m).2.1.length):(rowW m false)[k]? = some (wA m k,()):=Zcn h
theorem Z86 {k:Nat}(h:k<(mG m).2.1.length):(rowW m true)[k]? = some (wB m k,()):=Zcn h
theorem wr1R (S x:Int):Wr (Wr S+Wr (1+x))=Wr (S+(1+x)):=by rw [wrL,wrR]
theorem wr2R (S x:Int):Wr (Wr S+Wr (2+x))=Wr (S+(2+x)):=by rw [wrL,wrR]
theorem p16 {k:Nat}(hk:k<(mG m).2.1.length)(hk2:(mG m).2.1.length<=100)(q:Que)(hq:q.2.1.length<=100000){M:Nat}{R:Int->Option (Int×Int×Unit)}
    (hR:∀ n S,M<=n->Zan n (mG m).2.1 (mT m) (rowW m false) (rowW m true) (Wr S) (mU m) (Int.ofNat (mU m).length) ((k+1:Nat):Int)=R S) (n:Nat) (S:Int) (hn:M+100010<=n) :
    Xm n (mG m).2.1 (mT m) (rowW m false) (rowW m true) (Wr S) (k:Int) (mU m) (Int.ofNat (mU m).length) (k:Int) q.2.1 (Int.ofNat q.2.1.length) 0=R (S+vQ m k q) :=
  Zx6 (f:=fun n s i=>Xm n (mG m).2.1 (mT m) (rowW m false) (rowW m true) s (k:Int) (mU m) (Int.ofNat (mU m).length) (k:Int) q.2.1 (Int.ofNat q.2.1.length) i) (l:=q.2.1) (v:=fun _ e=>ofv m e.1 k) (fin:=R) (C:=1) (N:=M+1)
   (fun i e M R he hR n S hn=>by
    obtain⟨n,rfl⟩:∃ q,n=q+1:=⟨n - 1,by omega⟩;have hi:=(J0d.1 he).1;show _=R (S+ofv m e.1 k);rw [Zig,ltL he,cond_true,ix_s he,wS (show i<1000000000000 by omega),ofv];cases (e.1==1) with
    | true=>rw [cond_true,cond_true,ix_s (Z85 hk),<- hR n _ (by omega),<- wrL]
    | false =>
     rw [cond_false,cond_false];cases (e.1==2) with
     | true=>rw [cond_true,cond_true,ix_s (Z86 hk),<- hR n _ (by omega),<- wrL]
     | false=>rw [cond_false,cond_false,<- hR n _ (by omega),<- wrL])
   (fun n S hn=>by obtain⟨n,rfl⟩:∃ q,n=q+1:=⟨n - 1,by omega⟩;rw [Zig,geL,cond_false,wS (show k<1000000000000 by omega)];exact hR n S (by omega)) n S (by omega)
theorem p56 {k:Nat}(hk:k<(mG m).2.1.length)(hk2:(mG m).2.1.length<=100)(l:List Evt)(hl:l.length<=100000){M:Nat}{R:Int->Option (Int×Int×Unit)}
    (hR:∀ n S,M<=n->Xn n (mT m) (rowW m false) (rowW m true) (Wr S) (mG m).2.1 (Int.ofNat (mG m).2.1.length) ((k+1:Nat):Int)=R S) (n:Nat) (S:Int) (hn:M+200010<=n) :
    Xo n (mT m) (rowW m false) (rowW m true) (Wr S) (k:Int) (mG m).2.1 (Int.ofNat (mG m).2.1.length) (k:Int) l (Int.ofNat l.length) 0=R (S+sumI (fun _ x=>evv m k x) 0 l) :=
  Zx6 (f:=fun n s i=>Xo n (mT m) (rowW m false) (rowW m true) s (k:Int) (mG m).2.1 (Int.ofNat (mG m).2.1.length) (k:Int) l (Int.ofNat l.length) i) (l:=l) (v:=fun _ x=>evv m k x) (fin:=R) (C:=2) (N:=M+1)
   (fun i e M R he hR n S hn=>by
    obtain⟨n,rfl⟩:∃ q,n=q+1+1:=⟨n - 2,by omega⟩;have hi:=(J0d.1 he).1;show _=R (S+evv m k e);rw [Zij,ltL he,cond_true,ix_s he,evv];cases e.1 with
    | true=>rw [cond_true,cond_true,Zik,show ((2:Int)==1)=false from rfl,cond_false,show ((2:Int)==2)=true from rfl,cond_true,ix_s (Z86 hk),wS (show i<1000000000000 by omega),<- hR n _ (by omega),<- wr2R]
    | false=>rw [cond_false,cond_false,Zik,show ((1:Int)==1)=true from rfl,cond_true,ix_s (Z85 hk),wS (show i<1000000000000 by omega),<- hR n _ (by omega),<- wr2R])
   (fun n S hn=>by obtain⟨n,rfl⟩:∃ q,n=q+1:=⟨n - 1,by omega⟩;rw [Zij,geL,cond_false,wS (show k<1000000000000 by omega)];exact hR n S (by omega)) n S (by omega)
theorem p40 {k:Nat}(hk:k<(mG m).2.1.length)(hk2:(mG m).2.1.length<=100)(c:Cn)(t:Tsk)(ht:TLen t){M:Nat}{R:Int->Option (Int×Int×Unit)}
    (hR:∀ n S,M<=n->Xn n (mT m) (rowW m false) (rowW m true) (Wr S) (mG m).2.1 (Int.ofNat (mG m).2.1.length) ((k+1:Nat):Int)=R S) (n:Nat) (S:Int) (hn:M+400000<=n) :
    Yt n (mT m) (rowW m false) (rowW m true) (Wr S) (k:Int) c.2.1 t.2.2.2.2.2.2.1 (mG m).2.1 (Int.ofNat (mG m).2.1.length) (k:Int) t.2.2.2.1 (Int.ofNat t.2.2.2.1.length) 0=R (S+vP m k c t):=by
  have h1:=ht.h1;have h4:=ht.h4;have:=Zx6 (f:=fun n s i=>Yt n (mT m) (rowW m false) (rowW m true) s (k:Int) c.2.1 t.2.2.2.2.2.2.1 (mG m).2.1 (Int.ofNat (mG m).2.1.length) (k:Int) t.2.2.2.1 (Int.ofNat t.2.2.2.1.length) i) (l:=t.2.2.2.1)
   (v:=fun _ (s:Snd)=>bif s.1==c.2.1 then 1+ofv m s.2.1 k else 0) (fin:=fun S=>R (S+sumI (fun _ x=>evv m k x) 0 t.2.2.2.2.2.2.1)) (C:=1) (N:=M+200100)
   (fun i e M R he hR n S hn=>by
    obtain⟨n,rfl⟩:∃ q,n=q+1:=⟨n - 1,by omega⟩;have hi:=(J0d.1 he).1;show _=R (S+bif e.1==c.2.1 then 1+ofv m e.2.1 k else 0);rw [Zii,ltL he,cond_true,ix_s he,wS (show i<1000000000000 by omega)];cases (e.1==c.2.1) with
    | false=>rw [cond_false,cond_false,<- hR n _ (by omega),Int.add_zero]
    | true =>
     rw [cond_true,cond_true,ofv];cases (e.2.1==1) with
     | true=>rw [cond_true,cond_true,ix_s (Z85 hk),<- hR n _ (by omega),<- wr1R]
     | false =>
      rw [cond_false,cond_false];cases (e.2.1==2) with
      | true=>rw [cond_true,cond_true,ix_s (Z86 hk),<- hR n _ (by omega),<- wr1R]
      | false=>rw [cond_false,cond_false,<- hR n _ (by omega),<- wrL];rfl)
   (fun n S hn=>by obtain⟨n,rfl⟩:∃ q,n=q+1+1:=⟨n - 2,by omega⟩;rw [Zii,geL,cond_false,Zqt];exact p56 hk hk2 _ h4 hR n S (by omega)) n S (by omega)
  rw [this,vP,Int.add_assoc]
theorem Yk7 {r:List Int}(hv:Val m r)(hm:MLen m)(hc:Zc8 m=some (0,())):Zki m=some (Wr (0+sumI (vQ m) 0 (mU m)+sumI (vC m) 0 (mG m).2.1+sumI vS 0 (mT m)),0,()):=by
 have hf:=Zdf;have h1:=hv.ops;have h2:=hv.chs;have htl:=hm.tl;have hul:=hv.ul;have e75:∀ n S,200000<=n->Qh n (Wr S) (mT m) (Int.ofNat (mT m).length) 0=some (Wr (S+sumI vS 0 (mT m)),0,()):=fun n S hn =>
  Zx6 (f:=fun n s i=>Qh n s (mT m) (Int.ofNat (mT m).length) i) (l:=mT m) (v:=vS) (fin:=fun S=>some (Wr S,0,())) (C:=1) (N:=1)
   (fun i e M R he hR n S hn=>by obtain⟨n,rfl⟩:∃ q,n=q+1:=⟨n - 1,by omega⟩;have hi:=(J0d.1 he).1;rw [Zil,ltL he,cond_true,ix_s he,wS (show i<1000000000000 by omega),<- hR n _ (by omega)];show Qh n (Wr (Wr S+Wr (2 * Int.ofNat _))) _ _ _=_;rw [wrL,wrR];rfl)
   (fun n S hn=>by obtain⟨n,rfl⟩:∃ q,n=q+1:=⟨n - 1,by omega⟩;rw [Zil,geL];rfl) n S (by omega)
 have e32:∀ n S,100000000<=n->Xn n (mT m) (rowW m false) (rowW m true) (Wr S) (mG m).2.1 (Int.ofNat (mG m).2.1.length) 0=some (Wr (S+sumI (vC m) 0 (mG m).2.1+sumI vS 0 (mT m)),0,()):=fun n S hn =>
  Zx6 (f:=fun n s i=>Xn n (mT m) (rowW m false) (rowW m true) s (mG m).2.1 (Int.ofNat (mG m).2.1.length) i) (l:=(mG m).2.1) (v:=vC m) (fin:=fun S=>some (Wr (S+sumI vS 0 (mT m)),0,())) (C:=400010) (N:=200010)
   (fun k c M R hc hR n S hn=>by
    obtain⟨n,rfl⟩:∃ q,n=q+1:=⟨n - 1,by omega⟩;have hk:=(J0d.1 hc).1;have hok:=hv.ok.1 c (J0j hc);simp only [okC,Tj.okC,J0e,J0h] at hok;obtain⟨f,hf1⟩:∃ f:Nat,c.1=(f:Int):=⟨c.1.toNat,by omega⟩;obtain⟨t,ht⟩:∃ t,(mT m)[f]? = some t:=⟨_,J0c (by have:=hv.tl;omega)⟩;have hvc:vC m k c=vP m k c t:=by rw [vC,hf1,J0l,ht];rfl
    rw [Zih,ltL hc,cond_true,ix_s hc,hf1,ix_s ht,hvc];exact p40 hk h2 c t (hm.t t (J0j ht)) hR n S (by omega))
   (fun n S hn=>by obtain⟨n,rfl⟩:∃ q,n=q+1+1:=⟨n - 2,by omega⟩;rw [Zih,geL,cond_false,Zqs];exact e75 n S (by omega)) n S (by omega)
 have e10:=Zx6 (f:=fun n s i=>Zan n (mG m).2.1 (mT m) (rowW m false) (rowW m true) s (mU m) (Int.ofNat (mU m).length) i) (l:=mU m) (v:=vQ m) (fin:=fun S=>some (Wr (S+sumI (vC m) 0 (mG m).2.1+sumI vS 0 (mT m)),0,())) (C:=100020) (N:=100000010)
  (fun k q M R hq hR n S hn=>by obtain⟨n,rfl⟩:∃ q,n=q+1:=⟨n - 1,by omega⟩;have hk:=(J0d.1 hq).1;rw [Zif,ltL hq,cond_true,ix_s hq];exact p16 (by omega) h2 q (hm.u q (J0j hq)) hR n S (by omega))
  (fun n S hn=>by obtain⟨n,rfl⟩:∃ q,n=q+1+1:=⟨n - 2,by omega⟩;rw [Zif,geL,cond_false,Zt5];exact e32 n S (by omega)) fuel 0 (by omega)
 rw [wr0] at e10;rw [Zvt,Z3l hv hc,J0k,bne_self_eq_false,cond_false];exact e10
end Tg

/- A machine that is built of a right question is right: the cases, by the kernel. -/
namespace Tg
open Go
open Go.Abs (Zc Zh tmm)
def bits:List Bool:=[false,true]
def inp0 (n:Nat):Inp:=List.replicate n ([],())
def Yfs (ops:List Op)(chs:List Cn):Bool:=decide (ops.length<=20)&&(decide (chs.length<=100)&&(chs.all (okC ops.length)&&(chs.all (fun c=>decide (c.1<c.2.2.1))&&(v2 chs [] chs&&allI (fun i o=>(decide (0<=o.2.1)&&decide (o.2.1<=3))&&Zjk o.1 (cnt true (i:Int) chs) (cnt false (i:Int) chs)) 0 ops))))
def oneG (n P:Nat)(key join side:Bool)(r:Int):Bool:=Yfs (opsG n P key join side) (chG n P key side r)&&(allI (queI (opsG n P key join side,chG n P key side r,())) 0 ((chG n P key side r).map qOf)&&allI (fitB join (bif side then 2 else 1) (opsG n P key join side,chG n P key side r,())) 0 ((opsG n P key join side).map (Zx n (inp0 n))))
def Z6o (n P:Nat)(key join side:Bool):Bool:=[1,2,3,4,5,6,7,8].all fun r=>oneG n P key join side r
def Z0p (n P:Nat)(key join:Bool):Bool:=bits.all fun side=>Z6o n P key join side
def Zum (n:Nat)(join:Bool):Bool:=Z0p n 1 false join
def Zkr (n:Nat)(join:Bool):Bool:=[1,2,3].all fun P=>Z0p n P true join
set_option maxRecDepth 100000 in
theorem g1:Zum 1 false=true/\Zkr 1 false=true:=⟨by kernel_rfl,by kernel_rfl⟩
set_option maxRecDepth 100000 in
theorem g2:Zum 2 false=true/\Zkr 2 false=true:=⟨by kernel_rfl,by kernel_rfl⟩
set_option maxRecDepth 100000 in
theorem g2j:Zum 2 true=true/\Zkr 2 true=true:=⟨by kernel_rfl,by kernel_rfl⟩
set_option maxRecDepth 100000 in
theorem g3:Zum 3 false=true/\Zkr 3 false=true:=⟨by kernel_rfl,by kernel_rfl⟩
set_option maxRecDepth 100000 in
theorem g4:Zum 4 false=true/\Zkr 4 false=true:=⟨by kernel_rfl,by kernel_rfl⟩
end Tg

/- A machine that is built of a right question is right. -/
namespace Tg
open Go
open Go.Abs (Zc Zh tmm)
theorem Yak {l:IL}(h:srcE l true=0):l.length=2:=by
 unfold srcE at h;split at h
 . cases h
 . split at h
   . cases h
   . split at h
     . cases h
     . rename_i h2;simpa using h2
theorem Yn5 {n P:Nat}(hn:1<=n/\n<=4)(hP:1<=P/\P<=3){key join:Bool}(side:Bool)(hk:key=false->P=1)(hj:join=true->n=2){r:Int}(hr:1<=r/\r<=8):oneG n P key join side r=true:=by
 have rm:Z6o n P key join side=true->oneG n P key join side r=true:=fun h=>by unfold Z6o at h;rw [List.all_eq_true] at h;refine h r ?_;simp only [List.mem_cons,List.not_mem_nil,or_false];omega
 have sd:Z0p n P key join=true->oneG n P key join side r=true:=fun h=>by unfold Z0p at h;rw [List.all_eq_true] at h;exact rm (h side (by cases side <;> decide))
 have tk:Zkr n join=true->key=true->oneG n P key join side r=true:=fun h e=>by subst e;unfold Zkr at h;rw [List.all_eq_true] at h;refine sd (h P ?_);simp only [List.mem_cons,List.not_mem_nil,or_false];omega
 have nk:Zum n join=true->key=false->oneG n P key join side r=true:=fun h e=>by obtain rfl:=hk e;subst e;exact sd h
 have both:Zum n join=true/\Zkr n join=true->oneG n P key join side r=true:=fun h=>by
  cases key with
  | false=>exact nk h.1 rfl
  | true=>exact tk h.2 rfl
 cases join with
 | true=>obtain rfl:=hj rfl;exact both g2j
 | false =>
  obtain rfl | rfl | rfl | rfl:n=1∨n=2∨n=3∨n=4:=by omega
  . exact both g1
  . exact both g2
  . exact both g3
  . exact both g4
theorem Yft {chs:List Cn}(h:∀ c∈chs,c.1<c.2.2.1){x y:Int}(hp:Pth (chs.map Tj.tch) x y):x<y:=by
 have hc:∀ c∈chs.map Tj.tch,c.1<c.2.2.1:=fun c hc=>by obtain⟨d,hd,rfl⟩:=List.mem_map.1 hc;exact h d hd
 induction hp with
 | one c h=>exact hc c h
 | step a c p h ih=>exact Int.lt_trans ih (hc c h)
theorem Yk8 {ops:List Op}{chs:List Cn}(h:Yfs ops chs=true):gChk (ops,chs,())=0:=by
 unfold Yfs at h;simp only [J0e,J0h,List.all_eq_true] at h;obtain⟨h1,h2,h3,h4,h5,h6⟩:=h;obtain⟨v1,_,v3⟩:=(Tj.Z51 chs chs []).1 h5;have hr:Tj.Zat ops chs:=⟨h3,⟨v3,v1⟩,fun i o ho=>by have:=Zlb h6 ho;rw [Nat.zero_add] at this;simp only [J0e] at this ⊢;exact this⟩;have hg:gOkB (ops,chs,())=true:=(Tj.Znr ops chs).1 (by
  have:=(Tj.Zzq ops chs).1 hr;exact⟨this.1,this.2,fun x _ _ hp=>by have:=Yft h4 hp;omega⟩)
 unfold gChk;rw [hg,show decide (20<ops.length)=false from decide_eq_false (by omega),show decide (100<chs.length)=false from decide_eq_false (by omega)];rfl
theorem Zun {α β:Type}{p p' : Nat->β->Bool}{f g:α->β}:∀ {l:List α} {i:Nat},(∀ k e,l[k]? = some e->p (i+k) (f e)=p' (i+k) (g e))->allI p i (l.map f)=allI p' i (l.map g)
 | [],_,_=>rfl
 | a::l,i,h=>by
  have h0:=h 0 a rfl;rw [Nat.add_zero] at h0;have ih:=Zun (p:=p) (p' := p') (f:=f) (g:=g) (l:=l) (i:=i+1) fun k e he=>by have:=h (k+1) e (by simpa using he);rwa [show i+(k+1)=i+1+k by omega] at this
  rw [List.map_cons,List.map_cons,allI,allI,h0,ih]
theorem Yfu (n:Nat)(k:Nat):((inp0 n).getD k ([],())).1=[]:=by unfold inp0;rw [List.getD_eq_getElem?_getD,List.getElem?_replicate];split <;> rfl
theorem Yk9 {n:Nat}{inp:Inp}(hi:Zl2 inp)(o:Op2):(Zx n inp o).1=(Zx n (inp0 n) o).1/\(Zx n inp o).2.1=(Zx n (inp0 n) o).2.1/\(Zx n inp o).2.2.2.1=(Zx n (inp0 n) o).2.2.2.1/\(Zx n inp o).2.2.2.2.1=(Zx n (inp0 n) o).2.2.2.2.1/\Zp5 (Zx n inp o)=Zp5 (Zx n (inp0 n) o):=by
 unfold Zx;cases h:(o.1==1) with
 | false=>exact⟨rfl,rfl,rfl,rfl,rfl⟩
 | true =>
  refine⟨rfl,rfl,rfl,rfl,?_⟩;have he:(inp.getD o.2.1.toNat ([],())).1.length<=60/\(inp.getD o.2.1.toNat ([],())).1.all evtB=true:=by
   rw [List.getD_eq_getElem?_getD];cases hx:inp[o.2.1.toNat]? with
   | none=>exact⟨by simp,rfl⟩
   | some x=>obtain⟨a,b⟩:=Zui (hi x (J0j hx));rw [show evOk=evtB from funext Z8z] at b;exact⟨a,b⟩
  rw [cond_true,cond_true,Yfu];unfold Zp5 Z72;simp only [he.2,he.1,beq_self_eq_true,cond_true,List.all_nil,List.length_nil,decide_true,Nat.zero_le]
theorem Yn6 {n:Nat}{inp:Inp}(hi:Zl2 inp)(j:Bool)(late:Int)(x:Gr)(i:Nat)(o:Op2):fitB j late x i (Zx n inp o)=fitB j (bif late==2 then 2 else 1) x i (Zx n (inp0 n) o):=by
 obtain⟨h1,h2,h3,h4,h5⟩:=Yk9 (n:=n) hi o;unfold fitB;rw [h1,h2,h3,h4,h5];cases hl:(late==2) with
 | true =>
  obtain rfl:late=2:=by simpa using hl
  rfl
 | false=>rfl
theorem Z0q {q:Qr}{inp:Inp}{p r:Int}(h:askE q inp p r=0):mchB ((chkQ q).2.1==0) (mOf q inp p r)=true:=by obtain⟨e1,e2,e3,_,⟨p1,p2,r1,r2⟩,n1,n2⟩:=Z3w h;have hP:=Zh6 q ⟨p1,p2⟩;have hs:=Zld (Z3v e1);have hg:=Yn5 ⟨n1,n2⟩ hP (key:=q.2.2.2.2.2.2.2.2.1) (join:=q.2.2.2.1) (q.2.2.2.2.2.2.2.2.2.1==2) (fun hk=>by unfold partsOf;rw [hk];rfl) (fun hj=>by rw [hj] at hs;rw [e2];exact Yak hs) ⟨r1,r2⟩;unfold oneG at hg;simp only [J0e] at hg;obtain⟨g1,g2,g3⟩:=hg;unfold mchB;rw [e1,beq_self_eq_true,Bool.true_and];rw [show gChk (mG (mOf q inp p r))=0 from Yk8 g1,beq_self_eq_true,Bool.true_and];rw [show ((mT (mOf q inp p r)).length==(mG (mOf q inp p r)).1.length)=true by rw [beq_iff_eq];exact List.length_map _,Bool.true_and];rw [show ((mU (mOf q inp p r)).length==(mG (mOf q inp p r)).2.1.length)=true by rw [beq_iff_eq];exact List.length_map _,Bool.true_and];rw [show allI (queI (mG (mOf q inp p r))) 0 (mU (mOf q inp p r))=true from g2,Bool.true_and];refine Eq.trans ?_ g3;exact Zun fun k o _=>Yn6 e3 _ _ _ _ o
end Tg

/- The bound of a built machine: what the events of its sources weigh. -/
namespace Tg
open Go
open Go.Abs (Zc Zh tmm)
def srcB (n:Nat)(ops:List Op)(chs:List Cn):Bool:=allI (fun k o=>bif Nat.blt k n then o.1==1&&o.2.1==(k:Int) else !(o.1==1)) 0 ops&&(allI (fun k c=>bif Nat.blt k n then c.1==(k:Int) else decide ((n:Int)<=c.1)) 0 chs&&Nat.ble n chs.length)
set_option maxRecDepth 100000 in
theorem Yn7 {n P:Nat}(hn:1<=n/\n<=4)(hP:1<=P/\P<=3)(key join side:Bool)(r:Int):srcB n (opsG n P key join side) (chG n P key side r)=true:=by
 obtain rfl | rfl | rfl | rfl:n=1∨n=2∨n=3∨n=4:=by omega
 all_goals
  obtain rfl | rfl | rfl:P=1∨P=2∨P=3:=by omega
 all_goals
  cases key <;> cases join <;> cases side <;> kernel_rfl
theorem Z87 {f:Nat->Int}{n:Nat}:∀ {N:Nat},n<=N->(∀ k,n<=k->k<N->f k=0)->sR N f=sR n f
 | 0,h,_=>by
  obtain rfl:n=0:=by omega
  rfl
 | N+1,h,hz=>by
  by_cases e:n=N+1
  . rw [e]
  . rw [sR,hz N (by omega) (by omega),Z87 (N:=N) (by omega) fun k h1 h2=>hz k h1 (by omega)];omega
def evW (m:Mch)(k:Nat)(l:List Evt):Int:=sumI (fun _ x=>evv m k x) 0 l
theorem Zh8 {α:Type}(G:α->Int):∀ (l:List α) (i:Nat),sumI (fun _ e=>G e) i l=sumI (fun _ e=>G e) 0 l
 | [],_=>rfl
 | a::l,i=>by rw [sumI,sumI,Zh8 G l (i+1),Zh8 G l 1]
theorem Z32 (m:Mch)(k:Nat)(x:Evt):∀ l:List Evt,evW m k (l++[x])=evW m k l+evv m k x
 | []=>by simp [evW,sumI]
 | a::l=>by have:=Z32 m k x l;unfold evW at this ⊢;rw [List.cons_append,sumI,sumI,Zh8 _ (l++[x]) 1,Zh8 _ l 1,this];omega
theorem Z33 {α:Type}{v:Nat->α->Int}{e' : α}:∀ {l:List α} {i k:Nat} {e:α},l[k]? = some e->sumI v i (l.set k e')=sumI v i l - v (i+k) e+v (i+k) e'
 | [],_,_,_,h=>by simp at h
 | a::l,i,0,e,h=>by obtain rfl:=J0a h;rw [List.set_cons_zero,sumI,sumI];simp only [Nat.add_zero];omega
 | a::l,i,k+1,e,h=>by have:=Z33 (v:=v) (e' := e') (l:=l) (i:=i+1) (k:=k) (e:=e) (by simpa using h);rw [List.set_cons_succ,sumI,sumI,this,show i+1+k=i+(k+1) by omega];omega
section
variable {q:Qr} {inp:Inp} {p r:Int}
theorem Z34 (h:askE q inp p r=0):MLen (mOf q inp p r):=by
 obtain⟨e1,e2,e3,_,⟨p1,p2,r1,r2⟩,n1,n2⟩:=Z3w h;have hP:=Zh6 q ⟨p1,p2⟩;have o1:=(Z82 inp.length (partsOf q p) ⟨n1,n2⟩ hP q.2.2.2.2.2.2.2.2.1 q.2.2.2.1 (q.2.2.2.2.2.2.2.2.2.1==2)).1;have c1:=(Yfg inp.length (partsOf q p) ⟨n1,n2⟩ hP q.2.2.2.2.2.2.2.2.1 (q.2.2.2.2.2.2.2.2.2.1==2) r).1;have a1:(mG (mOf q inp p r)).1.length<=20:=o1;have a2:(mG (mOf q inp p r)).2.1.length<=100:=c1;have a3:(mT (mOf q inp p r)).length=(mG (mOf q inp p r)).1.length:=List.length_map _;have a4:(mU (mOf q inp p r)).length=(mG (mOf q inp p r)).2.1.length:=List.length_map _;refine⟨fun t ht=>?_,fun u hu=>?_,by omega,by omega,by omega,by omega⟩
 . obtain⟨o,_,rfl⟩:=List.mem_map.1 (show t∈(opsG inp.length (partsOf q p) q.2.2.2.2.2.2.2.2.1 q.2.2.2.1 (q.2.2.2.2.2.2.2.2.2.1==2)).map (Zx inp.length inp) from ht);exact Yfr n2 e3 o
 . obtain⟨c,_,rfl⟩:=List.mem_map.1 (show u∈(chG inp.length (partsOf q p) q.2.2.2.2.2.2.2.2.1 (q.2.2.2.2.2.2.2.2.2.1==2) r).map qOf from hu);exact Nat.zero_le _
theorem Z88 (n:Nat)(inp:Inp)(o:Op2):(Zx n inp o).2.2.2.2.2.1=[]/\(Zx n inp o).2.2.2.1=[]:=by unfold Zx;cases (o.1==1) <;> cases (o.1==2) <;> cases (o.1==3) <;> cases (o.1==4) <;> cases (o.1==5) <;> cases (o.1==7) <;> exact⟨rfl,rfl⟩
theorem Yla (h:askE q inp p r=0):sumI (vC (mOf q inp p r)) 0 (mG (mOf q inp p r)).2.1=sumI (fun k l=>evW (mOf q inp p r) k l.1) 0 inp:=by
 obtain⟨e1,e2,e3,_,⟨p1,p2,r1,r2⟩,n1,n2⟩:=Z3w h;have hP:=Zh6 q ⟨p1,p2⟩;have hs:=Yn7 ⟨n1,n2⟩ hP q.2.2.2.2.2.2.2.2.1 q.2.2.2.1 (q.2.2.2.2.2.2.2.2.2.1==2) r;have hmG:mG (mOf q inp p r)=(opsG inp.length (partsOf q p) q.2.2.2.2.2.2.2.2.1 q.2.2.2.1 (q.2.2.2.2.2.2.2.2.2.1==2),chG inp.length (partsOf q p) q.2.2.2.2.2.2.2.2.1 (q.2.2.2.2.2.2.2.2.2.1==2) r,()):=rfl;unfold srcB at hs;simp only [J0e] at hs;obtain⟨s1,s2,s3⟩:=hs;have hr:=(Yae (Z0q h)).2.1;have hle:inp.length<=(mG (mOf q inp p r)).2.1.length:=Nat.le_of_ble_eq_true s3;have ch:∀ k c,(mG (mOf q inp p r)).2.1[k]? = some c->(bif Nat.blt k inp.length then c.1==(k:Int) else decide ((inp.length:Int)<=c.1))=true:=fun k c hc=>by have:=Zlb s2 hc;rwa [Nat.zero_add] at this
 have op:∀ k o,(mG (mOf q inp p r)).1[k]? = some o->(bif Nat.blt k inp.length then o.1==1&&o.2.1==(k:Int) else !(o.1==1))=true:=fun k o ho=>by have:=Zlb s1 ho;rwa [Nat.zero_add] at this
 have at_:∀ k c,(mG (mOf q inp p r)).2.1[k]? = some c -> ∃ (i:Nat) (o:Op),c.1=(i:Int)/\(mG (mOf q inp p r)).1[i]? = some o/\vC (mOf q inp p r) k c=evW (mOf q inp p r) k (Zx inp.length inp o).2.2.2.2.2.2.1:=fun k c hc=>by
  have hok:=hr.1 c (J0j hc);unfold Tj.okC at hok;simp only [J0e,J0h] at hok;obtain⟨i,hi⟩:∃ i:Nat,c.1=(i:Int):=⟨c.1.toNat,by omega⟩;obtain⟨o,ho⟩:∃ o,(mG (mOf q inp p r)).1[i]? = some o:=⟨_,J0c (by omega)⟩;refine⟨i,o,hi,ho,?_⟩;have ht:(mT (mOf q inp p r))[i]? = some (Zx inp.length inp o):=by show ((mG (mOf q inp p r)).1.map (Zx inp.length inp))[i]? = _;rw [J0m,ho];rfl
  unfold vC;rw [hi,J0l,ht];show vP _ k c _=_;unfold vP;rw [(Z88 _ _ _).2];show 0+_=_;rw [Int.zero_add];rfl
 rw [Zzy,Zzy,Z87 (n:=inp.length) hle fun k h1 h2=>?_]
 . refine Zn6 fun k hk=>?_;obtain⟨c,hc⟩:∃ c,(mG (mOf q inp p r)).2.1[k]? = some c:=⟨_,J0c (by omega)⟩;obtain⟨l,hl⟩:∃ l,inp[k]? = some l:=⟨_,J0c hk⟩;have b:Nat.blt k inp.length=true:=by simpa using hk
   have h1:=ch k c hc;rw [b,cond_true,beq_iff_eq] at h1;obtain⟨i,o,hi,ho,hv⟩:=at_ k c hc;obtain rfl:i=k:=by omega
   have h2:=op i o ho;rw [b,cond_true,J0e,beq_iff_eq,beq_iff_eq] at h2;rw [hc,hl];show vC _ (0+i) c=evW _ (0+i) l.1;rw [Nat.zero_add,hv];have:(Zx inp.length inp o).2.2.2.2.2.2.1=l.1:=by unfold Zx;rw [show (o.1==1)=true by rw [h2.1];rfl,cond_true];show (inp.getD o.2.1.toNat ([],())).1=l.1;rw [h2.2,J0l,List.getD_eq_getElem?_getD,hl];rfl
   rw [this]
 . obtain⟨c,hc⟩:∃ c,(mG (mOf q inp p r)).2.1[k]? = some c:=⟨_,J0c h2⟩;have b:Nat.blt k inp.length=false:=by
    rw [Bool.eq_false_iff];intro e;have:k<inp.length:=by simpa using e
    omega
   have h3:=ch k c hc;rw [b,cond_false,J0h] at h3;obtain⟨i,o,hi,ho,hv⟩:=at_ k c hc;have b2:Nat.blt i inp.length=false:=by
    rw [Bool.eq_false_iff];intro e;have:i<inp.length:=by simpa using e
    omega
   have h4:=op i o ho;rw [b2,cond_false] at h4;rw [hc];show vC _ (0+k) c=0;rw [Nat.zero_add,hv];have:(Zx inp.length inp o).2.2.2.2.2.2.1=[]:=by unfold Zx;rw [show (o.1==1)=false by simpa using h4,cond_false];cases (o.1==2) <;> cases (o.1==3) <;> cases (o.1==4) <;> cases (o.1==5) <;> cases (o.1==7) <;> rfl
   rw [this];rfl
end
end Tg

/- The bound of a built machine, and what an event more adds to it. -/
namespace Tg
open Go
open Go.Abs (Zc Zh tmm)
theorem Z6p {α:Type}{v:Nat->α->Int}:∀ {l:List α} {i:Nat},(∀ k e,l[k]? = some e->v (i+k) e=0)->sumI v i l=0
 | [],_,_=>rfl
 | a::l,i,h=>by have h0:=h 0 a rfl;rw [Nat.add_zero] at h0;rw [sumI,h0,Z6p (l:=l) (i:=i+1) fun k e he=>by have:=h (k+1) e (by simpa using he);rwa [show i+(k+1)=i+1+k by omega] at this];rfl
section
variable {m:Mch} {r:List Int}
theorem w_bd (hv:Val m r){k:Nat}(hk:k<(mG m).2.1.length):(1<=wA m k/\wA m k<=1161099205531)/\1<=wB m k/\wB m k<=1161099205531:=by have ht:=Z8u hv.ord hv.ok hv.ops;have hW:1<=mWn m/\mWn m<=17:=Yh6 hv.fit;obtain⟨t,h1,h3⟩:=Yi8 hv.ok (J0c hk);unfold wA wB;rw [Zg2 (J0c hk),h1];exact⟨Yja hv.ok ht hW false h3,Yja hv.ok ht hW true h3⟩
theorem Yn8 (hv:Val m r){k:Nat}(hk:k<(mG m).2.1.length)(x:Evt):3<=evv m k x/\evv m k x<=1161099205533:=by have:=w_bd hv hk;unfold evv;cases x.1 <;> simp only [cond_true,cond_false] <;> omega
end
section
variable {q:Qr} {inp:Inp} {p r:Int}
theorem Zob (h:askE q inp p r=0):∃ R,Val (mOf q inp p r) R:=Yku (Z0q h)
theorem Zuo (h:askE q inp p r=0):Zc8 (mOf q inp p r)=some (0,()):=by have hq:QOk (mQ (mOf q inp p r)) ((chkQ q).2.1==0):=⟨⟨(chkQ q).1,(chkQ q).2.1,Zlc q,rfl⟩⟩;have hc:=Yhn (mOf q inp p r) _ hq (Z34 h);rw [Z0q h,cond_true] at hc;exact hc
theorem Zup (h:askE q inp p r=0):inp.length<=(mG (mOf q inp p r)).2.1.length:=by show inp.length<=(chG inp.length (partsOf q p) q.2.2.2.2.2.2.2.2.1 (q.2.2.2.2.2.2.2.2.2.1==2) r).length;unfold chG;simp only [J0s,List.length_map,List.length_range];omega
theorem Ylb (h:askE q inp p r=0){k:Nat}(hk:k<inp.length){l:List Evt}(hl:l.length<=60):0<=evW (mOf q inp p r) k l/\evW (mOf q inp p r) k l<=69665952331980:=by
 obtain⟨R,hv⟩:=Zob h;have hc:=Zup h;have:=Zre (v:=fun _ x=>evv (mOf q inp p r) k x) (C:=1161099205533) (l:=l) (i:=0) fun j e he=>by have:=Yn8 hv (k:=k) (by omega) e;omega
 unfold evW;refine⟨this.1,Int.le_trans this.2 ?_⟩;have:(l.length:Int)<=60:=by omega
 omega
def bd (q:Qr)(inp:Inp)(p r:Int):Int:=sumI (fun k l=>evW (mOf q inp p r) k l.1) 0 inp
theorem Yfv (h:askE q inp p r=0):0<=bd q inp p r/\bd q inp p r<=278663809327920:=by
 obtain⟨e1,e2,e3,_,_,n1,n2⟩:=Z3w h;have:=Zre (v:=fun k (l:List Evt×Unit)=>evW (mOf q inp p r) k l.1) (C:=69665952331980) (l:=inp) (i:=0) fun j e he=>by have hj:=(J0d.1 he).1;have:=(Zui (e3 e (J0j he))).1;rw [Nat.zero_add];exact Ylb h hj this
 unfold bd;refine⟨this.1,Int.le_trans this.2 ?_⟩;have:(inp.length:Int)<=4:=by omega
 omega
theorem Zuq (h:askE q inp p r=0):Zki (mOf q inp p r)=some (bd q inp p r,0,()):=by
 obtain⟨R,hv⟩:=Zob h;have hs:=Yk7 hv (Z34 h) (Zuo h);have z1:sumI (vQ (mOf q inp p r)) 0 (mU (mOf q inp p r))=0:=Z6p fun k u hu=>by obtain⟨c,_,rfl⟩:=List.mem_map.1 (show u∈(chG inp.length (partsOf q p) q.2.2.2.2.2.2.2.2.1 (q.2.2.2.2.2.2.2.2.2.1==2) r).map qOf from J0j hu);rfl
 have z2:sumI vS 0 (mT (mOf q inp p r))=0:=Z6p fun k t ht=>by obtain⟨o,_,rfl⟩:=List.mem_map.1 (show t∈(opsG inp.length (partsOf q p) q.2.2.2.2.2.2.2.2.1 q.2.2.2.1 (q.2.2.2.2.2.2.2.2.2.1==2)).map (Zx inp.length inp) from J0j ht);unfold vS;rw [(Z88 _ _ _).1];rfl
 rw [z1,z2,Yla h] at hs;rw [hs];have:=Yfv h;unfold bd at this ⊢;rw [show (0:Int)+0+sumI (fun k l=>evW (mOf q inp p r) k l.1) 0 inp+0=sumI (fun k l=>evW (mOf q inp p r) k l.1) 0 inp by omega,show Wr (sumI (fun k l=>evW (mOf q inp p r) k l.1) 0 inp)=sumI (fun k l=>evW (mOf q inp p r) k l.1) 0 inp from w64 (by omega) (by omega)]
theorem Z0r (h:askE q inp p r=0):Zdm (mOf q inp p r)=some (rowW (mOf q inp p r) false,rowW (mOf q inp p r) true,0,()):=by obtain⟨R,hv⟩:=Zob h;exact Z3l hv (Zuo h)
theorem Yh7 {inp' : Inp}(hl:inp'.length=inp.length):mG (mOf q inp' p r)=mG (mOf q inp p r):=by show (opsG inp'.length _ _ _ _,chG inp'.length _ _ _ _,())=(opsG inp.length _ _ _ _,chG inp.length _ _ _ _,());rw [hl]
theorem Yh8 {k:Nat}{l:List Evt×Unit}(hk:inp[k]? = some l)(x:Evt):bd q (inp.set k (l.1++[x],())) p r=bd q inp p r+evv (mOf q inp p r) k x:=by
 have hg:mG (mOf q (inp.set k (l.1++[x],())) p r)=mG (mOf q inp p r):=Yh7 List.length_set;have he:∀ (j:Nat) (y:Evt),evv (mOf q (inp.set k (l.1++[x],())) p r) j y=evv (mOf q inp p r) j y:=fun j y=>by unfold evv wA wB;rw [hg];rfl
 have h1:bd q (inp.set k (l.1++[x],())) p r=sumI (fun k' l' => evW (mOf q inp p r) k' l'.1) 0 (inp.set k (l.1++[x],())):=by unfold bd;congr 1;funext k' l';unfold evW;congr 1;funext _ y;exact he k' y
 have h2:=Z33 (v:=fun k' l' => evW (mOf q inp p r) k' l'.1) (i:=0) (e' := (l.1++[x],())) hk;rw [h1,h2];show bd q inp p r - evW (mOf q inp p r) (0+k) l.1+evW (mOf q inp p r) (0+k) (l.1++[x])=_;rw [Nat.zero_add,Z32];omega
end
end Tg

/- The law BoundEvents from its walk: what the calls come to. -/
set_option maxRecDepth 100000
namespace Tg
open Go Go.Abs Go.RowKit Go.Proofs
theorem Z35 {w' : World}{O:Nat->Prop}{B:Nat}{e:TypeId}{size n:Nat}{v:Value}{xs:List Value}(es:List (List PV))(hown:w'.ownsRow B e size v n xs)(hO:∀ g,O g->g<B)(hn:n=es.length)(hsz:∀ x∈es,x.length=size)
    (hrel:∀ (i:Nat) (e:List PV),es[i]? = some e -> ∀ (j:Nat) (x:PV),e[j]? = some x -> ∃ c,xs[i * size+j]? = some c/\PRel w' O x c):PRel w' O (.sl es) v:=by
  rcases hown.2 with ⟨rfl,h0⟩ | ⟨g,cap,cur,rfl,hg,hgh,hn1,hcm,hcs,htk⟩
  . have:es=[]:=List.length_eq_zero_iff.1 (by omega);subst this;exact .nil none 0
  . have hcell:∀ (t:Nat) (c:Value),t<n * size->xs[t]? = some c->w'.cell? ⟨g,t,none⟩=some c:=fun t c hlt hc=>by
     have h3:(cur.toList.take (n * size))[t]? = some c:=by rw [htk];exact hc
     rw [List.getElem?_take_of_lt hlt] at h3;simp only [World.cell?,hgh];rw [<- Array.getElem?_toList];simpa using h3
    refine .sl _ ⟨g,0,none⟩ _ cap size (fun k j=>(xs[k * size+j]?).getD undef) (fun h=>by have:=hO _ h;simp only at this;omega) (Array.getElem?_eq_some_iff.1 hgh).1 hn hn1 (fun i e he=>?_) (fun i e he j x hx=>?_) (fun i e he j x hx=>?_)
    . exact hsz e (J0j he)
    . obtain⟨c,hc,_⟩:=hrel i e he j x hx;have hi:=(J0d.1 he).1;have hj:=(J0d.1 hx).1;rw [hsz e (J0j he)] at hj;have hlt:i * size+j<n * size:=by have:(i+1) * size<=n * size:=Nat.mul_le_mul_right _ (by omega);rw [Nat.add_mul] at this;omega
      have:=hcell _ _ hlt hc;rw [hc,show (⟨g,0,none⟩:Addr).add (i * size+j)=⟨g,i * size+j,none⟩ by unfold Addr.add;split;(rename_i h;rw [h]);simp];exact this
    . obtain⟨c,hc,hp⟩:=hrel i e he j x hx;rw [hc];exact hp
def evE (e:Evt):List PV:=[.bool e.1,.int .i64 e.2.1,.int .i64 e.2.2.1,.int .i64 e.2.2.2.1,.int .i64 e.2.2.2.2.1]
def VRel (l:List Evt)(cs:List Value):Prop:=cs.length=l.length * 5 /\ ∀ (k:Nat) (e:Evt) (j:Nat) (p:PV),l[k]? = some e->(evE e)[j]? = some p -> ∃ c,cs[k * 5+j]? = some c /\ ∀ w O,PRel w O p c
theorem Yfw {e:Evt}{j:Nat}{p:PV}(h:(evE e)[j]? = some p){w:World}{O:Nat->Prop}{c:Value}(hc:PRel w O p c):∀ w O,PRel w O p c:=by
 match j,h with
 | 0,h=>cases h;cases hc;exact fun _ _=>.bool _
 | 1,h=>cases h;cases hc;exact fun _ _=>.int _ _
 | 2,h=>cases h;cases hc;exact fun _ _=>.int _ _
 | 3,h=>cases h;cases hc;exact fun _ _=>.int _ _
 | 4,h=>cases h;cases hc;exact fun _ _=>.int _ _
 | j+5,h=>simp [evE] at h
structure RelV (w:World) (l:List Evt) (v:Value) (x:Tj.Sv):Prop where
 val:v = .slice x.1 x.2.1 x.2.2.1
 len:x.2.1=l.length
 cells:∀ (i:Nat) (v:Value),x.2.2.2[i]? = some v->v.oneCell' = true /\ ∃ b,x.1=some b/\b.block<w.heap.size/\w.cell? (b.add i)=some v
 rel:VRel l x.2.2.2
theorem relV {w:World}{O:Nat->Prop}{l:List Evt}{v:Value}(h:PRel w O (.sl (l.map evE)) v):∃ x,RelV w l v x:=by
 generalize hes:l.map evE=es at h;cases h with
 | nil a c =>
  have:l=[]:=by simpa using hes
  subst this;exact⟨(a,0,c,[]),rfl,rfl,fun i v h=>by simp at h,rfl,fun k q j p h=>by simp at h⟩
 | sl _ a n c size u hno hlt hn hc hsz hcell hr =>
  have hget:∀ (k:Nat) (q:Evt),l[k]? = some q->es[k]? = some (evE q):=fun k q hq=>by rw [<- hes,J0m,hq];rfl
  have hlen:n=l.length:=by rw [hn,<- hes,List.length_map]
  have hcs:∀ t,t<n * 5->((List.range (n * 5)).map fun t=>u (t / 5) (t % 5))[t]? = some (u (t / 5) (t % 5)):=fun t ht=>by simp [ht]
  have key:∀ (k j:Nat) (q:Evt),l[k]? = some q->j<5 -> ∃ p,(evE q)[j]? = some p/\w.cell? (a.add (k * 5+j))=some (u k j)/\PRel w O p (u k j):=fun k j q hq hj=>by
   have h1:size=5:=by rw [<- hsz k _ (hget k q hq)];rfl
   subst h1;obtain⟨p,hp⟩:∃ p,(evE q)[j]? = some p:=⟨_,J0c (by show j<5;exact hj)⟩;exact⟨p,hp,hcell k _ (hget k q hq) j p hp,hr k _ (hget k q hq) j p hp⟩
  refine⟨(some a,n,c,(List.range (n * 5)).map fun t=>u (t / 5) (t % 5)),rfl,hlen,fun i v hi=>?_,by simp [hlen],fun k q j p hk hj=>?_⟩
  . have hi2:i<n * 5:=by simpa using (J0d.1 hi).1
    simp only at hi;rw [hcs i hi2] at hi;obtain rfl:=J0a hi;obtain⟨q,hq⟩:∃ q,l[i / 5]? = some q:=⟨_,J0c (by omega)⟩;obtain⟨p,_,h2,h3⟩:=key (i / 5) (i % 5) q hq (by omega);rw [show i / 5 * 5+i % 5=i by omega] at h2;exact⟨h3.oneCell,a,rfl,hlt,h2⟩
  . have hj2:j<5:=(J0d.1 hj).1;have hkl:=(J0d.1 hk).1;obtain⟨p',h1,h2,h3⟩:=key k j q hk hj2;obtain rfl:=J0a (h1.symm.trans hj);refine⟨u k j,?_,Yfw hj h3⟩;simp only;rw [hcs _ (by omega),show (k * 5+j) / 5=k by omega,show (k * 5+j) % 5=j by omega]
theorem pick {α β:Type}(l:List α){P:Nat->α->β->Prop}(h:∀ i a,l[i]? = some a -> ∃ b,P i a b):∃ l' : List β,l'.length=l.length /\ ∀ i a b,l[i]? = some a->l'[i]? = some b->P i a b:=by have h2:∀ i:Fin l.length,∃ b,P i.val (l.get i) b:=fun i=>h i.val _ (J0c i.isLt);refine⟨List.ofFn fun i=>Classical.choose (h2 i),by simp,fun i a b ha hb=>?_⟩;obtain⟨hi,rfl⟩:=J0d.1 ha;rw [List.getElem?_ofFn,dif_pos hi] at hb;obtain rfl:=J0a hb;exact Classical.choose_spec (h2 ⟨i,hi⟩)
theorem own0 (O:Nat->Prop)(ι:Em)(h:ι.O=O)(n:Nat)(hn:n=0):Own n ι=O:=by subst h;subst hn;funext g;unfold Own;exact propext ⟨fun h=>by rcases h with h | ⟨t,h,_⟩;exact h;omega,.inl⟩
theorem Zqe {w w' : World}(h:Zbq w.heap.size w)(hb:Below w.heap.size w w'):Zbq w'.heap.size w' := ⟨Nat.le_trans h.1 hb.size,Glob.stable w w' h.2 (hb.mono h.1)⟩
theorem Zby {w w' : World}{O:Nat->Prop}{x:PV}{v:Value}(h:PRel w O x v)(hb:Below w.heap.size w w'):PRel w' O x v:=h.fix ⟨hb.size,fun g hg hn=>hb.block g hg,fun _ _ h=>h⟩
abbrev no:Nat->Prop:=fun _=>False
theorem Z89 {w:World}{O:Nat->Prop}{x:PV}{v:Value}(h:PRel w O x v):PRel w no x v:=h.fix ⟨Nat.le_refl _,fun _ _ _=>rfl,fun _ _ _ h=>h⟩
theorem Spec.num {P:Program}{f:FuncId}{pas:List PA}{y:PV}{v0:Value}(h:Spec P f pas [.c (.c y)])(hy:∀ w O v,PRel w O y v->v=v0){w:World}{cargs:Array Value}(hg:Zbq w.heap.size w)(hp:Q7 w no pas cargs) :
    Calls P f cargs w fun e w' => e = .returned v0/\Below w.heap.size w w' :=
  (h no w cargs (fun _ h=>h.elim) hg hp).mono fun e w' ⟨v,ι,he,_,hr,hv⟩=>by
   cases hv with
   | p _ _ hp=>exact⟨by rw [he,hy _ _ _ hp],hr.below⟩
theorem Spec.two {P:Program}{f:FuncId}{pas:List PA}{k k' : IntKind}{a b:Int}(h:Spec P f pas [.c (.c (.int k a)),.c (.c (.int k' b))]){w:World}{cargs:Array Value}(hg:Zbq w.heap.size w)(hp:Q7 w no pas cargs) :
    Calls P f cargs w fun e w' => e = .returned (.tuple #[.int k a,.int k' b])/\Below w.heap.size w w' :=
  (h no w cargs (fun _ h=>h.elim) hg hp).mono fun e w' ⟨v,ι,he,_,hr,hv⟩=>by
   cases hv with
   | tuple _ vs hl hc =>
    obtain⟨l⟩:=vs
    match l,hl with
    | [x,y],_=>have h0:=hc 0 _ x rfl rfl;have h1:=hc 1 _ y rfl rfl;cases h0 with | p _ _ h0=>cases h1 with | p _ _ h1=>cases h0;cases h1;exact⟨he,hr.below⟩
theorem Spec.three {P:Program}{f:FuncId}{pas:List PA}{y z:PV}{k:IntKind}{a:Int}(h:Spec P f pas [.c (.c y),.c (.c z),.c (.c (.int k a))]){w:World}{cargs:Array Value}(hg:Zbq w.heap.size w)(hp:Q7 w no pas cargs) :
    Calls P f cargs w fun e w' => ∃ v1 v2,e = .returned (.tuple #[v1,v2,.int k a])/\PRel w' no y v1/\PRel w' no z v2/\Below w.heap.size w w' :=
  (h no w cargs (fun _ h=>h.elim) hg hp).mono fun e w' ⟨v,ι,he,hi,hr,hv⟩=>by
   cases hv with
   | tuple _ vs hl hc =>
    obtain⟨l⟩:=vs
    match l,hl with
    | [x,x',u],_=>have h0:=hc 0 _ x rfl rfl;have h1:=hc 1 _ x' rfl rfl;have h2:=hc 2 _ u rfl rfl;cases h0 with | p _ _ h0=>cases h1 with | p _ _ h1=>cases h2 with | p _ _ h2=>cases h2;have e0:(Za [RA.c (RC.c y),.c (.c z),.c (.c (.int k a))]).length=0:=rfl;rw [e0,own0 no ι hi _ rfl] at h0 h1;exact⟨_,_,he,h0,h1,hr.below⟩
theorem Z36:∀ (ys:List PV) (T:Nat),X5 T (ys.map RC.c)=ys.map AV.p
 | [],_=>rfl
 | y::ys,T=>by show _::X5 (T+0) (ys.map RC.c)=_;rw [Z36 ys];rfl
theorem Z37:∀ ys:List PV,Xa (ys.map RC.c)=[]
 | []=>rfl
 | y::ys=>Z37 ys
theorem Spec.agn {P:Program}{f:FuncId}{pas:List PA}{ys:List PV}{k:IntKind}{a:Int}(h:Spec P f pas [.a (ys.map RC.c),.c (.c (.int k a))]){w:World}{cargs:Array Value}(hg:Zbq w.heap.size w)(hp:Q7 w no pas cargs) :
    Calls P f cargs w fun e w' => ∃ m,e = .returned (.tuple #[.agg m,.int k a])/\m.size=ys.length/\m.all (·.oneCell')=true/\PARel w' no (.a ys) (.agg m)/\Below w.heap.size w w' :=
  (h no w cargs (fun _ h=>h.elim) hg hp).mono fun e w' ⟨v,ι,he,hi,hr,hv⟩=>by
   have e0:(Za [RA.a (ys.map RC.c),.c (.c (.int k a))])=[]:=by show Xa (ys.map RC.c)++([]++[])=[];rw [Z37];rfl
   rw [e0] at hv;have e1:retV (Zf 0 [RA.a (ys.map RC.c),.c (.c (.int k a))]) = .tuple [.agg (ys.map AV.p),.p (.int k a)]:=by show AV.tuple [.agg (X5 0 (ys.map RC.c)),.p (.int k a)]=_;rw [Z36]
   rw [e1] at hv;cases hv with
   | tuple _ vs hl hc =>
    obtain⟨l⟩:=vs
    match l,hl with
    | [x,u],_ =>
     have h0:=hc 0 _ x rfl rfl;have h2:=hc 1 _ u rfl rfl;cases h2 with | p _ _ h2 =>
      cases h2;cases h0 with
      | agg _ m hm hcs =>
       have hcs' : ∀ (i:Nat) (y:PV) (v:Value),ys[i]? = some y->m[i]? = some v->PRel w' no y v:=fun i y v h1 h2=>by
        have:=hcs i (.p y) v (by rw [J0m,h1];rfl) h2;cases this with
        | p _ _ hp=>rwa [show Own ([]:List AObj).length ι=no from own0 no ι hi _ rfl] at hp
       rw [List.length_map] at hm;refine⟨m,he,hm,?_,.a _ _ hm hcs',hr.below⟩;rw [Array.all_eq_true];intro i hi';exact (hcs' i _ _ (J0c (by omega)) (Array.getElem?_eq_getElem hi')).oneCell
end Tg

/- The law BoundEvents. -/
namespace Tg
open Go Go.Abs Go.RowKit Go.Proofs
abbrev qT:List CT:=[.int .u8,.sl [.int .u8,.int .i64,.int .i64,.int .i64,.int .i64],.sl [.int .i64],.bool,.sl [.int .u8,.int .i64,.int .i64,.int .i64,.int .i64],.int .u8,.int .i64,.int .i64,.bool,.int .u8]
def inpP (inp:Inp):PV:=.sl (inp.map fun l=>[.sl (l.1.map evE)])
theorem Yfx {w:World}{O:Nat->Prop}{a:PA}{u:Value}(h:PARel w O a u):Q7 w O [a] #[u]:=⟨rfl,fun i x v h1 h2=>by
 match i,h1,h2 with
 | 0,h1,h2=>cases h1;cases h2;exact h⟩
theorem Yn9 {w:World}{O:Nat->Prop}{a b:PA}{u v:Value}(h:PARel w O a u)(h' : PARel w O b v):Q7 w O [a,b] #[u,v]:=⟨rfl,fun i x v h1 h2=>by
 match i,h1,h2 with
 | 0,h1,h2=>cases h1;cases h2;exact h
 | 1,h1,h2=>cases h1;cases h2;exact h'⟩
theorem Yfy {w:World}{O:Nat->Prop}{a b:PA}{u v:Value}{p r:Int}(h:PARel w O a u)(h' : PARel w O b v):Q7 w O [a,b,.c (.int .i64 p),.c (.int .i64 r)] #[u,v,.int .i64 p,.int .i64 r]:=⟨rfl,fun i x v h1 h2=>by
 match i,h1,h2 with
 | 0,h1,h2=>cases h1;cases h2;exact h
 | 1,h1,h2=>cases h1;cases h2;exact h'
 | 2,h1,h2=>cases h1;cases h2;exact .c _ _ (.int _ _)
 | 3,h1,h2=>cases h1;cases h2;exact .c _ _ (.int _ _)⟩
theorem Zdc {w w' : World}{a:PA}{v:Value}(h:PARel w no a v)(hb:Below w.heap.size w w'):PARel w' no a v:=by
 cases h with
 | c x v h=>exact .c _ _ (Zby h hb)
 | a cs vs hl hr=>exact .a _ _ hl fun i x v h1 h2=>Zby (hr i x v h1 h2) hb
 | q cs ad u h1 h2 h3 h4=>exact .q _ _ _ h1 (Nat.lt_of_lt_of_le h2 hb.size) (fun j x hj=>by have:=h3 j x hj;exact (hb.cell (World.block_lt_of_cell? _ _ this)).trans this) fun j x hj=>Zby (h4 j x hj) hb
theorem Z38 {w:World}{O:Nat->Prop}{cs:List PV}{vs:Array Value}(h:PARel w O (.a cs) (.agg vs)):PARel w no (.a cs) (.agg vs):=by
 cases h with
 | a _ _ hl hr=>exact .a _ _ hl fun i x v h1 h2=>Z89 (hr i x v h1 h2)
theorem Z39 {w:World}{O:Nat->Prop}{k:IntKind}{n:Int}{v:Value}(h:PRel w O (.int k n) v):v = .int k n:=by cases h;rfl
theorem Z6q {w:World}{O:Nat->Prop}{b:Bool}{v:Value}(h:PRel w O (.bool b) v):v = .bool b:=by cases h;rfl
theorem Yoa {w:World}{O:Nat->Prop}{q:Qr}{inp:Inp}{p r at_:Int}{x:Evt}{cargs:Array Value}(h:Q7 w O [.a (pvL qT q),.c (inpP inp),.c (.int .i64 p),.c (.int .i64 r),.c (.int .i64 at_),.a (evE x)] cargs) :
    ∃ q0 q1 q2 q3 q4 q5 q6 q7 q8 q9 iv x0 x1 x2 x3 x4,cargs=#[.agg #[q0,q1,q2,q3,q4,q5,q6,q7,q8,q9],iv,.int .i64 p,.int .i64 r,.int .i64 at_,.agg #[x0,x1,x2,x3,x4]]/\PARel w no (.a (pvL qT q)) (.agg #[q0,q1,q2,q3,q4,q5,q6,q7,q8,q9])/\PRel w no (inpP inp) iv/\PARel w no (.a (evE x)) (.agg #[x0,x1,x2,x3,x4]):=by
  obtain⟨hs,hr⟩:=h;obtain⟨l⟩:=cargs
  match l,hs with
  | [a,b,c,d,e,f],_ =>
   have h0:=hr 0 _ a rfl rfl;have h1:=hr 1 _ b rfl rfl;have h2:=hr 2 _ c rfl rfl;have h3:=hr 3 _ d rfl rfl;have h4:=hr 4 _ e rfl rfl;have h5:=hr 5 _ f rfl rfl;cases h1 with | c _ _ h1=>cases h2 with | c _ _ h2=>cases h3 with | c _ _ h3=>cases h4 with | c _ _ h4 =>
    obtain rfl:=Z39 h2;obtain rfl:=Z39 h3;obtain rfl:=Z39 h4;have hA:=h0;have hX:=h5;cases h0 with
    | a _ vs hl _=>cases h5 with
     | a _ xs hl2 _ =>
      obtain⟨vl⟩:=vs;obtain⟨xl⟩:=xs
      match vl,hl,hA with
      | [q0,q1,q2,q3,q4,q5,q6,q7,q8,q9],_,hA=>match xl,hl2,hX with
       | [x0,x1,x2,x3,x4],_,hX=>exact⟨q0,q1,q2,q3,q4,q5,q6,q7,q8,q9,b,x0,x1,x2,x3,x4,rfl,Z38 hA,Z89 h1,Z38 hX⟩
end Tg

/- The law BoundEvents: the input in memory, and what becomes of it. -/
namespace Tg
open Go Go.Abs Go.RowKit Go.Proofs
theorem Ylc {w:World}{inp:Inp}{iv:Value}(h:PRel w no (inpP inp) iv)(hs:∀ l∈inp,l.1.length<=100000):∃ a c,∃ L:List Tj.Sv,iv = .slice a inp.length c/\L.length=inp.length /\
    (∀ k X,L[k]? = some X->Tj.EvOk w X /\ ∃ b,a=some b/\b.block<w.heap.size/\w.cell? (b.add k)=some (.slice X.1 X.2.1 X.2.2.1)) /\
    ∀ (k:Nat) (l:List Evt×Unit) (X:Tj.Sv),inp[k]? = some l->L[k]? = some X->X.2.1=l.1.length/\Tg.VRel l.1 X.2.2.2:=by
  unfold inpP at h;generalize hes:(inp.map fun l=>[PV.sl (l.1.map evE)])=es at h;cases h with
  | nil a c =>
   have:inp=[]:=by simpa using hes
   subst this;exact⟨a,c,[],rfl,rfl,fun k x h=>by simp at h,fun k l X h=>by simp at h⟩
  | sl _ a n c size u hno hlt hn hc hsz hcell hrl =>
   have hget:∀ (k:Nat) (l:List Evt×Unit),inp[k]? = some l->es[k]? = some [.sl (l.1.map evE)]:=fun k l hl=>by rw [<- hes,J0m,hl];rfl
   obtain⟨L,g1,g2⟩:=pick (α:=List Evt×Unit) (β:=Tj.Sv) inp (P:=fun i l X=>RelV w l.1 (u i 0) X) fun i l hl=>relV (hrl i _ (hget i l hl) 0 _ rfl);have hlen:n=inp.length:=by rw [hn,<- hes,List.length_map]
   subst hlen;refine⟨some a,c,L,rfl,g1,fun k X hX=>?_,fun k l X hl hX=>⟨(g2 k l X hl hX).len,(g2 k l X hl hX).rel⟩⟩;obtain⟨l,hl⟩:∃ l,inp[k]? = some l:=⟨_,J0c (by rw [<- g1];exact (J0d.1 hX).1)⟩;have R:=g2 k l X hl hX;have hs1:size=1:=by rw [<- hsz k _ (hget k l hl)];rfl
   subst hs1;refine⟨⟨by rw [R.rel.1,R.len],R.cells,by rw [R.len];exact hs l (J0j hl)⟩,a,rfl,hlt,?_⟩;have:=hcell k _ (hget k l hl) 0 _ rfl;rw [R.val] at this;simpa using this
theorem VRel.snoc {w:World}{l:List Evt}{cs:List Value}{x:Evt}{x0 x1 x2 x3 x4:Value}(h:Tg.VRel l cs)(hx:PARel w no (.a (evE x)) (.agg #[x0,x1,x2,x3,x4])):Tg.VRel (l++[x]) (cs++[x0,x1,x2,x3,x4]):=by
 obtain⟨h1,h2⟩:=h;refine⟨by simp [h1];omega,fun k e j p hk hj=>?_⟩;have hj5:j<5:=(J0d.1 hj).1;by_cases hkl:k<l.length
 . rw [List.getElem?_append_left hkl] at hk;obtain⟨c,hc,hp⟩:=h2 k e j p hk hj;exact⟨c,by rw [List.getElem?_append_left (by rw [h1];omega)];exact hc,hp⟩
 . have hk1:=(J0d.1 hk).1;rw [J0s,List.length_singleton] at hk1;have hkk:k=l.length:=by omega
   subst hkk;rw [J0o (Nat.le_refl _),Nat.sub_self] at hk;obtain rfl:=J0a hk;cases hx with
   | a _ _ _ hr=>obtain⟨c,hc⟩:∃ c,(#[x0,x1,x2,x3,x4]:Array Value)[j]? = some c:=⟨_,Array.getElem?_eq_getElem hj5⟩;refine⟨c,?_,Yfw hj (hr j p c hj hc)⟩;rw [J0o (by rw [h1];omega),h1,show l.length * 5+j - l.length * 5=j by omega];simpa using hc
theorem Yfz {W:World}{B:Nat}{v:Value}{inp:Inp}{S:List Tj.Sv}(h:Tj.GD B W v S)(hl:S.length=inp.length)(hr:∀ (k:Nat) (l:List Evt×Unit) (X:Tj.Sv),inp[k]? = some l->S[k]? = some X->X.2.1=l.1.length/\Tg.VRel l.1 X.2.2.2) :
    PRel W no (inpP inp) v:=by
  obtain⟨vs,hd⟩:=h;refine Z35 (size:=1) _ hd.own (fun g hg=>hg.elim) (by rw [List.length_map,hl]) (fun x hx=>?_) fun i e he j x hx=>?_
  . obtain⟨y,_,rfl⟩:=List.mem_map.1 hx;rfl
  . rw [J0m,J0f] at he;obtain⟨l,hli,rfl⟩:=he;have hj:j=0:=by have:=(J0d.1 hx).1;simp at this;omega
    subst hj;obtain rfl:=J0a hx;have hi:=(J0d.1 hli).1;have hvl:=hd.len;obtain⟨X,hX⟩:∃ X,S[i]? = some X:=⟨_,J0c (by omega)⟩;obtain⟨y,hy⟩:∃ y,vs[i]? = some y:=⟨_,J0c (by omega)⟩;obtain⟨t1,t2⟩:=hr i l X hli hX;refine⟨y,by simpa using hy,?_⟩;refine Z35 (size:=5) _ (hd.els i X y hX hy) (fun g hg=>hg.elim) (by rw [List.length_map,t1]) (fun x hx=>?_) fun k e hk q p hp=>?_
    . obtain⟨ev,_,rfl⟩:=List.mem_map.1 hx;rfl
    . rw [J0m,J0f] at hk;obtain⟨ev,hev,rfl⟩:=hk;obtain⟨c,hc,hpc⟩:=t2.2 k ev q p hev hp;exact⟨c,hc,hpc W no⟩
theorem Yf0 {w:World}{l:List (Int×Unit)}{v:Value}{k:Nat}{n:Int}(h:PRel w no (.sl (l.map fun x=>[.int .i64 x.1])) v)(hk:l[k]? = some (n,())) :
    ∃ a c,v = .slice (some a) l.length c/\a.block<w.heap.size/\w.cell? (a.add k)=some (.int .i64 n):=by
  generalize hes:(l.map fun x=>[PV.int .i64 x.1])=es at h;cases h with
  | nil a c =>
   have:l=[]:=by simpa using hes
   subst this;simp at hk
  | sl _ a m c size u hno hlt hn hc hsz hcell hrl =>
   have he:es[k]? = some [.int .i64 n]:=by rw [<- hes,J0m,hk];rfl
   have hs1:size=1:=by rw [<- hsz k _ he];rfl
   subst hs1;have h1:=hcell k _ he 0 _ rfl;rw [Z39 (hrl k _ he 0 _ rfl)] at h1;refine⟨a,c,by rw [hn,<- hes,List.length_map],hlt,by simpa using h1⟩
end Tg

/- The law BoundEvents from the contract of its function. -/
namespace Tg
open Go Go.Abs Go.RowKit Go.Proofs
theorem Z9a {x:Int}(h1 : -9223372036854775808<=x)(h2:x<=9223372036854775807):wrap64 x=x:=by unfold wrap64;omega
theorem law3 (q:Qr)(inp:Inp)(p r at_:Int)(x:Evt):Spec Tryz.prog 3 [.a (pvL qT q),.c (inpP inp),.c (.int .i64 p),.c (.int .i64 r),.c (.int .i64 at_),.a (evE x)] [.c (.c (.bool true))]:=by
 refine Spec.still (v:=.bool true) (fun w O=>.bool _) fun O w cargs hg hp=>?_;obtain⟨q0,q1,q2,q3,q4,q5,q6,q7,q8,q9,iv,x0,x1,x2,x3,x4,rfl,hq,hi,hx⟩:=Yoa hp;obtain⟨a,n,c,rfl⟩:∃ a n c,iv = .slice a n c:=by
  unfold inpP at hi;generalize (inp.map fun l=>[PV.sl (l.1.map evE)])=es at hi;cases hi with
  | nil a c=>exact⟨_,_,_,rfl⟩
  | sl _ a n c=>exact⟨_,_,_,rfl⟩
 have hn:n=inp.length:=by
  unfold inpP at hi;generalize hes:(inp.map fun l=>[PV.sl (l.1.map evE)])=es at hi;cases hi with
  | nil a c =>
   have:inp=[]:=by simpa using hes
   rw [this];rfl
  | sl _ a n c _ _ _ _ hn=>rw [hn,<- hes,List.length_map]
 subst hn;obtain⟨g,gr1,gr2⟩:=Yfp q inp;have cA:∀ W,Below w.heap.size w W->Calls Tryz.prog 4 #[] W fun e w' => e = .returned (.bool true)/\Below W.heap.size W w' := fun W hb=>Spec.num (ok4 () (true,()) rfl) (fun _ _ _ h=>Z6q h) (Zqe hg hb) ⟨rfl,fun i x v h=>by cases i <;> cases h⟩;have cG:∀ W,Below w.heap.size w W->Calls Tryz.prog 5 #[.agg #[q0,q1,q2,q3,q4,q5,q6,q7,q8,q9],.slice a inp.length c] W fun e w' => e = .returned (.bool g)/\Below W.heap.size W w' := fun W hb=>Spec.num (ok5 (q,inp,()) (g,()) gr1) (fun _ _ _ h=>Z6q h) (Zqe hg hb) (Yn9 (Zdc hq hb) (.c _ _ (Zby hi hb)));have cK:g=false -> ∀ W,Below w.heap.size w W->Calls Tryz.prog 6 #[.agg #[q0,q1,q2,q3,q4,q5,q6,q7,q8,q9],.slice a inp.length c,.int .i64 p,.int .i64 r] W fun e w' => e = .returned (.int .i64 (askE q inp p r))/\Below W.heap.size W w' := fun hgf W hb=>Spec.num (ok6 (q,inp,p,r,()) (askE q inp p r,()) (Yfo q inp (by have:=(gr2 hgf).1;omega) p r)) (fun _ _ _ h=>Z39 h) (Zqe hg hb) (Yfy (Zdc hq hb) (.c _ _ (Zby hi hb)));by_cases hoff:g=true∨askE q inp p r≠0∨at_<0∨(inp.length:Int)<=at_
 . exact Tj.Z6n q0 q1 q2 q3 q4 q5 q6 q7 q8 q9 x0 x1 x2 x3 x4 a inp.length c p r at_ _ g w cA cG cK hoff
 have hgf:g=false:=by cases g;rfl;exact absurd (.inl rfl) hoff
 have a0:askE q inp p r=0:=Decidable.byContradiction fun h=>hoff (.inr (.inl h));have hat0:0<=at_:=Decidable.byContradiction fun h=>hoff (.inr (.inr (.inl (by omega))));have hat1:at_<(inp.length:Int):=Decidable.byContradiction fun h=>hoff (.inr (.inr (.inr (by omega))));obtain⟨k,rfl⟩:∃ k:Nat,at_=(k:Int):=⟨at_.toNat,by omega⟩;have hk:k<inp.length:=by omega
 subst hgf;obtain⟨l1,l2,l3,l4⟩:=gr2 rfl;obtain⟨e1,e2,e3,_,_,n1,n2⟩:=Z3w a0;have hlen:∀ l∈inp,l.1.length<=60:=fun l hl=>(Zui (e3 l hl)).1;obtain⟨l,hl⟩:∃ l,inp[k]? = some l:=⟨_,J0c hk⟩;obtain⟨a',c',L,hiv,hL,hin,hrel⟩:=Ylc hi (fun l hl=>by have:=hlen l hl;omega);obtain⟨rfl,rfl⟩:a=a' /\ c=c' := by
  injection hiv with h1 h2 h3
  exact⟨h1,h3⟩
 have hx0:x0 = .bool x.1:=by
  cases hx with
  | a _ _ _ hr=>exact Z6q (hr 0 _ x0 rfl rfl)
 subst hx0;generalize hmore:inp.set k (l.1++[x],())=more;have hml:more.length=inp.length:=by rw [<- hmore,List.length_set]
 have b1:=Z3x q inp p r (by omega) (by omega) (by omega) (by omega);rw [a0] at b1;have b2:=Z3x q more p r (by omega) (by omega) (by omega) (by omega);generalize hf:askE q more p r=f at b2;generalize hm2:(bif f != 0 then zM else mOf q more p r)=m2 at b2;have hC:Tj.EvC w (.agg #[q0,q1,q2,q3,q4,q5,q6,q7,q8,q9]) (.slice a inp.length c) p r true (fun W v=>PRel W no (inpP more) v) (fun W v=>PARel W no (.a (pvL Uq3 (mOf q inp p r))) v) (fun W v=>PARel W no (.a (pvL Uq3 m2)) v) f (bd q inp p r) (bd q more p r) (wA (mOf q inp p r) k) (wB (mOf q inp p r) k) k:=by
  refine⟨cA,cG,fun W hb=>?_,fun W hb=>?_,fun W v hb hv=>?_,fun W W' v h hb=>Zby h hb,fun W W' v h hb=>Zdc h hb,fun W W' v h hb=>Zdc h hb,fun W v hb hv=>?_,fun hf0 W v hb hv=>?_,fun W v hb hv=>?_⟩
  . have:=cK rfl W hb;rwa [a0] at this
  . have hs:Spec Tryz.prog 7 [.a (pvL qT q),.c (inpP inp),.c (.int .i64 p),.c (.int .i64 r)] [.a ((pvL Uq3 (mOf q inp p r)).map RC.c),.c (.c (.int .i64 0))]:=ok7p (q,inp,p,r,()) (mOf q inp p r,(0:Int),()) b1;refine (Spec.agn hs (Zqe hg hb) (Yfy (Zdc hq hb) (.c _ _ (Zby hi hb)))).mono fun e w' ⟨m,h1,h2,h3,h4,h5⟩=>⟨m,h1,h2,h3,h4,h5⟩
  . have hs:Spec Tryz.prog 7 [.a (pvL qT q),.c (inpP more),.c (.int .i64 p),.c (.int .i64 r)] [.a ((pvL Uq3 m2).map RC.c),.c (.c (.int .i64 f))]:=ok7p (q,more,p,r,()) (m2,f,()) b2;refine (Spec.agn hs (Zqe hg hb) (Yfy (Zdc hq hb) (.c _ _ hv))).mono fun e w' ⟨m,h1,h2,h3,h4,h5⟩=>⟨m,h1,h2,h3,h4,h5⟩
  . exact Spec.two (ok8 (mOf q inp p r,()) (bd q inp p r,(0:Int),()) (Zuq a0)) (Zqe hg hb) (Yfx hv)
  . subst hf0;have hm3:m2=mOf q more p r:=by rw [<- hm2];rfl
    rw [hm3] at hv;exact Spec.two (ok8 (mOf q more p r,()) (bd q more p r,(0:Int),()) (Zuq hf)) (Zqe hg hb) (Yfx hv)
  . have hc:=Zup a0;refine (Spec.three (ok9p (mOf q inp p r,()) (rowW (mOf q inp p r) false,rowW (mOf q inp p r) true,(0:Int),()) (Z0r a0)) (Zqe hg hb) (Yfx hv)).mono fun e w' ⟨v1,v2,h1,h2,h3,h4⟩=>?_;obtain⟨a1,c1,rfl,g1,g2⟩:=Yf0 h2 (Z85 (m:=mOf q inp p r) (k:=k) (by omega));obtain⟨a2,c2,rfl,g3,g4⟩:=Yf0 h3 (Z86 (m:=mOf q inp p r) (k:=k) (by omega));have hwl:∀ b,(rowW (mOf q inp p r) b).length=(mG (mOf q inp p r)).2.1.length:=fun b=>by unfold rowW rowP;simp
    rw [hwl] at h1;rw [hwl] at h1;exact⟨a1,a2,_,c1,c2,h1,by omega,g2,g4,g1,g3,h4⟩
 refine Tj.Z6m q0 q1 q2 q3 q4 q5 q6 q7 q8 q9 x1 x2 x3 x4 a inp.length c p r k L w x.1 _ _ _ f _ _ _ _ hC (by omega) hL hk (fun v hv=>?_) hin (fun W v X hX hgd=>?_) (fun hf0=>?_)
 . have key:∀ (cs:List PV) (vs:Array Value),PARel w no (.a cs) (.agg vs) -> ∀ v∈vs.toList,v.oneCell' = true:=fun cs vs h v hv=>by
    cases h with
    | a _ _ hsz hr=>obtain⟨i,hi⟩:=List.getElem?_of_mem hv;have hi2:=(J0d.1 hi).1;rw [Array.length_toList] at hi2;obtain⟨y,hy⟩:∃ y,cs[i]? = some y:=⟨_,J0c (by omega)⟩;exact (hr i y v hy (by simpa using hi)).oneCell
   have k1:=key _ _ hq;have k2:=key _ _ hx;simp only [List.mem_cons] at hv k1 k2;rcases hv with h | h | h | h | h | h | h | h | h | h | h | h | h | h | h
   all_goals first
    | (refine k1 v ?_;rw [h];simp;done)
    | (refine k2 v ?_;rw [h];simp;done)
    | cases h
 . refine Yfz hgd (by rw [List.length_set,hL,hml]) fun j l' Y h1 h2=>?_;rw [<- hmore] at h1;obtain⟨r1,r2⟩:=hrel k l X hl hX;by_cases hj:j=k
   . subst hj;rw [List.getElem?_set_self (by omega)] at h1 h2;obtain rfl:=J0a h1;obtain rfl:=J0a h2;exact⟨by simp [r1],VRel.snoc r2 hx⟩
   . rw [List.getElem?_set_ne (by omega)] at h1 h2;exact hrel j l' Y h1 h2
 . subst hf0;have hd:=Yh8 (q:=q) (p:=p) (r:=r) hl x;rw [hmore] at hd;have d1:=Yfv a0;have d2:=Yfv hf;have hv:evv (mOf q inp p r) k x=2+cond x.1 (wB (mOf q inp p r) k) (wA (mOf q inp p r) k):=rfl;rw [hv] at hd;obtain⟨R,hV⟩:=Zob a0;have hw:=w_bd hV (k:=k) (by have:=Zup a0;omega);rw [Z9a (x:=bd q inp p r+2) (by omega) (by omega)];cases hx1:x.1 <;> rw [hx1] at hd <;> simp only [cond_true,cond_false] at hd ⊢ <;> rw [Z9a (by omega) (by omega)] <;> omega
noncomputable def con3:TCon:=⟨[.a qT,.c (.sl [.sl [.bool,.int .i64,.int .i64,.int .i64,.int .i64]]),.c (.int .i64),.c (.int .i64),.c (.int .i64),.a [.bool,.int .i64,.int .i64,.int .i64,.int .i64]],[.c (.p .bool)],fun _=>some (true,())⟩
theorem ok3:con3.ok Tryz.prog 3:=fun a r h=>by obtain⟨q,inp,p,r',at_,x,u⟩:=a;obtain rfl:=J0a h;exact law3 q inp p r' at_ x
theorem Yld:∀ pas,POKAs con3.args pas->Spec Tryz.prog 3 pas [.c (.c (.bool true))]:=Yjy ok3 fun a _=>rfl
end Tg
