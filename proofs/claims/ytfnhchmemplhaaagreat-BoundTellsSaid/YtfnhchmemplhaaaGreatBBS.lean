import Derived.Test.YtfnhchmemplhaaaGreatBBW
/- The bound that the program tells, as a sum. -/
set_option linter.unusedVariables false
set_option linter.unusedSimpArgs false
namespace Tg
open Go
open Go.Abs (Zg Zz tmm)
theorem Zls {α β:Type}{f:Nat→Int→Int→Option β}{l:List α}{v:Nat→α→Int}{fin:Int→Option β}{C N:Nat}
    (hs:∀ (i:Nat) (e:α) (M:Nat) (R:Int→Option β),l[i]? = some e→(∀ n S,M≤n→f n (Wr S) ((i+1:Nat):Int)=R S) → ∀ n S,M+C≤n→f n (Wr S) (i:Int)=R (S+v i e))
    (he:∀ n S,N≤n→f n (Wr S) (l.length:Int)=fin S) (n:Nat) (S:Int) (hn:N+C * l.length≤n):f n (Wr S) 0=fin (S+sumI v 0 l):=by
  have key:∀ (r:List α) (i:Nat),l.drop i=r→i≤l.length → ∀ n S,N+C * r.length≤n→f n (Wr S) (i:Int)=fin (S+sumI v i r):=by
   intro r
   induction r with
   | nil =>
    intro i hd hi n S hn
    have:i=l.length:=by
     have:=congrArg List.length hd
     simp at this
     omega
    subst this
    rw [sumI,Int.add_zero]
    exact he n S (by simpa using hn)
   | cons e r ih =>
    intro i hd hi n S hn
    obtain⟨h1,h2,h3⟩:=drop_at hd
    have hm:C * (e::r).length=C * r.length+C:=by rw [List.length_cons,Nat.mul_add,Nat.mul_one]
    have:=hs i e (N+C * r.length) (fun S=>fin (S+sumI v (i+1) r)) h2 (fun n' S' hn' => ih (i+1) h3 (by omega) n' S' hn') n S (by omega)
    rw [this,sumI,Int.add_assoc]
  exact key l 0 rfl (Nat.zero_le _) n S hn
section
variable (m:Mch)
def wA (k:Nat):Int:=wv (mG m) (mWn m) false (toO (mG m) k)
def wB (k:Nat):Int:=wv (mG m) (mWn m) true (toO (mG m) k)
def ofv (kind:Int)(k:Nat):Int:=bif kind==1 then wA m k else bif kind==2 then wB m k else 1
def evv (k:Nat)(x:Evt):Int:=2+bif x.1 then wB m k else wA m k
def vQ (k:Nat)(q:Que):Int:=sumI (fun _ (e:Msg)=>ofv m e.1 k) 0 q.2.1
def vP (k:Nat)(c:Cn)(t:Tsk):Int:=sumI (fun _ (s:Snd)=>bif s.1==c.2.1 then 1+ofv m s.2.1 k else 0) 0 t.2.2.2.1+sumI (fun _ x=>evv m k x) 0 t.2.2.2.2.2.2.1
def vC (k:Nat)(c:Cn):Int:=((mT m)[c.1.toNat]?).elim 0 (vP m k c)
def vS (_:Nat)(t:Tsk):Int:=2 * (t.2.2.2.2.2.1.length:Int)
end
variable {m:Mch}
theorem Zyo {k:Nat}(h:k<(mG m).2.1.length):(rowW m false)[k]? = some (wA m k,()):=Zdg h
theorem Zyp {k:Nat}(h:k<(mG m).2.1.length):(rowW m true)[k]? = some (wB m k,()):=Zdg h
theorem wr1R (S x:Int):Wr (Wr S+Wr (1+x))=Wr (S+(1+x)):=by rw [wrL,wrR]
theorem wr2R (S x:Int):Wr (Wr S+Wr (2+x))=Wr (S+(2+x)):=by rw [wrL,wrR]
theorem p16 {k:Nat}(hk:k<(mG m).2.1.length)(hk2:(mG m).2.1.length≤100)(q:Que)(hq:q.2.1.length≤100000){M:Nat}{R:Int→Option (Int×Int×Unit)}
    (hR:∀ n S,M≤n→Zaq n (mG m).2.1 (mT m) (rowW m false) (rowW m true) (Wr S) (mU m) (Int.ofNat (mU m).length) ((k+1:Nat):Int)=R S) (n:Nat) (S:Int) (hn:M+100010≤n) :
    Xb n (mG m).2.1 (mT m) (rowW m false) (rowW m true) (Wr S) (k:Int) (mU m) (Int.ofNat (mU m).length) (k:Int) q.2.1 (Int.ofNat q.2.1.length) 0=R (S+vQ m k q) :=
  Zls (f:=fun n s i=>Xb n (mG m).2.1 (mT m) (rowW m false) (rowW m true) s (k:Int) (mU m) (Int.ofNat (mU m).length) (k:Int) q.2.1 (Int.ofNat q.2.1.length) i) (l:=q.2.1) (v:=fun _ e=>ofv m e.1 k) (fin:=R) (C:=1) (N:=M+1)
   (fun i e M R he hR n S hn=>by
    obtain⟨n,rfl⟩:∃ q,n=q+1:=⟨n - 1,by omega⟩
    have hi:=(List.getElem?_eq_some_iff.1 he).1
    show _=R (S+ofv m e.1 k)
    rw [Zi2,ltL he,cond_true,ix_s he,wS (show i<1000000000000 by omega),ofv]
    cases (e.1==1) with
    | true =>
     rw [cond_true,cond_true,ix_s (Zyo hk),← hR n _ (by omega),← wrL]
    | false =>
     rw [cond_false,cond_false]
     cases (e.1==2) with
     | true=>rw [cond_true,cond_true,ix_s (Zyp hk),← hR n _ (by omega),← wrL]
     | false=>rw [cond_false,cond_false,← hR n _ (by omega),← wrL])
   (fun n S hn=>by
    obtain⟨n,rfl⟩:∃ q,n=q+1:=⟨n - 1,by omega⟩
    rw [Zi2,geL,cond_false,wS (show k<1000000000000 by omega)]
    exact hR n S (by omega)) n S (by omega)
theorem p56 {k:Nat}(hk:k<(mG m).2.1.length)(hk2:(mG m).2.1.length≤100)(l:List Evt)(hl:l.length≤100000){M:Nat}{R:Int→Option (Int×Int×Unit)}
    (hR:∀ n S,M≤n→Xc n (mT m) (rowW m false) (rowW m true) (Wr S) (mG m).2.1 (Int.ofNat (mG m).2.1.length) ((k+1:Nat):Int)=R S) (n:Nat) (S:Int) (hn:M+200010≤n) :
    Xd n (mT m) (rowW m false) (rowW m true) (Wr S) (k:Int) (mG m).2.1 (Int.ofNat (mG m).2.1.length) (k:Int) l (Int.ofNat l.length) 0=R (S+sumI (fun _ x=>evv m k x) 0 l) :=
  Zls (f:=fun n s i=>Xd n (mT m) (rowW m false) (rowW m true) s (k:Int) (mG m).2.1 (Int.ofNat (mG m).2.1.length) (k:Int) l (Int.ofNat l.length) i) (l:=l) (v:=fun _ x=>evv m k x) (fin:=R) (C:=2) (N:=M+1)
   (fun i e M R he hR n S hn=>by
    obtain⟨n,rfl⟩:∃ q,n=q+1+1:=⟨n - 2,by omega⟩
    have hi:=(List.getElem?_eq_some_iff.1 he).1
    show _=R (S+evv m k e)
    rw [Zi5,ltL he,cond_true,ix_s he,evv]
    cases e.1 with
    | true =>
     rw [cond_true,cond_true,Zi6,show ((2:Int)==1)=false from rfl,cond_false,show ((2:Int)==2)=true from rfl,cond_true,ix_s (Zyp hk),wS (show i<1000000000000 by omega),← hR n _ (by omega),← wr2R]
    | false =>
     rw [cond_false,cond_false,Zi6,show ((1:Int)==1)=true from rfl,cond_true,ix_s (Zyo hk),wS (show i<1000000000000 by omega),← hR n _ (by omega),← wr2R])
   (fun n S hn=>by
    obtain⟨n,rfl⟩:∃ q,n=q+1:=⟨n - 1,by omega⟩
    rw [Zi5,geL,cond_false,wS (show k<1000000000000 by omega)]
    exact hR n S (by omega)) n S (by omega)
theorem p40 {k:Nat}(hk:k<(mG m).2.1.length)(hk2:(mG m).2.1.length≤100)(c:Cn)(t:Tsk)(ht:TLen t){M:Nat}{R:Int→Option (Int×Int×Unit)}
    (hR:∀ n S,M≤n→Xc n (mT m) (rowW m false) (rowW m true) (Wr S) (mG m).2.1 (Int.ofNat (mG m).2.1.length) ((k+1:Nat):Int)=R S) (n:Nat) (S:Int) (hn:M+400000≤n) :
    Ym n (mT m) (rowW m false) (rowW m true) (Wr S) (k:Int) c.2.1 t.2.2.2.2.2.2.1 (mG m).2.1 (Int.ofNat (mG m).2.1.length) (k:Int) t.2.2.2.1 (Int.ofNat t.2.2.2.1.length) 0=R (S+vP m k c t):=by
  have h1:=ht.h1
  have h4:=ht.h4
  have:=Zls (f:=fun n s i=>Ym n (mT m) (rowW m false) (rowW m true) s (k:Int) c.2.1 t.2.2.2.2.2.2.1 (mG m).2.1 (Int.ofNat (mG m).2.1.length) (k:Int) t.2.2.2.1 (Int.ofNat t.2.2.2.1.length) i) (l:=t.2.2.2.1)
   (v:=fun _ (s:Snd)=>bif s.1==c.2.1 then 1+ofv m s.2.1 k else 0) (fin:=fun S=>R (S+sumI (fun _ x=>evv m k x) 0 t.2.2.2.2.2.2.1)) (C:=1) (N:=M+200100)
   (fun i e M R he hR n S hn=>by
    obtain⟨n,rfl⟩:∃ q,n=q+1:=⟨n - 1,by omega⟩
    have hi:=(List.getElem?_eq_some_iff.1 he).1
    show _=R (S+bif e.1==c.2.1 then 1+ofv m e.2.1 k else 0)
    rw [Zi4,ltL he,cond_true,ix_s he,wS (show i<1000000000000 by omega)]
    cases (e.1==c.2.1) with
    | false=>rw [cond_false,cond_false,← hR n _ (by omega),Int.add_zero]
    | true =>
     rw [cond_true,cond_true,ofv]
     cases (e.2.1==1) with
     | true=>rw [cond_true,cond_true,ix_s (Zyo hk),← hR n _ (by omega),← wr1R]
     | false =>
      rw [cond_false,cond_false]
      cases (e.2.1==2) with
      | true=>rw [cond_true,cond_true,ix_s (Zyp hk),← hR n _ (by omega),← wr1R]
      | false=>rw [cond_false,cond_false,← hR n _ (by omega),← wrL];rfl)
   (fun n S hn=>by
    obtain⟨n,rfl⟩:∃ q,n=q+1+1:=⟨n - 2,by omega⟩
    rw [Zi4,geL,cond_false,Zrr]
    exact p56 hk hk2 _ h4 hR n S (by omega)) n S (by omega)
  rw [this,vP,Int.add_assoc]
theorem Yjr {r:List Int}(hv:Val m r)(hm:MLen m)(hc:Zf2 m=some (0,())):Zgu m=some (Wr (0+sumI (vQ m) 0 (mU m)+sumI (vC m) 0 (mG m).2.1+sumI vS 0 (mT m)),0,()):=by
 have hf:=Ya
 have h1:=hv.ops
 have h2:=hv.chs
 have htl:=hm.tl
 have hul:=hv.ul
 have e75:∀ n S,200000≤n→Qe n (Wr S) (mT m) (Int.ofNat (mT m).length) 0=some (Wr (S+sumI vS 0 (mT m)),0,()):=fun n S hn =>
  Zls (f:=fun n s i=>Qe n s (mT m) (Int.ofNat (mT m).length) i) (l:=mT m) (v:=vS) (fin:=fun S=>some (Wr S,0,())) (C:=1) (N:=1)
   (fun i e M R he hR n S hn=>by
    obtain⟨n,rfl⟩:∃ q,n=q+1:=⟨n - 1,by omega⟩
    have hi:=(List.getElem?_eq_some_iff.1 he).1
    rw [Zi7,ltL he,cond_true,ix_s he,wS (show i<1000000000000 by omega),← hR n _ (by omega)]
    show Qe n (Wr (Wr S+Wr (2 * Int.ofNat _))) _ _ _=_
    rw [wrL,wrR]
    rfl)
   (fun n S hn=>by
    obtain⟨n,rfl⟩:∃ q,n=q+1:=⟨n - 1,by omega⟩
    rw [Zi7,geL]
    rfl) n S (by omega)
 have e32:∀ n S,100000000≤n→Xc n (mT m) (rowW m false) (rowW m true) (Wr S) (mG m).2.1 (Int.ofNat (mG m).2.1.length) 0=some (Wr (S+sumI (vC m) 0 (mG m).2.1+sumI vS 0 (mT m)),0,()):=fun n S hn =>
  Zls (f:=fun n s i=>Xc n (mT m) (rowW m false) (rowW m true) s (mG m).2.1 (Int.ofNat (mG m).2.1.length) i) (l:=(mG m).2.1) (v:=vC m) (fin:=fun S=>some (Wr (S+sumI vS 0 (mT m)),0,())) (C:=400010) (N:=200010)
   (fun k c M R hc hR n S hn=>by
    obtain⟨n,rfl⟩:∃ q,n=q+1:=⟨n - 1,by omega⟩
    have hk:=(List.getElem?_eq_some_iff.1 hc).1
    have hok:=hv.ok.1 c (List.mem_of_getElem? hc)
    simp only [okC,Tj.okC,Bool.and_eq_true,decide_eq_true_eq] at hok
    obtain⟨f,hf1⟩:∃ f:Nat,c.1=(f:Int):=⟨c.1.toNat,by omega⟩
    obtain⟨t,ht⟩:∃ t,(mT m)[f]? = some t:=⟨_,List.getElem?_eq_getElem (by have:=hv.tl;omega)⟩
    have hvc:vC m k c=vP m k c t:=by rw [vC,hf1,Int.toNat_natCast,ht];rfl
    rw [Zi3,ltL hc,cond_true,ix_s hc,hf1,ix_s ht,hvc]
    exact p40 hk h2 c t (hm.t t (List.mem_of_getElem? ht)) hR n S (by omega))
   (fun n S hn=>by
    obtain⟨n,rfl⟩:∃ q,n=q+1+1:=⟨n - 2,by omega⟩
    rw [Zi3,geL,cond_false,Zrq]
    exact e75 n S (by omega)) n S (by omega)
 have e10:=Zls (f:=fun n s i=>Zaq n (mG m).2.1 (mT m) (rowW m false) (rowW m true) s (mU m) (Int.ofNat (mU m).length) i) (l:=mU m) (v:=vQ m) (fin:=fun S=>some (Wr (S+sumI (vC m) 0 (mG m).2.1+sumI vS 0 (mT m)),0,())) (C:=100020) (N:=100000010)
  (fun k q M R hq hR n S hn=>by
   obtain⟨n,rfl⟩:∃ q,n=q+1:=⟨n - 1,by omega⟩
   have hk:=(List.getElem?_eq_some_iff.1 hq).1
   rw [Zi1,ltL hq,cond_true,ix_s hq]
   exact p16 (by omega) h2 q (hm.u q (List.mem_of_getElem? hq)) hR n S (by omega))
  (fun n S hn=>by
   obtain⟨n,rfl⟩:∃ q,n=q+1+1:=⟨n - 2,by omega⟩
   rw [Zi1,geL,cond_false,Zva]
   exact e32 n S (by omega)) fuel 0 (by omega)
 rw [wr0] at e10
 rw [Zm3,Z3d hv hc,Option.bind_some,bne_self_eq_false,cond_false]
 exact e10
end Tg

/- The bound that the reference tells, as a sum. -/
namespace Tg
open Go
open Go.Abs (Zg Zz tmm)
variable {m:Mch}
structure Tok (m:Mch) (i:Nat) (t:Tsk):Prop where
 snd:∀ s∈t.2.2.2.1,0≤s.1∧s.1<(cnt false (i:Int) (mG m).2.1:Int)
 ev:t.2.2.2.2.2.2.1.length≠0→cnt false (i:Int) (mG m).2.1=1
theorem Yjs {b:Bool}(h:mchB b m=true){i:Nat}{t:Tsk}(ht:(mT m)[i]? = some t):Tok m i t:=by
 obtain⟨_,hr,_,_,htl,_,_,hfit⟩:=Z8v h
 have hi:=(List.getElem?_eq_some_iff.1 ht).1
 have hfb:=hfit i t ht
 obtain⟨o,ho⟩:∃ o,(mG m).1[i]? = some o:=⟨_,List.getElem?_eq_getElem (by omega)⟩
 unfold fitB at hfb
 rw [ho] at hfb
 simp only [Bool.and_eq_true,beq_iff_eq (a:=t.1),List.all_eq_true,decide_eq_true_eq] at hfb
 obtain⟨⟨e1,_⟩,hT,hS,_⟩:=hfb
 have hT2:=hT
 unfold Zig at hT2
 simp only [Bool.and_eq_true,List.all_eq_true] at hT2
 obtain⟨_,_,hk,hsn,_⟩:=hT2
 refine⟨fun s hs=>⟨?_,hS s hs⟩,fun he=>?_⟩
 · have:=hsn s hs
   unfold sndB at this
   simp only [Bool.and_eq_true,decide_eq_true_eq] at this
   exact this.1
 · have hm:=(hr.2.2 i o ho).2
   have h1:t.1=1:=by
    refine Classical.byContradiction fun hn=>?_
    unfold Ztj at hk
    simp only [show (t.1==1)=false by simpa using hn,cond_false] at hk
    revert hk
    cases (t.1==2) <;> cases (t.1==3) <;> cases (t.1==4) <;> cases (t.1==5) <;> cases (t.1==6) <;> simp only [cond_true,cond_false,Bool.and_eq_true,beq_iff_eq,decide_eq_true_eq] <;> intro hk <;> omega
   rw [← e1,h1] at hm
   unfold Zga at hm
   simp only [Bool.and_eq_true,decide_eq_true_eq] at hm
   obtain⟨_,⟨_,_⟩,m3,m4⟩:=hm
   have b1:(bnd 1).2.2.1=1:=rfl
   have b2:(bnd 1).2.2.2=1:=rfl
   omega
def oc (m:Mch)(i o:Nat):Nat:=((joinL false (mG m) (i:Int))[o]?).elim 0 (·.1.toNat)
theorem oc_s {r:List Int}(hv:Val m r){i o:Nat}(h:o<cnt false (i:Int) (mG m).2.1):(joinL false (mG m) (i:Int))[o]? = some (((oc m i o:Nat):Int),()) ∧ ∃ c,(mG m).2.1[oc m i o]? = some c∧c.1=(i:Int):=by
 have hl:=Zdv hv.ok false (i:Int)
 obtain⟨y,hy⟩:∃ y,(joinL false (mG m) (i:Int))[o]? = some y:=⟨_,List.getElem?_eq_getElem (by omega)⟩
 obtain⟨j,c,rfl,hc,hs⟩:=Z0m hv.ok (List.mem_of_getElem? hy)
 have:oc m i o=j:=by rw [oc,hy];simp
 rw [this]
 exact⟨hy,c,hc,hs⟩
def vR (m:Mch)(i:Nat)(t:Tsk):Int:=sumI (fun _ (s:Snd)=>1+ofv m s.2.1 (oc m i s.1.toNat)) 0 t.2.2.2.1+(sumI (fun _ x=>evv m (oc m i 0) x) 0 t.2.2.2.2.2.2.1+2 * (t.2.2.2.2.2.1.length:Int))
theorem q11 {k:Nat}(hk:k<(mG m).2.1.length)(hk2:(mG m).2.1.length≤100){q:Que}(hq:(mU m)[k]? = some q)(hl:q.2.1.length≤100000){M:Nat}{R:Int→Option (Int×Unit)}
    (hR:∀ n S,M≤n→Zde n m.1 m.2.1 m.2.2.1 m.2.2.2.1 m.2.2.2.2.1 m.2.2.2.2.2.1 m.2.2.2.2.2.2.1 m.2.2.2.2.2.2.2.1 m.2.2.2.2.2.2.2.2.1 m.2.2.2.2.2.2.2.2.2.1 m.2.2.2.2.2.2.2.2.2.2.1 m.2.2.2.2.2.2.2.2.2.2.2.1 m.2.2.2.2.2.2.2.2.2.2.2.2.1 m.2.2.2.2.2.2.2.2.2.2.2.2.2.1 (rowW m false) (rowW m true) (Wr S) ((k+1:Nat):Int)=R S) (n:Nat) (S:Int) (hn:M+100010≤n) :
    Zbw n m.1 m.2.1 m.2.2.1 m.2.2.2.1 m.2.2.2.2.1 m.2.2.2.2.2.1 m.2.2.2.2.2.2.1 m.2.2.2.2.2.2.2.1 m.2.2.2.2.2.2.2.2.1 m.2.2.2.2.2.2.2.2.2.1 m.2.2.2.2.2.2.2.2.2.2.1 m.2.2.2.2.2.2.2.2.2.2.2.1 m.2.2.2.2.2.2.2.2.2.2.2.2.1 m.2.2.2.2.2.2.2.2.2.2.2.2.2.1 (rowW m false) (rowW m true) (Wr S) (k:Int) 0=R (S+vQ m k q):=by
  have hq2:m.2.2.2.2.2.2.2.2.2.2.2.2.2.1[k]? = some q:=hq
  exact Zls (f:=fun n s i=>Zbw n m.1 m.2.1 m.2.2.1 m.2.2.2.1 m.2.2.2.2.1 m.2.2.2.2.2.1 m.2.2.2.2.2.2.1 m.2.2.2.2.2.2.2.1 m.2.2.2.2.2.2.2.2.1 m.2.2.2.2.2.2.2.2.2.1 m.2.2.2.2.2.2.2.2.2.2.1 m.2.2.2.2.2.2.2.2.2.2.2.1 m.2.2.2.2.2.2.2.2.2.2.2.2.1 m.2.2.2.2.2.2.2.2.2.2.2.2.2.1 (rowW m false) (rowW m true) s (k:Int) i) (l:=q.2.1) (v:=fun _ e=>ofv m e.1 k) (fin:=R) (C:=1) (N:=M+1)
   (fun i e M R he hR n S hn=>by
    obtain⟨n,rfl⟩:∃ q,n=q+1:=⟨n - 1,by omega⟩
    have hi:=(List.getElem?_eq_some_iff.1 he).1
    show _=R (S+ofv m e.1 k)
    rw [Zm5,ix_s hq2,ltL he,cond_true,ix_s hq2,ix_s he,ix_s (Zyo hk),ix_s (Zyp hk),Zu9,wS (show i<1000000000000 by omega),ofv]
    cases (e.1==1) with
    | true=>rw [cond_true,cond_true,Option.bind_some,← hR n _ (by omega),← wrL]
    | false =>
     rw [cond_false,cond_false]
     cases (e.1==2) with
     | true=>rw [cond_true,cond_true,Option.bind_some,← hR n _ (by omega),← wrL]
     | false=>rw [cond_false,cond_false,Option.bind_some,← hR n _ (by omega),← wrL])
   (fun n S hn=>by
    obtain⟨n,rfl⟩:∃ q,n=q+1:=⟨n - 1,by omega⟩
    rw [Zm5,ix_s hq2,geL,cond_false,wS (show k<1000000000000 by omega)]
    exact hR n S (by omega)) n S (by omega)
theorem q33 {r:List Int}(hv:Val m r){i:Nat}{t:Tsk}(ht:Tok m i t)(hT:TLen t)(hi:i<1000){M:Nat}{R:Int→Option (Int×Unit)}
    (hR:∀ n S,M≤n→Xp n m.1 m.2.1 m.2.2.1 m.2.2.2.1 m.2.2.2.2.1 m.2.2.2.2.2.1 m.2.2.2.2.2.2.1 m.2.2.2.2.2.2.2.1 m.2.2.2.2.2.2.2.2.1 m.2.2.2.2.2.2.2.2.2.1 m.2.2.2.2.2.2.2.2.2.2.1 m.2.2.2.2.2.2.2.2.2.2.2.1 m.2.2.2.2.2.2.2.2.2.2.2.2.1 m.2.2.2.2.2.2.2.2.2.2.2.2.2.1 (rowW m false) (rowW m true) (Wr S) ((i+1:Nat):Int)=R S) (n:Nat) (S:Int) (hn:M+100010≤n) :
    Zar n m.1 m.2.1 m.2.2.1 m.2.2.2.1 m.2.2.2.2.1 m.2.2.2.2.2.1 m.2.2.2.2.2.2.1 m.2.2.2.2.2.2.2.1 m.2.2.2.2.2.2.2.2.1 m.2.2.2.2.2.2.2.2.2.1 m.2.2.2.2.2.2.2.2.2.2.1 m.2.2.2.2.2.2.2.2.2.2.2.1 m.2.2.2.2.2.2.2.2.2.2.2.2.1 m.2.2.2.2.2.2.2.2.2.2.2.2.2.1 (rowW m false) (rowW m true) (Wr S) (i:Int) t.2.2.2.2.2.1 t.2.2.2.2.2.2.1 (joinL false (mG m) (i:Int)) 0=R (S+(sumI (fun _ x=>evv m (oc m i 0) x) 0 t.2.2.2.2.2.2.1+2 * (t.2.2.2.2.2.1.length:Int))):=by
  have h4:=hT.h4
  have:=Zls (f:=fun n s j=>Zar n m.1 m.2.1 m.2.2.1 m.2.2.2.1 m.2.2.2.2.1 m.2.2.2.2.2.1 m.2.2.2.2.2.2.1 m.2.2.2.2.2.2.2.1 m.2.2.2.2.2.2.2.2.1 m.2.2.2.2.2.2.2.2.2.1 m.2.2.2.2.2.2.2.2.2.2.1 m.2.2.2.2.2.2.2.2.2.2.2.1 m.2.2.2.2.2.2.2.2.2.2.2.2.1 m.2.2.2.2.2.2.2.2.2.2.2.2.2.1 (rowW m false) (rowW m true) s (i:Int) t.2.2.2.2.2.1 t.2.2.2.2.2.2.1 (joinL false (mG m) (i:Int)) j) (l:=t.2.2.2.2.2.2.1) (v:=fun _ x=>evv m (oc m i 0) x) (fin:=fun S=>R (S+2 * (t.2.2.2.2.2.1.length:Int))) (C:=1) (N:=M+1)
   (fun j e M R he hR n S hn=>by
    obtain⟨n,rfl⟩:∃ q,n=q+1:=⟨n - 1,by omega⟩
    have hj:=(List.getElem?_eq_some_iff.1 he).1
    obtain⟨g1,c,g2,g3⟩:=oc_s hv (i:=i) (o:=0) (by rw [ht.ev (by omega)];omega)
    have hk:=(List.getElem?_eq_some_iff.1 g2).1
    show _=R (S+evv m (oc m i 0) e)
    rw [Zm8,ltL he,cond_true,g1,Option.bind_some,ix_s (Zyo hk),ix_s he,wS (show j<1000000000000 by omega),evv]
    cases e.1 with
    | true=>rw [cond_true,cond_true,Option.bind_some,ix_s (Zyp hk),← hR n _ (by omega),← wr2R]
    | false=>rw [cond_false,cond_false,← hR n _ (by omega),← wr2R])
   (fun n S hn=>by
    obtain⟨n,rfl⟩:∃ q,n=q+1:=⟨n - 1,by omega⟩
    rw [Zm8,geL,cond_false,wS (show i<1000000000000 by omega),← hR n _ (by omega)]
    show Xp n m.1 m.2.1 m.2.2.1 m.2.2.2.1 m.2.2.2.2.1 m.2.2.2.2.2.1 m.2.2.2.2.2.2.1 m.2.2.2.2.2.2.2.1 m.2.2.2.2.2.2.2.2.1 m.2.2.2.2.2.2.2.2.2.1 m.2.2.2.2.2.2.2.2.2.2.1 m.2.2.2.2.2.2.2.2.2.2.2.1 m.2.2.2.2.2.2.2.2.2.2.2.2.1 m.2.2.2.2.2.2.2.2.2.2.2.2.2.1 (rowW m false) (rowW m true) (Wr (Wr S+Wr (2 * Int.ofNat _))) _=_
    rw [wrL,wrR]
    rfl) n S (by omega)
  rw [this,Int.add_assoc]
theorem q26 {r:List Int}(hv:Val m r){i:Nat}{t:Tsk}(ht:Tok m i t)(hT:TLen t)(hi:i<1000){M:Nat}{R:Int→Option (Int×Unit)}
    (hR:∀ n S,M≤n→Xp n m.1 m.2.1 m.2.2.1 m.2.2.2.1 m.2.2.2.2.1 m.2.2.2.2.2.1 m.2.2.2.2.2.2.1 m.2.2.2.2.2.2.2.1 m.2.2.2.2.2.2.2.2.1 m.2.2.2.2.2.2.2.2.2.1 m.2.2.2.2.2.2.2.2.2.2.1 m.2.2.2.2.2.2.2.2.2.2.2.1 m.2.2.2.2.2.2.2.2.2.2.2.2.1 m.2.2.2.2.2.2.2.2.2.2.2.2.2.1 (rowW m false) (rowW m true) (Wr S) ((i+1:Nat):Int)=R S) (n:Nat) (S:Int) (hn:M+300010≤n) :
    Zbx n m.1 m.2.1 m.2.2.1 m.2.2.2.1 m.2.2.2.2.1 m.2.2.2.2.2.1 m.2.2.2.2.2.2.1 m.2.2.2.2.2.2.2.1 m.2.2.2.2.2.2.2.2.1 m.2.2.2.2.2.2.2.2.2.1 m.2.2.2.2.2.2.2.2.2.2.1 m.2.2.2.2.2.2.2.2.2.2.2.1 m.2.2.2.2.2.2.2.2.2.2.2.2.1 m.2.2.2.2.2.2.2.2.2.2.2.2.2.1 (rowW m false) (rowW m true) (Wr S) (i:Int) t.2.2.2.1 t.2.2.2.2.2.1 t.2.2.2.2.2.2.1 (joinL false (mG m) (i:Int)) 0=R (S+vR m i t):=by
  have h1:=hT.h1
  have:=Zls (f:=fun n s j=>Zbx n m.1 m.2.1 m.2.2.1 m.2.2.2.1 m.2.2.2.2.1 m.2.2.2.2.2.1 m.2.2.2.2.2.2.1 m.2.2.2.2.2.2.2.1 m.2.2.2.2.2.2.2.2.1 m.2.2.2.2.2.2.2.2.2.1 m.2.2.2.2.2.2.2.2.2.2.1 m.2.2.2.2.2.2.2.2.2.2.2.1 m.2.2.2.2.2.2.2.2.2.2.2.2.1 m.2.2.2.2.2.2.2.2.2.2.2.2.2.1 (rowW m false) (rowW m true) s (i:Int) t.2.2.2.1 t.2.2.2.2.2.1 t.2.2.2.2.2.2.1 (joinL false (mG m) (i:Int)) j) (l:=t.2.2.2.1) (v:=fun _ (s:Snd)=>1+ofv m s.2.1 (oc m i s.1.toNat))
   (fin:=fun S=>R (S+(sumI (fun _ x=>evv m (oc m i 0) x) 0 t.2.2.2.2.2.2.1+2 * (t.2.2.2.2.2.1.length:Int)))) (C:=1) (N:=M+100100)
   (fun j e M R he hR n S hn=>by
    obtain⟨n,rfl⟩:∃ q,n=q+1:=⟨n - 1,by omega⟩
    have hj:=(List.getElem?_eq_some_iff.1 he).1
    obtain⟨s0,s1⟩:=ht.snd e (List.mem_of_getElem? he)
    obtain⟨o,ho⟩:∃ o:Nat,e.1=(o:Int):=⟨e.1.toNat,by omega⟩
    obtain⟨g1,c,g2,g3⟩:=oc_s hv (i:=i) (o:=o) (by omega)
    have hk:=(List.getElem?_eq_some_iff.1 g2).1
    show _=R (S+(1+ofv m e.2.1 (oc m i e.1.toNat)))
    rw [Zm7,ltL he,cond_true,ix_s he,ho,ix_s g1,ix_s he,ix_s (Zyo hk),ix_s (Zyp hk),Zu9,wS (show j<1000000000000 by omega),Int.toNat_natCast,ofv]
    cases (e.2.1==1) with
    | true=>rw [cond_true,cond_true,Option.bind_some,← hR n _ (by omega),← wr1R]
    | false =>
     rw [cond_false,cond_false]
     cases (e.2.1==2) with
     | true=>rw [cond_true,cond_true,Option.bind_some,← hR n _ (by omega),← wr1R]
     | false=>rw [cond_false,cond_false,Option.bind_some,← hR n _ (by omega),← wr1R])
   (fun n S hn=>by
    obtain⟨n,rfl⟩:∃ q,n=q+1+1:=⟨n - 2,by omega⟩
    rw [Zm7,geL,cond_false,Zwy]
    exact q33 hv ht hT hi hR n S (by omega)) n S (by omega)
  rw [this,vR,Int.add_assoc]
theorem rSum {r:List Int}(hv:Val m r)(hm:MLen m)(htk:∀ i t,(mT m)[i]? = some t→Tok m i t):Zqc m=some (Wr (0+sumI (vQ m) 0 (mU m)+sumI (vR m) 0 (mT m)),()):=by
 have hf:=Ya
 have h1:=hv.ops
 have h2:=hv.chs
 have hul:=hv.ul
 have htl:=hv.tl
 have hout:∀ i:Nat,Zbd (m.1,m.2.1,m.2.2.1,m.2.2.2.1,m.2.2.2.2.1,m.2.2.2.2.2.1,m.2.2.2.2.2.2.1,m.2.2.2.2.2.2.2.1,m.2.2.2.2.2.2.2.2.1,m.2.2.2.2.2.2.2.2.2.1,m.2.2.2.2.2.2.2.2.2.2.1,m.2.2.2.2.2.2.2.2.2.2.2.1,m.2.2.2.2.2.2.2.2.2.2.2.2.1,m.2.2.2.2.2.2.2.2.2.2.2.2.2.1,()) (i:Int)=some (joinL false (mG m) (i:Int),()):=fun i=>Ydx m i (by omega)
 have e17:∀ n S,100000000≤n→Xp n m.1 m.2.1 m.2.2.1 m.2.2.2.1 m.2.2.2.2.1 m.2.2.2.2.2.1 m.2.2.2.2.2.2.1 m.2.2.2.2.2.2.2.1 m.2.2.2.2.2.2.2.2.1 m.2.2.2.2.2.2.2.2.2.1 m.2.2.2.2.2.2.2.2.2.2.1 m.2.2.2.2.2.2.2.2.2.2.2.1 m.2.2.2.2.2.2.2.2.2.2.2.2.1 m.2.2.2.2.2.2.2.2.2.2.2.2.2.1 (rowW m false) (rowW m true) (Wr S) 0=some (Wr (S+sumI (vR m) 0 (mT m)),()):=fun n S hn =>
  Zls (f:=fun n s i=>Xp n m.1 m.2.1 m.2.2.1 m.2.2.2.1 m.2.2.2.2.1 m.2.2.2.2.2.1 m.2.2.2.2.2.2.1 m.2.2.2.2.2.2.2.1 m.2.2.2.2.2.2.2.2.1 m.2.2.2.2.2.2.2.2.2.1 m.2.2.2.2.2.2.2.2.2.2.1 m.2.2.2.2.2.2.2.2.2.2.2.1 m.2.2.2.2.2.2.2.2.2.2.2.2.1 m.2.2.2.2.2.2.2.2.2.2.2.2.2.1 (rowW m false) (rowW m true) s i) (l:=mT m) (v:=vR m) (fin:=fun S=>some (Wr S,())) (C:=300020) (N:=1)
   (fun i t M R ht hR n S hn=>by
    obtain⟨n,rfl⟩:∃ q,n=q+1:=⟨n - 1,by omega⟩
    have hi:=(List.getElem?_eq_some_iff.1 ht).1
    have ht2:m.2.2.2.2.2.2.2.2.2.2.2.2.1[i]? = some t:=ht
    rw [Zm6,ltL ht2,cond_true,ix_s ht2,hout,Option.bind_some]
    exact q26 hv (htk i t ht) (hm.t t (List.mem_of_getElem? ht)) (by omega) hR n S (by omega))
   (fun n S hn=>by
    obtain⟨n,rfl⟩:∃ q,n=q+1:=⟨n - 1,by omega⟩
    have hge:decide (((mT m).length:Int)<Int.ofNat m.2.2.2.2.2.2.2.2.2.2.2.2.1.length)=false:=geL (l:=mT m)
    rw [Zm6,hge,cond_false]) n S (by omega)
 have e6:=Zls (f:=fun n s i=>Zde n m.1 m.2.1 m.2.2.1 m.2.2.2.1 m.2.2.2.2.1 m.2.2.2.2.2.1 m.2.2.2.2.2.2.1 m.2.2.2.2.2.2.2.1 m.2.2.2.2.2.2.2.2.1 m.2.2.2.2.2.2.2.2.2.1 m.2.2.2.2.2.2.2.2.2.2.1 m.2.2.2.2.2.2.2.2.2.2.2.1 m.2.2.2.2.2.2.2.2.2.2.2.2.1 m.2.2.2.2.2.2.2.2.2.2.2.2.2.1 (rowW m false) (rowW m true) s i) (l:=mU m) (v:=vQ m) (fin:=fun S=>some (Wr (S+sumI (vR m) 0 (mT m)),())) (C:=100020) (N:=100000010)
  (fun k q M R hq hR n S hn=>by
   obtain⟨n,rfl⟩:∃ q,n=q+1:=⟨n - 1,by omega⟩
   have hk:=(List.getElem?_eq_some_iff.1 hq).1
   have hlt:decide ((k:Int)<Int.ofNat m.2.2.2.2.2.2.2.2.2.2.2.2.2.1.length)=true:=ltL (l:=mU m) hq
   rw [Zpa,hlt,cond_true]
   exact q11 (by omega) h2 hq (hm.u q (List.mem_of_getElem? hq)) hR n S (by omega))
  (fun n S hn=>by
   obtain⟨n,rfl⟩:∃ q,n=q+1+1:=⟨n - 2,by omega⟩
   have hge:decide (((mU m).length:Int)<Int.ofNat m.2.2.2.2.2.2.2.2.2.2.2.2.2.1.length)=false:=geL (l:=mU m)
   rw [Zpa,hge,cond_false,Z0i]
   exact e17 n S (by omega)) fuel 0 (by omega)
 rw [wr0] at e6
 rw [Z29,Yd2 hv,Option.bind_some]
 exact e6
end Tg

/- Both sums are one: over channels, and over operators. -/
namespace Tg
open Go
variable {m:Mch}
theorem Yjt {r:List Int}(hv:Val m r){i o:Nat}(h:o<cnt false (i:Int) (mG m).2.1):ouO (mG m) (oc m i o)=(o:Int):=by
 have hk:=Zgn hv.ok false (i:Int)
 have hl:=Zdv hv.ok false (i:Int)
 have hs:=Tj.Zq2 hk
 have hlw:(Tj.Zhk false (i:Int) (mG m).2.1).length=cnt false (i:Int) (mG m).2.1:=by rw [← hl,joinL,List.length_map]
 have key:=Tj.Z5d ((Tj.Zhk false (i:Int) (mG m).2.1).map (Tj.keyO false (mG m).2.1)) 0 (List.pairwise_map.2 hs) (fun y hy=>by
  obtain⟨k,hk1,rfl⟩:=List.mem_map.1 hy
  obtain⟨c,hc,hs⟩:=Tj.Zow.1 ((Tj.Zox hk).1 hk1)
  have hs:c.1=(i:Int):=hs
  have hn:=hv.ok.2.1.2 c (List.mem_of_getElem? hc)
  simp only [Zcs,Bool.and_eq_true,decide_eq_true_eq] at hn
  rw [Tj.Zp9 hc,List.length_map,hlw]
  show 0≤c.2.1∧c.2.1<0+_
  rw [hs] at hn
  omega)
 obtain⟨g1,c,g2,g3⟩:=oc_s hv h
 have hj:(Tj.Zhk false (i:Int) (mG m).2.1)[o]? = some (oc m i o):=by
  rw [joinL,List.getElem?_map,Option.map_eq_some_iff] at g1
  obtain⟨k,h1,h2⟩:=g1
  rw [h1]
  have:=congrArg (fun y:Int×Unit=>y.1) h2
  dsimp only at this
  congr 1
  omega
 have e1:((Tj.Zhk false (i:Int) (mG m).2.1).map (Tj.keyO false (mG m).2.1))[o]? = some (Tj.keyO false (mG m).2.1 (oc m i o)):=by rw [List.getElem?_map,hj];rfl
 rw [key,List.getElem?_map,List.length_map,hlw,List.getElem?_range h] at e1
 have e2:=Option.some.inj e1
 rw [Tj.Zp9 g2] at e2
 rw [Z7s g2]
 have e3:(0:Int)+(o:Int)=c.2.1:=e2
 omega
theorem Yju (b:Bool)(n:Nat)(f:Nat→Int):(bif b then sR n f else 0)=sR n fun j=>bif b then f j else 0:=by
 cases b with
 | true=>rfl
 | false=>exact (Zpb fun _ _=>rfl).symm
theorem Ygf (b:Bool)(x y:Int):(bif b then x+y else 0)=(bif b then x else 0)+(bif b then y else 0):=by cases b <;> rfl
theorem Yjv {r:List Int}(hv:Val m r){i:Nat}{t:Tsk}(ht:(mT m)[i]? = some t)(hk:Tok m i t) :
    (sR (mG m).2.1.length fun k=>bif frO (mG m) k==(i:Int) then ((mG m).2.1[k]?).elim 0 (vC m k) else 0) =
    sumI (fun _ (s:Snd)=>1+ofv m s.2.1 (oc m i s.1.toNat)) 0 t.2.2.2.1+sumI (fun _ x=>evv m (oc m i 0) x) 0 t.2.2.2.2.2.2.1:=by
  have e0:(sR (mG m).2.1.length fun k=>bif frO (mG m) k==(i:Int) then ((mG m).2.1[k]?).elim 0 (vC m k) else 0) =
      sR (mG m).2.1.length fun k=>(bif frO (mG m) k==(i:Int) then sumI (fun _ (s:Snd)=>bif s.1==ouO (mG m) k then 1+ofv m s.2.1 k else 0) 0 t.2.2.2.1 else 0)+(bif frO (mG m) k==(i:Int) then sumI (fun _ x=>evv m k x) 0 t.2.2.2.2.2.2.1 else 0):=by
    refine Zdf fun k hkl=>?_
    obtain⟨c,hc⟩:∃ c,(mG m).2.1[k]? = some c:=⟨_,List.getElem?_eq_getElem hkl⟩
    rw [← Ygf,hc,Zq4 hc,Z7s hc]
    by_cases e:c.1=(i:Int)
    · rw [show (c.1==(i:Int))=true by simpa using e,cond_true,cond_true]
      show vC m k c=_
      rw [vC,e,Int.toNat_natCast,ht]
      rfl
    · rw [show (c.1==(i:Int))=false by simpa using e,cond_false,cond_false]
  rw [e0,Z0j]
  congr 1
  · -- what is sent
    have e1:(sR (mG m).2.1.length fun k=>bif frO (mG m) k==(i:Int) then sumI (fun _ (s:Snd)=>bif s.1==ouO (mG m) k then 1+ofv m s.2.1 k else 0) 0 t.2.2.2.1 else 0) =
        sR (mG m).2.1.length fun k=>sR t.2.2.2.1.length fun j=>bif frO (mG m) k==(i:Int) then (t.2.2.2.1[j]?).elim 0 (fun s:Snd=>bif s.1==ouO (mG m) k then 1+ofv m s.2.1 k else 0) else 0:=by
      refine Zdf fun k hkl=>?_
      rw [Zmb,Yju]
    rw [e1,Z0k,Zmb]
    refine Zdf fun j hj=>?_
    obtain⟨s,hs⟩:∃ s,t.2.2.2.1[j]? = some s:=⟨_,List.getElem?_eq_getElem hj⟩
    obtain⟨s0,s1⟩:=hk.snd s (List.mem_of_getElem? hs)
    obtain⟨o,ho⟩:∃ o:Nat,s.1=(o:Int):=⟨s.1.toNat,by omega⟩
    have hoc:o<cnt false (i:Int) (mG m).2.1:=by omega
    obtain⟨g1,c,g2,g3⟩:=oc_s hv hoc
    have hko:=Yjt hv hoc
    have hlt:=(List.getElem?_eq_some_iff.1 g2).1
    rw [hs]
    simp only [Option.elim_some]
    rw [Z0l hlt (fun k hkl hne=>?_)]
    · rw [Zq4 g2,g3,hko,ho,beq_self_eq_true,beq_self_eq_true,cond_true,cond_true,Int.toNat_natCast]
    · obtain⟨d,hd⟩:∃ d,(mG m).2.1[k]? = some d:=⟨_,List.getElem?_eq_getElem hkl⟩
      rw [Zq4 hd,Z7s hd]
      by_cases e:d.1=(i:Int)
      · by_cases e2:s.1=d.2.1
        · exfalso
          refine hne ((Zgn hv.ok false (i:Int)).inj k (oc m i o) d c hd g2 e g3 ?_)
          rw [Z7s g2] at hko
          show d.2.1=c.2.1
          omega
        · rw [show (s.1==d.2.1)=false by simpa using e2,cond_false]
          cases (d.1==(i:Int)) <;> rfl
      · rw [show (d.1==(i:Int))=false by simpa using e,cond_false]
  · -- events
    by_cases he:t.2.2.2.2.2.2.1.length=0
    · have:t.2.2.2.2.2.2.1=[]:=List.length_eq_zero_iff.1 he
      rw [this]
      refine Zpb fun k _=>?_
      cases (frO (mG m) k==(i:Int)) <;> rfl
    · have h1:=hk.ev he
      obtain⟨g1,c,g2,g3⟩:=oc_s hv (i:=i) (o:=0) (by omega)
      have hlt:=(List.getElem?_eq_some_iff.1 g2).1
      rw [Z0l hlt (fun k hkl hne=>?_)]
      · rw [Zq4 g2,g3,beq_self_eq_true,cond_true]
      · obtain⟨d,hd⟩:∃ d,(mG m).2.1[k]? = some d:=⟨_,List.getElem?_eq_getElem hkl⟩
        rw [Zq4 hd]
        by_cases e:d.1=(i:Int)
        · exfalso
          have n1:=hv.ok.2.1.2 d (List.mem_of_getElem? hd)
          have n2:=hv.ok.2.1.2 c (List.mem_of_getElem? g2)
          simp only [Zcs,Bool.and_eq_true,decide_eq_true_eq] at n1 n2
          rw [e,h1] at n1
          rw [g3,h1] at n2
          refine hne ((Zgn hv.ok false (i:Int)).inj k (oc m i 0) d c hd g2 e g3 ?_)
          show d.2.1=c.2.1
          omega
        · rw [show (d.1==(i:Int))=false by simpa using e,cond_false]
theorem Ygg {r:List Int}(hv:Val m r)(htk:∀ i t,(mT m)[i]? = some t→Tok m i t):sumI (vC m) 0 (mG m).2.1+sumI vS 0 (mT m)=sumI (vR m) 0 (mT m):=by
 have htl:=hv.tl
 rw [Zmb,Zmb,Zmb]
 have eA:(sR (mG m).2.1.length fun k=>((mG m).2.1[k]?).elim 0 (vC m (0+k)))=sR (mT m).length fun i=>sR (mG m).2.1.length fun k=>bif frO (mG m) k==(i:Int) then ((mG m).2.1[k]?).elim 0 (vC m k) else 0:=by
  rw [Z0k]
  refine Zdf fun k hkl=>?_
  obtain⟨c,hc⟩:∃ c,(mG m).2.1[k]? = some c:=⟨_,List.getElem?_eq_getElem hkl⟩
  have hok:=hv.ok.1 c (List.mem_of_getElem? hc)
  simp only [okC,Tj.okC,Bool.and_eq_true,decide_eq_true_eq] at hok
  rw [Nat.zero_add,Zq4 hc,Z0l (k0:=c.1.toNat) (by omega) (fun i hi hne=>?_)]
  · rw [show (c.1==((c.1.toNat:Nat):Int))=true by rw [beq_iff_eq];omega,cond_true]
  · rw [show (c.1==(i:Int))=false by rw [beq_eq_false_iff_ne];omega,cond_false]
 rw [eA,← Z0j]
 refine Zdf fun i hi=>?_
 obtain⟨t,ht⟩:∃ t,(mT m)[i]? = some t:=⟨_,List.getElem?_eq_getElem hi⟩
 rw [Yjv hv ht (htk i t ht),ht,Nat.zero_add]
 show _+_+vS i t=vR m i t
 rw [vR,vS,Int.add_assoc]
end Tg
