import Derived.Test.YtmkkpgcecpnejaaGreatDoorEPK
import Derived.Test.YtmkkpgcecpnejaaGreatDoorEUb14
import Derived.Test.YtmkkpgcecpnejaaGreatDoorEMW
/- How many windows a record may have: the program and the reference. -/
set_option linter.unusedVariables false
set_option linter.unusedSimpArgs false
namespace Tg
theorem Yiu (x:Int)(h1 : -1000000000000000<=x)(h2:x<=1000000000000000):Go.IntKind.wrap .i64 x=x:=w64 (by omega) (by omega)
def winN (S E:Int):Int:=bif decide (S % E>0) then S / E+1 else S / E
theorem Yad {S E:Int}(hE:1<=E):(winN S E - 1) * E<S/\S<=winN S E * E:=by
 have h1:=Int.mul_ediv_add_emod S E;have h2:=Int.emod_nonneg S (show E≠0 by omega);have h3:=Int.emod_lt_of_pos S (show 0<E by omega);unfold winN;by_cases h:S % E>0
 . rw [dT h,cond_true,Int.sub_mul,Int.add_mul,Int.mul_comm (S / E) E];omega
 . rw [dF h,cond_false,Int.sub_mul,Int.mul_comm (S / E) E];omega
theorem Yhx {S E:Int}(hE:1<=E)(hS:1<=S)(hS2:S<=1073741824):0<=S / E/\S / E<=S:=by exact⟨Int.ediv_nonneg (by omega) (by omega),Int.ediv_le_self E (by omega)⟩
theorem Yiv {w:Int×Int×Int×Unit}(h:fitW w=true)(hk:w.1=2):1<=w.2.1/\w.2.1<=1073741824/\1<=w.2.2.1/\w.2.2.1<=w.2.1/\w.2.1<=16 * w.2.2.1:=by unfold fitW at h;rw [show (w.1==2)=true by simpa using hk] at h;simp only [cond_true,J0e,Bool.not_eq_true',decide_eq_false_iff_not,J0h] at h;obtain⟨h1,h2,h3,h4,h5⟩:=h;rw [w64 (by omega) (by omega)] at h5;omega

def winK (w:Int×Int×Int×Unit):Int:=if w.1=2 then winN w.2.1 w.2.2.1 else 1
theorem Yhy {w:Int×Int×Int×Unit}(h:fitW w=true):Zbj w=some (winK w,()):=by
 rw [Zqq];unfold winK;by_cases hk:w.1=2
 . obtain⟨h1,h2,h3,h4,h5⟩:=Yiv h hk;have hb:=Yhx (S:=w.2.1) h3 h1 h2;simp only [Zxw hk,cond_false,dF (show ¬ w.2.2.1=0 by omega),if_pos hk,Int.tmod_eq_emod_of_nonneg (show 0<=w.2.1 by omega),Int.tdiv_eq_ediv_of_nonneg (show 0<=w.2.1 by omega),Yiu (w.2.1 / w.2.2.1) (by omega) (by omega),Yiu (w.2.1 / w.2.2.1+1) (by omega) (by omega)];unfold winN;cases decide (w.2.1 % w.2.2.1>0) <;> rfl
 . simp only [Yis hk,cond_true,if_neg hk]

end Tg

/- Sums that wrap; loops in loops; sums over places. -/
namespace Tg
abbrev Wr (x:Int):Int:=Go.IntKind.wrap .i64 x
theorem wrL (a b:Int):Wr (Wr a+b)=Wr (a+b):=by simp only [Wr,Go.IntKind.wrap_i64];omega
theorem wrR (a b:Int):Wr (a+Wr b)=Wr (a+b):=by simp only [Wr,Go.IntKind.wrap_i64];omega
theorem wr0:Wr 0=0:=w64 (by omega) (by omega)
theorem wr1:Wr 1=1:=w64 (by omega) (by omega)
def sumI {α:Type}(v:Nat->α->Int):Nat->List α->Int
 | _,[]=>0
 | i,e::r=>v i e+sumI v (i+1) r
theorem drop_at {α:Type}{l:List α}{i:Nat}{e:α}{r:List α}(h:l.drop i=e::r):i<l.length/\l[i]? = some e/\l.drop (i+1)=r:=by
 have h1:i<l.length:=by have:=congrArg List.length h;simp at this;omega
 rw [List.drop_eq_getElem_cons h1] at h;injection h with a b
 exact⟨h1,by rw [J0c h1,a],b⟩
def sR:Nat->(Nat->Int)->Int
 | 0,_=>0
 | n+1,f=>sR n f+f n
theorem Z3j (f:Nat->Int):∀ n,sR (n+1) f=f 0+sR n (fun k=>f (k+1))
 | 0=>by simp [sR]
 | n+1=>by have:=Z3j f n;rw [sR,this,sR];omega
theorem Zn6 {f g:Nat->Int}:∀ {n:Nat},(∀ k,k<n->f k=g k)->sR n f=sR n g
 | 0,_=>rfl
 | n+1,h=>by rw [sR,sR,Zn6 (fun k hk=>h k (by omega)),h n (by omega)]
theorem Zzy {α:Type}(v:Nat->α->Int):∀ (l:List α) (i:Nat),sumI v i l=sR l.length fun k=>(l[k]?).elim 0 (v (i+k))
 | [],i=>rfl
 | e::r,i=>by rw [sumI,Zzy v r (i+1),J0p,Z3j];congr 1;exact Zn6 fun k hk=>by rw [List.getElem?_cons_succ,show i+1+k=i+(k+1) by omega]
theorem Zt6 {α:Type}{v w:Nat->α->Int}:∀ {l:List α} {i:Nat},(∀ k e,l[k]? = some e->v (i+k) e=w (i+k) e)->sumI v i l=sumI w i l
 | [],i,_=>rfl
 | e::r,i,h=>by have a:=Zt6 (v:=v) (w:=w) (l:=r) (i:=i+1) (fun k x hk=>by have:=h (k+1) x (by simpa using hk);rwa [show i+1+k=i+(k+1) by omega]);rw [sumI,sumI,a,show v i e=w i e from h 0 e rfl]
end Tg

/- What a right machine's parts are. -/
namespace Tg
open Go
open Go.Abs (Zc Zh tmm)
theorem Yae {b:Bool}{m:Mch}(h:mchB b m=true):b=true/\Tj.Zat (mG m).1 (mG m).2.1/\(mG m).1.length<=20/\(mG m).2.1.length<=100/\(mT m).length=(mG m).1.length/\(mU m).length=(mG m).2.1.length/\(∀ q∈mU m,queB q=true)/\(∀ (i:Nat) t,(mT m)[i]? = some t->fitB m.2.2.2.1 m.2.2.2.2.2.2.2.2.2.1 (mG m) i t=true):=by
 unfold mchB at h;simp only [J0e,beq_iff_eq] at h;obtain⟨h1,h2,h3,h4,h5,h6⟩:=h;obtain⟨g1,g2,g3⟩:=Zzw h2;refine⟨h1,Zzt g3,g1,g2,h3,h4,fun q hq=>?_,fun i t ht=>?_⟩
 . obtain⟨i,hi⟩:=List.getElem?_of_mem hq;have:=Zlb h5 hi;unfold queI at this;split at this
   . cases this
   . rw [J0e] at this;exact this.2
 . have:=Zlb h6 ht;rwa [Nat.zero_add] at this
end Tg

/- What a message weighs for an operator: the reference. -/
namespace Tg
open Go
open Go.Abs (Zc Zh tmm)
def kdO (x:Gr)(op:Int):Int:=(x.1[op.toNat]?).elim 0 (·.1)
def toO (x:Gr)(k:Nat):Int:=(x.2.1[k]?).elim 0 (·.2.2.1)
def frO (x:Gr)(k:Nat):Int:=(x.2.1[k]?).elim 0 (·.1)
theorem Zg2 {x:Gr}{k:Nat}{c:Cn}(h:x.2.1[k]? = some c):toO x k=c.2.2.1:=by rw [toO,h];rfl
theorem Yiw {x:Gr}{k:Nat}{c:Cn}(h:x.2.1[k]? = some c):frO x k=c.1:=by rw [frO,h];rfl
def wt (x:Gr)(W:Int)(mk:Bool):Nat->Int->Int
 | 0,_=>0
 | d+1,op=>bif kdO x op==6||kdO x op==7 then 1 else bif kdO x op==4||kdO x op==5 then (bif mk then 1 else Wr (1+Wr (2 * W))) else Wr (1+sumI (fun _ (j:Int×Unit)=>1+wt x W mk d (toO x j.1.toNat)) 0 (joinL false x op))
structure Topo (x:Gr) (pos:Int->Nat):Prop where
 up:∀ c∈x.2.1,pos c.1<pos c.2.2.1
 le:∀ c∈x.2.1,pos c.2.2.1<=20
theorem Z8r {x:Gr}(h:Tj.Zat x.1 x.2.1){b:Bool}{op:Int}{y:Int×Unit}(hy:y∈joinL b x op):∃ (i:Nat) (c:Cn),y=((i:Int),())/\x.2.1[i]? = some c/\Tj.selF b c=op:=by unfold joinL at hy;rw [List.mem_map] at hy;obtain⟨i,hi,rfl⟩:=hy;obtain⟨c,h1,h2⟩:=Tj.Zq9.1 ((Tj.Ztz (Znx h b op)).1 hi);exact⟨i,c,rfl,h1,h2⟩
theorem Z8s {x:Gr}{W:Int}{mk:Bool}{pos:Int->Nat}(hr:Tj.Zat x.1 x.2.1)(ht:Topo x pos):∀ (d e:Nat) (op:Int),20 - pos op<d->20 - pos op<e->wt x W mk d op=wt x W mk e op:=by
 intro d
 induction d with
 | zero=>intro e op h;omega
 | succ d ih =>
  intro e op h1 h2;obtain⟨e,rfl⟩:∃ k,e=k+1:=⟨e - 1,by omega⟩;have:sumI (fun _ (j:Int×Unit)=>1+wt x W mk d (toO x j.1.toNat)) 0 (joinL false x op)=sumI (fun _ (j:Int×Unit)=>1+wt x W mk e (toO x j.1.toNat)) 0 (joinL false x op):=by refine Zt6 fun k y hy=>?_;obtain⟨i,c,rfl,hc,hs⟩:=Z8r hr (J0j hy);have:=ht.up c (J0j hc);have hs:c.1=op:=hs;have hle:=ht.le c (J0j hc);rw [hs] at this;dsimp only;rw [J0l,Zg2 hc,ih e c.2.2.1 (by omega) (by omega)]
  rw [wt,wt,this]
def mW (m:Mch):Int×Int×Int×Unit:=(m.2.2.2.2.2.1,m.2.2.2.2.2.2.1,m.2.2.2.2.2.2.2.1,())
end Tg

/- The order of a right graph gives places. -/
namespace Tg
open Go
def posL:List Int->Int->Nat
 | [],_=>0
 | a::r,op=>if a=op then 0 else posL r op+1
theorem Z8t:∀ (r:List Int) (j:Nat) (op:Int),r[j]? = some op->posL r op<=j
 | [],j,op,h=>by simp at h
 | a::r,j,op,h=>by
  rw [posL];by_cases e:a=op
  . rw [if_pos e];omega
  . rw [if_neg e];cases j with
    | zero=>exact absurd (J0a h) e
    | succ j=>have:=Z8t r j op (by simpa using h);omega
theorem Zt7:∀ (r:List Int) (op:Int),op∈r->r[posL r op]? = some op
 | [],op,h=>by cases h
 | a::r,op,h=>by
  rw [posL];by_cases e:a=op
  . rw [if_pos e,e];rfl
  . rw [if_neg e];have:=Zt7 r op (by rcases List.mem_cons.1 h with h | h;exact absurd h.symm e;exact h);simpa using this
structure Ord (x:Gr) (r:List Int):Prop where
 len:r.length=x.1.length
 nd:r.Nodup
 rng:∀ op∈r,0<=op/\op<x.1.length
 all:∀ op:Int,0<=op->op<x.1.length->op∈r
 up:∀ (i:Nat) (op:Int),r[i]? = some op -> ∀ c∈x.2.1,c.2.2.1=op -> ∃ j,j<i/\r[j]? = some c.1
theorem Ym8 {x:Gr}(h:gChk x=0):∃ r,Qs x=some (r.map fun i=>(i,()),())/\Ord x r:=by
 obtain⟨h1,h2,h3⟩:=Zzw h;have hr:=Zzt h3;obtain⟨ops,chs,u⟩:=x;have hg:=(Tj.Znr ops chs).2 h3;have hrng:∀ c∈chs.map Tj.tch,0<=c.1/\c.1<(ops.length:Int)/\0<=c.2.2.1/\c.2.2.1<(ops.length:Int):=fun c hc=>by obtain⟨d,hd,rfl⟩:=List.mem_map.1 hc;have:=hr.1 d hd;simp only [okC,Tj.okC,J0e,J0h] at this;show 0<=d.1/\d.1<(ops.length:Int)/\0<=d.2.2.1/\d.2.2.1<(ops.length:Int);omega
 have h1:ops.length<=20:=h1;have h2:chs.length<=100:=h2;obtain⟨r,e1,e2⟩:=Zxk ops.length (chs.map Tj.tch) (by omega) (by rw [List.length_map];omega) hrng (ops.length+chs.length+1) (by omega);obtain⟨t1,t2,t3⟩:=Z55 ops.length (chs.map Tj.tch) (by omega) (by rw [List.length_map];omega) hrng (ops.length+chs.length+1) r e1;have hlen:r.length=ops.length:=e2.2 hg.2.2;refine⟨r,?_,hlen,t1,t2,fun op o1 o2=>?_,fun i op hi c hc hop=>?_⟩
 . rw [Zvq _ (by show ops.length<=64;omega) (by show chs.length<=256;omega) (fun c hc=>by have:=hrng (Tj.tch c) (List.mem_map.2 ⟨c,hc,rfl⟩);have a:0<=c.2.2.1:=this.2.2.1;have b:c.2.2.1<(ops.length:Int):=this.2.2.2;omega)];have:Yd9 (ops,chs,u)=some r:=e1;rw [this];rfl
 . have hs:=(Tj.Z21 r).2 ⟨t1,fun y hy=>by have:=t2 y hy;omega⟩;have hm:op∈Tj.srt r:=by rw [hs,Tj.upto,List.mem_map];have o2:op<(ops.length:Int):=o2;exact⟨op.toNat,by rw [List.mem_range];omega,by simp only [J0g];omega⟩
   rw [Tj.srt] at hm;exact List.mem_mergeSort.1 hm
 . exact t3 i op hi (Tj.tch c) (List.mem_map.2 ⟨c,hc,rfl⟩) hop
theorem Z8u {x:Gr}{r:List Int}(h:Ord x r)(hr:Tj.Zat x.1 x.2.1)(hl:x.1.length<=20):Topo x (posL r):=by
 have key:∀ c∈x.2.1,c.2.2.1∈r:=fun c hc=>by have:=hr.1 c hc;simp only [okC,Tj.okC,J0e,J0h] at this;exact h.all _ (by omega) (by omega)
 refine⟨fun c hc=>?_,fun c hc=>?_⟩
 . obtain⟨j,j1,j2⟩:=h.up _ _ (Zt7 r _ (key c hc)) c hc rfl;have:=Z8t r j c.1 j2;omega
 . have:=(J0d.1 (Zt7 r _ (key c hc))).1;have:=h.len;omega
end Tg

/- The weights that the program tells. -/
namespace Tg
open Go
open Go.Abs (Zc Zh tmm)
def sumL {α:Type}(G:α->Int):List α->Int
 | []=>0
 | a::r=>G a+sumL G r
theorem Yeo {α:Type}(G:α->Int):∀ (l:List α) (i:Nat),sumI (fun _ e=>G e) i l=sumL G l
 | [],_=>rfl
 | a::r,i=>by rw [sumI,sumL,Yeo G r]
theorem Yaf {α:Type}(G:α->Int){a b:List α}(h:a.Perm b):sumL G a=sumL G b:=by
 induction h with
 | nil=>rfl
 | cons x _ ih=>rw [sumL,sumL,ih]
 | swap x y l=>simp only [sumL];omega
 | trans _ _ i1 i2=>rw [i1,i2]
theorem Yep {α:Type}(G:α->Int)(a b:List α):sumL G (a++b)=sumL G a+sumL G b:=by
 induction a with
 | nil=>simp [sumL]
 | cons x a ih=>rw [List.cons_append,sumL,ih,sumL];omega
theorem Yeq {α β:Type}(G:β->Int)(f:α->β)(l:List α):sumL G (l.map f)=sumL (fun a=>G (f a)) l:=by
 induction l with
 | nil=>rfl
 | cons x l ih=>rw [List.map_cons,sumL,sumL,ih]
theorem Zt8 (G:Nat->Int)(p:Nat->Bool):∀ n,sumL G ((List.range n).filter p)=sR n fun k=>bif p k then G k else 0
 | 0=>rfl
 | n+1=>by rw [List.range_succ,List.filter_append,Yep,Zt8 G p n,sR];cases h:p n <;> simp [h,sumL]
theorem Yer {x:Gr}(h:Tj.Zat x.1 x.2.1)(op:Int)(G:Nat->Int):sumI (fun _ (j:Int×Unit)=>G j.1.toNat) 0 (joinL false x op)=sR x.2.1.length fun k=>bif frO x k==op then G k else 0:=by
 rw [Yeo (fun j:Int×Unit=>G j.1.toNat),joinL,Yeq];have e:(fun i:Nat=>G (((i:Int),()):Int×Unit).1.toNat)=G:=by funext i;simp
 rw [e,<- Tj.Znv (Znx h false op),Yaf G (Tj.Zty false op x.2.1),Tj.idxN,Zt8];refine Zn6 fun k hk=>?_;obtain⟨c,hc⟩:∃ c,x.2.1[k]? = some c:=⟨_,J0c hk⟩;rw [hc,Yiw hc];simp only [Option.any_some,Tj.selF,cond_false];congr 1
theorem wr3 (S w:Int):Wr (Wr (Wr S+1)+w)=Wr (S+(1+w)):=by simp only [Wr,Go.IntKind.wrap_i64];omega
section
variable (x:Gr) (W:Int)
def wv (mk:Bool)(op:Int):Int:=wt x W mk 30 op
def rowP (Q:Nat->Bool)(mk:Bool):List (Int×Unit):=(List.range x.2.1.length).map fun k=>(bif Q k then wv x W mk (toO x k) else 0,())
variable {x W}
theorem Zn7 (Q:Nat->Bool)(mk:Bool):(rowP x W Q mk).length=x.2.1.length:=by simp [rowP]
theorem Zcn {Q:Nat->Bool}{mk:Bool}{k:Nat}(h:k<x.2.1.length):(rowP x W Q mk)[k]? = some (bif Q k then wv x W mk (toO x k) else 0,()):=by simp [rowP,h]
theorem Zc9 {Q Q' : Nat->Bool}{mk:Bool}(h:∀ k,k<x.2.1.length->Q k=Q' k):rowP x W Q mk=rowP x W Q' mk:=by refine List.map_congr_left fun k hk=>?_;rw [h k (List.mem_range.1 hk)]
theorem Z3k {Q:Nat->Bool}{mk:Bool}{k:Nat}(h:k<x.2.1.length):(rowP x W Q mk).set k (wv x W mk (toO x k),())=rowP x W (fun j=>Q j||j==k) mk:=by
 refine List.ext_getElem? fun j=>?_;by_cases hj:j<x.2.1.length
 . rw [Zcn hj];by_cases e:k=j
   . subst e;rw [List.getElem?_set_self (by rw [Zn7];exact h),beq_self_eq_true,Bool.or_true,cond_true]
   . rw [List.getElem?_set_ne e,Zcn hj];have:(j==k)=false:=by simpa using fun h=>e h.symm
     rw [this,Bool.or_false]
 . rw [List.getElem?_eq_none (by rw [List.length_set,Zn7];omega),List.getElem?_eq_none (by rw [Zn7];omega)]
theorem Ykr {pos:Int->Nat}(hr:Tj.Zat x.1 x.2.1)(ht:Topo x pos)(mk:Bool)(op:Int):wv x W mk op=bif kdO x op==6||kdO x op==7 then 1 else bif kdO x op==4||kdO x op==5 then (bif mk then 1 else Wr (1+Wr (2 * W))) else
    Wr (1+sR x.2.1.length fun k=>bif frO x k==op then 1+wv x W mk (toO x k) else 0):=by
  rw [wv,Z8s hr ht 30 31 op (by omega) (by omega),wt,<- Yer hr op (fun k=>1+wv x W mk (toO x k))];rfl
variable {w0 w1 w2:Int} {r:List Int}
theorem Yks (hl:x.2.1.length<=100){Q:Nat->Bool}{i:Nat}{t rec mark:Int}{M:Nat}{R:Option (List (Int×Unit)×List (Int×Unit)×Int×Unit)}
    (hv:∀ k,k<x.2.1.length->toO x k=t->rec=wv x W false t/\mark=wv x W true t)
    (hR:∀ n,M<=n->Yo n w0 w1 w2 x.1 x.2.1 (rowP x W (fun k=>Q k||toO x k==t) false) (rowP x W (fun k=>Q k||toO x k==t) true) (r.map fun i=>(i,())) (Go.IntKind.wrap .i64 ((i:Int) - 1))=R) (n:Nat) (hn:M+200<=n) :
    Xj n w0 w1 w2 x.1 x.2.1 (rowP x W Q false) (rowP x W Q true) (r.map fun i=>(i,())) (i:Int) t rec mark=R:=by
  obtain⟨n,rfl⟩:∃ q,n=q+1:=⟨n - 1,by omega⟩;rw [Zn5];have h0:∀ mk,rowP x W Q mk=rowP x W (fun k=>Q k||(decide (k<0)&&toO x k==t)) mk:=fun mk=>Zc9 fun k hk=>by simp
  rw [h0,h0];have:=Ycf (f:=fun n (j:Nat) k=>Qt n w0 w1 w2 x.1 x.2.1 (rowP x W (fun k=>Q k||(decide (k<j)&&toO x k==t)) false) (rowP x W (fun k=>Q k||(decide (k<j)&&toO x k==t)) true) (r.map fun i=>(i,())) (i:Int) t rec mark x.2.1 (Int.ofNat x.2.1.length) k)
   (l:=x.2.1) (g:=fun (j:Nat) _=>j+1) (fin:=fun _=>R) (N:=M+1) (fun k j=>j=k)
   (fun n j k c hc hj=>⟨by
    subst hj;have hk:=(J0d.1 hc).1;rw [Zga,ltL hc,cond_true,ix_s hc,wS (show j<1000000000000 by omega)];by_cases e:c.2.2.1=t
    . rw [show (c.2.2.1==t)=true by simpa using e,cond_true,Z71 (Zcn hk),Z71 (Zcn hk),J0l];obtain⟨v1,v2⟩:=hv j hk (by rw [Zg2 hc,e]);have e1:rec=wv x W false (toO x j):=by rw [Zg2 hc,e];exact v1
      have e2:mark=wv x W true (toO x j):=by rw [Zg2 hc,e];exact v2
      have hs:∀ mk,rowP x W (fun j' => (fun k=>Q k||(decide (k<j)&&toO x k==t)) j' || j' == j) mk=rowP x W (fun k=>Q k||(decide (k<j+1)&&toO x k==t)) mk:=fun mk=>Zc9 fun k hk' => by
       by_cases ek:k=j
       . subst ek;have:(toO x k==t)=true:=by rw [Zg2 hc];simpa using e
         simp [this]
       . have a1:(k==j)=false:=by simpa using ek
         have a2:decide (k<j+1)=decide (k<j):=by rw [decide_eq_decide];omega
         simp [a1,a2]
      rw [<- hs,<- hs,<- Z3k hk,<- Z3k hk,<- e1,<- e2]
    . rw [show (c.2.2.1==t)=false by simpa using e,cond_false];have hs:∀ mk,rowP x W (fun k=>Q k||(decide (k<j)&&toO x k==t)) mk=rowP x W (fun k=>Q k||(decide (k<j+1)&&toO x k==t)) mk:=fun mk=>Zc9 fun k hk' => by
       by_cases ek:k=j
       . subst ek;have:(toO x k==t)=false:=by rw [Zg2 hc];simpa using e
         simp [this]
       . have a2:decide (k<j+1)=decide (k<j):=by rw [decide_eq_decide];omega
         simp [a2]
      rw [hs,hs],by omega⟩)
   (fun n j hn hj=>by
    subst hj;rw [Zga,geL,cond_false];have hs:∀ mk,rowP x W (fun k=>Q k||(decide (k<x.2.1.length)&&toO x k==t)) mk=rowP x W (fun k=>Q k||toO x k==t) mk:=fun mk=>Zc9 fun k hk=>by simp [hk]
    rw [hs,hs];exact hR n (by omega)) n 0 rfl (by omega)
  exact this
end
end Tg

/- The weights that the program tells are those of the reference. -/
namespace Tg
open Go
open Go.Abs (Zc Zh tmm)
section
variable {x:Gr} {W w0 w1 w2:Int} {r:List Int}
theorem Ym9 (hl:x.2.1.length<=100){Q:Nat->Bool}{i:Nat}{t:Int}{M:Nat}{R:Option (List (Int×Unit)×List (Int×Unit)×Int×Unit)}
    (hQ:∀ k c,x.2.1[k]? = some c->c.1=t->Q k=true)
    (hR:∀ n,M<=n->Xj n w0 w1 w2 x.1 x.2.1 (rowP x W Q false) (rowP x W Q true) (r.map fun i=>(i,())) (i:Int) t
     (Wr (1+sR x.2.1.length fun k=>bif frO x k==t then 1+wv x W false (toO x k) else 0)) (Wr (1+sR x.2.1.length fun k=>bif frO x k==t then 1+wv x W true (toO x k) else 0))=R) (n:Nat) (hn:M+200<=n) :
    Yp n w0 w1 w2 x.1 x.2.1 (rowP x W Q false) (rowP x W Q true) (r.map fun i=>(i,())) (i:Int) t 1 1 x.2.1 (Int.ofNat x.2.1.length) 0=R:=by
  have:=Ycf (f:=fun n (s:Int×Int×Nat) k=>Yp n w0 w1 w2 x.1 x.2.1 (rowP x W Q false) (rowP x W Q true) (r.map fun i=>(i,())) (i:Int) t (Wr s.1) (Wr s.2.1) x.2.1 (Int.ofNat x.2.1.length) k)
   (l:=x.2.1) (g:=fun (s:Int×Int×Nat) c=>(s.1+(bif c.1==t then 1+wv x W false c.2.2.1 else 0),s.2.1+(bif c.1==t then 1+wv x W true c.2.2.1 else 0),s.2.2+1)) (fin:=fun _=>R) (N:=M+1)
   (fun k s=>s.1=1+sR k (fun k=>bif frO x k==t then 1+wv x W false (toO x k) else 0)/\s.2.1=1+sR k (fun k=>bif frO x k==t then 1+wv x W true (toO x k) else 0))
   (fun n s k c hc hp=>by
    have hk:=(J0d.1 hc).1;refine⟨?_,?_⟩
    . rw [Zf9,ltL hc,cond_true,ix_s hc,wS (show k<1000000000000 by omega)];by_cases e:c.1=t
      . rw [show (c.1==t)=true by simpa using e,cond_true,Z71 (Zcn hk),Z71 (Zcn hk),hQ k c hc e,cond_true,cond_true,Zg2 hc,cond_true,cond_true];show Yp n w0 w1 w2 x.1 x.2.1 _ _ _ _ _ (Wr (Wr (Wr s.1+1)+_)) (Wr (Wr (Wr s.2.1+1)+_)) _ _ _=_;rw [wr3,wr3]
      . rw [show (c.1==t)=false by simpa using e,cond_false,cond_false,cond_false,Int.add_zero,Int.add_zero]
    . rw [sR,sR,hp.1,hp.2,Yiw hc,Zg2 hc];exact⟨Int.add_assoc _ _ _,Int.add_assoc _ _ _⟩)
   (fun n s hn hp=>by rw [Zf9,geL,cond_false,hp.1,hp.2];exact hR n (by omega)) n (1,1,0) ⟨rfl,rfl⟩ (by omega)
  rw [wr1] at this;exact this
theorem Yhz {pos:Int->Nat}(hr:Tj.Zat x.1 x.2.1)(ho:x.1.length<=20)(hl:x.2.1.length<=100)(ht:Topo x pos)(hO:Ord x r)(hw:Zbj (w0,w1,w2,())=some (W,())):∀ (i:Nat),i<=r.length -> ∀ n,1000 * (i+1)<=n ->
    Yo n w0 w1 w2 x.1 x.2.1 (rowP x W (fun k=>(r.drop i).contains (toO x k)) false) (rowP x W (fun k=>(r.drop i).contains (toO x k)) true) (r.map fun i=>(i,())) ((i:Int) - 1) =
    some (rowP x W (fun _=>true) false,rowP x W (fun _=>true) true,0,()):=by
  have hto:∀ k c,x.2.1[k]? = some c->toO x k∈r:=fun k c hc=>by have:=hr.1 c (J0j hc);simp only [okC,Tj.okC,J0e,J0h] at this;rw [Zg2 hc];exact hO.all _ (by omega) (by omega)
  intro i
  induction i with
  | zero =>
   intro hi n hn;obtain⟨n,rfl⟩:∃ q,n=q+1:=⟨n - 1,by omega⟩;rw [Zf7,show decide (((0:Nat):Int) - 1>=0)=false by decide,cond_false];have:∀ mk,rowP x W (fun k=>(r.drop 0).contains (toO x k)) mk=rowP x W (fun _=>true) mk:=fun mk=>Zc9 fun k hk=>by obtain⟨c,hc⟩:∃ c,x.2.1[k]? = some c:=⟨_,J0c hk⟩;rw [List.drop_zero,List.contains_iff_mem];exact hto k c hc
   rw [this,this]
  | succ i ih =>
   intro hi n hn;have hi2:i<r.length:=by omega
   obtain⟨op,hop⟩:∃ op,r[i]? = some op:=⟨_,J0c hi2⟩;have hrg:=hO.rng op (J0j hop);obtain⟨t,rfl⟩:∃ t:Nat,op=(t:Int):=⟨op.toNat,by omega⟩;obtain⟨o,hx⟩:∃ o,x.1[t]? = some o:=⟨_,J0c (by omega)⟩;have hkd:kdO x (t:Int)=o.1:=by rw [kdO,J0l,hx];rfl
   have hdr:r.drop i=(t:Int)::r.drop (i+1):=by rw [List.drop_eq_getElem_cons hi2];congr 1;exact (J0d.1 hop).2
   have hm:(r.map fun i=>(i,()))[i]? = some ((t:Int),()):=by rw [J0m,hop];rfl
   have e1:(((i+1:Nat):Int) - 1)=(i:Int):=by omega
   have hll:=hO.len;have e2:Go.IntKind.wrap .i64 ((i:Int) - 1)=(i:Int) - 1:=w64 (by omega) (by omega)
   -- what comes behind
   have back:∀ n,1000 * (i+1)<=n->Yo n w0 w1 w2 x.1 x.2.1 (rowP x W (fun k=>(fun k=>(r.drop (i+1)).contains (toO x k)) k||toO x k==(t:Int)) false) (rowP x W (fun k=>(fun k=>(r.drop (i+1)).contains (toO x k)) k||toO x k==(t:Int)) true) (r.map fun i=>(i,())) (Go.IntKind.wrap .i64 ((i:Int) - 1)) =
       some (rowP x W (fun _=>true) false,rowP x W (fun _=>true) true,0,()):=fun n hn=>by
     rw [e2,<- ih (by omega) n hn];have:∀ mk,rowP x W (fun k=>(fun k=>(r.drop (i+1)).contains (toO x k)) k||toO x k==(t:Int)) mk=rowP x W (fun k=>(r.drop i).contains (toO x k)) mk:=fun mk=>Zc9 fun k hk=>by rw [hdr,List.contains_cons,Bool.or_comm]
     rw [this,this]
   have tail:=fun (rec mark:Int) (hv:∀ k,k<x.2.1.length->toO x k=(t:Int)->rec=wv x W false (t:Int)/\mark=wv x W true (t:Int))=>Yks (w0:=w0) (w1:=w1) (w2:=w2) (r:=r) hl (i:=i) hv back;have fx:=fun mk=>Ykr (W:=W) hr ht mk (t:Int);rw [hkd] at fx;obtain⟨n,rfl⟩:∃ q,n=q+1+1+1:=⟨n - 3,by omega⟩;rw [e1,Zf7,show decide ((i:Int)>=0)=true from decide_eq_true (by omega),cond_true,ix_s hm,ix_s hx];have hmany:=(hr.2.2 t o hx).2;by_cases k4:o.1=4
   . rw [show (o.1==4)=true by simpa using k4,cond_true,Zcm,cond_true,hw,J0k];refine tail _ _ (fun k _ _=>?_) _ (by omega);rw [fx,fx,k4];exact⟨rfl,rfl⟩
   . rw [show (o.1==4)=false by simpa using k4,cond_false];by_cases k5:o.1=5
     . rw [show (o.1==5)=true by simpa using k5,Zcm,cond_true,hw,J0k];refine tail _ _ (fun k _ _=>?_) _ (by omega);rw [fx,fx,k5];exact⟨rfl,rfl⟩
     . rw [show (o.1==5)=false by simpa using k5,Zcm,cond_false];have h28:o.1=2∨o.1=3->Zau (n+1) w0 w1 w2 x.1 x.2.1 (rowP x W (fun k=>(r.drop (i+1)).contains (toO x k)) false) (rowP x W (fun k=>(r.drop (i+1)).contains (toO x k)) true) (r.map fun i=>(i,())) (i:Int) (t:Int) 1 1 true =
           some (rowP x W (fun _=>true) false,rowP x W (fun _=>true) true,0,()):=fun h23=>by
         rw [Zf8,cond_true];refine Ym9 (M:=1000 * (i+1)+200) hl (fun k c hc hct=>?_) (fun n hn=>tail _ _ (fun k _ _=>?_) n (by omega)) n (by omega)
         . -- what the operator leads to stands behind it
           rw [List.contains_iff_mem];have hk:=hto k c hc;obtain⟨j,hj⟩:=List.mem_iff_getElem?.1 hk;rw [Zg2 hc] at hj ⊢;obtain⟨q,q1,q2⟩:=hO.up j _ hj c (J0j hc) rfl;rw [hct] at q2;have hqi:q=i:=(List.getElem?_inj (J0d.1 q2).1 hO.nd).1 (q2.trans hop.symm);exact List.mem_iff_getElem?.2 ⟨j - (i+1),by rw [List.getElem?_drop,show i+1+(j - (i+1))=j by omega];exact hj⟩
         . rw [fx,fx];rcases h23 with h | h <;> rw [h] <;> exact⟨rfl,rfl⟩
       by_cases k2:o.1=2
       . rw [show (o.1==2)=true by simpa using k2,cond_true];exact h28 (.inl k2)
       . rw [show (o.1==2)=false by simpa using k2,cond_false];by_cases k3:o.1=3
         . rw [show (o.1==3)=true by simpa using k3];exact h28 (.inr k3)
         . rw [show (o.1==3)=false by simpa using k3,Zf8,cond_false];refine tail _ _ (fun k hk hkt=>?_) _ (by omega)
           -- neither a source, as a channel leads to it
           obtain⟨c,hc⟩:∃ c,x.2.1[k]? = some c:=⟨_,J0c hk⟩;rw [Zg2 hc] at hkt;have hcnt:0<cnt true (t:Int) x.2.1:=by unfold cnt;exact List.length_pos_of_mem (List.mem_filter.2 ⟨J0j hc,by simpa using hkt⟩)
           have h67:o.1=6∨o.1=7:=by
            unfold Zjk at hmany;simp only [J0e,J0h] at hmany;obtain⟨⟨m1,m2⟩,⟨m3,m4⟩,m5⟩:=hmany;by_cases h1:o.1=1
            . rw [h1] at m4;have:(bnd 1).2.1=0:=rfl;omega
            . omega
           rw [fx,fx];rcases h67 with h | h <;> rw [h] <;> exact⟨rfl,rfl⟩
end
end Tg

/- The weights of the program and of the reference. -/
namespace Tg
open Go
open Go.Abs (Zc Zh tmm)
theorem Ykt {m:Mch}(h:((chkQ (mQ m)).2.1==0)=true):fitW (mW m)=true:=by
 have hc:chkC (mQ m)=0:=by
  unfold chkQ at h;cases hc:(chkC (mQ m)==0) with
  | true=>simpa using hc
  | false=>rw [hc,cond_false] at h;exact absurd (hc.symm.trans h) (by simp)
 exact (Yel hc).2.2
structure Val (m:Mch) (r:List Int):Prop where
 ok:Tj.Zat (mG m).1 (mG m).2.1
 ops:(mG m).1.length<=20
 chs:(mG m).2.1.length<=100
 z:gChk (mG m)=0
 ord:Ord (mG m) r
 gor:Qs (mG m)=some (r.map fun i=>(i,()),())
 fit:fitW (mW m)=true
 tl:(mT m).length=(mG m).1.length
 ul:(mU m).length=(mG m).2.1.length
theorem Yku {m:Mch}(h:mchB ((chkQ (mQ m)).2.1==0) m=true):∃ r,Val m r:=by unfold mchB at h;simp only [J0e,beq_iff_eq (a:=gChk (mG m)),beq_iff_eq (a:=(mT m).length),beq_iff_eq (a:=(mU m).length)] at h;obtain⟨h1,h2,h3,h4,h5,h6⟩:=h;obtain⟨g1,g2,g3⟩:=Zzw h2;obtain⟨r,r1,r2⟩:=Ym8 h2;exact⟨r,Zzt g3,g1,g2,h2,r2,r1,Ykt h1,h3,h4⟩
abbrev mWn (m:Mch):Int:=winK (mW m)
def rowW (m:Mch)(mk:Bool):List (Int×Unit):=rowP (mG m) (mWn m) (fun _=>true) mk
theorem Z3l {m:Mch}{r:List Int}(hv:Val m r)(hc:Zc8 m=some (0,())):Zdm m=some (rowW m false,rowW m true,0,()):=by
 have hf:=Zdf;have h1:=hv.ops;have h2:=hv.chs;have hor:Zkh (m.2.2.2.2.2.2.2.2.2.2.1,m.2.2.2.2.2.2.2.2.2.2.2.1,())=some (r.map fun i=>(i,()),0,()):=by rw [Zvs];have a:Qp (m.2.2.2.2.2.2.2.2.2.2.1,m.2.2.2.2.2.2.2.2.2.2.2.1,())=some (gChk (mG m),()):=Zly (mG m) (by omega) (by omega);have b:Qs (m.2.2.2.2.2.2.2.2.2.2.1,m.2.2.2.2.2.2.2.2.2.2.2.1,())=some (r.map fun i=>(i,()),()):=hv.gor;rw [a,hv.z,b];rfl
 have hul:m.2.2.2.2.2.2.2.2.2.2.2.2.2.1.length=(mG m).2.1.length:=hv.ul;have hb:(decide (Int.toNat (Int.ofNat m.2.2.2.2.2.2.2.2.2.2.2.2.2.1.length)<=Int.toNat (Int.ofNat m.2.2.2.2.2.2.2.2.2.2.2.2.2.1.length))&&(decide (8 * Int.toNat (Int.ofNat m.2.2.2.2.2.2.2.2.2.2.2.2.2.1.length)<=281474976710656)&&decide (Int.toNat (Int.ofNat m.2.2.2.2.2.2.2.2.2.2.2.2.2.1.length)<=9223372036854775807)))=true:=by simp only [J0e,J0h,J0g,J0l];omega
 have hrep:∀ mk,List.replicate (Int.toNat (Int.ofNat m.2.2.2.2.2.2.2.2.2.2.2.2.2.1.length)) ((0:Int),())=rowP (mG m) (mWn m) (fun k=>(r.drop r.length).contains (toO (mG m) k)) mk:=fun mk=>by
  rw [J0g,J0l,hul];refine List.ext_getElem? fun k=>?_;by_cases hk:k<(mG m).2.1.length
  . rw [Zcn hk,List.drop_length];simp [hk]
  . rw [List.getElem?_eq_none (by simp;omega),List.getElem?_eq_none (by rw [Zn7];omega)]
 have hwin:Zbj (m.2.2.2.2.2.1,m.2.2.2.2.2.2.1,m.2.2.2.2.2.2.2.1,())=some (mWn m,()):=Yhy (w:=mW m) hv.fit;have hlen:=hv.ord.len;have hst:Go.IntKind.wrap .i64 (Int.ofNat (r.map fun i=>(i,())).length - 1)=(r.length:Int) - 1:=by rw [List.length_map,J0g];exact w64 (by omega) (by omega)
 have:=Yhz (W:=mWn m) hv.ok h1 h2 (Z8u hv.ord hv.ok h1) hv.ord hwin r.length (Nat.le_refl _) fuel (by omega);rw [Zqr,hc,J0k,bne_self_eq_false,cond_false,hor,J0k,bne_self_eq_false,cond_false,hb,cond_true,cond_true];dsimp only;rw [hst,hrep false];refine Eq.trans ?_ this;show Yo fuel _ _ _ _ _ _ (rowP (mG m) (mWn m) _ false) _ _=_;rw [<- hrep false,hrep true];rfl
end Tg
