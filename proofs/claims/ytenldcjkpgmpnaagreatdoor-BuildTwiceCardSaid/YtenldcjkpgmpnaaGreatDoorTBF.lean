import Derived.Test.YtenldcjkpgmpnaaGreatDoorTNn1
import Derived.Test.YtenldcjkpgmpnaaGreatDoorTQG
import Derived.Test.YtenldcjkpgmpnaaGreatDoorTME
/- Fresh tasks: what the program and the reference say of two tasks. -/
set_option linter.unusedVariables false
set_option linter.unusedSimpArgs false
namespace Tg
open Go
open Go.Abs (Zb Zf tmm)
def zipB {α:Type}(p:α->α->Bool)(l l' : List α):Bool:=(l.zip l').all fun x=>p x.1 x.2
theorem Zqe {α β:Type}{f:Nat->Int->Option β}{l l' : List α}{p:α->α->Bool}{bad fin:Option β}{N:Nat}(hl:l.length=l'.length)
    (hs:∀ n (i:Nat) e e',l[i]? = some e->l'[i]? = some e' -> f (n+1) (i:Int)=bif p e e' then f n ((i+1:Nat):Int) else bad)
    (he:∀ n,N<=n->f (n+1) (l.length:Int)=fin) (n:Nat) (hn:N+l.length+1<=n):f n 0=bif zipB p l l' then fin else bad:=by
  have hz:(l.zip l').length=l.length:=by grind
  exact Zkp (f:=f) (l:=l.zip l') (p:=fun x=>p x.1 x.2) (bad:=bad) (fin:=fin) (N:=N)
   (fun n i x hx=>by grind)
   (fun n hn=>by grind) n (by omega)
def eqL {α:Type}(p:α->α->Bool)(l l' : List α):Bool:=l.length==l'.length&&zipB p l l'
def opQ (e e' : Op):Bool:=e.1==e'.1&&(e.2.1==e'.2.1&&true)
def chQ (e e' : Cn):Bool:=e.1==e'.1&&(e.2.1==e'.2.1&&(e.2.2.1==e'.2.2.1&&(e.2.2.2.1==e'.2.2.2.1&&(e.2.2.2.2.1==e'.2.2.2.2.1&&true))))
def evQ (e e' : Evt):Bool:=e.1==e'.1&&(e.2.1==e'.2.1&&(e.2.2.1==e'.2.2.1&&(e.2.2.2.1==e'.2.2.2.1&&(e.2.2.2.2.1==e'.2.2.2.2.1&&true))))
def ivQ (e e' : Int×Unit):Bool:=e.1==e'.1
theorem Zjl (a b:Nat):(Int.ofNat a != Int.ofNat b) = !(a==b):=by grind
theorem notB {β:Type}(b:Bool)(x y:β):(bif !b then x else y)=bif b then y else x:=by grind
theorem Yml (l l' : List Op)(h:l.length<=100000):Yj l l' = some (eqL opQ l l',()):=by
 have hf:=Yp;rw [Zdq,Zjl,notB,eqL];by_cases e:l.length=l'.length
 . rw [show (l.length==l'.length)=true by grind,cond_true,Bool.true_and];rw [Zqe (f:=fun n k=>Yc n l l' (Int.ofNat l.length) k) (l:=l) (l' := l') (p:=opQ) (bad:=some (false,())) (fin:=some (true,())) (N:=0) e
    (fun n i a b ha hb=>by have hi:=(J0d.1 ha).1;rw [Qx,ltL ha,cond_true,ix_s ha,ix_s hb,wS (show i<1000000000000 by omega),notB];rfl)
    (fun n hn=>by rw [Qx,geL,cond_false]) fuel (by omega)]
   grind
 grind
theorem Ymm (l l' : List Cn)(h:l.length<=100000):Zo l l' = some (eqL chQ l l',()):=by
 have hf:=Yp;rw [Zax,Zjl,notB,eqL];by_cases e:l.length=l'.length
 . rw [show (l.length==l'.length)=true by grind,cond_true,Bool.true_and];rw [Zqe (f:=fun n k=>Zm n l l' (Int.ofNat l.length) k) (l:=l) (l' := l') (p:=chQ) (bad:=some (false,())) (fin:=some (true,())) (N:=0) e
    (fun n i a b ha hb=>by have hi:=(J0d.1 ha).1;rw [Yz,ltL ha,cond_true,ix_s ha,ix_s hb,wS (show i<1000000000000 by omega),notB];rfl)
    (fun n hn=>by rw [Yz,geL,cond_false]) fuel (by omega)]
   grind
 grind
theorem Ymn (l l' : List Evt)(h:l.length<=100000):Yn l l' = some (eqL evQ l l',()):=by
 have hf:=Yp;rw [Zbx,Zjl,notB,eqL];by_cases e:l.length=l'.length
 . rw [show (l.length==l'.length)=true by grind,cond_true,Bool.true_and];rw [Zqe (f:=fun n k=>Zv n l l' (Int.ofNat l.length) k) (l:=l) (l' := l') (p:=evQ) (bad:=some (false,())) (fin:=some (true,())) (N:=0) e
    (fun n i a b ha hb=>by have hi:=(J0d.1 ha).1;rw [Xm,ltL ha,cond_true,ix_s ha,ix_s hb,wS (show i<1000000000000 by omega),notB];rfl)
    (fun n hn=>by rw [Xm,geL,cond_false]) fuel (by omega)]
   grind
 grind
theorem Ymo (l l' : List (Int×Unit))(h:l.length<=100000):Xy l l' = some (eqL ivQ l l',()):=by
 have hf:=Yp;rw [Ze0,Zjl,notB,eqL];by_cases e:l.length=l'.length
 . rw [show (l.length==l'.length)=true by grind,cond_true,Bool.true_and];rw [Zqe (f:=fun n k=>Yf n l l' (Int.ofNat l.length) k) (l:=l) (l' := l') (p:=ivQ) (bad:=some (false,())) (fin:=some (true,())) (N:=0) e
    (fun n i a b ha hb=>by have hi:=(J0d.1 ha).1;rw [Zam,ltL ha,cond_true,ix_s ha,ix_s hb,wS (show i<1000000000000 by omega),bne,notB];rfl)
    (fun n hn=>by rw [Zam,geL,cond_false]) fuel (by omega)]
   grind
 grind
def Zoq (t t' : Tsk):Bool:=(t.1==t'.1&&(t.2.1==t'.2.1&&true))&&(t.2.2.1==t'.2.2.1&&((t.2.2.2.1.length==0&&(t.2.2.2.2.2.1.length==0&&(t.2.2.2.2.2.2.2.1.length==0&&t.2.2.2.2.2.2.2.2.1.length==0)))&&(eqL ivQ t.2.2.2.2.1 t'.2.2.2.2.1&&eqL evQ t.2.2.2.2.2.2.1 t'.2.2.2.2.2.2.1)))
theorem Ymp {t t' : Tsk}(h:TLen t):Zl1 t t' = some (Zoq t t',()):=by
 have h1:=h.h1;have h2:=h.h2;have h3:=h.h3;have h4:=h.h4;have h5:=h.h5;have h6:=h.h6;rw [Zye,Ymo _ _ h2,Ymn _ _ h4];have e:(Go.IntKind.wrap .i64 (Go.IntKind.wrap .i64 (Go.IntKind.wrap .i64 (Int.ofNat t.2.2.2.1.length+Int.ofNat t.2.2.2.2.2.1.length)+Int.ofNat t.2.2.2.2.2.2.2.1.length)+Int.ofNat t.2.2.2.2.2.2.2.2.1.length)==0) =
     (t.2.2.2.1.length==0&&(t.2.2.2.2.2.1.length==0&&(t.2.2.2.2.2.2.2.1.length==0&&t.2.2.2.2.2.2.2.2.1.length==0))):=by
   simp only [J0g];rw [w64 (x:=(t.2.2.2.1.length:Int)+(t.2.2.2.2.2.1.length:Int)) (by omega) (by omega),w64 (x:=(t.2.2.2.1.length:Int)+(t.2.2.2.2.2.1.length:Int)+(t.2.2.2.2.2.2.2.1.length:Int)) (by omega) (by omega),w64 (by omega) (by omega)];grind
 rw [e];unfold Zoq;grind
end Tg

/- The reference's Same against a new task, and the events that are left. -/
namespace Tg
open Go
open Go.Abs (Zb Zf tmm)
def givL (ts:List Tsk):List (List Evt×Unit):=(ts.filter fun t=>t.1==1).map fun t=>(t.2.2.2.2.2.2.1,())
theorem Yj2 {m:Mch}(hm:MLen m)(h1:(mT m).length<=1000):Ze1 m=some (givL (mT m),()):=by
 have hf:=Yp;have fold:∀ (l:List Tsk) (s:List (List Evt×Unit)),l.foldl (fun s t=>bif t.1==1 then s++[(t.2.2.2.2.2.2.1,())] else s) s=s++givL l:=by
  intro l
  induction l with
  | nil=>intro s;simp [givL]
  | cons t l ih=>intro s;rw [List.foldl_cons,ih];unfold givL;grind
 have:=Yf8 (f:=fun n s k=>Zbn n s (mT m) (Int.ofNat (mT m).length) k) (l:=mT m) (g:=fun s (t:Tsk)=>bif t.1==1 then s++[(t.2.2.2.2.2.2.1,())] else s) (fin:=fun s=>some (s,())) (N:=0) (fun i s=>s.length<=i)
  (fun n s i t ht hp=>by
   have hi:=(J0d.1 ht).1;have hl:=(hm.t t (J0j ht)).h4;have b:Zb (s.length+List.length [(t.2.2.2.2.2.2.1,())]) 24=true:=Qi (by grind) (by omega);refine⟨?_,?_⟩
   . rw [Zl2,ltL ht,cond_true,ix_s ht,wS (show i<1000000000000 by omega),Zcq (show t.2.2.2.2.2.2.1.length<=1000000 by omega) (show 40<=1000 by omega),J0k,b,cond_true];grind
   grind)
  (fun n s hn hp=>by rw [Zl2,geL];rfl) fuel [] (Nat.le_refl _) (by omega)
 rw [Zyf];refine this.trans ?_;grind
end Tg

/- The numbers of a graph: the program and the reference take the same. -/
namespace Tg
open Go
open Go.Abs (Zb Zf tmm)
def prs:List (Int×Int):=[(1,1),(1,2),(1,3),(1,4),(1,5),(1,6),(1,7),(1,8),(2,1),(2,2),(2,3),(2,4),(2,5),(2,6),(2,7),(2,8),(3,1),(3,2),(3,3),(3,4),(3,5),(3,6),(3,7),(3,8)]
def Zqf {β:Type}(hit:Int×Int->Bool)(no:β)(res:Int×Int->β):List (Int×Int)->β
 | []=>no
 | x::l=>bif hit x then res x else Zqf hit no res l
theorem Zor (hit:Int×Int->Bool):∀ (l:List (Int×Int)),(∃ x∈l,hit x=true /\ ∀ {β:Type} (no:β) (res:Int×Int->β),Zqf hit no res l=res x)∨(∀ {β:Type} (no:β) (res:Int×Int->β),Zqf hit no res l=no)
 | []=>.inr fun _ _=>rfl
 | x::l=>by
  cases h:hit x with
  | true=>exact .inl ⟨x,by simp,h,fun no res=>by rw [Zqf,h,cond_true]⟩
  | false =>
   rcases Zor hit l with ⟨y,h1,h2,h3⟩ | h3
   . exact .inl ⟨y,by simp [h1],h2,fun no res=>by rw [Zqf,h,cond_false,h3]⟩
   . exact .inr fun no res=>by rw [Zqf,h,cond_false,h3]
theorem Yoa {β:Type}{f8:Nat->Int->β}{f13:Nat->Int->Int->β}{hit:Int×Int->Bool}{no:β}{res:Int×Int->β}
    (h8:∀ n p,f8 (n+1) p=bif decide (p<=3) then f13 n p 1 else no)
    (h13:∀ n p r,1000<=n->1<=p->p<=3->1<=r->r<=8->f13 (n+1) p r=bif hit (p,r) then res (p,r) else f13 n p (Go.IntKind.wrap .i64 (r+1)))
    (h14:∀ n p,f13 (n+1) p 9=f8 n (Go.IntKind.wrap .i64 (p+1))) (n:Nat) (hn:2000<=n):f8 n 1=Zqf hit no res prs:=by
  have row:∀ k p,1000<=k->1<=p->p<=3->f13 (k+9) p 1=Zqf hit (f8 k (Go.IntKind.wrap .i64 (p+1))) res [(p,1),(p,2),(p,3),(p,4),(p,5),(p,6),(p,7),(p,8)]:=by intro k p hk h1 h3;rw [h13 (k+8) p 1 (by omega) h1 h3 (by omega) (by omega),show Go.IntKind.wrap .i64 ((1:Int)+1)=2 from rfl];rw [h13 (k+7) p 2 (by omega) h1 h3 (by omega) (by omega),show Go.IntKind.wrap .i64 ((2:Int)+1)=3 from rfl];rw [h13 (k+6) p 3 (by omega) h1 h3 (by omega) (by omega),show Go.IntKind.wrap .i64 ((3:Int)+1)=4 from rfl];rw [h13 (k+5) p 4 (by omega) h1 h3 (by omega) (by omega),show Go.IntKind.wrap .i64 ((4:Int)+1)=5 from rfl];rw [h13 (k+4) p 5 (by omega) h1 h3 (by omega) (by omega),show Go.IntKind.wrap .i64 ((5:Int)+1)=6 from rfl];rw [h13 (k+3) p 6 (by omega) h1 h3 (by omega) (by omega),show Go.IntKind.wrap .i64 ((6:Int)+1)=7 from rfl];rw [h13 (k+2) p 7 (by omega) h1 h3 (by omega) (by omega),show Go.IntKind.wrap .i64 ((7:Int)+1)=8 from rfl];rw [h13 (k+1) p 8 (by omega) h1 h3 (by omega) (by omega),show Go.IntKind.wrap .i64 ((8:Int)+1)=9 from rfl,h14];rfl
  obtain⟨k,rfl⟩:∃ k,n=k+1+9+1+9+1+9+1:=⟨n - 31,by omega⟩;rw [h8,show decide ((1:Int)<=3)=true from rfl,cond_true,row _ 1 (by omega) (by omega) (by omega),show Go.IntKind.wrap .i64 ((1:Int)+1)=2 from rfl];rw [h8,show decide ((2:Int)<=3)=true from rfl,cond_true,row _ 2 (by omega) (by omega) (by omega),show Go.IntKind.wrap .i64 ((2:Int)+1)=3 from rfl];rw [h8,show decide ((3:Int)<=3)=true from rfl,cond_true,row _ 3 (by omega) (by omega) (by omega),show Go.IntKind.wrap .i64 ((3:Int)+1)=4 from rfl];rw [h8,show decide ((4:Int)<=3)=false from rfl,cond_false];rfl
theorem Yqw (g g' : Gr)(h1:g.1.length<=100000)(h2:g.2.1.length<=100000):Zjb g g' = some (eqL opQ g.1 g'.1&&eqL chQ g.2.1 g'.2.1,()):=by
 obtain⟨n,hn⟩:=Zb0;rw [Z3j,Zjl,Zjl,notB,notB,eqL,eqL];cases e1:(g.1.length==g'.1.length) with
 | false=>rfl
 | true =>
  cases e2:(g.2.1.length==g'.2.1.length) with
  | false=>grind
  | true =>
   have e1:g.1.length=g'.1.length:=by grind
   have e2:g.2.1.length=g'.2.1.length:=by grind
   have e14:∀ n,g.2.1.length+2<=n->Zbm n g.2.1 g'.2.1 0=bif zipB chQ g.2.1 g'.2.1 then some (true,()) else some (false,()):=fun n hn =>
    Zqe (f:=fun n k=>Zbm n g.2.1 g'.2.1 k) (l:=g.2.1) (l' := g'.2.1) (p:=chQ) (N:=0) e2
     (fun n i a b ha hb=>by have hi:=(J0d.1 ha).1;simp only [Zl0,ltL ha,cond_true,iN,J0l,ha,hb,wS (show i<1000000000000 by omega)];rw [notB];rfl)
     (fun n hn=>by rw [Zl0,geL,cond_false]) n (by omega)
   have:=Zqe (f:=fun n k=>Zep n g.1 g.2.1 g'.1 g'.2.1 k) (l:=g.1) (l' := g'.1) (p:=opQ) (N:=g.2.1.length+10) (bad:=some (false,())) (fin:=bif zipB chQ g.2.1 g'.2.1 then some (true,()) else some (false,())) e1
    (fun n i a b ha hb=>by have hi:=(J0d.1 ha).1;simp only [Znx,ltL ha,cond_true,iN,J0l,ha,hb,wS (show i<1000000000000 by omega)];rw [notB];rfl)
    (fun n hn=>by obtain⟨k,rfl⟩:∃ k,n=k+1:=⟨n - 1,by omega⟩;rw [Znx,geL,cond_false,Zyc];grind) fuel (by omega)
   grind
def hitR (m:Mch)(x:Int×Int):Bool :=
 let q:=mQ m
 eqL opQ (opsG q.2.2.1.length (partsOf q x.1) q.2.2.2.2.2.2.2.2.1 q.2.2.2.1 (q.2.2.2.2.2.2.2.2.2.1==2)) (mG m).1&&eqL chQ (chG q.2.2.1.length (partsOf q x.1) q.2.2.2.2.2.2.2.2.1 (q.2.2.2.2.2.2.2.2.2.1==2) x.2) (mG m).2.1
structure QS (q:Qr):Prop where
 ok:(chkQ q).2.1=0
 h1:q.2.1.length<=1000
 h2:q.2.2.1.length<=1000
 h3:q.2.2.2.2.1.length<=1000
 n:1<=q.2.2.1.length/\q.2.2.1.length<=4
theorem Ycp {l:List Nd}(h:errN l=0):l.length<=1000:=by unfold errN at h;grind
theorem qs {q:Qr}(h:(chkQ q).2.1=0):QS q:=by
 have hc:=Z0k h;obtain⟨a,b,_⟩:=Yih hc;have n:=Zqc (Zh4 hc);refine⟨h,?_,by omega,?_,n⟩
 . by_cases z:q.2.1.length=0
   . omega
   . exact Ycp (a z)
 . by_cases z:q.2.2.2.2.1.length=0
   . omega
   . exact Ycp (b z)
end Tg

/- Fresh machines: what the program and the reference say. -/
namespace Tg
open Go
open Go.Abs (Zb Zf tmm)
theorem Z64 {α:Type}(p:α->α->Bool):∀ (l l' : List α),zipB p l l' = zipB (fun a b=>p b a) l' l
 | [],[]=>rfl
 | [],_::_=>rfl
 | _::_,[]=>rfl
 | a::l,b::l' => by have:=Z64 p l l';unfold zipB at this ⊢;simp_all
theorem Yqx {α:Type}{p:α->α->Bool}{l l' : List α}(h:zipB p l l' = true){i:Nat}{e e' : α}(h1:l[i]? = some e)(h2:l'[i]? = some e'):p e e' = true:=by have hz:(l.zip l')[i]? = some (e,e'):=List.getElem?_zip_eq_some.2 ⟨h1,h2⟩;unfold zipB at h;grind
def Z0p (u:Que):Bool:=u.2.1.length==0
theorem Ycq:∀ {l:Inp},(∀ x∈l,Zdj x.1=0)->Zal l=0
 | [],_=>rfl
 | a::l,h=>by rw [Zal,h a (by simp),Zaw,cond_false];exact Ycq fun x hx=>h x (by simp [hx])
structure Fine (m:Mch):Prop where
 l:MLen m
 q:QS (mQ m)
 ops:(mG m).1.length<=20
 chs:(mG m).2.1.length<=100
 tl:(mT m).length=(mG m).1.length
 ul:(mU m).length=(mG m).2.1.length
 room:∀ (i:Nat) u c,(mU m)[i]? = some u->(mG m).2.1[i]? = some c->u.1=c.2.2.2.2.1
 ev:∀ t∈mT m,t.1=1->Zdj t.2.2.2.2.2.2.1=0
theorem fine {m:Mch}(hm:MLen m)(h:mchB ((chkQ (mQ m)).2.1==0) m=true):Fine m:=by
 unfold mchB at h;rw [J0e,J0e,J0e,J0e,J0e,beq_iff_eq,beq_iff_eq,beq_iff_eq,beq_iff_eq] at h;obtain⟨h1,h2,h3,h4,h5,h6⟩:=h;obtain⟨g1,g2,_⟩:=Z9i h2;refine⟨hm,qs h1,g1,g2,h3,h4,fun i u c hu hc=>?_,fun t ht hk=>?_⟩
 . have:=Zmz h5 hu;rw [Nat.zero_add] at this;unfold queI at this;grind
 . obtain⟨i,hi⟩:=List.getElem?_of_mem ht;have:=Zmz h6 hi;rw [Nat.zero_add] at this;unfold fitB at this;split at this
   . grind
   . rw [J0e] at this;have ht:=(J0e _ _ ▸ this.2).1;unfold X3 at ht;simp only [J0e] at ht;obtain⟨_,_,hk',_,_,_,he,_⟩:=ht;unfold Zu7 at hk';simp only [hk,beq_self_eq_true,cond_true,J0e,J0h] at hk';unfold Zdj;rw [show decide ((t.2.2.2.2.2.2.1.length:Int)>60)=false from decide_eq_false (by omega),cond_false,show evOk=evtB from funext Z3k,he];rfl
theorem Fine.given {m:Mch}(h:Fine m):Zal (givL (mT m))=0:=by refine Ycq fun x hx=>?_;unfold givL at hx;obtain⟨t,ht,rfl⟩:=List.mem_map.1 hx;obtain⟨h1,h2⟩:=List.mem_filter.1 ht;exact h.ev t h1 (by grind)
theorem Ymq (l:List Tsk):(givL l).length<=l.length:=by unfold givL;grind
abbrev mkM (m:Mch)(x:Int×Int):Mch:=mOf (mQ m) (givL (mT m)) x.1 x.2
def Yab (m:Mch)(x:Int×Int):Bool:=(mU m).all Z0p&&zipB Zoq (mT m) (mT (mkM m x))
def Zwu (m:Mch):Bool:=bif (givL (mT m)).length==(mQ m).2.2.1.length then Zqf (hitR m) false (Yab m) prs else false
theorem Yuh {m:Mch}(he:(givL (mT m)).length=(mQ m).2.2.1.length){x:Int×Int}:hitR m x=(eqL opQ (mG (mkM m x)).1 (mG m).1&&eqL chQ (mG (mkM m x)).2.1 (mG m).2.1):=by unfold hitR mkM mOf mG;grind
end Tg

/- The law of BuildFresh in plain words. -/
namespace Tg
open Go
open Go.Abs (Zb Zf tmm)
theorem Yui {m:Mch}(h:Fine m)(he:(givL (mT m)).length=(mQ m).2.2.1.length){p r:Int}(p1:1<=p)(p3:p<=3)(r1:1<=r)(r8:r<=8):askE (mQ m) (givL (mT m)) p r=0:=by unfold askE;rw [h.q.ok,he,h.given,Zaw,Zaw,cond_false,cond_false,cond_false];unfold prE;grind
theorem Yuj {m:Mch}(h:Fine m)(he:(givL (mT m)).length≠(mQ m).2.2.1.length)(p r:Int):askE (mQ m) (givL (mT m)) p r=2:=by unfold askE;rw [h.q.ok,Zaw,cond_false,show (((givL (mT m)).length:Int) != ((mQ m).2.2.1.length:Int))=true from by grind];rfl
theorem Yj3 (us:List Que)(n:Nat)(hn:200<=n)(hl:us.length<=100):Zfa n us=some (us.all Z0p,0,()):=by
 obtain⟨k,rfl⟩:∃ k,n=k+1:=⟨n - 1,by omega⟩;rw [Zsw];refine (Zkp (f:=fun n k=>Zcc n us (Int.ofNat us.length) k) (l:=us) (p:=Z0p) (bad:=some (false,0,())) (fin:=some (true,0,())) (N:=0)
  (fun n i u hu=>?_) (fun n hn=>by rw [Zjw,geL,cond_false]) k (by omega)).trans ?_
 . have hi:=(J0d.1 hu).1;rw [Zjw,ltL hu,cond_true,ix_s hu,wS (show i<1000000000000 by omega),show decide ((i:Int)>=0)=true from decide_eq_true (by omega)];unfold Z0p;grind
 grind
theorem Ymr (m:Mch)(h:Fine m)(ts:List Tsk)(hl:ts.length=(mT m).length)(n:Nat)(hn:1000<=n):Zaz n (mT m) ts (Int.ofNat ts.length) 0 (mU m)=some ((mU m).all Z0p&&zipB Zoq (mT m) ts,0,()):=by
 have l1:=h.tl;have l2:=h.ops;have l3:=h.ul;have l4:=h.chs;refine (Zqe (f:=fun n k=>Zaz n (mT m) ts (Int.ofNat ts.length) k (mU m)) (l:=ts) (l' := mT m) (p:=fun a b=>Zoq b a) (bad:=some (false,0,())) (fin:=some ((mU m).all Z0p,0,())) (N:=400) hl
  (fun n i a b ha hb=>?_)
  (fun n hn=>by rw [Zjv,geL,cond_false];exact Yj3 _ _ (by omega) (by omega)) n (by omega)).trans ?_
 . have hi:=(J0d.1 ha).1;rw [Zjv,ltL ha,cond_true,ix_s ha,ix_s hb,wS (show i<1000000000000 by omega),Ymp (h.l.t b (J0j hb)),J0k,notB]
 . rw [Z64 Zoq (mT m) ts];grind
theorem Yqy {m:Mch}(h:Fine m)(hc:Zd7 m=some (0,())):Zha m=some (Zwu m,0,()):=by
 have hf:=Yp;have l1:=h.tl;have l2:=h.ops;have l4:=h.chs;have l5:=Ymq (mT m);have hg:Ze1 (m.1,m.2.1,m.2.2.1,m.2.2.2.1,m.2.2.2.2.1,m.2.2.2.2.2.1,m.2.2.2.2.2.2.1,m.2.2.2.2.2.2.2.1,m.2.2.2.2.2.2.2.2.1,m.2.2.2.2.2.2.2.2.2.1,m.2.2.2.2.2.2.2.2.2.2.1,m.2.2.2.2.2.2.2.2.2.2.2.1,m.2.2.2.2.2.2.2.2.2.2.2.2.1,m.2.2.2.2.2.2.2.2.2.2.2.2.2.1,())=some (givL (mT m),()):=Yj2 (m:=m) h.l (by omega);have hb:∀ p r,Zan (m.1,m.2.1,m.2.2.1,m.2.2.2.1,m.2.2.2.2.1,m.2.2.2.2.2.1,m.2.2.2.2.2.2.1,m.2.2.2.2.2.2.2.1,m.2.2.2.2.2.2.2.2.1,m.2.2.2.2.2.2.2.2.2.1,()) (givL (mT m)) p r=some (bif askE (mQ m) (givL (mT m)) p r != 0 then zM else mkM m (p,r),askE (mQ m) (givL (mT m)) p r,()):=fun p r=>Z6z (mQ m) (givL (mT m)) p r (by omega) h.q.h1 h.q.h2 h.q.h3;rw [Zyh,hc,J0k,Zaw,cond_false];by_cases he:(givL (mT m)).length=(mQ m).2.2.1.length
 . unfold Zwu;rw [show ((givL (mT m)).length==(mQ m).2.2.1.length)=true from by grind,cond_true];refine (Yoa (hit:=hitR m) (no:=some (false,0,())) (res:=fun x=>some (Yab m x,0,()))
    (f8:=fun n p=>Zbo n m.1 m.2.1 m.2.2.1 m.2.2.2.1 m.2.2.2.2.1 m.2.2.2.2.2.1 m.2.2.2.2.2.2.1 m.2.2.2.2.2.2.2.1 m.2.2.2.2.2.2.2.2.1 m.2.2.2.2.2.2.2.2.2.1 m.2.2.2.2.2.2.2.2.2.2.1 m.2.2.2.2.2.2.2.2.2.2.2.1 m.2.2.2.2.2.2.2.2.2.2.2.2.1 m.2.2.2.2.2.2.2.2.2.2.2.2.2.1 p)
    (f13:=fun n p r=>Zay n m.1 m.2.1 m.2.2.1 m.2.2.2.1 m.2.2.2.2.1 m.2.2.2.2.2.1 m.2.2.2.2.2.2.1 m.2.2.2.2.2.2.2.1 m.2.2.2.2.2.2.2.2.1 m.2.2.2.2.2.2.2.2.2.1 m.2.2.2.2.2.2.2.2.2.2.1 m.2.2.2.2.2.2.2.2.2.2.2.1 m.2.2.2.2.2.2.2.2.2.2.2.2.1 m.2.2.2.2.2.2.2.2.2.2.2.2.2.1 p r)
    (fun n p=>by rw [Zl4]) (fun n p r hn p1 p3 r1 r8=>?_) (fun n p=>by rw [Zcd];rfl) fuel (by omega)).trans ?_
   . have a0:=Yui h he p1 p3 r1 r8;have hP:=Zjh (mQ m) ⟨p1,p3⟩;have o1:=(Z3m (mQ m).2.2.1.length (partsOf (mQ m) p) h.q.n hP (mQ m).2.2.2.2.2.2.2.2.1 (mQ m).2.2.2.1 ((mQ m).2.2.2.2.2.2.2.2.2.1==2)).1;have c1:=(Z96 (mQ m).2.2.1.length (partsOf (mQ m) p) h.q.n hP (mQ m).2.2.2.2.2.2.2.2.1 ((mQ m).2.2.2.2.2.2.2.2.2.1==2) r).1;rw [<- he] at o1 c1;have q1:=Yml (mG (mkM m (p,r))).1 (mG m).1 (Nat.le_trans o1 (Nat.le_of_ble_eq_true rfl));have q2:=Ymm (mG (mkM m (p,r))).2.1 (mG m).2.1 (Nat.le_trans c1 (Nat.le_of_ble_eq_true rfl));have t1:(mT (mkM m (p,r))).length=(mG (mkM m (p,r))).1.length:=by show (List.map _ _).length=_;rw [List.length_map];rfl
     rw [Yuh he,Zcd,show decide (r<=8)=true from decide_eq_true r8,cond_true,hg,J0k,hb,a0,J0k];dsimp only;rw [Zaw,cond_false,cond_false];rw [show Yj (mkM m (p,r)).2.2.2.2.2.2.2.2.2.2.1 m.2.2.2.2.2.2.2.2.2.2.1=some (eqL opQ (mG (mkM m (p,r))).1 (mG m).1,()) from q1,J0k,notB];cases h1:eqL opQ (mG (mkM m (p,r))).1 (mG m).1 with
     | false=>rfl
     | true =>
      rw [cond_true,show Zo (mkM m (p,r)).2.2.2.2.2.2.2.2.2.2.2.1 m.2.2.2.2.2.2.2.2.2.2.2.1=some (eqL chQ (mG (mkM m (p,r))).2.1 (mG m).2.1,()) from q2,J0k,notB];cases h2:eqL chQ (mG (mkM m (p,r))).2.1 (mG m).2.1 with
      | false=>rfl
      | true =>
       have e1:(mG (mkM m (p,r))).1.length=(mG m).1.length:=by unfold eqL at h1;grind
       have t2:(mT (mkM m (p,r))).length=(mT m).length:=by grind
       rw [cond_true,Zjl,notB,show ((mkM m (p,r)).2.2.2.2.2.2.2.2.2.2.2.2.1.length==m.2.2.2.2.2.2.2.2.2.2.2.2.1.length)=true from by rw [beq_iff_eq];exact t2,cond_true,Bool.and_true,cond_true];exact Ymr m h (mT (mkM m (p,r))) t2 n hn
   . rcases Zor (hitR m) prs with ⟨x,_,_,k⟩ | k <;> rw [k,k]
 . unfold Zwu;rw [show ((givL (mT m)).length==(mQ m).2.2.1.length)=false from by grind,cond_false];refine (Yoa (hit:=fun _=>false) (no:=some (false,0,())) (res:=fun x=>some (false,0,()))
    (f8:=fun n p=>Zbo n m.1 m.2.1 m.2.2.1 m.2.2.2.1 m.2.2.2.2.1 m.2.2.2.2.2.1 m.2.2.2.2.2.2.1 m.2.2.2.2.2.2.2.1 m.2.2.2.2.2.2.2.2.1 m.2.2.2.2.2.2.2.2.2.1 m.2.2.2.2.2.2.2.2.2.2.1 m.2.2.2.2.2.2.2.2.2.2.2.1 m.2.2.2.2.2.2.2.2.2.2.2.2.1 m.2.2.2.2.2.2.2.2.2.2.2.2.2.1 p)
    (f13:=fun n p r=>Zay n m.1 m.2.1 m.2.2.1 m.2.2.2.1 m.2.2.2.2.1 m.2.2.2.2.2.1 m.2.2.2.2.2.2.1 m.2.2.2.2.2.2.2.1 m.2.2.2.2.2.2.2.2.1 m.2.2.2.2.2.2.2.2.2.1 m.2.2.2.2.2.2.2.2.2.2.1 m.2.2.2.2.2.2.2.2.2.2.2.1 m.2.2.2.2.2.2.2.2.2.2.2.2.1 m.2.2.2.2.2.2.2.2.2.2.2.2.2.1 p r)
    (fun n p=>by rw [Zl4]) (fun n p r hn p1 p3 r1 r8=>?_) (fun n p=>by rw [Zcd];rfl) fuel (by omega)).trans ?_
   . rw [Zcd,show decide (r<=8)=true from decide_eq_true r8,cond_true,hg,J0k,hb,Yuj h he,J0k];rfl
   . rfl
end Tg

/- What a question's check says (out of BuildApart). -/
namespace Tg
open Go
open Go.Abs (Zb Zf tmm)
theorem r13 (t:Int):Zhb t 1=some (bif tmB t then 0 else 16,()):=by rw [Zyk];unfold tmB;rw [show decide ((1:Int)<1)=false from rfl,show decide ((1:Int)>1073741824)=false from rfl,cond_false,cond_false,Yqk,Yql];cases decide (t >= -1099511627776) <;> cases decide (t<=1099511627776) <;> rfl
theorem r20v (e:Ev):Zl9 e=some (evOk e,()):=by rw [Zyl,r13,r13];unfold evOk zR;cases e.1 <;> cases (e.2.2.1==0&&(e.2.2.2.1==0&&(e.2.2.2.2.1==0&&true))) <;> cases (e.2.1==0) <;> cases (e.2.1==9223372036854775807) <;> cases tmB e.2.1 <;> cases tmB e.2.2.2.1 <;> rfl
theorem Yqz (l:List Ev):Zma l=some (Zdj l,()):=by
 have hf:=Yp;rw [Zym];unfold Zdj;by_cases h:(l.length:Int)>60
 . rw [lenI,dT h,cond_true,cond_true]
 . rw [lenI,dF h,cond_false,cond_false,Zkp (f:=fun n k=>Zdl n l k) (l:=l) (p:=evOk) (bad:=some (8,())) (fin:=some (0,())) (N:=0)
    (fun n i e he=>by have hi:=(J0d.1 he).1;rw [Zmb,ltL he,cond_true,ix_s he,r20v,J0k,wS (show i<1000000000000 by omega),notB])
    (fun n hn=>by rw [Zmb,geL,cond_false]) fuel (by omega)]
   cases l.all evOk <;> rfl
theorem pr9 (p r:Int)(n:Nat):Zgp (n+1) p r=some (prE p r,()):=by rw [Zwr];unfold prE;cases decide (p<1) <;> cases decide (p>3) <;> cases decide (r<1) <;> cases decide (r>8) <;> rfl
theorem Zwv (inp:Inp)(hl:inp.length<=1000)(p r:Int):∀ (rest:Inp) (i n:Nat),inp.drop i=rest->i<=inp.length->rest.length+2<=n->Zce n inp p r (i:Int)=some (bif Zal rest != 0 then Zal rest else prE p r,())
 | [],i,n,h,hi,hn=>by obtain⟨m,rfl⟩:∃ m,n=m+1+1:=⟨n - 2,by simp at hn;omega⟩;obtain rfl:=Zc6 h hi;rw [Zjx,geL,cond_false,pr9];rfl
 | l::rest,i,n,h,hi,hn=>by
  obtain⟨m,rfl⟩:∃ m,n=m+1:=⟨n - 1,by simp at hn;omega⟩;obtain⟨h1,h2,h3⟩:=Zc5 h;have ih:=Zwv inp hl p r rest (i+1) m h3 (by omega) (by simp at hn;omega);rw [Zjx,ltL h2,cond_true,ix_s h2,Yqz,J0k,wS (show i<1000000000000 by omega),ih,Zal];cases h:(Zdj l.1 != 0) with
  | true=>rw [cond_true,cond_true,h];rfl
  | false=>rw [cond_false,cond_false]
theorem Yj4 (q:Qr)(inp:Inp)(hl:inp.length<=1000)(p r:Int):Zmc q inp p r=some (askE q inp p r,()):=by
 have hf:=Yp;rw [Zyn,Z9t,J0k];unfold askE;have:=Zwv inp hl p r inp 0 fuel rfl (by omega) (by omega);cases h:((chkQ q).2.1 != 0) with
 | true=>rfl
 | false=>rw [cond_false,cond_false,lenI,lenI,show (0:Int)=((0:Nat):Int) from rfl,this];cases ((inp.length:Int) != (q.2.2.1.length:Int)) <;> rfl
theorem Yj5 (q:Qr)(inp:Inp):∃ b,Zl7 q inp=some (b,())/\(b=false->inp.length<=6/\q.2.1.length<=70/\q.2.2.1.length<=10/\q.2.2.2.2.1.length<=70):=by
 have hf:=Yp;have h8:∃ b,Zl6 q=some (b,())/\(b=false->q.2.1.length<=70/\q.2.2.1.length<=10/\q.2.2.2.2.1.length<=70):=by
  rw [Zyi];by_cases h1:Int.ofNat q.2.1.length>70
  . exact⟨true,by rw [Zb8,dT h1];rfl,fun h=>by cases h⟩
  . by_cases h2:Int.ofNat q.2.2.2.2.1.length>70
    . exact⟨true,by rw [Zb8,Zb8,dF h1,dT h2];rfl,fun h=>by cases h⟩
    . refine⟨decide (Int.ofNat q.2.2.1.length>10),by rw [Zb8,Zb8,dF h1,dF h2];rfl,fun h=>?_⟩;have h3:=of_decide_eq_false h;simp only [J0g] at h1 h2 h3;omega
 obtain⟨b,h1,h2⟩:=h8;rw [Zyj,h1,J0k];cases b with
 | true=>exact⟨true,rfl,fun h=>by cases h⟩
 | false =>
  by_cases h3:Int.ofNat inp.length>6
  . exact⟨true,by rw [dT h3];rfl,fun h=>by cases h⟩
  . have h4:inp.length<=6:=by simp only [J0g] at h3;omega
    rw [dF h3,cond_false,cond_false,Zkp (f:=fun n k=>Zdk n inp k) (l:=inp) (p:=fun e=>!decide (Int.ofNat e.1.length>70)) (bad:=some (true,())) (fin:=some (false,())) (N:=0)
     (fun n i e he=>by have hi:=(J0d.1 he).1;rw [Zl8,ltL he,cond_true,ix_s he,wS (show i<1000000000000 by omega),notB])
     (fun n hn=>by rw [Zl8,geL,cond_false]) fuel (by omega)]
    cases inp.all fun e=>!decide (Int.ofNat e.1.length>70)
    . exact⟨true,rfl,fun h=>by cases h⟩
    . exact⟨false,rfl,fun _=>⟨h4,h2 rfl⟩⟩
theorem Yj6 {n:Nat}{a:Inp}(hn:n<=4)(ha:Zny a)(o:Op2):TLen (Zy n a o):=by
 have he:(a.getD o.2.1.toNat ([],())).1.length<=60:=by
  rw [List.getD_eq_getElem?_getD];cases h:a[o.2.1.toNat]? with
  | none=>simp
  | some x=>exact (Z95 (ha x (J0j h))).1
 unfold Zy;cases (o.1==1)
 . cases (o.1==2)
   . cases (o.1==3)
     . cases (o.1==4)
       . cases (o.1==5)
         . cases (o.1==7) <;> constructor <;> simp
         . constructor <;> simp
       . constructor <;> simp;omega
     . constructor <;> simp
   . constructor <;> simp
 . constructor <;> simp only [cond_true,List.length_nil] <;> omega
end Tg

/- A machine that is built of a right question is right: the cases, by the kernel. -/
namespace Tg
open Go
open Go.Abs (Zb Zf tmm)
def bits:List Bool:=[false,true]
def inp0 (n:Nat):Inp:=List.replicate n ([],())
def Yj7 (ops:List Op)(chs:List Cn):Bool:=decide (ops.length<=20)&&(decide (chs.length<=100)&&(chs.all (okC ops.length)&&(chs.all (fun c=>decide (c.1<c.2.2.1))&&(v2 chs [] chs&&allI (fun i o=>(decide (0<=o.2.1)&&decide (o.2.1<=3))&&Zkr o.1 (cnt true (i:Int) chs) (cnt false (i:Int) chs)) 0 ops))))
def oneG (n P:Nat)(key join side:Bool)(r:Int):Bool:=Yj7 (opsG n P key join side) (chG n P key side r)&&(allI (queI (opsG n P key join side,chG n P key side r,())) 0 ((chG n P key side r).map qOf)&&allI (fitB join (bif side then 2 else 1) (opsG n P key join side,chG n P key side r,())) 0 ((opsG n P key join side).map (Zy n (inp0 n))))
def Yac (n P:Nat)(key join side:Bool):Bool:=[1,2,3,4,5,6,7,8].all fun r=>oneG n P key join side r
def Z3r (n P:Nat)(key join:Bool):Bool:=bits.all fun side=>Yac n P key join side
def Zww (n:Nat)(join:Bool):Bool:=Z3r n 1 false join
def Zmh (n:Nat)(join:Bool):Bool:=[1,2,3].all fun P=>Z3r n P true join
set_option maxRecDepth 100000 in
theorem g1:Zww 1 false=true/\Zmh 1 false=true:=⟨by kernel_rfl,by kernel_rfl⟩
set_option maxRecDepth 100000 in
theorem g2:Zww 2 false=true/\Zmh 2 false=true:=⟨by kernel_rfl,by kernel_rfl⟩
set_option maxRecDepth 100000 in
theorem g2j:Zww 2 true=true/\Zmh 2 true=true:=⟨by kernel_rfl,by kernel_rfl⟩
set_option maxRecDepth 100000 in
theorem g3:Zww 3 false=true/\Zmh 3 false=true:=⟨by kernel_rfl,by kernel_rfl⟩
set_option maxRecDepth 100000 in
theorem g4:Zww 4 false=true/\Zmh 4 false=true:=⟨by kernel_rfl,by kernel_rfl⟩
end Tg

/- A machine that is built of a right question is right. -/
namespace Tg
open Go
open Go.Abs (Zb Zf tmm)
theorem Yd7 {l:IL}(h:srcE l true=0):l.length=2:=by
 unfold srcE at h;split at h
 . cases h
 . split at h
   . cases h
   . split at h
     . cases h
     . rename_i h2;simpa using h2
theorem Yuk {n P:Nat}(hn:1<=n/\n<=4)(hP:1<=P/\P<=3){key join:Bool}(side:Bool)(hk:key=false->P=1)(hj:join=true->n=2){r:Int}(hr:1<=r/\r<=8):oneG n P key join side r=true:=by
 have rm:Yac n P key join side=true->oneG n P key join side r=true:=fun h=>by unfold Yac at h;rw [List.all_eq_true] at h;refine h r ?_;simp only [List.mem_cons,List.not_mem_nil,or_false];omega
 have sd:Z3r n P key join=true->oneG n P key join side r=true:=fun h=>by unfold Z3r at h;rw [List.all_eq_true] at h;exact rm (h side (by cases side <;> decide))
 have tk:Zmh n join=true->key=true->oneG n P key join side r=true:=fun h e=>by subst e;unfold Zmh at h;rw [List.all_eq_true] at h;refine sd (h P ?_);simp only [List.mem_cons,List.not_mem_nil,or_false];omega
 have nk:Zww n join=true->key=false->oneG n P key join side r=true:=fun h e=>by obtain rfl:=hk e;subst e;exact sd h
 have both:Zww n join=true/\Zmh n join=true->oneG n P key join side r=true:=fun h=>by
  cases key with
  | false=>exact nk h.1 rfl
  | true=>exact tk h.2 rfl
 cases join with
 | true=>obtain rfl:=hj rfl;exact both g2j
 | false =>
  obtain rfl | rfl | rfl | rfl:n=1∨n=2∨n=3∨n=4:=by omega
  . exact both g1
  . exact both g2
  . exact both g3
  . exact both g4
theorem Yj8 {chs:List Cn}(h:∀ c∈chs,c.1<c.2.2.1){x y:Int}(hp:Pth (chs.map Tj.tch) x y):x<y:=by
 have hc:∀ c∈chs.map Tj.tch,c.1<c.2.2.1:=fun c hc=>by obtain⟨d,hd,rfl⟩:=List.mem_map.1 hc;exact h d hd
 induction hp with
 | one c h=>exact hc c h
 | step a c p h ih=>exact Int.lt_trans ih (hc c h)
theorem Yq0 {ops:List Op}{chs:List Cn}(h:Yj7 ops chs=true):gChk (ops,chs,())=0:=by
 unfold Yj7 at h;simp only [J0e,J0h,List.all_eq_true] at h;obtain⟨h1,h2,h3,h4,h5,h6⟩:=h;obtain⟨v1,_,v3⟩:=(Tj.Z9e chs chs []).1 h5;have hr:Tj.Zh0 ops chs:=⟨h3,⟨v3,v1⟩,fun i o ho=>by have:=Zmz h6 ho;rw [Nat.zero_add] at this;simp only [J0e] at this ⊢;exact this⟩;have hg:gOkB (ops,chs,())=true:=(Tj.Zs9 ops chs).1 (by
  have:=(Tj.Z2i ops chs).1 hr;exact⟨this.1,this.2,fun x _ _ hp=>by have:=Yj8 h4 hp;omega⟩)
 unfold gChk;rw [hg,show decide (20<ops.length)=false from decide_eq_false (by omega),show decide (100<chs.length)=false from decide_eq_false (by omega)];rfl
theorem Zwx {α β:Type}{p p' : Nat->β->Bool}{f g:α->β}:∀ {l:List α} {i:Nat},(∀ k e,l[k]? = some e->p (i+k) (f e)=p' (i+k) (g e))->allI p i (l.map f)=allI p' i (l.map g)
 | [],_,_=>rfl
 | a::l,i,h=>by
  have h0:=h 0 a rfl;rw [Nat.add_zero] at h0;have ih:=Zwx (p:=p) (p' := p') (f:=f) (g:=g) (l:=l) (i:=i+1) fun k e he=>by have:=h (k+1) e (by simpa using he);rwa [show i+(k+1)=i+1+k by omega] at this
  rw [List.map_cons,List.map_cons,allI,allI,h0,ih]
theorem Yj9 (n:Nat)(k:Nat):((inp0 n).getD k ([],())).1=[]:=by unfold inp0;rw [List.getD_eq_getElem?_getD,List.getElem?_replicate];split <;> rfl
theorem Yq7 {n:Nat}{inp:Inp}(hi:Zny inp)(o:Op2):(Zy n inp o).1=(Zy n (inp0 n) o).1/\(Zy n inp o).2.1=(Zy n (inp0 n) o).2.1/\(Zy n inp o).2.2.2.1=(Zy n (inp0 n) o).2.2.2.1/\(Zy n inp o).2.2.2.2.1=(Zy n (inp0 n) o).2.2.2.2.1/\X3 (Zy n inp o)=X3 (Zy n (inp0 n) o):=by
 unfold Zy;cases h:(o.1==1) with
 | false=>exact⟨rfl,rfl,rfl,rfl,rfl⟩
 | true =>
  refine⟨rfl,rfl,rfl,rfl,?_⟩;have he:(inp.getD o.2.1.toNat ([],())).1.length<=60/\(inp.getD o.2.1.toNat ([],())).1.all evtB=true:=by
   rw [List.getD_eq_getElem?_getD];cases hx:inp[o.2.1.toNat]? with
   | none=>exact⟨by simp,rfl⟩
   | some x=>obtain⟨a,b⟩:=Z95 (hi x (J0j hx));rw [show evOk=evtB from funext Z3k] at b;exact⟨a,b⟩
  rw [cond_true,cond_true,Yj9];unfold X3 Zu7;simp only [he.2,he.1,beq_self_eq_true,cond_true,List.all_nil,List.length_nil,decide_true,Nat.zero_le]
theorem Yul {n:Nat}{inp:Inp}(hi:Zny inp)(j:Bool)(late:Int)(x:Gr)(i:Nat)(o:Op2):fitB j late x i (Zy n inp o)=fitB j (bif late==2 then 2 else 1) x i (Zy n (inp0 n) o):=by
 obtain⟨h1,h2,h3,h4,h5⟩:=Yq7 (n:=n) hi o;unfold fitB;rw [h1,h2,h3,h4,h5];cases hl:(late==2) with
 | true =>
  obtain rfl:late=2:=by simpa using hl
  rfl
 | false=>rfl
theorem Yms {q:Qr}{inp:Inp}{p r:Int}(h:askE q inp p r=0):mchB ((chkQ q).2.1==0) (mOf q inp p r)=true:=by obtain⟨e1,e2,e3,_,⟨p1,p2,r1,r2⟩,n1,n2⟩:=Yi7 h;have hP:=Zjh q ⟨p1,p2⟩;have hs:=Zh4 (Z0k e1);have hg:=Yuk ⟨n1,n2⟩ hP (key:=q.2.2.2.2.2.2.2.2.1) (join:=q.2.2.2.1) (q.2.2.2.2.2.2.2.2.2.1==2) (fun hk=>by unfold partsOf;rw [hk];rfl) (fun hj=>by rw [hj] at hs;rw [e2];exact Yd7 hs) ⟨r1,r2⟩;unfold oneG at hg;simp only [J0e] at hg;obtain⟨g1,g2,g3⟩:=hg;unfold mchB;rw [e1,beq_self_eq_true,Bool.true_and];rw [show gChk (mG (mOf q inp p r))=0 from Yq0 g1,beq_self_eq_true,Bool.true_and];rw [show ((mT (mOf q inp p r)).length==(mG (mOf q inp p r)).1.length)=true by rw [beq_iff_eq];exact List.length_map _,Bool.true_and];rw [show ((mU (mOf q inp p r)).length==(mG (mOf q inp p r)).2.1.length)=true by rw [beq_iff_eq];exact List.length_map _,Bool.true_and];rw [show allI (queI (mG (mOf q inp p r))) 0 (mU (mOf q inp p r))=true from g2,Bool.true_and];refine Eq.trans ?_ g3;exact Zwx fun k o _=>Yul e3 _ _ _ _ o
end Tg

/- Built machines: what BuildFresh and BuildApart have of them. -/
namespace Tg
open Go
open Go.Abs (Zb Zf tmm)
theorem Z65 {α:Type}{p:α->α->Bool}(h:∀ e,p e e=true):∀ l,zipB p l l=true
 | []=>rfl
 | a::l=>by have:=Z65 h l;unfold zipB at this ⊢;rw [List.zip_cons_cons,List.all_cons,this,Bool.and_true];exact h a
theorem Zmi {α:Type}{p:α->α->Bool}(h:∀ e,p e e=true)(l:List α):eqL p l l=true:=by rw [eqL,Z65 h,beq_self_eq_true];rfl
theorem Ycr (n:Nat)(inp:Inp)(o:Op2):(Zy n inp o).2.2.2.2.2.1=[]/\(Zy n inp o).2.2.2.1=[]:=by unfold Zy;cases (o.1==1) <;> cases (o.1==2) <;> cases (o.1==3) <;> cases (o.1==4) <;> cases (o.1==5) <;> cases (o.1==7) <;> exact⟨rfl,rfl⟩
section
variable {q:Qr} {inp:Inp} {p r:Int}
theorem Yka (h:askE q inp p r=0):MLen (mOf q inp p r):=by
 obtain⟨e1,e2,e3,_,⟨p1,p2,r1,r2⟩,n1,n2⟩:=Yi7 h;have hP:=Zjh q ⟨p1,p2⟩;have o1:=(Z3m inp.length (partsOf q p) ⟨n1,n2⟩ hP q.2.2.2.2.2.2.2.2.1 q.2.2.2.1 (q.2.2.2.2.2.2.2.2.2.1==2)).1;have c1:=(Z96 inp.length (partsOf q p) ⟨n1,n2⟩ hP q.2.2.2.2.2.2.2.2.1 (q.2.2.2.2.2.2.2.2.2.1==2) r).1;have a1:(mG (mOf q inp p r)).1.length<=20:=o1;have a2:(mG (mOf q inp p r)).2.1.length<=100:=c1;have a3:(mT (mOf q inp p r)).length=(mG (mOf q inp p r)).1.length:=List.length_map _;have a4:(mU (mOf q inp p r)).length=(mG (mOf q inp p r)).2.1.length:=List.length_map _;refine⟨fun t ht=>?_,fun u hu=>?_,by omega,by omega,by omega,by omega⟩
 . obtain⟨o,_,rfl⟩:=List.mem_map.1 (show t∈(opsG inp.length (partsOf q p) q.2.2.2.2.2.2.2.2.1 q.2.2.2.1 (q.2.2.2.2.2.2.2.2.2.1==2)).map (Zy inp.length inp) from ht);exact Yj6 n2 e3 o
 . obtain⟨c,_,rfl⟩:=List.mem_map.1 (show u∈(chG inp.length (partsOf q p) q.2.2.2.2.2.2.2.2.1 (q.2.2.2.2.2.2.2.2.2.1==2) r).map qOf from hu);exact Nat.zero_le _
end
end Tg

/- The same question is alike (out of BuildApart). -/
namespace Tg
open Go
open Go.Abs (Zb Zf tmm)
def ndQ (e e' : Nd5):Bool:=e.1==e'.1&&(e.2.1==e'.2.1&&(e.2.2.1==e'.2.2.1&&(e.2.2.2.1==e'.2.2.2.1&&true)))
theorem Ycs (l l' : List Nd5)(h:l.length<=100000):Zhc l l' = some (eqL ndQ l l',()):=by
 have hf:=Yp;rw [Zyo,Zjl,notB,eqL];by_cases e:l.length=l'.length
 . rw [show (l.length==l'.length)=true by simpa using e,cond_true,Bool.true_and];rw [Zqe (f:=fun n k=>Zdm n l l' k) (l:=l) (l' := l') (p:=ndQ) (bad:=some (false,())) (fin:=some (true,())) (N:=0) e
    (fun n i a b ha hb=>by have hi:=(J0d.1 ha).1;rw [Zmd,ltL ha,cond_true,ix_s ha,ix_s hb,wS (show i<1000000000000 by omega),notB];rfl)
    (fun n hn=>by rw [Zmd,geL,cond_false]) fuel (by omega)]
   cases zipB ndQ l l' <;> rfl
 . rw [show (l.length==l'.length)=false by simpa using e];rfl
theorem Yum (l l' : List (Int×Unit))(h:l.length<=100000):Zdn l l' = some (eqL ivQ l l',()):=by
 have hf:=Yp;rw [Zm2,Zjl,notB,eqL];by_cases e:l.length=l'.length
 . rw [show (l.length==l'.length)=true by simpa using e,cond_true,Bool.true_and];rw [Zqe (f:=fun n k=>Qy n l l' k) (l:=l) (l' := l') (p:=ivQ) (bad:=some (false,())) (fin:=some (true,())) (N:=0) e
    (fun n i a b ha hb=>by have hi:=(J0d.1 ha).1;rw [Ze2,ltL ha,cond_true,ix_s ha,ix_s hb,wS (show i<1000000000000 by omega),bne,notB];rfl)
    (fun n hn=>by rw [Ze2,geL,cond_false]) fuel (by omega)]
   cases zipB ivQ l l' <;> rfl
 . rw [show (l.length==l'.length)=false by simpa using e];rfl
theorem Ymt {q:Qr}(h1:q.2.1.length<=100000)(h2:q.2.2.1.length<=100000)(h3:q.2.2.2.2.1.length<=100000):Zhd q q=some (true,()):=by rw [Zyp,Ycs _ _ h1,Ycs _ _ h3,Yum _ _ h2,Zmi (fun e=>by simp [ndQ]),Zmi (fun e=>by simp [ivQ]),Zmi (fun e=>by simp [ndQ])];simp
end Tg

/- If no operator of a right machine can do a step, nothing is left. -/
namespace Tg
open Go
open Go.Abs (Zb Zf tmm)
theorem Zwy:∀ {l:List Que} {i:Nat},(∀ q∈l,q.2.1=[])->Zlw i l = -1
 | [],_,_=>rfl
 | a::l,i,h=>by rw [Zlw,h a (by simp)];exact Zwy fun q hq=>h q (by simp [hq])
theorem Yct {m:Mch}{i:Nat}{t:Tsk}(ht:(mT m)[i]? = some t):Znu m i=Znt t (qsAt (mU m) (joinL true (mG m) (i:Int))) (qsAt (mU m) (joinL false (mG m) (i:Int))):=by unfold Znu;rw [ht]
theorem Yd8 {t:Tsk}{ins outs:List Que}(hp:t.2.2.2.1=[]):Znt t ins outs=bif t.1==1 then decide (0<t.2.2.2.2.2.2.1.length) else decide (0<=Zlw 0 ins):=by unfold Znt;rw [hp]
end Tg

/- A built machine is fresh, and what it was built of is its input. -/
namespace Tg
open Go
open Go.Abs (Zb Zf tmm)
theorem Zm1 (n:Nat)(inp:Inp):∀ ops:List Op2,(∀ o∈ops,(o.1==1)=false)->givL (ops.map (Zy n inp))=[]
 | [],_=>rfl
 | o::ops,h=>by
  have ih:=Zm1 n inp ops fun x hx=>h x (by simp [hx]);have h0:=h o (by simp);have hk:((Zy n inp o).1==1)=false:=by unfold Zy;rw [h0,cond_false];cases (o.1==2) <;> cases (o.1==3) <;> cases (o.1==4) <;> cases (o.1==5) <;> cases (o.1==7) <;> rfl
  unfold givL at ih ⊢;rw [List.map_cons,List.filter_cons,hk];exact ih
theorem Zqg (a b:List Tsk):givL (a++b)=givL a++givL b:=by unfold givL;rw [List.filter_append,List.map_append]
theorem Ymu (n:Nat)(inp:Inp)(l:List Nat):givL ((l.map fun (i:Nat)=>((1:Int),(i:Int),())).map (Zy n inp))=l.map fun i=>((inp.getD i ([],())).1,()):=by
 induction l with
 | nil=>rfl
 | cons i l ih=>unfold givL at ih ⊢;rw [List.map_cons,List.map_cons,List.filter_cons,List.map_cons,show ((Zy n inp (1,(i:Int),())).1==1)=true from rfl];rw [if_pos rfl,List.map_cons,ih];rfl
theorem Yad (m:Nat){k:Int}(h:(k==1)=false):∀ o∈nums m k,(o.1==1)=false:=fun o ho=>by unfold nums at ho;rw [List.mem_map] at ho;obtain⟨i,_,rfl⟩:=ho;exact h
theorem Ykb (q:Qr)(inp:Inp)(p r:Int):givL (mT (mOf q inp p r))=inp:=by
 show givL ((opsG inp.length (partsOf q p) q.2.2.2.2.2.2.2.2.1 q.2.2.2.1 (q.2.2.2.2.2.2.2.2.2.1==2)).map (Zy inp.length inp))=inp;unfold opsG;rw [List.map_append,List.map_append,List.map_append,List.map_append,List.map_append,Zqg,Zqg,Zqg,Zqg,Zqg];rw [Zm1 _ _ (nums inp.length 2) (Yad _ rfl),Zm1 _ _ (bif q.2.2.2.2.2.2.2.2.1 then nums inp.length 3 else []) (by cases q.2.2.2.2.2.2.2.2.1;exact fun o ho=>(by cases ho);exact Yad _ rfl)];rw [Zm1 _ _ (nums (partsOf q p) (bif q.2.2.2.1 then 5 else 4)) (Yad _ (by cases q.2.2.2.1 <;> rfl)),Zm1 _ _ [(6,0,())] (fun o ho=>by obtain rfl:=List.mem_singleton.1 ho;rfl)];rw [Zm1 _ _ (bif (q.2.2.2.2.2.2.2.2.2.1==2) then [(7,0,())] else []) (by
  cases (q.2.2.2.2.2.2.2.2.2.1==2)
  . exact fun o ho=>(by cases ho)
  . exact fun o ho=>(by obtain rfl:=List.mem_singleton.1 ho;rfl))]
 simp only [List.append_nil];unfold nums;rw [Ymu];refine List.ext_getElem? fun i=>?_;rw [J0m];by_cases h:i<inp.length
 . rw [List.getElem?_range h,J0c h];simp [List.getD_eq_getElem?_getD,h]
 . rw [List.getElem?_eq_none (by rw [List.length_range];omega),List.getElem?_eq_none (by omega)];rfl
end Tg

/- In a built machine nothing is enabled but sources that have events. -/
namespace Tg
open Go
open Go.Abs (Zb Zf tmm)
theorem Yd9 {q:Qr}{inp:Inp}{p r:Int}{i:Nat}{t:Tsk}(ht:(mT (mOf q inp p r))[i]? = some t):Znu (mOf q inp p r) i=(t.1==1&&decide (0<t.2.2.2.2.2.2.1.length)):=by
 have h0:t.2.2.2.1=[]:=by obtain⟨o,_,rfl⟩:=List.mem_map.1 (show t∈(opsG inp.length (partsOf q p) q.2.2.2.2.2.2.2.2.1 q.2.2.2.1 (q.2.2.2.2.2.2.2.2.2.1==2)).map (Zy inp.length inp) from J0j ht);exact (Ycr _ _ _).2
 have hq:∀ (l:List (Int×Unit)),∀ u∈qsAt (mU (mOf q inp p r)) l,u.2.1=[]:=fun l u hu=>by unfold qsAt at hu;rw [List.mem_filterMap] at hu;obtain⟨y,_,hy⟩:=hu;obtain⟨c,_,rfl⟩:=List.mem_map.1 (show u∈(chG inp.length (partsOf q p) q.2.2.2.2.2.2.2.2.1 (q.2.2.2.2.2.2.2.2.2.1==2) r).map qOf from J0j hy);rfl
 rw [Yct ht,Yd8 h0,Zwy (hq _)];cases t.1==1 <;> rfl
end Tg
