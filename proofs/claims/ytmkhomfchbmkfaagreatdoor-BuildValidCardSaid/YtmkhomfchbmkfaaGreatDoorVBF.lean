import Derived.Test.YtmkhomfchbmkfaaGreatDoorVNn1
import Derived.Test.YtmkhomfchbmkfaaGreatDoorVQG
import Derived.Test.YtmkhomfchbmkfaaGreatDoorVME
/- Fresh tasks: what the program and the reference say of two tasks. -/
set_option linter.unusedVariables false
set_option linter.unusedSimpArgs false
namespace Tg
open Go
open Go.Abs (Zb Zf tmm)
def zipB {α:Type}(p:α->α->Bool)(l l' : List α):Bool:=(l.zip l').all fun x=>p x.1 x.2
theorem Zx6 {α β:Type}{f:Nat->Int->Option β}{l l' : List α}{p:α->α->Bool}{bad fin:Option β}{N:Nat}(hl:l.length=l'.length)
    (hs:∀ n (i:Nat) e e',l[i]? = some e->l'[i]? = some e' -> f (n+1) (i:Int)=bif p e e' then f n ((i+1:Nat):Int) else bad)
    (he:∀ n,N<=n->f (n+1) (l.length:Int)=fin) (n:Nat) (hn:N+l.length+1<=n):f n 0=bif zipB p l l' then fin else bad:=by
  have hz:(l.zip l').length=l.length:=by grind
  exact Zeb (f:=f) (l:=l.zip l') (p:=fun x=>p x.1 x.2) (bad:=bad) (fin:=fin) (N:=N)
   (fun n i x hx=>by grind)
   (fun n hn=>by grind) n (by omega)
def eqL {α:Type}(p:α->α->Bool)(l l' : List α):Bool:=l.length==l'.length&&zipB p l l'
def opQ (e e' : Op):Bool:=e.1==e'.1&&(e.2.1==e'.2.1&&true)
def chQ (e e' : Cn):Bool:=e.1==e'.1&&(e.2.1==e'.2.1&&(e.2.2.1==e'.2.2.1&&(e.2.2.2.1==e'.2.2.2.1&&(e.2.2.2.2.1==e'.2.2.2.2.1&&true))))
def evQ (e e' : Evt):Bool:=e.1==e'.1&&(e.2.1==e'.2.1&&(e.2.2.1==e'.2.2.1&&(e.2.2.2.1==e'.2.2.2.1&&(e.2.2.2.2.1==e'.2.2.2.2.1&&true))))
def ivQ (e e' : Int×Unit):Bool:=e.1==e'.1
theorem Zj8 (a b:Nat):(Int.ofNat a != Int.ofNat b) = !(a==b):=by grind
theorem notB {β:Type}(b:Bool)(x y:β):(bif !b then x else y)=bif b then y else x:=by grind
theorem Yo1 (l l' : List Op)(h:l.length<=100000):Yk l l' = some (eqL opQ l l',()):=by
 have hf:=Yu;rw [Zd7,Zj8,notB,eqL];by_cases e:l.length=l'.length
 . rw [show (l.length==l'.length)=true by grind,cond_true,Bool.true_and];rw [Zx6 (f:=fun n k=>Yd n l l' (Int.ofNat l.length) k) (l:=l) (l' := l') (p:=opQ) (bad:=some (false,())) (fin:=some (true,())) (N:=0) e
    (fun n i a b ha hb=>by have hi:=(J0d.1 ha).1;rw [Q9,ltL ha,cond_true,ix_s ha,ix_s hb,wS (show i<1000000000000 by omega),notB];rfl)
    (fun n hn=>by rw [Q9,geL,cond_false]) fuel (by omega)]
   grind
 grind
theorem Yo2 (l l' : List Cn)(h:l.length<=100000):Zp l l' = some (eqL chQ l l',()):=by
 have hf:=Yu;rw [Zba,Zj8,notB,eqL];by_cases e:l.length=l'.length
 . rw [show (l.length==l'.length)=true by grind,cond_true,Bool.true_and];rw [Zx6 (f:=fun n k=>Zm n l l' (Int.ofNat l.length) k) (l:=l) (l' := l') (p:=chQ) (bad:=some (false,())) (fin:=some (true,())) (N:=0) e
    (fun n i a b ha hb=>by have hi:=(J0d.1 ha).1;rw [Y0,ltL ha,cond_true,ix_s ha,ix_s hb,wS (show i<1000000000000 by omega),notB];rfl)
    (fun n hn=>by rw [Y0,geL,cond_false]) fuel (by omega)]
   grind
 grind
theorem Yo3 (l l' : List Evt)(h:l.length<=100000):Yo l l' = some (eqL evQ l l',()):=by
 have hf:=Yu;rw [Zb5,Zj8,notB,eqL];by_cases e:l.length=l'.length
 . rw [show (l.length==l'.length)=true by grind,cond_true,Bool.true_and];rw [Zx6 (f:=fun n k=>Zw n l l' (Int.ofNat l.length) k) (l:=l) (l' := l') (p:=evQ) (bad:=some (false,())) (fin:=some (true,())) (N:=0) e
    (fun n i a b ha hb=>by have hi:=(J0d.1 ha).1;rw [Xo,ltL ha,cond_true,ix_s ha,ix_s hb,wS (show i<1000000000000 by omega),notB];rfl)
    (fun n hn=>by rw [Xo,geL,cond_false]) fuel (by omega)]
   grind
 grind
theorem Yo4 (l l' : List (Int×Unit))(h:l.length<=100000):X6 l l' = some (eqL ivQ l l',()):=by
 have hf:=Yu;rw [Zff,Zj8,notB,eqL];by_cases e:l.length=l'.length
 . rw [show (l.length==l'.length)=true by grind,cond_true,Bool.true_and];rw [Zx6 (f:=fun n k=>Yg n l l' (Int.ofNat l.length) k) (l:=l) (l' := l') (p:=ivQ) (bad:=some (false,())) (fin:=some (true,())) (N:=0) e
    (fun n i a b ha hb=>by have hi:=(J0d.1 ha).1;rw [Zaz,ltL ha,cond_true,ix_s ha,ix_s hb,wS (show i<1000000000000 by omega),bne,notB];rfl)
    (fun n hn=>by rw [Zaz,geL,cond_false]) fuel (by omega)]
   grind
 grind
def Zih (t t' : Tsk):Bool:=(t.1==t'.1&&(t.2.1==t'.2.1&&true))&&(t.2.2.1==t'.2.2.1&&((t.2.2.2.1.length==0&&(t.2.2.2.2.2.1.length==0&&(t.2.2.2.2.2.2.2.1.length==0&&t.2.2.2.2.2.2.2.2.1.length==0)))&&(eqL ivQ t.2.2.2.2.1 t'.2.2.2.2.1&&eqL evQ t.2.2.2.2.2.2.1 t'.2.2.2.2.2.2.1)))
theorem Yo5 {t t' : Tsk}(h:TLen t):Zng t t' = some (Zih t t',()):=by
 have h1:=h.h1;have h2:=h.h2;have h3:=h.h3;have h4:=h.h4;have h5:=h.h5;have h6:=h.h6;rw [Zz7,Yo4 _ _ h2,Yo3 _ _ h4];have e:(Go.IntKind.wrap .i64 (Go.IntKind.wrap .i64 (Go.IntKind.wrap .i64 (Int.ofNat t.2.2.2.1.length+Int.ofNat t.2.2.2.2.2.1.length)+Int.ofNat t.2.2.2.2.2.2.2.1.length)+Int.ofNat t.2.2.2.2.2.2.2.2.1.length)==0) =
     (t.2.2.2.1.length==0&&(t.2.2.2.2.2.1.length==0&&(t.2.2.2.2.2.2.2.1.length==0&&t.2.2.2.2.2.2.2.2.1.length==0))):=by
   simp only [J0g];rw [w64 (x:=(t.2.2.2.1.length:Int)+(t.2.2.2.2.2.1.length:Int)) (by omega) (by omega),w64 (x:=(t.2.2.2.1.length:Int)+(t.2.2.2.2.2.1.length:Int)+(t.2.2.2.2.2.2.2.1.length:Int)) (by omega) (by omega),w64 (by omega) (by omega)];grind
 rw [e];unfold Zih;grind
end Tg

/- The reference's Same against a new task, and the events that are left. -/
namespace Tg
open Go
open Go.Abs (Zb Zf tmm)
def givL (ts:List Tsk):List (List Evt×Unit):=(ts.filter fun t=>t.1==1).map fun t=>(t.2.2.2.2.2.2.1,())
theorem Ymn {m:Mch}(hm:MLen m)(h1:(mT m).length<=1000):Zfg m=some (givL (mT m),()):=by
 have hf:=Yu;have fold:∀ (l:List Tsk) (s:List (List Evt×Unit)),l.foldl (fun s t=>bif t.1==1 then s++[(t.2.2.2.2.2.2.1,())] else s) s=s++givL l:=by
  intro l
  induction l with
  | nil=>intro s;simp [givL]
  | cons t l ih=>intro s;rw [List.foldl_cons,ih];unfold givL;grind
 have:=Yih (f:=fun n s k=>Zbw n s (mT m) (Int.ofNat (mT m).length) k) (l:=mT m) (g:=fun s (t:Tsk)=>bif t.1==1 then s++[(t.2.2.2.2.2.2.1,())] else s) (fin:=fun s=>some (s,())) (N:=0) (fun i s=>s.length<=i)
  (fun n s i t ht hp=>by
   have hi:=(J0d.1 ht).1;have hl:=(hm.t t (J0j ht)).h4;have b:Zb (s.length+List.length [(t.2.2.2.2.2.2.1,())]) 24=true:=Zej (by grind) (by omega);refine⟨?_,?_⟩
   . rw [Znh,ltL ht,cond_true,ix_s ht,wS (show i<1000000000000 by omega),Zc6 (show t.2.2.2.2.2.2.1.length<=1000000 by omega) (show 40<=1000 by omega),J0k,b,cond_true];grind
   grind)
  (fun n s hn hp=>by rw [Znh,geL];rfl) fuel [] (Nat.le_refl _) (by omega)
 rw [Zz8];refine this.trans ?_;grind
end Tg

/- The numbers of a graph: the program and the reference take the same. -/
namespace Tg
open Go
open Go.Abs (Zb Zf tmm)
def prs:List (Int×Int):=[(1,1),(1,2),(1,3),(1,4),(1,5),(1,6),(1,7),(1,8),(2,1),(2,2),(2,3),(2,4),(2,5),(2,6),(2,7),(2,8),(3,1),(3,2),(3,3),(3,4),(3,5),(3,6),(3,7),(3,8)]
def Znt {β:Type}(hit:Int×Int->Bool)(no:β)(res:Int×Int->β):List (Int×Int)->β
 | []=>no
 | x::l=>bif hit x then res x else Znt hit no res l
theorem Zx7 (hit:Int×Int->Bool):∀ (l:List (Int×Int)),(∃ x∈l,hit x=true /\ ∀ {β:Type} (no:β) (res:Int×Int->β),Znt hit no res l=res x)∨(∀ {β:Type} (no:β) (res:Int×Int->β),Znt hit no res l=no)
 | []=>.inr fun _ _=>rfl
 | x::l=>by
  cases h:hit x with
  | true=>exact .inl ⟨x,by simp,h,fun no res=>by rw [Znt,h,cond_true]⟩
  | false =>
   rcases Zx7 hit l with ⟨y,h1,h2,h3⟩ | h3
   . exact .inl ⟨y,by simp [h1],h2,fun no res=>by rw [Znt,h,cond_false,h3]⟩
   . exact .inr fun no res=>by rw [Znt,h,cond_false,h3]
theorem Yqn {β:Type}{f8:Nat->Int->β}{f13:Nat->Int->Int->β}{hit:Int×Int->Bool}{no:β}{res:Int×Int->β}
    (h8:∀ n p,f8 (n+1) p=bif decide (p<=3) then f13 n p 1 else no)
    (h13:∀ n p r,1000<=n->1<=p->p<=3->1<=r->r<=8->f13 (n+1) p r=bif hit (p,r) then res (p,r) else f13 n p (Go.IntKind.wrap .i64 (r+1)))
    (h14:∀ n p,f13 (n+1) p 9=f8 n (Go.IntKind.wrap .i64 (p+1))) (n:Nat) (hn:2000<=n):f8 n 1=Znt hit no res prs:=by
  have row:∀ k p,1000<=k->1<=p->p<=3->f13 (k+9) p 1=Znt hit (f8 k (Go.IntKind.wrap .i64 (p+1))) res [(p,1),(p,2),(p,3),(p,4),(p,5),(p,6),(p,7),(p,8)]:=by intro k p hk h1 h3;rw [h13 (k+8) p 1 (by omega) h1 h3 (by omega) (by omega),show Go.IntKind.wrap .i64 ((1:Int)+1)=2 from rfl];rw [h13 (k+7) p 2 (by omega) h1 h3 (by omega) (by omega),show Go.IntKind.wrap .i64 ((2:Int)+1)=3 from rfl];rw [h13 (k+6) p 3 (by omega) h1 h3 (by omega) (by omega),show Go.IntKind.wrap .i64 ((3:Int)+1)=4 from rfl];rw [h13 (k+5) p 4 (by omega) h1 h3 (by omega) (by omega),show Go.IntKind.wrap .i64 ((4:Int)+1)=5 from rfl];rw [h13 (k+4) p 5 (by omega) h1 h3 (by omega) (by omega),show Go.IntKind.wrap .i64 ((5:Int)+1)=6 from rfl];rw [h13 (k+3) p 6 (by omega) h1 h3 (by omega) (by omega),show Go.IntKind.wrap .i64 ((6:Int)+1)=7 from rfl];rw [h13 (k+2) p 7 (by omega) h1 h3 (by omega) (by omega),show Go.IntKind.wrap .i64 ((7:Int)+1)=8 from rfl];rw [h13 (k+1) p 8 (by omega) h1 h3 (by omega) (by omega),show Go.IntKind.wrap .i64 ((8:Int)+1)=9 from rfl,h14];rfl
  obtain⟨k,rfl⟩:∃ k,n=k+1+9+1+9+1+9+1:=⟨n - 31,by omega⟩;rw [h8,show decide ((1:Int)<=3)=true from rfl,cond_true,row _ 1 (by omega) (by omega) (by omega),show Go.IntKind.wrap .i64 ((1:Int)+1)=2 from rfl];rw [h8,show decide ((2:Int)<=3)=true from rfl,cond_true,row _ 2 (by omega) (by omega) (by omega),show Go.IntKind.wrap .i64 ((2:Int)+1)=3 from rfl];rw [h8,show decide ((3:Int)<=3)=true from rfl,cond_true,row _ 3 (by omega) (by omega) (by omega),show Go.IntKind.wrap .i64 ((3:Int)+1)=4 from rfl];rw [h8,show decide ((4:Int)<=3)=false from rfl,cond_false];rfl
theorem Ytd (g g' : Gr)(h1:g.1.length<=100000)(h2:g.2.1.length<=100000):Zj2 g g' = some (eqL opQ g.1 g'.1&&eqL chQ g.2.1 g'.2.1,()):=by
 obtain⟨n,hn⟩:=Xz;rw [Z5d,Zj8,Zj8,notB,notB,eqL,eqL];cases e1:(g.1.length==g'.1.length) with
 | false=>rfl
 | true =>
  cases e2:(g.2.1.length==g'.2.1.length) with
  | false=>grind
  | true =>
   have e1:g.1.length=g'.1.length:=by grind
   have e2:g.2.1.length=g'.2.1.length:=by grind
   have e14:∀ n,g.2.1.length+2<=n->Zbv n g.2.1 g'.2.1 0=bif zipB chQ g.2.1 g'.2.1 then some (true,()) else some (false,()):=fun n hn =>
    Zx6 (f:=fun n k=>Zbv n g.2.1 g'.2.1 k) (l:=g.2.1) (l' := g'.2.1) (p:=chQ) (N:=0) e2
     (fun n i a b ha hb=>by have hi:=(J0d.1 ha).1;simp only [Znf,ltL ha,cond_true,iN,J0l,ha,hb,wS (show i<1000000000000 by omega)];rw [notB];rfl)
     (fun n hn=>by rw [Znf,geL,cond_false]) n (by omega)
   have:=Zx6 (f:=fun n k=>Ze5 n g.1 g.2.1 g'.1 g'.2.1 k) (l:=g.1) (l' := g'.1) (p:=opQ) (N:=g.2.1.length+10) (bad:=some (false,())) (fin:=bif zipB chQ g.2.1 g'.2.1 then some (true,()) else some (false,())) e1
    (fun n i a b ha hb=>by have hi:=(J0d.1 ha).1;simp only [Zo4,ltL ha,cond_true,iN,J0l,ha,hb,wS (show i<1000000000000 by omega)];rw [notB];rfl)
    (fun n hn=>by obtain⟨k,rfl⟩:∃ k,n=k+1:=⟨n - 1,by omega⟩;rw [Zo4,geL,cond_false,Zz5];grind) fuel (by omega)
   grind
def hitR (m:Mch)(x:Int×Int):Bool :=
 let q:=mQ m
 eqL opQ (opsG q.2.2.1.length (partsOf q x.1) q.2.2.2.2.2.2.2.2.1 q.2.2.2.1 (q.2.2.2.2.2.2.2.2.2.1==2)) (mG m).1&&eqL chQ (chG q.2.2.1.length (partsOf q x.1) q.2.2.2.2.2.2.2.2.1 (q.2.2.2.2.2.2.2.2.2.1==2) x.2) (mG m).2.1
structure QS (q:Qr):Prop where
 ok:(chkQ q).2.1=0
 h1:q.2.1.length<=1000
 h2:q.2.2.1.length<=1000
 h3:q.2.2.2.2.1.length<=1000
 n:1<=q.2.2.1.length/\q.2.2.1.length<=4
theorem Yez {l:List Nd}(h:errN l=0):l.length<=1000:=by unfold errN at h;grind
theorem qs {q:Qr}(h:(chkQ q).2.1=0):QS q:=by
 have hc:=Z2h h;obtain⟨a,b,_⟩:=Ylg hc;have n:=Zrc (Zix hc);refine⟨h,?_,by omega,?_,n⟩
 . by_cases z:q.2.1.length=0
   . omega
   . exact Yez (a z)
 . by_cases z:q.2.2.2.2.1.length=0
   . omega
   . exact Yez (b z)
end Tg

/- Fresh machines: what the program and the reference say. -/
namespace Tg
open Go
open Go.Abs (Zb Zf tmm)
theorem Z8u {α:Type}(p:α->α->Bool):∀ (l l' : List α),zipB p l l' = zipB (fun a b=>p b a) l' l
 | [],[]=>rfl
 | [],_::_=>rfl
 | _::_,[]=>rfl
 | a::l,b::l' => by have:=Z8u p l l';unfold zipB at this ⊢;simp_all
theorem Yte {α:Type}{p:α->α->Bool}{l l' : List α}(h:zipB p l l' = true){i:Nat}{e e' : α}(h1:l[i]? = some e)(h2:l'[i]? = some e'):p e e' = true:=by have hz:(l.zip l')[i]? = some (e,e'):=List.getElem?_zip_eq_some.2 ⟨h1,h2⟩;unfold zipB at h;grind
def Ztc (u:Que):Bool:=u.2.1.length==0
theorem Ygi (n:Nat)(inp:Inp)(o:Op2):∃ k N u mk ev,Zn n inp o=(k,N,u,[],mk,[],ev,[],[],()):=by
 unfold Zn;cases (o.1==1)
 . cases (o.1==2)
   . cases (o.1==3)
     . cases (o.1==4)
       . cases (o.1==5)
         . cases (o.1==7)
           . grind
           grind
         grind
       grind
     grind
   grind
 grind
theorem Ye0:∀ {l:Inp},(∀ x∈l,Zd2 x.1=0)->Zay l=0
 | [],_=>rfl
 | a::l,h=>by rw [Zay,h a (by simp),Qs,cond_false];exact Ye0 fun x hx=>h x (by simp [hx])
structure Fine (m:Mch):Prop where
 l:MLen m
 q:QS (mQ m)
 ops:(mG m).1.length<=20
 chs:(mG m).2.1.length<=100
 tl:(mT m).length=(mG m).1.length
 ul:(mU m).length=(mG m).2.1.length
 room:∀ (i:Nat) u c,(mU m)[i]? = some u->(mG m).2.1[i]? = some c->u.1=c.2.2.2.2.1
 ev:∀ t∈mT m,t.1=1->Zd2 t.2.2.2.2.2.2.1=0
theorem fine {m:Mch}(hm:MLen m)(h:mchB ((chkQ (mQ m)).2.1==0) m=true):Fine m:=by
 unfold mchB at h;rw [J0e,J0e,J0e,J0e,J0e,beq_iff_eq,beq_iff_eq,beq_iff_eq,beq_iff_eq] at h;obtain⟨h1,h2,h3,h4,h5,h6⟩:=h;obtain⟨g1,g2,_⟩:=Z4n h2;refine⟨hm,qs h1,g1,g2,h3,h4,fun i u c hu hc=>?_,fun t ht hk=>?_⟩
 . have:=Zod h5 hu;rw [Nat.zero_add] at this;unfold queI at this;grind
 . obtain⟨i,hi⟩:=List.getElem?_of_mem ht;have:=Zod h6 hi;rw [Nat.zero_add] at this;unfold fitB at this;split at this
   . grind
   . rw [J0e] at this;have ht:=(J0e _ _ ▸ this.2).1;unfold Zc1 at ht;simp only [J0e] at ht;obtain⟨_,_,hk',_,_,_,he,_⟩:=ht;unfold Zqs at hk';simp only [hk,beq_self_eq_true,cond_true,J0e,J0h] at hk';unfold Zd2;rw [show decide ((t.2.2.2.2.2.2.1.length:Int)>60)=false from decide_eq_false (by omega),cond_false,show evOk=evtB from funext Z5e,he];rfl
theorem Fine.given {m:Mch}(h:Fine m):Zay (givL (mT m))=0:=by refine Ye0 fun x hx=>?_;unfold givL at hx;obtain⟨t,ht,rfl⟩:=List.mem_map.1 hx;obtain⟨h1,h2⟩:=List.mem_filter.1 ht;exact h.ev t h1 (by grind)
theorem Yo6 (l:List Tsk):(givL l).length<=l.length:=by unfold givL;grind
abbrev mkM (m:Mch)(x:Int×Int):Mch:=mOf (mQ m) (givL (mT m)) x.1 x.2
def Ycb (m:Mch)(x:Int×Int):Bool:=(mU m).all Ztc&&zipB Zih (mT m) (mT (mkM m x))
def Zx8 (m:Mch):Bool:=bif (givL (mT m)).length==(mQ m).2.2.1.length then Znt (hitR m) false (Ycb m) prs else false
theorem Ywv {m:Mch}(he:(givL (mT m)).length=(mQ m).2.2.1.length){x:Int×Int}:hitR m x=(eqL opQ (mG (mkM m x)).1 (mG m).1&&eqL chQ (mG (mkM m x)).2.1 (mG m).2.1):=by unfold hitR mkM mOf mG;grind
end Tg

/- The law of BuildFresh in plain words. -/
namespace Tg
open Go
open Go.Abs (Zb Zf tmm)
theorem Yww {m:Mch}(h:Fine m)(he:(givL (mT m)).length=(mQ m).2.2.1.length){p r:Int}(p1:1<=p)(p3:p<=3)(r1:1<=r)(r8:r<=8):askE (mQ m) (givL (mT m)) p r=0:=by unfold askE;rw [h.q.ok,he,h.given,Qs,Qs,cond_false,cond_false,cond_false];unfold prE;grind
theorem Ywx {m:Mch}(h:Fine m)(he:(givL (mT m)).length≠(mQ m).2.2.1.length)(p r:Int):askE (mQ m) (givL (mT m)) p r=2:=by unfold askE;rw [h.q.ok,Qs,cond_false,show (((givL (mT m)).length:Int) != ((mQ m).2.2.1.length:Int))=true from by grind];rfl
theorem Ymo (us:List Que)(n:Nat)(hn:200<=n)(hl:us.length<=100):Zfq n us=some (us.all Ztc,0,()):=by
 obtain⟨k,rfl⟩:∃ k,n=k+1:=⟨n - 1,by omega⟩;rw [Ztz];refine (Zeb (f:=fun n k=>Zcp n us (Int.ofNat us.length) k) (l:=us) (p:=Ztc) (bad:=some (false,0,())) (fin:=some (true,0,())) (N:=0)
  (fun n i u hu=>?_) (fun n hn=>by rw [Zkz,geL,cond_false]) k (by omega)).trans ?_
 . have hi:=(J0d.1 hu).1;rw [Zkz,ltL hu,cond_true,ix_s hu,wS (show i<1000000000000 by omega),show decide ((i:Int)>=0)=true from decide_eq_true (by omega)];unfold Ztc;grind
 grind
theorem Yo7 (m:Mch)(h:Fine m)(ts:List Tsk)(hl:ts.length=(mT m).length)(n:Nat)(hn:1000<=n):Zbc n (mT m) ts (Int.ofNat ts.length) 0 (mU m)=some ((mU m).all Ztc&&zipB Zih (mT m) ts,0,()):=by
 have l1:=h.tl;have l2:=h.ops;have l3:=h.ul;have l4:=h.chs;refine (Zx6 (f:=fun n k=>Zbc n (mT m) ts (Int.ofNat ts.length) k (mU m)) (l:=ts) (l' := mT m) (p:=fun a b=>Zih b a) (bad:=some (false,0,())) (fin:=some ((mU m).all Ztc,0,())) (N:=400) hl
  (fun n i a b ha hb=>?_)
  (fun n hn=>by rw [Zky,geL,cond_false];exact Ymo _ _ (by omega) (by omega)) n (by omega)).trans ?_
 . have hi:=(J0d.1 ha).1;rw [Zky,ltL ha,cond_true,ix_s ha,ix_s hb,wS (show i<1000000000000 by omega),Yo5 (h.l.t b (J0j hb)),J0k,notB]
 . rw [Z8u Zih (mT m) ts];grind
theorem Ytf {m:Mch}(h:Fine m)(hc:Zcz m=some (0,())):Zh3 m=some (Zx8 m,0,()):=by
 have hf:=Yu;have l1:=h.tl;have l2:=h.ops;have l4:=h.chs;have l5:=Yo6 (mT m);have hg:Zfg (m.1,m.2.1,m.2.2.1,m.2.2.2.1,m.2.2.2.2.1,m.2.2.2.2.2.1,m.2.2.2.2.2.2.1,m.2.2.2.2.2.2.2.1,m.2.2.2.2.2.2.2.2.1,m.2.2.2.2.2.2.2.2.2.1,m.2.2.2.2.2.2.2.2.2.2.1,m.2.2.2.2.2.2.2.2.2.2.2.1,m.2.2.2.2.2.2.2.2.2.2.2.2.1,m.2.2.2.2.2.2.2.2.2.2.2.2.2.1,())=some (givL (mT m),()):=Ymn (m:=m) h.l (by omega);have hb:∀ p r,Zc5 (m.1,m.2.1,m.2.2.1,m.2.2.2.1,m.2.2.2.2.1,m.2.2.2.2.2.1,m.2.2.2.2.2.2.1,m.2.2.2.2.2.2.2.1,m.2.2.2.2.2.2.2.2.1,m.2.2.2.2.2.2.2.2.2.1,()) (givL (mT m)) p r=some (bif askE (mQ m) (givL (mT m)) p r != 0 then zM else mkM m (p,r),askE (mQ m) (givL (mT m)) p r,()):=fun p r=>Z8r (mQ m) (givL (mT m)) p r (by omega) h.q.h1 h.q.h2 h.q.h3;rw [Z0a,hc,J0k,Qs,cond_false];by_cases he:(givL (mT m)).length=(mQ m).2.2.1.length
 . unfold Zx8;rw [show ((givL (mT m)).length==(mQ m).2.2.1.length)=true from by grind,cond_true];refine (Yqn (hit:=hitR m) (no:=some (false,0,())) (res:=fun x=>some (Ycb m x,0,()))
    (f8:=fun n p=>Zbx n m.1 m.2.1 m.2.2.1 m.2.2.2.1 m.2.2.2.2.1 m.2.2.2.2.2.1 m.2.2.2.2.2.2.1 m.2.2.2.2.2.2.2.1 m.2.2.2.2.2.2.2.2.1 m.2.2.2.2.2.2.2.2.2.1 m.2.2.2.2.2.2.2.2.2.2.1 m.2.2.2.2.2.2.2.2.2.2.2.1 m.2.2.2.2.2.2.2.2.2.2.2.2.1 m.2.2.2.2.2.2.2.2.2.2.2.2.2.1 p)
    (f13:=fun n p r=>Zbb n m.1 m.2.1 m.2.2.1 m.2.2.2.1 m.2.2.2.2.1 m.2.2.2.2.2.1 m.2.2.2.2.2.2.1 m.2.2.2.2.2.2.2.1 m.2.2.2.2.2.2.2.2.1 m.2.2.2.2.2.2.2.2.2.1 m.2.2.2.2.2.2.2.2.2.2.1 m.2.2.2.2.2.2.2.2.2.2.2.1 m.2.2.2.2.2.2.2.2.2.2.2.2.1 m.2.2.2.2.2.2.2.2.2.2.2.2.2.1 p r)
    (fun n p=>by rw [Znj]) (fun n p r hn p1 p3 r1 r8=>?_) (fun n p=>by rw [Zcq];rfl) fuel (by omega)).trans ?_
   . have a0:=Yww h he p1 p3 r1 r8;have hP:=Zc0 (mQ m) ⟨p1,p3⟩;have o1:=(Z5h (mQ m).2.2.1.length (partsOf (mQ m) p) h.q.n hP (mQ m).2.2.2.2.2.2.2.2.1 (mQ m).2.2.2.1 ((mQ m).2.2.2.2.2.2.2.2.2.1==2)).1;have c1:=(Zsg (mQ m).2.2.1.length (partsOf (mQ m) p) h.q.n hP (mQ m).2.2.2.2.2.2.2.2.1 ((mQ m).2.2.2.2.2.2.2.2.2.1==2) r).1;rw [<- he] at o1 c1;have q1:=Yo1 (mG (mkM m (p,r))).1 (mG m).1 (Nat.le_trans o1 (Nat.le_of_ble_eq_true rfl));have q2:=Yo2 (mG (mkM m (p,r))).2.1 (mG m).2.1 (Nat.le_trans c1 (Nat.le_of_ble_eq_true rfl));have t1:(mT (mkM m (p,r))).length=(mG (mkM m (p,r))).1.length:=by show (List.map _ _).length=_;rw [List.length_map];rfl
     rw [Ywv he,Zcq,show decide (r<=8)=true from decide_eq_true r8,cond_true,hg,J0k,hb,a0,J0k];dsimp only;rw [Qs,cond_false,cond_false];rw [show Yk (mkM m (p,r)).2.2.2.2.2.2.2.2.2.2.1 m.2.2.2.2.2.2.2.2.2.2.1=some (eqL opQ (mG (mkM m (p,r))).1 (mG m).1,()) from q1,J0k,notB];cases h1:eqL opQ (mG (mkM m (p,r))).1 (mG m).1 with
     | false=>rfl
     | true =>
      rw [cond_true,show Zp (mkM m (p,r)).2.2.2.2.2.2.2.2.2.2.2.1 m.2.2.2.2.2.2.2.2.2.2.2.1=some (eqL chQ (mG (mkM m (p,r))).2.1 (mG m).2.1,()) from q2,J0k,notB];cases h2:eqL chQ (mG (mkM m (p,r))).2.1 (mG m).2.1 with
      | false=>rfl
      | true =>
       have e1:(mG (mkM m (p,r))).1.length=(mG m).1.length:=by unfold eqL at h1;grind
       have t2:(mT (mkM m (p,r))).length=(mT m).length:=by grind
       rw [cond_true,Zj8,notB,show ((mkM m (p,r)).2.2.2.2.2.2.2.2.2.2.2.2.1.length==m.2.2.2.2.2.2.2.2.2.2.2.2.1.length)=true from by rw [beq_iff_eq];exact t2,cond_true,Bool.and_true,cond_true];exact Yo7 m h (mT (mkM m (p,r))) t2 n hn
   . rcases Zx7 (hitR m) prs with ⟨x,_,_,k⟩ | k <;> rw [k,k]
 . unfold Zx8;rw [show ((givL (mT m)).length==(mQ m).2.2.1.length)=false from by grind,cond_false];refine (Yqn (hit:=fun _=>false) (no:=some (false,0,())) (res:=fun x=>some (false,0,()))
    (f8:=fun n p=>Zbx n m.1 m.2.1 m.2.2.1 m.2.2.2.1 m.2.2.2.2.1 m.2.2.2.2.2.1 m.2.2.2.2.2.2.1 m.2.2.2.2.2.2.2.1 m.2.2.2.2.2.2.2.2.1 m.2.2.2.2.2.2.2.2.2.1 m.2.2.2.2.2.2.2.2.2.2.1 m.2.2.2.2.2.2.2.2.2.2.2.1 m.2.2.2.2.2.2.2.2.2.2.2.2.1 m.2.2.2.2.2.2.2.2.2.2.2.2.2.1 p)
    (f13:=fun n p r=>Zbb n m.1 m.2.1 m.2.2.1 m.2.2.2.1 m.2.2.2.2.1 m.2.2.2.2.2.1 m.2.2.2.2.2.2.1 m.2.2.2.2.2.2.2.1 m.2.2.2.2.2.2.2.2.1 m.2.2.2.2.2.2.2.2.2.1 m.2.2.2.2.2.2.2.2.2.2.1 m.2.2.2.2.2.2.2.2.2.2.2.1 m.2.2.2.2.2.2.2.2.2.2.2.2.1 m.2.2.2.2.2.2.2.2.2.2.2.2.2.1 p r)
    (fun n p=>by rw [Znj]) (fun n p r hn p1 p3 r1 r8=>?_) (fun n p=>by rw [Zcq];rfl) fuel (by omega)).trans ?_
   . rw [Zcq,show decide (r<=8)=true from decide_eq_true r8,cond_true,hg,J0k,hb,Ywx h he,J0k];rfl
   . rfl
theorem Yo8:∀ {l:List (List Evt×Unit)},l.length<=100000->(∀ x∈l,x.1.length<=100000)->Zco l l=some (true,()):=by
 intro l hl hx;have inner:∀ (i:Nat) (x:List Evt×Unit),l[i]? = some x -> ∀ (d j n:Nat),j+d=x.1.length -> ∃ n',n<=n' + d/\Zak (n+d+1) l l (i:Int) (j:Int)=Qn n l l ((i+1:Nat):Int):=by
  intro i x hi d;have li:=(J0d.1 hi).1;have lx:=hx x (J0j hi)
  induction d with
  | zero =>
   intro j n hj;refine⟨n,by omega,?_⟩;obtain rfl:j=x.1.length:=by omega
   rw [Zft,ix_s hi,geL,cond_false,wS (show i<1000000000000 by omega),Nat.add_zero]
  | succ d ih=>intro j n hj;obtain⟨n',h1,h2⟩:=ih (j+1) n (by omega);refine⟨n',by omega,?_⟩;obtain⟨e,he⟩:∃ e,x.1[j]? = some e:=⟨_,J0c (by omega)⟩;rw [Zft,ix_s hi,ltL he,cond_true,ix_s hi,ix_s he,ix_s hi,ix_s he,wS (show j<1000000000000 by omega)];grind
 have outer:∀ (d i n:Nat),i+d=l.length->Qn (n+d * 100002+1) l l (i:Int)=some (true,()):=by
  intro d
  induction d with
  | zero =>
   intro i n hi;obtain rfl:i=l.length:=by omega
   rw [Zhc,geL,cond_false]
  | succ d ih=>intro i n hi;obtain⟨x,hx'⟩:∃ x,l[i]? = some x:=⟨_,J0c (by omega)⟩;have lx:=hx x (J0j hx');rw [Zhc,ltL hx',cond_true,ix_s hx',ix_s hx',Qs,cond_false];obtain⟨_,_,h2⟩:=inner i x hx' x.1.length 0 (n+(100000 - x.1.length)+d * 100002+1) (by omega);rw [show n+(d+1) * 100002=n+(100000 - x.1.length)+d * 100002+1+x.1.length+1 by omega,show (0:Int)=((0:Nat):Int) from rfl,h2];exact ih (i+1) _ (by omega)
 obtain⟨n,hn⟩:=Xz;rw [Zrd,Qs,cond_false,hn];have:=outer l.length 0 (n+999999999999 - l.length * 100002) (by omega);grind
end Tg

/- What a question's check says (out of BuildApart). -/
namespace Tg
open Go
open Go.Abs (Zb Zf tmm)
theorem r13 (t:Int):Zh4 t 1=some (bif tmB t then 0 else 16,()):=by rw [Z0d];unfold tmB;rw [show decide ((1:Int)<1)=false from rfl,show decide ((1:Int)>1073741824)=false from rfl,cond_false,cond_false,Ys5,Ys6];cases decide (t >= -1099511627776) <;> cases decide (t<=1099511627776) <;> rfl
theorem r20v (e:Ev):Zno e=some (evOk e,()):=by rw [Z0e,r13,r13];unfold evOk zR;cases e.1 <;> cases (e.2.2.1==0&&(e.2.2.2.1==0&&(e.2.2.2.2.1==0&&true))) <;> cases (e.2.1==0) <;> cases (e.2.1==9223372036854775807) <;> cases tmB e.2.1 <;> cases tmB e.2.2.2.1 <;> rfl
theorem Ytg (l:List Ev):Znp l=some (Zd2 l,()):=by
 have hf:=Yu;rw [Z0f];unfold Zd2;by_cases h:(l.length:Int)>60
 . rw [lenI,dT h,cond_true,cond_true]
 . rw [lenI,dF h,cond_false,cond_false,Zeb (f:=fun n k=>Zd4 n l k) (l:=l) (p:=evOk) (bad:=some (8,())) (fin:=some (0,())) (N:=0)
    (fun n i e he=>by have hi:=(J0d.1 he).1;rw [Znq,ltL he,cond_true,ix_s he,r20v,J0k,wS (show i<1000000000000 by omega),notB])
    (fun n hn=>by rw [Znq,geL,cond_false]) fuel (by omega)]
   cases l.all evOk <;> rfl
theorem pr9 (p r:Int)(n:Nat):Zhd (n+1) p r=some (prE p r,()):=by rw [Zx5];unfold prE;cases decide (p<1) <;> cases decide (p>3) <;> cases decide (r<1) <;> cases decide (r>8) <;> rfl
theorem Zx9 (inp:Inp)(hl:inp.length<=1000)(p r:Int):∀ (rest:Inp) (i n:Nat),inp.drop i=rest->i<=inp.length->rest.length+2<=n->Zcr n inp p r (i:Int)=some (bif Zay rest != 0 then Zay rest else prE p r,())
 | [],i,n,h,hi,hn=>by obtain⟨m,rfl⟩:∃ m,n=m+1+1:=⟨n - 2,by simp at hn;omega⟩;obtain rfl:=Xn h hi;rw [Zk0,geL,cond_false,pr9];rfl
 | l::rest,i,n,h,hi,hn=>by
  obtain⟨m,rfl⟩:∃ m,n=m+1:=⟨n - 1,by simp at hn;omega⟩;obtain⟨h1,h2,h3⟩:=Xg h;have ih:=Zx9 inp hl p r rest (i+1) m h3 (by omega) (by simp at hn;omega);rw [Zk0,ltL h2,cond_true,ix_s h2,Ytg,J0k,wS (show i<1000000000000 by omega),ih,Zay];cases h:(Zd2 l.1 != 0) with
  | true=>rw [cond_true,cond_true,h];rfl
  | false=>rw [cond_false,cond_false]
theorem Ymp (q:Qr)(inp:Inp)(hl:inp.length<=1000)(p r:Int):Znr q inp p r=some (askE q inp p r,()):=by
 have hf:=Yu;rw [Z0g,Zxv,J0k];unfold askE;have:=Zx9 inp hl p r inp 0 fuel rfl (by omega) (by omega);cases h:((chkQ q).2.1 != 0) with
 | true=>rfl
 | false=>rw [cond_false,cond_false,lenI,lenI,show (0:Int)=((0:Nat):Int) from rfl,this];cases ((inp.length:Int) != (q.2.2.1.length:Int)) <;> rfl
theorem Ymq (q:Qr)(inp:Inp):∃ b,Znm q inp=some (b,())/\(b=false->inp.length<=6/\q.2.1.length<=70/\q.2.2.1.length<=10/\q.2.2.2.2.1.length<=70):=by
 have hf:=Yu;have h8:∃ b,Znl q=some (b,())/\(b=false->q.2.1.length<=70/\q.2.2.1.length<=10/\q.2.2.2.2.1.length<=70):=by
  rw [Z0b];by_cases h1:Int.ofNat q.2.1.length>70
  . exact⟨true,by rw [Zcf,dT h1];rfl,fun h=>by cases h⟩
  . by_cases h2:Int.ofNat q.2.2.2.2.1.length>70
    . exact⟨true,by rw [Zcf,Zcf,dF h1,dT h2];rfl,fun h=>by cases h⟩
    . refine⟨decide (Int.ofNat q.2.2.1.length>10),by rw [Zcf,Zcf,dF h1,dF h2];rfl,fun h=>?_⟩;have h3:=of_decide_eq_false h;simp only [J0g] at h1 h2 h3;omega
 obtain⟨b,h1,h2⟩:=h8;rw [Z0c,h1,J0k];cases b with
 | true=>exact⟨true,rfl,fun h=>by cases h⟩
 | false =>
  by_cases h3:Int.ofNat inp.length>6
  . exact⟨true,by rw [dT h3];rfl,fun h=>by cases h⟩
  . have h4:inp.length<=6:=by simp only [J0g] at h3;omega
    rw [dF h3,cond_false,cond_false,Zeb (f:=fun n k=>Zd3 n inp k) (l:=inp) (p:=fun e=>!decide (Int.ofNat e.1.length>70)) (bad:=some (true,())) (fin:=some (false,())) (N:=0)
     (fun n i e he=>by have hi:=(J0d.1 he).1;rw [Znn,ltL he,cond_true,ix_s he,wS (show i<1000000000000 by omega),notB])
     (fun n hn=>by rw [Znn,geL,cond_false]) fuel (by omega)]
    cases inp.all fun e=>!decide (Int.ofNat e.1.length>70)
    . exact⟨true,rfl,fun h=>by cases h⟩
    . exact⟨false,rfl,fun _=>⟨h4,h2 rfl⟩⟩
theorem Ymr {n:Nat}{a:Inp}(hn:n<=4)(ha:Zo5 a)(o:Op2):TLen (Zn n a o):=by
 have he:(a.getD o.2.1.toNat ([],())).1.length<=60:=by
  rw [List.getD_eq_getElem?_getD];cases h:a[o.2.1.toNat]? with
  | none=>simp
  | some x=>exact (Z5g (ha x (J0j h))).1
 unfold Zn;cases (o.1==1)
 . cases (o.1==2)
   . cases (o.1==3)
     . cases (o.1==4)
       . cases (o.1==5)
         . cases (o.1==7) <;> constructor <;> simp
         . constructor <;> simp
       . constructor <;> simp;omega
     . constructor <;> simp
   . constructor <;> simp
 . constructor <;> simp only [cond_true,List.length_nil] <;> omega
end Tg

/- A machine that is built of a right question is right: the cases, by the kernel. -/
namespace Tg
open Go
open Go.Abs (Zb Zf tmm)
def bits:List Bool:=[false,true]
def inp0 (n:Nat):Inp:=List.replicate n ([],())
def Yms (ops:List Op)(chs:List Cn):Bool:=decide (ops.length<=20)&&(decide (chs.length<=100)&&(chs.all (okC ops.length)&&(chs.all (fun c=>decide (c.1<c.2.2.1))&&(v2 chs [] chs&&allI (fun i o=>(decide (0<=o.2.1)&&decide (o.2.1<=3))&&Zkc o.1 (cnt true (i:Int) chs) (cnt false (i:Int) chs)) 0 ops))))
def oneG (n P:Nat)(key join side:Bool)(r:Int):Bool:=Yms (opsG n P key join side) (chG n P key side r)&&(allI (queI (opsG n P key join side,chG n P key side r,())) 0 ((chG n P key side r).map qOf)&&allI (fitB join (bif side then 2 else 1) (opsG n P key join side,chG n P key side r,())) 0 ((opsG n P key join side).map (Zn n (inp0 n))))
def Ycc (n P:Nat)(key join side:Bool):Bool:=[1,2,3,4,5,6,7,8].all fun r=>oneG n P key join side r
def Z5i (n P:Nat)(key join:Bool):Bool:=bits.all fun side=>Ycc n P key join side
def Zya (n:Nat)(join:Bool):Bool:=Z5i n 1 false join
def Znu (n:Nat)(join:Bool):Bool:=[1,2,3].all fun P=>Z5i n P true join
set_option maxRecDepth 100000 in
theorem g1:Zya 1 false=true/\Znu 1 false=true:=⟨by kernel_rfl,by kernel_rfl⟩
set_option maxRecDepth 100000 in
theorem g2:Zya 2 false=true/\Znu 2 false=true:=⟨by kernel_rfl,by kernel_rfl⟩
set_option maxRecDepth 100000 in
theorem g2j:Zya 2 true=true/\Znu 2 true=true:=⟨by kernel_rfl,by kernel_rfl⟩
set_option maxRecDepth 100000 in
theorem g3:Zya 3 false=true/\Znu 3 false=true:=⟨by kernel_rfl,by kernel_rfl⟩
set_option maxRecDepth 100000 in
theorem g4:Zya 4 false=true/\Znu 4 false=true:=⟨by kernel_rfl,by kernel_rfl⟩
end Tg

/- A machine that is built of a right question is right. -/
namespace Tg
open Go
open Go.Abs (Zb Zf tmm)
theorem Ygj {l:IL}(h:srcE l true=0):l.length=2:=by
 unfold srcE at h;split at h
 . cases h
 . split at h
   . cases h
   . split at h
     . cases h
     . rename_i h2;simpa using h2
theorem Ywy {n P:Nat}(hn:1<=n/\n<=4)(hP:1<=P/\P<=3){key join:Bool}(side:Bool)(hk:key=false->P=1)(hj:join=true->n=2){r:Int}(hr:1<=r/\r<=8):oneG n P key join side r=true:=by
 have rm:Ycc n P key join side=true->oneG n P key join side r=true:=fun h=>by unfold Ycc at h;rw [List.all_eq_true] at h;refine h r ?_;simp only [List.mem_cons,List.not_mem_nil,or_false];omega
 have sd:Z5i n P key join=true->oneG n P key join side r=true:=fun h=>by unfold Z5i at h;rw [List.all_eq_true] at h;exact rm (h side (by cases side <;> decide))
 have tk:Znu n join=true->key=true->oneG n P key join side r=true:=fun h e=>by subst e;unfold Znu at h;rw [List.all_eq_true] at h;refine sd (h P ?_);simp only [List.mem_cons,List.not_mem_nil,or_false];omega
 have nk:Zya n join=true->key=false->oneG n P key join side r=true:=fun h e=>by obtain rfl:=hk e;subst e;exact sd h
 have both:Zya n join=true/\Znu n join=true->oneG n P key join side r=true:=fun h=>by
  cases key with
  | false=>exact nk h.1 rfl
  | true=>exact tk h.2 rfl
 cases join with
 | true=>obtain rfl:=hj rfl;exact both g2j
 | false =>
  obtain rfl | rfl | rfl | rfl:n=1∨n=2∨n=3∨n=4:=by omega
  . exact both g1
  . exact both g2
  . exact both g3
  . exact both g4
theorem Ymt {chs:List Cn}(h:∀ c∈chs,c.1<c.2.2.1){x y:Int}(hp:Pth (chs.map Tj.tch) x y):x<y:=by
 have hc:∀ c∈chs.map Tj.tch,c.1<c.2.2.1:=fun c hc=>by obtain⟨d,hd,rfl⟩:=List.mem_map.1 hc;exact h d hd
 induction hp with
 | one c h=>exact hc c h
 | step a c p h ih=>exact Int.lt_trans ih (hc c h)
theorem Yth {ops:List Op}{chs:List Cn}(h:Yms ops chs=true):gChk (ops,chs,())=0:=by
 unfold Yms at h;simp only [J0e,J0h,List.all_eq_true] at h;obtain⟨h1,h2,h3,h4,h5,h6⟩:=h;obtain⟨v1,_,v3⟩:=(Tj.Ybe chs chs []).1 h5;have hr:Tj.Zhy ops chs:=⟨h3,⟨v3,v1⟩,fun i o ho=>by have:=Zod h6 ho;rw [Nat.zero_add] at this;simp only [J0e] at this ⊢;exact this⟩;have hg:gOkB (ops,chs,())=true:=(Tj.Zuc ops chs).1 (by
  have:=(Tj.Z4c ops chs).1 hr;exact⟨this.1,this.2,fun x _ _ hp=>by have:=Ymt h4 hp;omega⟩)
 unfold gChk;rw [hg,show decide (20<ops.length)=false from decide_eq_false (by omega),show decide (100<chs.length)=false from decide_eq_false (by omega)];rfl
theorem Zyb {α β:Type}{p p' : Nat->β->Bool}{f g:α->β}:∀ {l:List α} {i:Nat},(∀ k e,l[k]? = some e->p (i+k) (f e)=p' (i+k) (g e))->allI p i (l.map f)=allI p' i (l.map g)
 | [],_,_=>rfl
 | a::l,i,h=>by
  have h0:=h 0 a rfl;rw [Nat.add_zero] at h0;have ih:=Zyb (p:=p) (p' := p') (f:=f) (g:=g) (l:=l) (i:=i+1) fun k e he=>by have:=h (k+1) e (by simpa using he);rwa [show i+(k+1)=i+1+k by omega] at this
  rw [List.map_cons,List.map_cons,allI,allI,h0,ih]
theorem Ymu (n:Nat)(k:Nat):((inp0 n).getD k ([],())).1=[]:=by unfold inp0;rw [List.getD_eq_getElem?_getD,List.getElem?_replicate];split <;> rfl
theorem Yti {n:Nat}{inp:Inp}(hi:Zo5 inp)(o:Op2):(Zn n inp o).1=(Zn n (inp0 n) o).1/\(Zn n inp o).2.1=(Zn n (inp0 n) o).2.1/\(Zn n inp o).2.2.2.1=(Zn n (inp0 n) o).2.2.2.1/\(Zn n inp o).2.2.2.2.1=(Zn n (inp0 n) o).2.2.2.2.1/\Zc1 (Zn n inp o)=Zc1 (Zn n (inp0 n) o):=by
 unfold Zn;cases h:(o.1==1) with
 | false=>exact⟨rfl,rfl,rfl,rfl,rfl⟩
 | true =>
  refine⟨rfl,rfl,rfl,rfl,?_⟩;have he:(inp.getD o.2.1.toNat ([],())).1.length<=60/\(inp.getD o.2.1.toNat ([],())).1.all evtB=true:=by
   rw [List.getD_eq_getElem?_getD];cases hx:inp[o.2.1.toNat]? with
   | none=>exact⟨by simp,rfl⟩
   | some x=>obtain⟨a,b⟩:=Z5g (hi x (J0j hx));rw [show evOk=evtB from funext Z5e] at b;exact⟨a,b⟩
  rw [cond_true,cond_true,Ymu];unfold Zc1 Zqs;simp only [he.2,he.1,beq_self_eq_true,cond_true,List.all_nil,List.length_nil,decide_true,Nat.zero_le]
theorem Ywz {n:Nat}{inp:Inp}(hi:Zo5 inp)(j:Bool)(late:Int)(x:Gr)(i:Nat)(o:Op2):fitB j late x i (Zn n inp o)=fitB j (bif late==2 then 2 else 1) x i (Zn n (inp0 n) o):=by
 obtain⟨h1,h2,h3,h4,h5⟩:=Yti (n:=n) hi o;unfold fitB;rw [h1,h2,h3,h4,h5];cases hl:(late==2) with
 | true =>
  obtain rfl:late=2:=by simpa using hl
  rfl
 | false=>rfl
theorem Yo9 {q:Qr}{inp:Inp}{p r:Int}(h:askE q inp p r=0):mchB ((chkQ q).2.1==0) (mOf q inp p r)=true:=by obtain⟨e1,e2,e3,_,⟨p1,p2,r1,r2⟩,n1,n2⟩:=Yew h;have hP:=Zc0 q ⟨p1,p2⟩;have hs:=Zix (Z2h e1);have hg:=Ywy ⟨n1,n2⟩ hP (key:=q.2.2.2.2.2.2.2.2.1) (join:=q.2.2.2.1) (q.2.2.2.2.2.2.2.2.2.1==2) (fun hk=>by unfold partsOf;rw [hk];rfl) (fun hj=>by rw [hj] at hs;rw [e2];exact Ygj hs) ⟨r1,r2⟩;unfold oneG at hg;simp only [J0e] at hg;obtain⟨g1,g2,g3⟩:=hg;unfold mchB;rw [e1,beq_self_eq_true,Bool.true_and];rw [show gChk (mG (mOf q inp p r))=0 from Yth g1,beq_self_eq_true,Bool.true_and];rw [show ((mT (mOf q inp p r)).length==(mG (mOf q inp p r)).1.length)=true by rw [beq_iff_eq];exact List.length_map _,Bool.true_and];rw [show ((mU (mOf q inp p r)).length==(mG (mOf q inp p r)).2.1.length)=true by rw [beq_iff_eq];exact List.length_map _,Bool.true_and];rw [show allI (queI (mG (mOf q inp p r))) 0 (mU (mOf q inp p r))=true from g2,Bool.true_and];refine Eq.trans ?_ g3;exact Zyb fun k o _=>Ywz e3 _ _ _ _ o
end Tg

/- Built machines: what BuildFresh and BuildApart have of them. -/
namespace Tg
open Go
open Go.Abs (Zb Zf tmm)
theorem Z8v {α:Type}{p:α->α->Bool}(h:∀ e,p e e=true):∀ l,zipB p l l=true
 | []=>rfl
 | a::l=>by have:=Z8v h l;unfold zipB at this ⊢;rw [List.zip_cons_cons,List.all_cons,this,Bool.and_true];exact h a
theorem Ziz {α:Type}{p:α->α->Bool}(h:∀ e,p e e=true)(l:List α):eqL p l l=true:=by rw [eqL,Z8v h,beq_self_eq_true];rfl
theorem Ye1 (n P:Nat)(key join side:Bool):(opsG n P key join side).length=2 * n+(bif key then n else 0)+P+1+(bif side then 1 else 0):=by unfold opsG nums;cases key <;> cases side <;> simp <;> omega
theorem Ytj {n P P' : Nat}(hn:1<=n/\n<=4)(hP:1<=P/\P<=3)(hP' : 1<=P' /\ P' <= 3)(r r' : Int)(key join side:Bool) :
    (eqL opQ (opsG n P key join side) (opsG n P' key join side)&&eqL chQ (chG n P key side r) (chG n P' key side r'))=(P==P' && r==r'):=by
  by_cases h:P=P'
  . subst h;rw [Ziz (fun e=>by simp [opQ]),beq_self_eq_true,Bool.true_and,Bool.true_and];by_cases h:r=r'
    . subst h;rw [Ziz (fun e=>by simp [chQ]),beq_self_eq_true]
    . rw [show (r==r')=false by simpa using h,Bool.eq_false_iff];intro e;unfold eqL at e;rw [J0e] at e;have h1:0<(chG n P key side r).length:=by unfold chG;simp;omega
      have h2:0<(chG n P key side r').length:=by unfold chG;simp;omega
      have:=Yte e.2 (J0c h1) (J0c h2);have c1:=(Zsg n P hn hP key side r).2 _ (List.getElem_mem h1);have c2:=(Zsg n P hn hP key side r').2 _ (List.getElem_mem h2);unfold chQ at this;rw [c1,c2] at this;simp only [J0e,beq_iff_eq] at this;exact h this.2.2.2.2.1
  . rw [show (P==P')=false by simpa using h,eqL,Ye1,Ye1,show (2 * n+(bif key then n else 0)+P+1+(bif side then 1 else 0)==2 * n+(bif key then n else 0)+P' + 1+(bif side then 1 else 0))=false by simp;omega];rfl
theorem Z8w (k N u:Int)(mk:List (Int×Unit))(ev:List Evt):Zih (k,N,u,[],mk,[],ev,[],[],()) (k,N,u,[],mk,[],ev,[],[],())=true:=by unfold Zih;dsimp only;rw [Ziz (fun e=>by simp [ivQ]),Ziz (fun e=>by simp [evQ])];simp
theorem Ye2 (n:Nat)(inp:Inp)(o:Op2):(Zn n inp o).2.2.2.2.2.1=[]/\(Zn n inp o).2.2.2.1=[]:=by unfold Zn;cases (o.1==1) <;> cases (o.1==2) <;> cases (o.1==3) <;> cases (o.1==4) <;> cases (o.1==5) <;> cases (o.1==7) <;> exact⟨rfl,rfl⟩
section
variable {q:Qr} {inp:Inp} {p r:Int}
theorem Ymv (h:askE q inp p r=0):MLen (mOf q inp p r):=by
 obtain⟨e1,e2,e3,_,⟨p1,p2,r1,r2⟩,n1,n2⟩:=Yew h;have hP:=Zc0 q ⟨p1,p2⟩;have o1:=(Z5h inp.length (partsOf q p) ⟨n1,n2⟩ hP q.2.2.2.2.2.2.2.2.1 q.2.2.2.1 (q.2.2.2.2.2.2.2.2.2.1==2)).1;have c1:=(Zsg inp.length (partsOf q p) ⟨n1,n2⟩ hP q.2.2.2.2.2.2.2.2.1 (q.2.2.2.2.2.2.2.2.2.1==2) r).1;have a1:(mG (mOf q inp p r)).1.length<=20:=o1;have a2:(mG (mOf q inp p r)).2.1.length<=100:=c1;have a3:(mT (mOf q inp p r)).length=(mG (mOf q inp p r)).1.length:=List.length_map _;have a4:(mU (mOf q inp p r)).length=(mG (mOf q inp p r)).2.1.length:=List.length_map _;refine⟨fun t ht=>?_,fun u hu=>?_,by omega,by omega,by omega,by omega⟩
 . obtain⟨o,_,rfl⟩:=List.mem_map.1 (show t∈(opsG inp.length (partsOf q p) q.2.2.2.2.2.2.2.2.1 q.2.2.2.1 (q.2.2.2.2.2.2.2.2.2.1==2)).map (Zn inp.length inp) from ht);exact Ymr n2 e3 o
 . obtain⟨c,_,rfl⟩:=List.mem_map.1 (show u∈(chG inp.length (partsOf q p) q.2.2.2.2.2.2.2.2.1 (q.2.2.2.2.2.2.2.2.2.1==2) r).map qOf from hu);exact Nat.zero_le _
end
end Tg

/- If no operator of a right machine can do a step, nothing is left. -/
namespace Tg
open Go
open Go.Abs (Zb Zf tmm)
theorem Zyc:∀ {l:List Que} {i:Nat},(∀ q∈l,q.2.1=[])->Znb i l = -1
 | [],_,_=>rfl
 | a::l,i,h=>by rw [Znb,h a (by simp)];exact Zyc fun q hq=>h q (by simp [hq])
theorem Ypa {m:Mch}{i:Nat}{t:Tsk}(ht:(mT m)[i]? = some t):Zxp m i=Zq4 t (qsAt (mU m) (joinL true (mG m) (i:Int))) (qsAt (mU m) (joinL false (mG m) (i:Int))):=by unfold Zxp;rw [ht]
theorem Ygk {t:Tsk}{ins outs:List Que}(hp:t.2.2.2.1=[]):Zq4 t ins outs=bif t.1==1 then decide (0<t.2.2.2.2.2.2.1.length) else decide (0<=Znb 0 ins):=by unfold Zq4;rw [hp]
end Tg

/- A built machine is fresh, and what it was built of is its input. -/
namespace Tg
open Go
open Go.Abs (Zb Zf tmm)
theorem Zof (n:Nat)(inp:Inp):∀ ops:List Op2,(∀ o∈ops,(o.1==1)=false)->givL (ops.map (Zn n inp))=[]
 | [],_=>rfl
 | o::ops,h=>by
  have ih:=Zof n inp ops fun x hx=>h x (by simp [hx]);have h0:=h o (by simp);have hk:((Zn n inp o).1==1)=false:=by unfold Zn;rw [h0,cond_false];cases (o.1==2) <;> cases (o.1==3) <;> cases (o.1==4) <;> cases (o.1==5) <;> cases (o.1==7) <;> rfl
  unfold givL at ih ⊢;rw [List.map_cons,List.filter_cons,hk];exact ih
theorem Zre (a b:List Tsk):givL (a++b)=givL a++givL b:=by unfold givL;rw [List.filter_append,List.map_append]
theorem Ypb (n:Nat)(inp:Inp)(l:List Nat):givL ((l.map fun (i:Nat)=>((1:Int),(i:Int),())).map (Zn n inp))=l.map fun i=>((inp.getD i ([],())).1,()):=by
 induction l with
 | nil=>rfl
 | cons i l ih=>unfold givL at ih ⊢;rw [List.map_cons,List.map_cons,List.filter_cons,List.map_cons,show ((Zn n inp (1,(i:Int),())).1==1)=true from rfl];rw [if_pos rfl,List.map_cons,ih];rfl
theorem Ycd (m:Nat){k:Int}(h:(k==1)=false):∀ o∈nums m k,(o.1==1)=false:=fun o ho=>by unfold nums at ho;rw [List.mem_map] at ho;obtain⟨i,_,rfl⟩:=ho;exact h
theorem Zyd (q:Qr)(inp:Inp)(p r:Int):givL (mT (mOf q inp p r))=inp:=by
 show givL ((opsG inp.length (partsOf q p) q.2.2.2.2.2.2.2.2.1 q.2.2.2.1 (q.2.2.2.2.2.2.2.2.2.1==2)).map (Zn inp.length inp))=inp;unfold opsG;rw [List.map_append,List.map_append,List.map_append,List.map_append,List.map_append,Zre,Zre,Zre,Zre,Zre];rw [Zof _ _ (nums inp.length 2) (Ycd _ rfl),Zof _ _ (bif q.2.2.2.2.2.2.2.2.1 then nums inp.length 3 else []) (by cases q.2.2.2.2.2.2.2.2.1;exact fun o ho=>(by cases ho);exact Ycd _ rfl)];rw [Zof _ _ (nums (partsOf q p) (bif q.2.2.2.1 then 5 else 4)) (Ycd _ (by cases q.2.2.2.1 <;> rfl)),Zof _ _ [(6,0,())] (fun o ho=>by obtain rfl:=List.mem_singleton.1 ho;rfl)];rw [Zof _ _ (bif (q.2.2.2.2.2.2.2.2.2.1==2) then [(7,0,())] else []) (by
  cases (q.2.2.2.2.2.2.2.2.2.1==2)
  . exact fun o ho=>(by cases ho)
  . exact fun o ho=>(by obtain rfl:=List.mem_singleton.1 ho;rfl))]
 simp only [List.append_nil];unfold nums;rw [Ypb];refine List.ext_getElem? fun i=>?_;rw [J0m];by_cases h:i<inp.length
 . rw [List.getElem?_range h,J0c h];simp [List.getD_eq_getElem?_getD,h]
 . rw [List.getElem?_eq_none (by rw [List.length_range];omega),List.getElem?_eq_none (by omega)];rfl
theorem Yce (n:Nat)(inp:Inp)(o:Op2):Zih (Zn n inp o) (Zn n inp o)=true:=by obtain⟨k,N,u,mk,ev,h⟩:=Ygi n inp o;rw [h];exact Z8w _ _ _ _ _
theorem Z2j (n:Nat)(inp:Inp):∀ l:List Op2,zipB Zih (l.map (Zn n inp)) (l.map (Zn n inp))=true
 | []=>rfl
 | o::l=>by have:=Z2j n inp l;unfold zipB at this ⊢;rw [List.map_cons,List.zip_cons_cons,List.all_cons,this,Bool.and_true];exact Yce n inp o
theorem Z8x {β:Type}{hit:Int×Int->Bool}{no:β}{res:Int×Int->β}{b:β}:∀ {l:List (Int×Int)},(∀ x∈l,hit x=true->res x=b)->(∃ x∈l,hit x=true)->Znt hit no res l=b
 | [],_,h=>by obtain⟨x,hx,_⟩:=h;cases hx
 | x::l,h1,h2=>by
  rw [Znt];cases e:hit x with
  | true=>exact h1 x (by simp) e
  | false =>
   refine Z8x (l:=l) (fun y hy=>h1 y (by simp [hy])) ?_;obtain⟨y,hy,hh⟩:=h2;rcases List.mem_cons.1 hy with rfl | hy
   . rw [e] at hh;cases hh
   . exact⟨y,hy,hh⟩
theorem Ymw {p r:Int}(h:1<=p/\p<=3/\1<=r/\r<=8):(p,r)∈prs:=by
 obtain⟨h1,h2,h3,h4⟩:=h;obtain rfl | rfl | rfl:p=1∨p=2∨p=3:=by omega
 all_goals
  obtain rfl | rfl | rfl | rfl | rfl | rfl | rfl | rfl:r=1∨r=2∨r=3∨r=4∨r=5∨r=6∨r=7∨r=8:=by omega
 all_goals decide
theorem Ytk:∀ x∈prs,1<=x.1/\x.1<=3/\1<=x.2/\x.2<=8:=by decide
theorem Ycf {q:Qr}{inp:Inp}{p r:Int}(h:askE q inp p r=0):Zx8 (mOf q inp p r)=true:=by
 obtain⟨e1,e2,e3,_,⟨p1,p2,r1,r2⟩,n1,n2⟩:=Yew h;have hP:=Zc0 q ⟨p1,p2⟩;unfold Zx8;rw [Zyd,show (inp.length==(mQ (mOf q inp p r)).2.2.1.length)=true by rw [beq_iff_eq];exact e2,cond_true];have hit:∀ x:Int×Int,x∈prs->hitR (mOf q inp p r) x=(partsOf q x.1==partsOf q p&&x.2==r):=fun x hx=>by have b:=Ytk x hx;unfold hitR;dsimp only;show (eqL opQ (opsG q.2.2.1.length (partsOf q x.1) _ _ _) (opsG inp.length (partsOf q p) _ _ _)&&eqL chQ (chG q.2.2.1.length (partsOf q x.1) _ _ x.2) (chG inp.length (partsOf q p) _ _ r))=_;rw [<- e2];exact Ytj ⟨n1,n2⟩ (Zc0 q ⟨b.1,b.2.1⟩) hP x.2 r _ _ _
 refine Z8x (fun x hx hh=>?_) ⟨(p,r),Ymw ⟨p1,p2,r1,r2⟩,by rw [hit _ (Ymw ⟨p1,p2,r1,r2⟩)];simp⟩;rw [hit x hx,J0e,beq_iff_eq,beq_iff_eq] at hh;unfold Ycb;rw [show (mU (mOf q inp p r)).all Ztc=true by show ((chG _ _ _ _ _).map qOf).all Ztc=true;rw [List.all_map,List.all_eq_true];exact fun _ _=>rfl,Bool.true_and];have hm:mT (mkM (mOf q inp p r) x)=mT (mOf q inp p r):=by show mT (mOf q (givL (mT (mOf q inp p r))) x.1 x.2)=_;rw [Zyd];show (opsG inp.length (partsOf q x.1) _ _ _).map _=(opsG inp.length (partsOf q p) _ _ _).map _;rw [hh.1]
 rw [hm];exact Z2j _ _ _
end Tg

/- In a built machine nothing is enabled but sources that have events. -/
namespace Tg
open Go
open Go.Abs (Zb Zf tmm)
theorem Ygl {q:Qr}{inp:Inp}{p r:Int}{i:Nat}{t:Tsk}(ht:(mT (mOf q inp p r))[i]? = some t):Zxp (mOf q inp p r) i=(t.1==1&&decide (0<t.2.2.2.2.2.2.1.length)):=by
 have h0:t.2.2.2.1=[]:=by obtain⟨o,_,rfl⟩:=List.mem_map.1 (show t∈(opsG inp.length (partsOf q p) q.2.2.2.2.2.2.2.2.1 q.2.2.2.1 (q.2.2.2.2.2.2.2.2.2.1==2)).map (Zn inp.length inp) from J0j ht);exact (Ye2 _ _ _).2
 have hq:∀ (l:List (Int×Unit)),∀ u∈qsAt (mU (mOf q inp p r)) l,u.2.1=[]:=fun l u hu=>by unfold qsAt at hu;rw [List.mem_filterMap] at hu;obtain⟨y,_,hy⟩:=hu;obtain⟨c,_,rfl⟩:=List.mem_map.1 (show u∈(chG inp.length (partsOf q p) q.2.2.2.2.2.2.2.2.1 (q.2.2.2.2.2.2.2.2.2.1==2) r).map qOf from J0j hy);rfl
 rw [Ypa ht,Ygk h0,Zyc (hq _)];cases t.1==1 <;> rfl
end Tg

/- The law BuildValid in plain words. -/
namespace Tg
open Go
open Go.Abs (Zb Zf tmm)
theorem Ytl (q:Qr)(inp:Inp)(p r:Int):∃ b,Zsi q inp p r=some (b,())/\(b=true->askE q inp p r=0/\inp.length<=6/\q.2.1.length<=70/\q.2.2.1.length<=10/\q.2.2.2.2.1.length<=70):=by
 obtain⟨g,h1,h2⟩:=Ymq q inp;rw [Z8t,h1,J0k];cases g with
 | true=>exact⟨false,rfl,fun h=>by cases h⟩
 | false=>obtain⟨l,hl⟩:=h2 rfl;refine⟨askE q inp p r==0,?_,fun h=>⟨by simpa using h,l,hl⟩⟩;rw [Ymp q inp (by omega) p r];rfl
section
variable {m:Mch} {r:Int} {ok:Bool}
theorem Ypc (h:(mT m).length<=100)(hs:∀ (i:Nat) t,(mT m)[i]? = some t->Zb4 m (i:Int)=some (t.1==1&&decide (0<t.2.2.2.2.2.2.1.length),0,())/\t.2.2.2.1=[]/\t.2.2.2.2.2.1=[])(n:Nat)(hn:200<=n) :
    Xq n ok m.1 m.2.1 m.2.2.1 m.2.2.2.1 m.2.2.2.2.1 m.2.2.2.2.2.1 m.2.2.2.2.2.2.1 m.2.2.2.2.2.2.2.1 m.2.2.2.2.2.2.2.2.1 m.2.2.2.2.2.2.2.2.2.1 m.2.2.2.2.2.2.2.2.2.2.1 m.2.2.2.2.2.2.2.2.2.2.2.1 (mT m) (mU m) 0=some (ok,()):=by
  refine (Zeb (f:=fun n k=>Xq n ok m.1 m.2.1 m.2.2.1 m.2.2.2.1 m.2.2.2.2.1 m.2.2.2.2.2.1 m.2.2.2.2.2.2.1 m.2.2.2.2.2.2.2.1 m.2.2.2.2.2.2.2.2.1 m.2.2.2.2.2.2.2.2.2.1 m.2.2.2.2.2.2.2.2.2.2.1 m.2.2.2.2.2.2.2.2.2.2.2.1 (mT m) (mU m) k) (l:=mT m) (p:=fun _=>true) (bad:=none) (fin:=some (ok,())) (N:=0)
   (fun n i t ht=>?_) (fun n hn=>by rw [Zfj,geL,cond_false]) n (by omega)).trans (by rw [List.all_eq_true.2 fun _ _=>rfl];rfl)
  have hi:=(J0d.1 ht).1;obtain⟨h1,h2,h3⟩:=hs i t ht;have e1:decide (Int.ofNat t.2.2.2.2.2.2.1.length>0)=decide (0<t.2.2.2.2.2.2.1.length):=by rw [Bool.eq_iff_iff,J0h,J0h,J0g];omega
  rw [Zfj,ltL ht,cond_true,ix_s ht,show Zb4 (m.1,m.2.1,m.2.2.1,m.2.2.2.1,m.2.2.2.2.1,m.2.2.2.2.2.1,m.2.2.2.2.2.2.1,m.2.2.2.2.2.2.2.1,m.2.2.2.2.2.2.2.2.1,m.2.2.2.2.2.2.2.2.2.1,m.2.2.2.2.2.2.2.2.2.2.1,m.2.2.2.2.2.2.2.2.2.2.2.1,mT m,mU m,()) (i:Int)=_ from h1,J0k,h2,h3,e1,wS (show i<1000000000000 by omega)];cases t.1==1 <;> cases decide (0<t.2.2.2.2.2.2.1.length) <;> rfl
theorem Ymx (h:(mT m).length<=100)(hu:(mU m).length<=100)(hq:∀ u∈mU m,u.2.1=[]/\u.1=r)(hs:∀ (i:Nat) t,(mT m)[i]? = some t->Zb4 m (i:Int)=some (t.1==1&&decide (0<t.2.2.2.2.2.2.1.length),0,())/\t.2.2.2.1=[]/\t.2.2.2.2.2.1=[])(n:Nat)(hn:1000<=n) :
    Xp n r ok m.1 m.2.1 m.2.2.1 m.2.2.2.1 m.2.2.2.2.1 m.2.2.2.2.2.1 m.2.2.2.2.2.2.1 m.2.2.2.2.2.2.2.1 m.2.2.2.2.2.2.2.2.1 m.2.2.2.2.2.2.2.2.2.1 m.2.2.2.2.2.2.2.2.2.2.1 m.2.2.2.2.2.2.2.2.2.2.2.1 (mT m) (mU m) 0=some (ok,()):=by
  refine (Zeb (f:=fun n k=>Xp n r ok m.1 m.2.1 m.2.2.1 m.2.2.2.1 m.2.2.2.2.1 m.2.2.2.2.2.1 m.2.2.2.2.2.2.1 m.2.2.2.2.2.2.2.1 m.2.2.2.2.2.2.2.2.1 m.2.2.2.2.2.2.2.2.2.1 m.2.2.2.2.2.2.2.2.2.2.1 m.2.2.2.2.2.2.2.2.2.2.2.1 (mT m) (mU m) k) (l:=mU m) (p:=fun _=>true) (bad:=none) (fin:=some (ok,())) (N:=400)
   (fun n i u hu=>?_) (fun n hn=>?_) n (by omega)).trans (by rw [List.all_eq_true.2 fun _ _=>rfl];rfl)
  . have hi:=(J0d.1 hu).1;obtain⟨h1,h2⟩:=hq u (J0j hu);rw [Zfi,ltL hu,cond_true,ix_s hu,ix_s hu,h1,h2,Qs,wS (show i<1000000000000 by omega)];rfl
  . obtain⟨k,rfl⟩:∃ k,n=k+1:=⟨n - 1,by omega⟩;rw [Zfi,geL,cond_false,Zns];exact Ypc h hs k (by omega)
end
theorem Ygm (q:Qr)(inp:Inp)(p r:Int):Ziy q inp p r=some (true,()):=by
 have hf:=Yu;obtain⟨g,h1,h2⟩:=Ytl q inp p r;rw [Zpw,h1,J0k];cases g with
 | false=>rfl
 | true =>
  obtain⟨a0,l1,l2,l3,l4⟩:=h2 rfl;obtain⟨e1,e2,e3,_,⟨p1,p2,r1,r2⟩,n1,n2⟩:=Yew a0;obtain⟨s,s1,s2⟩:=Z2f e1 (by omega) (by omega) (by omega);have h0:prE p r=0:=by unfold prE;rw [show decide (p<1)=false from decide_eq_false (by omega),show decide (p>3)=false from decide_eq_false (by omega),show decide (r<1)=false from decide_eq_false (by omega),show decide (r>8)=false from decide_eq_false (by omega)];rfl
  have hg:=Yey s s2 e1 e2 h0;have hb:Zc5 q inp p r=some (mOf q inp p r,0,()):=by rw [Z8r q inp p r (by omega) (by omega) (by omega) (by omega),a0];rfl
  have hm:=Yo9 a0;have hl:=Ymv a0;have F:=fine hl hm;have hq:QOk (mQ (mOf q inp p r)) ((chkQ q).2.1==0):=by refine⟨⟨(chkQ q).1,(chkQ q).2.1,Zoe q,rfl⟩,?_⟩;show Zbr q=_;rw [Zr6,Zxv]
  have hc:=Yem (mOf q inp p r) _ hq hl;have hr:=Yk1 (mOf q inp p r) _ hq hl;rw [hm,cond_true] at hc hr;have t1:(mT (mOf q inp p r)).length=(mG (mOf q inp p r)).1.length:=F.tl;have t2:=F.ops;have t3:=F.ul;have t4:=F.chs;have hfr:Zh3 (mOf q inp p r)=some (true,0,()):=by rw [Ytf F hc,Ycf a0]
  have hi:Zni (mOf q inp p r)=some (inp,0,()):=by rw [Zz9,hc,J0k,Qs,cond_false,Ymn hl (by omega),Zyd];rfl
  have hs:Zco inp inp=some (true,()):=Yo8 (by omega) (fun x hx=>by have:=(Z5g (e3 x hx)).1;omega);have hg2:=Ytd (mG (mOf q inp p r)) (mG (mOf q inp p r)) (by omega) (by omega);rw [Ziz (fun e=>by simp [opQ]),Ziz (fun e=>by simp [chQ])] at hg2;rw [hb,J0k,s1,J0k,show Ziv (s,q) p r=some (mG (mOf q inp p r),0,()) from hg,J0k,hfr,J0k,hi,J0k];simp only [Qs,cond_false];rw [hc,J0k,Qs,cond_false,hr,J0k,Qs,cond_false];rw [Bool.not_true,cond_false,hs,J0k,Bool.not_true,cond_false];rw [show Zj2 (mG (mOf q inp p r)) ((mOf q inp p r).2.2.2.2.2.2.2.2.2.2.1,(mOf q inp p r).2.2.2.2.2.2.2.2.2.2.2.1,())=some (true,()) from hg2,J0k,Bool.not_true,cond_false];rw [Zj8,show ((mOf q inp p r).2.2.2.2.2.2.2.2.2.2.2.2.1.length==(mG (mOf q inp p r)).1.length)=true from beq_iff_eq.2 t1,Bool.not_true,cond_false];rw [Zj8,show ((mOf q inp p r).2.2.2.2.2.2.2.2.2.2.2.2.2.1.length==(mG (mOf q inp p r)).2.1.length)=true from beq_iff_eq.2 t3,Bool.not_true,cond_false];refine Ymx (m:=mOf q inp p r) (by omega) (by omega) (fun u hu=>?_) (fun i t ht=>?_) fuel (by omega)
  . obtain⟨c,hc',rfl⟩:=List.mem_map.1 (show u∈(chG inp.length (partsOf q p) q.2.2.2.2.2.2.2.2.1 (q.2.2.2.2.2.2.2.2.2.1==2) r).map qOf from hu);have:=(Zsg inp.length (partsOf q p) ⟨n1,n2⟩ (Zc0 q ⟨p1,p2⟩) q.2.2.2.2.2.2.2.2.1 (q.2.2.2.2.2.2.2.2.2.1==2) r).2 c hc';exact⟨rfl,this⟩
  . have hi:=(J0d.1 ht).1;obtain⟨o,_,rfl⟩:=List.mem_map.1 (show t∈(opsG inp.length (partsOf q p) q.2.2.2.2.2.2.2.2.1 q.2.2.2.1 (q.2.2.2.2.2.2.2.2.2.1==2)).map (Zn inp.length inp) from J0j ht);have:=Ye2 inp.length inp o;refine⟨?_,this.2,this.1⟩;rw [Ygc hq hl hm hi,Ygl ht]
end Tg

/- The law BuildValid from the contract of its function. -/
namespace Tg
open Go.Abs
theorem Ytm:∀ pas,POKAs con3.args pas->Spec Go.Proofs.Tryz.prog 3 pas [.c (.c (.bool true))]:=Yrj ok3 fun a _=>Ygm a.1 a.2.1 a.2.2.1 a.2.2.2.1
end Tg
