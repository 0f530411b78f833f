import Derived.Test.YtenldcjkpgmpnaaGreatDoorTCC
import Derived.Test.YtenldcjkpgmpnaaGreatDoorTMW
import Derived.Test.YtenldcjkpgmpnaaGreatDoorTVb4
/- Functions of the code, told plainly and checked by the kernel. -/
set_option linter.unusedVariables false
set_option linter.unusedSimpArgs false
set_option maxRecDepth 100000
namespace Tg
noncomputable section
open Go.Abs hiding fuel
open Go.Proofs.Tryz (prog)
open Int (ofNat toNat)
open Go.IntKind (wrap)
def Yp5:Tb:=[(52,Ybx)]
def F108:TFun:=⟨[],[],[.a Yq2],[.c (.p di),.c (.p di)],qc [qn 2,qi,qi,qn 12],[],[],0⟩
def Z9j:=mkC Yp5 prog 108 F108
theorem Ys2:Z9j.ok prog 108:=mkO ⟨ok52,trivial⟩
def Zi0 (a0:Yy3):Option (Int×Int×Unit):=Z9j.fn (a0,())
theorem Zv9 a0:Eq (Zi0 a0) <| (X4 a0).bind fun e0=>bif e0.1 !=0 then some (0,e0.1,()) else some (wrap .i64 (a0.1 - ofNat a0.2.1.length),0,()):=mkE
def Yh2:Tb:=[]
def F77:TFun:=⟨[1],[(1,qc [qi,[.c (.p (.sl Yq2))],qn 29]),(5,qc [qi,[.c (.p (.sl Yq2))],qn 10,qi,qi,qn 17])],[.c di,.c (.sl Yq2)],[.c (.p di)],qc [qn 4,qi,qn 26],[],[],0⟩
def Yh3:=mkC Yh2 prog 77 F77
theorem ok77:Yh3.ok prog 77:=mkO trivial
def Zol (a0:Int)(a1:(List Yy3)):Option (Int×Unit):=Yh3.fn (a0,a1,())
def Za0 (n:Nat)(x0:Int)(x1:(List Yy3)):Option (Int×Unit):=itr Yh2 prog 77 F77 n 1 (x0,x1,())
def Zek (n:Nat)(x0:Int)(x1:(List Yy3))(x2 x3:Int):Option (Int×Unit):=itr Yh2 prog 77 F77 n 5 (x0,x1,x2,x3,())
theorem Z2t a0 a1:Eq (Zol a0 a1) <| bif a0>=ofNat a1.length then Za0 fuel 0 a1 else Za0 fuel a0 a1:=mkE
theorem Zx1 n x0 x1:Eq (Za0 (n+1) x0 x1) <| Zek n x0 x1 (ofNat x1.length) 0:=mkI
theorem Zns n x0 x1 x2 x3:Eq (Zek (n+1) x0 x1 x2 x3) <| bif x3<x2 then bif ofNat x1.length=0 then none else ix x1 (Int.tmod (wrap .i64 (x0+x3)) (ofNat x1.length)) fun e0=>bif ofNat e0.2.1.length>0 then some ((Int.tmod (wrap .i64 (x0+x3)) (ofNat x1.length),())) else Zek n x0 x1 x2 (wrap .i64 (x3+1)) else some ((-1),()):=mkI
def Yh4:Tb:=[(76,Ynk),(108,Z9j),(77,Yh3)]
def F71:TFun:=⟨[6],[(6,qc [qn 1,[.c (.p (.sl Yq2))],[.c (.p (.sl Yq2))],[.boxN 61 9 [.p (.int .u8),.any,.any,.p (.sl Yq4),.any,.any,.p (.sl [.bool,.int .i64,.int .i64,.int .i64,.int .i64]),.any,.any]],qn 60]),(8,qc [qn 1,[.c (.p (.sl Yq2))],[.c (.p (.sl Yq2))],[.boxN 61 9 [.p (.int .u8),.any,.any,.p (.sl Yq4),.any,.any,.p (.sl [.bool,.int .i64,.int .i64,.int .i64,.int .i64]),.any,.any]],qn 17,[.c (.p (.sl Yq4))],qi,qi,qn 40])],[.a Yq3,.c (.sl Yq2),.c (.sl Yq2)],[.c (.p db),.c (.p di)],qc [qn 6,qb,qi,qn 56],[],[],0⟩
def Yh5:=mkC Yh4 prog 71 F71
theorem ok71:Yh5.ok prog 71:=mkO ⟨ok76,Ys2,ok77,trivial⟩
def Zi1 (a0:Yy2)(a1 a2:(List Yy3)):Option (Bool×Int×Unit):=Yh5.fn (a0,a1,a2,())
def Ze9 (n:Nat)(x0 x1:(List Yy3))(x2:Int)(x3:Yy5)(x4:(List (Bool×Int×Int×Int×Int×Unit))):Option (Bool×Int×Unit):=itr Yh4 prog 71 F71 n 6 (x0,x1,x2,x3,x4,())
def Zcb (n:Nat)(x0 x1:(List Yy3))(x2:Int)(x3:Yy5)(x4:(List (Bool×Int×Int×Int×Int×Unit)))(x5:Yy5)(x6 x7:Int):Option (Bool×Int×Unit):=itr Yh4 prog 71 F71 n 8 (x0,x1,x2,x3,x4,x5,x6,x7,())
theorem Zwa a0 a1 a2:Eq (Zi1 a0 a1 a2) <| (Zd6 a0 a1 a2).bind fun e0=>bif e0.1 !=0 then some (false,e0.1,()) else Zcb fuel a1 a2 a0.1 a0.2.2.2.1 a0.2.2.2.2.2.2.1 a0.2.2.2.1 (ofNat a0.2.2.2.1.length) 0:=mkE
theorem Zss n x0 x1 x2 x3 x4:Eq (Ze9 (n+1) x0 x1 x2 x3 x4) <| bif ofNat x3.length>0 then (x3[0]?).bind fun e0=>ix x1 e0.1 fun e1=>(Zi0 e1).bind fun e2=>some (decide (e2.1>0),0,()) else bif x2==1 then some (decide (ofNat x4.length>0),0,()) else (Zol 0 x0).bind fun e0=>some (decide (e0.1>=0),0,()):=mkI
theorem Zjq n x0 x1 x2 x3 x4 x5 x6 x7:Eq (Zcb (n+1) x0 x1 x2 x3 x4 x5 x6 x7) <| bif x7<x6 then ix x5 x7 fun e0=>bif e0.1>=ofNat x1.length then some (false,2,()) else Zcb n x0 x1 x2 x3 x4 x5 x6 (wrap .i64 (x7+1)) else Ze9 n x0 x1 x2 x3 x4:=mkI
def Ys3:Tb:=[(38,Z2k),(37,Z2q),(72,Z2l),(71,Yh5)]
def F34:TFun:=⟨[],[],[.a Yq1,.c di],[.c (.p db)],qc [qn 4,qb,qn 24],[],[],0⟩
def Yh6:=mkC Ys3 prog 34 F34
theorem ok34:Yh6.ok prog 34:=mkO ⟨Yhp,Yhy,Yhq,ok71,trivial⟩
def Zi2 (a0:Yy1)(a1:Int):Option (Bool×Unit):=Yh6.fn (a0,a1,())
theorem Zwb a0 a1:Eq (Zi2 a0 a1) <| ix a0.2.2.2.2.2.2.2.2.2.2.2.2.1 a1 fun e0=>(Xl (a0.2.2.2.2.2.2.2.2.2.2.1,a0.2.2.2.2.2.2.2.2.2.2.2.1,()) a1).bind fun e1=>(Zcp a0 e1.1).bind fun e2=>(Yy (a0.2.2.2.2.2.2.2.2.2.2.1,a0.2.2.2.2.2.2.2.2.2.2.2.1,()) a1).bind fun e3=>(Zcp a0 e3.1).bind fun e4=>(Zi1 e0 e2.1 e4.1).bind fun e5=>some (e5.1,()):=mkE
end
end Tg

/- Which operators can do a step: the program and the reference say the same. -/
namespace Tg
open Go
open Go.Abs (Zb Zf tmm)
def Zlw:Nat->List Que->Int
 | _,[]=>-1
 | i,q::l=>bif decide (0<q.2.1.length) then (i:Int) else Zlw (i+1) l
theorem Z9k {i n:Nat}(h:i<n):Int.tmod (i:Int) (n:Int)=(i:Int):=by rw [Int.tmod_eq_emod_of_nonneg (by omega)];exact Int.emod_eq_of_lt (by omega) (by omega)
theorem Yp6 (l:List Que)(hl:l.length<=100000):Zol 0 l=some (Zlw 0 l,()):=by
 have hf:=Yp;have key:∀ (f:Nat->Int->Option (Int×Unit)),(∀ n (i:Nat) q,l[i]? = some q->f (n+1) (i:Int)=bif decide (0<q.2.1.length) then some ((i:Int),()) else f n ((i+1:Nat):Int))->(∀ n,f (n+1) (l.length:Int)=some (-1,())) ->
     ∀ (r:List Que) (i n:Nat),l.drop i=r->i<=l.length->r.length+1<=n->f n (i:Int)=some (Zlw i r,()):=by
   intro f h1 h2 r
   induction r with
   | nil=>intro i n h hi hn;obtain⟨m,rfl⟩:∃ m,n=m+1:=⟨n - 1,by omega⟩;have:=Zc6 h hi;subst this;exact h2 m
   | cons q r ih=>intro i n h hi hn;obtain⟨m,rfl⟩:∃ m,n=m+1:=⟨n - 1,by omega⟩;obtain⟨g1,g2,g3⟩:=Zc5 h;rw [h1 m i q g2,Zlw,ih (i+1) m g3 (by omega) (by grind)];grind
 have hd:∀ q:Que,decide (Int.ofNat q.2.1.length>0)=decide (0<q.2.1.length):=fun q=>by grind
 have ha:∀ (i:Nat) (q:Que),l[i]? = some q->Int.tmod (Go.IntKind.wrap .i64 ((0:Int)+(i:Int))) (Int.ofNat l.length)=(i:Int):=fun i q h=>by have hi:=(J0d.1 h).1;rw [Int.zero_add,w64 (by omega) (by omega)];exact Z9k hi
 have hz:∀ (i:Nat) (q:Que),l[i]? = some q->decide (Int.ofNat l.length=0)=false:=fun i q h=>by grind
 obtain⟨m,hm⟩:∃ m,fuel=m+1:=⟨fuel - 1,by omega⟩
 . have h5:=key (fun n k=>Zek n 0 l (Int.ofNat l.length) k) (fun n i q h=>by have hi:=(J0d.1 h).1;rw [Zns];simp only [ltL h,cond_true,hz i q h,cond_false,ha i q h,ix_s h,hd,wS (show i<1000000000000 by omega)]) (fun n=>by rw [Zns];grind) l 0 m rfl (by omega) (by omega);rw [Z2t,hm];have:(bif decide ((0:Int)>=Int.ofNat l.length) then Za0 (m+1) 0 l else Za0 (m+1) 0 l)=Za0 (m+1) 0 l:=by grind
   rw [this,Zx1];exact h5
def qsAt (u:List Que)(l:List (Int×Unit)):List Que:=l.filterMap fun y=>u[y.1.toNat]?
theorem Zwc {u:List Que}:∀ {l:List (Int×Unit)},(∀ y∈l,∃ i:Nat,i<u.length/\y=((i:Int),()))->(qsAt u l).length=l.length
 | [],_=>rfl
 | y::l,h=>by obtain⟨i,hi,rfl⟩:=h y (by simp);have ih:=Zwc (l:=l) (fun z hz=>h z (by simp [hz]));unfold qsAt at ih ⊢;grind
theorem Z6d (m:Mch)(l:List (Int×Unit))(hl:l.length<=1000)(hu:∀ y∈l,∃ i:Nat,i<(mU m).length/\y=((i:Int),())):Zcp m l=some (qsAt (mU m) l,()):=by
 have hf:=Yp;have fold:∀ (l:List (Int×Unit)) (a:List Que),l.foldl (fun s e=>s++((mU m)[e.1.toNat]?).toList) a=a++qsAt (mU m) l:=by
  intro l
  induction l with
  | nil=>intro a;simp [qsAt]
  | cons y l ih=>intro a;rw [List.foldl_cons,ih];unfold qsAt;grind
 have step:∀ (i:Nat) (e:Int×Unit),l[i]? = some e -> ∃ (k:Nat) (q:Que),e=((k:Int),())/\(mU m)[k]? = some q:=fun i e h=>by obtain⟨k,hk,rfl⟩:=hu e (J0j h);exact⟨k,_,rfl,J0c hk⟩
 . have:=Yf8 (f:=fun n s k=>Zdd n (mU m) s l (Int.ofNat l.length) k) (l:=l) (g:=fun s e=>s++((mU m)[e.1.toNat]?).toList) (fin:=fun s=>some (s,())) (N:=0) (fun i s=>s.length<=i)
    (fun n s i e h hp=>by
     have hi:=(J0d.1 h).1;obtain⟨k,q,rfl,hq⟩:=step i e h;have hb:Zb (s.length+[q].length) 32=true:=Qi (by grind) (by omega);constructor
     . rw [Zlu];simp only [ltL h,cond_true,ix_s h,ix_s hq,hb,wS (show i<1000000000000 by omega),J0l,hq,Option.toList_some]
     grind)
    (fun n s _ _=>by rw [Zlu];grind) fuel [] (Nat.le_refl _) (by omega)
   rw [Zxz];rw [fold,List.nil_append] at this;exact this
end Tg

/- An operator of a right machine can do a step: the program and the reference say the same. -/
namespace Tg
open Go
open Go.Abs (Zb Zf tmm)
def Znt (t:Tsk)(ins outs:List Que):Bool:=match t.2.2.2.1 with
 | []=>bif t.1==1 then decide (0<t.2.2.2.2.2.2.1.length) else decide (0<=Zlw 0 ins)
 | s::_=>match outs[s.1.toNat]? with
  | none=>false
  | some q=>decide ((q.2.1.length:Int)<q.1)
theorem Yp7 {t:Tsk}{ins outs:List Que}(h1:X3 t=true)(h2:ins.length<=4)(h3:outs.length<=3)(h4:ins.all queB=true)(h5:outs.all queB=true)(h6:t.2.2.2.1.all (fun s=>decide (s.1<(outs.length:Int)))=true) :
    Zi1 t ins outs=some (Znt t ins outs,0,()):=by
  have hf:=Yp;have hl:=(Zh1 h1).1;have hf0:=Yp6 ins (by omega);have hsn:∀ s∈t.2.2.2.1,0<=s.1/\s.1<(outs.length:Int):=fun s hs=>by have a:=List.all_eq_true.1 h6 s hs;unfold X3 at h1;simp only [J0e] at h1;have b:=List.all_eq_true.1 h1.2.2.2.1 s hs;unfold sndB at b;grind
  have hq:∀ q∈outs,Zi0 q=some (q.1 - (q.2.1.length:Int),0,()):=fun q hq=>by have hb:=List.all_eq_true.1 h5 q hq;rw [Zv9,Zok hb];unfold queB at hb;simp only [J0e,J0h] at hb;simp only [J0k,J0g,bne_self_eq_false,cond_false];rw [w64 (by omega) (by omega)]
  have i6:∀ n,Ze9 (n+1) ins outs t.1 t.2.2.2.1 t.2.2.2.2.2.2.1=some (Znt t ins outs,0,()):=fun n=>by
   rw [Zss];unfold Znt;cases hp:t.2.2.2.1 with
   | nil =>
    simp only [List.length_nil,hf0,J0k];have:decide (Int.ofNat t.2.2.2.2.2.2.1.length>0)=decide (0<t.2.2.2.2.2.2.1.length):=by grind
    grind
   | cons s r=>have hs:=hsn s (by grind);obtain⟨k,hk⟩:∃ k:Nat,s.1=(k:Int):=⟨s.1.toNat,by omega⟩;obtain⟨q,hqk⟩:∃ q,outs[k]? = some q:=⟨_,J0c (by omega)⟩;have:decide (Int.ofNat (s::r).length>0)=true:=decide_eq_true (by simp);simp only [this,cond_true,J0q,J0k,hk,ix_s hqk,hq q (J0j hqk),J0l,hqk];grind
  . rw [Zwa,Z2n h1 h2 h3 h4 h5];simp only [J0k,bne_self_eq_false,cond_false];have:=Zkp (f:=fun n k=>Zcb n ins outs t.1 t.2.2.2.1 t.2.2.2.2.2.2.1 t.2.2.2.1 (Int.ofNat t.2.2.2.1.length) k) (l:=t.2.2.2.1) (p:=fun s=>decide (s.1<(outs.length:Int))) (bad:=some (false,2,())) (fin:=some (Znt t ins outs,0,())) (N:=1)
     (fun n k e he=>by
      have hk:=(J0d.1 he).1;have hd:decide (e.1>=Int.ofNat outs.length) = !decide (e.1<(outs.length:Int)):=by grind
      rw [Zjq];simp only [ltL he,ix_s he,cond_true,wS (show k<1000000000000 by omega),hd];grind)
     (fun n hn=>by obtain⟨q,rfl⟩:∃ q,n=q+1:=⟨n - 1,by omega⟩;rw [Zjq];grind) fuel (by omega)
    grind
def Znu (m:Mch)(i:Nat):Bool:=match (mT m)[i]? with
 | none=>false
 | some t=>Znt t (qsAt (mU m) (joinL true (mG m) (i:Int))) (qsAt (mU m) (joinL false (mG m) (i:Int)))
theorem Zh2 {b:Bool}{m:Mch}(h:mchB b m=true):b=true/\Tj.Zh0 (mG m).1 (mG m).2.1/\(mG m).1.length<=20/\(mG m).2.1.length<=100/\(mT m).length=(mG m).1.length/\(mU m).length=(mG m).2.1.length/\(∀ q∈mU m,queB q=true)/\(∀ (i:Nat) t,(mT m)[i]? = some t->fitB m.2.2.2.1 m.2.2.2.2.2.2.2.2.2.1 (mG m) i t=true):=by
 unfold mchB at h;simp only [J0e,beq_iff_eq] at h;obtain⟨h1,h2,h3,h4,h5,h6⟩:=h;obtain⟨g1,g2,g3⟩:=Z9i h2;refine⟨h1,Yhx g3,g1,g2,h3,h4,fun q hq=>?_,fun i t ht=>?_⟩
 . obtain⟨i,hi⟩:=List.getElem?_of_mem hq;have:=Zmz h5 hi;unfold queI at this;grind
 . have:=Zmz h6 ht;grind
theorem Z0b {b:Bool}{m:Mch}(h:mchB b m=true){i:Nat}(hi:i<(mT m).length):Zi2 m (i:Int)=some (Znu m i,()):=by
 obtain⟨_,hr,g1,g2,ht,hu,hqs,hts⟩:=Zh2 h;obtain⟨t,htt⟩:∃ t,(mT m)[i]? = some t:=⟨_,J0c hi⟩;have hfit:=hts i t htt;unfold fitB at hfit;obtain⟨o,ho⟩:∃ o,(mG m).1[i]? = some o:=⟨_,J0c (by omega)⟩;rw [ho] at hfit;simp only [J0e] at hfit;obtain⟨_,htask,hpend,_⟩:=hfit;have hc:=Zp0 hr (i:=i) (by omega);have hj:∀ b,∀ y∈joinL b (mG m) (i:Int),∃ k:Nat,k<(mU m).length/\y=((k:Int),()):=fun b y hy=>by rw [hu];exact Ydz hr hy
 have n1:=Zwc (hj true);have n2:=Zwc (hj false);have j1:=Zmy hr true (i:Int);have j2:=Zmy hr false (i:Int);have qall:∀ l:List (Int×Unit),(qsAt (mU m) l).all queB=true:=fun l=>by rw [List.all_eq_true];intro q hq;unfold qsAt at hq;grind
 have hab:=Yp7 (t:=t) (ins:=qsAt (mU m) (joinL true (mG m) (i:Int))) (outs:=qsAt (mU m) (joinL false (mG m) (i:Int))) htask (by omega) (by omega) (qall _) (qall _) (by grind);have q1:=Z6d m (joinL true (mG m) (i:Int)) (by omega) (hj true);have q2:=Z6d m (joinL false (mG m) (i:Int)) (by omega) (hj false);have htt' : m.2.2.2.2.2.2.2.2.2.2.2.2.1[i]? = some t:=htt;have hm:Znu m i=Znt t (qsAt (mU m) (joinL true (mG m) (i:Int))) (qsAt (mU m) (joinL false (mG m) (i:Int))):=by unfold Znu;rw [htt]
 . rw [Zwb,ix_s htt',show Xl (m.2.2.2.2.2.2.2.2.2.2.1,m.2.2.2.2.2.2.2.2.2.2.2.1,()) (i:Int)=some (joinL true (mG m) (i:Int),()) from Z59 hr g2 (by omega),show Yy (m.2.2.2.2.2.2.2.2.2.2.1,m.2.2.2.2.2.2.2.2.2.2.2.1,()) (i:Int)=some (joinL false (mG m) (i:Int),()) from Z0a hr g2 (by omega)];simp only [J0k,q1,q2,hab,hm]
end Tg

/- enabled.All, Left and First against the reference. -/
namespace Tg
open Go
open Go.Abs (Zb Zf tmm)
end Tg

/- enabled.First and Left against the reference. -/
namespace Tg
open Go
open Go.Abs (Zb Zf tmm)
end Tg

/- Great, Twin and Same of the reference: sizes of machines, copies. -/
namespace Tg
open Go
open Go.Abs (Zb Zf tmm)
theorem Zp4 {α β:Type}{f:Nat->Int->Option β}{l:List α}{fin:Option β}{N:Nat}
    (hs:∀ n (i:Nat) e,l[i]? = some e->f (n+1) (i:Int)=f n ((i+1:Nat):Int))
    (he:∀ n,N<=n->f (n+1) (l.length:Int)=fin) (n:Nat) (hn:N+l.length+1<=n):f n 0=fin:=by
  have:=Zkp (f:=f) (l:=l) (p:=fun _=>true) (bad:=none) (fin:=fin) (N:=N) (fun n i e h=>hs n i e h) he n hn;grind
end Tg

/- Great gives short lists; Twin gives the machine; Same is reflexive. -/
namespace Tg
open Go
open Go.Abs (Zb Zf tmm)
theorem Yl1 {l:List Snd}(h:l.length<=100000):Ze7 l l=some (true,()):=by
 rw [Zpq,bne_self_eq_false,cond_false];have hf:=Yp;exact Zp4 (f:=fun n k=>Zas n l l k) (l:=l) (fin:=some (true,())) (N:=0)
  (fun n i e he=>by have hk:=(J0d.1 he).1;rw [Zgi,ltL he,ix_s he,ix_s he,wS (show i<1000000000000 by omega)];grind)
  (fun n hn=>by rw [Zgi,geL];rfl) fuel (by omega)
theorem Yl2 {l:List Msg}(h:l.length<=100000):Zgj l l=some (true,()):=by
 rw [Zq7,bne_self_eq_false,cond_false];have hf:=Yp;exact Zp4 (f:=fun n k=>Za5 n l l k) (l:=l) (fin:=some (true,())) (N:=0)
  (fun n i e he=>by have hk:=(J0d.1 he).1;rw [Zg1,ltL he,ix_s he,ix_s he,wS (show i<1000000000000 by omega)];grind)
  (fun n hn=>by rw [Zg1,geL];rfl) fuel (by omega)
theorem Yp8 {q:Que}(h:q.2.1.length<=100000):Zoh q q=some (true,()):=by rw [Z16,Yl2 h,beq_self_eq_true];rfl
theorem Yp9 {us:List Que}(h:∀ q∈us,q.2.1.length<=100000)(hl:us.length<=100000):Zeg us us=some (true,()):=by
 rw [Zso,bne_self_eq_false,cond_false];have hf:=Yp;exact Zp4 (f:=fun n k=>Zbv n us us k) (l:=us) (fin:=some (true,())) (N:=0)
  (fun n i e he=>by have hk:=(J0d.1 he).1;rw [Zhx,ltL he,ix_s he,ix_s he,Yp8 (h e (J0j he)),wS (show i<1000000000000 by omega)];rfl)
  (fun n hn=>by rw [Zhx,geL];rfl) fuel (by omega)
section
variable {a:List (Int×Unit)} {b:List Ent} {c:List Evt} {d:List Row5} {e:List Rec3}
theorem Yl3 (hl:e.length<=100000)(n:Nat)(hn:e.length+1<=n):Zbh n e e 0=some (true,()) :=
 Zp4 (f:=fun n k=>Zbh n e e k) (l:=e) (fin:=some (true,())) (N:=0)
  (fun n i x he=>by have hk:=(J0d.1 he).1;rw [Zlg,ltL he,ix_s he,ix_s he,wS (show i<1000000000000 by omega)];grind)
  (fun n hn=>by rw [Zlg,geL];rfl) n (by omega)
theorem Yl4 (h1:d.length<=100000)(h2:e.length<=100000)(n:Nat)(hn:d.length+e.length+10<=n):Zbg n d e d e 0=some (true,()) :=
 Zp4 (f:=fun n k=>Zbg n d e d e k) (l:=d) (fin:=some (true,())) (N:=e.length+5)
  (fun n i x he=>by have hk:=(J0d.1 he).1;rw [Zlf,ltL he,ix_s he,ix_s he,wS (show i<1000000000000 by omega)];grind)
  (fun n hn=>by obtain⟨q,rfl⟩:∃ q,n=q+1:=⟨n - 1,by omega⟩;rw [Zlf,geL,cond_false,Zvl];exact Yl3 h2 q (by omega)) n (by omega)
theorem Yl5 (h0:c.length<=100000)(h1:d.length<=100000)(h2:e.length<=100000)(n:Nat)(hn:c.length+d.length+e.length+20<=n):Zbf n c d e c d e 0=some (true,()) :=
 Zp4 (f:=fun n k=>Zbf n c d e c d e k) (l:=c) (fin:=some (true,())) (N:=d.length+e.length+15)
  (fun n i x he=>by have hk:=(J0d.1 he).1;rw [Zle,ltL he,ix_s he,ix_s he,wS (show i<1000000000000 by omega)];grind)
  (fun n hn=>by obtain⟨q,rfl⟩:∃ q,n=q+1:=⟨n - 1,by omega⟩;rw [Zle,geL,cond_false,Zvk];exact Yl4 h1 h2 q (by omega)) n (by omega)
theorem Yl6 (h:b.length<=100000)(h0:c.length<=100000)(h1:d.length<=100000)(h2:e.length<=100000)(n:Nat)(hn:b.length+c.length+d.length+e.length+30<=n):Zbe n b c d e b c d e 0=some (true,()) :=
 Zp4 (f:=fun n k=>Zbe n b c d e b c d e k) (l:=b) (fin:=some (true,())) (N:=c.length+d.length+e.length+25)
  (fun n i x he=>by have hk:=(J0d.1 he).1;rw [Zld,ltL he,ix_s he,ix_s he,wS (show i<1000000000000 by omega)];grind)
  (fun n hn=>by obtain⟨q,rfl⟩:∃ q,n=q+1:=⟨n - 1,by omega⟩;rw [Zld,geL,cond_false,Zvj];exact Yl5 h0 h1 h2 q (by omega)) n (by omega)
theorem Yqa (hh:a.length<=100000)(h:b.length<=100000)(h0:c.length<=100000)(h1:d.length<=100000)(h2:e.length<=100000)(n:Nat)(hn:a.length+b.length+c.length+d.length+e.length+40<=n):Zb4 n a b c d e a b c d e 0=some (true,()) :=
 Zp4 (f:=fun n k=>Zb4 n a b c d e a b c d e k) (l:=a) (fin:=some (true,())) (N:=b.length+c.length+d.length+e.length+35)
  (fun n i x he=>by have hk:=(J0d.1 he).1;rw [Znn,ltL he,ix_s he,ix_s he,wS (show i<1000000000000 by omega)];grind)
  (fun n hn=>by obtain⟨q,rfl⟩:∃ q,n=q+1:=⟨n - 1,by omega⟩;rw [Znn,geL,cond_false,Zxj];exact Yl6 h h0 h1 h2 q (by omega)) n (by omega)
end
theorem Yqb {t:Tsk}(h:TLen t):Zog t t=some (true,()):=by have hf:=Yp;have h1:=h.h1;have h2:=h.h2;have h3:=h.h3;have h4:=h.h4;have h5:=h.h5;have h6:=h.h6;rw [Z15,Yl1 h1];simp only [bne_self_eq_false,beq_self_eq_true,Bool.and_true,Bool.not_true,cond_false,J0k];exact Yqa h2 h3 h4 h5 h6 fuel (by omega)
theorem Yqc {m:Mch}(h:MLen m):Zis m m=some (true,()):=by
 have hf:=Yp;have hl:=h.tl;have hs:Zeg m.2.2.2.2.2.2.2.2.2.2.2.2.2.1 m.2.2.2.2.2.2.2.2.2.2.2.2.2.1=some (true,()):=Yp9 h.u h.ul;rw [Z17,bne_self_eq_false,cond_false,hs];simp only [Bool.not_true,cond_false,J0k];exact Zp4 (f:=fun n k=>Zeh n (mT m) (mT m) k) (l:=mT m) (fin:=some (true,())) (N:=0)
  (fun n i e he=>by have hk:=(J0d.1 he).1;rw [Zno,ltL he,ix_s he,ix_s he,Yqb (h.t e (J0j he)),wS (show i<1000000000000 by omega)];rfl)
  (fun n hn=>by rw [Zno,geL];rfl) fuel (by omega)
end Tg
