import Derived.Test.YtpjpjpbaikghbaaGreatDoorSCC
import Derived.Test.YtpjpjpbaikghbaaGreatDoorSMW
set_option linter.all false
/- Functions of the code, told plainly and checked by the kernel. -/
set_option maxRecDepth 100000
namespace Tg
noncomputable section
open Go.Abs hiding fuel
open Go.Proofs.Tryz (prog)
open Int (ofNat toNat)
open Go.IntKind (wrap)
abbrev Yg7:List Go.Abs.SC:=[.p (.int .u8),.any,.any,.p (.sl Yq6),.any,.any,.p (.sl [.bool,.int .i64,.int .i64,.int .i64,.int .i64]),.any,.any]
def Yzq:Tb:=[(46,Z2r)]
def F56:TFun:=⟨[],[],[.a Yq3],[.c (.p di),.c (.p di)],qc [qn 2,qi,qi,qn 12],[],[],0⟩
def Yn2:=mkC Yzq prog 56 F56
theorem ok56:Yn2.ok prog 56:=mkO ⟨ok46,trivial⟩
def Zjd(a0:Yy3):Option (Int×Int×Unit):=Yn2.fn (a0,())
theorem Zya a0:Eq (Zjd a0)<|(Yo a0).bind λe0=>bif e0.1 !=0 then some (0,e0.1,())else some (wrap .i64 (a0.1-ofNat a0.2.1.length),0,()):=mkE
def Yn3:Tb:=[]
def F37:TFun:=⟨[1],[(1,qc [qi,[.c (.p (.sl Yq3))],qn 29]),(5,qc [qi,[.c (.p (.sl Yq3))],qn 10,qi,qi,qn 17])],[.c di,.c (.sl Yq3)],[.c (.p di)],qc [qn 4,qi,qn 26],[],[],0⟩
def Yg8:=mkC Yn3 prog 37 F37
theorem ok37:Yg8.ok prog 37:=mkO trivial
def Zgj(a0:Int)(a1:(List Yy3)):Option (Int×Unit):=Yg8.fn (a0,a1,())
def Zeh(n:Nat)(x0:Int)(x1:(List Yy3)):Option (Int×Unit):=itr Yn3 prog 37 F37 n 1 (x0,x1,())
def Qq(n:Nat)(x0:Int)(x1:(List Yy3))(x2 x3:Int):Option (Int×Unit):=itr Yn3 prog 37 F37 n 5 (x0,x1,x2,x3,())
theorem Zqu a0 a1:Eq (Zgj a0 a1)<|bif a0>=ofNat a1.length then Zeh fuel 0 a1 else Zeh fuel a0 a1:=mkE
theorem Zog n x0 x1:Eq (Zeh (n+1) x0 x1)<|Qq n x0 x1 (ofNat x1.length) 0:=mkI
theorem Zht n x0 x1 x2 x3:Eq (Qq (n+1) x0 x1 x2 x3)<|bif x3<x2 then bif ofNat x1.length=0 then none else ix x1 (Int.tmod (wrap .i64 (x0+x3)) (ofNat x1.length)) λe0=>bif ofNat e0.2.1.length>0 then some ((Int.tmod (wrap .i64 (x0+x3)) (ofNat x1.length),()))else Qq n x0 x1 x2 (wrap .i64 (x3+1))else some ((-1),()):=mkI
def Yn4:Tb:=[(36,Ygy),(56,Yn2),(37,Yg8)]
def F31:TFun:=⟨[6],[(6,qc [qn 1,[.c (.p (.sl Yq3))],[.c (.p (.sl Yq3))],[.boxN 59 9 Yg7],qn 60]),(8,qc [qn 1,[.c (.p (.sl Yq3))],[.c (.p (.sl Yq3))],[.boxN 59 9 Yg7],qn 17,[.c (.p (.sl Yq6))],qi,qi,qn 40])],[.a Yq2,.c (.sl Yq3),.c (.sl Yq3)],[.c (.p db),.c (.p di)],qc [qn 6,qb,qi,qn 56],[],[],0⟩
def Yn5:=mkC Yn4 prog 31 F31
theorem ok31:Yn5.ok prog 31:=mkO ⟨ok36,ok56,ok37,trivial⟩
def Zje(a0:Yy2)(a1 a2:(List Yy3)):Option (Bool×Int×Unit):=Yn5.fn (a0,a1,a2,())
def Ze5(n:Nat)(x0 x1:(List Yy3))(x2:Int)(x3:Yy5)(x4:(List (Bool×Int×Int×Int×Int×Unit))):Option (Bool×Int×Unit):=itr Yn4 prog 31 F31 n 6 (x0,x1,x2,x3,x4,())
def Zb6(n:Nat)(x0 x1:(List Yy3))(x2:Int)(x3:Yy5)(x4:(List (Bool×Int×Int×Int×Int×Unit)))(x5:Yy5)(x6 x7:Int):Option (Bool×Int×Unit):=itr Yn4 prog 31 F31 n 8 (x0,x1,x2,x3,x4,x5,x6,x7,())
theorem Zyb a0 a1 a2:Eq (Zje a0 a1 a2)<|(Zbb a0 a1 a2).bind λe0=>bif e0.1 !=0 then some (false,e0.1,())else Zb6 fuel a1 a2 a0.1 a0.2.2.2.1 a0.2.2.2.2.2.2.1 a0.2.2.2.1 (ofNat a0.2.2.2.1.length) 0:=mkE
theorem Zt7 n x0 x1 x2 x3 x4:Eq (Ze5 (n+1) x0 x1 x2 x3 x4)<|bif ofNat x3.length>0 then(x3[0]?).bind λe0=>ix x1 e0.1 λe1=>(Zjd e1).bind λe2=>some (decide (e2.1>0),0,())else bif x2==1 then some (decide (ofNat x4.length>0),0,())else(Zgj 0 x0).bind λe0=>some (decide (e0.1>=0),0,()):=mkI
theorem Zj7 n x0 x1 x2 x3 x4 x5 x6 x7:Eq (Zb6 (n+1) x0 x1 x2 x3 x4 x5 x6 x7)<|bif x7<x6 then ix x5 x7 λe0=>bif e0.1>=ofNat x1.length then some (false,2,())else Zb6 n x0 x1 x2 x3 x4 x5 x6 (wrap .i64 (x7+1))else Ze5 n x0 x1 x2 x3 x4:=mkI
def Yzr:Tb:=[(20,Zx0),(19,Z5q),(32,Zx1),(31,Yn5)]
def F16:TFun:=⟨[],[],[.a Yq1,.c di],[.c (.p db)],qc [qn 4,qb,qn 24],[],[],0⟩
def Yg9:=mkC Yzr prog 16 F16
theorem ok16:Yg9.ok prog 16:=mkO ⟨Ygu,Ynx,Ygv,ok31,trivial⟩
def Zfj(a0:Yy1)(a1:Int):Option (Bool×Unit):=Yg9.fn (a0,a1,())
theorem Zyc a0 a1:Eq (Zfj a0 a1)<|ix a0.2.2.2.2.2.2.2.2.2.2.2.2.1 a1 λe0=>(Yn (a0.2.2.2.2.2.2.2.2.2.2.1,a0.2.2.2.2.2.2.2.2.2.2.2.1,()) a1).bind λe1=>(Zck a0 e1.1).bind λe2=>(Ya (a0.2.2.2.2.2.2.2.2.2.2.1,a0.2.2.2.2.2.2.2.2.2.2.2.1,()) a1).bind λe3=>(Zck a0 e3.1).bind λe4=>(Zje e0 e2.1 e4.1).bind λe5=>some (e5.1,()):=mkE
def tab7:Tb:=[(15,Yg5),(16,Yg9)]
def F7:TFun:=⟨[],[],[.a Yq1,.c di],[.c (.p db),.c (.p di)],qc [qn 4,qb,qi,qn 10],[],[],0⟩
def con7:=mkC tab7 prog 7 F7
theorem ok7:con7.ok prog 7:=mkO ⟨ok15,ok16,trivial⟩
def Zdd(a0:Yy1)(a1:Int):Option (Bool×Int×Unit):=con7.fn (a0,a1,())
theorem Zyd a0 a1:Eq (Zdd a0 a1)<|(Zgi a0 a1).bind λe0=>bif e0.1 !=0 then some (false,e0.1,())else(Zfj a0 a1).bind λe1=>some (e1.1,0,()):=mkE
def tab9:Tb:=[(22,Yg4),(7,con7)]
def F9:TFun:=⟨[],[(9,qc [qn 1,[.boxN 35 14 [.p (.int .u8),.p (.sl Yq4),.p (.sl Yq7),.p db,.p (.sl Yq4),.p (.int .u8),.p di,.p di,.p db,.p (.int .u8),.p (.sl Yq8),.p (.sl Yq5),.p (.sl Yq2),.p (.sl Yq3)]],qn 3,[.c (.rowN 3 1 Yq7)],qn 10,qi,qi,qn 18])],[.a Yq1],[.c (.s 3 1 Yq7),.c (.p di)],qc [qn 2,[.c (.rowN 3 1 Yq7)],qi,qn 32],[],[],0⟩
def con9:=mkC tab9 prog 9 F9
theorem ok9:con9.ok prog 9:=mkO ⟨ok22,ok7,trivial⟩
def Yto:TCon:=⟨con9.args,[.c (.p (.sl Yq7)),.c (.p di)],con9.fn⟩
theorem ok9p:Yto.ok prog 9:=TCon.frz (c:=con9) ok9 rfl
def Zmn(a0:Yy1):Option (List (Int×Unit)×Int×Unit):=con9.fn (a0,())
def Zbc(n:Nat)(x0:Int)(x1:Yy4)(x2:Yy6)(x3:Bool)(x4:Yy4)(x5 x6 x7:Int)(x8:Bool)(x9:Int)(x10:Yy7)(x11:Yy4)(x12:(List Yy2))(x13:(List Yy3))(x14:Yy6)(x15 x16:Int):Option (List (Int×Unit)×Int×Unit):=itr tab9 prog 9 F9 n 9 (x0,x1,x2,x3,x4,x5,x6,x7,x8,x9,x10,x11,x12,x13,x14,x15,x16,())
theorem Z0z a0:Eq (Zmn a0)<|(Zjb a0).bind λe0=>bif e0.1 !=0 then some ([],e0.1,())else Zbc fuel a0.1 a0.2.1 a0.2.2.1 a0.2.2.2.1 a0.2.2.2.2.1 a0.2.2.2.2.2.1 a0.2.2.2.2.2.2.1 a0.2.2.2.2.2.2.2.1 a0.2.2.2.2.2.2.2.2.1 a0.2.2.2.2.2.2.2.2.2.1 a0.2.2.2.2.2.2.2.2.2.2.1 a0.2.2.2.2.2.2.2.2.2.2.2.1 a0.2.2.2.2.2.2.2.2.2.2.2.2.1 a0.2.2.2.2.2.2.2.2.2.2.2.2.2.1 ([]) (ofNat a0.2.2.2.2.2.2.2.2.2.2.2.2.1.length) 0:=mkE
theorem Zmo n x0 x1 x2 x3 x4 x5 x6 x7 x8 x9 x10 x11 x12 x13 x14 x15 x16:Eq (Zbc (n+1) x0 x1 x2 x3 x4 x5 x6 x7 x8 x9 x10 x11 x12 x13 x14 x15 x16)<|bif x16<x15 then(Zdd (x0,x1,x2,x3,x4,x5,x6,x7,x8,x9,x10,x11,x12,x13,()) x16).bind λe0=>bif e0.2.1 !=0 then some ([],e0.2.1,())else bif e0.1 then bif Ze (x14.length+List.length [(x16,())]) 8 then Zbc n x0 x1 x2 x3 x4 x5 x6 x7 x8 x9 x10 x11 x12 x13 (x14++[(x16,())]) x15 (wrap .i64 (x16+1))else none else Zbc n x0 x1 x2 x3 x4 x5 x6 x7 x8 x9 x10 x11 x12 x13 x14 x15 (wrap .i64 (x16+1))else some (x14,0,()):=mkI
end
end Tg

/- Which operators can do a step: the program and the reference say the same. -/
namespace Tg
open Go
open Go.Abs (Ze Zj tmm)
def Zgk:Nat->List Que->Int
 | _,[]=>-1
 | i,q::l=>bif decide (0<q.2.1.length)then(i:Int)else Zgk (i+1) l
theorem Ydh{i n:Nat}(h:i<n):Int.tmod (i:Int) (n:Int)=(i:Int):=by rw[Int.tmod_eq_emod_of_nonneg (by omega)];exact Int.emod_eq_of_lt (by omega) (by omega)
theorem Ywf(l:List Que)(hl:l.length<=100000):Zgj 0 l=some (Zgk 0 l,()):=by
 have hf:=Zu;have key:∀(f:Nat->Int->Option (Int×Unit)),(∀n (i:Nat) q,l[i]? = some q->f (n+1) (i:Int)=bif decide (0<q.2.1.length)then some ((i:Int),())else f n ((i+1:Nat):Int))->(∀n,f (n+1) (l.length:Int)=some (-1,())) ->
     ∀(r:List Que) (i n:Nat),l.drop i=r->i<=l.length->r.length+1<=n->f n (i:Int)=some (Zgk i r,()):=by
   intro f h1 h2 r
   induction r with
   | nil=>intro i n h hi hn;obtain⟨m,rfl⟩:∃m,n=m+1:=⟨n-1,by omega⟩;have:=Zqg h hi;subst this;exact h2 m
   | cons q r ih=>intro i n h hi hn;obtain⟨m,rfl⟩:∃m,n=m+1:=⟨n-1,by omega⟩;grind[Za4,Zgk]
 have hd:∀q:Que,decide (Int.ofNat q.2.1.length>0)=decide (0<q.2.1.length):=λq=>by grind
 have ha:∀(i:Nat) (q:Que),l[i]? = some q->Int.tmod (Go.IntKind.wrap .i64 ((0:Int)+(i:Int))) (Int.ofNat l.length)=(i:Int):=λi q h=>by have hi:=(J0d.1 h).1;rw[Int.zero_add,w64 (by omega) (by omega)];exact Ydh hi
 have hz:∀(i:Nat) (q:Que),l[i]? = some q->decide (Int.ofNat l.length=0)=false:=λi q h=>by grind
 obtain⟨m,hm⟩:∃m,fuel=m+1:=⟨fuel-1,by omega⟩
 . have h5:=key (λn k=>Qq n 0 l (Int.ofNat l.length) k) (λn i q h=>by have hi:=(J0d.1 h).1;rw[Zht];simp only[ltL h,cond_true,hz i q h,cond_false,ha i q h,ix_s h,hd,wS (show i<1000000000000 by omega)]) (λn=>by grind[Zht]) l 0 m rfl (by omega) (by omega);grind[Zqu,Zog]
def qsAt(u:List Que)(l:List (Int×Unit)):List Que:=l.filterMap λy=>u[y.1.toNat]?
theorem Zid{u:List Que}:∀{l:List (Int×Unit)},(∀y∈l,∃i:Nat,i<u.length/\y=((i:Int),()))->(qsAt u l).length=l.length
 | [],_=>rfl
 | y::l,h=>by obtain⟨i,hi,rfl⟩:=h y (by simp);have ih:=Zid (l:=l) (λz hz=>h z (by simp[hz]));grind[qsAt]
theorem Zqv(m:Mch)(l:List (Int×Unit))(hl:l.length<=1000)(hu:∀y∈l,∃i:Nat,i<(mU m).length/\y=((i:Int),())):Zck m l=some (qsAt (mU m) l,()):=by
 have hf:=Zu;have fold:∀(l:List (Int×Unit)) (a:List Que),l.foldl (λs e=>s++((mU m)[e.1.toNat]?).toList) a=a++qsAt (mU m) l:=by
  intro l
  induction l with
  | nil=>intro a;simp[qsAt]
  | cons y l ih=>grind[qsAt]
 have step:∀(i:Nat) (e:Int×Unit),l[i]? = some e -> ∃(k:Nat) (q:Que),e=((k:Int),())/\(mU m)[k]? = some q:=λi e h=>by obtain⟨k,hk,rfl⟩:=hu e (J0j h);exact⟨k,_,rfl,J0c hk⟩
 . have:=Z8a (f:=λn s k=>Zdb n (mU m) s l (Int.ofNat l.length) k) (l:=l) (g:=λs e=>s++((mU m)[e.1.toNat]?).toList) (fin:=λs=>some (s,())) (N:=0) (λi s=>s.length<=i)
    (λn s i e h hp=>by have hi:=(J0d.1 h).1;obtain⟨k,q,rfl,hq⟩:=step i e h;have hb:Ze (s.length+[q].length) 32=true:=Xd (by grind) (by omega);grind[Zml,ix_s,wS])
    (λn s _ _=>by grind[Zml]) fuel [] (Nat.le_refl _) (by omega)
   rw[Z0x];rw[fold,List.nil_append]at this;exact this
end Tg

/- An operator of a right machine can do a step: the program and the reference say the same. -/
namespace Tg
open Go
open Go.Abs (Ze Zj tmm)
def Zhc(t:Tsk)(ins outs:List Que):Bool:=match t.2.2.2.1 with
 | []=>bif t.1==1 then decide (0<t.2.2.2.2.2.2.1.length)else decide (0<=Zgk 0 ins)
 | s::_=>match outs[s.1.toNat]? with
  | none=>false
  | some q=>decide ((q.2.1.length:Int)<q.1)
theorem Ywg{t:Tsk}{ins outs:List Que}(h1:Zy t=true)(h2:ins.length<=4)(h3:outs.length<=3)(h4:ins.all queB=true)(h5:outs.all queB=true)(h6:t.2.2.2.1.all (λs=>decide (s.1<(outs.length:Int)))=true) :
    Zje t ins outs=some (Zhc t ins outs,0,()):=by
  have hf:=Zu;have hl:=(Zdy h1).1;have hf0:=Ywf ins (by omega);have hsn:∀s∈t.2.2.2.1,0<=s.1/\s.1<(outs.length:Int):=λs hs=>by grind[Zy,sndB]
  have hq:∀q∈outs,Zjd q=some (q.1-(q.2.1.length:Int),0,()):=λq hq=>by grind[Zya,Zgh,queB,w64]
  have i6:∀n,Ze5 (n+1) ins outs t.1 t.2.2.2.1 t.2.2.2.2.2.2.1=some (Zhc t ins outs,0,()):=λn=>by
   rw[Zt7];unfold Zhc;cases hp:t.2.2.2.1 with
   | nil=>grind[decide]
   | cons s r=>have hs:=hsn s (by grind);obtain⟨k,hk⟩:∃k:Nat,s.1=(k:Int):=⟨s.1.toNat,by omega⟩;grind[ix_s,Int.toNat_natCast]
  . rw[Zyb,Zi8 h1 h2 h3 h4 h5];simp only[J0k,bne_self_eq_false,cond_false];have:=Zcv (f:=λn k=>Zb6 n ins outs t.1 t.2.2.2.1 t.2.2.2.2.2.2.1 t.2.2.2.1 (Int.ofNat t.2.2.2.1.length) k) (l:=t.2.2.2.1) (p:=λs=>decide (s.1<(outs.length:Int))) (bad:=some (false,2,())) (fin:=some (Zhc t ins outs,0,())) (N:=1)
     (λn k e he=>by grind[Zj7,ix_s,wS])
     (λn hn=>by obtain⟨q,rfl⟩:∃q,n=q+1:=⟨n-1,by omega⟩;grind[Zj7]) fuel (by omega)
    grind
def Q9(m:Mch)(i:Nat):Bool:=match (mT m)[i]? with
 | none=>false
 | some t=>Zhc t (qsAt (mU m) (joinL true (mG m) (i:Int))) (qsAt (mU m) (joinL false (mG m) (i:Int)))
variable {b:Bool}{m:Mch}
theorem Zaa(h:mchB b m=true):b=true/\Tj.Zfa (mG m).1 (mG m).2.1/\(mG m).1.length<=20/\(mG m).2.1.length<=100/\(mT m).length=(mG m).1.length/\(mU m).length=(mG m).2.1.length/\(∀q∈mU m,queB q=true)/\(∀(i:Nat) t,(mT m)[i]? = some t->fitB m.2.2.2.1 m.2.2.2.2.2.2.2.2.2.1 (mG m) i t=true):=by grind[mchB,Ydg,Ydd,List.getElem?_of_mem,Z5t,queI]
theorem Znp(h:mchB b m=true){i:Nat}(hi:i<(mT m).length):Zfj m (i:Int)=some (Q9 m i,()):=by
 obtain⟨_,hr,g1,g2,ht,hu,hqs,hts⟩:=Zaa h;obtain⟨t,htt⟩:∃t,(mT m)[i]? = some t:=⟨_,J0c hi⟩;have hfit:=hts i t htt;unfold fitB at hfit;obtain⟨o,ho⟩:∃o,(mG m).1[i]? = some o:=⟨_,J0c (by omega)⟩;rw[ho]at hfit;simp only[J0e]at hfit;obtain⟨_,htask,hpend,_⟩:=hfit;have hc:=Zi9 hr (i:=i) (by omega);have hj:∀b,∀y∈joinL b (mG m) (i:Int),∃k:Nat,k<(mU m).length/\y=((k:Int),()):=λb y hy=>by grind[Z2y]
 have n1:=Zid (hj true);have n2:=Zid (hj false);have j1:=Zbk hr true (i:Int);have j2:=Zbk hr false (i:Int);have qall:∀l:List (Int×Unit),(qsAt (mU m) l).all queB=true:=λl=>by grind[qsAt]
 have hab:=Ywg (t:=t) (ins:=qsAt (mU m) (joinL true (mG m) (i:Int))) (outs:=qsAt (mU m) (joinL false (mG m) (i:Int))) htask (by omega) (by omega) (qall _) (qall _) (by grind);have q1:=Zqv m (joinL true (mG m) (i:Int)) (by omega) (hj true);have q2:=Zqv m (joinL false (mG m) (i:Int)) (by omega) (hj false);have htt' : m.2.2.2.2.2.2.2.2.2.2.2.2.1[i]? = some t:=htt;have hm:Q9 m i=Zhc t (qsAt (mU m) (joinL true (mG m) (i:Int))) (qsAt (mU m) (joinL false (mG m) (i:Int))):=by grind[Q9]
 . rw[Zyc,ix_s htt',show Yn (m.2.2.2.2.2.2.2.2.2.2.1,m.2.2.2.2.2.2.2.2.2.2.2.1,()) (i:Int)=some (joinL true (mG m) (i:Int),()) from Zx4 hr g2 (by omega),show Ya (m.2.2.2.2.2.2.2.2.2.2.1,m.2.2.2.2.2.2.2.2.2.2.2.1,()) (i:Int)=some (joinL false (mG m) (i:Int),()) from Znn hr g2 (by omega)];grind
end Tg

/- enabled.All, Left and First against the reference. -/
namespace Tg
open Go
open Go.Abs (Ze Zj tmm)
theorem Ynd{α β:Type}{f:Nat->Int->Option β}{l:List α}{p:α->Bool}{hit:α->Option β}{fin:Option β}{N:Nat}
    (hs:∀n (i:Nat) e,l[i]? = some e->f (n+1) (i:Int)=bif p e then hit e else f n ((i+1:Nat):Int))
    (he:∀n,N<=n->f (n+1) (l.length:Int)=fin) (n:Nat) (hn:N+l.length+1<=n):f n 0=match l.find? p with|some e=>hit e|none=>fin:=by
  have:=Yf7 (f:=λn (_:Unit) i=>f n i) (l:=l) (step:=λ_ e=>bif p e then .inr (hit e)else .inl ()) (fin:=λ_=>fin) (N:=N) (λ_ _=>True)
   (λn s i e h _=>⟨by grind,λ_ _=>trivial⟩) (λn s h _=>he n h) l 0 n () rfl (by omega) trivial (by omega)
  refine this.trans ?_;clear this hs he hn
  induction l with
  | nil=>rfl
  | cons e l ih=>grind[runL]
def Zpf(m:Mch)(s:List (Int×Unit)×Nat):List (Int×Unit)×Nat:=(bif Q9 m s.2 then s.1++[((s.2:Int),())]else s.1,s.2+1)
def Zr9(m:Mch):List (Int×Unit):=((mT m).foldl (λs _=>Zpf m s) ([],0)).1
variable {b:Bool}{m:Mch}
theorem Z2z(hq:QOk (mQ m) b)(hm:MLen m)(h:mchB b m=true){i:Nat}(hi:i<(mT m).length):Zdd m (i:Int)=some (Q9 m i,0,()):=by
 rw[Zyd,Zjc,Zur m b hq hm,Znp h hi,h];have e1:decide ((i:Int)<0)=false:=decide_eq_false (by omega);have e2:decide ((i:Int)>=Int.ofNat m.2.2.2.2.2.2.2.2.2.2.2.2.1.length)=false:=decide_eq_false (by
  have:i<m.2.2.2.2.2.2.2.2.2.2.2.2.1.length:=hi;grind)
 grind
theorem Yzs(hq:QOk (mQ m) b)(hm:MLen m):Zmn m=some (bif mchB b m then Zr9 m else[],bif mchB b m then 0 else 8,()):=by
 rw[Z0z,Zur m b hq hm];cases h:mchB b m with
 | false=>rfl
 | true =>
  have hf:=Zu;have hl:=hm.tl;simp only[cond_true,J0k,bne_self_eq_false,cond_false];have:=Z8a (f:=λn (s:List (Int×Unit)×Nat) k=>Zbc n m.1 m.2.1 m.2.2.1 m.2.2.2.1 m.2.2.2.2.1 m.2.2.2.2.2.1 m.2.2.2.2.2.2.1 m.2.2.2.2.2.2.2.1 m.2.2.2.2.2.2.2.2.1 m.2.2.2.2.2.2.2.2.2.1 m.2.2.2.2.2.2.2.2.2.2.1 m.2.2.2.2.2.2.2.2.2.2.2.1 m.2.2.2.2.2.2.2.2.2.2.2.2.1 m.2.2.2.2.2.2.2.2.2.2.2.2.2.1 s.1 (Int.ofNat m.2.2.2.2.2.2.2.2.2.2.2.2.1.length) k)
   (l:=mT m) (g:=λs _=>Zpf m s) (fin:=λs=>some (s.1,0,())) (N:=1) (λi s=>s.2=i/\s.1.length<=i)
   (λn s i e he hp=>by have hk:=(J0d.1 he).1;obtain⟨hp1,hp2⟩:=hp;subst hp1;have e0:Zdd (m.1,m.2.1,m.2.2.1,m.2.2.2.1,m.2.2.2.2.1,m.2.2.2.2.2.1,m.2.2.2.2.2.2.1,m.2.2.2.2.2.2.2.1,m.2.2.2.2.2.2.2.2.1,m.2.2.2.2.2.2.2.2.2.1,m.2.2.2.2.2.2.2.2.2.2.1,m.2.2.2.2.2.2.2.2.2.2.2.1,m.2.2.2.2.2.2.2.2.2.2.2.2.1,m.2.2.2.2.2.2.2.2.2.2.2.2.2.1,()) (s.2:Int)=some (Q9 m s.2,0,()):=Z2z hq hm h hk;have e1:decide ((s.2:Int)<Int.ofNat m.2.2.2.2.2.2.2.2.2.2.2.2.1.length)=true:=ltL he;grind[Xd,Zmo,wS,Zpf])
   (λn s hn hp=>by grind[mT,Zmo]) fuel ([],0) ⟨rfl,Nat.le_refl _⟩ (by omega)
  exact this
end Tg

/- enabled.First and Left against the reference. -/
namespace Tg
open Go
open Go.Abs (Ze Zj tmm)
theorem Yiw{m:Mch}:(Zr9 m).length<=(mT m).length:=by
 have:∀(l:List Tsk) (s:List (Int×Unit)×Nat),(l.foldl (λs _=>Zpf m s) s).1.length<=s.1.length+l.length:=by
  intro l
  induction l with
  | nil=>grind
  | cons t l ih =>
   intro s;refine Nat.le_trans (ih _) ?_;have e0:(Zpf m s).1=bif Q9 m s.2 then s.1++[((s.2:Int),())]else s.1:=rfl
   grind
 grind[Zr9]
end Tg

/- Great, Twin and Same of the reference: sizes of machines, copies. -/
namespace Tg
open Go
open Go.Abs (Ze Zj tmm)
theorem Z5u(t:Tsk):∃g,Zg3 t=some (g,())/\(g=false->t.2.2.2.1.length<=4010/\t.2.2.2.2.1.length<=20/\t.2.2.2.2.2.1.length<=100/\t.2.2.2.2.2.2.1.length<=100/\t.2.2.2.2.2.2.2.1.length<=4010/\t.2.2.2.2.2.2.2.2.1.length<=4010):=by
 rw[Zz0];have hf:=Zu;have:=Zcv (f:=λn k=>Zcz n t.2.2.2.2.1 t.2.2.2.2.2.1 t.2.2.2.2.2.2.1 ([(Int.ofNat t.2.2.2.1.length,()),(Int.ofNat t.2.2.2.2.2.2.2.1.length,()),(Int.ofNat t.2.2.2.2.2.2.2.2.1.length,())]) k)
  (l:=[(Int.ofNat t.2.2.2.1.length,()),(Int.ofNat t.2.2.2.2.2.2.2.1.length,()),(Int.ofNat t.2.2.2.2.2.2.2.2.1.length,())])
  (p:=λe=>!(bif decide (e.1>100)then bif decide (e.1<3990)then true else decide (e.1>4010)else decide (e.1>4010))) (bad:=some (true,()))
  (fin:=bif decide (Int.ofNat t.2.2.2.2.2.1.length>100)then some (true,())else bif decide (Int.ofNat t.2.2.2.2.2.2.1.length>100)then some (true,())else some (decide (Int.ofNat t.2.2.2.2.1.length>20),())) (N:=1)
  (λn i e he=>by grind[Zli,Zeu,wS])
  (λn hn=>by obtain⟨q,rfl⟩:∃q,n=q+1:=⟨n-1,by omega⟩;grind[Zli,Zw6]) fuel (by grind)
 grind
end Tg

/- Great gives short lists; Twin gives the machine; Same is reflexive. -/
namespace Tg
open Go
open Go.Abs (Ze Zj tmm)
noncomputable def g27(t:Tsk):Bool:=Classical.choose (Z5u t)
theorem Yzt(t:Tsk):Zg3 t=some (g27 t,()):=(Classical.choose_spec (Z5u t)).1
theorem Yzu{t:Tsk}(h:g27 t=false):TLen t:=by obtain⟨h1,h2,h3,h4,h5,h6⟩:=(Classical.choose_spec (Z5u t)).2 h;exact⟨by omega,by omega,by omega,by omega,by omega,by omega⟩
theorem Yr1(m:Mch):∃g,Zlj m=some (g,())/\(g=false->MLen m):=by
 rw[Zz2];have hf:=Zu;dsimp only;cases c1:decide (Int.ofNat m.2.2.2.2.2.2.2.2.2.2.1.length>30)with
 | true=>grind
 | false =>
 cases c2:decide (Int.ofNat m.2.2.2.2.2.2.2.2.2.2.2.1.length>60)with
 | true=>grind
 | false =>
 cases c3:decide (Int.ofNat m.2.2.2.2.2.2.2.2.2.2.2.2.1.length>30)with
 | true=>grind
 | false =>
 cases c4:decide (Int.ofNat m.2.2.2.2.2.2.2.2.2.2.2.2.2.1.length>60)with
 | true=>grind
 | false =>
 cases decide (Int.ofNat m.2.1.length>100)with
 | true=>grind
 | false =>
 cases decide (Int.ofNat m.2.2.2.2.1.length>100)with
 | true=>grind
 | false =>
 cases decide (Int.ofNat m.2.2.1.length>20)with
 | true=>grind
 | false =>
 have d1:=of_decide_eq_false c1;have d2:=of_decide_eq_false c2;have d3:=of_decide_eq_false c3;have d4:=of_decide_eq_false c4;clear c1 c2 c3 c4;simp only[J0g]at d1 d2 d3 d4;simp only[cond_false];have e1:m.2.2.2.2.2.2.2.2.2.2.2.2.1=mT m:=rfl;have e2:m.2.2.2.2.2.2.2.2.2.2.2.2.2.1=mU m:=rfl;have e3:m.2.2.2.2.2.2.2.2.2.2.1=(mG m).1:=rfl;have e4:m.2.2.2.2.2.2.2.2.2.2.2.1=(mG m).2.1:=rfl;rw[e1]at d3;rw[e2]at d4;rw[e3]at d1;rw[e4]at d2;have:=Zcv (f:=λn k=>Zc0 n (mT m) (mU m) k) (l:=mT m) (p:=λt=>!g27 t) (bad:=some (true,()))
  (fin:=bif (mU m).all (λq=>!decide (Int.ofNat q.2.1.length>20))then some (false,())else some (true,())) (N:=(mU m).length+3)
  (λn i e he=>by grind[Zll,ix_s,Yzt,wS])
  (λn hn=>by
   obtain⟨q,rfl⟩:∃q,n=q+1:=⟨n-1,by omega⟩;rw[Zll,geL,cond_false,Zw7];exact Zcv (f:=λn k=>Zb0 n (mU m) k) (l:=mU m) (p:=λq=>!decide (Int.ofNat q.2.1.length>20)) (bad:=some (true,())) (fin:=some (false,())) (N:=0)
    (λn i e he=>by grind[Zjr,ix_s,Zz1,wS])
    (λn hn=>by grind[Zjr]) q (by omega)) fuel (by omega)
 refine⟨!((mT m).all (λt=>!g27 t)&&(mU m).all (λq=>!decide (Int.ofNat q.2.1.length>20))),this.trans ?_,λh=>?_⟩
 . grind
 . rw[Bool.not_eq_false',J0e,List.all_eq_true,List.all_eq_true]at h;refine⟨λt ht=>Yzu (by grind),λq hq=>?_,by omega,by omega,by omega,by omega⟩;grind
section
variable {a:List (Int×Unit)} {b:List Ent} {c:List Evt} {d:List Row5} {e:List Rec3}
end
end Tg
