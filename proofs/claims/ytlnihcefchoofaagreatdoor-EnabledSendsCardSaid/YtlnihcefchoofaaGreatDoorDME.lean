import Derived.Test.YtlnihcefchoofaaGreatDoorDCC
import Derived.Test.YtlnihcefchoofaaGreatDoorDMW
set_option linter.all false
set_option maxRecDepth 100000
namespace Tg
noncomputable section
open Go.Abs hiding fuel
open Go.Proofs.Tryz (prog)
open Int (ofNat toNat)
open Go.IntKind (wrap)
abbrev Yhp:List Go.Abs.SC:=[.p (.int .u8),.any,.any,.p (.sl Yq6),.any,.any,.p (.sl [.bool,.int .i64,.int .i64,.int .i64,.int .i64]),.any,.any]
def Y0d:Tb:=[(32,Z3a)]
def F56:TFun:=⟨[],[],[.a Yq3],[.c (.p di),.c (.p di)],qc [qn 2,qi,qi,qn 12],[],[],0⟩
def Yol:=mkC Y0d prog 63 F56
theorem ok56:Yol.ok prog 63:=mkO ⟨ok46,trivial⟩
def Zjm(a0:Yy3):Option (Int×Int×Unit):=Yol.fn (a0,())
theorem Zys a0:Eq (Zjm a0)<|(Yp a0).bind λe0=>bif e0.1 !=0 then some (0,e0.1,())else some (wrap .i64 (a0.1-ofNat a0.2.1.length),0,()):=mkE
def Yom:Tb:=[]
def F37:TFun:=⟨[1],[(1,qc [qi,[.c (.p (.sl Yq3))],qn 29]),(5,qc [qi,[.c (.p (.sl Yq3))],qn 10,qi,qi,qn 17])],[.c di,.c (.sl Yq3)],[.c (.p di)],qc [qn 4,qi,qn 26],[],[],0⟩
def Yhq:=mkC Yom prog 40 F37
theorem ok37:Yhq.ok prog 40:=mkO trivial
def Zgu(a0:Int)(a1:(List Yy3)):Option (Int×Unit):=Yhq.fn (a0,a1,())
def Zep(n:Nat)(x0:Int)(x1:(List Yy3)):Option (Int×Unit):=itr Yom prog 40 F37 n 1 (x0,x1,())
def Qs(n:Nat)(x0:Int)(x1:(List Yy3))(x2 x3:Int):Option (Int×Unit):=itr Yom prog 40 F37 n 5 (x0,x1,x2,x3,())
theorem Zq6 a0 a1:Eq (Zgu a0 a1)<|bif a0>=ofNat a1.length then Zep fuel 0 a1 else Zep fuel a0 a1:=mkE
theorem Zor n x0 x1:Eq (Zep (n+1) x0 x1)<|Qs n x0 x1 (ofNat x1.length) 0:=mkI
theorem Zh2 n x0 x1 x2 x3:Eq (Qs (n+1) x0 x1 x2 x3)<|bif x3<x2 then bif ofNat x1.length=0 then none else ix x1 (Int.tmod (wrap .i64 (x0+x3)) (ofNat x1.length)) λe0=>bif ofNat e0.2.1.length>0 then some ((Int.tmod (wrap .i64 (x0+x3)) (ofNat x1.length),()))else Qs n x0 x1 x2 (wrap .i64 (x3+1))else some ((-1),()):=mkI
def Yon:Tb:=[(39,Yhg),(63,Yol),(40,Yhq)]
def F31:TFun:=⟨[6],[(6,qc [qn 1,[.c (.p (.sl Yq3))],[.c (.p (.sl Yq3))],[.boxN 56 9 Yhp],qn 60]),(8,qc [qn 1,[.c (.p (.sl Yq3))],[.c (.p (.sl Yq3))],[.boxN 56 9 Yhp],qn 17,[.c (.p (.sl Yq6))],qi,qi,qn 40])],[.a Yq2,.c (.sl Yq3),.c (.sl Yq3)],[.c (.p db),.c (.p di)],qc [qn 6,qb,qi,qn 56],[],[],0⟩
def Yoo:=mkC Yon prog 34 F31
theorem ok31:Yoo.ok prog 34:=mkO ⟨ok36,ok56,ok37,trivial⟩
def Zjn(a0:Yy2)(a1 a2:(List Yy3)):Option (Bool×Int×Unit):=Yoo.fn (a0,a1,a2,())
def Zff(n:Nat)(x0 x1:(List Yy3))(x2:Int)(x3:Yy5)(x4:(List (Bool×Int×Int×Int×Int×Unit))):Option (Bool×Int×Unit):=itr Yon prog 34 F31 n 6 (x0,x1,x2,x3,x4,())
def Zb8(n:Nat)(x0 x1:(List Yy3))(x2:Int)(x3:Yy5)(x4:(List (Bool×Int×Int×Int×Int×Unit)))(x5:Yy5)(x6 x7:Int):Option (Bool×Int×Unit):=itr Yon prog 34 F31 n 8 (x0,x1,x2,x3,x4,x5,x6,x7,())
theorem Zyt a0 a1 a2:Eq (Zjn a0 a1 a2)<|(Zba a0 a1 a2).bind λe0=>bif e0.1 !=0 then some (false,e0.1,())else Zb8 fuel a1 a2 a0.1 a0.2.2.2.1 a0.2.2.2.2.2.2.1 a0.2.2.2.1 (ofNat a0.2.2.2.1.length) 0:=mkE
theorem Zum n x0 x1 x2 x3 x4:Eq (Zff (n+1) x0 x1 x2 x3 x4)<|bif ofNat x3.length>0 then(x3[0]?).bind λe0=>ix x1 e0.1 λe1=>(Zjm e1).bind λe2=>some (decide (e2.1>0),0,())else bif x2==1 then some (decide (ofNat x4.length>0),0,())else(Zgu 0 x0).bind λe0=>some (decide (e0.1>=0),0,()):=mkI
theorem Zkk n x0 x1 x2 x3 x4 x5 x6 x7:Eq (Zb8 (n+1) x0 x1 x2 x3 x4 x5 x6 x7)<|bif x7<x6 then ix x5 x7 λe0=>bif e0.1>=ofNat x1.length then some (false,2,())else Zb8 n x0 x1 x2 x3 x4 x5 x6 (wrap .i64 (x7+1))else Zff n x0 x1 x2 x3 x4:=mkI
def Y0e:Tb:=[(20,Zyg),(19,Z58),(35,Zyh),(34,Yoo)]
def F16:TFun:=⟨[],[],[.a Yq1,.c di],[.c (.p db)],qc [qn 4,qb,qn 24],[],[],0⟩
def Yhr:=mkC Y0e prog 16 F16
theorem ok16:Yhr.ok prog 16:=mkO ⟨Yhc,Yof,Yhd,ok31,trivial⟩
def Zfs(a0:Yy1)(a1:Int):Option (Bool×Unit):=Yhr.fn (a0,a1,())
theorem Zyu a0 a1:Eq (Zfs a0 a1)<|ix a0.2.2.2.2.2.2.2.2.2.2.2.2.1 a1 λe0=>(Yo (a0.2.2.2.2.2.2.2.2.2.2.1,a0.2.2.2.2.2.2.2.2.2.2.2.1,()) a1).bind λe1=>(Zcm a0 e1.1).bind λe2=>(Ya (a0.2.2.2.2.2.2.2.2.2.2.1,a0.2.2.2.2.2.2.2.2.2.2.2.1,()) a1).bind λe3=>(Zcm a0 e3.1).bind λe4=>(Zjn e0 e2.1 e4.1).bind λe5=>some (e5.1,()):=mkE
def tab7:Tb:=[(15,Yhm),(16,Yhr)]
def F7:TFun:=⟨[],[],[.a Yq1,.c di],[.c (.p db),.c (.p di)],qc [qn 4,qb,qi,qn 10],[],[],0⟩
def con7:=mkC tab7 prog 14 F7
theorem ok7:con7.ok prog 14:=mkO ⟨ok15,ok16,trivial⟩
def Zft(a0:Yy1)(a1:Int):Option (Bool×Int×Unit):=con7.fn (a0,a1,())
theorem Zyv a0 a1:Eq (Zft a0 a1)<|(Zjl a0 a1).bind λe0=>bif e0.1 !=0 then some (false,e0.1,())else(Zfs a0 a1).bind λe1=>some (e1.1,0,()):=mkE
def tab9:Tb:=[(13,Z9s),(14,con7)]
def F9:TFun:=⟨[],[(9,qc [qn 1,[.boxN 35 14 [.p (.int .u8),.p (.sl Yq4),.p (.sl Yq7),.p db,.p (.sl Yq4),.p (.int .u8),.p di,.p di,.p db,.p (.int .u8),.p (.sl Yq8),.p (.sl Yq5),.p (.sl Yq2),.p (.sl Yq3)]],qn 3,[.c (.rowN 3 1 Yq7)],qn 10,qi,qi,qn 18])],[.a Yq1],[.c (.s 3 1 Yq7),.c (.p di)],qc [qn 2,[.c (.rowN 3 1 Yq7)],qi,qn 32],[],[],0⟩
def con9:=mkC tab9 prog 7 F9
theorem ok9:con9.ok prog 7:=mkO ⟨ok22,ok7,trivial⟩
def Yua:TCon:=⟨con9.args,[.c (.p (.sl Yq7)),.c (.p di)],con9.fn⟩
theorem ok9p:Yua.ok prog 7:=TCon.frz (c:=con9) ok9 rfl
def Zm0(a0:Yy1):Option (List (Int×Unit)×Int×Unit):=con9.fn (a0,())
def Zbb(n:Nat)(x0:Int)(x1:Yy4)(x2:Yy6)(x3:Bool)(x4:Yy4)(x5 x6 x7:Int)(x8:Bool)(x9:Int)(x10:Yy7)(x11:Yy4)(x12:(List Yy2))(x13:(List Yy3))(x14:Yy6)(x15 x16:Int):Option (List (Int×Unit)×Int×Unit):=itr tab9 prog 7 F9 n 9 (x0,x1,x2,x3,x4,x5,x6,x7,x8,x9,x10,x11,x12,x13,x14,x15,x16,())
theorem Z1i a0:Eq (Zm0 a0)<|(Zgt a0).bind λe0=>bif e0.1 !=0 then some ([],e0.1,())else Zbb fuel a0.1 a0.2.1 a0.2.2.1 a0.2.2.2.1 a0.2.2.2.2.1 a0.2.2.2.2.2.1 a0.2.2.2.2.2.2.1 a0.2.2.2.2.2.2.2.1 a0.2.2.2.2.2.2.2.2.1 a0.2.2.2.2.2.2.2.2.2.1 a0.2.2.2.2.2.2.2.2.2.2.1 a0.2.2.2.2.2.2.2.2.2.2.2.1 a0.2.2.2.2.2.2.2.2.2.2.2.2.1 a0.2.2.2.2.2.2.2.2.2.2.2.2.2.1 ([]) (ofNat a0.2.2.2.2.2.2.2.2.2.2.2.2.1.length) 0:=mkE
theorem Zm1 n x0 x1 x2 x3 x4 x5 x6 x7 x8 x9 x10 x11 x12 x13 x14 x15 x16:Eq (Zbb (n+1) x0 x1 x2 x3 x4 x5 x6 x7 x8 x9 x10 x11 x12 x13 x14 x15 x16)<|bif x16<x15 then(Zft (x0,x1,x2,x3,x4,x5,x6,x7,x8,x9,x10,x11,x12,x13,()) x16).bind λe0=>bif e0.2.1 !=0 then some ([],e0.2.1,())else bif e0.1 then bif Ze (x14.length+List.length [(x16,())]) 8 then Zbb n x0 x1 x2 x3 x4 x5 x6 x7 x8 x9 x10 x11 x12 x13 (x14++[(x16,())]) x15 (wrap .i64 (x16+1))else none else Zbb n x0 x1 x2 x3 x4 x5 x6 x7 x8 x9 x10 x11 x12 x13 x14 x15 (wrap .i64 (x16+1))else some (x14,0,()):=mkI
end
end Tg
namespace Tg
open Go
open Go.Abs (Ze Zj tmm)
def Zm2:Nat->List Que->Int|_,[]=>-1|i,q::l=>bif decide (0<q.2.1.length)then(i:Int)else Zm2 (i+1) l
theorem Yd0{i n:Nat}(h:i<n):Int.tmod (i:Int) (n:Int)=(i:Int):=by rw[Int.tmod_eq_emod_of_nonneg (by omega)];exact Int.emod_eq_of_lt (by omega) (by omega)
theorem Yw0(l:List Que)(hl:l.length<=100000):Zgu 0 l=some (Zm2 0 l,()):=by
 have hf:=Zr;have key:∀(f:Nat->Int->Option (Int×Unit)),(∀n (i:Nat) q,l[i]? = some q->f (n+1) (i:Int)=bif decide (0<q.2.1.length)then some ((i:Int),())else f n ((i+1:Nat):Int))->(∀n,f (n+1) (l.length:Int)=some (-1,())) ->
     ∀(r:List Que) (i n:Nat),l.drop i=r->i<=l.length->r.length+1<=n->f n (i:Int)=some (Zm2 i r,()):=by
   intro f h1 h2 r
   induction r with|nil=>intro i n h hi hn;obtain⟨m,rfl⟩:∃m,n=m+1:=⟨n-1,by omega⟩;have:=Zqr h hi;subst this;exact h2 m|cons q r ih=>intro i n h hi hn;obtain⟨m,rfl⟩:∃m,n=m+1:=⟨n-1,by omega⟩;grind[Za3,Zm2]
 have hd:∀q:Que,decide (Int.ofNat q.2.1.length>0)=decide (0<q.2.1.length):=λq=>by grind
 have ha:∀(i:Nat) (q:Que),l[i]? = some q->Int.tmod (Go.IntKind.wrap .i64 ((0:Int)+(i:Int))) (Int.ofNat l.length)=(i:Int):=λi q h=>by have hi:=(J0d.1 h).1;rw[Int.zero_add,w64 (by omega) (by omega)];exact Yd0 hi
 have hz:∀(i:Nat) (q:Que),l[i]? = some q->decide (Int.ofNat l.length=0)=false:=λi q h=>by grind
 obtain⟨m,hm⟩:∃m,fuel=m+1:=⟨fuel-1,by omega⟩;have h5:=key (λn k=>Qs n 0 l (Int.ofNat l.length) k) (λn i q h=>by have hi:=(J0d.1 h).1;rw[Zh2];simp only[ltL h,cond_true,hz i q h,cond_false,ha i q h,ix_s h,hd,wS (show i<1000000000000 by omega)]) (λn=>by grind[Zh2]) l 0 m rfl (by omega) (by omega);grind[Zq6,Zor]
def qsAt(u:List Que)(l:List (Int×Unit)):List Que:=l.filterMap λy=>u[y.1.toNat]?
theorem Zin{u:List Que}:∀{l:List (Int×Unit)},(∀y∈l,∃i:Nat,i<u.length/\y=((i:Int),()))->(qsAt u l).length=l.length|[],_=>rfl|y::l,h=>by obtain⟨i,hi,rfl⟩:=h y (by simp);have ih:=Zin (l:=l) (λz hz=>h z (by simp[hz]));grind[qsAt]
theorem Zq7(m:Mch)(l:List (Int×Unit))(hl:l.length<=1000)(hu:∀y∈l,∃i:Nat,i<(mU m).length/\y=((i:Int),())):Zcm m l=some (qsAt (mU m) l,()):=by
 have hf:=Zr;have fold:∀(l:List (Int×Unit)) (a:List Que),l.foldl (λs e=>s++((mU m)[e.1.toNat]?).toList) a=a++qsAt (mU m) l:=by
  intro l
  induction l with|nil=>intro a;simp[qsAt]|cons y l ih=>grind[qsAt]
 have step:∀(i:Nat) (e:Int×Unit),l[i]? = some e -> ∃(k:Nat) (q:Que),e=((k:Int),())/\(mU m)[k]? = some q:=λi e h=>by obtain⟨k,hk,rfl⟩:=hu e (J0j h);exact⟨k,_,rfl,J0c hk⟩
 have:=Zw5 (f:=λn s k=>Zde n (mU m) s l (Int.ofNat l.length) k) (l:=l) (g:=λs e=>s++((mU m)[e.1.toNat]?).toList) (fin:=λs=>some (s,())) (N:=0) (λi s=>s.length<=i)
  (λn s i e h hp=>by have hi:=(J0d.1 h).1;obtain⟨k,q,rfl,hq⟩:=step i e h;have hb:Ze (s.length+[q].length) 32=true:=Xe (by grind) (by omega);grind[Zmy,ix_s,wS])
  (λn s _ _=>by grind[Zmy]) fuel [] (Nat.le_refl _) (by omega)
 rw[Z1g];rw[fold,List.nil_append]at this;exact this
def Zm3(t:Tsk)(ins outs:List Que):Bool:=match t.2.2.2.1 with
 |[]=>bif t.1==1 then decide (0<t.2.2.2.2.2.2.1.length)else decide (0<=Zm2 0 ins)|s::_=>match outs[s.1.toNat]? with
  |none=>false|some q=>decide ((q.2.1.length:Int)<q.1)
theorem Yw1{t:Tsk}{ins outs:List Que}(h1:Zy t=true)(h2:ins.length<=4)(h3:outs.length<=3)(h4:ins.all queB=true)(h5:outs.all queB=true)(h6:t.2.2.2.1.all (λs=>decide (s.1<(outs.length:Int)))=true) :
    Zjn t ins outs=some (Zm3 t ins outs,0,()):=by
  have hf:=Zr;have hl:=(Zd7 h1).1;have hf0:=Yw0 ins (by omega);have hsn:∀s∈t.2.2.2.1,0<=s.1/\s.1<(outs.length:Int):=λs hs=>by grind[Zy,sndB]
  have hq:∀q∈outs,Zjm q=some (q.1-(q.2.1.length:Int),0,()):=λq hq=>by grind[Zys,Zgs,queB,w64]
  have i6:∀n,Zff (n+1) ins outs t.1 t.2.2.2.1 t.2.2.2.2.2.2.1=some (Zm3 t ins outs,0,()):=λn=>by
   rw[Zum];unfold Zm3;cases hp:t.2.2.2.1 with|nil=>grind[decide]|cons s r=>have hs:=hsn s (by grind);obtain⟨k,hk⟩:∃k:Nat,s.1=(k:Int):=⟨s.1.toNat,by omega⟩;grind[ix_s,Int.toNat_natCast]
  rw[Zyt,Zji h1 h2 h3 h4 h5];simp only[J0k,bne_self_eq_false,cond_false];have:=Zcy (f:=λn k=>Zb8 n ins outs t.1 t.2.2.2.1 t.2.2.2.2.2.2.1 t.2.2.2.1 (Int.ofNat t.2.2.2.1.length) k) (l:=t.2.2.2.1) (p:=λs=>decide (s.1<(outs.length:Int))) (bad:=some (false,2,())) (fin:=some (Zm3 t ins outs,0,())) (N:=1)
   (λn k e he=>by grind[Zkk,ix_s,wS])
   (λn hn=>by obtain⟨q,rfl⟩:∃q,n=q+1:=⟨n-1,by omega⟩;grind[Zkk]) fuel (by omega)
  grind
def Zcn(m:Mch)(i:Nat):Bool:=match (mT m)[i]? with|none=>false|some t=>Zm3 t (qsAt (mU m) (joinL true (mG m) (i:Int))) (qsAt (mU m) (joinL false (mG m) (i:Int)))
variable {b:Bool}{m:Mch}
theorem Xy(h:mchB b m=true):b=true/\Tj.Zhn (mG m).1 (mG m).2.1/\(mG m).1.length<=20/\(mG m).2.1.length<=100/\(mT m).length=(mG m).1.length/\(mU m).length=(mG m).2.1.length/\(∀q∈mU m,queB q=true)/\(∀(i:Nat) t,(mT m)[i]? = some t->fitB m.2.2.2.1 m.2.2.2.2.2.2.2.2.2.1 (mG m) i t=true):=by grind[mchB,Ydz,Ydv,List.getElem?_of_mem,Z6b,queI]
theorem Zsl(h:mchB b m=true){i:Nat}(hi:i<(mT m).length):Zfs m (i:Int)=some (Zcn m i,()):=by
 obtain⟨_,hr,g1,g2,ht,hu,hqs,hts⟩:=Xy h;obtain⟨t,htt⟩:∃t,(mT m)[i]? = some t:=⟨_,J0c hi⟩;have hfit:=hts i t htt;unfold fitB at hfit;obtain⟨o,ho⟩:∃o,(mG m).1[i]? = some o:=⟨_,J0c (by omega)⟩;rw[ho]at hfit;simp only[J0e]at hfit;obtain⟨_,htask,hpend,_⟩:=hfit;have hc:=Zjj hr (i:=i) (by omega);have hj:∀b,∀y∈joinL b (mG m) (i:Int),∃k:Nat,k<(mU m).length/\y=((k:Int),()):=λb y hy=>by grind[Z3h]
 have n1:=Zin (hj true);have n2:=Zin (hj false);have j1:=Zbj hr true (i:Int);have j2:=Zbj hr false (i:Int);have qall:∀l:List (Int×Unit),(qsAt (mU m) l).all queB=true:=λl=>by grind[qsAt]
 have hab:=Yw1 (t:=t) (ins:=qsAt (mU m) (joinL true (mG m) (i:Int))) (outs:=qsAt (mU m) (joinL false (mG m) (i:Int))) htask (by omega) (by omega) (qall _) (qall _) (by grind);have q1:=Zq7 m (joinL true (mG m) (i:Int)) (by omega) (hj true);have q2:=Zq7 m (joinL false (mG m) (i:Int)) (by omega) (hj false);have htt' : m.2.2.2.2.2.2.2.2.2.2.2.2.1[i]? = some t:=htt;have hm:Zcn m i=Zm3 t (qsAt (mU m) (joinL true (mG m) (i:Int))) (qsAt (mU m) (joinL false (mG m) (i:Int))):=by grind[Zcn]
 rw[Zyu,ix_s htt',show Yo (m.2.2.2.2.2.2.2.2.2.2.1,m.2.2.2.2.2.2.2.2.2.2.2.1,()) (i:Int)=some (joinL true (mG m) (i:Int),()) from Zyl hr g2 (by omega),show Ya (m.2.2.2.2.2.2.2.2.2.2.1,m.2.2.2.2.2.2.2.2.2.2.2.1,()) (i:Int)=some (joinL false (mG m) (i:Int),()) from Znz hr g2 (by omega)];grind
end Tg
namespace Tg
open Go
open Go.Abs (Ze Zj tmm)
theorem Ynv{α β:Type}{f:Nat->Int->Option β}{l:List α}{p:α->Bool}{hit:α->Option β}{fin:Option β}{N:Nat}
    (hs:∀n (i:Nat) e,l[i]? = some e->f (n+1) (i:Int)=bif p e then hit e else f n ((i+1:Nat):Int))
    (he:∀n,N<=n->f (n+1) (l.length:Int)=fin) (n:Nat) (hn:N+l.length+1<=n):f n 0=match l.find? p with|some e=>hit e|none=>fin:=by
  have:=Ygp (f:=λn (_:Unit) i=>f n i) (l:=l) (step:=λ_ e=>bif p e then .inr (hit e)else .inl ()) (fin:=λ_=>fin) (N:=N) (λ_ _=>True)
   (λn s i e h _=>⟨by grind,λ_ _=>trivial⟩) (λn s h _=>he n h) l 0 n () rfl (by omega) trivial (by omega)
  refine this.trans ?_;clear this hs he hn
  induction l with|nil=>rfl|cons e l ih=>grind[runL]
def Zpq(m:Mch)(s:List (Int×Unit)×Nat):List (Int×Unit)×Nat:=(bif Zcn m s.2 then s.1++[((s.2:Int),())]else s.1,s.2+1)
def Zgv(m:Mch):List (Int×Unit):=((mT m).foldl (λs _=>Zpq m s) ([],0)).1
variable {b:Bool}{m:Mch}
theorem Yjf(hq:QOk (mQ m) b)(hm:MLen m)(h:mchB b m=true){i:Nat}(hi:i<(mT m).length):Zft m (i:Int)=some (Zcn m i,0,()):=by
 rw[Zyv,Zq5,Zu5 m b hq hm,Zsl h hi,h];have e1:decide ((i:Int)<0)=false:=decide_eq_false (by omega);have e2:decide ((i:Int)>=Int.ofNat m.2.2.2.2.2.2.2.2.2.2.2.2.1.length)=false:=decide_eq_false (by
  have:i<m.2.2.2.2.2.2.2.2.2.2.2.2.1.length:=hi;grind)
 grind
theorem Y0f(hq:QOk (mQ m) b)(hm:MLen m):Zm0 m=some (bif mchB b m then Zgv m else[],bif mchB b m then 0 else 8,()):=by
 rw[Z1i,Zu5 m b hq hm];cases h:mchB b m with
 |false=>rfl|true =>
  have hf:=Zr;have hl:=hm.tl;simp only[cond_true,J0k,bne_self_eq_false,cond_false];have:=Zw5 (f:=λn (s:List (Int×Unit)×Nat) k=>Zbb n m.1 m.2.1 m.2.2.1 m.2.2.2.1 m.2.2.2.2.1 m.2.2.2.2.2.1 m.2.2.2.2.2.2.1 m.2.2.2.2.2.2.2.1 m.2.2.2.2.2.2.2.2.1 m.2.2.2.2.2.2.2.2.2.1 m.2.2.2.2.2.2.2.2.2.2.1 m.2.2.2.2.2.2.2.2.2.2.2.1 m.2.2.2.2.2.2.2.2.2.2.2.2.1 m.2.2.2.2.2.2.2.2.2.2.2.2.2.1 s.1 (Int.ofNat m.2.2.2.2.2.2.2.2.2.2.2.2.1.length) k)
   (l:=mT m) (g:=λs _=>Zpq m s) (fin:=λs=>some (s.1,0,())) (N:=1) (λi s=>s.2=i/\s.1.length<=i)
   (λn s i e he hp=>by have hk:=(J0d.1 he).1;obtain⟨hp1,hp2⟩:=hp;subst hp1;have e0:Zft (m.1,m.2.1,m.2.2.1,m.2.2.2.1,m.2.2.2.2.1,m.2.2.2.2.2.1,m.2.2.2.2.2.2.1,m.2.2.2.2.2.2.2.1,m.2.2.2.2.2.2.2.2.1,m.2.2.2.2.2.2.2.2.2.1,m.2.2.2.2.2.2.2.2.2.2.1,m.2.2.2.2.2.2.2.2.2.2.2.1,m.2.2.2.2.2.2.2.2.2.2.2.2.1,m.2.2.2.2.2.2.2.2.2.2.2.2.2.1,()) (s.2:Int)=some (Zcn m s.2,0,()):=Yjf hq hm h hk;have e1:decide ((s.2:Int)<Int.ofNat m.2.2.2.2.2.2.2.2.2.2.2.2.1.length)=true:=ltL he;grind[Xe,Zm1,wS,Zpq])
   (λn s hn hp=>by grind[mT,Zm1]) fuel ([],0) ⟨rfl,Nat.le_refl _⟩ (by omega)
  exact this
end Tg
namespace Tg
open Go
open Go.Abs (Ze Zj tmm)
theorem Z3i{m:Mch}:(Zgv m).length<=(mT m).length:=by
 have:∀(l:List Tsk) (s:List (Int×Unit)×Nat),(l.foldl (λs _=>Zpq m s) s).1.length<=s.1.length+l.length:=by
  intro l
  induction l with
  |nil=>grind|cons t l ih =>
   intro s;refine Nat.le_trans (ih _) ?_;have e0:(Zpq m s).1=bif Zcn m s.2 then s.1++[((s.2:Int),())]else s.1:=rfl
   grind
 grind[Zgv]
def Z3j(s:Int×Int)(t:Tsk):Int×Int:=(Go.IntKind.wrap .i64 (s.1+Int.ofNat t.2.2.2.2.2.2.1.length),Go.IntKind.wrap .i64 (s.2+Int.ofNat t.2.2.2.1.length))
def Zyw(s:Int)(q:Que):Int:=Go.IntKind.wrap .i64 (s+Int.ofNat q.2.1.length)
def Yop(m:Mch):Int×Int×Int×Unit:=(((mT m).foldl Z3j (0,0)).1,((mT m).foldl Z3j (0,0)).2,(mU m).foldl Zyw 0,())
theorem Z6c(t:Tsk):∃g,Zhe t=some (g,())/\(g=false->t.2.2.2.1.length<=4010/\t.2.2.2.2.1.length<=20/\t.2.2.2.2.2.1.length<=100/\t.2.2.2.2.2.2.1.length<=100/\t.2.2.2.2.2.2.2.1.length<=4010/\t.2.2.2.2.2.2.2.2.1.length<=4010):=by
 rw[Z0j];have hf:=Zr;have:=Zcy (f:=λn k=>Zc2 n t.2.2.2.2.1 t.2.2.2.2.2.1 t.2.2.2.2.2.2.1 ([(Int.ofNat t.2.2.2.1.length,()),(Int.ofNat t.2.2.2.2.2.2.2.1.length,()),(Int.ofNat t.2.2.2.2.2.2.2.2.1.length,())]) k)
  (l:=[(Int.ofNat t.2.2.2.1.length,()),(Int.ofNat t.2.2.2.2.2.2.2.1.length,()),(Int.ofNat t.2.2.2.2.2.2.2.2.1.length,())])
  (p:=λe=>!(bif decide (e.1>100)then bif decide (e.1<3990)then true else decide (e.1>4010)else decide (e.1>4010))) (bad:=some (true,()))
  (fin:=bif decide (Int.ofNat t.2.2.2.2.2.1.length>100)then some (true,())else bif decide (Int.ofNat t.2.2.2.2.2.2.1.length>100)then some (true,())else some (decide (Int.ofNat t.2.2.2.2.1.length>20),())) (N:=1)
  (λn i e he=>by grind[Zlv,Ze2,wS])
  (λn hn=>by obtain⟨q,rfl⟩:∃q,n=q+1:=⟨n-1,by omega⟩;grind[Zlv,Zxm]) fuel (by grind)
 grind
noncomputable def g27(t:Tsk):Bool:=Classical.choose (Z6c t)
theorem Y0g(t:Tsk):Zhe t=some (g27 t,()):=(Classical.choose_spec (Z6c t)).1
theorem Y0h{t:Tsk}(h:g27 t=false):TLen t:=by obtain⟨h1,h2,h3,h4,h5,h6⟩:=(Classical.choose_spec (Z6c t)).2 h;exact⟨by omega,by omega,by omega,by omega,by omega,by omega⟩
theorem Ysn(m:Mch):∃g,Zlw m=some (g,())/\(g=false->MLen m):=by
 rw[Z0l];have hf:=Zr;dsimp only;cases c1:decide (Int.ofNat m.2.2.2.2.2.2.2.2.2.2.1.length>30)with|true=>grind|false =>
 cases c2:decide (Int.ofNat m.2.2.2.2.2.2.2.2.2.2.2.1.length>60)with|true=>grind|false =>
 cases c3:decide (Int.ofNat m.2.2.2.2.2.2.2.2.2.2.2.2.1.length>30)with|true=>grind|false =>
 cases c4:decide (Int.ofNat m.2.2.2.2.2.2.2.2.2.2.2.2.2.1.length>60)with|true=>grind|false =>
 cases decide (Int.ofNat m.2.1.length>100)with|true=>grind|false =>
 cases decide (Int.ofNat m.2.2.2.2.1.length>100)with|true=>grind|false =>
 cases decide (Int.ofNat m.2.2.1.length>20)with|true=>grind|false =>
 have d1:=of_decide_eq_false c1;have d2:=of_decide_eq_false c2;have d3:=of_decide_eq_false c3;have d4:=of_decide_eq_false c4;clear c1 c2 c3 c4;simp only[J0g]at d1 d2 d3 d4;simp only[cond_false];have e1:m.2.2.2.2.2.2.2.2.2.2.2.2.1=mT m:=rfl;have e2:m.2.2.2.2.2.2.2.2.2.2.2.2.2.1=mU m:=rfl;have e3:m.2.2.2.2.2.2.2.2.2.2.1=(mG m).1:=rfl;have e4:m.2.2.2.2.2.2.2.2.2.2.2.1=(mG m).2.1:=rfl;rw[e1]at d3;rw[e2]at d4;rw[e3]at d1;rw[e4]at d2;have:=Zcy (f:=λn k=>Zc3 n (mT m) (mU m) k) (l:=mT m) (p:=λt=>!g27 t) (bad:=some (true,()))
  (fin:=bif (mU m).all (λq=>!decide (Int.ofNat q.2.1.length>20))then some (false,())else some (true,())) (N:=(mU m).length+3)
  (λn i e he=>by grind[Zly,ix_s,Y0g,wS])
  (λn hn=>by
   obtain⟨q,rfl⟩:∃q,n=q+1:=⟨n-1,by omega⟩;rw[Zly,geL,cond_false,Zxn];exact Zcy (f:=λn k=>Zb1 n (mU m) k) (l:=mU m) (p:=λq=>!decide (Int.ofNat q.2.1.length>20)) (bad:=some (true,())) (fin:=some (false,())) (N:=0)
    (λn i e he=>by grind[Zj3,ix_s,Z0k,wS])
    (λn hn=>by grind[Zj3]) q (by omega)) fuel (by omega)
 refine⟨!((mT m).all (λt=>!g27 t)&&(mU m).all (λq=>!decide (Int.ofNat q.2.1.length>20))),this.trans ?_,λh=>?_⟩;grind;rw[Bool.not_eq_false',J0e,List.all_eq_true,List.all_eq_true]at h;refine⟨λt ht=>Y0h (by grind),λq hq=>?_,by omega,by omega,by omega,by omega⟩;grind
section
variable {a:List (Int×Unit)} {b:List Ent} {c:List Evt} {d:List Row5} {e:List Rec3}
end
end Tg
