import Derived.Test.YtpjpjpbaikghbaaGreatDoorSSI
import Derived.Test.YtpjpjpbaikghbaaGreatDoorSVb5
set_option linter.all false
/- The channels of an operator in order: sorted, and place by place. -/
namespace Tj
open Go Go.Sort Go.Proofs
def keyO(b:Bool)(chs:List Chn)(i:Nat):Int:=((chs[i]?).map (keyF b)).getD 0
def Zqq(b:Bool)(op:Int)(chs:List Chn):List Nat:=(List.range 20).flatMap λpl:Nat=>(List.range chs.length).filter λi=>(chs[i]?).any λc=>decide (selF b c=op)&&decide (keyF b c=(pl:Int))
theorem Z83(b:Bool)(op:Int)(chs:List Chn):(sorF b op chs).Perm (idxN b op chs chs.length):=by
 by_cases h:0<chs.length
 . obtain⟨I,hI⟩:∃I:Inhabited (Fin chs.length),I=⟨⟨0,h⟩⟩:=⟨_,rfl⟩;rw[Zqp h hI];have hp:=(insertionSort_holds (swoF b chs) (idxD b op chs) 0 (idxD b op chs).size (Nat.zero_le _) (Nat.le_refl _)).1;obtain⟨h1,_,h3⟩:=hp;generalize Sort.insertionSort (ltOf (cfF b chs)) (idxD b op chs) 0 (idxD b op chs).size=d' at h1 h3 ⊢;have e1:(d'.extract 0 (idxD b op chs).size).toList=d'.toList:=by rw[<- h1];simp
   have e3:((idxD b op chs).extract 0 (idxD b op chs).size).toList=(idxD b op chs).toList:=by simp
   rw[e1,e3]at h3;have h4:=h3.map Fin.val;have e2:(idxD b op chs).toList.map Fin.val=idxN b op chs chs.length:=by unfold idxD;rw[List.map_pmap];simp
   grind
 . have:chs=[]:=List.length_eq_zero_iff.1 (by omega);subst this;exact List.Perm.refl _
theorem Yc9(b:Bool)(op:Int)(chs:List Chn):(sorF b op chs).Pairwise λi j=>keyO b chs i<=keyO b chs j:=by
 by_cases h:0<chs.length
 . obtain⟨I,hI⟩:∃I:Inhabited (Fin chs.length),I=⟨⟨0,h⟩⟩:=⟨_,rfl⟩;rw[Zqp h hI];have hh:=insertionSort_holds (swoF b chs) (idxD b op chs) 0 (idxD b op chs).size (Nat.zero_le _) (Nat.le_refl _);have hs:=hh.2;have hz:=hh.1.1;generalize Sort.insertionSort (ltOf (cfF b chs)) (idxD b op chs) 0 (idxD b op chs).size=d' at hs hz ⊢;rw[List.pairwise_map,List.pairwise_iff_getElem];intro i j hi hj hij;have:=hs i j (Nat.zero_le _) hij (by grind);grind[ltOf,cfF,Z8z,keyO]
 . have:chs=[]:=List.length_eq_zero_iff.1 (by omega);subst this;exact List.Pairwise.nil
structure KeysOk(b:Bool) (op:Int) (chs:List Chn):Prop where
 low:∀(i:Nat) (c:Chn),chs[i]? = some c->selF b c=op->0<=keyF b c/\keyF b c<20
 inj:∀(i j:Nat) (c d:Chn),chs[i]? = some c->chs[j]? = some d->selF b c=op->selF b d=op->keyF b c=keyF b d->i=j
variable {b:Bool}
theorem Zup{op:Int}{chs:List Chn}{i:Nat}:i∈idxN b op chs chs.length ↔ ∃c,chs[i]? = some c/\selF b c=op:=by unfold idxN;grind
theorem Z5n{op:Int}{chs:List Chn}{i pl:Nat}:(i∈(List.range chs.length).filter λi=>(chs[i]?).any λc=>decide (selF b c=op)&&decide (keyF b c=(pl:Int))) ↔ ∃c,chs[i]? = some c/\selF b c=op/\keyF b c=(pl:Int):=by grind
theorem Zqr{op:Int}{chs:List Chn}{i:Nat}(hk:KeysOk b op chs):i∈Zqq b op chs↔i∈idxN b op chs chs.length:=by
 unfold Zqq;rw[List.mem_flatMap,Zup];constructor
 . grind
 . rintro⟨c,hc,hs⟩;have:=hk.low i c hc hs;exact⟨(keyF b c).toNat,by grind,Z5n.2 ⟨c,hc,hs,by omega⟩⟩
theorem Ynk{chs:List Chn}{i:Nat}{c:Chn}(h:chs[i]? = some c):keyO b chs i=keyF b c:=by simp[keyO,h]
theorem Ztl{op:Int}{chs:List Chn}(hk:KeysOk b op chs):(Zqq b op chs).Pairwise λi j=>keyO b chs i<keyO b chs j:=by
 unfold Zqq;rw[List.pairwise_flatMap];refine⟨λpl _=>?_,?_⟩
 . refine List.Pairwise.imp_of_mem (R:=λi j=>i<j) (λ{i j} hi hj hij=>?_) ((List.pairwise_lt_range).filter _);obtain⟨c,hc,hs,h1⟩:=Z5n.1 hi;obtain⟨d,hd,ht,h2⟩:=Z5n.1 hj;have:=hk.inj i j c d hc hd hs ht (by grind);omega
 grind[List.Pairwise.imp,List.pairwise_lt_range,Ynk]
theorem Zx2{op:Int}{chs:List Chn}(hk:KeysOk b op chs):sorF b op chs=Zqq b op chs:=by
 have hj:=Ztl hk;have nd1:(Zqq b op chs).Nodup:=hj.imp λh e=>by grind
 have nd2:(idxN b op chs chs.length).Nodup:=by grind[idxN,List.nodup_range]
 have hp:(sorF b op chs).Perm (Zqq b op chs):=(Z83 b op chs).trans ((List.perm_ext_iff_of_nodup nd2 nd1).2 λi=>(Zqr hk).symm);refine List.Perm.eq_of_pairwise (le:=λi j=>keyO b chs i<=keyO b chs j) (λi j hi hj h1 h2=>?_) (Yc9 b op chs) (hj.imp λh=>by omega) hp;obtain⟨c,hc,hs⟩:=Zup.1 ((Z83 b op chs).mem_iff.1 hi);obtain⟨d,hd,ht⟩:=Zup.1 ((Zqr hk).1 hj);exact hk.inj i j c d hc hd hs ht (by grind[Ynk])
end Tj

/- The reference's check of a graph, told plainly. -/
namespace Tg
open Go
open Go.Abs (Ze)
theorem Yr0(k i o:Int):Zpb k i o=some (Zh2 k i o,()):=by
 have e:∀a b c:Int,Qp a b c=some (decide (b<=a)&&decide (a<=c),()):=λa b c=>by grind[Ztz]
 have q:∀a b:Int,(decide (b<=a)&&decide (a<=b))=(a==b):=λa b=>by grind
 rw[Z47];unfold Zh2;simp only[e];by_cases h1:k=1
 . grind[bnd]
 by_cases h2:k=2
 . grind[bnd]
 by_cases h3:k=3
 . grind[bnd]
 by_cases h4:k=4
 . grind[bnd]
 grind[bnd,decide]
theorem Z84(b:Bool)(j:Int)(c:Cn)(l:List Cn):(cnt b j (c::l):Int)=(bif cond b c.2.2.1 c.1==j then 1 else 0)+cnt b j l:=by unfold cnt;grind
theorem inp4(chs:List Cn)(hl:chs.length<=1000000000)(x:Int):∀(rest:List Cn) (i n a:Nat),chs.drop i=rest->i<=chs.length->rest.length+1<=n->a<=i->Zao n x chs (a:Int) (i:Int)=some ((a:Int)+cnt true x rest,())
 | [],i,n,a,h,hi,hn,ha=>by obtain⟨m,rfl⟩:∃m,n=m+1:=⟨n-1,by grind⟩;grind[Zjs,cnt]
 | c::rest,i,n,a,h,hi,hn,ha=>by obtain⟨m,rfl⟩:∃m,n=m+1:=⟨n-1,by grind⟩;obtain⟨h1,h2,h3⟩:=Za4 h;rw[Zjs];simp only[J0g,iL h1,cond_true,iN,J0l,h2,wS (show i<1000000000000 by omega),wS (show a<1000000000000 by omega)];rw[inp4 chs hl x rest (i+1) m (a+1) h3 (by omega) (by grind) (by omega),inp4 chs hl x rest (i+1) m a h3 (by omega) (by grind) (by omega),Z84];grind
theorem out4(chs:List Cn)(hl:chs.length<=1000000000)(x:Int):∀(rest:List Cn) (i n a:Nat),chs.drop i=rest->i<=chs.length->rest.length+1<=n->a<=i->Q6 n x chs (a:Int) (i:Int)=some ((a:Int)+cnt false x rest,())
 | [],i,n,a,h,hi,hn,ha=>by obtain⟨m,rfl⟩:∃m,n=m+1:=⟨n-1,by grind⟩;grind[Zh8,cnt]
 | c::rest,i,n,a,h,hi,hn,ha=>by obtain⟨m,rfl⟩:∃m,n=m+1:=⟨n-1,by grind⟩;obtain⟨h1,h2,h3⟩:=Za4 h;rw[Zh8];simp only[J0g,iL h1,cond_true,iN,J0l,h2,wS (show i<1000000000000 by omega),wS (show a<1000000000000 by omega)];rw[out4 chs hl x rest (i+1) m (a+1) h3 (by omega) (by grind) (by omega),out4 chs hl x rest (i+1) m a h3 (by omega) (by grind) (by omega),Z84];grind
theorem Z2x(ops:List Op)(chs:List Cn)(hl:chs.length<=1000000000)(x:Int):Zfg (ops,chs,()) x=some ((cnt true x chs:Int),()):=by obtain⟨n,hn⟩:=Zau;have:=inp4 chs hl x chs 0 fuel 0 rfl (by omega) (by grind) (by omega);grind[Zxd]
theorem Zx3(ops:List Op)(chs:List Cn)(hl:chs.length<=1000000000)(x:Int):Zee (ops,chs,()) x=some ((cnt false x chs:Int),()):=by obtain⟨n,hn⟩:=Zau;have:=out4 chs hl x chs 0 fuel 0 rfl (by omega) (by grind) (by omega);grind[Zt0]
theorem Ynl(chs:List Cn)(c:Cn)(j:Nat)(hj:j<=chs.length)(hl:chs.length<=1000000000):∀(rest:List Cn) (i n:Nat),(chs.take j).drop i=rest->i<=j->rest.length+1<=n->Zc4 n (j:Int) chs c.1 c.2.1 c.2.2.1 c.2.2.2.1 (i:Int)=some (rest.all λd=>apart d c,())
 | [],i,n,h,hi,hn=>by obtain⟨m,rfl⟩:∃m,n=m+1:=⟨n-1,by grind⟩;grind[Zlt]
 | d::rest,i,n,h,hi,hn=>by
  obtain⟨m,rfl⟩:∃m,n=m+1:=⟨n-1,by grind⟩;have hlt:(chs.take j).length=j:=by grind
  obtain⟨h1,h2,h3⟩:=Za4 h;rw[List.getElem?_take_of_lt (by omega)]at h2;rw[Zlt];simp only[iL (show i<j by omega),cond_true,iN,J0l,h2,wS (show i<1000000000000 by omega),List.all_cons];rw[Ynl chs c j hj hl rest (i+1) m h3 (by omega) (by grind)];grind[apart,inc]
theorem apart_eq(ops:List Op)(chs:List Cn)(hl:chs.length<=1000000000)(j:Nat)(c:Cn)(hc:chs[j]? = some c):Zls (ops,chs,()) (j:Int)=some ((chs.take j).all λd=>apart d c,()):=by obtain⟨n,hn⟩:=Zau;have hj:=(J0d.1 hc).1;have:=Ynl chs c j (by omega) hl (chs.take j) 0 fuel rfl (by omega) (by grind);grind[Z0c]
def bu(R:List Bool):List (Bool×Unit):=R.map λb=>(b,())
theorem Ywb(R:List Bool):(bu R).length=R.length:=by simp[bu]
theorem Yda{R:List Bool}{j:Nat}(h:j<R.length):(bu R)[j]? = some ((R[j]?).getD false,()):=by unfold bu;grind
theorem Ywc(R:List Bool)(j:Nat)(b:Bool)(u:Unit):(bu R).set j (b,u)=bu (R.set j b):=by unfold bu;simp_all
theorem Z5l(f:Int)(R:List Bool)(c:Cn):(rlx f R c).length=R.length:=by unfold rlx;grind
theorem Z85(f:Int)(c:Cn)(l:List Cn)(R:List Bool):rnd f (c::l) R=rnd f l (rlx f R c):=rfl
theorem Znl(f:Int):∀(chs:List Cn) (R:List Bool),(rnd f chs R).length=R.length
 | [],_=>rfl
 | c::l,R=>by rw[Z85,Znl f l,Z5l]
theorem Ydb(f:Int)(ops:List Op)(chs:List Cn)(hl:chs.length<=1000000000)(hok:∀c∈chs,okC ops.length c=true)(r m:Nat)(hr:r<1000000000):∀(rest:List Cn) (i n:Nat) (R:List Bool),chs.drop i=rest->i<=chs.length->n=m+rest.length+1->R.length=ops.length->Xy n f ops chs (bu R) (r:Int) (i:Int)=Q7 m f ops chs (bu (rnd f rest R)) ((r+1:Nat):Int)
 | [],i,n,R,h,hi,hn,hR=>by subst hn;have:=Zqg h hi;rw[Zia];simp only[J0g,iG (show ¬i<chs.length by omega),cond_false,wS (show r<1000000000000 by omega)];rfl
 | c::rest,i,n,R,h,hi,hn,hR=>by subst hn;obtain⟨h1,h2,h3⟩:=Za4 h;have hc:=hok c (J0j h2);simp only[okC,J0e,J0h]at hc;rw[show m+(c::rest).length+1=(m+rest.length+1)+1 by grind];rw[Zia];simp only[J0g,iL h1,cond_true,iN,J0l,h2,wS (show i<1000000000000 by omega),iN' (show 0<=c.2.2.1 by omega),iN' (show 0<=c.1 by omega),Ywb,dT (show c.2.2.1.toNat<R.length by omega),dT (show c.1.toNat<R.length by omega),Yda (show c.2.2.1.toNat<R.length by omega),Yda (show c.1.toNat<R.length by omega),Ywc];rw[Ydb f ops chs hl hok r m hr rest (i+1) _ (R.set c.2.2.1.toNat true) h3 (by omega) rfl (by grind),Ydb f ops chs hl hok r m hr rest (i+1) _ R h3 (by omega) rfl hR,Z85];unfold rlx;grind
theorem Ynm(f:Int)(ops:List Op)(chs:List Cn)(hl:chs.length<=1000000000)(hok:∀c∈chs,okC ops.length c=true)(ho:ops.length<=100000000):∀(k r n:Nat) (R:List Bool),r+k=ops.length+1->k*(chs.length+2)+1<=n->R.length=ops.length->Q7 n f ops chs (bu R) (r:Int)=some (bu (rnds f chs k R),())
 | 0,r,n,R,hk,hn,hR=>by obtain⟨m,rfl⟩:∃m,n=m+1:=⟨n-1,by omega⟩;rw[Zh9];simp only[J0g,dF (show ¬(r:Int)<=(ops.length:Int) by omega),cond_false];rfl
 | k+1,r,n,R,hk,hn,hR=>by rw[Nat.succ_mul]at hn;obtain⟨m,rfl⟩:∃m,n=(m+chs.length+1)+1:=⟨n-chs.length-2,by omega⟩;rw[Zh9];simp only[J0g,dT (show(r:Int)<=(ops.length:Int) by omega),cond_true];have:=Ydb f ops chs hl hok r m (by omega) chs 0 _ R rfl (by omega) rfl hR;rw[show((0:Nat):Int)=0 from rfl]at this;rw[this,Ynm f ops chs hl hok ho k (r+1) m (rnd f chs R) (by omega) (by omega) (by grind[Znl])];rfl
theorem Ydc(f:Int)(ops:List Op)(chs:List Cn)(hl:chs.length<=1000)(hok:∀c∈chs,okC ops.length c=true)(ho:ops.length<=1000):Zhr (ops,chs,()) f=some (bu (rnds f chs (ops.length+1) (List.replicate ops.length false)),()):=by obtain⟨n,hn⟩:=Zau;have hm:(ops.length+1)*(chs.length+2)<=1001*1002:=Nat.mul_le_mul (by omega) (by omega);have:=Ynm f ops chs (by omega) hok (by omega) (ops.length+1) 0 fuel (List.replicate ops.length false) (by omega) (by grind) (by simp);simp only[Zt1,J0g,J0l,Nat.le_refl,decide_true,Bool.true_and,dT (show 1*ops.length<=281474976710656 by omega),dT (show ops.length<=9223372036854775807 by omega),cond_true];rw[<- this];simp[bu]
end Tg

/- The reference's check of a graph is the plain one. -/
namespace Tg
open Go
open Go.Abs (Ze)
variable {α:Type}
theorem Yiu(n:Nat)(c:Cn)(x y:α):(bif decide (c.1<(0:Int))then x else bif decide (c.2.2.1<(0:Int))then x else bif decide (c.1>=Int.ofNat n)then x else bif decide (c.2.2.1>=Int.ofNat n)then x else bif decide (c.2.2.2.2.1<(1:Int))then x else bif decide (c.2.2.2.2.1>(8:Int))then x else y)=bif okC n c then y else x:=by grind[okC]
theorem Yiv(b:Bool)(chs:List Cn)(c:Cn)(x y:α):(bif !b then x else bif decide (c.2.1<(0:Int))then x else bif decide (c.2.1>=(cnt false c.1 chs:Int))then x else bif decide (c.2.2.2.1<(0:Int))then x else bif decide (c.2.2.2.1>=(cnt true c.2.2.1 chs:Int))then x else y)=bif b&&Zho chs c then y else x:=by grind[Zho]
theorem Zmf(f:Int)(chs:List Cn):∀(k:Nat) (R:List Bool),(rnds f chs k R).length=R.length
 | 0,_=>rfl
 | k+1,R=>by rw[rnds,Zmf f chs k,Znl]
theorem Ytj(ops:List Op)(chs:List Cn)(ho:ops.length<=20)(hl:chs.length<=100)(hok:∀c∈chs,okC ops.length c=true):∀(rest:List Op) (i n:Nat),ops.drop i=rest->i<=ops.length->rest.length+1<=n->Zb2 n ops chs (i:Int)=some (v3 ops.length chs i rest,())
 | [],i,n,h,hi,hn=>by obtain⟨m,rfl⟩:∃m,n=m+1:=⟨n-1,by grind⟩;grind[Zjv,v3]
 | o::rest,i,n,h,hi,hn=>by
  obtain⟨m,rfl⟩:∃m,n=m+1:=⟨n-1,by grind⟩;obtain⟨h1,h2,h3⟩:=Za4 h;have hR:i<(rnds (i:Int) chs (ops.length+1) (List.replicate ops.length false)).length:=by rw[Zmf];grind
  rw[Zjv];simp only[J0g,iL h1,cond_true,iN,J0l,h2,wS (show i<1000000000000 by omega),Z2x ops chs (by omega),Zx3 ops chs (by omega),Yr0,Ydc (i:Int) ops chs (by omega) hok (by omega),Yda hR];rw[Ytj ops chs ho hl hok rest (i+1) m h3 (by omega) (by grind),v3];grind
theorem Ytk(ops:List Op)(chs:List Cn)(ho:ops.length<=20)(hl:chs.length<=100)(hok:∀c∈chs,okC ops.length c=true):∀(rest:List Cn) (i n:Nat),chs.drop i=rest->i<=chs.length->rest.length+ops.length+3<=n->Zb1 n ops chs (i:Int)=some (v2 chs (chs.take i) rest&&v3 ops.length chs 0 ops,())
 | [],i,n,h,hi,hn=>by obtain⟨m,rfl⟩:∃m,n=m+1+1:=⟨n-2,by grind⟩;grind[Zju,iG,v2,Zt2,Ytj]
 | c::rest,i,n,h,hi,hn=>by obtain⟨m,rfl⟩:∃m,n=m+1:=⟨n-1,by grind⟩;obtain⟨h1,h2,h3⟩:=Za4 h;rw[Zju];simp only[J0g,iL h1,cond_true,iN,J0l,h2,wS (show i<1000000000000 by omega),apart_eq ops chs (by omega) i c h2,Z2x ops chs (by omega),Zx3 ops chs (by omega)];rw[Yiv,Ytk ops chs ho hl hok rest (i+1) m h3 (by omega) (by grind),v2,List.take_add_one,h2];grind
theorem val3(ops:List Op)(chs:List Cn)(ho:ops.length<=20)(hl:chs.length<=100):∀(rest:List Cn) (i n:Nat),chs.drop i=rest->i<=chs.length->(∀c∈chs.take i,okC ops.length c=true)->rest.length+chs.length+ops.length+5<=n->Zc5 n ops chs (i:Int)=some (rest.all (okC ops.length)&&(v2 chs [] chs&&v3 ops.length chs 0 ops),())
 | [],i,n,h,hi,hok,hn=>by obtain⟨m,rfl⟩:∃m,n=m+1+1:=⟨n-2,by grind⟩;have:=Zqg h hi;subst this;rw[List.take_length]at hok;rw[Zlw];simp only[J0g,iG (show ¬chs.length<chs.length by omega),cond_false,List.all_nil,Bool.true_and];rw[Zxf];exact Ytk ops chs ho hl hok chs 0 m rfl (by omega) (by grind)
 | c::rest,i,n,h,hi,hok,hn=>by
  obtain⟨m,rfl⟩:∃m,n=m+1:=⟨n-1,by grind⟩;obtain⟨h1,h2,h3⟩:=Za4 h;rw[Zlw];simp only[iL h1,cond_true,iN,J0l,h2,wS (show i<1000000000000 by omega),Yiu,show Int.ofNat chs.length=(chs.length:Int) from rfl];rw[List.all_cons];cases hc:okC ops.length c with
  | false=>rfl
  | true=>rw[cond_true,val3 ops chs ho hl rest (i+1) m h3 (by omega) (λd hd=>by grind) (by grind)];rfl
theorem valid_eq(x:Gr)(ho:x.1.length<=20)(hl:x.2.1.length<=100):Zlu x=some (gOkB x,()):=by obtain⟨n,hn⟩:=Zau;have:=val3 x.1 x.2.1 ho hl x.2.1 0 fuel rfl (by omega) (by simp) (by grind);rw[Z0d];exact this
theorem Ynn(x:Gr):Zg8 x=some (gChk x,()):=by grind[Z0e,gChk,valid_eq]
end Tg

/- The channels of an operator of a right graph. -/
namespace Tg
open Go
variable {x:Gr}
theorem Ydd(h:gOkB x=true):Tj.Zfa x.1 x.2.1:=by obtain⟨ops,chs,u⟩:=x;have:=(Tj.Ygr ops chs).2 h;exact(Tj.Ygp ops chs).2 ⟨this.1,this.2.1⟩
theorem Zi9(h:Tj.Zfa x.1 x.2.1){i:Nat}(hi:i<x.1.length):cnt true i x.2.1<=4/\cnt false i x.2.1<=3:=by have:=(h.2.2 i _ (J0c hi)).2;grind[Zh2,bnd]
theorem Znm(h:Tj.Zfa x.1 x.2.1)(b:Bool)(op:Int):Tj.KeysOk b op x.2.1:=by
 refine⟨λi c hc hs=>?_,λi j c d hc hd hs ht hk=>?_⟩
 . have hm:=J0j hc;have h1:=h.1 c hm;have h2:=h.2.1.2 c hm;simp only[okC,Tj.okC,J0e,J0h]at h1;simp only[Zho,J0e,J0h]at h2;have l1:=Zi9 h (i:=c.2.2.1.toNat) (by omega);have l2:=Zi9 h (i:=c.1.toNat) (by omega);grind[Tj.keyF]
 . have hp:=h.2.1.1;grind[List.pairwise_iff_getElem,apart,inc,Tj.keyF,Tj.selF]
theorem Zuq(b:Bool)(op:Int)(chs:List Cn):∀k,k<=chs.length->(Tj.idxN b op chs k).length=cnt b op (chs.take k)
 | 0,_=>rfl
 | k+1,h=>by
  obtain⟨c,hc⟩:∃c,chs[k]? = some c:=⟨_,J0c (by omega)⟩;have ih:=Zuq b op chs k (by omega);have e:chs.take (k+1)=chs.take k++[c]:=by grind[List.take_add_one]
  grind[cnt,Tj.selF,Tj.Z8y,Tj.Z2w]
def joinL(b:Bool)(x:Gr)(op:Int):List (Int×Unit):=(Tj.Zqq b op x.2.1).map λi:Nat=>((i:Int),())
theorem Zbk(h:Tj.Zfa x.1 x.2.1)(b:Bool)(op:Int):(joinL b x op).length=cnt b op x.2.1:=by unfold joinL;have:=Zuq b op x.2.1 x.2.1.length (Nat.le_refl _);rw[List.take_length]at this;rw[List.length_map,<- Tj.Zx2 (Znm h b op),Tj.Zxx,this]
theorem Z2y(h:Tj.Zfa x.1 x.2.1){b:Bool}{op:Int}{y:Int×Unit}(hy:y∈joinL b x op):∃i:Nat,i<x.2.1.length/\y=((i:Int),()):=by unfold joinL at hy;rw[List.mem_map]at hy;obtain⟨i,hi,rfl⟩:=hy;have:=(Tj.Zqr (Znm h b op)).1 hi;exact⟨i,(Tj.Ygt this).1,rfl⟩
theorem Zx4(h:Tj.Zfa x.1 x.2.1)(hl:x.2.1.length<=100){i:Nat}(hi:i<x.1.length):Yn x (i:Int)=some (joinL true x (i:Int),()):=by have hc:=Zuq true (i:Int) x.2.1 x.2.1.length (Nat.le_refl _);rw[List.take_length]at hc;have:=Zi9 h hi;rw[Z0v x _ (by omega) (by omega),Tj.Zx2 (Znm h true _)];rfl
theorem Znn(h:Tj.Zfa x.1 x.2.1)(hl:x.2.1.length<=100){i:Nat}(hi:i<x.1.length):Ya x (i:Int)=some (joinL false x (i:Int),()):=by have hc:=Zuq false (i:Int) x.2.1 x.2.1.length (Nat.le_refl _);rw[List.take_length]at hc;have:=Zi9 h hi;rw[Zxz x _ (by omega) (by omega),Tj.Zx2 (Znm h false _)];rfl
end Tg
