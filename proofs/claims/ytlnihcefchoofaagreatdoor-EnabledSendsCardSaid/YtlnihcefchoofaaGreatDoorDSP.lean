import Derived.Test.YtlnihcefchoofaaGreatDoorDSI
import Derived.Test.YtlnihcefchoofaaGreatDoorDVb5
set_option linter.all false
namespace Tj
open Go Go.Sort Go.Proofs
def keyO(b:Bool)(chs:List Chn)(i:Nat):Int:=((chs[i]?).map (keyF b)).getD 0
def Zq1(b:Bool)(op:Int)(chs:List Chn):List Nat:=(List.range 20).flatMap λpl:Nat=>(List.range chs.length).filter λi=>(chs[i]?).any λc=>decide (selF b c=op)&&decide (keyF b c=(pl:Int))
theorem Z9k(b:Bool)(op:Int)(chs:List Chn):(sorF b op chs).Perm (idxN b op chs chs.length):=by
 by_cases h:0<chs.length;obtain⟨I,hI⟩:∃I:Inhabited (Fin chs.length),I=⟨⟨0,h⟩⟩:=⟨_,rfl⟩;rw[Zq0 h hI];have hp:=(insertionSort_holds (swoF b chs) (idxD b op chs) 0 (idxD b op chs).size (Nat.zero_le _) (Nat.le_refl _)).1;obtain⟨h1,_,h3⟩:=hp;generalize Sort.insertionSort (ltOf (cfF b chs)) (idxD b op chs) 0 (idxD b op chs).size=d' at h1 h3 ⊢;have e1:(d'.extract 0 (idxD b op chs).size).toList=d'.toList:=by rw[<- h1];simp
 have e3:((idxD b op chs).extract 0 (idxD b op chs).size).toList=(idxD b op chs).toList:=by simp
 rw[e1,e3]at h3;have h4:=h3.map Fin.val;have e2:(idxD b op chs).toList.map Fin.val=idxN b op chs chs.length:=by unfold idxD;rw[List.map_pmap];simp
 grind;have:chs=[]:=List.length_eq_zero_iff.1 (by omega);subst this;exact List.Perm.refl _
theorem Ydr(b:Bool)(op:Int)(chs:List Chn):(sorF b op chs).Pairwise λi j=>keyO b chs i<=keyO b chs j:=by
 by_cases h:0<chs.length;obtain⟨I,hI⟩:∃I:Inhabited (Fin chs.length),I=⟨⟨0,h⟩⟩:=⟨_,rfl⟩;rw[Zq0 h hI];have hh:=insertionSort_holds (swoF b chs) (idxD b op chs) 0 (idxD b op chs).size (Nat.zero_le _) (Nat.le_refl _);have hs:=hh.2;have hz:=hh.1.1;generalize Sort.insertionSort (ltOf (cfF b chs)) (idxD b op chs) 0 (idxD b op chs).size=d' at hs hz ⊢;rw[List.pairwise_map,List.pairwise_iff_getElem];intro i j hi hj hij;have:=hs i j (Nat.zero_le _) hij (by grind);grind[ltOf,cfF,Z9g,keyO];have:chs=[]:=List.length_eq_zero_iff.1 (by omega);subst this;exact List.Pairwise.nil
structure KeysOk(b:Bool) (op:Int) (chs:List Chn):Prop where
 low:∀(i:Nat) (c:Chn),chs[i]? = some c->selF b c=op->0<=keyF b c/\keyF b c<20
 inj:∀(i j:Nat) (c d:Chn),chs[i]? = some c->chs[j]? = some d->selF b c=op->selF b d=op->keyF b c=keyF b d->i=j
variable {b:Bool}
theorem Z54{op:Int}{chs:List Chn}{i:Nat}:i∈idxN b op chs chs.length ↔ ∃c,chs[i]? = some c/\selF b c=op:=by unfold idxN;grind
theorem Z55{op:Int}{chs:List Chn}{i pl:Nat}:(i∈(List.range chs.length).filter λi=>(chs[i]?).any λc=>decide (selF b c=op)&&decide (keyF b c=(pl:Int))) ↔ ∃c,chs[i]? = some c/\selF b c=op/\keyF b c=(pl:Int):=by grind
theorem Zyi{op:Int}{chs:List Chn}{i:Nat}(hk:KeysOk b op chs):i∈Zq1 b op chs↔i∈idxN b op chs chs.length:=by
 unfold Zq1;rw[List.mem_flatMap,Z54];constructor;grind;rintro⟨c,hc,hs⟩;have:=hk.low i c hc hs;exact⟨(keyF b c).toNat,by grind,Z55.2 ⟨c,hc,hs,by omega⟩⟩
theorem Yn2{chs:List Chn}{i:Nat}{c:Chn}(h:chs[i]? = some c):keyO b chs i=keyF b c:=by simp[keyO,h]
theorem Zty{op:Int}{chs:List Chn}(hk:KeysOk b op chs):(Zq1 b op chs).Pairwise λi j=>keyO b chs i<keyO b chs j:=by
 unfold Zq1;rw[List.pairwise_flatMap];refine⟨λpl _=>?_,?_⟩;refine List.Pairwise.imp_of_mem (R:=λi j=>i<j) (λ{i j} hi hj hij=>?_) ((List.pairwise_lt_range).filter _);obtain⟨c,hc,hs,h1⟩:=Z55.1 hi;obtain⟨d,hd,ht,h2⟩:=Z55.1 hj;have:=hk.inj i j c d hc hd hs ht (by grind);omega;grind[List.Pairwise.imp,List.pairwise_lt_range,Yn2]
theorem Zyj{op:Int}{chs:List Chn}(hk:KeysOk b op chs):sorF b op chs=Zq1 b op chs:=by
 have hj:=Zty hk;have nd1:(Zq1 b op chs).Nodup:=hj.imp λh e=>by grind
 have nd2:(idxN b op chs chs.length).Nodup:=by grind[idxN,List.nodup_range]
 have hp:(sorF b op chs).Perm (Zq1 b op chs):=(Z9k b op chs).trans ((List.perm_ext_iff_of_nodup nd2 nd1).2 λi=>(Zyi hk).symm);refine List.Perm.eq_of_pairwise (le:=λi j=>keyO b chs i<=keyO b chs j) (λi j hi hj h1 h2=>?_) (Ydr b op chs) (hj.imp λh=>by omega) hp;obtain⟨c,hc,hs⟩:=Z54.1 ((Z9k b op chs).mem_iff.1 hi);obtain⟨d,hd,ht⟩:=Z54.1 ((Zyi hk).1 hj);exact hk.inj i j c d hc hd hs ht (by grind[Yn2])
end Tj
namespace Tg
open Go
open Go.Abs (Ze)
theorem Ysm(k i o:Int):Zpm k i o=some (Zib k i o,()):=by
 have e:∀a b c:Int,Qq a b c=some (decide (b<=a)&&decide (a<=c),()):=λa b c=>by grind[Zud]
 have q:∀a b:Int,(decide (b<=a)&&decide (a<=b))=(a==b):=λa b=>by grind
 rw[Z5o];unfold Zib;simp only[e];by_cases h1:k=1;grind[bnd];by_cases h2:k=2;grind[bnd];by_cases h3:k=3;grind[bnd];by_cases h4:k=4;grind[bnd];grind[bnd,decide]
theorem Z9l(b:Bool)(j:Int)(c:Cn)(l:List Cn):(cnt b j (c::l):Int)=(bif cond b c.2.2.1 c.1==j then 1 else 0)+cnt b j l:=by unfold cnt;grind
theorem inp4(chs:List Cn)(hl:chs.length<=1000000000)(x:Int):∀(rest:List Cn) (i n a:Nat),chs.drop i=rest->i<=chs.length->rest.length+1<=n->a<=i->Zan n x chs (a:Int) (i:Int)=some ((a:Int)+cnt true x rest,())|[],i,n,a,h,hi,hn,ha=>by obtain⟨m,rfl⟩:∃m,n=m+1:=⟨n-1,by grind⟩;grind[Zj4,cnt]|c::rest,i,n,a,h,hi,hn,ha=>by obtain⟨m,rfl⟩:∃m,n=m+1:=⟨n-1,by grind⟩;obtain⟨h1,h2,h3⟩:=Za3 h;rw[Zj4];simp only[J0g,iL h1,cond_true,iN,J0l,h2,wS (show i<1000000000000 by omega),wS (show a<1000000000000 by omega)];rw[inp4 chs hl x rest (i+1) m (a+1) h3 (by omega) (by grind) (by omega),inp4 chs hl x rest (i+1) m a h3 (by omega) (by grind) (by omega),Z9l];grind
theorem out4(chs:List Cn)(hl:chs.length<=1000000000)(x:Int):∀(rest:List Cn) (i n a:Nat),chs.drop i=rest->i<=chs.length->rest.length+1<=n->a<=i->Q7 n x chs (a:Int) (i:Int)=some ((a:Int)+cnt false x rest,())|[],i,n,a,h,hi,hn,ha=>by obtain⟨m,rfl⟩:∃m,n=m+1:=⟨n-1,by grind⟩;grind[Zih,cnt]|c::rest,i,n,a,h,hi,hn,ha=>by obtain⟨m,rfl⟩:∃m,n=m+1:=⟨n-1,by grind⟩;obtain⟨h1,h2,h3⟩:=Za3 h;rw[Zih];simp only[J0g,iL h1,cond_true,iN,J0l,h2,wS (show i<1000000000000 by omega),wS (show a<1000000000000 by omega)];rw[out4 chs hl x rest (i+1) m (a+1) h3 (by omega) (by grind) (by omega),out4 chs hl x rest (i+1) m a h3 (by omega) (by grind) (by omega),Z9l];grind
theorem Z3g(ops:List Op)(chs:List Cn)(hl:chs.length<=1000000000)(x:Int):Zfp (ops,chs,()) x=some ((cnt true x chs:Int),()):=by obtain⟨n,hn⟩:=Zat;have:=inp4 chs hl x chs 0 fuel 0 rfl (by omega) (by grind) (by omega);grind[Zxt]
theorem Zyk(ops:List Op)(chs:List Cn)(hl:chs.length<=1000000000)(x:Int):Zem (ops,chs,()) x=some ((cnt false x chs:Int),()):=by obtain⟨n,hn⟩:=Zat;have:=out4 chs hl x chs 0 fuel 0 rfl (by omega) (by grind) (by omega);grind[Zue]
theorem Yn3(chs:List Cn)(c:Cn)(j:Nat)(hj:j<=chs.length)(hl:chs.length<=1000000000):∀(rest:List Cn) (i n:Nat),(chs.take j).drop i=rest->i<=j->rest.length+1<=n->Zc7 n (j:Int) chs c.1 c.2.1 c.2.2.1 c.2.2.2.1 (i:Int)=some (rest.all λd=>apart d c,())
 |[],i,n,h,hi,hn=>by obtain⟨m,rfl⟩:∃m,n=m+1:=⟨n-1,by grind⟩;grind[Zl6]|d::rest,i,n,h,hi,hn=>by
  obtain⟨m,rfl⟩:∃m,n=m+1:=⟨n-1,by grind⟩;have hlt:(chs.take j).length=j:=by grind
  obtain⟨h1,h2,h3⟩:=Za3 h;rw[List.getElem?_take_of_lt (by omega)]at h2;rw[Zl6];simp only[iL (show i<j by omega),cond_true,iN,J0l,h2,wS (show i<1000000000000 by omega),List.all_cons];rw[Yn3 chs c j hj hl rest (i+1) m h3 (by omega) (by grind)];grind[apart,inc]
theorem apart_eq(ops:List Op)(chs:List Cn)(hl:chs.length<=1000000000)(j:Nat)(c:Cn)(hc:chs[j]? = some c):Zl5 (ops,chs,()) (j:Int)=some ((chs.take j).all λd=>apart d c,()):=by obtain⟨n,hn⟩:=Zat;have hj:=(J0d.1 hc).1;have:=Yn3 chs c j (by omega) hl (chs.take j) 0 fuel rfl (by omega) (by grind);grind[Z0v]
def bu(R:List Bool):List (Bool×Unit):=R.map λb=>(b,())
theorem Ywx(R:List Bool):(bu R).length=R.length:=by simp[bu]
theorem Yds{R:List Bool}{j:Nat}(h:j<R.length):(bu R)[j]? = some ((R[j]?).getD false,()):=by unfold bu;grind
theorem Ywy(R:List Bool)(j:Nat)(b:Bool)(u:Unit):(bu R).set j (b,u)=bu (R.set j b):=by unfold bu;simp_all
theorem Z52(f:Int)(R:List Bool)(c:Cn):(rlx f R c).length=R.length:=by unfold rlx;grind
theorem Z9m(f:Int)(c:Cn)(l:List Cn)(R:List Bool):rnd f (c::l) R=rnd f l (rlx f R c):=rfl
theorem Zny(f:Int):∀(chs:List Cn) (R:List Bool),(rnd f chs R).length=R.length|[],_=>rfl|c::l,R=>by rw[Z9m,Zny f l,Z52]
theorem Ydt(f:Int)(ops:List Op)(chs:List Cn)(hl:chs.length<=1000000000)(hok:∀c∈chs,okC ops.length c=true)(r m:Nat)(hr:r<1000000000):∀(rest:List Cn) (i n:Nat) (R:List Bool),chs.drop i=rest->i<=chs.length->n=m+rest.length+1->R.length=ops.length->Xx n f ops chs (bu R) (r:Int) (i:Int)=Q8 m f ops chs (bu (rnd f rest R)) ((r+1:Nat):Int)|[],i,n,R,h,hi,hn,hR=>by subst hn;have:=Zqr h hi;rw[Zij];simp only[J0g,iG (show ¬i<chs.length by omega),cond_false,wS (show r<1000000000000 by omega)];rfl|c::rest,i,n,R,h,hi,hn,hR=>by subst hn;obtain⟨h1,h2,h3⟩:=Za3 h;have hc:=hok c (J0j h2);simp only[okC,J0e,J0h]at hc;rw[show m+(c::rest).length+1=(m+rest.length+1)+1 by grind];rw[Zij];simp only[J0g,iL h1,cond_true,iN,J0l,h2,wS (show i<1000000000000 by omega),iN' (show 0<=c.2.2.1 by omega),iN' (show 0<=c.1 by omega),Ywx,dT (show c.2.2.1.toNat<R.length by omega),dT (show c.1.toNat<R.length by omega),Yds (show c.2.2.1.toNat<R.length by omega),Yds (show c.1.toNat<R.length by omega),Ywy];rw[Ydt f ops chs hl hok r m hr rest (i+1) _ (R.set c.2.2.1.toNat true) h3 (by omega) rfl (by grind),Ydt f ops chs hl hok r m hr rest (i+1) _ R h3 (by omega) rfl hR,Z9m];unfold rlx;grind
theorem Yn4(f:Int)(ops:List Op)(chs:List Cn)(hl:chs.length<=1000000000)(hok:∀c∈chs,okC ops.length c=true)(ho:ops.length<=100000000):∀(k r n:Nat) (R:List Bool),r+k=ops.length+1->k*(chs.length+2)+1<=n->R.length=ops.length->Q8 n f ops chs (bu R) (r:Int)=some (bu (rnds f chs k R),())|0,r,n,R,hk,hn,hR=>by obtain⟨m,rfl⟩:∃m,n=m+1:=⟨n-1,by omega⟩;rw[Zii];simp only[J0g,dF (show ¬(r:Int)<=(ops.length:Int) by omega),cond_false];rfl|k+1,r,n,R,hk,hn,hR=>by rw[Nat.succ_mul]at hn;obtain⟨m,rfl⟩:∃m,n=(m+chs.length+1)+1:=⟨n-chs.length-2,by omega⟩;rw[Zii];simp only[J0g,dT (show(r:Int)<=(ops.length:Int) by omega),cond_true];have:=Ydt f ops chs hl hok r m (by omega) chs 0 _ R rfl (by omega) rfl hR;rw[show((0:Nat):Int)=0 from rfl]at this;rw[this,Yn4 f ops chs hl hok ho k (r+1) m (rnd f chs R) (by omega) (by omega) (by grind[Zny])];rfl
theorem Ydu(f:Int)(ops:List Op)(chs:List Cn)(hl:chs.length<=1000)(hok:∀c∈chs,okC ops.length c=true)(ho:ops.length<=1000):Zh0 (ops,chs,()) f=some (bu (rnds f chs (ops.length+1) (List.replicate ops.length false)),()):=by obtain⟨n,hn⟩:=Zat;have hm:(ops.length+1)*(chs.length+2)<=1001*1002:=Nat.mul_le_mul (by omega) (by omega);have:=Yn4 f ops chs (by omega) hok (by omega) (ops.length+1) 0 fuel (List.replicate ops.length false) (by omega) (by grind) (by simp);simp only[Zuf,J0g,J0l,Nat.le_refl,decide_true,Bool.true_and,dT (show 1*ops.length<=281474976710656 by omega),dT (show ops.length<=9223372036854775807 by omega),cond_true];rw[<- this];simp[bu]
variable {α:Type}
theorem Yjd(n:Nat)(c:Cn)(x y:α):(bif decide (c.1<(0:Int))then x else bif decide (c.2.2.1<(0:Int))then x else bif decide (c.1>=Int.ofNat n)then x else bif decide (c.2.2.1>=Int.ofNat n)then x else bif decide (c.2.2.2.2.1<(1:Int))then x else bif decide (c.2.2.2.2.1>(8:Int))then x else y)=bif okC n c then y else x:=by grind[okC]
theorem Yje(b:Bool)(chs:List Cn)(c:Cn)(x y:α):(bif !b then x else bif decide (c.2.1<(0:Int))then x else bif decide (c.2.1>=(cnt false c.1 chs:Int))then x else bif decide (c.2.2.2.1<(0:Int))then x else bif decide (c.2.2.2.1>=(cnt true c.2.2.1 chs:Int))then x else y)=bif b&&Zhx chs c then y else x:=by grind[Zhx]
theorem Zms(f:Int)(chs:List Cn):∀(k:Nat) (R:List Bool),(rnds f chs k R).length=R.length|0,_=>rfl|k+1,R=>by rw[rnds,Zms f chs k,Zny]
theorem Yt5(ops:List Op)(chs:List Cn)(ho:ops.length<=20)(hl:chs.length<=100)(hok:∀c∈chs,okC ops.length c=true):∀(rest:List Op) (i n:Nat),ops.drop i=rest->i<=ops.length->rest.length+1<=n->Zb3 n ops chs (i:Int)=some (v3 ops.length chs i rest,())
 |[],i,n,h,hi,hn=>by obtain⟨m,rfl⟩:∃m,n=m+1:=⟨n-1,by grind⟩;grind[Zj7,v3]|o::rest,i,n,h,hi,hn=>by
  obtain⟨m,rfl⟩:∃m,n=m+1:=⟨n-1,by grind⟩;obtain⟨h1,h2,h3⟩:=Za3 h;have hR:i<(rnds (i:Int) chs (ops.length+1) (List.replicate ops.length false)).length:=by rw[Zms];grind
  rw[Zj7];simp only[J0g,iL h1,cond_true,iN,J0l,h2,wS (show i<1000000000000 by omega),Z3g ops chs (by omega),Zyk ops chs (by omega),Ysm,Ydu (i:Int) ops chs (by omega) hok (by omega),Yds hR];rw[Yt5 ops chs ho hl hok rest (i+1) m h3 (by omega) (by grind),v3];grind
theorem Yt6(ops:List Op)(chs:List Cn)(ho:ops.length<=20)(hl:chs.length<=100)(hok:∀c∈chs,okC ops.length c=true):∀(rest:List Cn) (i n:Nat),chs.drop i=rest->i<=chs.length->rest.length+ops.length+3<=n->Zb2 n ops chs (i:Int)=some (v2 chs (chs.take i) rest&&v3 ops.length chs 0 ops,())|[],i,n,h,hi,hn=>by obtain⟨m,rfl⟩:∃m,n=m+1+1:=⟨n-2,by grind⟩;grind[Zj6,iG,v2,Zug,Yt5]|c::rest,i,n,h,hi,hn=>by obtain⟨m,rfl⟩:∃m,n=m+1:=⟨n-1,by grind⟩;obtain⟨h1,h2,h3⟩:=Za3 h;rw[Zj6];simp only[J0g,iL h1,cond_true,iN,J0l,h2,wS (show i<1000000000000 by omega),apart_eq ops chs (by omega) i c h2,Z3g ops chs (by omega),Zyk ops chs (by omega)];rw[Yje,Yt6 ops chs ho hl hok rest (i+1) m h3 (by omega) (by grind),v2,List.take_add_one,h2];grind
theorem val3(ops:List Op)(chs:List Cn)(ho:ops.length<=20)(hl:chs.length<=100):∀(rest:List Cn) (i n:Nat),chs.drop i=rest->i<=chs.length->(∀c∈chs.take i,okC ops.length c=true)->rest.length+chs.length+ops.length+5<=n->Zc8 n ops chs (i:Int)=some (rest.all (okC ops.length)&&(v2 chs [] chs&&v3 ops.length chs 0 ops),())
 |[],i,n,h,hi,hok,hn=>by obtain⟨m,rfl⟩:∃m,n=m+1+1:=⟨n-2,by grind⟩;have:=Zqr h hi;subst this;rw[List.take_length]at hok;rw[Zl9];simp only[J0g,iG (show ¬chs.length<chs.length by omega),cond_false,List.all_nil,Bool.true_and];rw[Zxv];exact Yt6 ops chs ho hl hok chs 0 m rfl (by omega) (by grind)|c::rest,i,n,h,hi,hok,hn=>by
  obtain⟨m,rfl⟩:∃m,n=m+1:=⟨n-1,by grind⟩;obtain⟨h1,h2,h3⟩:=Za3 h;rw[Zl9];simp only[iL h1,cond_true,iN,J0l,h2,wS (show i<1000000000000 by omega),Yjd,show Int.ofNat chs.length=(chs.length:Int) from rfl];rw[List.all_cons];cases hc:okC ops.length c with|false=>rfl|true=>rw[cond_true,val3 ops chs ho hl rest (i+1) m h3 (by omega) (λd hd=>by grind) (by grind)];rfl
theorem valid_eq(x:Gr)(ho:x.1.length<=20)(hl:x.2.1.length<=100):Zl7 x=some (gOkB x,()):=by obtain⟨n,hn⟩:=Zat;have:=val3 x.1 x.2.1 ho hl x.2.1 0 fuel rfl (by omega) (by simp) (by grind);rw[Z0w];exact this
theorem Yn5(x:Gr):Zhj x=some (gChk x,()):=by grind[Z0x,gChk,valid_eq]
end Tg
namespace Tg
open Go
variable {x:Gr}
theorem Ydv(h:gOkB x=true):Tj.Zhn x.1 x.2.1:=by obtain⟨ops,chs,u⟩:=x;have:=(Tj.Yg9 ops chs).2 h;exact(Tj.Yg7 ops chs).2 ⟨this.1,this.2.1⟩
theorem Zjj(h:Tj.Zhn x.1 x.2.1){i:Nat}(hi:i<x.1.length):cnt true i x.2.1<=4/\cnt false i x.2.1<=3:=by have:=(h.2.2 i _ (J0c hi)).2;grind[Zib,bnd]
theorem Zq2(h:Tj.Zhn x.1 x.2.1)(b:Bool)(op:Int):Tj.KeysOk b op x.2.1:=by
 refine⟨λi c hc hs=>?_,λi j c d hc hd hs ht hk=>?_⟩;have hm:=J0j hc;have h1:=h.1 c hm;have h2:=h.2.1.2 c hm;simp only[okC,Tj.okC,J0e,J0h]at h1;simp only[Zhx,J0e,J0h]at h2;have l1:=Zjj h (i:=c.2.2.1.toNat) (by omega);have l2:=Zjj h (i:=c.1.toNat) (by omega);grind[Tj.keyF];have hp:=h.2.1.1;grind[List.pairwise_iff_getElem,apart,inc,Tj.keyF,Tj.selF]
theorem Zu4(b:Bool)(op:Int)(chs:List Cn):∀k,k<=chs.length->(Tj.idxN b op chs k).length=cnt b op (chs.take k)
 |0,_=>rfl|k+1,h=>by
  obtain⟨c,hc⟩:∃c,chs[k]? = some c:=⟨_,J0c (by omega)⟩;have ih:=Zu4 b op chs k (by omega);have e:chs.take (k+1)=chs.take k++[c]:=by grind[List.take_add_one]
  grind[cnt,Tj.selF,Tj.Z9f,Tj.Z3f]
def joinL(b:Bool)(x:Gr)(op:Int):List (Int×Unit):=(Tj.Zq1 b op x.2.1).map λi:Nat=>((i:Int),())
theorem Zbj(h:Tj.Zhn x.1 x.2.1)(b:Bool)(op:Int):(joinL b x op).length=cnt b op x.2.1:=by unfold joinL;have:=Zu4 b op x.2.1 x.2.1.length (Nat.le_refl _);rw[List.take_length]at this;rw[List.length_map,<- Tj.Zyj (Zq2 h b op),Tj.Zyd,this]
theorem Z3h(h:Tj.Zhn x.1 x.2.1){b:Bool}{op:Int}{y:Int×Unit}(hy:y∈joinL b x op):∃i:Nat,i<x.2.1.length/\y=((i:Int),()):=by unfold joinL at hy;rw[List.mem_map]at hy;obtain⟨i,hi,rfl⟩:=hy;have:=(Tj.Zyi (Zq2 h b op)).1 hi;exact⟨i,(Tj.Yhb this).1,rfl⟩
theorem Zyl(h:Tj.Zhn x.1 x.2.1)(hl:x.2.1.length<=100){i:Nat}(hi:i<x.1.length):Yo x (i:Int)=some (joinL true x (i:Int),()):=by have hc:=Zu4 true (i:Int) x.2.1 x.2.1.length (Nat.le_refl _);rw[List.take_length]at hc;have:=Zjj h hi;rw[Z1e x _ (by omega) (by omega),Tj.Zyj (Zq2 h true _)];rfl
theorem Znz(h:Tj.Zhn x.1 x.2.1)(hl:x.2.1.length<=100){i:Nat}(hi:i<x.1.length):Ya x (i:Int)=some (joinL false x (i:Int),()):=by have hc:=Zu4 false (i:Int) x.2.1 x.2.1.length (Nat.le_refl _);rw[List.take_length]at hc;have:=Zjj h hi;rw[Zyf x _ (by omega) (by omega),Tj.Zyj (Zq2 h false _)];rfl
end Tg
