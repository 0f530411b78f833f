import Derived.Test.YtlnihcefchoofaaGreatDoorDPN
set_option linter.all false
namespace Tg
open Go.Abs (Ze Zj tmm)
def gv(k:Int):Bool:=(k==6)||decide (12<=k)
def isAt(is:List (Bool×Unit))(p:Int):Bool:=(is.getD p.toNat (false,())).1
theorem Z9v{is:List (Bool×Unit)}{p:Int}(h:p.toNat<is.length):is[p.toNat]? = some (isAt is p,()):=by grind[isAt]
section
variable (is:List (Bool×Unit)) (l:List Nd) (i:Nat) (len:Int) (g:Bool)
theorem Yd6(m k:Nat)(ps:List (Int×Unit))(p:Int×Unit)(hk:k<ps.length)(hp:ps[k]? = some p)(h0:0<=p.1)(h1:p.1.toNat<is.length)(hs:ps.length<=1000) :
    Yj (m+1) true is ps (ps.length:Int) (k:Int) l (i:Int) g l len (i:Int) true true =
    bif isAt is p.1 then Yj m true is ps (ps.length:Int) ((k+1:Nat):Int) l (i:Int) g l len (i:Int) true true else some ([],(i:Int),()):=by
  grind[Zmq,Int.natCast_nonneg,Int.toNat_natCast,Z9v,Zho]
theorem Yub(m:Nat)(ps:List (Int×Unit))(hi:is.length<=1000)(hi2:i<=1000) :
    Yj (m+1) true is ps (ps.length:Int) (ps.length:Int) l (i:Int) g l len (i:Int) true true=Z9 m l (is++[(g,())]) l len ((i+1:Nat):Int):=by
  grind[Xe,Zmq,Zho]
theorem Yow(m k pl:Nat)(ps:List (Int×Unit))(m1:Bool)(p:Int×Unit)(hk:k<pl)(hp:ps[k]? = some p)(h0:0<=p.1)(h1:p.1.toNat<is.length)(hs:pl<=1000) :
    Yw (m+1) false is ps (pl:Int) (pl:Int) (k:Int) l (i:Int) m1 g 0 (pl:Int) l len (i:Int) true =
    bif isAt is p.1 then(bif m1 then Yj m true is (ps.take pl) (pl:Int) 0 l (i:Int) g l len (i:Int) true true else some ([],(i:Int),()))
    else Yw m false is ps (pl:Int) (pl:Int) ((k+1:Nat):Int) l (i:Int) m1 g 0 (pl:Int) l len (i:Int) true:=by
  grind[Zmp,Int.natCast_nonneg,Int.toNat_natCast,Z9v,Zho]
theorem Yuc(m pl:Nat)(ps:List (Int×Unit))(m1:Bool)(hi:is.length<=1000)(hi2:i<=1000) :
    Yw (m+1) false is ps (pl:Int) (pl:Int) (pl:Int) l (i:Int) m1 g 0 (pl:Int) l len (i:Int) true=Z9 m l (is++[(g,())]) l len ((i+1:Nat):Int):=by
  grind[Xe,Zmp,Zho]
theorem t40(R:Option (List (Bool×Unit)×Int×Unit)->Prop)(m:Nat)(A B:Int)(two:Bool)(hA:0<=A/\A.toNat<is.length)(hB:two=true->0<=B/\B.toNat<is.length)(hi:is.length<=1000)(hi2:i<=1000)
    (hT:(isAt is A&&(!two||isAt is B))=true -> ∀m',m<=m' -> R (Z9 m' l (is++[(g,())]) l len ((i+1:Nat):Int)))
    (hF:(isAt is A&&(!two||isAt is B))=false->R (some ([],(i:Int),()))) :
    R (Yj (m+3) true is ([(A,()),(B,())].take (bif two then 2 else 1)) (((bif two then 2 else 1:Nat)):Int) 0 l (i:Int) g l len (i:Int) true true):=by
  cases two with|false=>have s0:=Yd6 is l i len g (m+2) 0 [(A,())] (A,()) (by simp) rfl hA.1 hA.2 (by simp);grind[Yub]|true=>have s0:=Yd6 is l i len g (m+2) 0 [(A,()),(B,())] (A,()) (by simp) rfl hA.1 hA.2 (by simp);have s1:=Yd6 is l i len g (m+1) 1 [(A,()),(B,())] (B,()) (by simp) rfl (hB rfl).1 (hB rfl).2 (by simp);have s2:=Yub is l i len g m [(A,()),(B,())] hi hi2;grind
theorem t28(R:Option (List (Bool×Unit)×Int×Unit)->Prop)(m:Nat)(A B:Int)(two m1:Bool)(hA:0<=A/\A.toNat<is.length)(hB:two=true->0<=B/\B.toNat<is.length)(hi:is.length<=1000)(hi2:i<=1000)
    (hT:((!isAt is A&&(!two || !isAt is B))||(m1&&(isAt is A&&(!two||isAt is B))))=true -> ∀m',m<=m' -> R (Z9 m' l (is++[(g,())]) l len ((i+1:Nat):Int)))
    (hF:((!isAt is A&&(!two || !isAt is B))||(m1&&(isAt is A&&(!two||isAt is B))))=false->R (some ([],(i:Int),()))) :
    R (Yw (m+6) false is [(A,()),(B,())] (((bif two then 2 else 1:Nat)):Int) (((bif two then 2 else 1:Nat)):Int) 0 l (i:Int) m1 g 0 (((bif two then 2 else 1:Nat)):Int) l len (i:Int) true):=by
  have go40:∀mm,m<=mm->(!isAt is A&&(!two || !isAt is B))=false->m1=true->R (Yj (mm+3) true is ([(A,()),(B,())].take (bif two then 2 else 1)) (((bif two then 2 else 1:Nat)):Int) 0 l (i:Int) g l len (i:Int) true true):=λmm hm h1 h2=>t40 is l i len g R mm A B two hA hB hi hi2 (λh m' hm' => hT (by grind) m' (by omega)) (λh=>hF (by grind));have pls:(bif two then 2 else 1:Nat)<=1000:=by grind
  have plp:0<(bif two then 2 else 1:Nat):=by grind
  have s0:=Yow is l i len g (m+5) 0 (bif two then 2 else 1) [(A,()),(B,())] m1 (A,()) plp rfl hA.1 hA.2 pls;show R (Yw (m+5+1) false is [(A,()),(B,())] (((bif two then 2 else 1:Nat)):Int) (((bif two then 2 else 1:Nat)):Int) ((0:Nat):Int) l (i:Int) m1 g 0 (((bif two then 2 else 1:Nat)):Int) l len (i:Int) true);rw[s0];cases hv:isAt is A with|true=>grind|false => cases two with|false=>grind[Yuc]|true=>have s1:=Yow is l i len g (m+4) 1 2 [(A,()),(B,())] m1 (B,()) (by omega) rfl (hB rfl).1 (hB rfl).2 (by omega);show R (Yw (m+4+1) false is [(A,()),(B,())] ((2:Nat):Int) ((2:Nat):Int) ((1:Nat):Int) l (i:Int) m1 g 0 ((2:Nat):Int) l len (i:Int) true);grind[Yuc]
theorem t14(R:Option (List (Bool×Unit)×Int×Unit)->Prop)(m:Nat)(A B:Int)(two m0 m1:Bool)(hA:0<=A/\A.toNat<is.length)(hB:two=true->0<=B/\B.toNat<is.length)(hi:is.length<=1000)(hi2:i<=1000)
    (hT:((m0&&(!isAt is A&&(!two || !isAt is B)))||(m1&&(isAt is A&&(!two||isAt is B))))=true -> ∀m',m<=m' -> R (Z9 m' l (is++[(g,())]) l len ((i+1:Nat):Int)))
    (hF:((m0&&(!isAt is A&&(!two || !isAt is B)))||(m1&&(isAt is A&&(!two||isAt is B))))=false->R (some ([],(i:Int),()))) :
    R (Yi (m+7) l is (i:Int) m0 m1 g [(A,()),(B,())] (((bif two then 2 else 1:Nat)):Int) l len (i:Int)):=by
  show R (Yi (m+6+1) l is (i:Int) m0 m1 g [(A,()),(B,())] (((bif two then 2 else 1:Nat)):Int) l len (i:Int));simp only[Zx9,J0l,J0g,List.drop_zero];cases m0 with|true=>exact t28 is l i len g R m A B two m1 hA hB hi hi2 (λh=>hT (by grind)) (λh=>hF (by grind))|false => cases m1 with|true=>exact t40 is l i len g R (m+3) A B two hA hB hi hi2 (λh m' hm=>hT (by grind) m' (by omega)) (λh=>hF (by grind))|false=>grind
end
def gAt(l:List Nd)(p:Int):Bool:=gv (l.getD p.toNat (0,0,0,0,0,())).1
def fitS(l:List Nd)(x:Nd):Bool :=
 if x.1<=4 then true
 else if x.1=5 then !gAt l x.2.2.1
 else if x.1=6 then gAt l x.2.2.1
 else if x.1=16∨x.1=17 then gAt l x.2.2.1==gAt l x.2.2.2.1
 else if 18<=x.1 then gAt l x.2.2.1&&gAt l x.2.2.2.1
 else !gAt l x.2.2.1 && !gAt l x.2.2.2.1
def X9(l:List Nd):Nat->List Nd->Nat|i,[]=>i|i,x::r=>bif fitS l x then X9 l (i+1) r else i
def okN(i:Nat)(x:Nd):Prop:=1<=x.1/\x.1<=19/\0<=x.2.2.1/\x.2.2.1<=i/\0<=x.2.2.2.1/\x.2.2.2.1<=i/\(4<x.1->x.2.2.1<i)/\(6<x.1->x.2.2.2.1<i)
def gvs(l:List Nd):List (Bool×Unit):=l.map λx=>(gv x.1,())
theorem Yss(l:List Nd):(gvs l).length=l.length:=by simp[gvs]
theorem Zsn{l:List Nd}{i:Nat}{p:Int}(h0:0<=p)(h:p<i)(hi:i<=l.length):isAt (gvs (l.take i)) p=gAt l p:=by unfold isAt gAt gvs;grind
theorem Z3m(l:List Nd)(hl:l.length<=1000)(hok:∀i x,l[i]? = some x->okN i x):∀(rest:List Nd) (i n:Nat),i+rest.length=l.length->l.drop i=rest->9*rest.length+1<=n ->
    Z9 n l (gvs (l.take i)) l (l.length:Int) (i:Int)=some (bif X9 l i rest==l.length then gvs l else[],(X9 l i rest:Int),())
  |[],i,n,hlen,hd,hn=>by obtain⟨m,rfl⟩:∃m,n=m+1:=⟨n-1,by omega⟩;grind[Zoo,X9]|x::rest,i,n,hlen,hd,hn=>by
   simp only[J0p]at hlen hn;obtain⟨m,rfl⟩:∃m,n=m+9:=⟨n-9,by omega⟩;have hx:l[i]? = some x:=by have:=congrArg (λz=>z[0]?) hd;grind
   have hd' : l.drop (i+1)=rest:=by have:=congrArg (List.drop 1) hd;grind[List.drop_drop]
   have hlt:i<l.length:=by omega
   obtain⟨k1,k2,a0,a1,b0,b1,a2,b2⟩:=hok i x hx;have htl:(gvs (l.take i)).length=i:=by grind[Yss]
   have happ:gvs (l.take i)++[(gv x.1,())]=gvs (l.take (i+1)):=by grind[gvs]
   have ih:=λm' (h:m<=m')=>Z3m l hl hok rest (i+1) m' (by omega) hd' (by omega);have next:∀m',m<=m' -> fitS l x=true->Z9 m' l (gvs (l.take i)++[(gv x.1,())]) l (l.length:Int) ((i+1:Nat):Int)=some (bif X9 l i (x::rest)==l.length then gvs l else[],(X9 l i (x::rest):Int),()):=by grind[X9]
   have stop:fitS l x=false->(some (([]:List (Bool×Unit)),(i:Int),()):Option (List (Bool×Unit)×Int×Unit))=some (bif X9 l i (x::rest)==l.length then gvs l else[],(X9 l i (x::rest):Int),()):=by grind[X9]
   -- a node with parts
   have node:∀(g two m0 m1:Bool),g=gv x.1->4<x.1->(two=true->6<x.1) ->
       fitS l x=((m0&&(!gAt l x.2.2.1&&(!two || !gAt l x.2.2.2.1)))||(m1&&(gAt l x.2.2.1&&(!two||gAt l x.2.2.2.1)))) ->
       Yi (m+8) l (gvs (l.take i)) (i:Int) m0 m1 g [(x.2.2.1,()),(x.2.2.2.1,())] (((bif two then 2 else 1:Nat)):Int) l (l.length:Int) (i:Int)=some (bif X9 l i (x::rest)==l.length then gvs l else[],(X9 l i (x::rest):Int),()):=by
     intro g two m0 m1 hg h4 h6 hf;subst hg;have eA:=Zsn a0 (a2 h4) (show i<=l.length by omega);refine t14 (gvs (l.take i)) l i (l.length:Int) (gv x.1) (λz=>z=_) (m+1) x.2.2.1 x.2.2.2.1 two m0 m1 ⟨a0,by grind⟩ (λh=>⟨b0,by grind⟩) (by omega) (by omega) (λh m' hm=>?_) (λh=>?_);grind[Zsn];grind[Zsn]
   rw[show m+9=(m+8)+1 from rfl,Zoo];simp only[dT (show(i:Int)<(l.length:Int) by omega),cond_true,dT (Int.natCast_nonneg i),J0l,hx];by_cases h4:x.1<=4;grind[gv,Xe,fitS,Zho];simp only[dF h4,cond_false];by_cases h5:x.1=5;have e5:(x.1==5)=true:=by grind
   simp only[e5,cond_true];exact node false false true false (by rw[h5];rfl) (by omega) (λh=>by cases h) (by unfold fitS;grind);have e5:(x.1==5)=false:=by grind
   simp only[e5,cond_false];by_cases h6:x.1=6;have e6:(x.1==6)=true:=by grind
   simp only[e6,cond_true];exact node true false false true (by rw[h6];rfl) (by omega) (λh=>by cases h) (by unfold fitS;grind);have e6:(x.1==6)=false:=by grind
   simp only[e6,cond_false];have hgF:x.1<=11->false=gv x.1:=λh=>by grind[gv]
   have hgT:¬x.1<=11->true=gv x.1:=λh=>by grind[gv]
   by_cases h11:x.1<=11;simp only[dT h11,cond_true];exact node false true true false (hgF h11) (by omega) (λ_=>by omega) (by unfold fitS;grind);simp only[dF h11,cond_false];by_cases h15:x.1<=15;simp only[dT h15,cond_true];exact node true true true false (hgT h11) (by omega) (λ_=>by omega) (by unfold fitS;grind);simp only[dF h15,cond_false];by_cases h17:x.1<=17;simp only[dT h17,cond_true];exact node true true true true (hgT h11) (by omega) (λ_=>by omega) (by
    unfold fitS;grind)
   simp only[dF h17,cond_false];exact node true true false true (hgT h11) (by omega) (λ_=>by omega) (by unfold fitS;grind)
theorem Z9w(k:Int):Ze3 k=some (gv k,()):=by grind[Z0r,gv]
theorem Zjo{l:List Nd}{p:Nat}(h:p<l.length):l[p]? = some (l.getD p (0,0,0,0,0,())):=by grind
theorem Yst{l:List Nd}{i:Nat}{x:Nd}(hx:l[i]? = some x)(hok:okN i x):Zpk l (i:Int)=some (fitS l x,()):=by
 obtain⟨k1,k2,a0,a1,b0,b1,a2,b2⟩:=hok;have hi:i<l.length:=(J0d.1 hx).1;have hA:x.2.2.1.toNat<l.length:=by omega
 have hB:x.2.2.2.1.toNat<l.length:=by omega
 rw[Z5m];unfold fitS;simp only[dT (Int.natCast_nonneg i),cond_true,J0l,hx,dT a0,dT b0,Zjo hA,Zjo hB,Z9w];grind[gAt]
theorem Zy0(l:List Nd)(hl:l.length<=1000)(hok:∀i x,l[i]? = some x->okN i x):∀(rest:List Nd) (i n:Nat),i+rest.length=l.length->l.drop i=rest->rest.length+1<=n ->
    Zc4 n l (i:Int)=some ((X9 l i rest:Int),())
  |[],i,n,hlen,hd,hn=>by obtain⟨m,rfl⟩:∃m,n=m+1:=⟨n-1,by omega⟩;grind[Zl3,X9]|x::rest,i,n,hlen,hd,hn=>by
   simp only[J0p]at hlen hn;obtain⟨m,rfl⟩:∃m,n=m+1:=⟨n-1,by omega⟩;have hx:l[i]? = some x:=by have:=congrArg (λz=>z[0]?) hd;grind
   have hd' : l.drop (i+1)=rest:=by have:=congrArg (List.drop 1) hd;grind[List.drop_drop]
   have ih:=Zy0 l hl hok rest (i+1) m (by omega) hd' (by omega);grind[Zl3,Yst,Zho,X9]
theorem Yox:∀(rest:List Nd) (acc acc' : List (Int×Int)),Good acc->runN rest acc=some acc' -> ∀j x,rest[j]? = some x->okN (acc.length+j) x
 |[],acc,acc',hg,h,j,x,hj=>by grind|y::rest,acc,acc',hg,h,j,x,hj=>by
  simp only[runN]at h;split at h;rename_i a ha;have key:(∃e:Int×Int,a=acc++[e]/\1<=e.1/\e.1<=acc.length+1/\1<=e.2/\e.2<=acc.length+1)/\okN acc.length y:=by
   have rk:∀{a b:Int},Qt y a b=true->1<=y.1/\y.1<=19/\y.2.2.1=a/\y.2.2.2.1=b:=by grind[Qt]
   have kc:(cntK y.1=0↔y.1<=4)/\(cntK y.1=1↔4<y.1/\y.1<=6):=by grind[cntK]
   unfold X8 at ha;split at ha;rename_i c0;split at ha;rename_i hr;obtain⟨r1,r2,r3,r4⟩:=rk hr;refine⟨⟨_,(J0a ha).symm,by omega,by omega,by omega,by omega⟩,r1,r2,by omega,by omega,by omega,by omega,λh=>?_,λh=>?_⟩;grind;grind;grind;rename_i c0;split at ha;cases ha;rename_i hne;have hgl:=hg (acc.length-1) (by omega);split at ha;rename_i c1;split at ha;rename_i hr;obtain⟨r1,r2,r3,r4⟩:=rk hr;refine⟨⟨_,(J0a ha).symm,by grind,by grind,by grind,by grind⟩,r1,r2,by omega,by omega,by omega,by omega,λh=>by omega,λh=>?_⟩;grind;grind;split at ha;cases ha;rename_i hf;split at ha;rename_i hr;obtain⟨r1,r2,r3,r4⟩:=rk hr;have hgf:=hg ((acc.length:Int)-1-(gt acc (acc.length-1)).1).toNat (by omega);exact⟨⟨_,(J0a ha).symm,by grind,by grind,by grind,by grind⟩,r1,r2,by omega,by omega,by omega,by omega,λh=>by omega,λh=>by omega⟩;grind
  obtain⟨⟨e,rfl,he⟩,hy⟩:=key;cases j with|zero=>grind|succ j=>have:=Yox rest (acc++[e]) acc' (hg.app he) h j x (by grind);grind
  grind
theorem err0{l:List Nd}(h:errN l=0):l.length<=60/\0<l.length /\ ∀i x,l[i]? = some x->okN i x:=by
 unfold errN at h;split at h;omega;split at h;omega;rename_i h60 acc hr;cases ho:oneN acc with
 |false=>grind|true =>
  have hlen:acc.length=l.length:=by simpa using Zq8 l [] acc hr
  have:=Zyz ho;refine⟨by omega,by omega,λi x hx=>?_⟩;simpa using Yox l [] acc Zyx hr i x hx
def Zgw(l:List Nd):Nat:=X9 l 0 l
theorem Zy1(l:List Nd):∀(rest:List Nd) (i:Nat),X9 l i rest<=i+rest.length
 |[],i=>Nat.le_refl _|x::rest,i=>by
  simp only[X9,J0p];cases fitS l x with|false=>grind|true=>have:=Zy1 l rest (i+1);grind
theorem Ysu{l:List Nd}(h:errN l=0):Zpo l=some (bif Zgw l==l.length then gvs l else[],(Zgw l:Int),()):=by obtain⟨h60,h1,hok⟩:=err0 h;obtain⟨n,hn⟩:=Zat;have hok' : ∀i x,l[i]? = some x->okN i x:=λi x hx=>hok i x hx;refine(Z5y l).trans ?_;exact Z3m l (by omega) hok' l 0 fuel (by simp) (by simp) (by grind)
theorem Yoy{l:List Nd}(h:errN l=0):Zl2 l=some ((Zgw l:Int),()):=by obtain⟨h60,h1,hok⟩:=err0 h;obtain⟨n,hn⟩:=Zat;refine(Z0s l).trans ?_;exact Zy0 l (by omega) hok l 0 fuel (by simp) (by simp) (by grind)
def ofK(l:List Nd):Bool×Int×Int×Unit:=if errN l=0 then(if Zgw l<l.length then(false,(Zgw l:Int),42,())else(gAt l ((l.length-1:Nat):Int),((l.length-1:Nat):Int),0,()))else(false,0,errN l,())
theorem Yud{a b:Int}(h:a=b):(a != b)=false:=by simp[h]
theorem Yoz(l:List Nd):Zmr l=some (ofK l):=by
 rw[Ydn];unfold ofK;simp only[Zsm];by_cases h:errN l=0;obtain⟨h60,h1,hok⟩:=err0 h;simp only[Yud h,cond_false,if_pos h,Ysu h,J0g];by_cases hw:Zgw l<l.length;grind;have he:Zgw l=l.length:=by grind[Zy1,Zgw]
 have hwr:Go.IntKind.wrap Go.IntKind.i64 ((Zgw l:Int)-1)=((l.length-1:Nat):Int):=by grind[w64]
 have hg:(gvs l)[l.length-1]? = some (gAt l ((l.length-1:Nat):Int),()):=by grind[gvs,gAt]
 simp_all;grind
theorem Yw2(l:List Nd):Zxr l=some (ofK l):=by
 rw[Yc3];unfold ofK;simp only[Z3l];by_cases h:errN l=0;obtain⟨h60,h1,hok⟩:=err0 h;simp only[Yud h,cond_false,if_pos h,Yoy h,J0g];by_cases hw:Zgw l<l.length;grind;have hwr:Go.IntKind.wrap Go.IntKind.i64 ((l.length:Int)-1)=((l.length-1:Nat):Int):=by grind[w64]
 simp only[dF (show ¬(Zgw l:Int)<(l.length:Int) by omega),cond_false,if_neg hw,hwr,dT (Int.natCast_nonneg (l.length-1)),cond_true,J0l,Zjo (show l.length-1<l.length by omega),Z9w];rfl;grind
def Ze5(l:List Nd)(t:Bool):Int×Int×Unit:=bif (ofK l).2.2.1==0 then(bif !((ofK l).1==t)then((ofK l).2.1,42,())else(ofK l).2)else(ofK l).2
theorem Z9x(l:List Nd)(t:Bool):Zjf l t=some (Ze5 l t):=by grind[Z51,Ze5,Yoz]
theorem Z9y(l:List Nd)(t:Bool):Zjc l t=some (Ze5 l t):=by grind[Z5n,Ze5,Yw2]
theorem Ysv(l:List Nd):Zjg l=some (Ze5 l false):=by grind[Zya,Z9x]
theorem Yjh(l:List Nd):Zhm l=some (Ze5 l true):=by grind[Z1c,Z9x]
theorem Zm5{l:List Nd}{t:Bool}(hl:0<l.length)(h:errN l=0):0<=(Ze5 l t).1/\(Ze5 l t).1.toNat<l.length:=by grind[ofK,Ze5]
abbrev IL:=List (Int×Unit)
def in03(x:Int×Unit):Bool:=decide (0<=x.1)&&decide (x.1<=3)
def Zeq(l:IL):Nat->IL->Bool|_,[]=>false|i,x::r=>(l.take i).any (λy=>y.1==x.1)||Zeq l (i+1) r
def srcE(l:IL)(join:Bool):Int:=if 4<l.length then 4 else if l.length=0 then 8 else if (join && !(l.length==2))=true then 8 else if l.all in03=true then(bif Zeq l 0 l then 43 else 0)else 8
theorem Z9z:∀(l:IL) (acc:List Int),(Zfc l acc).length<=acc.length+l.length|[],acc=>Nat.le_refl _|x::l,acc=>by simp only[Zfc,J0p];have:=Z9z l (if acc.contains x.1 then acc else acc++[x.1]);grind
theorem Z3n(l:IL):∀(rest:IL) (i:Nat),l.drop i=rest->i+rest.length=l.length->decide ((Zfc rest ((l.take i).map (·.1))).length<l.length)=Zeq l i rest
 |[],i,hd,hl=>by grind[Zfc,Zeq]|x::rest,i,hd,hl=>by
  simp only[J0p]at hl;have hx:l[i]? = some x:=by have:=congrArg (λz=>z[0]?) hd;grind
  have hd' : l.drop (i+1)=rest:=by have:=congrArg (List.drop 1) hd;grind[List.drop_drop]
  rw[Bool.eq_iff_iff,J0h];simp only[Zfc,Zeq];have hc:((l.take i).map (·.1)).contains x.1=(l.take i).any (λy=>y.1==x.1):=by grind
  rw[hc];cases ha:(l.take i).any (λy=>y.1==x.1)with
  |true=>grind[Z9z]|false =>
   simp only[J0r,if_false,Bool.false_or];have e:(l.take i).map (·.1)++[x.1]=(l.take (i+1)).map (·.1):=by grind
   rw[e];have:=Z3n l rest (i+1) hd' (by omega);grind
theorem Z90{l:IL}(h4:l.length<=4)(h:l.all in03=true):Z8 l=some (Int.ofNat (Zfc l []).length,()):=by grind[Z8,in64,in03]
theorem Z91(l:IL)(h4:l.length<=4):∀(rest:IL) (i n:Nat),i+rest.length=l.length->l.drop i=rest->(l.take i).all in03=true->rest.length+1<=n ->
    Qx n l (l.length:Int) (i:Int) l false=some (bif rest.all in03 then(bif Zeq l 0 l then 43 else 0)else 8,())
  |[],i,n,hlen,hd,ht,hn=>by obtain⟨m,rfl⟩:∃m,n=m+1:=⟨n-1,by omega⟩;simp only[List.length_nil,Nat.add_zero]at hlen;subst hlen;rw[List.take_length]at ht;have hdd:=Z3n l l 0 (by simp) (by simp);grind[Zfj,Z90]|x::rest,i,n,hlen,hd,ht,hn=>by
   simp only[J0p]at hlen hn;obtain⟨m,rfl⟩:∃m,n=m+1:=⟨n-1,by omega⟩;have hx:l[i]? = some x:=by have:=congrArg (λz=>z[0]?) hd;grind
   have hd' : l.drop (i+1)=rest:=by have:=congrArg (List.drop 1) hd;grind[List.drop_drop]
   simp only[Zfj,dT (show(i:Int)<(l.length:Int) by omega),cond_true,dT (Int.natCast_nonneg i),J0l,hx,List.all_cons];by_cases h0:x.1<0;grind[in03];by_cases h4' : x.1>=4;grind[in03];have e:in03 x=true:=by unfold in03;grind
   have ih:=Z91 l h4 rest (i+1) m (by omega) hd' (by grind) (by omega);grind[Zho]
theorem Ysw(l:IL)(join:Bool):Zfd l join=some (srcE l join,()):=by
 obtain⟨n,hn⟩:=Zat;rw[Zqy];unfold srcE;by_cases h4:4<l.length;grind;have hl:=Z91 l (by omega) l 0 fuel (by simp) (by simp) (by simp) (by grind);grind
theorem Z1j{l:IL}{k i:Nat}(hi:i<=l.length)(hk:k<i)(p:Int×Unit->Bool):((l.take i).drop k).any p=(p (l[k]'(by omega))||((l.take i).drop (k+1)).any p):=by grind[List.drop_eq_getElem_cons]
theorem Z3o(l:IL)(h4:l.length<=4)(i:Nat)(x:Int×Unit)(hx:l[i]? = some x):∀(c k n:Nat),k+c=i->c<n ->
    ∃m',n-c-1<=m' /\ Zav n l (i:Int) (k:Int)=bif ((l.take i).drop k).any (λy=>y.1==x.1)then some (43,())else Ql m' l ((i+1:Nat):Int)
  |0,k,n,hk,hn=>by obtain⟨m,rfl⟩:∃m,n=m+1:=⟨n-1,by omega⟩;have hi:i<l.length:=(J0d.1 hx).1;simp only[Nat.add_zero]at hk;subst hk;refine⟨m,by omega,?_⟩;grind[Zhh,Zho]|c+1,k,n,hk,hn=>by
   obtain⟨m,rfl⟩:∃m,n=m+1:=⟨n-1,by omega⟩;have hi:i<l.length:=(J0d.1 hx).1;have hkl:k<l.length:=by omega
   obtain⟨m',h1,h2⟩:=Z3o l h4 i x hx c (k+1) m (by omega) (by omega);refine⟨m',by omega,?_⟩;rw[Z1j (by omega) (by omega)];simp only[Zhh,dT (show(k:Int)<(i:Int) by omega),cond_true,dT (Int.natCast_nonneg k),dT (Int.natCast_nonneg i),J0l,J0c hkl,hx,Zho (show k<=1000000 by omega),h2];grind
theorem Z3p(l:IL)(h4:l.length<=4):∀(rest:IL) (i n:Nat),i+rest.length=l.length->l.drop i=rest->10*rest.length+1<=n ->
    Ql n l (i:Int)=some (bif Zeq l i rest then 43 else 0,())
  |[],i,n,hlen,hd,hn=>by obtain⟨m,rfl⟩:∃m,n=m+1:=⟨n-1,by omega⟩;grind[Zhg,Zeq]|x::rest,i,n,hlen,hd,hn=>by
   simp only[J0p]at hlen hn;obtain⟨m,rfl⟩:∃m,n=m+1:=⟨n-1,by omega⟩;have hx:l[i]? = some x:=by have:=congrArg (λz=>z[0]?) hd;grind
   have hd' : l.drop (i+1)=rest:=by have:=congrArg (List.drop 1) hd;grind[List.drop_drop]
   obtain⟨m',h1,h2⟩:=Z3o l h4 i x hx i 0 m (by omega) (by omega);have ih:=Z3p l h4 rest (i+1) m' (by omega) hd' (by omega);grind[Zhg,Zeq]
theorem Yhs(l:IL)(h4:l.length<=4):∀(rest:IL) (i n:Nat),i+rest.length=l.length->l.drop i=rest->rest.length+100<=n ->
    Q6 n l (i:Int)=some (bif rest.all in03 then(bif Zeq l 0 l then 43 else 0)else 8,())
  |[],i,n,hlen,hd,hn=>by obtain⟨m,rfl⟩:∃m,n=m+2:=⟨n-2,by omega⟩;simp only[List.length_nil,Nat.add_zero]at hlen;subst hlen;have ho:=Z3p l h4 l 0 m (by simp) (by simp) (by omega);grind[Zig,Zse]|x::rest,i,n,hlen,hd,hn=>by
   simp only[J0p]at hlen hn;obtain⟨m,rfl⟩:∃m,n=m+1:=⟨n-1,by omega⟩;have hx:l[i]? = some x:=by have:=congrArg (λz=>z[0]?) hd;grind
   have hd' : l.drop (i+1)=rest:=by have:=congrArg (List.drop 1) hd;grind[List.drop_drop]
   have ih:=Yhs l h4 rest (i+1) m (by omega) hd' (by omega);simp only[Zig,J0g,dT (show(i:Int)<(l.length:Int) by omega),cond_true,dT (Int.natCast_nonneg i),J0l,hx,Zho (show i<=1000000 by omega),ih,List.all_cons];grind[in03]
theorem Yo0(l:IL)(join:Bool):Xr l join=some (srcE l join,()):=by
 obtain⟨n,hn⟩:=Zat;rw[Zuc];unfold srcE;by_cases h4:4<l.length;grind;have hl:=Yhs l (by omega) l 0 fuel (by simp) (by simp) (by grind);grind
abbrev Qr:=Int×List (Int×Int×Int×Int×Int×Unit)×List (Int×Unit)×Bool×List (Int×Int×Int×Int×Int×Unit)×Int×Int×Int×Bool×Int×Unit
def fitW(w:Int×Int×Int×Unit):Bool:=!decide (w.2.1<1)&&(!decide (w.2.1>1073741824)&&(bif w.1==2 then decide (w.2.2.1>=1)&&(decide (w.2.2.1<=w.2.1)&&decide (w.2.1<=Go.IntKind.wrap Go.IntKind.i64 (16*w.2.2.1)))else((w.1==1||w.1==3)&&w.2.2.1==0)))
theorem Yw3(w:Int×Int×Int×Unit):Zgn w=some (fitW w,()):=by grind[Z5k,fitW]
theorem Yue(w:Int×Int×Int×Unit):Yh w=some (bif fitW w then 0 else 8,()):=by grind[Zd5,fitW]
def Z92(q:Qr):Int:=bif srcE q.2.2.1 q.2.2.2.1==0 then(bif fitW (q.2.2.2.2.2.1,q.2.2.2.2.2.2.1,q.2.2.2.2.2.2.2.1,()) && !(q.2.2.2.1&&q.2.2.2.2.2.1 != 1)then 0 else 8)else srcE q.2.2.1 q.2.2.2.1
def Zpr(q:Qr):Int:=bif decide ((q.2.2.2.2.1.length:Int)>0)&&errN q.2.2.2.2.1 != 0 then errN q.2.2.2.2.1 else Z92 q
def chkC(q:Qr):Int :=
 bif decide (q.1<1)||(decide (q.1>4)||(decide (q.2.2.2.2.2.2.2.2.2.1<1)||decide (q.2.2.2.2.2.2.2.2.2.1>2)))then 8
 else bif q.1==1 then(bif decide ((q.2.1.length:Int)>0)then 8 else Zpr q)
 else bif errN q.2.1 != 0 then errN q.2.1 else Zpr q
theorem Yw4(m:Nat)(q:Qr):Zdc (m+1) q.2.2.1 q.2.2.2.1 q.2.2.2.2.2.1 q.2.2.2.2.2.2.1 q.2.2.2.2.2.2.2.1=some (Z92 q,()):=by grind[Zqz,Ysw,Yue,Z92]
theorem Y0i(m:Nat)(q:Qr):Zd6 (m+2) q.2.2.1 q.2.2.2.1 q.2.2.2.2.1 q.2.2.2.2.2.1 q.2.2.2.2.2.2.1 q.2.2.2.2.2.2.2.1=some (Zpr q,()):=by grind[Zsh,Zsm,Yw4,Zpr]
theorem Yd7(q:Qr):Zh1 q=some (chkC q,()):=by grind[Zat,Y0i,Zuj,chkC,Zsm]
theorem Zu7(x:Int):(x != 0) = !(x==0):=rfl
theorem Z93(q:Qr):Zhi q=some (chkC q,()):=by
 rw[Z0q];unfold chkC Zpr Z92;simp only[Z3l,Yo0,Yw3,J0g,Zu7];have hb:(q.1 != 1) = !(q.1==1):=rfl;rw[hb];cases decide (q.1<1)with|true=>rfl|false =>
 cases decide (q.1>4)with|true=>rfl|false =>
 cases decide (q.2.2.2.2.2.2.2.2.2.1<1)with|true=>rfl|false =>
 grind
def atOf(l:List Nd)(p:Int):Int:=(l.getD p.toNat (0,0,0,0,0,())).2.2.2.2.1
def whQ(l:List Nd)(t:Bool)(r:Int×Int×Unit):Int×Int×Unit:=bif l.length==0 then r else bif (Ze5 l t).2.1==0 then r else(atOf l (Ze5 l t).1,(Ze5 l t).2.1,())
def chkQ(q:Qr):Int×Int×Unit:=bif chkC q==0 then whQ q.2.1 false (whQ q.2.2.2.2.1 true (0,0,()))else(0,chkC q,())
theorem Yo1{q:Qr}(h:chkC q=0):(q.2.1.length≠0->errN q.2.1=0)/\(q.2.2.2.2.1.length≠0->errN q.2.2.2.2.1=0)/\fitW (q.2.2.2.2.2.1,q.2.2.2.2.2.2.1,q.2.2.2.2.2.2.2.1,())=true:=by
 have hw:∀q:Qr,Zpr q=0->(q.2.2.2.2.1.length≠0->errN q.2.2.2.2.1=0)/\fitW (q.2.2.2.2.2.1,q.2.2.2.2.2.2.1,q.2.2.2.2.2.2.2.1,())=true:=by grind[Zpr,Z92]
 grind[chkC]
theorem Zio(q:Qr):Yl q=some (chkQ q):=by
 rw[Zyb];unfold chkQ;simp only[Yd7,Zu7];by_cases h:chkC q=0;obtain⟨ha,hw,_⟩:=Yo1 h;have e:(chkC q==0)=true:=by grind
 simp only[e,Bool.not_true,cond_false,cond_true,Ysv,Yjh,J0g];have wh:∀{α:Type} (f:Int×Int×Unit->α),True:=λ_=>trivial;unfold whQ;have e1:((q.2.1.length:Int)==0)=(q.2.1.length==0):=by grind
 have e2:((q.2.2.2.2.1.length:Int)==0)=(q.2.2.2.2.1.length==0):=by grind
 rw[e1,e2];by_cases h1:q.2.1.length=0;have f1:(q.2.1.length==0)=true:=by grind
 simp only[f1,cond_true];by_cases h2:q.2.2.2.2.1.length=0;grind;have f2:(q.2.2.2.2.1.length==0)=false:=by grind
 obtain⟨w1,w2⟩:=Zm5 (t:=true) (show 0<q.2.2.2.2.1.length by omega) (hw h2);simp only[f2,cond_false,dT w1,cond_true,Zjo w2];cases((Ze5 q.2.2.2.2.1 true).2.1==0)<;>rfl;have f1:(q.2.1.length==0)=false:=by grind
 obtain⟨v1,v2⟩:=Zm5 (t:=false) (show 0<q.2.1.length by omega) (ha h1);simp only[f1,cond_false,dT v1,cond_true,Zjo v2];by_cases h2:q.2.2.2.2.1.length=0;have f2:(q.2.2.2.2.1.length==0)=true:=by grind
 simp only[f2,cond_true];cases((Ze5 q.2.1 false).2.1==0)<;>rfl;have f2:(q.2.2.2.2.1.length==0)=false:=by grind
 obtain⟨w1,w2⟩:=Zm5 (t:=true) (show 0<q.2.2.2.2.1.length by omega) (hw h2);simp only[f2,cond_false,dT w1,cond_true,Zjo w2];cases((Ze5 q.2.1 false).2.1==0)<;>cases((Ze5 q.2.2.2.2.1 true).2.1==0)<;>rfl;grind
theorem Yd8(m:Nat)(l:List Nd)(hl:l.length≠0->errN l=0):Zc5 (m+1) l=some (whQ l true (0,0,())):=by
 simp only[Zxs,Z9y,Zu7,J0g];unfold whQ;by_cases h2:l.length=0;grind;have f2:(l.length==0)=false:=by grind
 obtain⟨w1,w2⟩:=Zm5 (t:=true) (show 0<l.length by omega) (hl h2);simp only[f2,cond_false,dT (show(l.length:Int)>0 by omega),dT w1,cond_true,Zjo w2];cases((Ze5 l true).2.1==0)<;>rfl
theorem Yd9(q:Qr):Zl4 q=some (chkQ q):=by
 rw[Z0u];unfold chkQ;simp only[Z93,Zu7];by_cases h:chkC q=0;obtain⟨ha,hw,_⟩:=Yo1 h;obtain⟨n,hn⟩:=Zat;grind[whQ,Yd8,Z0t,Z9y,atOf,Zm5];grind
end Tg
