import Derived.Test.YtpjpjpbaikghbaaGreatDoorSPN
set_option linter.all false
/- Kinds: what fits. -/
namespace Tg
open Go.Abs (Ze Zj tmm)

def gv(k:Int):Bool:=(k==6)||decide (12<=k)
def isAt(is:List (Bool×Unit))(p:Int):Bool:=(is.getD p.toNat (false,())).1
theorem Z9d{is:List (Bool×Unit)}{p:Int}(h:p.toNat<is.length):is[p.toNat]? = some (isAt is p,()):=by grind[isAt]

section
variable (is:List (Bool×Unit)) (l:List Nd) (i:Nat) (len:Int) (g:Bool)

theorem Ydn(m k:Nat)(ps:List (Int×Unit))(p:Int×Unit)(hk:k<ps.length)(hp:ps[k]? = some p)(h0:0<=p.1)(h1:p.1.toNat<is.length)(hs:ps.length<=1000) :
    Yi (m+1) true is ps (ps.length:Int) (k:Int) l (i:Int) g l len (i:Int) true true =
    bif isAt is p.1 then Yi m true is ps (ps.length:Int) ((k+1:Nat):Int) l (i:Int) g l len (i:Int) true true else some ([],(i:Int),()):=by
  grind[Zmd,Int.natCast_nonneg,Int.toNat_natCast,Z9d,Zhd]
theorem Ytp(m:Nat)(ps:List (Int×Unit))(hi:is.length<=1000)(hi2:i<=1000) :
    Yi (m+1) true is ps (ps.length:Int) (ps.length:Int) l (i:Int) g l len (i:Int) true true=Z9 m l (is++[(g,())]) l len ((i+1:Nat):Int):=by
  grind[Xd,Zmd,Zhd]
theorem Yoc(m k pl:Nat)(ps:List (Int×Unit))(m1:Bool)(p:Int×Unit)(hk:k<pl)(hp:ps[k]? = some p)(h0:0<=p.1)(h1:p.1.toNat<is.length)(hs:pl<=1000) :
    Yv (m+1) false is ps (pl:Int) (pl:Int) (k:Int) l (i:Int) m1 g 0 (pl:Int) l len (i:Int) true =
    bif isAt is p.1 then(bif m1 then Yi m true is (ps.take pl) (pl:Int) 0 l (i:Int) g l len (i:Int) true true else some ([],(i:Int),()))
    else Yv m false is ps (pl:Int) (pl:Int) ((k+1:Nat):Int) l (i:Int) m1 g 0 (pl:Int) l len (i:Int) true:=by
  grind[Zmc,Int.natCast_nonneg,Int.toNat_natCast,Z9d,Zhd]
theorem Ytq(m pl:Nat)(ps:List (Int×Unit))(m1:Bool)(hi:is.length<=1000)(hi2:i<=1000) :
    Yv (m+1) false is ps (pl:Int) (pl:Int) (pl:Int) l (i:Int) m1 g 0 (pl:Int) l len (i:Int) true=Z9 m l (is++[(g,())]) l len ((i+1:Nat):Int):=by
  grind[Xd,Zmc,Zhd]

theorem t40(R:Option (List (Bool×Unit)×Int×Unit)->Prop)(m:Nat)(A B:Int)(two:Bool)(hA:0<=A/\A.toNat<is.length)(hB:two=true->0<=B/\B.toNat<is.length)(hi:is.length<=1000)(hi2:i<=1000)
    (hT:(isAt is A&&(!two||isAt is B))=true -> ∀m',m<=m' -> R (Z9 m' l (is++[(g,())]) l len ((i+1:Nat):Int)))
    (hF:(isAt is A&&(!two||isAt is B))=false->R (some ([],(i:Int),()))) :
    R (Yi (m+3) true is ([(A,()),(B,())].take (bif two then 2 else 1)) (((bif two then 2 else 1:Nat)):Int) 0 l (i:Int) g l len (i:Int) true true):=by
  cases two with
  | false=>have s0:=Ydn is l i len g (m+2) 0 [(A,())] (A,()) (by simp) rfl hA.1 hA.2 (by simp);grind[Ytp]
  | true=>have s0:=Ydn is l i len g (m+2) 0 [(A,()),(B,())] (A,()) (by simp) rfl hA.1 hA.2 (by simp);have s1:=Ydn is l i len g (m+1) 1 [(A,()),(B,())] (B,()) (by simp) rfl (hB rfl).1 (hB rfl).2 (by simp);have s2:=Ytp is l i len g m [(A,()),(B,())] hi hi2;grind

theorem t28(R:Option (List (Bool×Unit)×Int×Unit)->Prop)(m:Nat)(A B:Int)(two m1:Bool)(hA:0<=A/\A.toNat<is.length)(hB:two=true->0<=B/\B.toNat<is.length)(hi:is.length<=1000)(hi2:i<=1000)
    (hT:((!isAt is A&&(!two || !isAt is B))||(m1&&(isAt is A&&(!two||isAt is B))))=true -> ∀m',m<=m' -> R (Z9 m' l (is++[(g,())]) l len ((i+1:Nat):Int)))
    (hF:((!isAt is A&&(!two || !isAt is B))||(m1&&(isAt is A&&(!two||isAt is B))))=false->R (some ([],(i:Int),()))) :
    R (Yv (m+6) false is [(A,()),(B,())] (((bif two then 2 else 1:Nat)):Int) (((bif two then 2 else 1:Nat)):Int) 0 l (i:Int) m1 g 0 (((bif two then 2 else 1:Nat)):Int) l len (i:Int) true):=by
  have go40:∀mm,m<=mm->(!isAt is A&&(!two || !isAt is B))=false->m1=true->R (Yi (mm+3) true is ([(A,()),(B,())].take (bif two then 2 else 1)) (((bif two then 2 else 1:Nat)):Int) 0 l (i:Int) g l len (i:Int) true true):=λmm hm h1 h2=>t40 is l i len g R mm A B two hA hB hi hi2 (λh m' hm' => hT (by grind) m' (by omega)) (λh=>hF (by grind));have pls:(bif two then 2 else 1:Nat)<=1000:=by grind
  have plp:0<(bif two then 2 else 1:Nat):=by grind
  have s0:=Yoc is l i len g (m+5) 0 (bif two then 2 else 1) [(A,()),(B,())] m1 (A,()) plp rfl hA.1 hA.2 pls;show R (Yv (m+5+1) false is [(A,()),(B,())] (((bif two then 2 else 1:Nat)):Int) (((bif two then 2 else 1:Nat)):Int) ((0:Nat):Int) l (i:Int) m1 g 0 (((bif two then 2 else 1:Nat)):Int) l len (i:Int) true);rw[s0];cases hv:isAt is A with
  | true=>grind
  | false =>
   cases two with
   | false=>grind[Ytq]
   | true=>have s1:=Yoc is l i len g (m+4) 1 2 [(A,()),(B,())] m1 (B,()) (by omega) rfl (hB rfl).1 (hB rfl).2 (by omega);show R (Yv (m+4+1) false is [(A,()),(B,())] ((2:Nat):Int) ((2:Nat):Int) ((1:Nat):Int) l (i:Int) m1 g 0 ((2:Nat):Int) l len (i:Int) true);grind[Ytq]

theorem t14(R:Option (List (Bool×Unit)×Int×Unit)->Prop)(m:Nat)(A B:Int)(two m0 m1:Bool)(hA:0<=A/\A.toNat<is.length)(hB:two=true->0<=B/\B.toNat<is.length)(hi:is.length<=1000)(hi2:i<=1000)
    (hT:((m0&&(!isAt is A&&(!two || !isAt is B)))||(m1&&(isAt is A&&(!two||isAt is B))))=true -> ∀m',m<=m' -> R (Z9 m' l (is++[(g,())]) l len ((i+1:Nat):Int)))
    (hF:((m0&&(!isAt is A&&(!two || !isAt is B)))||(m1&&(isAt is A&&(!two||isAt is B))))=false->R (some ([],(i:Int),()))) :
    R (Yh (m+7) l is (i:Int) m0 m1 g [(A,()),(B,())] (((bif two then 2 else 1:Nat)):Int) l len (i:Int)):=by
  show R (Yh (m+6+1) l is (i:Int) m0 m1 g [(A,()),(B,())] (((bif two then 2 else 1:Nat)):Int) l len (i:Int));simp only[Zxt,J0l,J0g,List.drop_zero];cases m0 with
  | true=>exact t28 is l i len g R m A B two m1 hA hB hi hi2 (λh=>hT (by grind)) (λh=>hF (by grind))
  | false =>
   cases m1 with
   | true=>exact t40 is l i len g R (m+3) A B two hA hB hi hi2 (λh m' hm=>hT (by grind) m' (by omega)) (λh=>hF (by grind))
   | false=>grind
end
end Tg

/- Kinds: told, and what the reference says. -/
namespace Tg
open Go.Abs (Ze Zj tmm)

def gAt(l:List Nd)(p:Int):Bool:=gv (l.getD p.toNat (0,0,0,0,0,())).1
def fitS(l:List Nd)(x:Nd):Bool :=
 if x.1<=4 then true
 else if x.1=5 then !gAt l x.2.2.1
 else if x.1=6 then gAt l x.2.2.1
 else if x.1=16∨x.1=17 then gAt l x.2.2.1==gAt l x.2.2.2.1
 else if 18<=x.1 then gAt l x.2.2.1&&gAt l x.2.2.2.1
 else !gAt l x.2.2.1 && !gAt l x.2.2.2.1
def X9(l:List Nd):Nat->List Nd->Nat
 | i,[]=>i
 | i,x::r=>bif fitS l x then X9 l (i+1) r else i

def okN(i:Nat)(x:Nd):Prop:=1<=x.1/\x.1<=19/\0<=x.2.2.1/\x.2.2.1<=i/\0<=x.2.2.2.1/\x.2.2.2.1<=i/\(4<x.1->x.2.2.1<i)/\(6<x.1->x.2.2.2.1<i)

def gvs(l:List Nd):List (Bool×Unit):=l.map λx=>(gv x.1,())
theorem Yr6(l:List Nd):(gvs l).length=l.length:=by simp[gvs]
theorem Zsb{l:List Nd}{i:Nat}{p:Int}(h0:0<=p)(h:p<i)(hi:i<=l.length):isAt (gvs (l.take i)) p=gAt l p:=by unfold isAt gAt gvs;grind

theorem Z22(l:List Nd)(hl:l.length<=1000)(hok:∀i x,l[i]? = some x->okN i x):∀(rest:List Nd) (i n:Nat),i+rest.length=l.length->l.drop i=rest->9*rest.length+1<=n ->
    Z9 n l (gvs (l.take i)) l (l.length:Int) (i:Int)=some (bif X9 l i rest==l.length then gvs l else[],(X9 l i rest:Int),())
  | [],i,n,hlen,hd,hn=>by obtain⟨m,rfl⟩:∃m,n=m+1:=⟨n-1,by omega⟩;grind[Zod,X9]
  | x::rest,i,n,hlen,hd,hn=>by
   simp only[J0p]at hlen hn;obtain⟨m,rfl⟩:∃m,n=m+9:=⟨n-9,by omega⟩;have hx:l[i]? = some x:=by have:=congrArg (λz=>z[0]?) hd;grind
   have hd' : l.drop (i+1)=rest:=by have:=congrArg (List.drop 1) hd;grind[List.drop_drop]
   have hlt:i<l.length:=by omega
   obtain⟨k1,k2,a0,a1,b0,b1,a2,b2⟩:=hok i x hx;have htl:(gvs (l.take i)).length=i:=by grind[Yr6]
   have happ:gvs (l.take i)++[(gv x.1,())]=gvs (l.take (i+1)):=by grind[gvs]
   have ih:=λm' (h:m<=m')=>Z22 l hl hok rest (i+1) m' (by omega) hd' (by omega);have next:∀m',m<=m' -> fitS l x=true->Z9 m' l (gvs (l.take i)++[(gv x.1,())]) l (l.length:Int) ((i+1:Nat):Int)=some (bif X9 l i (x::rest)==l.length then gvs l else[],(X9 l i (x::rest):Int),()):=by grind[X9]
   have stop:fitS l x=false->(some (([]:List (Bool×Unit)),(i:Int),()):Option (List (Bool×Unit)×Int×Unit))=some (bif X9 l i (x::rest)==l.length then gvs l else[],(X9 l i (x::rest):Int),()):=by grind[X9]
   -- a node with parts
   have node:∀(g two m0 m1:Bool),g=gv x.1->4<x.1->(two=true->6<x.1) ->
       fitS l x=((m0&&(!gAt l x.2.2.1&&(!two || !gAt l x.2.2.2.1)))||(m1&&(gAt l x.2.2.1&&(!two||gAt l x.2.2.2.1)))) ->
       Yh (m+8) l (gvs (l.take i)) (i:Int) m0 m1 g [(x.2.2.1,()),(x.2.2.2.1,())] (((bif two then 2 else 1:Nat)):Int) l (l.length:Int) (i:Int)=some (bif X9 l i (x::rest)==l.length then gvs l else[],(X9 l i (x::rest):Int),()):=by
     intro g two m0 m1 hg h4 h6 hf;subst hg;have eA:=Zsb a0 (a2 h4) (show i<=l.length by omega);refine t14 (gvs (l.take i)) l i (l.length:Int) (gv x.1) (λz=>z=_) (m+1) x.2.2.1 x.2.2.2.1 two m0 m1 ⟨a0,by grind⟩ (λh=>⟨b0,by grind⟩) (by omega) (by omega) (λh m' hm=>?_) (λh=>?_)
     . grind[Zsb]
     grind[Zsb]
   rw[show m+9=(m+8)+1 from rfl,Zod];simp only[dT (show(i:Int)<(l.length:Int) by omega),cond_true,dT (Int.natCast_nonneg i),J0l,hx];by_cases h4:x.1<=4
   . grind[gv,Xd,fitS,Zhd]
   . simp only[dF h4,cond_false];by_cases h5:x.1=5
     . have e5:(x.1==5)=true:=by grind
       simp only[e5,cond_true];exact node false false true false (by rw[h5];rfl) (by omega) (λh=>by cases h) (by unfold fitS;grind)
     . have e5:(x.1==5)=false:=by grind
       simp only[e5,cond_false];by_cases h6:x.1=6
       . have e6:(x.1==6)=true:=by grind
         simp only[e6,cond_true];exact node true false false true (by rw[h6];rfl) (by omega) (λh=>by cases h) (by unfold fitS;grind)
       . have e6:(x.1==6)=false:=by grind
         simp only[e6,cond_false];have hgF:x.1<=11->false=gv x.1:=λh=>by grind[gv]
         have hgT:¬x.1<=11->true=gv x.1:=λh=>by grind[gv]
         by_cases h11:x.1<=11
         . simp only[dT h11,cond_true];exact node false true true false (hgF h11) (by omega) (λ_=>by omega) (by unfold fitS;grind)
         . simp only[dF h11,cond_false];by_cases h15:x.1<=15
           . simp only[dT h15,cond_true];exact node true true true false (hgT h11) (by omega) (λ_=>by omega) (by unfold fitS;grind)
           . simp only[dF h15,cond_false];by_cases h17:x.1<=17
             . simp only[dT h17,cond_true];exact node true true true true (hgT h11) (by omega) (λ_=>by omega) (by
                unfold fitS;grind)
             . simp only[dF h17,cond_false];exact node true true false true (hgT h11) (by omega) (λ_=>by omega) (by unfold fitS;grind)
end Tg

/- Kinds: the reference. -/
namespace Tg
open Go.Abs (Ze Zj tmm)

theorem Z9e(k:Int):Zev k=some (gv k,()):=by grind[Zz8,gv]

theorem Zjf{l:List Nd}{p:Nat}(h:p<l.length):l[p]? = some (l.getD p (0,0,0,0,0,())):=by grind

theorem Yr7{l:List Nd}{i:Nat}{x:Nd}(hx:l[i]? = some x)(hok:okN i x):Zo9 l (i:Int)=some (fitS l x,()):=by
 obtain⟨k1,k2,a0,a1,b0,b1,a2,b2⟩:=hok;have hi:i<l.length:=(J0d.1 hx).1;have hA:x.2.2.1.toNat<l.length:=by omega
 have hB:x.2.2.2.1.toNat<l.length:=by omega
 rw[Z45];unfold fitS;simp only[dT (Int.natCast_nonneg i),cond_true,J0l,hx,dT a0,dT b0,Zjf hA,Zjf hB,Z9e];grind[gAt]

theorem Zyh(l:List Nd)(hl:l.length<=1000)(hok:∀i x,l[i]? = some x->okN i x):∀(rest:List Nd) (i n:Nat),i+rest.length=l.length->l.drop i=rest->rest.length+1<=n ->
    Zc1 n l (i:Int)=some ((X9 l i rest:Int),())
  | [],i,n,hlen,hd,hn=>by obtain⟨m,rfl⟩:∃m,n=m+1:=⟨n-1,by omega⟩;grind[Zlq,X9]
  | x::rest,i,n,hlen,hd,hn=>by
   simp only[J0p]at hlen hn;obtain⟨m,rfl⟩:∃m,n=m+1:=⟨n-1,by omega⟩;have hx:l[i]? = some x:=by have:=congrArg (λz=>z[0]?) hd;grind
   have hd' : l.drop (i+1)=rest:=by have:=congrArg (List.drop 1) hd;grind[List.drop_drop]
   have ih:=Zyh l hl hok rest (i+1) m (by omega) hd' (by omega);grind[Zlq,Yr7,Zhd,X9]

theorem Yod:∀(rest:List Nd) (acc acc' : List (Int×Int)),Good acc->runN rest acc=some acc' -> ∀j x,rest[j]? = some x->okN (acc.length+j) x
 | [],acc,acc',hg,h,j,x,hj=>by grind
 | y::rest,acc,acc',hg,h,j,x,hj=>by
  simp only[runN]at h;split at h
  . rename_i a ha;have key:(∃e:Int×Int,a=acc++[e]/\1<=e.1/\e.1<=acc.length+1/\1<=e.2/\e.2<=acc.length+1)/\okN acc.length y:=by
     have rk:∀{a b:Int},Qs y a b=true->1<=y.1/\y.1<=19/\y.2.2.1=a/\y.2.2.2.1=b:=by grind[Qs]
     have kc:(cntK y.1=0↔y.1<=4)/\(cntK y.1=1↔4<y.1/\y.1<=6):=by grind[cntK]
     unfold X8 at ha;split at ha
     . rename_i c0;split at ha
       . rename_i hr;obtain⟨r1,r2,r3,r4⟩:=rk hr;refine⟨⟨_,(J0a ha).symm,by omega,by omega,by omega,by omega⟩,r1,r2,by omega,by omega,by omega,by omega,λh=>?_,λh=>?_⟩
         . grind
         grind
       grind
     . rename_i c0;split at ha
       . cases ha
       . rename_i hne;have hgl:=hg (acc.length-1) (by omega);split at ha
         . rename_i c1;split at ha
           . rename_i hr;obtain⟨r1,r2,r3,r4⟩:=rk hr;refine⟨⟨_,(J0a ha).symm,by grind,by grind,by grind,by grind⟩,r1,r2,by omega,by omega,by omega,by omega,λh=>by omega,λh=>?_⟩;grind
           grind
         . split at ha
           . cases ha
           . rename_i hf;split at ha
             . rename_i hr;obtain⟨r1,r2,r3,r4⟩:=rk hr;have hgf:=hg ((acc.length:Int)-1-(gt acc (acc.length-1)).1).toNat (by omega);exact⟨⟨_,(J0a ha).symm,by grind,by grind,by grind,by grind⟩,r1,r2,by omega,by omega,by omega,by omega,λh=>by omega,λh=>by omega⟩
             grind
    obtain⟨⟨e,rfl,he⟩,hy⟩:=key;cases j with
    | zero=>grind
    | succ j=>have:=Yod rest (acc++[e]) acc' (hg.app he) h j x (by grind);grind
  grind

theorem err0{l:List Nd}(h:errN l=0):l.length<=60/\0<l.length /\ ∀i x,l[i]? = some x->okN i x:=by
 unfold errN at h;split at h
 . omega
 . split at h
   . omega
   . rename_i h60 acc hr;cases ho:oneN acc with
     | false=>grind
     | true =>
      have hlen:acc.length=l.length:=by simpa using Zqw l [] acc hr
      have:=Zyg ho;refine⟨by omega,by omega,λi x hx=>?_⟩;simpa using Yod l [] acc Zye hr i x hx
end Tg

/- Kinds of expressions: the functions are the reference's. -/
namespace Tg
open Go.Abs (Ze Zj tmm)

def Zgl(l:List Nd):Nat:=X9 l 0 l
theorem Zyi(l:List Nd):∀(rest:List Nd) (i:Nat),X9 l i rest<=i+rest.length
 | [],i=>Nat.le_refl _
 | x::rest,i=>by
  simp only[X9,J0p];cases fitS l x with
  | false=>grind
  | true=>have:=Zyi l rest (i+1);grind
theorem Yr8{l:List Nd}(h:errN l=0):Zpd l=some (bif Zgl l==l.length then gvs l else[],(Zgl l:Int),()):=by obtain⟨h60,h1,hok⟩:=err0 h;obtain⟨n,hn⟩:=Zau;have hok' : ∀i x,l[i]? = some x->okN i x:=λi x hx=>hok i x hx;refine(Z5h l).trans ?_;exact Z22 l (by omega) hok' l 0 fuel (by simp) (by simp) (by grind)
theorem Yoe{l:List Nd}(h:errN l=0):Zlp l=some ((Zgl l:Int),()):=by obtain⟨h60,h1,hok⟩:=err0 h;obtain⟨n,hn⟩:=Zau;refine(Zz9 l).trans ?_;exact Zyh l (by omega) hok l 0 fuel (by simp) (by simp) (by grind)

def ofK(l:List Nd):Bool×Int×Int×Unit:=if errN l=0 then(if Zgl l<l.length then(false,(Zgl l:Int),42,())else(gAt l ((l.length-1:Nat):Int),((l.length-1:Nat):Int),0,()))else(false,0,errN l,())

theorem Ytr{a b:Int}(h:a=b):(a != b)=false:=by simp[h]
theorem Yof(l:List Nd):Zme l=some (ofK l):=by
 rw[Yc5];unfold ofK;simp only[Zsa];by_cases h:errN l=0
 . obtain⟨h60,h1,hok⟩:=err0 h;simp only[Ytr h,cond_false,if_pos h,Yr8 h,J0g];by_cases hw:Zgl l<l.length
   . grind
   . have he:Zgl l=l.length:=by grind[Zyi,Zgl]
     have hwr:Go.IntKind.wrap Go.IntKind.i64 ((Zgl l:Int)-1)=((l.length-1:Nat):Int):=by grind[w64]
     have hg:(gvs l)[l.length-1]? = some (gAt l ((l.length-1:Nat):Int),()):=by grind[gvs,gAt]
     simp_all
 grind
theorem Ywh(l:List Nd):Zxb l=some (ofK l):=by
 rw[Ycl];unfold ofK;simp only[Z21];by_cases h:errN l=0
 . obtain⟨h60,h1,hok⟩:=err0 h;simp only[Ytr h,cond_false,if_pos h,Yoe h,J0g];by_cases hw:Zgl l<l.length
   . grind
   . have hwr:Go.IntKind.wrap Go.IntKind.i64 ((l.length:Int)-1)=((l.length-1:Nat):Int):=by grind[w64]
     simp only[dF (show ¬(Zgl l:Int)<(l.length:Int) by omega),cond_false,if_neg hw,hwr,dT (Int.natCast_nonneg (l.length-1)),cond_true,J0l,Zjf (show l.length-1<l.length by omega),Z9e];rfl
 grind

def Zex(l:List Nd)(t:Bool):Int×Int×Unit:=bif (ofK l).2.2.1==0 then(bif !((ofK l).1==t)then((ofK l).2.1,42,())else(ofK l).2)else(ofK l).2
theorem Z9f(l:List Nd)(t:Bool):Zi5 l t=some (Zex l t):=by grind[Z5k,Zex,Yof]
theorem Z9g(l:List Nd)(t:Bool):Zi2 l t=some (Zex l t):=by grind[Z46,Zex,Ywh]
theorem Yr9(l:List Nd):Zi6 l=some (Zex l false):=by grind[Zxu,Z9f]
theorem Yiy(l:List Nd):Zhb l=some (Zex l true):=by grind[Z0t,Z9f]
theorem Zmq{l:List Nd}{t:Bool}(hl:0<l.length)(h:errN l=0):0<=(Zex l t).1/\(Zex l t).1.toNat<l.length:=by grind[ofK,Zex]
end Tg

/- Sources. -/
namespace Tg
open Go.Abs (Ze Zj tmm)
abbrev IL:=List (Int×Unit)

def in03(x:Int×Unit):Bool:=decide (0<=x.1)&&decide (x.1<=3)
def Zei(l:IL):Nat->IL->Bool
 | _,[]=>false
 | i,x::r=>(l.take i).any (λy=>y.1==x.1)||Zei l (i+1) r
def srcE(l:IL)(join:Bool):Int:=if 4<l.length then 4 else if l.length=0 then 8 else if (join && !(l.length==2))=true then 8 else if l.all in03=true then(bif Zei l 0 l then 43 else 0)else 8

theorem Z9h:∀(l:IL) (acc:List Int),(Ze3 l acc).length<=acc.length+l.length
 | [],acc=>Nat.le_refl _
 | x::l,acc=>by simp only[Ze3,J0p];have:=Z9h l (if acc.contains x.1 then acc else acc++[x.1]);grind
theorem Z23(l:IL):∀(rest:IL) (i:Nat),l.drop i=rest->i+rest.length=l.length->decide ((Ze3 rest ((l.take i).map (·.1))).length<l.length)=Zei l i rest
 | [],i,hd,hl=>by grind[Ze3,Zei]
 | x::rest,i,hd,hl=>by
  simp only[J0p]at hl;have hx:l[i]? = some x:=by have:=congrArg (λz=>z[0]?) hd;grind
  have hd' : l.drop (i+1)=rest:=by have:=congrArg (List.drop 1) hd;grind[List.drop_drop]
  rw[Bool.eq_iff_iff,J0h];simp only[Ze3,Zei];have hc:((l.take i).map (·.1)).contains x.1=(l.take i).any (λy=>y.1==x.1):=by grind
  rw[hc];cases ha:(l.take i).any (λy=>y.1==x.1)with
  | true=>grind[Z9h]
  | false =>
   simp only[J0r,if_false,Bool.false_or];have e:(l.take i).map (·.1)++[x.1]=(l.take (i+1)).map (·.1):=by grind
   rw[e];have:=Z23 l rest (i+1) hd' (by omega);grind

theorem Z9i{l:IL}(h4:l.length<=4)(h:l.all in03=true):Z8 l=some (Int.ofNat (Ze3 l []).length,()):=by grind[Z8,in64,in03]

theorem Z9j(l:IL)(h4:l.length<=4):∀(rest:IL) (i n:Nat),i+rest.length=l.length->l.drop i=rest->(l.take i).all in03=true->rest.length+1<=n ->
    Qw n l (l.length:Int) (i:Int) l false=some (bif rest.all in03 then(bif Zei l 0 l then 43 else 0)else 8,())
  | [],i,n,hlen,hd,ht,hn=>by obtain⟨m,rfl⟩:∃m,n=m+1:=⟨n-1,by omega⟩;simp only[List.length_nil,Nat.add_zero]at hlen;subst hlen;rw[List.take_length]at ht;have hdd:=Z23 l l 0 (by simp) (by simp);grind[Ze9,Z9i]
  | x::rest,i,n,hlen,hd,ht,hn=>by
   simp only[J0p]at hlen hn;obtain⟨m,rfl⟩:∃m,n=m+1:=⟨n-1,by omega⟩;have hx:l[i]? = some x:=by have:=congrArg (λz=>z[0]?) hd;grind
   have hd' : l.drop (i+1)=rest:=by have:=congrArg (List.drop 1) hd;grind[List.drop_drop]
   simp only[Ze9,dT (show(i:Int)<(l.length:Int) by omega),cond_true,dT (Int.natCast_nonneg i),J0l,hx,List.all_cons];by_cases h0:x.1<0
   . grind[in03]
   . by_cases h4' : x.1>=4
     . grind[in03]
     . have e:in03 x=true:=by unfold in03;grind
       have ih:=Z9j l h4 rest (i+1) m (by omega) hd' (by grind) (by omega);grind[Zhd]

theorem Ysa(l:IL)(join:Bool):Ze4 l join=some (srcE l join,()):=by
 obtain⟨n,hn⟩:=Zau;rw[Zqn];unfold srcE;by_cases h4:4<l.length
 . grind
 . have hl:=Z9j l (by omega) l 0 fuel (by simp) (by simp) (by simp) (by grind);grind
end Tg

/- Sources: the reference. -/
namespace Tg
open Go.Abs (Ze Zj tmm)

theorem Z00{l:IL}{k i:Nat}(hi:i<=l.length)(hk:k<i)(p:Int×Unit->Bool):((l.take i).drop k).any p=(p (l[k]'(by omega))||((l.take i).drop (k+1)).any p):=by grind[List.drop_eq_getElem_cons]

theorem Z24(l:IL)(h4:l.length<=4)(i:Nat)(x:Int×Unit)(hx:l[i]? = some x):∀(c k n:Nat),k+c=i->c<n ->
    ∃m',n-c-1<=m' /\ Zaw n l (i:Int) (k:Int)=bif ((l.take i).drop k).any (λy=>y.1==x.1)then some (43,())else Ql m' l ((i+1:Nat):Int)
  | 0,k,n,hk,hn=>by obtain⟨m,rfl⟩:∃m,n=m+1:=⟨n-1,by omega⟩;have hi:i<l.length:=(J0d.1 hx).1;simp only[Nat.add_zero]at hk;subst hk;refine⟨m,by omega,?_⟩;grind[Zg6,Zhd]
  | c+1,k,n,hk,hn=>by
   obtain⟨m,rfl⟩:∃m,n=m+1:=⟨n-1,by omega⟩;have hi:i<l.length:=(J0d.1 hx).1;have hkl:k<l.length:=by omega
   obtain⟨m',h1,h2⟩:=Z24 l h4 i x hx c (k+1) m (by omega) (by omega);refine⟨m',by omega,?_⟩;rw[Z00 (by omega) (by omega)];simp only[Zg6,dT (show(k:Int)<(i:Int) by omega),cond_true,dT (Int.natCast_nonneg k),dT (Int.natCast_nonneg i),J0l,J0c hkl,hx,Zhd (show k<=1000000 by omega),h2];grind

theorem Z25(l:IL)(h4:l.length<=4):∀(rest:IL) (i n:Nat),i+rest.length=l.length->l.drop i=rest->10*rest.length+1<=n ->
    Ql n l (i:Int)=some (bif Zei l i rest then 43 else 0,())
  | [],i,n,hlen,hd,hn=>by obtain⟨m,rfl⟩:∃m,n=m+1:=⟨n-1,by omega⟩;grind[Zg5,Zei]
  | x::rest,i,n,hlen,hd,hn=>by
   simp only[J0p]at hlen hn;obtain⟨m,rfl⟩:∃m,n=m+1:=⟨n-1,by omega⟩;have hx:l[i]? = some x:=by have:=congrArg (λz=>z[0]?) hd;grind
   have hd' : l.drop (i+1)=rest:=by have:=congrArg (List.drop 1) hd;grind[List.drop_drop]
   obtain⟨m',h1,h2⟩:=Z24 l h4 i x hx i 0 m (by omega) (by omega);have ih:=Z25 l h4 rest (i+1) m' (by omega) hd' (by omega);grind[Zg5,Zei]

theorem Yha(l:IL)(h4:l.length<=4):∀(rest:IL) (i n:Nat),i+rest.length=l.length->l.drop i=rest->rest.length+100<=n ->
    Q5 n l (i:Int)=some (bif rest.all in03 then(bif Zei l 0 l then 43 else 0)else 8,())
  | [],i,n,hlen,hd,hn=>by obtain⟨m,rfl⟩:∃m,n=m+2:=⟨n-2,by omega⟩;simp only[List.length_nil,Nat.add_zero]at hlen;subst hlen;have ho:=Z25 l h4 l 0 m (by simp) (by simp) (by omega);grind[Zh7,Zr2]
  | x::rest,i,n,hlen,hd,hn=>by
   simp only[J0p]at hlen hn;obtain⟨m,rfl⟩:∃m,n=m+1:=⟨n-1,by omega⟩;have hx:l[i]? = some x:=by have:=congrArg (λz=>z[0]?) hd;grind
   have hd' : l.drop (i+1)=rest:=by have:=congrArg (List.drop 1) hd;grind[List.drop_drop]
   have ih:=Yha l h4 rest (i+1) m (by omega) hd' (by omega);simp only[Zh7,J0g,dT (show(i:Int)<(l.length:Int) by omega),cond_true,dT (Int.natCast_nonneg i),J0l,hx,Zhd (show i<=1000000 by omega),ih,List.all_cons];grind[in03]

theorem Yog(l:IL)(join:Bool):Xt l join=some (srcE l join,()):=by
 obtain⟨n,hn⟩:=Zau;rw[Zty];unfold srcE;by_cases h4:4<l.length
 . grind
 . have hl:=Yha l (by omega) l 0 fuel (by simp) (by simp) (by grind);grind
end Tg

/- Clauses and checks. -/
namespace Tg
open Go.Abs (Ze Zj tmm)
abbrev Qr:=Int×List (Int×Int×Int×Int×Int×Unit)×List (Int×Unit)×Bool×List (Int×Int×Int×Int×Int×Unit)×Int×Int×Int×Bool×Int×Unit

def fitW(w:Int×Int×Int×Unit):Bool:=!decide (w.2.1<1)&&(!decide (w.2.1>1073741824)&&(bif w.1==2 then decide (w.2.2.1>=1)&&(decide (w.2.2.1<=w.2.1)&&decide (w.2.1<=Go.IntKind.wrap Go.IntKind.i64 (16*w.2.2.1)))else((w.1==1||w.1==3)&&w.2.2.1==0)))
theorem Ywi(w:Int×Int×Int×Unit):Zgc w=some (fitW w,()):=by grind[Z43,fitW]
theorem Yts(w:Int×Int×Int×Unit):Yg w=some (bif fitW w then 0 else 8,()):=by grind[Zdw,fitW]

def Z9k(q:Qr):Int:=bif srcE q.2.2.1 q.2.2.2.1==0 then(bif fitW (q.2.2.2.2.2.1,q.2.2.2.2.2.2.1,q.2.2.2.2.2.2.2.1,()) && !(q.2.2.2.1&&q.2.2.2.2.2.1 != 1)then 0 else 8)else srcE q.2.2.1 q.2.2.2.1
def Zpg(q:Qr):Int:=bif decide ((q.2.2.2.2.1.length:Int)>0)&&errN q.2.2.2.2.1 != 0 then errN q.2.2.2.2.1 else Z9k q
def chkC(q:Qr):Int :=
 bif decide (q.1<1)||(decide (q.1>4)||(decide (q.2.2.2.2.2.2.2.2.2.1<1)||decide (q.2.2.2.2.2.2.2.2.2.1>2)))then 8
 else bif q.1==1 then(bif decide ((q.2.1.length:Int)>0)then 8 else Zpg q)
 else bif errN q.2.1 != 0 then errN q.2.1 else Zpg q

theorem Ywj(m:Nat)(q:Qr):Zc9 (m+1) q.2.2.1 q.2.2.2.1 q.2.2.2.2.2.1 q.2.2.2.2.2.2.1 q.2.2.2.2.2.2.2.1=some (Z9k q,()):=by grind[Zqo,Ysa,Yts,Z9k]
theorem Yzv(m:Nat)(q:Qr):Zdx (m+2) q.2.2.1 q.2.2.2.1 q.2.2.2.2.1 q.2.2.2.2.2.1 q.2.2.2.2.2.2.1 q.2.2.2.2.2.2.2.1=some (Zpg q,()):=by grind[Zr5,Zsa,Ywj,Zpg]
theorem Ydo(q:Qr):Zhs q=some (chkC q,()):=by grind[Zau,Yzv,Zt5,chkC,Zsa]
theorem Zut(x:Int):(x != 0) = !(x==0):=rfl
theorem Z9l(q:Qr):Zg7 q=some (chkC q,()):=by
 rw[Zz7];unfold chkC Zpg Z9k;simp only[Z21,Yog,Ywi,J0g,Zut];have hb:(q.1 != 1) = !(q.1==1):=rfl;rw[hb];cases decide (q.1<1)with
 | true=>rfl
 | false =>
 cases decide (q.1>4)with
 | true=>rfl
 | false =>
 cases decide (q.2.2.2.2.2.2.2.2.2.1<1)with
 | true=>rfl
 | false =>
 grind
end Tg

/- The check of a query is the reference's. -/
namespace Tg
open Go.Abs (Ze Zj tmm)

def atOf(l:List Nd)(p:Int):Int:=(l.getD p.toNat (0,0,0,0,0,())).2.2.2.2.1
def whQ(l:List Nd)(t:Bool)(r:Int×Int×Unit):Int×Int×Unit:=bif l.length==0 then r else bif (Zex l t).2.1==0 then r else(atOf l (Zex l t).1,(Zex l t).2.1,())
def chkQ(q:Qr):Int×Int×Unit:=bif chkC q==0 then whQ q.2.1 false (whQ q.2.2.2.2.1 true (0,0,()))else(0,chkC q,())

theorem Yoh{q:Qr}(h:chkC q=0):(q.2.1.length≠0->errN q.2.1=0)/\(q.2.2.2.2.1.length≠0->errN q.2.2.2.2.1=0)/\fitW (q.2.2.2.2.2.1,q.2.2.2.2.2.2.1,q.2.2.2.2.2.2.2.1,())=true:=by
 have hw:∀q:Qr,Zpg q=0->(q.2.2.2.2.1.length≠0->errN q.2.2.2.2.1=0)/\fitW (q.2.2.2.2.2.1,q.2.2.2.2.2.2.1,q.2.2.2.2.2.2.2.1,())=true:=by grind[Zpg,Z9k]
 grind[chkC]

theorem Zie(q:Qr):Yk q=some (chkQ q):=by
 rw[Zxv];unfold chkQ;simp only[Ydo,Zut];by_cases h:chkC q=0
 . obtain⟨ha,hw,_⟩:=Yoh h;have e:(chkC q==0)=true:=by grind
   simp only[e,Bool.not_true,cond_false,cond_true,Yr9,Yiy,J0g];have wh:∀{α:Type} (f:Int×Int×Unit->α),True:=λ_=>trivial;unfold whQ;have e1:((q.2.1.length:Int)==0)=(q.2.1.length==0):=by grind
   have e2:((q.2.2.2.2.1.length:Int)==0)=(q.2.2.2.2.1.length==0):=by grind
   rw[e1,e2];by_cases h1:q.2.1.length=0
   . have f1:(q.2.1.length==0)=true:=by grind
     simp only[f1,cond_true];by_cases h2:q.2.2.2.2.1.length=0
     . grind
     . have f2:(q.2.2.2.2.1.length==0)=false:=by grind
       obtain⟨w1,w2⟩:=Zmq (t:=true) (show 0<q.2.2.2.2.1.length by omega) (hw h2);simp only[f2,cond_false,dT w1,cond_true,Zjf w2];cases((Zex q.2.2.2.2.1 true).2.1==0)<;>rfl
   . have f1:(q.2.1.length==0)=false:=by grind
     obtain⟨v1,v2⟩:=Zmq (t:=false) (show 0<q.2.1.length by omega) (ha h1);simp only[f1,cond_false,dT v1,cond_true,Zjf v2];by_cases h2:q.2.2.2.2.1.length=0
     . have f2:(q.2.2.2.2.1.length==0)=true:=by grind
       simp only[f2,cond_true];cases((Zex q.2.1 false).2.1==0)<;>rfl
     . have f2:(q.2.2.2.2.1.length==0)=false:=by grind
       obtain⟨w1,w2⟩:=Zmq (t:=true) (show 0<q.2.2.2.2.1.length by omega) (hw h2);simp only[f2,cond_false,dT w1,cond_true,Zjf w2];cases((Zex q.2.1 false).2.1==0)<;>cases((Zex q.2.2.2.2.1 true).2.1==0)<;>rfl
 grind

theorem Ydp(m:Nat)(l:List Nd)(hl:l.length≠0->errN l=0):Zc2 (m+1) l=some (whQ l true (0,0,())):=by
 simp only[Zxc,Z9g,Zut,J0g];unfold whQ;by_cases h2:l.length=0
 . grind
 . have f2:(l.length==0)=false:=by grind
   obtain⟨w1,w2⟩:=Zmq (t:=true) (show 0<l.length by omega) (hl h2);simp only[f2,cond_false,dT (show(l.length:Int)>0 by omega),dT w1,cond_true,Zjf w2];cases((Zex l true).2.1==0)<;>rfl
theorem Ydq(q:Qr):Zlr q=some (chkQ q):=by
 rw[Z0b];unfold chkQ;simp only[Z9l,Zut];by_cases h:chkC q=0
 . obtain⟨ha,hw,_⟩:=Yoh h;obtain⟨n,hn⟩:=Zau;grind[whQ,Ydp,Z0a,Z9g,atOf,Zmq]
 grind
end Tg
