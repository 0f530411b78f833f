import Derived.Test.YtmkkpgcecpnejaaGreatDoorEPN
/- Kinds: what fits. -/
set_option linter.unusedVariables false
set_option linter.unusedSimpArgs false
namespace Tg
open Go.Abs (Zc Zh tmm)

def gv (k:Int):Bool:=(k==6)||decide (12<=k)
def isAt (is:List (Bool×Unit))(p:Int):Bool:=(is.getD p.toNat (false,())).1
theorem Z3b {is:List (Bool×Unit)}{p:Int}(h:p.toNat<is.length):is[p.toNat]? = some (isAt is p,()):=by simp [isAt,List.getD_eq_getElem?_getD,J0c h]

section
variable (is:List (Bool×Unit)) (l:List Nd) (i:Nat) (len:Int) (g:Bool)

theorem Z6b (m k:Nat)(ps:List (Int×Unit))(p:Int×Unit)(hk:k<ps.length)(hp:ps[k]? = some p)(h0:0<=p.1)(h1:p.1.toNat<is.length)(hs:ps.length<=1000) :
    Yg (m+1) true is ps (ps.length:Int) (k:Int) l (i:Int) g l len (i:Int) true true =
    bif isAt is p.1 then Yg m true is ps (ps.length:Int) ((k+1:Nat):Int) l (i:Int) g l len (i:Int) true true else some ([],(i:Int),()):=by
  simp only [Zkd,dT (show (k:Int)<(ps.length:Int) by omega),cond_true,dT (Int.natCast_nonneg k),J0l,hp,dT h0,dT h1,Z3b h1,Zf5 (show k<=1000000 by omega)];grind
theorem Yiq (m:Nat)(ps:List (Int×Unit))(hi:is.length<=1000)(hi2:i<=1000) :
    Yg (m+1) true is ps (ps.length:Int) (ps.length:Int) l (i:Int) g l len (i:Int) true true=Ya m l (is++[(g,())]) l len ((i+1:Nat):Int):=by
  have b1:Zc (is.length+[(g,())].length) 1=true:=Zgi (by grind) (by omega);simp only [Zkd,dF (show ¬ (ps.length:Int)<(ps.length:Int) by omega),cond_true,cond_false,b1,Zf5 (show i<=1000000 by omega)]
theorem Yeh (m k pl:Nat)(ps:List (Int×Unit))(m1:Bool)(p:Int×Unit)(hk:k<pl)(hp:ps[k]? = some p)(h0:0<=p.1)(h1:p.1.toNat<is.length)(hs:pl<=1000) :
    Yn (m+1) false is ps (pl:Int) (pl:Int) (k:Int) l (i:Int) m1 g 0 (pl:Int) l len (i:Int) true =
    bif isAt is p.1 then (bif m1 then Yg m true is (ps.take pl) (pl:Int) 0 l (i:Int) g l len (i:Int) true true else some ([],(i:Int),()))
    else Yn m false is ps (pl:Int) (pl:Int) ((k+1:Nat):Int) l (i:Int) m1 g 0 (pl:Int) l len (i:Int) true:=by
  simp only [Zkc,dT (show (k:Int)<(pl:Int) by omega),cond_true,dT (Int.natCast_nonneg k),J0l,Nat.zero_add,dT hk,hp,dT h0,dT h1,Z3b h1,Zf5 (show k<=1000000 by omega),J0g];grind
theorem Yir (m pl:Nat)(ps:List (Int×Unit))(m1:Bool)(hi:is.length<=1000)(hi2:i<=1000) :
    Yn (m+1) false is ps (pl:Int) (pl:Int) (pl:Int) l (i:Int) m1 g 0 (pl:Int) l len (i:Int) true=Ya m l (is++[(g,())]) l len ((i+1:Nat):Int):=by
  have b1:Zc (is.length+[(g,())].length) 1=true:=Zgi (by grind) (by omega);simp only [Zkc,dF (show ¬ (pl:Int)<(pl:Int) by omega),cond_true,cond_false,b1,Zf5 (show i<=1000000 by omega)]

theorem t40 (R:Option (List (Bool×Unit)×Int×Unit)->Prop)(m:Nat)(A B:Int)(two:Bool)(hA:0<=A/\A.toNat<is.length)(hB:two=true->0<=B/\B.toNat<is.length)(hi:is.length<=1000)(hi2:i<=1000)
    (hT:(isAt is A&&(!two||isAt is B))=true -> ∀ m',m<=m' -> R (Ya m' l (is++[(g,())]) l len ((i+1:Nat):Int)))
    (hF:(isAt is A&&(!two||isAt is B))=false->R (some ([],(i:Int),()))) :
    R (Yg (m+3) true is ([(A,()),(B,())].take (bif two then 2 else 1)) (((bif two then 2 else 1:Nat)):Int) 0 l (i:Int) g l len (i:Int) true true):=by
  cases two with
  | false=>have s0:=Z6b is l i len g (m+2) 0 [(A,())] (A,()) (by simp) rfl hA.1 hA.2 (by simp);have s1:=Yiq is l i len g (m+1) [(A,())] hi hi2;grind
  | true=>have s0:=Z6b is l i len g (m+2) 0 [(A,()),(B,())] (A,()) (by simp) rfl hA.1 hA.2 (by simp);have s1:=Z6b is l i len g (m+1) 1 [(A,()),(B,())] (B,()) (by simp) rfl (hB rfl).1 (hB rfl).2 (by simp);have s2:=Yiq is l i len g m [(A,()),(B,())] hi hi2;grind

theorem t28 (R:Option (List (Bool×Unit)×Int×Unit)->Prop)(m:Nat)(A B:Int)(two m1:Bool)(hA:0<=A/\A.toNat<is.length)(hB:two=true->0<=B/\B.toNat<is.length)(hi:is.length<=1000)(hi2:i<=1000)
    (hT:((!isAt is A&&(!two || !isAt is B))||(m1&&(isAt is A&&(!two||isAt is B))))=true -> ∀ m',m<=m' -> R (Ya m' l (is++[(g,())]) l len ((i+1:Nat):Int)))
    (hF:((!isAt is A&&(!two || !isAt is B))||(m1&&(isAt is A&&(!two||isAt is B))))=false->R (some ([],(i:Int),()))) :
    R (Yn (m+6) false is [(A,()),(B,())] (((bif two then 2 else 1:Nat)):Int) (((bif two then 2 else 1:Nat)):Int) 0 l (i:Int) m1 g 0 (((bif two then 2 else 1:Nat)):Int) l len (i:Int) true):=by
  have go40:∀ mm,m<=mm->(!isAt is A&&(!two || !isAt is B))=false->m1=true->R (Yg (mm+3) true is ([(A,()),(B,())].take (bif two then 2 else 1)) (((bif two then 2 else 1:Nat)):Int) 0 l (i:Int) g l len (i:Int) true true):=fun mm hm h1 h2=>t40 is l i len g R mm A B two hA hB hi hi2 (fun h m' hm' => hT (by grind) m' (by omega)) (fun h=>hF (by grind));have pls:(bif two then 2 else 1:Nat)<=1000:=by grind
  have plp:0<(bif two then 2 else 1:Nat):=by grind
  have s0:=Yeh is l i len g (m+5) 0 (bif two then 2 else 1) [(A,()),(B,())] m1 (A,()) plp rfl hA.1 hA.2 pls;show R (Yn (m+5+1) false is [(A,()),(B,())] (((bif two then 2 else 1:Nat)):Int) (((bif two then 2 else 1:Nat)):Int) ((0:Nat):Int) l (i:Int) m1 g 0 (((bif two then 2 else 1:Nat)):Int) l len (i:Int) true);rw [s0];cases hv:isAt is A with
  | true=>grind
  | false =>
   cases two with
   | false=>have s1:=Yir is l i len g (m+4) 1 [(A,()),(B,())] m1 hi hi2;grind
   | true =>
    have s1:=Yeh is l i len g (m+4) 1 2 [(A,()),(B,())] m1 (B,()) (by omega) rfl (hB rfl).1 (hB rfl).2 (by omega);show R (Yn (m+4+1) false is [(A,()),(B,())] ((2:Nat):Int) ((2:Nat):Int) ((1:Nat):Int) l (i:Int) m1 g 0 ((2:Nat):Int) l len (i:Int) true);rw [s1];cases hv2:isAt is B with
    | true=>grind
    | false=>have s2:=Yir is l i len g (m+3) 2 [(A,()),(B,())] m1 hi hi2;grind

theorem t14 (R:Option (List (Bool×Unit)×Int×Unit)->Prop)(m:Nat)(A B:Int)(two m0 m1:Bool)(hA:0<=A/\A.toNat<is.length)(hB:two=true->0<=B/\B.toNat<is.length)(hi:is.length<=1000)(hi2:i<=1000)
    (hT:((m0&&(!isAt is A&&(!two || !isAt is B)))||(m1&&(isAt is A&&(!two||isAt is B))))=true -> ∀ m',m<=m' -> R (Ya m' l (is++[(g,())]) l len ((i+1:Nat):Int)))
    (hF:((m0&&(!isAt is A&&(!two || !isAt is B)))||(m1&&(isAt is A&&(!two||isAt is B))))=false->R (some ([],(i:Int),()))) :
    R (Yf (m+7) l is (i:Int) m0 m1 g [(A,()),(B,())] (((bif two then 2 else 1:Nat)):Int) l len (i:Int)):=by
  show R (Yf (m+6+1) l is (i:Int) m0 m1 g [(A,()),(B,())] (((bif two then 2 else 1:Nat)):Int) l len (i:Int));simp only [Ztp,J0l,J0g,List.drop_zero];cases m0 with
  | true=>exact t28 is l i len g R m A B two m1 hA hB hi hi2 (fun h=>hT (by grind)) (fun h=>hF (by grind))
  | false =>
   cases m1 with
   | true=>exact t40 is l i len g R (m+3) A B two hA hB hi hi2 (fun h m' hm=>hT (by grind) m' (by omega)) (fun h=>hF (by grind))
   | false=>grind
end
end Tg

/- Kinds: told, and what the reference says. -/
namespace Tg
open Go.Abs (Zc Zh tmm)

def gAt (l:List Nd)(p:Int):Bool:=gv (l.getD p.toNat (0,0,0,0,0,())).1
def fitS (l:List Nd)(x:Nd):Bool :=
 if x.1<=4 then true
 else if x.1=5 then !gAt l x.2.2.1
 else if x.1=6 then gAt l x.2.2.1
 else if x.1=16∨x.1=17 then gAt l x.2.2.1==gAt l x.2.2.2.1
 else if 18<=x.1 then gAt l x.2.2.1&&gAt l x.2.2.2.1
 else !gAt l x.2.2.1 && !gAt l x.2.2.2.1
def X9 (l:List Nd):Nat->List Nd->Nat
 | i,[]=>i
 | i,x::r=>bif fitS l x then X9 l (i+1) r else i

def okN (i:Nat)(x:Nd):Prop:=1<=x.1/\x.1<=19/\0<=x.2.2.1/\x.2.2.1<=i/\0<=x.2.2.2.1/\x.2.2.2.1<=i/\(4<x.1->x.2.2.1<i)/\(6<x.1->x.2.2.2.1<i)

def gvs (l:List Nd):List (Bool×Unit):=l.map fun x=>(gv x.1,())
theorem Yhs (l:List Nd):(gvs l).length=l.length:=by simp [gvs]
theorem Zpe {l:List Nd}{i:Nat}{p:Int}(h0:0<=p)(h:p<i)(hi:i<=l.length):isAt (gvs (l.take i)) p=gAt l p:=by unfold isAt gAt gvs;grind

theorem Zxv (l:List Nd)(hl:l.length<=1000)(hok:∀ i x,l[i]? = some x->okN i x):∀ (rest:List Nd) (i n:Nat),i+rest.length=l.length->l.drop i=rest->9 * rest.length+1<=n ->
    Ya n l (gvs (l.take i)) l (l.length:Int) (i:Int)=some (bif X9 l i rest==l.length then gvs l else [],(X9 l i rest:Int),())
  | [],i,n,hlen,hd,hn=>by obtain⟨m,rfl⟩:∃ m,n=m+1:=⟨n - 1,by omega⟩;simp only [List.length_nil,Nat.add_zero] at hlen;subst hlen;simp only [Zlx,dF (show ¬ (l.length:Int)<(l.length:Int) by omega),cond_false,J0g,X9,beq_self_eq_true,cond_true,List.take_length]
  | x::rest,i,n,hlen,hd,hn=>by
   simp only [J0p] at hlen hn;obtain⟨m,rfl⟩:∃ m,n=m+9:=⟨n - 9,by omega⟩;have hx:l[i]? = some x:=by have:=congrArg (fun z=>z[0]?) hd;grind
   have hd' : l.drop (i+1)=rest:=by have:=congrArg (List.drop 1) hd;simpa [List.drop_drop] using this
   have hlt:i<l.length:=by omega
   obtain⟨k1,k2,a0,a1,b0,b1,a2,b2⟩:=hok i x hx;have htl:(gvs (l.take i)).length=i:=by rw [Yhs,List.length_take];omega
   have happ:gvs (l.take i)++[(gv x.1,())]=gvs (l.take (i+1)):=by rw [List.take_add_one,hx];simp [gvs]
   have ih:=fun m' (h:m<=m')=>Zxv l hl hok rest (i+1) m' (by omega) hd' (by omega);have next:∀ m',m<=m' -> fitS l x=true->Ya m' l (gvs (l.take i)++[(gv x.1,())]) l (l.length:Int) ((i+1:Nat):Int)=some (bif X9 l i (x::rest)==l.length then gvs l else [],(X9 l i (x::rest):Int),()):=by intro m' hm hf;rw [happ,ih m' hm];simp only [X9,hf,cond_true]
   have stop:fitS l x=false->(some (([]:List (Bool×Unit)),(i:Int),()):Option (List (Bool×Unit)×Int×Unit))=some (bif X9 l i (x::rest)==l.length then gvs l else [],(X9 l i (x::rest):Int),()):=by
    intro hf;have e:(i==l.length)=false:=by grind
    simp only [X9,hf,cond_false,e]
   -- a node with parts
   have node:∀ (g two m0 m1:Bool),g=gv x.1->4<x.1->(two=true->6<x.1) ->
       fitS l x=((m0&&(!gAt l x.2.2.1&&(!two || !gAt l x.2.2.2.1)))||(m1&&(gAt l x.2.2.1&&(!two||gAt l x.2.2.2.1)))) ->
       Yf (m+8) l (gvs (l.take i)) (i:Int) m0 m1 g [(x.2.2.1,()),(x.2.2.2.1,())] (((bif two then 2 else 1:Nat)):Int) l (l.length:Int) (i:Int)=some (bif X9 l i (x::rest)==l.length then gvs l else [],(X9 l i (x::rest):Int),()):=by
     intro g two m0 m1 hg h4 h6 hf;subst hg;have eA:=Zpe a0 (a2 h4) (show i<=l.length by omega);refine t14 (gvs (l.take i)) l i (l.length:Int) (gv x.1) (fun z=>z=_) (m+1) x.2.2.1 x.2.2.2.1 two m0 m1 ⟨a0,by grind⟩ (fun h=>⟨b0,by grind⟩) (by omega) (by omega) (fun h m' hm=>?_) (fun h=>?_)
     . refine next m' (by omega) ?_
       rw [hf,<- h,eA];cases two with
       | false=>rfl
       | true=>rw [Zpe b0 (b2 (h6 rfl)) (show i<=l.length by omega)]
     . refine stop ?_;rw [hf,<- h,eA];cases two with
       | false=>rfl
       | true=>rw [Zpe b0 (b2 (h6 rfl)) (show i<=l.length by omega)]
   rw [show m+9=(m+8)+1 from rfl,Zlx];simp only [dT (show (i:Int)<(l.length:Int) by omega),cond_true,dT (Int.natCast_nonneg i),J0l,hx];by_cases h4:x.1<=4
   . have hg:gv x.1=false:=by unfold gv;grind
     have bb:Zc ((gvs (l.take i)).length+1) 1=true:=Zgi (by omega) (by omega);have:=next (m+8) (by omega) (by unfold fitS;grind)
     rw [hg] at this;simp only [dT h4,cond_true,bb,Zf5 (show i<=1000000 by omega)];grind
   . simp only [dF h4,cond_false];by_cases h5:x.1=5
     . have e5:(x.1==5)=true:=by grind
       simp only [e5,cond_true];exact node false false true false (by rw [h5];rfl) (by omega) (fun h=>by cases h) (by unfold fitS;grind)
     . have e5:(x.1==5)=false:=by grind
       simp only [e5,cond_false];by_cases h6:x.1=6
       . have e6:(x.1==6)=true:=by grind
         simp only [e6,cond_true];exact node true false false true (by rw [h6];rfl) (by omega) (fun h=>by cases h) (by unfold fitS;grind)
       . have e6:(x.1==6)=false:=by grind
         simp only [e6,cond_false];have hgF:x.1<=11->false=gv x.1:=fun h=>by unfold gv;grind
         have hgT:¬ x.1<=11->true=gv x.1:=fun h=>by unfold gv;grind
         by_cases h11:x.1<=11
         . simp only [dT h11,cond_true];exact node false true true false (hgF h11) (by omega) (fun _=>by omega) (by unfold fitS;grind)
         . simp only [dF h11,cond_false];by_cases h15:x.1<=15
           . simp only [dT h15,cond_true];exact node true true true false (hgT h11) (by omega) (fun _=>by omega) (by unfold fitS;grind)
           . simp only [dF h15,cond_false];by_cases h17:x.1<=17
             . simp only [dT h17,cond_true];exact node true true true true (hgT h11) (by omega) (fun _=>by omega) (by
                unfold fitS;grind)
             . simp only [dF h17,cond_false];exact node true true false true (hgT h11) (by omega) (fun _=>by omega) (by unfold fitS;grind)
end Tg

/- Kinds: the reference. -/
namespace Tg
open Go.Abs (Zc Zh tmm)

theorem Z3c (k:Int):Zd2 k=some (gv k,()):=by rw [Zvg];unfold gv;grind

theorem Zf6 {l:List Nd}{p:Nat}(h:p<l.length):l[p]? = some (l.getD p (0,0,0,0,0,())):=by grind

theorem Yht {l:List Nd}{i:Nat}{x:Nd}(hx:l[i]? = some x)(hok:okN i x):Zml l (i:Int)=some (fitS l x,()):=by
 obtain⟨k1,k2,a0,a1,b0,b1,a2,b2⟩:=hok;have hi:i<l.length:=(J0d.1 hx).1;have hA:x.2.2.1.toNat<l.length:=by omega
 have hB:x.2.2.2.1.toNat<l.length:=by omega
 rw [Zzm];unfold fitS;simp only [dT (Int.natCast_nonneg i),cond_true,J0l,hx,dT a0,dT b0,Zf6 hA,Zf6 hB,Z3c];show _=some ((if x.1<=4 then true else if x.1=5 then !gAt l x.2.2.1 else if x.1=6 then gAt l x.2.2.1 else if x.1=16∨x.1=17 then gAt l x.2.2.1==gAt l x.2.2.2.1 else if 18<=x.1 then gAt l x.2.2.1&&gAt l x.2.2.2.1 else !gAt l x.2.2.1 && !gAt l x.2.2.2.1),());have gA:gv (l.getD x.2.2.1.toNat (0,0,0,0,0,())).1=gAt l x.2.2.1:=rfl;have gB:gv (l.getD x.2.2.2.1.toNat (0,0,0,0,0,())).1=gAt l x.2.2.2.1:=rfl;grind

theorem Zt3 (l:List Nd)(hl:l.length<=1000)(hok:∀ i x,l[i]? = some x->okN i x):∀ (rest:List Nd) (i n:Nat),i+rest.length=l.length->l.drop i=rest->rest.length+1<=n ->
    Zcg n l (i:Int)=some ((X9 l i rest:Int),())
  | [],i,n,hlen,hd,hn=>by obtain⟨m,rfl⟩:∃ m,n=m+1:=⟨n - 1,by omega⟩;simp only [List.length_nil,Nat.add_zero] at hlen;subst hlen;simp only [Zj6,J0g,dF (show ¬ (l.length:Int)<(l.length:Int) by omega),cond_false,X9]
  | x::rest,i,n,hlen,hd,hn=>by
   simp only [J0p] at hlen hn;obtain⟨m,rfl⟩:∃ m,n=m+1:=⟨n - 1,by omega⟩;have hx:l[i]? = some x:=by have:=congrArg (fun z=>z[0]?) hd;grind
   have hd' : l.drop (i+1)=rest:=by have:=congrArg (List.drop 1) hd;simpa [List.drop_drop] using this
   have ih:=Zt3 l hl hok rest (i+1) m (by omega) hd' (by omega);simp only [Zj6,J0g,dT (show (i:Int)<(l.length:Int) by omega),cond_true,Yht hx (hok i x hx),Zf5 (show i<=1000000 by omega),ih,X9];grind

theorem Yei:∀ (rest:List Nd) (acc acc' : List (Int×Int)),Good acc->runN rest acc=some acc' -> ∀ j x,rest[j]? = some x->okN (acc.length+j) x
 | [],acc,acc',hg,h,j,x,hj=>by grind
 | y::rest,acc,acc',hg,h,j,x,hj=>by
  simp only [runN] at h;split at h
  . rename_i a ha;have key:(∃ e:Int×Int,a=acc++[e]/\1<=e.1/\e.1<=acc.length+1/\1<=e.2/\e.2<=acc.length+1)/\okN acc.length y:=by
     have rk:∀ {a b:Int},Qd y a b=true->1<=y.1/\y.1<=19/\y.2.2.1=a/\y.2.2.2.1=b:=by intro a b h;unfold Qd at h;grind
     have kc:(cntK y.1=0↔y.1<=4)/\(cntK y.1=1↔4<y.1/\y.1<=6):=by unfold cntK;grind
     unfold Xz at ha;split at ha
     . rename_i c0;split at ha
       . rename_i hr;obtain⟨r1,r2,r3,r4⟩:=rk hr;refine⟨⟨_,(J0a ha).symm,by omega,by omega,by omega,by omega⟩,r1,r2,by omega,by omega,by omega,by omega,fun h=>?_,fun h=>?_⟩
         . grind
         grind
       grind
     . rename_i c0;split at ha
       . cases ha
       . rename_i hne;have hgl:=hg (acc.length - 1) (by omega);split at ha
         . rename_i c1;split at ha
           . rename_i hr;obtain⟨r1,r2,r3,r4⟩:=rk hr;refine⟨⟨_,(J0a ha).symm,by grind,by grind,by grind,by grind⟩,r1,r2,by omega,by omega,by omega,by omega,fun h=>by omega,fun h=>?_⟩;grind
           grind
         . split at ha
           . cases ha
           . rename_i hf;split at ha
             . rename_i hr;obtain⟨r1,r2,r3,r4⟩:=rk hr;have hgf:=hg ((acc.length:Int) - 1 - (gt acc (acc.length - 1)).1).toNat (by omega);exact⟨⟨_,(J0a ha).symm,by grind,by grind,by grind,by grind⟩,r1,r2,by omega,by omega,by omega,by omega,fun h=>by omega,fun h=>by omega⟩
             grind
    obtain⟨⟨e,rfl,he⟩,hy⟩:=key;cases j with
    | zero=>grind
    | succ j=>have:=Yei rest (acc++[e]) acc' (hg.app he) h j x (by grind);grind
  grind

theorem err0 {l:List Nd}(h:errN l=0):l.length<=60/\0<l.length /\ ∀ i x,l[i]? = some x->okN i x:=by
 unfold errN at h;split at h
 . omega
 . split at h
   . omega
   . rename_i h60 acc hr;cases ho:oneN acc with
     | false=>grind
     | true =>
      have hlen:acc.length=l.length:=by simpa using Zn0 l [] acc hr
      have:=Zt2 ho;refine⟨by omega,by omega,fun i x hx=>?_⟩;simpa using Yei l [] acc Zt0 hr i x hx
end Tg

/- Kinds of expressions: the functions are the reference's. -/
namespace Tg
open Go.Abs (Zc Zh tmm)

def Zfm (l:List Nd):Nat:=X9 l 0 l
theorem Zt4 (l:List Nd):∀ (rest:List Nd) (i:Nat),X9 l i rest<=i+rest.length
 | [],i=>Nat.le_refl _
 | x::rest,i=>by
  simp only [X9,J0p];cases fitS l x with
  | false=>grind
  | true=>have:=Zt4 l rest (i+1);grind
theorem Yhu {l:List Nd}(h:errN l=0):Zmm l=some (bif Zfm l==l.length then gvs l else [],(Zfm l:Int),()):=by obtain⟨h60,h1,hok⟩:=err0 h;obtain⟨n,hn⟩:=Zbx;have hok' : ∀ i x,l[i]? = some x->okN i x:=fun i x hx=>hok i x hx;refine (Zzo l).trans ?_;exact Zxv l (by omega) hok' l 0 fuel (by simp) (by simp) (by grind)
theorem Yej {l:List Nd}(h:errN l=0):Zj5 l=some ((Zfm l:Int),()):=by obtain⟨h60,h1,hok⟩:=err0 h;obtain⟨n,hn⟩:=Zbx;refine (Zvh l).trans ?_;exact Zt3 l (by omega) hok l 0 fuel (by simp) (by simp) (by grind)

def ofK (l:List Nd):Bool×Int×Int×Unit:=if errN l=0 then (if Zfm l<l.length then (false,(Zfm l:Int),42,()) else (gAt l ((l.length - 1:Nat):Int),((l.length - 1:Nat):Int),0,())) else (false,0,errN l,())

theorem Zxw {a b:Int}(h:a=b):(a != b)=false:=by simp [h]
theorem Yis {a b:Int}(h:a≠b):(a != b)=true:=by simp [h]

theorem Ykn (l:List Nd):Ztq l=some (ofK l):=by
 rw [Z5z];unfold ofK;simp only [Zpd];by_cases h:errN l=0
 . obtain⟨h60,h1,hok⟩:=err0 h;simp only [Zxw h,cond_false,if_pos h,Yhu h,J0g];by_cases hw:Zfm l<l.length
   . grind
   . have he:Zfm l=l.length:=by have:=Zt4 l l 0;unfold Zfm at hw ⊢;omega
     have hwr:Go.IntKind.wrap Go.IntKind.i64 ((Zfm l:Int) - 1)=((l.length - 1:Nat):Int):=by rw [he,w64 (by omega) (by omega)];omega
     have hg:(gvs l)[l.length - 1]? = some (gAt l ((l.length - 1:Nat):Int),()):=by unfold gvs gAt;grind
     simp_all
 grind
theorem Yko (l:List Nd):Zth l=some (ofK l):=by
 rw [Z5x];unfold ofK;simp only [Zxu];by_cases h:errN l=0
 . obtain⟨h60,h1,hok⟩:=err0 h;simp only [Zxw h,cond_false,if_pos h,Yej h,J0g];by_cases hw:Zfm l<l.length
   . grind
   . have hwr:Go.IntKind.wrap Go.IntKind.i64 ((l.length:Int) - 1)=((l.length - 1:Nat):Int):=by rw [w64 (by omega) (by omega)];omega
     simp only [dF (show ¬ (Zfm l:Int)<(l.length:Int) by omega),cond_false,if_neg hw,hwr,dT (Int.natCast_nonneg (l.length - 1)),cond_true,J0l,Zf6 (show l.length - 1<l.length by omega),Z3c];rfl
 grind

def Zbi (l:List Nd)(t:Bool):Int×Int×Unit:=bif (ofK l).2.2.1==0 then (bif !((ofK l).1==t) then ((ofK l).2.1,42,()) else (ofK l).2) else (ofK l).2
theorem Z3d (l:List Nd)(t:Bool):Zhp l t=some (Zbi l t):=by rw [Zzp];unfold Zbi;simp only [Ykn];grind
theorem Z3e (l:List Nd)(t:Bool):Zhn l t=some (Zbi l t):=by rw [Zzn];unfold Zbi;simp only [Yko];grind
theorem Yhv (l:List Nd):Zhq l=some (Zbi l false):=by rw [Ztr];rw [Z3d]
theorem Yac (l:List Nd):Zf4 l=some (Zbi l true):=by rw [Zvn];rw [Z3d]
theorem Zkg {l:List Nd}{t:Bool}(hl:0<l.length)(h:errN l=0):0<=(Zbi l t).1/\(Zbi l t).1.toNat<l.length:=by
 have:0<=(ofK l).2.1/\(ofK l).2.1.toNat<l.length:=by unfold ofK;grind
 unfold Zbi;grind
end Tg

/- Sources. -/
namespace Tg
open Go.Abs (Zc Zh tmm)
abbrev IL:=List (Int×Unit)

def in03 (x:Int×Unit):Bool:=decide (0<=x.1)&&decide (x.1<=3)
def Zck (l:IL):Nat->IL->Bool
 | _,[]=>false
 | i,x::r=>(l.take i).any (fun y=>y.1==x.1)||Zck l (i+1) r
def srcE (l:IL)(join:Bool):Int:=if 4<l.length then 4 else if l.length=0 then 8 else if (join && !(l.length==2))=true then 8 else if l.all in03=true then (bif Zck l 0 l then 43 else 0) else 8

theorem Z3f:∀ (l:IL) (acc:List Int),(Zar l acc).length<=acc.length+l.length
 | [],acc=>Nat.le_refl _
 | x::l,acc=>by simp only [Zar,J0p];have:=Z3f l (if acc.contains x.1 then acc else acc++[x.1]);grind
theorem Zxx (l:IL):∀ (rest:IL) (i:Nat),l.drop i=rest->i+rest.length=l.length->decide ((Zar rest ((l.take i).map (·.1))).length<l.length)=Zck l i rest
 | [],i,hd,hl=>by simp only [Zar,Zck,List.length_map,List.length_take];grind
 | x::rest,i,hd,hl=>by
  simp only [J0p] at hl;have hx:l[i]? = some x:=by have:=congrArg (fun z=>z[0]?) hd;grind
  have hd' : l.drop (i+1)=rest:=by have:=congrArg (List.drop 1) hd;simpa [List.drop_drop] using this
  rw [Bool.eq_iff_iff,J0h];simp only [Zar,Zck];have hc:((l.take i).map (·.1)).contains x.1=(l.take i).any (fun y=>y.1==x.1):=by grind
  rw [hc];cases ha:(l.take i).any (fun y=>y.1==x.1) with
  | true=>simp only [if_true,Bool.true_or,iff_true];have:=Z3f rest ((l.take i).map (·.1));grind
  | false =>
   simp only [J0r,if_false,Bool.false_or];have e:(l.take i).map (·.1)++[x.1]=(l.take (i+1)).map (·.1):=by grind
   rw [e];have:=Zxx l rest (i+1) hd' (by omega);grind

theorem Z3g {l:IL}(h4:l.length<=4)(h:l.all in03=true):Z8 l=some (Int.ofNat (Zar l []).length,()):=by
 unfold Z8;have h1:l.all (fun x=>in64 x.1)=true:=by rw [List.all_eq_true] at h ⊢;intro x hx;have:=h x hx;unfold in03 at this;rw [J0e,J0h,J0h] at this;unfold in64;grind
 grind

theorem Z3h (l:IL)(h4:l.length<=4):∀ (rest:IL) (i n:Nat),i+rest.length=l.length->l.drop i=rest->(l.take i).all in03=true->rest.length+1<=n ->
    Q6 n l (l.length:Int) (i:Int) l false=some (bif rest.all in03 then (bif Zck l 0 l then 43 else 0) else 8,())
  | [],i,n,hlen,hd,ht,hn=>by
   obtain⟨m,rfl⟩:∃ m,n=m+1:=⟨n - 1,by omega⟩;simp only [List.length_nil,Nat.add_zero] at hlen;subst hlen;rw [List.take_length] at ht;have hdd:=Zxx l l 0 (by simp) (by simp);simp only [List.take_zero,List.map_nil] at hdd;have hd2:decide (Int.ofNat (Zar l []).length<(l.length:Int))=Zck l 0 l:=by grind
   simp only [Zed,dF (show ¬ (l.length:Int)<(l.length:Int) by omega),cond_false,Z3g h4 ht,List.all_nil,cond_true];grind
  | x::rest,i,n,hlen,hd,ht,hn=>by
   simp only [J0p] at hlen hn;obtain⟨m,rfl⟩:∃ m,n=m+1:=⟨n - 1,by omega⟩;have hx:l[i]? = some x:=by have:=congrArg (fun z=>z[0]?) hd;grind
   have hd' : l.drop (i+1)=rest:=by have:=congrArg (List.drop 1) hd;simpa [List.drop_drop] using this
   simp only [Zed,dT (show (i:Int)<(l.length:Int) by omega),cond_true,dT (Int.natCast_nonneg i),J0l,hx,List.all_cons];by_cases h0:x.1<0
   . have e:in03 x=false:=by unfold in03;grind
     grind
   . by_cases h4' : x.1>=4
     . have e:in03 x=false:=by unfold in03;grind
       grind
     . have e:in03 x=true:=by unfold in03;grind
       have ih:=Z3h l h4 rest (i+1) m (by omega) hd' (by grind) (by omega);simp only [dF h0,cond_false,dF h4',e,Bool.true_and,Zf5 (show i<=1000000 by omega),ih]

theorem Yhw (l:IL)(join:Bool):Zea l join=some (srcE l join,()):=by
 obtain⟨n,hn⟩:=Zbx;rw [Znn];unfold srcE;by_cases h4:4<l.length
 . grind
 . have hl:=Z3h l (by omega) l 0 fuel (by simp) (by simp) (by simp) (by grind);grind
end Tg

/- Sources: the reference. -/
namespace Tg
open Go.Abs (Zc Zh tmm)

theorem Zvr {l:IL}{k i:Nat}(hi:i<=l.length)(hk:k<i)(p:Int×Unit->Bool):((l.take i).drop k).any p=(p (l[k]'(by omega))||((l.take i).drop (k+1)).any p):=by rw [List.drop_eq_getElem_cons (by grind),List.any_cons,List.getElem_take]

theorem Zxy (l:IL)(h4:l.length<=4)(i:Nat)(x:Int×Unit)(hx:l[i]? = some x):∀ (c k n:Nat),k+c=i->c<n ->
    ∃ m',n - c - 1<=m' /\ Qn n l (i:Int) (k:Int)=bif ((l.take i).drop k).any (fun y=>y.1==x.1) then some (43,()) else Xi m' l ((i+1:Nat):Int)
  | 0,k,n,hk,hn=>by
   obtain⟨m,rfl⟩:∃ m,n=m+1:=⟨n - 1,by omega⟩;have hi:i<l.length:=(J0d.1 hx).1;simp only [Nat.add_zero] at hk;subst hk;refine⟨m,by omega,?_⟩;have e:((l.take k).drop k).any (fun y=>y.1==x.1)=false:=by grind
   rw [e];simp only [Zf2,dF (show ¬ (k:Int)<(k:Int) by omega),cond_false,Zf5 (show k<=1000000 by omega)]
  | c+1,k,n,hk,hn=>by
   obtain⟨m,rfl⟩:∃ m,n=m+1:=⟨n - 1,by omega⟩;have hi:i<l.length:=(J0d.1 hx).1;have hkl:k<l.length:=by omega
   obtain⟨m',h1,h2⟩:=Zxy l h4 i x hx c (k+1) m (by omega) (by omega);refine⟨m',by omega,?_⟩;rw [Zvr (by omega) (by omega)];simp only [Zf2,dT (show (k:Int)<(i:Int) by omega),cond_true,dT (Int.natCast_nonneg k),dT (Int.natCast_nonneg i),J0l,J0c hkl,hx,Zf5 (show k<=1000000 by omega),h2];grind

theorem Zxz (l:IL)(h4:l.length<=4):∀ (rest:IL) (i n:Nat),i+rest.length=l.length->l.drop i=rest->10 * rest.length+1<=n ->
    Xi n l (i:Int)=some (bif Zck l i rest then 43 else 0,())
  | [],i,n,hlen,hd,hn=>by obtain⟨m,rfl⟩:∃ m,n=m+1:=⟨n - 1,by omega⟩;simp only [List.length_nil,Nat.add_zero] at hlen;subst hlen;simp only [Zf1,J0g,dF (show ¬ (l.length:Int)<(l.length:Int) by omega),cond_false,Zck]
  | x::rest,i,n,hlen,hd,hn=>by
   simp only [J0p] at hlen hn;obtain⟨m,rfl⟩:∃ m,n=m+1:=⟨n - 1,by omega⟩;have hx:l[i]? = some x:=by have:=congrArg (fun z=>z[0]?) hd;grind
   have hd' : l.drop (i+1)=rest:=by have:=congrArg (List.drop 1) hd;simpa [List.drop_drop] using this
   obtain⟨m',h1,h2⟩:=Zxy l h4 i x hx i 0 m (by omega) (by omega);have ih:=Zxz l h4 rest (i+1) m' (by omega) hd' (by omega);have h2' : Qn m l (i:Int) 0=_:=h2;simp only [Zf1,J0g,dT (show (i:Int)<(l.length:Int) by omega),cond_true,h2',ih,Zck,List.drop_zero];grind

theorem Z8q (l:IL)(h4:l.length<=4):∀ (rest:IL) (i n:Nat),i+rest.length=l.length->l.drop i=rest->rest.length+100<=n ->
    Zae n l (i:Int)=some (bif rest.all in03 then (bif Zck l 0 l then 43 else 0) else 8,())
  | [],i,n,hlen,hd,hn=>by obtain⟨m,rfl⟩:∃ m,n=m+2:=⟨n - 2,by omega⟩;simp only [List.length_nil,Nat.add_zero] at hlen;subst hlen;have ho:=Zxz l h4 l 0 m (by simp) (by simp) (by omega);have ho' : Xi m l 0=_:=ho;rw [show m+2=(m+1)+1 from rfl];simp only [Zg1,J0g,dF (show ¬ (l.length:Int)<(l.length:Int) by omega),cond_false,Zo4,ho',List.all_nil,cond_true]
  | x::rest,i,n,hlen,hd,hn=>by
   simp only [J0p] at hlen hn;obtain⟨m,rfl⟩:∃ m,n=m+1:=⟨n - 1,by omega⟩;have hx:l[i]? = some x:=by have:=congrArg (fun z=>z[0]?) hd;grind
   have hd' : l.drop (i+1)=rest:=by have:=congrArg (List.drop 1) hd;simpa [List.drop_drop] using this
   have ih:=Z8q l h4 rest (i+1) m (by omega) hd' (by omega);simp only [Zg1,J0g,dT (show (i:Int)<(l.length:Int) by omega),cond_true,dT (Int.natCast_nonneg i),J0l,hx,Zf5 (show i<=1000000 by omega),ih,List.all_cons];by_cases h0:x.1<0
   . have e:in03 x=false:=by unfold in03;grind
     grind
   . by_cases h4' : x.1>3
     . have e:in03 x=false:=by unfold in03;grind
       grind
     . have e:in03 x=true:=by unfold in03;grind
       grind

theorem Yek (l:IL)(join:Bool):Xy l join=some (srcE l join,()):=by
 obtain⟨n,hn⟩:=Zbx;rw [Zqo];unfold srcE;by_cases h4:4<l.length
 . grind
 . have hl:=Z8q l (by omega) l 0 fuel (by simp) (by simp) (by grind);grind
end Tg

/- Clauses and checks. -/
namespace Tg
open Go.Abs (Zc Zh tmm)
abbrev Qr:=Int×List (Int×Int×Int×Int×Int×Unit)×List (Int×Unit)×Bool×List (Int×Int×Int×Int×Int×Unit)×Int×Int×Int×Bool×Int×Unit

def fitW (w:Int×Int×Int×Unit):Bool:=!decide (w.2.1<1)&&(!decide (w.2.1>1073741824)&&(bif w.1==2 then decide (w.2.2.1>=1)&&(decide (w.2.2.1<=w.2.1)&&decide (w.2.1<=Go.IntKind.wrap Go.IntKind.i64 (16 * w.2.2.1))) else ((w.1==1||w.1==3)&&w.2.2.1==0)))
theorem Ykp (w:Int×Int×Int×Unit):Zfj w=some (fitW w,()):=by rw [Zzk];unfold fitW;grind
theorem Ym4 (w:Int×Int×Int×Unit):Zfl w=some (bif fitW w then 0 else 8,()):=by rw [Zo6];unfold fitW;grind

def Zqa (q:Qr):Int:=bif srcE q.2.2.1 q.2.2.2.1==0 then (bif fitW (q.2.2.2.2.2.1,q.2.2.2.2.2.2.1,q.2.2.2.2.2.2.2.1,()) && !(q.2.2.2.1&&q.2.2.2.2.2.1 != 1) then 0 else 8) else srcE q.2.2.1 q.2.2.2.1
def Zgm (q:Qr):Int:=bif decide ((q.2.2.2.2.1.length:Int)>0)&&errN q.2.2.2.2.1 != 0 then errN q.2.2.2.2.1 else Zqa q
def chkC (q:Qr):Int :=
 bif decide (q.1<1)||(decide (q.1>4)||(decide (q.2.2.2.2.2.2.2.2.2.1<1)||decide (q.2.2.2.2.2.2.2.2.2.1>2))) then 8
 else bif q.1==1 then (bif decide ((q.2.1.length:Int)>0) then 8 else Zgm q)
 else bif errN q.2.1 != 0 then errN q.2.1 else Zgm q

theorem Ykq (m:Nat)(q:Qr):Zci (m+1) q.2.2.1 q.2.2.2.1 q.2.2.2.2.2.1 q.2.2.2.2.2.2.1 q.2.2.2.2.2.2.2.1=some (Zqa q,()):=by simp only [Zno,Yhw,Ym4];unfold Zqa;grind
theorem Ym5 (m:Nat)(q:Qr):Zbc (m+2) q.2.2.1 q.2.2.2.1 q.2.2.2.2.1 q.2.2.2.2.2.1 q.2.2.2.2.2.2.1 q.2.2.2.2.2.2.2.1=some (Zgm q,()):=by rw [show m+2=(m+1)+1 from rfl];simp only [Zo7,Zpd,Ykq,J0g];unfold Zgm;grind
theorem Z6c (q:Qr):Zgl q=some (chkC q,()):=by
 obtain⟨n,hn⟩:=Zbx;have h4:Zbc fuel q.2.2.1 q.2.2.2.1 q.2.2.2.2.1 q.2.2.2.2.2.1 q.2.2.2.2.2.2.1 q.2.2.2.2.2.2.2.1=some (Zgm q,()):=by rw [hn];exact Ym5 (n+999999999998) q
 rw [Zqp];unfold chkC;simp only [h4,Zpd,J0g];grind
theorem Zn4 (x:Int):(x != 0) = !(x==0):=rfl
theorem Z3i (q:Qr):Zf3 q=some (chkC q,()):=by
 rw [Zvf];unfold chkC Zgm Zqa;simp only [Zxu,Yek,Ykp,J0g,Zn4];have hb:(q.1 != 1) = !(q.1==1):=rfl;rw [hb];cases decide (q.1<1) with
 | true=>rfl
 | false =>
 cases decide (q.1>4) with
 | true=>rfl
 | false =>
 cases decide (q.2.2.2.2.2.2.2.2.2.1<1) with
 | true=>rfl
 | false =>
 grind
end Tg

/- The check of a query is the reference's. -/
namespace Tg
open Go.Abs (Zc Zh tmm)

def atOf (l:List Nd)(p:Int):Int:=(l.getD p.toNat (0,0,0,0,0,())).2.2.2.2.1
def whQ (l:List Nd)(t:Bool)(r:Int×Int×Unit):Int×Int×Unit:=bif l.length==0 then r else bif (Zbi l t).2.1==0 then r else (atOf l (Zbi l t).1,(Zbi l t).2.1,())
def chkQ (q:Qr):Int×Int×Unit:=bif chkC q==0 then whQ q.2.1 false (whQ q.2.2.2.2.1 true (0,0,())) else (0,chkC q,())

theorem Yel {q:Qr}(h:chkC q=0):(q.2.1.length≠0->errN q.2.1=0)/\(q.2.2.2.2.1.length≠0->errN q.2.2.2.2.1=0)/\fitW (q.2.2.2.2.2.1,q.2.2.2.2.2.2.1,q.2.2.2.2.2.2.2.1,())=true:=by
 have hw:∀ q:Qr,Zgm q=0->(q.2.2.2.2.1.length≠0->errN q.2.2.2.2.1=0)/\fitW (q.2.2.2.2.2.1,q.2.2.2.2.2.2.1,q.2.2.2.2.2.2.2.1,())=true:=by
  intro q h;unfold Zgm at h;have ht:Zqa q=0->fitW (q.2.2.2.2.2.1,q.2.2.2.2.2.2.1,q.2.2.2.2.2.2.2.1,())=true:=by intro h;unfold Zqa at h;grind
  grind
 unfold chkC at h;grind

theorem Zlc (q:Qr):Qo q=some (chkQ q):=by
 rw [Zts];unfold chkQ;simp only [Z6c,Zn4];by_cases h:chkC q=0
 . obtain⟨ha,hw,_⟩:=Yel h;have e:(chkC q==0)=true:=by grind
   simp only [e,Bool.not_true,cond_false,cond_true,Yhv,Yac,J0g];have wh:∀ {α:Type} (f:Int×Int×Unit->α),True:=fun _=>trivial;unfold whQ;have e1:((q.2.1.length:Int)==0)=(q.2.1.length==0):=by grind
   have e2:((q.2.2.2.2.1.length:Int)==0)=(q.2.2.2.2.1.length==0):=by grind
   rw [e1,e2];by_cases h1:q.2.1.length=0
   . have f1:(q.2.1.length==0)=true:=by grind
     simp only [f1,cond_true];by_cases h2:q.2.2.2.2.1.length=0
     . grind
     . have f2:(q.2.2.2.2.1.length==0)=false:=by grind
       obtain⟨w1,w2⟩:=Zkg (t:=true) (show 0<q.2.2.2.2.1.length by omega) (hw h2);simp only [f2,cond_false,dT w1,cond_true,Zf6 w2];cases ((Zbi q.2.2.2.2.1 true).2.1==0) <;> rfl
   . have f1:(q.2.1.length==0)=false:=by grind
     obtain⟨v1,v2⟩:=Zkg (t:=false) (show 0<q.2.1.length by omega) (ha h1);simp only [f1,cond_false,dT v1,cond_true,Zf6 v2];by_cases h2:q.2.2.2.2.1.length=0
     . have f2:(q.2.2.2.2.1.length==0)=true:=by grind
       simp only [f2,cond_true];cases ((Zbi q.2.1 false).2.1==0) <;> rfl
     . have f2:(q.2.2.2.2.1.length==0)=false:=by grind
       obtain⟨w1,w2⟩:=Zkg (t:=true) (show 0<q.2.2.2.2.1.length by omega) (hw h2);simp only [f2,cond_false,dT w1,cond_true,Zf6 w2];cases ((Zbi q.2.1 false).2.1==0) <;> cases ((Zbi q.2.2.2.2.1 true).2.1==0) <;> rfl
 grind

theorem Z6d (m:Nat)(l:List Nd)(hl:l.length≠0->errN l=0):Za3 (m+1) l=some (whQ l true (0,0,())):=by
 simp only [Zti,Z3e,Zn4,J0g];unfold whQ;by_cases h2:l.length=0
 . grind
 . have f2:(l.length==0)=false:=by grind
   obtain⟨w1,w2⟩:=Zkg (t:=true) (show 0<l.length by omega) (hl h2);simp only [f2,cond_false,dT (show (l.length:Int)>0 by omega),dT w1,cond_true,Zf6 w2];cases ((Zbi l true).2.1==0) <;> rfl
theorem Z6e (q:Qr):Zj7 q=some (chkQ q):=by
 rw [Zvj];unfold chkQ;simp only [Z3i,Zn4];by_cases h:chkC q=0
 . obtain⟨ha,hw,_⟩:=Yel h;obtain⟨n,hn⟩:=Zbx;have hr:Za3 fuel q.2.2.2.2.1=some (whQ q.2.2.2.2.1 true (0,0,())):=by rw [hn];exact Z6d (n+999999999999) _ hw
   have e:(chkC q==0)=true:=by grind
   simp only [e,Bool.not_true,cond_false,cond_true];rw [Zvi];simp only [Z3e,Zn4,J0g,hr];rw [show whQ q.2.1 false (whQ q.2.2.2.2.1 true (0,0,()))=(bif q.2.1.length==0 then (whQ q.2.2.2.2.1 true (0,0,())) else bif (Zbi q.2.1 false).2.1==0 then (whQ q.2.2.2.2.1 true (0,0,())) else (atOf q.2.1 (Zbi q.2.1 false).1,(Zbi q.2.1 false).2.1,())) from rfl];by_cases h1:q.2.1.length=0
   . grind
   . have f1:(q.2.1.length==0)=false:=by grind
     obtain⟨v1,v2⟩:=Zkg (t:=false) (show 0<q.2.1.length by omega) (ha h1);simp only [f1,cond_false,dT (show (q.2.1.length:Int)>0 by omega),dT v1,cond_true,Zf6 v2];cases ((Zbi q.2.1 false).2.1==0) <;> rfl
 grind
end Tg
