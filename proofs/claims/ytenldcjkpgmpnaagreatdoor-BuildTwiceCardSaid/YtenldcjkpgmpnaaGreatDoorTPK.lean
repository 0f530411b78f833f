import Derived.Test.YtenldcjkpgmpnaaGreatDoorTPN
/- Kinds: what fits. -/
set_option linter.unusedVariables false
set_option linter.unusedSimpArgs false
namespace Tg
open Go.Abs (Zb Zf tmm)

def gv (k:Int):Bool:=(k==6)||decide (12<=k)
def isAt (is:List (Bool×Unit))(p:Int):Bool:=(is.getD p.toNat (false,())).1
theorem Z6g {is:List (Bool×Unit)}{p:Int}(h:p.toNat<is.length):is[p.toNat]? = some (isAt is p,()):=by simp [isAt,List.getD_eq_getElem?_getD,J0c h]

section
variable (is:List (Bool×Unit)) (l:List Nd) (i:Nat) (len:Int) (g:Bool)

theorem Z9q (m k:Nat)(ps:List (Int×Unit))(p:Int×Unit)(hk:k<ps.length)(hp:ps[k]? = some p)(h0:0<=p.1)(h1:p.1.toNat<is.length)(hs:ps.length<=1000) :
    Yl (m+1) true is ps (ps.length:Int) (k:Int) l (i:Int) g l len (i:Int) true true =
    bif isAt is p.1 then Yl m true is ps (ps.length:Int) ((k+1:Nat):Int) l (i:Int) g l len (i:Int) true true else some ([],(i:Int),()):=by
  simp only [Zls,dT (show (k:Int)<(ps.length:Int) by omega),cond_true,dT (Int.natCast_nonneg k),J0l,hp,dT h0,dT h1,Z6g h1,Zg7 (show k<=1000000 by omega)];grind
theorem Ynn (m:Nat)(ps:List (Int×Unit))(hi:is.length<=1000)(hi2:i<=1000) :
    Yl (m+1) true is ps (ps.length:Int) (ps.length:Int) l (i:Int) g l len (i:Int) true true=Yd m l (is++[(g,())]) l len ((i+1:Nat):Int):=by
  have b1:Zb (is.length+[(g,())].length) 1=true:=Qi (by grind) (by omega);simp only [Zls,dF (show ¬ (ps.length:Int)<(ps.length:Int) by omega),cond_true,cond_false,b1,Zg7 (show i<=1000000 by omega)]
theorem Yid (m k pl:Nat)(ps:List (Int×Unit))(m1:Bool)(p:Int×Unit)(hk:k<pl)(hp:ps[k]? = some p)(h0:0<=p.1)(h1:p.1.toNat<is.length)(hs:pl<=1000) :
    Yx (m+1) false is ps (pl:Int) (pl:Int) (k:Int) l (i:Int) m1 g 0 (pl:Int) l len (i:Int) true =
    bif isAt is p.1 then (bif m1 then Yl m true is (ps.take pl) (pl:Int) 0 l (i:Int) g l len (i:Int) true true else some ([],(i:Int),()))
    else Yx m false is ps (pl:Int) (pl:Int) ((k+1:Nat):Int) l (i:Int) m1 g 0 (pl:Int) l len (i:Int) true:=by
  simp only [Zlr,dT (show (k:Int)<(pl:Int) by omega),cond_true,dT (Int.natCast_nonneg k),J0l,Nat.zero_add,dT hk,hp,dT h0,dT h1,Z6g h1,Zg7 (show k<=1000000 by omega),J0g];grind
theorem Yno (m pl:Nat)(ps:List (Int×Unit))(m1:Bool)(hi:is.length<=1000)(hi2:i<=1000) :
    Yx (m+1) false is ps (pl:Int) (pl:Int) (pl:Int) l (i:Int) m1 g 0 (pl:Int) l len (i:Int) true=Yd m l (is++[(g,())]) l len ((i+1:Nat):Int):=by
  have b1:Zb (is.length+[(g,())].length) 1=true:=Qi (by grind) (by omega);simp only [Zlr,dF (show ¬ (pl:Int)<(pl:Int) by omega),cond_true,cond_false,b1,Zg7 (show i<=1000000 by omega)]

theorem t40 (R:Option (List (Bool×Unit)×Int×Unit)->Prop)(m:Nat)(A B:Int)(two:Bool)(hA:0<=A/\A.toNat<is.length)(hB:two=true->0<=B/\B.toNat<is.length)(hi:is.length<=1000)(hi2:i<=1000)
    (hT:(isAt is A&&(!two||isAt is B))=true -> ∀ m',m<=m' -> R (Yd m' l (is++[(g,())]) l len ((i+1:Nat):Int)))
    (hF:(isAt is A&&(!two||isAt is B))=false->R (some ([],(i:Int),()))) :
    R (Yl (m+3) true is ([(A,()),(B,())].take (bif two then 2 else 1)) (((bif two then 2 else 1:Nat)):Int) 0 l (i:Int) g l len (i:Int) true true):=by
  cases two with
  | false=>have s0:=Z9q is l i len g (m+2) 0 [(A,())] (A,()) (by simp) rfl hA.1 hA.2 (by simp);have s1:=Ynn is l i len g (m+1) [(A,())] hi hi2;grind
  | true=>have s0:=Z9q is l i len g (m+2) 0 [(A,()),(B,())] (A,()) (by simp) rfl hA.1 hA.2 (by simp);have s1:=Z9q is l i len g (m+1) 1 [(A,()),(B,())] (B,()) (by simp) rfl (hB rfl).1 (hB rfl).2 (by simp);have s2:=Ynn is l i len g m [(A,()),(B,())] hi hi2;grind

theorem t28 (R:Option (List (Bool×Unit)×Int×Unit)->Prop)(m:Nat)(A B:Int)(two m1:Bool)(hA:0<=A/\A.toNat<is.length)(hB:two=true->0<=B/\B.toNat<is.length)(hi:is.length<=1000)(hi2:i<=1000)
    (hT:((!isAt is A&&(!two || !isAt is B))||(m1&&(isAt is A&&(!two||isAt is B))))=true -> ∀ m',m<=m' -> R (Yd m' l (is++[(g,())]) l len ((i+1:Nat):Int)))
    (hF:((!isAt is A&&(!two || !isAt is B))||(m1&&(isAt is A&&(!two||isAt is B))))=false->R (some ([],(i:Int),()))) :
    R (Yx (m+6) false is [(A,()),(B,())] (((bif two then 2 else 1:Nat)):Int) (((bif two then 2 else 1:Nat)):Int) 0 l (i:Int) m1 g 0 (((bif two then 2 else 1:Nat)):Int) l len (i:Int) true):=by
  have go40:∀ mm,m<=mm->(!isAt is A&&(!two || !isAt is B))=false->m1=true->R (Yl (mm+3) true is ([(A,()),(B,())].take (bif two then 2 else 1)) (((bif two then 2 else 1:Nat)):Int) 0 l (i:Int) g l len (i:Int) true true):=fun mm hm h1 h2=>t40 is l i len g R mm A B two hA hB hi hi2 (fun h m' hm' => hT (by grind) m' (by omega)) (fun h=>hF (by grind));have pls:(bif two then 2 else 1:Nat)<=1000:=by grind
  have plp:0<(bif two then 2 else 1:Nat):=by grind
  have s0:=Yid is l i len g (m+5) 0 (bif two then 2 else 1) [(A,()),(B,())] m1 (A,()) plp rfl hA.1 hA.2 pls;show R (Yx (m+5+1) false is [(A,()),(B,())] (((bif two then 2 else 1:Nat)):Int) (((bif two then 2 else 1:Nat)):Int) ((0:Nat):Int) l (i:Int) m1 g 0 (((bif two then 2 else 1:Nat)):Int) l len (i:Int) true);rw [s0];cases hv:isAt is A with
  | true=>grind
  | false =>
   cases two with
   | false=>have s1:=Yno is l i len g (m+4) 1 [(A,()),(B,())] m1 hi hi2;grind
   | true =>
    have s1:=Yid is l i len g (m+4) 1 2 [(A,()),(B,())] m1 (B,()) (by omega) rfl (hB rfl).1 (hB rfl).2 (by omega);show R (Yx (m+4+1) false is [(A,()),(B,())] ((2:Nat):Int) ((2:Nat):Int) ((1:Nat):Int) l (i:Int) m1 g 0 ((2:Nat):Int) l len (i:Int) true);rw [s1];cases hv2:isAt is B with
    | true=>grind
    | false=>have s2:=Yno is l i len g (m+3) 2 [(A,()),(B,())] m1 hi hi2;grind

theorem t14 (R:Option (List (Bool×Unit)×Int×Unit)->Prop)(m:Nat)(A B:Int)(two m0 m1:Bool)(hA:0<=A/\A.toNat<is.length)(hB:two=true->0<=B/\B.toNat<is.length)(hi:is.length<=1000)(hi2:i<=1000)
    (hT:((m0&&(!isAt is A&&(!two || !isAt is B)))||(m1&&(isAt is A&&(!two||isAt is B))))=true -> ∀ m',m<=m' -> R (Yd m' l (is++[(g,())]) l len ((i+1:Nat):Int)))
    (hF:((m0&&(!isAt is A&&(!two || !isAt is B)))||(m1&&(isAt is A&&(!two||isAt is B))))=false->R (some ([],(i:Int),()))) :
    R (Yk (m+7) l is (i:Int) m0 m1 g [(A,()),(B,())] (((bif two then 2 else 1:Nat)):Int) l len (i:Int)):=by
  show R (Yk (m+6+1) l is (i:Int) m0 m1 g [(A,()),(B,())] (((bif two then 2 else 1:Nat)):Int) l len (i:Int));simp only [Zvx,J0l,J0g,List.drop_zero];cases m0 with
  | true=>exact t28 is l i len g R m A B two m1 hA hB hi hi2 (fun h=>hT (by grind)) (fun h=>hF (by grind))
  | false =>
   cases m1 with
   | true=>exact t40 is l i len g R (m+3) A B two hA hB hi hi2 (fun h m' hm=>hT (by grind) m' (by omega)) (fun h=>hF (by grind))
   | false=>grind
end
end Tg

/- Kinds: told, and what the reference says. -/
namespace Tg
open Go.Abs (Zb Zf tmm)

def gAt (l:List Nd)(p:Int):Bool:=gv (l.getD p.toNat (0,0,0,0,0,())).1
def fitS (l:List Nd)(x:Nd):Bool :=
 if x.1<=4 then true
 else if x.1=5 then !gAt l x.2.2.1
 else if x.1=6 then gAt l x.2.2.1
 else if x.1=16∨x.1=17 then gAt l x.2.2.1==gAt l x.2.2.2.1
 else if 18<=x.1 then gAt l x.2.2.1&&gAt l x.2.2.2.1
 else !gAt l x.2.2.1 && !gAt l x.2.2.2.1
def Qe (l:List Nd):Nat->List Nd->Nat
 | i,[]=>i
 | i,x::r=>bif fitS l x then Qe l (i+1) r else i

def okN (i:Nat)(x:Nd):Prop:=1<=x.1/\x.1<=19/\0<=x.2.2.1/\x.2.2.1<=i/\0<=x.2.2.2.1/\x.2.2.2.1<=i/\(4<x.1->x.2.2.1<i)/\(6<x.1->x.2.2.2.1<i)

def gvs (l:List Nd):List (Bool×Unit):=l.map fun x=>(gv x.1,())
theorem Ymb (l:List Nd):(gvs l).length=l.length:=by simp [gvs]
theorem Zrh {l:List Nd}{i:Nat}{p:Int}(h0:0<=p)(h:p<i)(hi:i<=l.length):isAt (gvs (l.take i)) p=gAt l p:=by unfold isAt gAt gvs;grind

theorem Z0e (l:List Nd)(hl:l.length<=1000)(hok:∀ i x,l[i]? = some x->okN i x):∀ (rest:List Nd) (i n:Nat),i+rest.length=l.length->l.drop i=rest->9 * rest.length+1<=n ->
    Yd n l (gvs (l.take i)) l (l.length:Int) (i:Int)=some (bif Qe l i rest==l.length then gvs l else [],(Qe l i rest:Int),())
  | [],i,n,hlen,hd,hn=>by obtain⟨m,rfl⟩:∃ m,n=m+1:=⟨n - 1,by omega⟩;simp only [List.length_nil,Nat.add_zero] at hlen;subst hlen;simp only [Znp,dF (show ¬ (l.length:Int)<(l.length:Int) by omega),cond_false,J0g,Qe,beq_self_eq_true,cond_true,List.take_length]
  | x::rest,i,n,hlen,hd,hn=>by
   simp only [J0p] at hlen hn;obtain⟨m,rfl⟩:∃ m,n=m+9:=⟨n - 9,by omega⟩;have hx:l[i]? = some x:=by have:=congrArg (fun z=>z[0]?) hd;grind
   have hd' : l.drop (i+1)=rest:=by have:=congrArg (List.drop 1) hd;simpa [List.drop_drop] using this
   have hlt:i<l.length:=by omega
   obtain⟨k1,k2,a0,a1,b0,b1,a2,b2⟩:=hok i x hx;have htl:(gvs (l.take i)).length=i:=by rw [Ymb,List.length_take];omega
   have happ:gvs (l.take i)++[(gv x.1,())]=gvs (l.take (i+1)):=by rw [List.take_add_one,hx];simp [gvs]
   have ih:=fun m' (h:m<=m')=>Z0e l hl hok rest (i+1) m' (by omega) hd' (by omega);have next:∀ m',m<=m' -> fitS l x=true->Yd m' l (gvs (l.take i)++[(gv x.1,())]) l (l.length:Int) ((i+1:Nat):Int)=some (bif Qe l i (x::rest)==l.length then gvs l else [],(Qe l i (x::rest):Int),()):=by intro m' hm hf;rw [happ,ih m' hm];simp only [Qe,hf,cond_true]
   have stop:fitS l x=false->(some (([]:List (Bool×Unit)),(i:Int),()):Option (List (Bool×Unit)×Int×Unit))=some (bif Qe l i (x::rest)==l.length then gvs l else [],(Qe l i (x::rest):Int),()):=by
    intro hf;have e:(i==l.length)=false:=by grind
    simp only [Qe,hf,cond_false,e]
   -- a node with parts
   have node:∀ (g two m0 m1:Bool),g=gv x.1->4<x.1->(two=true->6<x.1) ->
       fitS l x=((m0&&(!gAt l x.2.2.1&&(!two || !gAt l x.2.2.2.1)))||(m1&&(gAt l x.2.2.1&&(!two||gAt l x.2.2.2.1)))) ->
       Yk (m+8) l (gvs (l.take i)) (i:Int) m0 m1 g [(x.2.2.1,()),(x.2.2.2.1,())] (((bif two then 2 else 1:Nat)):Int) l (l.length:Int) (i:Int)=some (bif Qe l i (x::rest)==l.length then gvs l else [],(Qe l i (x::rest):Int),()):=by
     intro g two m0 m1 hg h4 h6 hf;subst hg;have eA:=Zrh a0 (a2 h4) (show i<=l.length by omega);refine t14 (gvs (l.take i)) l i (l.length:Int) (gv x.1) (fun z=>z=_) (m+1) x.2.2.1 x.2.2.2.1 two m0 m1 ⟨a0,by grind⟩ (fun h=>⟨b0,by grind⟩) (by omega) (by omega) (fun h m' hm=>?_) (fun h=>?_)
     . refine next m' (by omega) ?_
       rw [hf,<- h,eA];cases two with
       | false=>rfl
       | true=>rw [Zrh b0 (b2 (h6 rfl)) (show i<=l.length by omega)]
     . refine stop ?_;rw [hf,<- h,eA];cases two with
       | false=>rfl
       | true=>rw [Zrh b0 (b2 (h6 rfl)) (show i<=l.length by omega)]
   rw [show m+9=(m+8)+1 from rfl,Znp];simp only [dT (show (i:Int)<(l.length:Int) by omega),cond_true,dT (Int.natCast_nonneg i),J0l,hx];by_cases h4:x.1<=4
   . have hg:gv x.1=false:=by unfold gv;grind
     have bb:Zb ((gvs (l.take i)).length+1) 1=true:=Qi (by omega) (by omega);have:=next (m+8) (by omega) (by unfold fitS;grind)
     rw [hg] at this;simp only [dT h4,cond_true,bb,Zg7 (show i<=1000000 by omega)];grind
   . simp only [dF h4,cond_false];by_cases h5:x.1=5
     . have e5:(x.1==5)=true:=by grind
       simp only [e5,cond_true];exact node false false true false (by rw [h5];rfl) (by omega) (fun h=>by cases h) (by unfold fitS;grind)
     . have e5:(x.1==5)=false:=by grind
       simp only [e5,cond_false];by_cases h6:x.1=6
       . have e6:(x.1==6)=true:=by grind
         simp only [e6,cond_true];exact node true false false true (by rw [h6];rfl) (by omega) (fun h=>by cases h) (by unfold fitS;grind)
       . have e6:(x.1==6)=false:=by grind
         simp only [e6,cond_false];have hgF:x.1<=11->false=gv x.1:=fun h=>by unfold gv;grind
         have hgT:¬ x.1<=11->true=gv x.1:=fun h=>by unfold gv;grind
         by_cases h11:x.1<=11
         . simp only [dT h11,cond_true];exact node false true true false (hgF h11) (by omega) (fun _=>by omega) (by unfold fitS;grind)
         . simp only [dF h11,cond_false];by_cases h15:x.1<=15
           . simp only [dT h15,cond_true];exact node true true true false (hgT h11) (by omega) (fun _=>by omega) (by unfold fitS;grind)
           . simp only [dF h15,cond_false];by_cases h17:x.1<=17
             . simp only [dT h17,cond_true];exact node true true true true (hgT h11) (by omega) (fun _=>by omega) (by
                unfold fitS;grind)
             . simp only [dF h17,cond_false];exact node true true false true (hgT h11) (by omega) (fun _=>by omega) (by unfold fitS;grind)
end Tg

/- Kinds: the reference. -/
namespace Tg
open Go.Abs (Zb Zf tmm)

theorem Z6h (k:Int):Zex k=some (gv k,()):=by rw [Zxp];unfold gv;grind

theorem Zg8 {l:List Nd}{p:Nat}(h:p<l.length):l[p]? = some (l.getD p (0,0,0,0,0,())):=by grind

theorem Ymc {l:List Nd}{i:Nat}{x:Nd}(hx:l[i]? = some x)(hok:okN i x):Zoi l (i:Int)=some (fitS l x,()):=by
 obtain⟨k1,k2,a0,a1,b0,b1,a2,b2⟩:=hok;have hi:i<l.length:=(J0d.1 hx).1;have hA:x.2.2.1.toNat<l.length:=by omega
 have hB:x.2.2.2.1.toNat<l.length:=by omega
 rw [Z2c];unfold fitS;simp only [dT (Int.natCast_nonneg i),cond_true,J0l,hx,dT a0,dT b0,Zg8 hA,Zg8 hB,Z6h];show _=some ((if x.1<=4 then true else if x.1=5 then !gAt l x.2.2.1 else if x.1=6 then gAt l x.2.2.1 else if x.1=16∨x.1=17 then gAt l x.2.2.1==gAt l x.2.2.2.1 else if 18<=x.1 then gAt l x.2.2.1&&gAt l x.2.2.2.1 else !gAt l x.2.2.1 && !gAt l x.2.2.2.1),());have gA:gv (l.getD x.2.2.1.toNat (0,0,0,0,0,())).1=gAt l x.2.2.1:=rfl;have gB:gv (l.getD x.2.2.2.1.toNat (0,0,0,0,0,())).1=gAt l x.2.2.2.1:=rfl;grind

theorem Zwg (l:List Nd)(hl:l.length<=1000)(hok:∀ i x,l[i]? = some x->okN i x):∀ (rest:List Nd) (i n:Nat),i+rest.length=l.length->l.drop i=rest->rest.length+1<=n ->
    Zda n l (i:Int)=some ((Qe l i rest:Int),())
  | [],i,n,hlen,hd,hn=>by obtain⟨m,rfl⟩:∃ m,n=m+1:=⟨n - 1,by omega⟩;simp only [List.length_nil,Nat.add_zero] at hlen;subst hlen;simp only [Zll,J0g,dF (show ¬ (l.length:Int)<(l.length:Int) by omega),cond_false,Qe]
  | x::rest,i,n,hlen,hd,hn=>by
   simp only [J0p] at hlen hn;obtain⟨m,rfl⟩:∃ m,n=m+1:=⟨n - 1,by omega⟩;have hx:l[i]? = some x:=by have:=congrArg (fun z=>z[0]?) hd;grind
   have hd' : l.drop (i+1)=rest:=by have:=congrArg (List.drop 1) hd;simpa [List.drop_drop] using this
   have ih:=Zwg l hl hok rest (i+1) m (by omega) hd' (by omega);simp only [Zll,J0g,dT (show (i:Int)<(l.length:Int) by omega),cond_true,Ymc hx (hok i x hx),Zg7 (show i<=1000000 by omega),ih,Qe];grind

theorem Yie:∀ (rest:List Nd) (acc acc' : List (Int×Int)),Good acc->runN rest acc=some acc' -> ∀ j x,rest[j]? = some x->okN (acc.length+j) x
 | [],acc,acc',hg,h,j,x,hj=>by grind
 | y::rest,acc,acc',hg,h,j,x,hj=>by
  simp only [runN] at h;split at h
  . rename_i a ha;have key:(∃ e:Int×Int,a=acc++[e]/\1<=e.1/\e.1<=acc.length+1/\1<=e.2/\e.2<=acc.length+1)/\okN acc.length y:=by
     have rk:∀ {a b:Int},Qj y a b=true->1<=y.1/\y.1<=19/\y.2.2.1=a/\y.2.2.2.1=b:=by intro a b h;unfold Qj at h;grind
     have kc:(cntK y.1=0↔y.1<=4)/\(cntK y.1=1↔4<y.1/\y.1<=6):=by unfold cntK;grind
     unfold X7 at ha;split at ha
     . rename_i c0;split at ha
       . rename_i hr;obtain⟨r1,r2,r3,r4⟩:=rk hr;refine⟨⟨_,(J0a ha).symm,by omega,by omega,by omega,by omega⟩,r1,r2,by omega,by omega,by omega,by omega,fun h=>?_,fun h=>?_⟩
         . grind
         grind
       grind
     . rename_i c0;split at ha
       . cases ha
       . rename_i hne;have hgl:=hg (acc.length - 1) (by omega);split at ha
         . rename_i c1;split at ha
           . rename_i hr;obtain⟨r1,r2,r3,r4⟩:=rk hr;refine⟨⟨_,(J0a ha).symm,by grind,by grind,by grind,by grind⟩,r1,r2,by omega,by omega,by omega,by omega,fun h=>by omega,fun h=>?_⟩;grind
           grind
         . split at ha
           . cases ha
           . rename_i hf;split at ha
             . rename_i hr;obtain⟨r1,r2,r3,r4⟩:=rk hr;have hgf:=hg ((acc.length:Int) - 1 - (gt acc (acc.length - 1)).1).toNat (by omega);exact⟨⟨_,(J0a ha).symm,by grind,by grind,by grind,by grind⟩,r1,r2,by omega,by omega,by omega,by omega,fun h=>by omega,fun h=>by omega⟩
             grind
    obtain⟨⟨e,rfl,he⟩,hy⟩:=key;cases j with
    | zero=>grind
    | succ j=>have:=Yie rest (acc++[e]) acc' (hg.app he) h j x (by grind);grind
  grind

theorem err0 {l:List Nd}(h:errN l=0):l.length<=60/\0<l.length /\ ∀ i x,l[i]? = some x->okN i x:=by
 unfold errN at h;split at h
 . omega
 . split at h
   . omega
   . rename_i h60 acc hr;cases ho:oneN acc with
     | false=>grind
     | true =>
      have hlen:acc.length=l.length:=by simpa using Zp5 l [] acc hr
      have:=Zwf ho;refine⟨by omega,by omega,fun i x hx=>?_⟩;simpa using Yie l [] acc Zwd hr i x hx
end Tg

/- Kinds of expressions: the functions are the reference's. -/
namespace Tg
open Go.Abs (Zb Zf tmm)

def Zgn (l:List Nd):Nat:=Qe l 0 l
theorem Zwh (l:List Nd):∀ (rest:List Nd) (i:Nat),Qe l i rest<=i+rest.length
 | [],i=>Nat.le_refl _
 | x::rest,i=>by
  simp only [Qe,J0p];cases fitS l x with
  | false=>grind
  | true=>have:=Zwh l rest (i+1);grind
theorem Ymd {l:List Nd}(h:errN l=0):Zoj l=some (bif Zgn l==l.length then gvs l else [],(Zgn l:Int),()):=by obtain⟨h60,h1,hok⟩:=err0 h;obtain⟨n,hn⟩:=Zb0;have hok' : ∀ i x,l[i]? = some x->okN i x:=fun i x hx=>hok i x hx;refine (Z2f l).trans ?_;exact Z0e l (by omega) hok' l 0 fuel (by simp) (by simp) (by grind)
theorem Yif {l:List Nd}(h:errN l=0):Zlk l=some ((Zgn l:Int),()):=by obtain⟨h60,h1,hok⟩:=err0 h;obtain⟨n,hn⟩:=Zb0;refine (Zxq l).trans ?_;exact Zwg l (by omega) hok l 0 fuel (by simp) (by simp) (by grind)

def ofK (l:List Nd):Bool×Int×Int×Unit:=if errN l=0 then (if Zgn l<l.length then (false,(Zgn l:Int),42,()) else (gAt l ((l.length - 1:Nat):Int),((l.length - 1:Nat):Int),0,())) else (false,0,errN l,())

theorem Z6i {a b:Int}(h:a=b):(a != b)=false:=by simp [h]
theorem Ys4 {a b:Int}(h:a≠b):(a != b)=true:=by simp [h]

theorem Yqd (l:List Nd):Zvy l=some (ofK l):=by
 rw [Z9c];unfold ofK;simp only [Zrg];by_cases h:errN l=0
 . obtain⟨h60,h1,hok⟩:=err0 h;simp only [Z6i h,cond_false,if_pos h,Ymd h,J0g];by_cases hw:Zgn l<l.length
   . grind
   . have he:Zgn l=l.length:=by have:=Zwh l l 0;unfold Zgn at hw ⊢;omega
     have hwr:Go.IntKind.wrap Go.IntKind.i64 ((Zgn l:Int) - 1)=((l.length - 1:Nat):Int):=by rw [he,w64 (by omega) (by omega)];omega
     have hg:(gvs l)[l.length - 1]? = some (gAt l ((l.length - 1:Nat):Int),()):=by unfold gvs gAt;grind
     simp_all
 grind
theorem Yqe (l:List Nd):Zvp l=some (ofK l):=by
 rw [Z85];unfold ofK;simp only [Z0d];by_cases h:errN l=0
 . obtain⟨h60,h1,hok⟩:=err0 h;simp only [Z6i h,cond_false,if_pos h,Yif h,J0g];by_cases hw:Zgn l<l.length
   . grind
   . have hwr:Go.IntKind.wrap Go.IntKind.i64 ((l.length:Int) - 1)=((l.length - 1:Nat):Int):=by rw [w64 (by omega) (by omega)];omega
     simp only [dF (show ¬ (Zgn l:Int)<(l.length:Int) by omega),cond_false,if_neg hw,hwr,dT (Int.natCast_nonneg (l.length - 1)),cond_true,J0l,Zg8 (show l.length - 1<l.length by omega),Z6h];rfl
 grind

def Zb5 (l:List Nd)(t:Bool):Int×Int×Unit:=bif (ofK l).2.2.1==0 then (bif !((ofK l).1==t) then ((ofK l).2.1,42,()) else (ofK l).2) else (ofK l).2
theorem Z6j (l:List Nd)(t:Bool):Ziv l t=some (Zb5 l t):=by rw [Z2h];unfold Zb5;simp only [Yqd];grind
theorem Z6k (l:List Nd)(t:Bool):Zit l t=some (Zb5 l t):=by rw [Z2d];unfold Zb5;simp only [Yqe];grind
theorem Yme (l:List Nd):Ziw l=some (Zb5 l false):=by rw [Zvz];rw [Z6j]
theorem Yd1 (l:List Nd):Zg6 l=some (Zb5 l true):=by rw [Zxw];rw [Z6j]
theorem Zly {l:List Nd}{t:Bool}(hl:0<l.length)(h:errN l=0):0<=(Zb5 l t).1/\(Zb5 l t).1.toNat<l.length:=by
 have:0<=(ofK l).2.1/\(ofK l).2.1.toNat<l.length:=by unfold ofK;grind
 unfold Zb5;grind
end Tg

/- Sources. -/
namespace Tg
open Go.Abs (Zb Zf tmm)
abbrev IL:=List (Int×Unit)

def in03 (x:Int×Unit):Bool:=decide (0<=x.1)&&decide (x.1<=3)
def Zdf (l:IL):Nat->IL->Bool
 | _,[]=>false
 | i,x::r=>(l.take i).any (fun y=>y.1==x.1)||Zdf l (i+1) r
def srcE (l:IL)(join:Bool):Int:=if 4<l.length then 4 else if l.length=0 then 8 else if (join && !(l.length==2))=true then 8 else if l.all in03=true then (bif Zdf l 0 l then 43 else 0) else 8

theorem Z6l:∀ (l:IL) (acc:List Int),(Za3 l acc).length<=acc.length+l.length
 | [],acc=>Nat.le_refl _
 | x::l,acc=>by simp only [Za3,J0p];have:=Z6l l (if acc.contains x.1 then acc else acc++[x.1]);grind
theorem Z0f (l:IL):∀ (rest:IL) (i:Nat),l.drop i=rest->i+rest.length=l.length->decide ((Za3 rest ((l.take i).map (·.1))).length<l.length)=Zdf l i rest
 | [],i,hd,hl=>by simp only [Za3,Zdf,List.length_map,List.length_take];grind
 | x::rest,i,hd,hl=>by
  simp only [J0p] at hl;have hx:l[i]? = some x:=by have:=congrArg (fun z=>z[0]?) hd;grind
  have hd' : l.drop (i+1)=rest:=by have:=congrArg (List.drop 1) hd;simpa [List.drop_drop] using this
  rw [Bool.eq_iff_iff,J0h];simp only [Za3,Zdf];have hc:((l.take i).map (·.1)).contains x.1=(l.take i).any (fun y=>y.1==x.1):=by grind
  rw [hc];cases ha:(l.take i).any (fun y=>y.1==x.1) with
  | true=>simp only [if_true,Bool.true_or,iff_true];have:=Z6l rest ((l.take i).map (·.1));grind
  | false =>
   simp only [J0r,if_false,Bool.false_or];have e:(l.take i).map (·.1)++[x.1]=(l.take (i+1)).map (·.1):=by grind
   rw [e];have:=Z0f l rest (i+1) hd' (by omega);grind

theorem Z6m {l:IL}(h4:l.length<=4)(h:l.all in03=true):Ya l=some (Int.ofNat (Za3 l []).length,()):=by
 unfold Ya;have h1:l.all (fun x=>in64 x.1)=true:=by rw [List.all_eq_true] at h ⊢;intro x hx;have:=h x hx;unfold in03 at this;rw [J0e,J0h,J0h] at this;unfold in64;grind
 grind

theorem Z6n (l:IL)(h4:l.length<=4):∀ (rest:IL) (i n:Nat),i+rest.length=l.length->l.drop i=rest->(l.take i).all in03=true->rest.length+1<=n ->
    Q9 n l (l.length:Int) (i:Int) l false=some (bif rest.all in03 then (bif Zdf l 0 l then 43 else 0) else 8,())
  | [],i,n,hlen,hd,ht,hn=>by
   obtain⟨m,rfl⟩:∃ m,n=m+1:=⟨n - 1,by omega⟩;simp only [List.length_nil,Nat.add_zero] at hlen;subst hlen;rw [List.take_length] at ht;have hdd:=Z0f l l 0 (by simp) (by simp);simp only [List.take_zero,List.map_nil] at hdd;have hd2:decide (Int.ofNat (Za3 l []).length<(l.length:Int))=Zdf l 0 l:=by grind
   simp only [Zfc,dF (show ¬ (l.length:Int)<(l.length:Int) by omega),cond_false,Z6m h4 ht,List.all_nil,cond_true];grind
  | x::rest,i,n,hlen,hd,ht,hn=>by
   simp only [J0p] at hlen hn;obtain⟨m,rfl⟩:∃ m,n=m+1:=⟨n - 1,by omega⟩;have hx:l[i]? = some x:=by have:=congrArg (fun z=>z[0]?) hd;grind
   have hd' : l.drop (i+1)=rest:=by have:=congrArg (List.drop 1) hd;simpa [List.drop_drop] using this
   simp only [Zfc,dT (show (i:Int)<(l.length:Int) by omega),cond_true,dT (Int.natCast_nonneg i),J0l,hx,List.all_cons];by_cases h0:x.1<0
   . have e:in03 x=false:=by unfold in03;grind
     grind
   . by_cases h4' : x.1>=4
     . have e:in03 x=false:=by unfold in03;grind
       grind
     . have e:in03 x=true:=by unfold in03;grind
       have ih:=Z6n l h4 rest (i+1) m (by omega) hd' (by grind) (by omega);simp only [dF h0,cond_false,dF h4',e,Bool.true_and,Zg7 (show i<=1000000 by omega),ih]

theorem Ymf (l:IL)(join:Bool):Ze8 l join=some (srcE l join,()):=by
 obtain⟨n,hn⟩:=Zb0;rw [Zpt];unfold srcE;by_cases h4:4<l.length
 . grind
 . have hl:=Z6n l (by omega) l 0 fuel (by simp) (by simp) (by simp) (by grind);grind
end Tg

/- Sources: the reference. -/
namespace Tg
open Go.Abs (Zb Zf tmm)

theorem Zx2 {l:IL}{k i:Nat}(hi:i<=l.length)(hk:k<i)(p:Int×Unit->Bool):((l.take i).drop k).any p=(p (l[k]'(by omega))||((l.take i).drop (k+1)).any p):=by rw [List.drop_eq_getElem_cons (by grind),List.any_cons,List.getElem_take]

theorem Z0g (l:IL)(h4:l.length<=4)(i:Nat)(x:Int×Unit)(hx:l[i]? = some x):∀ (c k n:Nat),k+c=i->c<n ->
    ∃ m',n - c - 1<=m' /\ Qt n l (i:Int) (k:Int)=bif ((l.take i).drop k).any (fun y=>y.1==x.1) then some (43,()) else Xq m' l ((i+1:Nat):Int)
  | 0,k,n,hk,hn=>by
   obtain⟨m,rfl⟩:∃ m,n=m+1:=⟨n - 1,by omega⟩;have hi:i<l.length:=(J0d.1 hx).1;simp only [Nat.add_zero] at hk;subst hk;refine⟨m,by omega,?_⟩;have e:((l.take k).drop k).any (fun y=>y.1==x.1)=false:=by grind
   rw [e];simp only [Zg4,dF (show ¬ (k:Int)<(k:Int) by omega),cond_false,Zg7 (show k<=1000000 by omega)]
  | c+1,k,n,hk,hn=>by
   obtain⟨m,rfl⟩:∃ m,n=m+1:=⟨n - 1,by omega⟩;have hi:i<l.length:=(J0d.1 hx).1;have hkl:k<l.length:=by omega
   obtain⟨m',h1,h2⟩:=Z0g l h4 i x hx c (k+1) m (by omega) (by omega);refine⟨m',by omega,?_⟩;rw [Zx2 (by omega) (by omega)];simp only [Zg4,dT (show (k:Int)<(i:Int) by omega),cond_true,dT (Int.natCast_nonneg k),dT (Int.natCast_nonneg i),J0l,J0c hkl,hx,Zg7 (show k<=1000000 by omega),h2];grind

theorem Z0h (l:IL)(h4:l.length<=4):∀ (rest:IL) (i n:Nat),i+rest.length=l.length->l.drop i=rest->10 * rest.length+1<=n ->
    Xq n l (i:Int)=some (bif Zdf l i rest then 43 else 0,())
  | [],i,n,hlen,hd,hn=>by obtain⟨m,rfl⟩:∃ m,n=m+1:=⟨n - 1,by omega⟩;simp only [List.length_nil,Nat.add_zero] at hlen;subst hlen;simp only [Zg3,J0g,dF (show ¬ (l.length:Int)<(l.length:Int) by omega),cond_false,Zdf]
  | x::rest,i,n,hlen,hd,hn=>by
   simp only [J0p] at hlen hn;obtain⟨m,rfl⟩:∃ m,n=m+1:=⟨n - 1,by omega⟩;have hx:l[i]? = some x:=by have:=congrArg (fun z=>z[0]?) hd;grind
   have hd' : l.drop (i+1)=rest:=by have:=congrArg (List.drop 1) hd;simpa [List.drop_drop] using this
   obtain⟨m',h1,h2⟩:=Z0g l h4 i x hx i 0 m (by omega) (by omega);have ih:=Z0h l h4 rest (i+1) m' (by omega) hd' (by omega);have h2' : Qt m l (i:Int) 0=_:=h2;simp only [Zg3,J0g,dT (show (i:Int)<(l.length:Int) by omega),cond_true,h2',ih,Zdf,List.drop_zero];grind

theorem Yce (l:IL)(h4:l.length<=4):∀ (rest:IL) (i n:Nat),i+rest.length=l.length->l.drop i=rest->rest.length+100<=n ->
    Zaj n l (i:Int)=some (bif rest.all in03 then (bif Zdf l 0 l then 43 else 0) else 8,())
  | [],i,n,hlen,hd,hn=>by obtain⟨m,rfl⟩:∃ m,n=m+2:=⟨n - 2,by omega⟩;simp only [List.length_nil,Nat.add_zero] at hlen;subst hlen;have ho:=Z0h l h4 l 0 m (by simp) (by simp) (by omega);have ho' : Xq m l 0=_:=ho;rw [show m+2=(m+1)+1 from rfl];simp only [Zhz,J0g,dF (show ¬ (l.length:Int)<(l.length:Int) by omega),cond_false,Zq8,ho',List.all_nil,cond_true]
  | x::rest,i,n,hlen,hd,hn=>by
   simp only [J0p] at hlen hn;obtain⟨m,rfl⟩:∃ m,n=m+1:=⟨n - 1,by omega⟩;have hx:l[i]? = some x:=by have:=congrArg (fun z=>z[0]?) hd;grind
   have hd' : l.drop (i+1)=rest:=by have:=congrArg (List.drop 1) hd;simpa [List.drop_drop] using this
   have ih:=Yce l h4 rest (i+1) m (by omega) hd' (by omega);simp only [Zhz,J0g,dT (show (i:Int)<(l.length:Int) by omega),cond_true,dT (Int.natCast_nonneg i),J0l,hx,Zg7 (show i<=1000000 by omega),ih,List.all_cons];by_cases h0:x.1<0
   . have e:in03 x=false:=by unfold in03;grind
     grind
   . by_cases h4' : x.1>3
     . have e:in03 x=false:=by unfold in03;grind
       grind
     . have e:in03 x=true:=by unfold in03;grind
       grind

theorem Yig (l:IL)(join:Bool):X6 l join=some (srcE l join,()):=by
 obtain⟨n,hn⟩:=Zb0;rw [Zsq];unfold srcE;by_cases h4:4<l.length
 . grind
 . have hl:=Yce l (by omega) l 0 fuel (by simp) (by simp) (by grind);grind
end Tg

/- Clauses and checks. -/
namespace Tg
open Go.Abs (Zb Zf tmm)
abbrev Qr:=Int×List (Int×Int×Int×Int×Int×Unit)×List (Int×Unit)×Bool×List (Int×Int×Int×Int×Int×Unit)×Int×Int×Int×Bool×Int×Unit

def fitW (w:Int×Int×Int×Unit):Bool:=!decide (w.2.1<1)&&(!decide (w.2.1>1073741824)&&(bif w.1==2 then decide (w.2.2.1>=1)&&(decide (w.2.2.1<=w.2.1)&&decide (w.2.1<=Go.IntKind.wrap Go.IntKind.i64 (16 * w.2.2.1))) else ((w.1==1||w.1==3)&&w.2.2.1==0)))
theorem Yqf (w:Int×Int×Int×Unit):Zgk w=some (fitW w,()):=by rw [Z2a];unfold fitW;grind
theorem Ys5 (w:Int×Int×Int×Unit):Zgm w=some (bif fitW w then 0 else 8,()):=by rw [Zra];unfold fitW;grind

def Zsf (q:Qr):Int:=bif srcE q.2.2.1 q.2.2.2.1==0 then (bif fitW (q.2.2.2.2.2.1,q.2.2.2.2.2.2.1,q.2.2.2.2.2.2.2.1,()) && !(q.2.2.2.1&&q.2.2.2.2.2.1 != 1) then 0 else 8) else srcE q.2.2.1 q.2.2.2.1
def Zhk (q:Qr):Int:=bif decide ((q.2.2.2.2.1.length:Int)>0)&&errN q.2.2.2.2.1 != 0 then errN q.2.2.2.2.1 else Zsf q
def chkC (q:Qr):Int :=
 bif decide (q.1<1)||(decide (q.1>4)||(decide (q.2.2.2.2.2.2.2.2.2.1<1)||decide (q.2.2.2.2.2.2.2.2.2.1>2))) then 8
 else bif q.1==1 then (bif decide ((q.2.1.length:Int)>0) then 8 else Zhk q)
 else bif errN q.2.1 != 0 then errN q.2.1 else Zhk q

theorem Yqg (m:Nat)(q:Qr):Zdc (m+1) q.2.2.1 q.2.2.2.1 q.2.2.2.2.2.1 q.2.2.2.2.2.2.1 q.2.2.2.2.2.2.2.1=some (Zsf q,()):=by simp only [Zpu,Ymf,Ys5];unfold Zsf;grind
theorem Ys6 (m:Nat)(q:Qr):Zbw (m+2) q.2.2.1 q.2.2.2.1 q.2.2.2.2.1 q.2.2.2.2.2.1 q.2.2.2.2.2.2.1 q.2.2.2.2.2.2.2.1=some (Zhk q,()):=by rw [show m+2=(m+1)+1 from rfl];simp only [Zrb,Zrg,Yqg,J0g];unfold Zhk;grind
theorem Z9r (q:Qr):Zhj q=some (chkC q,()):=by
 obtain⟨n,hn⟩:=Zb0;have h4:Zbw fuel q.2.2.1 q.2.2.2.1 q.2.2.2.2.1 q.2.2.2.2.2.1 q.2.2.2.2.2.2.1 q.2.2.2.2.2.2.2.1=some (Zhk q,()):=by rw [hn];exact Ys6 (n+999999999998) q
 rw [Zsr];unfold chkC;simp only [h4,Zrg,J0g];grind
theorem Zp9 (x:Int):(x != 0) = !(x==0):=rfl
theorem Z6o (q:Qr):Zg5 q=some (chkC q,()):=by
 rw [Zxo];unfold chkC Zhk Zsf;simp only [Z0d,Yig,Yqf,J0g,Zp9];have hb:(q.1 != 1) = !(q.1==1):=rfl;rw [hb];cases decide (q.1<1) with
 | true=>rfl
 | false =>
 cases decide (q.1>4) with
 | true=>rfl
 | false =>
 cases decide (q.2.2.2.2.2.2.2.2.2.1<1) with
 | true=>rfl
 | false =>
 grind
end Tg

/- The check of a query is the reference's. -/
namespace Tg
open Go.Abs (Zb Zf tmm)

def atOf (l:List Nd)(p:Int):Int:=(l.getD p.toNat (0,0,0,0,0,())).2.2.2.2.1
def whQ (l:List Nd)(t:Bool)(r:Int×Int×Unit):Int×Int×Unit:=bif l.length==0 then r else bif (Zb5 l t).2.1==0 then r else (atOf l (Zb5 l t).1,(Zb5 l t).2.1,())
def chkQ (q:Qr):Int×Int×Unit:=bif chkC q==0 then whQ q.2.1 false (whQ q.2.2.2.2.1 true (0,0,())) else (0,chkC q,())

theorem Yih {q:Qr}(h:chkC q=0):(q.2.1.length≠0->errN q.2.1=0)/\(q.2.2.2.2.1.length≠0->errN q.2.2.2.2.1=0)/\fitW (q.2.2.2.2.2.1,q.2.2.2.2.2.2.1,q.2.2.2.2.2.2.2.1,())=true:=by
 have hw:∀ q:Qr,Zhk q=0->(q.2.2.2.2.1.length≠0->errN q.2.2.2.2.1=0)/\fitW (q.2.2.2.2.2.1,q.2.2.2.2.2.2.1,q.2.2.2.2.2.2.2.1,())=true:=by
  intro q h;unfold Zhk at h;have ht:Zsf q=0->fitW (q.2.2.2.2.2.1,q.2.2.2.2.2.2.1,q.2.2.2.2.2.2.2.1,())=true:=by intro h;unfold Zsf at h;grind
  grind
 unfold chkC at h;grind

theorem Zm0 (q:Qr):Qv q=some (chkQ q):=by
 rw [Zv0];unfold chkQ;simp only [Z9r,Zp9];by_cases h:chkC q=0
 . obtain⟨ha,hw,_⟩:=Yih h;have e:(chkC q==0)=true:=by grind
   simp only [e,Bool.not_true,cond_false,cond_true,Yme,Yd1,J0g];have wh:∀ {α:Type} (f:Int×Int×Unit->α),True:=fun _=>trivial;unfold whQ;have e1:((q.2.1.length:Int)==0)=(q.2.1.length==0):=by grind
   have e2:((q.2.2.2.2.1.length:Int)==0)=(q.2.2.2.2.1.length==0):=by grind
   rw [e1,e2];by_cases h1:q.2.1.length=0
   . have f1:(q.2.1.length==0)=true:=by grind
     simp only [f1,cond_true];by_cases h2:q.2.2.2.2.1.length=0
     . grind
     . have f2:(q.2.2.2.2.1.length==0)=false:=by grind
       obtain⟨w1,w2⟩:=Zly (t:=true) (show 0<q.2.2.2.2.1.length by omega) (hw h2);simp only [f2,cond_false,dT w1,cond_true,Zg8 w2];cases ((Zb5 q.2.2.2.2.1 true).2.1==0) <;> rfl
   . have f1:(q.2.1.length==0)=false:=by grind
     obtain⟨v1,v2⟩:=Zly (t:=false) (show 0<q.2.1.length by omega) (ha h1);simp only [f1,cond_false,dT v1,cond_true,Zg8 v2];by_cases h2:q.2.2.2.2.1.length=0
     . have f2:(q.2.2.2.2.1.length==0)=true:=by grind
       simp only [f2,cond_true];cases ((Zb5 q.2.1 false).2.1==0) <;> rfl
     . have f2:(q.2.2.2.2.1.length==0)=false:=by grind
       obtain⟨w1,w2⟩:=Zly (t:=true) (show 0<q.2.2.2.2.1.length by omega) (hw h2);simp only [f2,cond_false,dT w1,cond_true,Zg8 w2];cases ((Zb5 q.2.1 false).2.1==0) <;> cases ((Zb5 q.2.2.2.2.1 true).2.1==0) <;> rfl
 grind

theorem Z9s (m:Nat)(l:List Nd)(hl:l.length≠0->errN l=0):Zbi (m+1) l=some (whQ l true (0,0,())):=by
 simp only [Zvq,Z6k,Zp9,J0g];unfold whQ;by_cases h2:l.length=0
 . grind
 . have f2:(l.length==0)=false:=by grind
   obtain⟨w1,w2⟩:=Zly (t:=true) (show 0<l.length by omega) (hl h2);simp only [f2,cond_false,dT (show (l.length:Int)>0 by omega),dT w1,cond_true,Zg8 w2];cases ((Zb5 l true).2.1==0) <;> rfl
theorem Z9t (q:Qr):Zlm q=some (chkQ q):=by
 rw [Zxs];unfold chkQ;simp only [Z6o,Zp9];by_cases h:chkC q=0
 . obtain⟨ha,hw,_⟩:=Yih h;obtain⟨n,hn⟩:=Zb0;have hr:Zbi fuel q.2.2.2.2.1=some (whQ q.2.2.2.2.1 true (0,0,())):=by rw [hn];exact Z9s (n+999999999999) _ hw
   have e:(chkC q==0)=true:=by grind
   simp only [e,Bool.not_true,cond_false,cond_true];rw [Zxr];simp only [Z6k,Zp9,J0g,hr];rw [show whQ q.2.1 false (whQ q.2.2.2.2.1 true (0,0,()))=(bif q.2.1.length==0 then (whQ q.2.2.2.2.1 true (0,0,())) else bif (Zb5 q.2.1 false).2.1==0 then (whQ q.2.2.2.2.1 true (0,0,())) else (atOf q.2.1 (Zb5 q.2.1 false).1,(Zb5 q.2.1 false).2.1,())) from rfl];by_cases h1:q.2.1.length=0
   . grind
   . have f1:(q.2.1.length==0)=false:=by grind
     obtain⟨v1,v2⟩:=Zly (t:=false) (show 0<q.2.1.length by omega) (ha h1);simp only [f1,cond_false,dT (show (q.2.1.length:Int)>0 by omega),dT v1,cond_true,Zg8 v2];cases ((Zb5 q.2.1 false).2.1==0) <;> rfl
 grind
end Tg
