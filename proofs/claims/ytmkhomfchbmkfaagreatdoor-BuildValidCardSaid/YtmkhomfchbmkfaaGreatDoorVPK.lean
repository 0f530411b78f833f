import Derived.Test.YtmkhomfchbmkfaaGreatDoorVPN
/- Kinds: what fits. -/
set_option linter.unusedVariables false
set_option linter.unusedSimpArgs false
namespace Tg
open Go.Abs (Zb Zf tmm)

def gv (k:Int):Bool:=(k==6)||decide (12<=k)
def isAt (is:List (Bool×Unit))(p:Int):Bool:=(is.getD p.toNat (false,())).1
theorem Z8a {is:List (Bool×Unit)}{p:Int}(h:p.toNat<is.length):is[p.toNat]? = some (isAt is p,()):=by simp [isAt,List.getD_eq_getElem?_getD,J0c h]

section
variable (is:List (Bool×Unit)) (l:List Nd) (i:Nat) (len:Int) (g:Bool)

theorem Yby (m k:Nat)(ps:List (Int×Unit))(p:Int×Unit)(hk:k<ps.length)(hp:ps[k]? = some p)(h0:0<=p.1)(h1:p.1.toNat<is.length)(hs:ps.length<=1000) :
    Ym (m+1) true is ps (ps.length:Int) (k:Int) l (i:Int) g l len (i:Int) true true =
    bif isAt is p.1 then Ym m true is ps (ps.length:Int) ((k+1:Nat):Int) l (i:Int) g l len (i:Int) true true else some ([],(i:Int),()):=by
  simp only [Zm3,dT (show (k:Int)<(ps.length:Int) by omega),cond_true,dT (Int.natCast_nonneg k),J0l,hp,dT h0,dT h1,Z8a h1,Zh0 (show k<=1000000 by omega)];grind
theorem Yp5 (m:Nat)(ps:List (Int×Unit))(hi:is.length<=1000)(hi2:i<=1000) :
    Ym (m+1) true is ps (ps.length:Int) (ps.length:Int) l (i:Int) g l len (i:Int) true true=Ye m l (is++[(g,())]) l len ((i+1:Nat):Int):=by
  have b1:Zb (is.length+[(g,())].length) 1=true:=Zej (by grind) (by omega);simp only [Zm3,dF (show ¬ (ps.length:Int)<(ps.length:Int) by omega),cond_true,cond_false,b1,Zh0 (show i<=1000000 by omega)]
theorem Ylc (m k pl:Nat)(ps:List (Int×Unit))(m1:Bool)(p:Int×Unit)(hk:k<pl)(hp:ps[k]? = some p)(h0:0<=p.1)(h1:p.1.toNat<is.length)(hs:pl<=1000) :
    Yz (m+1) false is ps (pl:Int) (pl:Int) (k:Int) l (i:Int) m1 g 0 (pl:Int) l len (i:Int) true =
    bif isAt is p.1 then (bif m1 then Ym m true is (ps.take pl) (pl:Int) 0 l (i:Int) g l len (i:Int) true true else some ([],(i:Int),()))
    else Yz m false is ps (pl:Int) (pl:Int) ((k+1:Nat):Int) l (i:Int) m1 g 0 (pl:Int) l len (i:Int) true:=by
  simp only [Zm2,dT (show (k:Int)<(pl:Int) by omega),cond_true,dT (Int.natCast_nonneg k),J0l,Nat.zero_add,dT hk,hp,dT h0,dT h1,Z8a h1,Zh0 (show k<=1000000 by omega),J0g];grind
theorem Yp6 (m pl:Nat)(ps:List (Int×Unit))(m1:Bool)(hi:is.length<=1000)(hi2:i<=1000) :
    Yz (m+1) false is ps (pl:Int) (pl:Int) (pl:Int) l (i:Int) m1 g 0 (pl:Int) l len (i:Int) true=Ye m l (is++[(g,())]) l len ((i+1:Nat):Int):=by
  have b1:Zb (is.length+[(g,())].length) 1=true:=Zej (by grind) (by omega);simp only [Zm2,dF (show ¬ (pl:Int)<(pl:Int) by omega),cond_true,cond_false,b1,Zh0 (show i<=1000000 by omega)]

theorem t40 (R:Option (List (Bool×Unit)×Int×Unit)->Prop)(m:Nat)(A B:Int)(two:Bool)(hA:0<=A/\A.toNat<is.length)(hB:two=true->0<=B/\B.toNat<is.length)(hi:is.length<=1000)(hi2:i<=1000)
    (hT:(isAt is A&&(!two||isAt is B))=true -> ∀ m',m<=m' -> R (Ye m' l (is++[(g,())]) l len ((i+1:Nat):Int)))
    (hF:(isAt is A&&(!two||isAt is B))=false->R (some ([],(i:Int),()))) :
    R (Ym (m+3) true is ([(A,()),(B,())].take (bif two then 2 else 1)) (((bif two then 2 else 1:Nat)):Int) 0 l (i:Int) g l len (i:Int) true true):=by
  cases two with
  | false=>have s0:=Yby is l i len g (m+2) 0 [(A,())] (A,()) (by simp) rfl hA.1 hA.2 (by simp);have s1:=Yp5 is l i len g (m+1) [(A,())] hi hi2;grind
  | true=>have s0:=Yby is l i len g (m+2) 0 [(A,()),(B,())] (A,()) (by simp) rfl hA.1 hA.2 (by simp);have s1:=Yby is l i len g (m+1) 1 [(A,()),(B,())] (B,()) (by simp) rfl (hB rfl).1 (hB rfl).2 (by simp);have s2:=Yp5 is l i len g m [(A,()),(B,())] hi hi2;grind

theorem t28 (R:Option (List (Bool×Unit)×Int×Unit)->Prop)(m:Nat)(A B:Int)(two m1:Bool)(hA:0<=A/\A.toNat<is.length)(hB:two=true->0<=B/\B.toNat<is.length)(hi:is.length<=1000)(hi2:i<=1000)
    (hT:((!isAt is A&&(!two || !isAt is B))||(m1&&(isAt is A&&(!two||isAt is B))))=true -> ∀ m',m<=m' -> R (Ye m' l (is++[(g,())]) l len ((i+1:Nat):Int)))
    (hF:((!isAt is A&&(!two || !isAt is B))||(m1&&(isAt is A&&(!two||isAt is B))))=false->R (some ([],(i:Int),()))) :
    R (Yz (m+6) false is [(A,()),(B,())] (((bif two then 2 else 1:Nat)):Int) (((bif two then 2 else 1:Nat)):Int) 0 l (i:Int) m1 g 0 (((bif two then 2 else 1:Nat)):Int) l len (i:Int) true):=by
  have go40:∀ mm,m<=mm->(!isAt is A&&(!two || !isAt is B))=false->m1=true->R (Ym (mm+3) true is ([(A,()),(B,())].take (bif two then 2 else 1)) (((bif two then 2 else 1:Nat)):Int) 0 l (i:Int) g l len (i:Int) true true):=fun mm hm h1 h2=>t40 is l i len g R mm A B two hA hB hi hi2 (fun h m' hm' => hT (by grind) m' (by omega)) (fun h=>hF (by grind));have pls:(bif two then 2 else 1:Nat)<=1000:=by grind
  have plp:0<(bif two then 2 else 1:Nat):=by grind
  have s0:=Ylc is l i len g (m+5) 0 (bif two then 2 else 1) [(A,()),(B,())] m1 (A,()) plp rfl hA.1 hA.2 pls;show R (Yz (m+5+1) false is [(A,()),(B,())] (((bif two then 2 else 1:Nat)):Int) (((bif two then 2 else 1:Nat)):Int) ((0:Nat):Int) l (i:Int) m1 g 0 (((bif two then 2 else 1:Nat)):Int) l len (i:Int) true);rw [s0];cases hv:isAt is A with
  | true=>grind
  | false =>
   cases two with
   | false=>have s1:=Yp6 is l i len g (m+4) 1 [(A,()),(B,())] m1 hi hi2;grind
   | true =>
    have s1:=Ylc is l i len g (m+4) 1 2 [(A,()),(B,())] m1 (B,()) (by omega) rfl (hB rfl).1 (hB rfl).2 (by omega);show R (Yz (m+4+1) false is [(A,()),(B,())] ((2:Nat):Int) ((2:Nat):Int) ((1:Nat):Int) l (i:Int) m1 g 0 ((2:Nat):Int) l len (i:Int) true);rw [s1];cases hv2:isAt is B with
    | true=>grind
    | false=>have s2:=Yp6 is l i len g (m+3) 2 [(A,()),(B,())] m1 hi hi2;grind

theorem t14 (R:Option (List (Bool×Unit)×Int×Unit)->Prop)(m:Nat)(A B:Int)(two m0 m1:Bool)(hA:0<=A/\A.toNat<is.length)(hB:two=true->0<=B/\B.toNat<is.length)(hi:is.length<=1000)(hi2:i<=1000)
    (hT:((m0&&(!isAt is A&&(!two || !isAt is B)))||(m1&&(isAt is A&&(!two||isAt is B))))=true -> ∀ m',m<=m' -> R (Ye m' l (is++[(g,())]) l len ((i+1:Nat):Int)))
    (hF:((m0&&(!isAt is A&&(!two || !isAt is B)))||(m1&&(isAt is A&&(!two||isAt is B))))=false->R (some ([],(i:Int),()))) :
    R (Yl (m+7) l is (i:Int) m0 m1 g [(A,()),(B,())] (((bif two then 2 else 1:Nat)):Int) l len (i:Int)):=by
  show R (Yl (m+6+1) l is (i:Int) m0 m1 g [(A,()),(B,())] (((bif two then 2 else 1:Nat)):Int) l len (i:Int));simp only [Zw3,J0l,J0g,List.drop_zero];cases m0 with
  | true=>exact t28 is l i len g R m A B two m1 hA hB hi hi2 (fun h=>hT (by grind)) (fun h=>hF (by grind))
  | false =>
   cases m1 with
   | true=>exact t40 is l i len g R (m+3) A B two hA hB hi hi2 (fun h m' hm=>hT (by grind) m' (by omega)) (fun h=>hF (by grind))
   | false=>grind
end
end Tg

/- Kinds: told, and what the reference says. -/
namespace Tg
open Go.Abs (Zb Zf tmm)

def gAt (l:List Nd)(p:Int):Bool:=gv (l.getD p.toNat (0,0,0,0,0,())).1
def fitS (l:List Nd)(x:Nd):Bool :=
 if x.1<=4 then true
 else if x.1=5 then !gAt l x.2.2.1
 else if x.1=6 then gAt l x.2.2.1
 else if x.1=16∨x.1=17 then gAt l x.2.2.1==gAt l x.2.2.2.1
 else if 18<=x.1 then gAt l x.2.2.1&&gAt l x.2.2.2.1
 else !gAt l x.2.2.1 && !gAt l x.2.2.2.1
def Qo (l:List Nd):Nat->List Nd->Nat
 | i,[]=>i
 | i,x::r=>bif fitS l x then Qo l (i+1) r else i

def okN (i:Nat)(x:Nd):Prop:=1<=x.1/\x.1<=19/\0<=x.2.2.1/\x.2.2.1<=i/\0<=x.2.2.2.1/\x.2.2.2.1<=i/\(4<x.1->x.2.2.1<i)/\(6<x.1->x.2.2.2.1<i)

def gvs (l:List Nd):List (Bool×Unit):=l.map fun x=>(gv x.1,())
theorem Yos (l:List Nd):(gvs l).length=l.length:=by simp [gvs]
theorem Zsf {l:List Nd}{i:Nat}{p:Int}(h0:0<=p)(h:p<i)(hi:i<=l.length):isAt (gvs (l.take i)) p=gAt l p:=by unfold isAt gAt gvs;grind

theorem Z2a (l:List Nd)(hl:l.length<=1000)(hok:∀ i x,l[i]? = some x->okN i x):∀ (rest:List Nd) (i n:Nat),i+rest.length=l.length->l.drop i=rest->9 * rest.length+1<=n ->
    Ye n l (gvs (l.take i)) l (l.length:Int) (i:Int)=some (bif Qo l i rest==l.length then gvs l else [],(Qo l i rest:Int),())
  | [],i,n,hlen,hd,hn=>by obtain⟨m,rfl⟩:∃ m,n=m+1:=⟨n - 1,by omega⟩;simp only [List.length_nil,Nat.add_zero] at hlen;subst hlen;simp only [Zoy,dF (show ¬ (l.length:Int)<(l.length:Int) by omega),cond_false,J0g,Qo,beq_self_eq_true,cond_true,List.take_length]
  | x::rest,i,n,hlen,hd,hn=>by
   simp only [J0p] at hlen hn;obtain⟨m,rfl⟩:∃ m,n=m+9:=⟨n - 9,by omega⟩;have hx:l[i]? = some x:=by have:=congrArg (fun z=>z[0]?) hd;grind
   have hd' : l.drop (i+1)=rest:=by have:=congrArg (List.drop 1) hd;simpa [List.drop_drop] using this
   have hlt:i<l.length:=by omega
   obtain⟨k1,k2,a0,a1,b0,b1,a2,b2⟩:=hok i x hx;have htl:(gvs (l.take i)).length=i:=by rw [Yos,List.length_take];omega
   have happ:gvs (l.take i)++[(gv x.1,())]=gvs (l.take (i+1)):=by rw [List.take_add_one,hx];simp [gvs]
   have ih:=fun m' (h:m<=m')=>Z2a l hl hok rest (i+1) m' (by omega) hd' (by omega);have next:∀ m',m<=m' -> fitS l x=true->Ye m' l (gvs (l.take i)++[(gv x.1,())]) l (l.length:Int) ((i+1:Nat):Int)=some (bif Qo l i (x::rest)==l.length then gvs l else [],(Qo l i (x::rest):Int),()):=by intro m' hm hf;rw [happ,ih m' hm];simp only [Qo,hf,cond_true]
   have stop:fitS l x=false->(some (([]:List (Bool×Unit)),(i:Int),()):Option (List (Bool×Unit)×Int×Unit))=some (bif Qo l i (x::rest)==l.length then gvs l else [],(Qo l i (x::rest):Int),()):=by
    intro hf;have e:(i==l.length)=false:=by grind
    simp only [Qo,hf,cond_false,e]
   -- a node with parts
   have node:∀ (g two m0 m1:Bool),g=gv x.1->4<x.1->(two=true->6<x.1) ->
       fitS l x=((m0&&(!gAt l x.2.2.1&&(!two || !gAt l x.2.2.2.1)))||(m1&&(gAt l x.2.2.1&&(!two||gAt l x.2.2.2.1)))) ->
       Yl (m+8) l (gvs (l.take i)) (i:Int) m0 m1 g [(x.2.2.1,()),(x.2.2.2.1,())] (((bif two then 2 else 1:Nat)):Int) l (l.length:Int) (i:Int)=some (bif Qo l i (x::rest)==l.length then gvs l else [],(Qo l i (x::rest):Int),()):=by
     intro g two m0 m1 hg h4 h6 hf;subst hg;have eA:=Zsf a0 (a2 h4) (show i<=l.length by omega);refine t14 (gvs (l.take i)) l i (l.length:Int) (gv x.1) (fun z=>z=_) (m+1) x.2.2.1 x.2.2.2.1 two m0 m1 ⟨a0,by grind⟩ (fun h=>⟨b0,by grind⟩) (by omega) (by omega) (fun h m' hm=>?_) (fun h=>?_)
     . refine next m' (by omega) ?_
       rw [hf,<- h,eA];cases two with
       | false=>rfl
       | true=>rw [Zsf b0 (b2 (h6 rfl)) (show i<=l.length by omega)]
     . refine stop ?_;rw [hf,<- h,eA];cases two with
       | false=>rfl
       | true=>rw [Zsf b0 (b2 (h6 rfl)) (show i<=l.length by omega)]
   rw [show m+9=(m+8)+1 from rfl,Zoy];simp only [dT (show (i:Int)<(l.length:Int) by omega),cond_true,dT (Int.natCast_nonneg i),J0l,hx];by_cases h4:x.1<=4
   . have hg:gv x.1=false:=by unfold gv;grind
     have bb:Zb ((gvs (l.take i)).length+1) 1=true:=Zej (by omega) (by omega);have:=next (m+8) (by omega) (by unfold fitS;grind)
     rw [hg] at this;simp only [dT h4,cond_true,bb,Zh0 (show i<=1000000 by omega)];grind
   . simp only [dF h4,cond_false];by_cases h5:x.1=5
     . have e5:(x.1==5)=true:=by grind
       simp only [e5,cond_true];exact node false false true false (by rw [h5];rfl) (by omega) (fun h=>by cases h) (by unfold fitS;grind)
     . have e5:(x.1==5)=false:=by grind
       simp only [e5,cond_false];by_cases h6:x.1=6
       . have e6:(x.1==6)=true:=by grind
         simp only [e6,cond_true];exact node true false false true (by rw [h6];rfl) (by omega) (fun h=>by cases h) (by unfold fitS;grind)
       . have e6:(x.1==6)=false:=by grind
         simp only [e6,cond_false];have hgF:x.1<=11->false=gv x.1:=fun h=>by unfold gv;grind
         have hgT:¬ x.1<=11->true=gv x.1:=fun h=>by unfold gv;grind
         by_cases h11:x.1<=11
         . simp only [dT h11,cond_true];exact node false true true false (hgF h11) (by omega) (fun _=>by omega) (by unfold fitS;grind)
         . simp only [dF h11,cond_false];by_cases h15:x.1<=15
           . simp only [dT h15,cond_true];exact node true true true false (hgT h11) (by omega) (fun _=>by omega) (by unfold fitS;grind)
           . simp only [dF h15,cond_false];by_cases h17:x.1<=17
             . simp only [dT h17,cond_true];exact node true true true true (hgT h11) (by omega) (fun _=>by omega) (by
                unfold fitS;grind)
             . simp only [dF h17,cond_false];exact node true true false true (hgT h11) (by omega) (fun _=>by omega) (by unfold fitS;grind)
end Tg

/- Kinds: the reference. -/
namespace Tg
open Go.Abs (Zb Zf tmm)

theorem Z8b (k:Int):Zfc k=some (gv k,()):=by rw [Zy3];unfold gv;grind

theorem Zh1 {l:List Nd}{p:Nat}(h:p<l.length):l[p]? = some (l.getD p (0,0,0,0,0,())):=by grind

theorem Yot {l:List Nd}{i:Nat}{x:Nd}(hx:l[i]? = some x)(hok:okN i x):Zpm l (i:Int)=some (fitS l x,()):=by
 obtain⟨k1,k2,a0,a1,b0,b1,a2,b2⟩:=hok;have hi:i<l.length:=(J0d.1 hx).1;have hA:x.2.2.1.toNat<l.length:=by omega
 have hB:x.2.2.2.1.toNat<l.length:=by omega
 rw [Z32];unfold fitS;simp only [dT (Int.natCast_nonneg i),cond_true,J0l,hx,dT a0,dT b0,Zh1 hA,Zh1 hB,Z8b];show _=some ((if x.1<=4 then true else if x.1=5 then !gAt l x.2.2.1 else if x.1=6 then gAt l x.2.2.1 else if x.1=16∨x.1=17 then gAt l x.2.2.1==gAt l x.2.2.2.1 else if 18<=x.1 then gAt l x.2.2.1&&gAt l x.2.2.2.1 else !gAt l x.2.2.1 && !gAt l x.2.2.2.1),());have gA:gv (l.getD x.2.2.1.toNat (0,0,0,0,0,())).1=gAt l x.2.2.1:=rfl;have gB:gv (l.getD x.2.2.2.1.toNat (0,0,0,0,0,())).1=gAt l x.2.2.2.1:=rfl;grind

theorem Zxt (l:List Nd)(hl:l.length<=1000)(hok:∀ i x,l[i]? = some x->okN i x):∀ (rest:List Nd) (i n:Nat),i+rest.length=l.length->l.drop i=rest->rest.length+1<=n ->
    Zdo n l (i:Int)=some ((Qo l i rest:Int),())
  | [],i,n,hlen,hd,hn=>by obtain⟨m,rfl⟩:∃ m,n=m+1:=⟨n - 1,by omega⟩;simp only [List.length_nil,Nat.add_zero] at hlen;subst hlen;simp only [Zmg,J0g,dF (show ¬ (l.length:Int)<(l.length:Int) by omega),cond_false,Qo]
  | x::rest,i,n,hlen,hd,hn=>by
   simp only [J0p] at hlen hn;obtain⟨m,rfl⟩:∃ m,n=m+1:=⟨n - 1,by omega⟩;have hx:l[i]? = some x:=by have:=congrArg (fun z=>z[0]?) hd;grind
   have hd' : l.drop (i+1)=rest:=by have:=congrArg (List.drop 1) hd;simpa [List.drop_drop] using this
   have ih:=Zxt l hl hok rest (i+1) m (by omega) hd' (by omega);simp only [Zmg,J0g,dT (show (i:Int)<(l.length:Int) by omega),cond_true,Yot hx (hok i x hx),Zh0 (show i<=1000000 by omega),ih,Qo];grind

theorem Yld:∀ (rest:List Nd) (acc acc' : List (Int×Int)),Good acc->runN rest acc=some acc' -> ∀ j x,rest[j]? = some x->okN (acc.length+j) x
 | [],acc,acc',hg,h,j,x,hj=>by grind
 | y::rest,acc,acc',hg,h,j,x,hj=>by
  simp only [runN] at h;split at h
  . rename_i a ha;have key:(∃ e:Int×Int,a=acc++[e]/\1<=e.1/\e.1<=acc.length+1/\1<=e.2/\e.2<=acc.length+1)/\okN acc.length y:=by
     have rk:∀ {a b:Int},Qv y a b=true->1<=y.1/\y.1<=19/\y.2.2.1=a/\y.2.2.2.1=b:=by intro a b h;unfold Qv at h;grind
     have kc:(cntK y.1=0↔y.1<=4)/\(cntK y.1=1↔4<y.1/\y.1<=6):=by unfold cntK;grind
     unfold Qf at ha;split at ha
     . rename_i c0;split at ha
       . rename_i hr;obtain⟨r1,r2,r3,r4⟩:=rk hr;refine⟨⟨_,(J0a ha).symm,by omega,by omega,by omega,by omega⟩,r1,r2,by omega,by omega,by omega,by omega,fun h=>?_,fun h=>?_⟩
         . grind
         grind
       grind
     . rename_i c0;split at ha
       . cases ha
       . rename_i hne;have hgl:=hg (acc.length - 1) (by omega);split at ha
         . rename_i c1;split at ha
           . rename_i hr;obtain⟨r1,r2,r3,r4⟩:=rk hr;refine⟨⟨_,(J0a ha).symm,by grind,by grind,by grind,by grind⟩,r1,r2,by omega,by omega,by omega,by omega,fun h=>by omega,fun h=>?_⟩;grind
           grind
         . split at ha
           . cases ha
           . rename_i hf;split at ha
             . rename_i hr;obtain⟨r1,r2,r3,r4⟩:=rk hr;have hgf:=hg ((acc.length:Int) - 1 - (gt acc (acc.length - 1)).1).toNat (by omega);exact⟨⟨_,(J0a ha).symm,by grind,by grind,by grind,by grind⟩,r1,r2,by omega,by omega,by omega,by omega,fun h=>by omega,fun h=>by omega⟩
             grind
    obtain⟨⟨e,rfl,he⟩,hy⟩:=key;cases j with
    | zero=>grind
    | succ j=>have:=Yld rest (acc++[e]) acc' (hg.app he) h j x (by grind);grind
  grind

theorem err0 {l:List Nd}(h:errN l=0):l.length<=60/\0<l.length /\ ∀ i x,l[i]? = some x->okN i x:=by
 unfold errN at h;split at h
 . omega
 . split at h
   . omega
   . rename_i h60 acc hr;cases ho:oneN acc with
     | false=>grind
     | true =>
      have hlen:acc.length=l.length:=by simpa using Zq5 l [] acc hr
      have:=Zxs ho;refine⟨by omega,by omega,fun i x hx=>?_⟩;simpa using Yld l [] acc Zxq hr i x hx
end Tg

/- Kinds of expressions: the functions are the reference's. -/
namespace Tg
open Go.Abs (Zb Zf tmm)

def Zha (l:List Nd):Nat:=Qo l 0 l
theorem Zxu (l:List Nd):∀ (rest:List Nd) (i:Nat),Qo l i rest<=i+rest.length
 | [],i=>Nat.le_refl _
 | x::rest,i=>by
  simp only [Qo,J0p];cases fitS l x with
  | false=>grind
  | true=>have:=Zxu l rest (i+1);grind
theorem You {l:List Nd}(h:errN l=0):Zpp l=some (bif Zha l==l.length then gvs l else [],(Zha l:Int),()):=by obtain⟨h60,h1,hok⟩:=err0 h;obtain⟨n,hn⟩:=Xz;have hok' : ∀ i x,l[i]? = some x->okN i x:=fun i x hx=>hok i x hx;refine (Z4a l).trans ?_;exact Z2a l (by omega) hok' l 0 fuel (by simp) (by simp) (by grind)
theorem Yle {l:List Nd}(h:errN l=0):Zmf l=some ((Zha l:Int),()):=by obtain⟨h60,h1,hok⟩:=err0 h;obtain⟨n,hn⟩:=Xz;refine (Zy4 l).trans ?_;exact Zxt l (by omega) hok l 0 fuel (by simp) (by simp) (by grind)

def ofK (l:List Nd):Bool×Int×Int×Unit:=if errN l=0 then (if Zha l<l.length then (false,(Zha l:Int),42,()) else (gAt l ((l.length - 1:Nat):Int),((l.length - 1:Nat):Int),0,())) else (false,0,errN l,())

theorem Z8c {a b:Int}(h:a=b):(a != b)=false:=by simp [h]
theorem Yvz {a b:Int}(h:a≠b):(a != b)=true:=by simp [h]

theorem Ysy (l:List Nd):Zw4 l=some (ofK l):=by
 rw [Ybc];unfold ofK;simp only [Zse];by_cases h:errN l=0
 . obtain⟨h60,h1,hok⟩:=err0 h;simp only [Z8c h,cond_false,if_pos h,You h,J0g];by_cases hw:Zha l<l.length
   . grind
   . have he:Zha l=l.length:=by have:=Zxu l l 0;unfold Zha at hw ⊢;omega
     have hwr:Go.IntKind.wrap Go.IntKind.i64 ((Zha l:Int) - 1)=((l.length - 1:Nat):Int):=by rw [he,w64 (by omega) (by omega)];omega
     have hg:(gvs l)[l.length - 1]? = some (gAt l ((l.length - 1:Nat):Int),()):=by unfold gvs gAt;grind
     simp_all
 grind
theorem Ysz (l:List Nd):Zwm l=some (ofK l):=by
 rw [Yat];unfold ofK;simp only [Z19];by_cases h:errN l=0
 . obtain⟨h60,h1,hok⟩:=err0 h;simp only [Z8c h,cond_false,if_pos h,Yle h,J0g];by_cases hw:Zha l<l.length
   . grind
   . have hwr:Go.IntKind.wrap Go.IntKind.i64 ((l.length:Int) - 1)=((l.length - 1:Nat):Int):=by rw [w64 (by omega) (by omega)];omega
     simp only [dF (show ¬ (Zha l:Int)<(l.length:Int) by omega),cond_false,if_neg hw,hwr,dT (Int.natCast_nonneg (l.length - 1)),cond_true,J0l,Zh1 (show l.length - 1<l.length by omega),Z8b];rfl
 grind

def Zcc (l:List Nd)(t:Bool):Int×Int×Unit:=bif (ofK l).2.2.1==0 then (bif !((ofK l).1==t) then ((ofK l).2.1,42,()) else (ofK l).2) else (ofK l).2
theorem Z8d (l:List Nd)(t:Bool):Zjm l t=some (Zcc l t):=by rw [Z4b];unfold Zcc;simp only [Ysy];grind
theorem Z8e (l:List Nd)(t:Bool):Zjk l t=some (Zcc l t):=by rw [Z33];unfold Zcc;simp only [Ysz];grind
theorem Yov (l:List Nd):Zjn l=some (Zcc l false):=by rw [Zw5];rw [Z8d]
theorem Yge (l:List Nd):Zhx l=some (Zcc l true):=by rw [Zzo];rw [Z8d]
theorem Znd {l:List Nd}{t:Bool}(hl:0<l.length)(h:errN l=0):0<=(Zcc l t).1/\(Zcc l t).1.toNat<l.length:=by
 have:0<=(ofK l).2.1/\(ofK l).2.1.toNat<l.length:=by unfold ofK;grind
 unfold Zcc;grind
end Tg

/- Sources. -/
namespace Tg
open Go.Abs (Zb Zf tmm)
abbrev IL:=List (Int×Unit)

def in03 (x:Int×Unit):Bool:=decide (0<=x.1)&&decide (x.1<=3)
def Zdy (l:IL):Nat->IL->Bool
 | _,[]=>false
 | i,x::r=>(l.take i).any (fun y=>y.1==x.1)||Zdy l (i+1) r
def srcE (l:IL)(join:Bool):Int:=if 4<l.length then 4 else if l.length=0 then 8 else if (join && !(l.length==2))=true then 8 else if l.all in03=true then (bif Zdy l 0 l then 43 else 0) else 8

theorem Z8f:∀ (l:IL) (acc:List Int),(Zbg l acc).length<=acc.length+l.length
 | [],acc=>Nat.le_refl _
 | x::l,acc=>by simp only [Zbg,J0p];have:=Z8f l (if acc.contains x.1 then acc else acc++[x.1]);grind
theorem Z2b (l:IL):∀ (rest:IL) (i:Nat),l.drop i=rest->i+rest.length=l.length->decide ((Zbg rest ((l.take i).map (·.1))).length<l.length)=Zdy l i rest
 | [],i,hd,hl=>by simp only [Zbg,Zdy,List.length_map,List.length_take];grind
 | x::rest,i,hd,hl=>by
  simp only [J0p] at hl;have hx:l[i]? = some x:=by have:=congrArg (fun z=>z[0]?) hd;grind
  have hd' : l.drop (i+1)=rest:=by have:=congrArg (List.drop 1) hd;simpa [List.drop_drop] using this
  rw [Bool.eq_iff_iff,J0h];simp only [Zbg,Zdy];have hc:((l.take i).map (·.1)).contains x.1=(l.take i).any (fun y=>y.1==x.1):=by grind
  rw [hc];cases ha:(l.take i).any (fun y=>y.1==x.1) with
  | true=>simp only [if_true,Bool.true_or,iff_true];have:=Z8f rest ((l.take i).map (·.1));grind
  | false =>
   simp only [J0r,if_false,Bool.false_or];have e:(l.take i).map (·.1)++[x.1]=(l.take (i+1)).map (·.1):=by grind
   rw [e];have:=Z2b l rest (i+1) hd' (by omega);grind

theorem Z8g {l:IL}(h4:l.length<=4)(h:l.all in03=true):Yb l=some (Int.ofNat (Zbg l []).length,()):=by
 unfold Yb;have h1:l.all (fun x=>in64 x.1)=true:=by rw [List.all_eq_true] at h ⊢;intro x hx;have:=h x hx;unfold in03 at this;rw [J0e,J0h,J0h] at this;unfold in64;grind
 grind

theorem Z8h (l:IL)(h4:l.length<=4):∀ (rest:IL) (i n:Nat),i+rest.length=l.length->l.drop i=rest->(l.take i).all in03=true->rest.length+1<=n ->
    Zaj n l (l.length:Int) (i:Int) l false=some (bif rest.all in03 then (bif Zdy l 0 l then 43 else 0) else 8,())
  | [],i,n,hlen,hd,ht,hn=>by
   obtain⟨m,rfl⟩:∃ m,n=m+1:=⟨n - 1,by omega⟩;simp only [List.length_nil,Nat.add_zero] at hlen;subst hlen;rw [List.take_length] at ht;have hdd:=Z2b l l 0 (by simp) (by simp);simp only [List.take_zero,List.map_nil] at hdd;have hd2:decide (Int.ofNat (Zbg l []).length<(l.length:Int))=Zdy l 0 l:=by grind
   simp only [Zfs,dF (show ¬ (l.length:Int)<(l.length:Int) by omega),cond_false,Z8g h4 ht,List.all_nil,cond_true];grind
  | x::rest,i,n,hlen,hd,ht,hn=>by
   simp only [J0p] at hlen hn;obtain⟨m,rfl⟩:∃ m,n=m+1:=⟨n - 1,by omega⟩;have hx:l[i]? = some x:=by have:=congrArg (fun z=>z[0]?) hd;grind
   have hd' : l.drop (i+1)=rest:=by have:=congrArg (List.drop 1) hd;simpa [List.drop_drop] using this
   simp only [Zfs,dT (show (i:Int)<(l.length:Int) by omega),cond_true,dT (Int.natCast_nonneg i),J0l,hx,List.all_cons];by_cases h0:x.1<0
   . have e:in03 x=false:=by unfold in03;grind
     grind
   . by_cases h4' : x.1>=4
     . have e:in03 x=false:=by unfold in03;grind
       grind
     . have e:in03 x=true:=by unfold in03;grind
       have ih:=Z8h l h4 rest (i+1) m (by omega) hd' (by grind) (by omega);simp only [dF h0,cond_false,dF h4',e,Bool.true_and,Zh0 (show i<=1000000 by omega),ih]

theorem Yow (l:IL)(join:Bool):Zfo l join=some (srcE l join,()):=by
 obtain⟨n,hn⟩:=Xz;rw [Zqv];unfold srcE;by_cases h4:4<l.length
 . grind
 . have hl:=Z8h l (by omega) l 0 fuel (by simp) (by simp) (by simp) (by grind);grind
end Tg

/- Sources: the reference. -/
namespace Tg
open Go.Abs (Zb Zf tmm)

theorem Zzv {l:IL}{k i:Nat}(hi:i<=l.length)(hk:k<i)(p:Int×Unit->Bool):((l.take i).drop k).any p=(p (l[k]'(by omega))||((l.take i).drop (k+1)).any p):=by rw [List.drop_eq_getElem_cons (by grind),List.any_cons,List.getElem_take]

theorem Z2c (l:IL)(h4:l.length<=4)(i:Nat)(x:Int×Unit)(hx:l[i]? = some x):∀ (c k n:Nat),k+c=i->c<n ->
    ∃ m',n - c - 1<=m' /\ Q6 n l (i:Int) (k:Int)=bif ((l.take i).drop k).any (fun y=>y.1==x.1) then some (43,()) else Xv m' l ((i+1:Nat):Int)
  | 0,k,n,hk,hn=>by
   obtain⟨m,rfl⟩:∃ m,n=m+1:=⟨n - 1,by omega⟩;have hi:i<l.length:=(J0d.1 hx).1;simp only [Nat.add_zero] at hk;subst hk;refine⟨m,by omega,?_⟩;have e:((l.take k).drop k).any (fun y=>y.1==x.1)=false:=by grind
   rw [e];simp only [Zhr,dF (show ¬ (k:Int)<(k:Int) by omega),cond_false,Zh0 (show k<=1000000 by omega)]
  | c+1,k,n,hk,hn=>by
   obtain⟨m,rfl⟩:∃ m,n=m+1:=⟨n - 1,by omega⟩;have hi:i<l.length:=(J0d.1 hx).1;have hkl:k<l.length:=by omega
   obtain⟨m',h1,h2⟩:=Z2c l h4 i x hx c (k+1) m (by omega) (by omega);refine⟨m',by omega,?_⟩;rw [Zzv (by omega) (by omega)];simp only [Zhr,dT (show (k:Int)<(i:Int) by omega),cond_true,dT (Int.natCast_nonneg k),dT (Int.natCast_nonneg i),J0l,J0c hkl,hx,Zh0 (show k<=1000000 by omega),h2];grind

theorem Z2d (l:IL)(h4:l.length<=4):∀ (rest:IL) (i n:Nat),i+rest.length=l.length->l.drop i=rest->10 * rest.length+1<=n ->
    Xv n l (i:Int)=some (bif Zdy l i rest then 43 else 0,())
  | [],i,n,hlen,hd,hn=>by obtain⟨m,rfl⟩:∃ m,n=m+1:=⟨n - 1,by omega⟩;simp only [List.length_nil,Nat.add_zero] at hlen;subst hlen;simp only [Zhq,J0g,dF (show ¬ (l.length:Int)<(l.length:Int) by omega),cond_false,Zdy]
  | x::rest,i,n,hlen,hd,hn=>by
   simp only [J0p] at hlen hn;obtain⟨m,rfl⟩:∃ m,n=m+1:=⟨n - 1,by omega⟩;have hx:l[i]? = some x:=by have:=congrArg (fun z=>z[0]?) hd;grind
   have hd' : l.drop (i+1)=rest:=by have:=congrArg (List.drop 1) hd;simpa [List.drop_drop] using this
   obtain⟨m',h1,h2⟩:=Z2c l h4 i x hx i 0 m (by omega) (by omega);have ih:=Z2d l h4 rest (i+1) m' (by omega) hd' (by omega);have h2' : Q6 m l (i:Int) 0=_:=h2;simp only [Zhq,J0g,dT (show (i:Int)<(l.length:Int) by omega),cond_true,h2',ih,Zdy,List.drop_zero];grind

theorem Yen (l:IL)(h4:l.length<=4):∀ (rest:IL) (i n:Nat),i+rest.length=l.length->l.drop i=rest->rest.length+100<=n ->
    Zau n l (i:Int)=some (bif rest.all in03 then (bif Zdy l 0 l then 43 else 0) else 8,())
  | [],i,n,hlen,hd,hn=>by obtain⟨m,rfl⟩:∃ m,n=m+2:=⟨n - 2,by omega⟩;simp only [List.length_nil,Nat.add_zero] at hlen;subst hlen;have ho:=Z2d l h4 l 0 m (by simp) (by simp) (by omega);have ho' : Xv m l 0=_:=ho;rw [show m+2=(m+1)+1 from rfl];simp only [Zir,J0g,dF (show ¬ (l.length:Int)<(l.length:Int) by omega),cond_false,Zr5,ho',List.all_nil,cond_true]
  | x::rest,i,n,hlen,hd,hn=>by
   simp only [J0p] at hlen hn;obtain⟨m,rfl⟩:∃ m,n=m+1:=⟨n - 1,by omega⟩;have hx:l[i]? = some x:=by have:=congrArg (fun z=>z[0]?) hd;grind
   have hd' : l.drop (i+1)=rest:=by have:=congrArg (List.drop 1) hd;simpa [List.drop_drop] using this
   have ih:=Yen l h4 rest (i+1) m (by omega) hd' (by omega);simp only [Zir,J0g,dT (show (i:Int)<(l.length:Int) by omega),cond_true,dT (Int.natCast_nonneg i),J0l,hx,Zh0 (show i<=1000000 by omega),ih,List.all_cons];by_cases h0:x.1<0
   . have e:in03 x=false:=by unfold in03;grind
     grind
   . by_cases h4' : x.1>3
     . have e:in03 x=false:=by unfold in03;grind
       grind
     . have e:in03 x=true:=by unfold in03;grind
       grind

theorem Ylf (l:IL)(join:Bool):Qb l join=some (srcE l join,()):=by
 obtain⟨n,hn⟩:=Xz;rw [Ztm];unfold srcE;by_cases h4:4<l.length
 . grind
 . have hl:=Yen l (by omega) l 0 fuel (by simp) (by simp) (by grind);grind
end Tg

/- Clauses and checks. -/
namespace Tg
open Go.Abs (Zb Zf tmm)
abbrev Qr:=Int×List (Int×Int×Int×Int×Int×Unit)×List (Int×Unit)×Bool×List (Int×Int×Int×Int×Int×Unit)×Int×Int×Int×Bool×Int×Unit

def fitW (w:Int×Int×Int×Unit):Bool:=!decide (w.2.1<1)&&(!decide (w.2.1>1073741824)&&(bif w.1==2 then decide (w.2.2.1>=1)&&(decide (w.2.2.1<=w.2.1)&&decide (w.2.1<=Go.IntKind.wrap Go.IntKind.i64 (16 * w.2.2.1))) else ((w.1==1||w.1==3)&&w.2.2.1==0)))
theorem Ys0 (w:Int×Int×Int×Unit):Zg3 w=some (fitW w,()):=by rw [Z30];unfold fitW;grind
theorem Yv0 (w:Int×Int×Int×Unit):Zg9 w=some (bif fitW w then 0 else 8,()):=by rw [Zr8];unfold fitW;grind

def Ztb (q:Qr):Int:=bif srcE q.2.2.1 q.2.2.2.1==0 then (bif fitW (q.2.2.2.2.2.1,q.2.2.2.2.2.2.1,q.2.2.2.2.2.2.2.1,()) && !(q.2.2.2.1&&q.2.2.2.2.2.1 != 1) then 0 else 8) else srcE q.2.2.1 q.2.2.2.1
def Zic (q:Qr):Int:=bif decide ((q.2.2.2.2.1.length:Int)>0)&&errN q.2.2.2.2.1 != 0 then errN q.2.2.2.2.1 else Ztb q
def chkC (q:Qr):Int :=
 bif decide (q.1<1)||(decide (q.1>4)||(decide (q.2.2.2.2.2.2.2.2.2.1<1)||decide (q.2.2.2.2.2.2.2.2.2.1>2))) then 8
 else bif q.1==1 then (bif decide ((q.2.1.length:Int)>0) then 8 else Zic q)
 else bif errN q.2.1 != 0 then errN q.2.1 else Zic q

theorem Ys1 (m:Nat)(q:Qr):Zdu (m+1) q.2.2.1 q.2.2.2.1 q.2.2.2.2.2.1 q.2.2.2.2.2.2.1 q.2.2.2.2.2.2.2.1=some (Ztb q,()):=by simp only [Zqw,Yow,Yv0];unfold Ztb;grind
theorem Yv1 (m:Nat)(q:Qr):Zb3 (m+2) q.2.2.1 q.2.2.2.1 q.2.2.2.2.1 q.2.2.2.2.2.1 q.2.2.2.2.2.2.1 q.2.2.2.2.2.2.2.1=some (Zic q,()):=by rw [show m+2=(m+1)+1 from rfl];simp only [Zr9,Zse,Ys1,J0g];unfold Zic;grind
theorem Ybz (q:Qr):Zib q=some (chkC q,()):=by
 obtain⟨n,hn⟩:=Xz;have h4:Zb3 fuel q.2.2.1 q.2.2.2.1 q.2.2.2.2.1 q.2.2.2.2.2.1 q.2.2.2.2.2.2.1 q.2.2.2.2.2.2.2.1=some (Zic q,()):=by rw [hn];exact Yv1 (n+999999999998) q
 rw [Ztt];unfold chkC;simp only [h4,Zse,J0g];grind
theorem Zq9 (x:Int):(x != 0) = !(x==0):=rfl
theorem Z8i (q:Qr):Zhs q=some (chkC q,()):=by
 rw [Zy2];unfold chkC Zic Ztb;simp only [Z19,Ylf,Ys0,J0g,Zq9];have hb:(q.1 != 1) = !(q.1==1):=rfl;rw [hb];cases decide (q.1<1) with
 | true=>rfl
 | false =>
 cases decide (q.1>4) with
 | true=>rfl
 | false =>
 cases decide (q.2.2.2.2.2.2.2.2.2.1<1) with
 | true=>rfl
 | false =>
 grind
end Tg

/- The check of a query is the reference's. -/
namespace Tg
open Go.Abs (Zb Zf tmm)

def atOf (l:List Nd)(p:Int):Int:=(l.getD p.toNat (0,0,0,0,0,())).2.2.2.2.1
def whQ (l:List Nd)(t:Bool)(r:Int×Int×Unit):Int×Int×Unit:=bif l.length==0 then r else bif (Zcc l t).2.1==0 then r else (atOf l (Zcc l t).1,(Zcc l t).2.1,())
def chkQ (q:Qr):Int×Int×Unit:=bif chkC q==0 then whQ q.2.1 false (whQ q.2.2.2.2.1 true (0,0,())) else (0,chkC q,())

theorem Ylg {q:Qr}(h:chkC q=0):(q.2.1.length≠0->errN q.2.1=0)/\(q.2.2.2.2.1.length≠0->errN q.2.2.2.2.1=0)/\fitW (q.2.2.2.2.2.1,q.2.2.2.2.2.2.1,q.2.2.2.2.2.2.2.1,())=true:=by
 have hw:∀ q:Qr,Zic q=0->(q.2.2.2.2.1.length≠0->errN q.2.2.2.2.1=0)/\fitW (q.2.2.2.2.2.1,q.2.2.2.2.2.2.1,q.2.2.2.2.2.2.2.1,())=true:=by
  intro q h;unfold Zic at h;have ht:Ztb q=0->fitW (q.2.2.2.2.2.1,q.2.2.2.2.2.2.1,q.2.2.2.2.2.2.2.1,())=true:=by intro h;unfold Ztb at h;grind
  grind
 unfold chkC at h;grind

theorem Zoe (q:Qr):Q7 q=some (chkQ q):=by
 rw [Zw6];unfold chkQ;simp only [Ybz,Zq9];by_cases h:chkC q=0
 . obtain⟨ha,hw,_⟩:=Ylg h;have e:(chkC q==0)=true:=by grind
   simp only [e,Bool.not_true,cond_false,cond_true,Yov,Yge,J0g];have wh:∀ {α:Type} (f:Int×Int×Unit->α),True:=fun _=>trivial;unfold whQ;have e1:((q.2.1.length:Int)==0)=(q.2.1.length==0):=by grind
   have e2:((q.2.2.2.2.1.length:Int)==0)=(q.2.2.2.2.1.length==0):=by grind
   rw [e1,e2];by_cases h1:q.2.1.length=0
   . have f1:(q.2.1.length==0)=true:=by grind
     simp only [f1,cond_true];by_cases h2:q.2.2.2.2.1.length=0
     . grind
     . have f2:(q.2.2.2.2.1.length==0)=false:=by grind
       obtain⟨w1,w2⟩:=Znd (t:=true) (show 0<q.2.2.2.2.1.length by omega) (hw h2);simp only [f2,cond_false,dT w1,cond_true,Zh1 w2];cases ((Zcc q.2.2.2.2.1 true).2.1==0) <;> rfl
   . have f1:(q.2.1.length==0)=false:=by grind
     obtain⟨v1,v2⟩:=Znd (t:=false) (show 0<q.2.1.length by omega) (ha h1);simp only [f1,cond_false,dT v1,cond_true,Zh1 v2];by_cases h2:q.2.2.2.2.1.length=0
     . have f2:(q.2.2.2.2.1.length==0)=true:=by grind
       simp only [f2,cond_true];cases ((Zcc q.2.1 false).2.1==0) <;> rfl
     . have f2:(q.2.2.2.2.1.length==0)=false:=by grind
       obtain⟨w1,w2⟩:=Znd (t:=true) (show 0<q.2.2.2.2.1.length by omega) (hw h2);simp only [f2,cond_false,dT w1,cond_true,Zh1 w2];cases ((Zcc q.2.1 false).2.1==0) <;> cases ((Zcc q.2.2.2.2.1 true).2.1==0) <;> rfl
 grind

theorem Yb0 (m:Nat)(l:List Nd)(hl:l.length≠0->errN l=0):Zbq (m+1) l=some (whQ l true (0,0,())):=by
 simp only [Zwn,Z8e,Zq9,J0g];unfold whQ;by_cases h2:l.length=0
 . grind
 . have f2:(l.length==0)=false:=by grind
   obtain⟨w1,w2⟩:=Znd (t:=true) (show 0<l.length by omega) (hl h2);simp only [f2,cond_false,dT (show (l.length:Int)>0 by omega),dT w1,cond_true,Zh1 w2];cases ((Zcc l true).2.1==0) <;> rfl
theorem Zxv (q:Qr):Zht q=some (chkQ q):=by
 rw [Zy6];unfold chkQ;simp only [Z8i,Zq9];by_cases h:chkC q=0
 . obtain⟨ha,hw,_⟩:=Ylg h;obtain⟨n,hn⟩:=Xz;have hr:Zbq fuel q.2.2.2.2.1=some (whQ q.2.2.2.2.1 true (0,0,())):=by rw [hn];exact Yb0 (n+999999999999) _ hw
   have e:(chkC q==0)=true:=by grind
   simp only [e,Bool.not_true,cond_false,cond_true];rw [Zy5];simp only [Z8e,Zq9,J0g,hr];rw [show whQ q.2.1 false (whQ q.2.2.2.2.1 true (0,0,()))=(bif q.2.1.length==0 then (whQ q.2.2.2.2.1 true (0,0,())) else bif (Zcc q.2.1 false).2.1==0 then (whQ q.2.2.2.2.1 true (0,0,())) else (atOf q.2.1 (Zcc q.2.1 false).1,(Zcc q.2.1 false).2.1,())) from rfl];by_cases h1:q.2.1.length=0
   . grind
   . have f1:(q.2.1.length==0)=false:=by grind
     obtain⟨v1,v2⟩:=Znd (t:=false) (show 0<q.2.1.length by omega) (ha h1);simp only [f1,cond_false,dT (show (q.2.1.length:Int)>0 by omega),dT v1,cond_true,Zh1 v2];cases ((Zcc q.2.1 false).2.1==0) <;> rfl
 grind
end Tg
