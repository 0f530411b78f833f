import Derived.Test.YtdppkfgoiagepaaGreatDoorBPN
/- Kinds: what fits. -/
set_option linter.unusedVariables false
set_option linter.unusedSimpArgs false
namespace Tg
open Go.Abs (Ze Zt tmm)

def gv (k:Int):Bool:=(k==6)||decide (12≤k)
def isAt (is:List (Bool×Unit))(p:Int):Bool:=(is.getD p.toNat (false,())).1
theorem Zxv {is:List (Bool×Unit)}{p:Int}(h:p.toNat<is.length):is[p.toNat]? = some (isAt is p,()):=by
 simp [isAt,List.getD_eq_getElem?_getD,List.getElem?_eq_getElem h]

section
variable (is:List (Bool×Unit)) (l:List Nd) (i:Nat) (len:Int) (g:Bool)

theorem Zz5 (m k:Nat)(ps:List (Int×Unit))(p:Int×Unit)(hk:k<ps.length)(hp:ps[k]? = some p)(h0:0≤p.1)(h1:p.1.toNat<is.length)(hs:ps.length≤1000) :
    Zl (m+1) true is ps (ps.length:Int) (k:Int) l (i:Int) g l len (i:Int) true true =
    bif isAt is p.1 then Zl m true is ps (ps.length:Int) ((k+1:Nat):Int) l (i:Int) g l len (i:Int) true true else some ([],(i:Int),()):=by
  simp only [Zh5,dT (show (k:Int)<(ps.length:Int) by omega),cond_true,dT (Int.natCast_nonneg k),Int.toNat_natCast,hp,dT h0,dT h1,Zxv h1,Zew (show k≤1000000 by omega)]
  cases isAt is p.1 <;> rfl
theorem Z9w (m:Nat)(ps:List (Int×Unit))(hi:is.length≤1000)(hi2:i≤1000) :
    Zl (m+1) true is ps (ps.length:Int) (ps.length:Int) l (i:Int) g l len (i:Int) true true=Z9 m l (is++[(g,())]) l len ((i+1:Nat):Int):=by
  have b1:Ze (is.length+[(g,())].length) 1=true:=Ze6 (by simp;omega) (by omega)
  simp only [Zh5,dF (show ¬ (ps.length:Int)<(ps.length:Int) by omega),cond_true,cond_false,b1,Zew (show i≤1000000 by omega)]
theorem Z6i (m k pl:Nat)(ps:List (Int×Unit))(m1:Bool)(p:Int×Unit)(hk:k<pl)(hp:ps[k]? = some p)(h0:0≤p.1)(h1:p.1.toNat<is.length)(hs:pl≤1000) :
    Z8 (m+1) false is ps (pl:Int) (pl:Int) (k:Int) l (i:Int) m1 g 0 (pl:Int) l len (i:Int) true =
    bif isAt is p.1 then (bif m1 then Zl m true is (ps.take pl) (pl:Int) 0 l (i:Int) g l len (i:Int) true true else some ([],(i:Int),()))
    else Z8 m false is ps (pl:Int) (pl:Int) ((k+1:Nat):Int) l (i:Int) m1 g 0 (pl:Int) l len (i:Int) true:=by
  simp only [Zh4,dT (show (k:Int)<(pl:Int) by omega),cond_true,dT (Int.natCast_nonneg k),Int.toNat_natCast,Nat.zero_add,dT hk,hp,dT h0,dT h1,Zxv h1,Zew (show k≤1000000 by omega),Int.ofNat_eq_natCast]
  cases isAt is p.1 <;> rfl
theorem Z9x (m pl:Nat)(ps:List (Int×Unit))(m1:Bool)(hi:is.length≤1000)(hi2:i≤1000) :
    Z8 (m+1) false is ps (pl:Int) (pl:Int) (pl:Int) l (i:Int) m1 g 0 (pl:Int) l len (i:Int) true=Z9 m l (is++[(g,())]) l len ((i+1:Nat):Int):=by
  have b1:Ze (is.length+[(g,())].length) 1=true:=Ze6 (by simp;omega) (by omega)
  simp only [Zh4,dF (show ¬ (pl:Int)<(pl:Int) by omega),cond_true,cond_false,b1,Zew (show i≤1000000 by omega)]

theorem t40 (R:Option (List (Bool×Unit)×Int×Unit)→Prop)(m:Nat)(A B:Int)(two:Bool)(hA:0≤A∧A.toNat<is.length)(hB:two=true→0≤B∧B.toNat<is.length)(hi:is.length≤1000)(hi2:i≤1000)
    (hT:(isAt is A&&(!two||isAt is B))=true → ∀ m',m≤m' → R (Z9 m' l (is++[(g,())]) l len ((i+1:Nat):Int)))
    (hF:(isAt is A&&(!two||isAt is B))=false→R (some ([],(i:Int),()))) :
    R (Zl (m+3) true is ([(A,()),(B,())].take (bif two then 2 else 1)) (((bif two then 2 else 1:Nat)):Int) 0 l (i:Int) g l len (i:Int) true true):=by
  cases two with
  | false =>
   have s0:=Zz5 is l i len g (m+2) 0 [(A,())] (A,()) (by simp) rfl hA.1 hA.2 (by simp)
   have s1:=Z9w is l i len g (m+1) [(A,())] hi hi2
   show R (Zl (m+2+1) true is [(A,())] (([(A,())]:List (Int×Unit)).length:Int) ((0:Nat):Int) l (i:Int) g l len (i:Int) true true)
   rw [s0]
   cases hv:isAt is A with
   | false =>
    rw [hv] at hF
    exact hF rfl
   | true =>
    rw [hv] at hT
    show R (Zl (m+1+1) true is [(A,())] (([(A,())]:List (Int×Unit)).length:Int) (([(A,())]:List (Int×Unit)).length:Int) l (i:Int) g l len (i:Int) true true)
    rw [s1]
    exact hT rfl _ (by omega)
  | true =>
   have s0:=Zz5 is l i len g (m+2) 0 [(A,()),(B,())] (A,()) (by simp) rfl hA.1 hA.2 (by simp)
   have s1:=Zz5 is l i len g (m+1) 1 [(A,()),(B,())] (B,()) (by simp) rfl (hB rfl).1 (hB rfl).2 (by simp)
   have s2:=Z9w is l i len g m [(A,()),(B,())] hi hi2
   show R (Zl (m+2+1) true is [(A,()),(B,())] (([(A,()),(B,())]:List (Int×Unit)).length:Int) ((0:Nat):Int) l (i:Int) g l len (i:Int) true true)
   rw [s0]
   cases hv:isAt is A with
   | false =>
    rw [hv] at hF
    exact hF rfl
   | true =>
    rw [hv] at hT hF
    show R (Zl (m+1+1) true is [(A,()),(B,())] (([(A,()),(B,())]:List (Int×Unit)).length:Int) ((1:Nat):Int) l (i:Int) g l len (i:Int) true true)
    rw [s1]
    cases hv2:isAt is B with
    | false =>
     rw [hv2] at hF
     exact hF rfl
    | true =>
     rw [hv2] at hT
     show R (Zl (m+1) true is [(A,()),(B,())] (([(A,()),(B,())]:List (Int×Unit)).length:Int) (([(A,()),(B,())]:List (Int×Unit)).length:Int) l (i:Int) g l len (i:Int) true true)
     rw [s2]
     exact hT rfl _ (by omega)

theorem t28 (R:Option (List (Bool×Unit)×Int×Unit)→Prop)(m:Nat)(A B:Int)(two m1:Bool)(hA:0≤A∧A.toNat<is.length)(hB:two=true→0≤B∧B.toNat<is.length)(hi:is.length≤1000)(hi2:i≤1000)
    (hT:((!isAt is A&&(!two || !isAt is B))||(m1&&(isAt is A&&(!two||isAt is B))))=true → ∀ m',m≤m' → R (Z9 m' l (is++[(g,())]) l len ((i+1:Nat):Int)))
    (hF:((!isAt is A&&(!two || !isAt is B))||(m1&&(isAt is A&&(!two||isAt is B))))=false→R (some ([],(i:Int),()))) :
    R (Z8 (m+6) false is [(A,()),(B,())] (((bif two then 2 else 1:Nat)):Int) (((bif two then 2 else 1:Nat)):Int) 0 l (i:Int) m1 g 0 (((bif two then 2 else 1:Nat)):Int) l len (i:Int) true):=by
  have go40:∀ mm,m≤mm→(!isAt is A&&(!two || !isAt is B))=false→m1=true→R (Zl (mm+3) true is ([(A,()),(B,())].take (bif two then 2 else 1)) (((bif two then 2 else 1:Nat)):Int) 0 l (i:Int) g l len (i:Int) true true):=fun mm hm h1 h2 =>
   t40 is l i len g R mm A B two hA hB hi hi2 (fun h m' hm' => hT (by rw [h1,h2,h];rfl) m' (by omega)) (fun h=>hF (by rw [h1,h2,h];rfl))
  have pls:(bif two then 2 else 1:Nat)≤1000:=by cases two <;> decide
  have plp:0<(bif two then 2 else 1:Nat):=by cases two <;> decide
  have s0:=Z6i is l i len g (m+5) 0 (bif two then 2 else 1) [(A,()),(B,())] m1 (A,()) plp rfl hA.1 hA.2 pls
  show R (Z8 (m+5+1) false is [(A,()),(B,())] (((bif two then 2 else 1:Nat)):Int) (((bif two then 2 else 1:Nat)):Int) ((0:Nat):Int) l (i:Int) m1 g 0 (((bif two then 2 else 1:Nat)):Int) l len (i:Int) true)
  rw [s0]
  cases hv:isAt is A with
  | true =>
   cases m1 with
   | false=>exact hF (by rw [hv];rfl)
   | true=>exact go40 (m+2) (by omega) (by rw [hv];rfl) rfl
  | false =>
   cases two with
   | false =>
    have s1:=Z9x is l i len g (m+4) 1 [(A,()),(B,())] m1 hi hi2
    show R (Z8 (m+4+1) false is [(A,()),(B,())] ((1:Nat):Int) ((1:Nat):Int) ((1:Nat):Int) l (i:Int) m1 g 0 ((1:Nat):Int) l len (i:Int) true)
    rw [s1]
    exact hT (by rw [hv];rfl) _ (by omega)
   | true =>
    have s1:=Z6i is l i len g (m+4) 1 2 [(A,()),(B,())] m1 (B,()) (by omega) rfl (hB rfl).1 (hB rfl).2 (by omega)
    show R (Z8 (m+4+1) false is [(A,()),(B,())] ((2:Nat):Int) ((2:Nat):Int) ((1:Nat):Int) l (i:Int) m1 g 0 ((2:Nat):Int) l len (i:Int) true)
    rw [s1]
    cases hv2:isAt is B with
    | true =>
     cases m1 with
     | false=>exact hF (by rw [hv,hv2];rfl)
     | true=>exact go40 (m+1) (by omega) (by rw [hv,hv2];rfl) rfl
    | false =>
     have s2:=Z9x is l i len g (m+3) 2 [(A,()),(B,())] m1 hi hi2
     show R (Z8 (m+3+1) false is [(A,()),(B,())] ((2:Nat):Int) ((2:Nat):Int) ((2:Nat):Int) l (i:Int) m1 g 0 ((2:Nat):Int) l len (i:Int) true)
     rw [s2]
     exact hT (by rw [hv,hv2];rfl) _ (by omega)

theorem t14 (R:Option (List (Bool×Unit)×Int×Unit)→Prop)(m:Nat)(A B:Int)(two m0 m1:Bool)(hA:0≤A∧A.toNat<is.length)(hB:two=true→0≤B∧B.toNat<is.length)(hi:is.length≤1000)(hi2:i≤1000)
    (hT:((m0&&(!isAt is A&&(!two || !isAt is B)))||(m1&&(isAt is A&&(!two||isAt is B))))=true → ∀ m',m≤m' → R (Z9 m' l (is++[(g,())]) l len ((i+1:Nat):Int)))
    (hF:((m0&&(!isAt is A&&(!two || !isAt is B)))||(m1&&(isAt is A&&(!two||isAt is B))))=false→R (some ([],(i:Int),()))) :
    R (Ye (m+7) l is (i:Int) m0 m1 g [(A,()),(B,())] (((bif two then 2 else 1:Nat)):Int) l len (i:Int)):=by
  show R (Ye (m+6+1) l is (i:Int) m0 m1 g [(A,()),(B,())] (((bif two then 2 else 1:Nat)):Int) l len (i:Int))
  simp only [Zp9,Int.toNat_natCast,Int.ofNat_eq_natCast,List.drop_zero]
  cases m0 with
  | true=>exact t28 is l i len g R m A B two m1 hA hB hi hi2 (fun h=>hT (by rw [Bool.true_and];exact h)) (fun h=>hF (by rw [Bool.true_and];exact h))
  | false =>
   cases m1 with
   | true=>exact t40 is l i len g R (m+3) A B two hA hB hi hi2 (fun h m' hm=>hT (by rw [h];rfl) m' (by omega)) (fun h=>hF (by rw [h];rfl))
   | false=>exact hF rfl
end
end Tg

/- Kinds: told, and what the reference says. -/
namespace Tg
open Go.Abs (Ze Zt tmm)

def gAt (l:List Nd)(p:Int):Bool:=gv (l.getD p.toNat (0,0,0,0,0,())).1
def fitS (l:List Nd)(x:Nd):Bool :=
 if x.1≤4 then true
 else if x.1=5 then !gAt l x.2.2.1
 else if x.1=6 then gAt l x.2.2.1
 else if x.1=16∨x.1=17 then gAt l x.2.2.1==gAt l x.2.2.2.1
 else if 18≤x.1 then gAt l x.2.2.1&&gAt l x.2.2.2.1
 else !gAt l x.2.2.1 && !gAt l x.2.2.2.1
def Xm (l:List Nd):Nat→List Nd→Nat
 | i,[]=>i
 | i,x::r=>bif fitS l x then Xm l (i+1) r else i

def okN (i:Nat)(x:Nd):Prop :=
 1≤x.1∧x.1≤19∧0≤x.2.2.1∧x.2.2.1≤i∧0≤x.2.2.2.1∧x.2.2.2.1≤i∧(4<x.1→x.2.2.1<i)∧(6<x.1→x.2.2.2.1<i)

def gvs (l:List Nd):List (Bool×Unit):=l.map fun x=>(gv x.1,())
theorem Z82 (l:List Nd):(gvs l).length=l.length:=by simp [gvs]
theorem Zmb {l:List Nd}{i:Nat}{p:Int}(h0:0≤p)(h:p<i)(hi:i≤l.length):isAt (gvs (l.take i)) p=gAt l p:=by
 unfold isAt gAt gvs
 have h1:p.toNat<l.length:=by omega
 have h2:p.toNat<i:=by omega
 simp [List.getD_eq_getElem?_getD,List.getElem?_eq_getElem h1,List.getElem?_take,h2]

theorem Ztf (l:List Nd)(hl:l.length≤1000)(hok:∀ i x,l[i]? = some x→okN i x):∀ (rest:List Nd) (i n:Nat),i+rest.length=l.length→l.drop i=rest→9 * rest.length+1≤n →
    Z9 n l (gvs (l.take i)) l (l.length:Int) (i:Int)=some (bif Xm l i rest==l.length then gvs l else [],(Xm l i rest:Int),())
  | [],i,n,hlen,hd,hn=>by
   obtain⟨m,rfl⟩:∃ m,n=m+1:=⟨n - 1,by omega⟩
   simp only [List.length_nil,Nat.add_zero] at hlen
   subst hlen
   simp only [Zji,dF (show ¬ (l.length:Int)<(l.length:Int) by omega),cond_false,Int.ofNat_eq_natCast,Xm,beq_self_eq_true,cond_true,List.take_length]
  | x::rest,i,n,hlen,hd,hn=>by
   simp only [List.length_cons] at hlen hn
   obtain⟨m,rfl⟩:∃ m,n=m+9:=⟨n - 9,by omega⟩
   have hx:l[i]? = some x:=by
    have:=congrArg (fun z=>z[0]?) hd
    simpa using this
   have hd' : l.drop (i+1)=rest:=by
    have:=congrArg (List.drop 1) hd
    simpa [List.drop_drop] using this
   have hlt:i<l.length:=by omega
   obtain⟨k1,k2,a0,a1,b0,b1,a2,b2⟩:=hok i x hx
   have htl:(gvs (l.take i)).length=i:=by rw [Z82,List.length_take];omega
   have happ:gvs (l.take i)++[(gv x.1,())]=gvs (l.take (i+1)):=by
    rw [List.take_add_one,hx]
    simp [gvs]
   have ih:=fun m' (h:m≤m')=>Ztf l hl hok rest (i+1) m' (by omega) hd' (by omega)
   have next:∀ m',m≤m' → fitS l x=true→Z9 m' l (gvs (l.take i)++[(gv x.1,())]) l (l.length:Int) ((i+1:Nat):Int)=some (bif Xm l i (x::rest)==l.length then gvs l else [],(Xm l i (x::rest):Int),()):=by
    intro m' hm hf
    rw [happ,ih m' hm]
    simp only [Xm,hf,cond_true]
   have stop:fitS l x=false→(some (([]:List (Bool×Unit)),(i:Int),()):Option (List (Bool×Unit)×Int×Unit))=some (bif Xm l i (x::rest)==l.length then gvs l else [],(Xm l i (x::rest):Int),()):=by
    intro hf
    have e:(i==l.length)=false:=by simp;omega
    simp only [Xm,hf,cond_false,e]
   -- a node with parts
   have node:∀ (g two m0 m1:Bool),g=gv x.1→4<x.1→(two=true→6<x.1) →
       fitS l x=((m0&&(!gAt l x.2.2.1&&(!two || !gAt l x.2.2.2.1)))||(m1&&(gAt l x.2.2.1&&(!two||gAt l x.2.2.2.1)))) →
       Ye (m+8) l (gvs (l.take i)) (i:Int) m0 m1 g [(x.2.2.1,()),(x.2.2.2.1,())] (((bif two then 2 else 1:Nat)):Int) l (l.length:Int) (i:Int)=some (bif Xm l i (x::rest)==l.length then gvs l else [],(Xm l i (x::rest):Int),()):=by
     intro g two m0 m1 hg h4 h6 hf
     subst hg
     have eA:=Zmb a0 (a2 h4) (show i≤l.length by omega)
     refine t14 (gvs (l.take i)) l i (l.length:Int) (gv x.1) (fun z=>z=_) (m+1) x.2.2.1 x.2.2.2.1 two m0 m1 ⟨a0,by rw [htl];have:=a2 h4;omega⟩ (fun h=>⟨b0,by rw [htl];have:=b2 (h6 h);omega⟩) (by omega) (by omega) (fun h m' hm=>?_) (fun h=>?_)
     · refine next m' (by omega) ?_
       rw [hf,← h,eA]
       cases two with
       | false=>rfl
       | true=>rw [Zmb b0 (b2 (h6 rfl)) (show i≤l.length by omega)]
     · refine stop ?_
       rw [hf,← h,eA]
       cases two with
       | false=>rfl
       | true=>rw [Zmb b0 (b2 (h6 rfl)) (show i≤l.length by omega)]
   rw [show m+9=(m+8)+1 from rfl,Zji]
   simp only [dT (show (i:Int)<(l.length:Int) by omega),cond_true,dT (Int.natCast_nonneg i),Int.toNat_natCast,hx]
   by_cases h4:x.1≤4
   · have hg:gv x.1=false:=by
      unfold gv
      simp only [Bool.or_eq_false_iff,beq_eq_false_iff_ne,ne_eq,decide_eq_false_iff_not]
      omega
     have bb:Ze ((gvs (l.take i)).length+1) 1=true:=Ze6 (by omega) (by omega)
     have:=next (m+8) (by omega) (by unfold fitS;rw [if_pos h4])
     rw [hg] at this
     simp only [dT h4,cond_true,bb,Zew (show i≤1000000 by omega)]
     exact this
   · simp only [dF h4,cond_false]
     by_cases h5:x.1=5
     · have e5:(x.1==5)=true:=by simpa using h5
       simp only [e5,cond_true]
       exact node false false true false (by rw [h5];rfl) (by omega) (fun h=>by cases h) (by unfold fitS;rw [if_neg h4,if_pos h5];simp)
     · have e5:(x.1==5)=false:=by simpa using h5
       simp only [e5,cond_false]
       by_cases h6:x.1=6
       · have e6:(x.1==6)=true:=by simpa using h6
         simp only [e6,cond_true]
         exact node true false false true (by rw [h6];rfl) (by omega) (fun h=>by cases h) (by unfold fitS;rw [if_neg h4,if_neg h5,if_pos h6];simp)
       · have e6:(x.1==6)=false:=by simpa using h6
         simp only [e6,cond_false]
         have hgF:x.1≤11→false=gv x.1:=fun h=>by
          unfold gv
          rw [e6,dF (by omega)];rfl
         have hgT:¬ x.1≤11→true=gv x.1:=fun h=>by
          unfold gv
          rw [e6,dT (by omega)];rfl
         by_cases h11:x.1≤11
         · simp only [dT h11,cond_true]
           exact node false true true false (hgF h11) (by omega) (fun _=>by omega) (by unfold fitS;rw [if_neg h4,if_neg h5,if_neg h6,if_neg (by omega),if_neg (by omega)];simp)
         · simp only [dF h11,cond_false]
           by_cases h15:x.1≤15
           · simp only [dT h15,cond_true]
             exact node true true true false (hgT h11) (by omega) (fun _=>by omega) (by unfold fitS;rw [if_neg h4,if_neg h5,if_neg h6,if_neg (by omega),if_neg (by omega)];simp)
           · simp only [dF h15,cond_false]
             by_cases h17:x.1≤17
             · simp only [dT h17,cond_true]
               exact node true true true true (hgT h11) (by omega) (fun _=>by omega) (by
                unfold fitS;rw [if_neg h4,if_neg h5,if_neg h6,if_pos (by omega)]
                cases gAt l x.2.2.1 <;> cases gAt l x.2.2.2.1 <;> rfl)
             · simp only [dF h17,cond_false]
               exact node true true false true (hgT h11) (by omega) (fun _=>by omega) (by unfold fitS;rw [if_neg h4,if_neg h5,if_neg h6,if_neg (by omega),if_pos (by omega)];simp)
end Tg

/- Kinds: the reference. -/
namespace Tg
open Go.Abs (Ze Zt tmm)

theorem Zxw (k:Int):Zcg k=some (gv k,()):=by
 rw [Zra]
 unfold gv
 simp only [ge_iff_le]
 cases (k==6) <;> rfl

theorem Zc1 {l:List Nd}{p:Nat}(h:p<l.length):l[p]? = some (l.getD p (0,0,0,0,0,())):=by
 simp [List.getD_eq_getElem?_getD,List.getElem?_eq_getElem h]

theorem Z83 {l:List Nd}{i:Nat}{x:Nd}(hx:l[i]? = some x)(hok:okN i x):Zj2 l (i:Int)=some (fitS l x,()):=by
 obtain⟨k1,k2,a0,a1,b0,b1,a2,b2⟩:=hok
 have hi:i<l.length:=(List.getElem?_eq_some_iff.1 hx).1
 have hA:x.2.2.1.toNat<l.length:=by omega
 have hB:x.2.2.2.1.toNat<l.length:=by omega
 rw [Zu3]
 unfold fitS
 simp only [dT (Int.natCast_nonneg i),cond_true,Int.toNat_natCast,hx,dT a0,dT b0,Zc1 hA,Zc1 hB,Zxw]
 show _=some ((if x.1≤4 then true else if x.1=5 then !gAt l x.2.2.1 else if x.1=6 then gAt l x.2.2.1 else if x.1=16∨x.1=17 then gAt l x.2.2.1==gAt l x.2.2.2.1 else if 18≤x.1 then gAt l x.2.2.1&&gAt l x.2.2.2.1 else !gAt l x.2.2.1 && !gAt l x.2.2.2.1),())
 have gA:gv (l.getD x.2.2.1.toNat (0,0,0,0,0,())).1=gAt l x.2.2.1:=rfl
 have gB:gv (l.getD x.2.2.2.1.toNat (0,0,0,0,0,())).1=gAt l x.2.2.2.1:=rfl
 rw [gA,gB]
 by_cases h4:x.1≤4
 · simp only [dT h4,cond_true,if_pos h4]
 · simp only [dF h4,cond_false,if_neg h4]
   by_cases h5:x.1=5
   · have e5:(x.1==5)=true:=by simpa using h5
     simp only [e5,cond_true,if_pos h5]
   · have e5:(x.1==5)=false:=by simpa using h5
     simp only [e5,cond_false,if_neg h5]
     by_cases h6:x.1=6
     · have e6:(x.1==6)=true:=by simpa using h6
       simp only [e6,cond_true,if_pos h6]
     · have e6:(x.1==6)=false:=by simpa using h6
       simp only [e6,cond_false,if_neg h6]
       by_cases h16:x.1=16
       · have e:(x.1==16)=true:=by simpa using h16
         rw [if_pos (Or.inl h16)]
         simp only [e,cond_true]
       · have e:(x.1==16)=false:=by simpa using h16
         simp only [e,cond_false]
         by_cases h17:x.1=17
         · have e:(x.1==17)=true:=by simpa using h17
           rw [if_pos (Or.inr h17)]
           simp only [e,cond_true]
         · have e:(x.1==17)=false:=by simpa using h17
           rw [if_neg (show ¬ (x.1=16∨x.1=17) by omega)]
           simp only [e,cond_false]
           by_cases h18:18≤x.1
           · simp only [ge_iff_le,dT h18,cond_true,if_pos h18]
             cases gAt l x.2.2.1 <;> rfl
           · simp only [ge_iff_le,dF h18,cond_false,if_neg h18]
             cases gAt l x.2.2.1 <;> rfl

theorem Zqg (l:List Nd)(hl:l.length≤1000)(hok:∀ i x,l[i]? = some x→okN i x):∀ (rest:List Nd) (i n:Nat),i+rest.length=l.length→l.drop i=rest→rest.length+1≤n →
    Za7 n l (i:Int)=some ((Xm l i rest:Int),())
  | [],i,n,hlen,hd,hn=>by
   obtain⟨m,rfl⟩:∃ m,n=m+1:=⟨n - 1,by omega⟩
   simp only [List.length_nil,Nat.add_zero] at hlen
   subst hlen
   simp only [Zhz,Int.ofNat_eq_natCast,dF (show ¬ (l.length:Int)<(l.length:Int) by omega),cond_false,Xm]
  | x::rest,i,n,hlen,hd,hn=>by
   simp only [List.length_cons] at hlen hn
   obtain⟨m,rfl⟩:∃ m,n=m+1:=⟨n - 1,by omega⟩
   have hx:l[i]? = some x:=by
    have:=congrArg (fun z=>z[0]?) hd
    simpa using this
   have hd' : l.drop (i+1)=rest:=by
    have:=congrArg (List.drop 1) hd
    simpa [List.drop_drop] using this
   have ih:=Zqg l hl hok rest (i+1) m (by omega) hd' (by omega)
   simp only [Zhz,Int.ofNat_eq_natCast,dT (show (i:Int)<(l.length:Int) by omega),cond_true,Z83 hx (hok i x hx),Zew (show i≤1000000 by omega),ih,Xm]
   cases fitS l x <;> rfl

theorem Z6j:∀ (rest:List Nd) (acc acc' : List (Int×Int)),Good acc→runN rest acc=some acc' → ∀ j x,rest[j]? = some x→okN (acc.length+j) x
 | [],acc,acc',hg,h,j,x,hj=>by simp at hj
 | y::rest,acc,acc',hg,h,j,x,hj=>by
  simp only [runN] at h
  split at h
  · rename_i a ha
    have key:(∃ e:Int×Int,a=acc++[e]∧1≤e.1∧e.1≤acc.length+1∧1≤e.2∧e.2≤acc.length+1)∧okN acc.length y:=by
     have rk:∀ {a b:Int},Xj y a b=true→1≤y.1∧y.1≤19∧y.2.2.1=a∧y.2.2.2.1=b:=by
      intro a b h
      unfold Xj at h
      simp only [Bool.and_eq_true,decide_eq_true_eq,beq_iff_eq] at h
      exact⟨h.1,h.2.1,h.2.2.2.2.2.2.1,h.2.2.2.2.2.2.2⟩
     have kc:(cntK y.1=0↔y.1≤4)∧(cntK y.1=1↔4<y.1∧y.1≤6):=by
      unfold cntK
      split
      · exact⟨⟨fun _=>by omega,fun _=>rfl⟩,⟨fun h=>by omega,fun h=>by omega⟩⟩
      · split
        · exact⟨⟨fun h=>by omega,fun h=>by omega⟩,⟨fun _=>by omega,fun _=>rfl⟩⟩
        · exact⟨⟨fun h=>by omega,fun h=>by omega⟩,⟨fun h=>by omega,fun h=>by omega⟩⟩
     unfold Xe at ha
     split at ha
     · rename_i c0
       split at ha
       · rename_i hr
         obtain⟨r1,r2,r3,r4⟩:=rk hr
         refine⟨⟨_,(Option.some.inj ha).symm,by omega,by omega,by omega,by omega⟩,r1,r2,by omega,by omega,by omega,by omega,fun h=>?_,fun h=>?_⟩
         · have:=kc.1.1 c0;omega
         · have:=kc.1.1 c0;omega
       · cases ha
     · rename_i c0
       split at ha
       · cases ha
       · rename_i hne
         have hgl:=hg (acc.length - 1) (by omega)
         split at ha
         · rename_i c1
           split at ha
           · rename_i hr
             obtain⟨r1,r2,r3,r4⟩:=rk hr
             refine⟨⟨_,(Option.some.inj ha).symm,by dsimp only;omega,by dsimp only;omega,by dsimp only;omega,by dsimp only;omega⟩,r1,r2,by omega,by omega,by omega,by omega,fun h=>by omega,fun h=>?_⟩
             have:=kc.2.1 c1;omega
           · cases ha
         · split at ha
           · cases ha
           · rename_i hf
             split at ha
             · rename_i hr
               obtain⟨r1,r2,r3,r4⟩:=rk hr
               have hgf:=hg ((acc.length:Int) - 1 - (gt acc (acc.length - 1)).1).toNat (by omega)
               exact⟨⟨_,(Option.some.inj ha).symm,by dsimp only;omega,by dsimp only;omega,by dsimp only;omega,by dsimp only;omega⟩,r1,r2,by omega,by omega,by omega,by omega,fun h=>by omega,fun h=>by omega⟩
             · cases ha
    obtain⟨⟨e,rfl,he⟩,hy⟩:=key
    cases j with
    | zero =>
     simp only [List.getElem?_cons_zero,Option.some.injEq] at hj
     subst hj
     exact hy
    | succ j =>
     have:=Z6j rest (acc++[e]) acc' (hg.app he) h j x (by simpa using hj)
     rw [show acc.length+(j+1)=(acc++[e]).length+j by simp;omega]
     exact this
  · cases h

theorem err0 {l:List Nd}(h:errN l=0):l.length≤60∧0<l.length ∧ ∀ i x,l[i]? = some x→okN i x:=by
 unfold errN at h
 split at h
 · omega
 · split at h
   · omega
   · rename_i h60 acc hr
     cases ho:oneN acc with
     | false=>rw [ho] at h;simp at h
     | true =>
      have hlen:acc.length=l.length:=by simpa using Zk9 l [] acc hr
      have:=Zqf ho
      refine⟨by omega,by omega,fun i x hx=>?_⟩
      simpa using Z6j l [] acc Zqd hr i x hx
end Tg

/- Kinds of expressions: the functions are the reference's. -/
namespace Tg
open Go.Abs (Ze Zt tmm)

def Zap (l:List Nd):Nat:=Xm l 0 l
theorem Zqh (l:List Nd):∀ (rest:List Nd) (i:Nat),Xm l i rest≤i+rest.length
 | [],i=>Nat.le_refl _
 | x::rest,i=>by
  simp only [Xm,List.length_cons]
  cases fitS l x with
  | false=>simp only [cond_false];omega
  | true =>
   have:=Zqh l rest (i+1)
   simp only [cond_true];omega
theorem Z84 {l:List Nd}(h:errN l=0):Zj3 l=some (bif Zap l==l.length then gvs l else [],(Zap l:Int),()):=by
 obtain⟨h60,h1,hok⟩:=err0 h
 obtain⟨n,hn⟩:=Zan
 have hok' : ∀ i x,l[i]? = some x→okN i x:=fun i x hx=>hok i x hx
 refine (Zu5 l).trans ?_
 exact Ztf l (by omega) hok' l 0 fuel (by simp) (by simp) (by rw [hn];omega)
theorem Z6k {l:List Nd}(h:errN l=0):Zhy l=some ((Zap l:Int),()):=by
 obtain⟨h60,h1,hok⟩:=err0 h
 obtain⟨n,hn⟩:=Zan
 refine (Zrb l).trans ?_
 exact Zqg l (by omega) hok l 0 fuel (by simp) (by simp) (by rw [hn];omega)

def ofK (l:List Nd):Bool×Int×Int×Unit :=
 if errN l=0 then (if Zap l<l.length then (false,(Zap l:Int),42,()) else (gAt l ((l.length - 1:Nat):Int),((l.length - 1:Nat):Int),0,())) else (false,0,errN l,())

theorem Zm6 {a b:Int}(h:a=b):(a != b)=false:=by simp [h]
theorem Zjj {a b:Int}(h:a≠b):(a != b)=true:=by simp [h]

theorem Ybd (l:List Nd):Zqa l=some (ofK l):=by
 rw [Zzz]
 unfold ofK
 simp only [Zma]
 by_cases h:errN l=0
 · obtain⟨h60,h1,hok⟩:=err0 h
   simp only [Zm6 h,cond_false,if_pos h,Z84 h,Int.ofNat_eq_natCast]
   by_cases hw:Zap l<l.length
   · simp only [dT (show (Zap l:Int)<(l.length:Int) by omega),cond_true,if_pos hw]
   · have he:Zap l=l.length:=by
      have:=Zqh l l 0
      unfold Zap at hw ⊢
      omega
     have hwr:Go.IntKind.wrap Go.IntKind.i64 ((Zap l:Int) - 1)=((l.length - 1:Nat):Int):=by rw [he,w64 (by omega) (by omega)];omega
     have hg:(gvs l)[l.length - 1]? = some (gAt l ((l.length - 1:Nat):Int),()):=by
      unfold gvs gAt
      rw [List.getElem?_map,Zc1 (show l.length - 1<l.length by omega)]
      rfl
     have hb:(Zap l==l.length)=true:=by simpa using he
     simp only [dF (show ¬ (Zap l:Int)<(l.length:Int) by omega),cond_false,if_neg hw,hwr,dT (Int.natCast_nonneg (l.length - 1)),cond_true,Int.toNat_natCast,hb,hg]
 · simp only [Zjj h,cond_true,if_neg h]
theorem Ybe (l:List Nd):Zp2 l=some (ofK l):=by
 rw [Zzw]
 unfold ofK
 simp only [Zte]
 by_cases h:errN l=0
 · obtain⟨h60,h1,hok⟩:=err0 h
   simp only [Zm6 h,cond_false,if_pos h,Z6k h,Int.ofNat_eq_natCast]
   by_cases hw:Zap l<l.length
   · simp only [dT (show (Zap l:Int)<(l.length:Int) by omega),cond_true,if_pos hw]
   · have hwr:Go.IntKind.wrap Go.IntKind.i64 ((l.length:Int) - 1)=((l.length - 1:Nat):Int):=by rw [w64 (by omega) (by omega)];omega
     simp only [dF (show ¬ (Zap l:Int)<(l.length:Int) by omega),cond_false,if_neg hw,hwr,dT (Int.natCast_nonneg (l.length - 1)),cond_true,Int.toNat_natCast,Zc1 (show l.length - 1<l.length by omega),Zxw]
     rfl
 · simp only [Zjj h,cond_true,if_neg h]

def Zaa (l:List Nd)(t:Bool):Int×Int×Unit:=bif (ofK l).2.2.1==0 then (bif !((ofK l).1==t) then ((ofK l).2.1,42,()) else (ofK l).2) else (ofK l).2
theorem Zxx (l:List Nd)(t:Bool):Zf9 l t=some (Zaa l t):=by
 rw [Zu6]
 unfold Zaa
 simp only [Ybd]
 cases ((ofK l).2.2.1==0) with
 | false=>rfl
 | true=>cases (ofK l).1 <;> cases t <;> rfl
theorem Zxy (l:List Nd)(t:Bool):Zf7 l t=some (Zaa l t):=by
 rw [Zu4]
 unfold Zaa
 simp only [Ybe]
 cases ((ofK l).2.2.1==0) with
 | false=>rfl
 | true=>cases (ofK l).1 <;> cases t <;> rfl
theorem Z85 (l:List Nd):Zga l=some (Zaa l false):=by
 rw [Zqb]
 rw [Zxx]
theorem Z3g (l:List Nd):Zev l=some (Zaa l true):=by
 rw [Zri]
 rw [Zxx]
theorem Zh7 {l:List Nd}{t:Bool}(hl:0<l.length)(h:errN l=0):0≤(Zaa l t).1∧(Zaa l t).1.toNat<l.length:=by
 have:0≤(ofK l).2.1∧(ofK l).2.1.toNat<l.length:=by
  unfold ofK
  rw [if_pos h]
  split
  · dsimp only;omega
  · dsimp only;omega
 unfold Zaa
 cases ((ofK l).2.2.1==0) with
 | false=>exact this
 | true=>cases (ofK l).1 <;> cases t <;> exact this
end Tg

/- Sources. -/
namespace Tg
open Go.Abs (Ze Zt tmm)
abbrev IL:=List (Int×Unit)

def in03 (x:Int×Unit):Bool:=decide (0≤x.1)&&decide (x.1≤3)
def Zaf (l:IL):Nat→IL→Bool
 | _,[]=>false
 | i,x::r=>(l.take i).any (fun y=>y.1==x.1)||Zaf l (i+1) r
def srcE (l:IL)(join:Bool):Int :=
 if 4<l.length then 4 else if l.length=0 then 8 else if (join && !(l.length==2))=true then 8 else if l.all in03=true then (bif Zaf l 0 l then 43 else 0) else 8

theorem Zxz:∀ (l:IL) (acc:List Int),(Qi l acc).length≤acc.length+l.length
 | [],acc=>Nat.le_refl _
 | x::l,acc=>by
  simp only [Qi,List.length_cons]
  have:=Zxz l (if acc.contains x.1 then acc else acc++[x.1])
  split at this <;> simp_all <;> omega
theorem Ztg (l:IL):∀ (rest:IL) (i:Nat),l.drop i=rest→i+rest.length=l.length→decide ((Qi rest ((l.take i).map (·.1))).length<l.length)=Zaf l i rest
 | [],i,hd,hl=>by
  simp only [Qi,Zaf,List.length_map,List.length_take]
  simp at hl
  simp [hl]
 | x::rest,i,hd,hl=>by
  simp only [List.length_cons] at hl
  have hx:l[i]? = some x:=by
   have:=congrArg (fun z=>z[0]?) hd
   simpa using this
  have hd' : l.drop (i+1)=rest:=by
   have:=congrArg (List.drop 1) hd
   simpa [List.drop_drop] using this
  rw [Bool.eq_iff_iff,decide_eq_true_eq]
  simp only [Qi,Zaf]
  have hc:((l.take i).map (·.1)).contains x.1=(l.take i).any (fun y=>y.1==x.1):=by
   rw [List.contains_eq_any_beq,List.any_map]
   congr 1
   funext y
   simp only [Function.comp]
   rw [Bool.eq_iff_iff]
   simp only [beq_iff_eq]
   exact⟨Eq.symm,Eq.symm⟩
  rw [hc]
  cases ha:(l.take i).any (fun y=>y.1==x.1) with
  | true =>
   simp only [if_true,Bool.true_or,iff_true]
   have:=Zxz rest ((l.take i).map (·.1))
   rw [List.length_map,List.length_take] at this
   omega
  | false =>
   simp only [Bool.false_eq_true,if_false,Bool.false_or]
   have e:(l.take i).map (·.1)++[x.1]=(l.take (i+1)).map (·.1):=by
    rw [List.take_add_one,hx]
    simp
   rw [e]
   have:=Ztg l rest (i+1) hd' (by omega)
   rw [← this,decide_eq_true_eq]

theorem Zx0 {l:IL}(h4:l.length≤4)(h:l.all in03=true):Z6 l=some (Int.ofNat (Qi l []).length,()):=by
 unfold Z6
 have h1:l.all (fun x=>in64 x.1)=true:=by
  rw [List.all_eq_true] at h ⊢
  intro x hx
  have:=h x hx
  unfold in03 at this
  rw [Bool.and_eq_true,decide_eq_true_eq,decide_eq_true_eq] at this
  unfold in64
  rw [dT (by omega),dT (by omega)]
  rfl
 rw [h1,dT (show l.length<9223372036854775807 by omega)]
 rfl

theorem Zx1 (l:IL)(h4:l.length≤4):∀ (rest:IL) (i n:Nat),i+rest.length=l.length→l.drop i=rest→(l.take i).all in03=true→rest.length+1≤n →
    Y8 n l (l.length:Int) (i:Int) l false=some (bif rest.all in03 then (bif Zaf l 0 l then 43 else 0) else 8,())
  | [],i,n,hlen,hd,ht,hn=>by
   obtain⟨m,rfl⟩:∃ m,n=m+1:=⟨n - 1,by omega⟩
   simp only [List.length_nil,Nat.add_zero] at hlen
   subst hlen
   rw [List.take_length] at ht
   have hdd:=Ztg l l 0 (by simp) (by simp)
   simp only [List.take_zero,List.map_nil] at hdd
   have hd2:decide (Int.ofNat (Qi l []).length<(l.length:Int))=Zaf l 0 l:=by
    rw [← hdd]
    rw [Bool.eq_iff_iff,decide_eq_true_eq,decide_eq_true_eq]
    simp
   simp only [Zcu,dF (show ¬ (l.length:Int)<(l.length:Int) by omega),cond_false,Zx0 h4 ht,List.all_nil,cond_true]
   simp only [Int.ofNat_eq_natCast] at hd2 ⊢
   rw [hd2]
   cases Zaf l 0 l <;> rfl
  | x::rest,i,n,hlen,hd,ht,hn=>by
   simp only [List.length_cons] at hlen hn
   obtain⟨m,rfl⟩:∃ m,n=m+1:=⟨n - 1,by omega⟩
   have hx:l[i]? = some x:=by
    have:=congrArg (fun z=>z[0]?) hd
    simpa using this
   have hd' : l.drop (i+1)=rest:=by
    have:=congrArg (List.drop 1) hd
    simpa [List.drop_drop] using this
   simp only [Zcu,dT (show (i:Int)<(l.length:Int) by omega),cond_true,dT (Int.natCast_nonneg i),Int.toNat_natCast,hx,List.all_cons]
   by_cases h0:x.1<0
   · have e:in03 x=false:=by unfold in03;rw [dF (by omega)];rfl
     simp only [dT h0,cond_true,e,Bool.false_and,cond_false,ge_iff_le,dT (Int.natCast_nonneg i)]
   · by_cases h4' : x.1≥4
     · have e:in03 x=false:=by unfold in03;rw [dF (show ¬ x.1≤3 by omega),Bool.and_false]
       simp only [dF h0,cond_false,dT h4',cond_true,e,Bool.false_and,ge_iff_le,dT (Int.natCast_nonneg i)]
     · have e:in03 x=true:=by unfold in03;rw [dT (by omega),dT (by omega)];rfl
       have ih:=Zx1 l h4 rest (i+1) m (by omega) hd' (by rw [List.take_add_one,hx];simp [ht,e]) (by omega)
       simp only [dF h0,cond_false,dF h4',e,Bool.true_and,Zew (show i≤1000000 by omega),ih]

theorem Z86 (l:IL)(join:Bool):Zcq l join=some (srcE l join,()):=by
 obtain⟨n,hn⟩:=Zan
 rw [Zk7]
 unfold srcE
 by_cases h4:4<l.length
 · simp only [Int.ofNat_eq_natCast,dT (show (l.length:Int)>4 by omega),cond_true,if_pos h4]
 · have hl:=Zx1 l (by omega) l 0 fuel (by simp) (by simp) (by simp) (by rw [hn];omega)
   have hl' : Y8 fuel l (l.length:Int) 0 l false=_:=hl
   simp only [Int.ofNat_eq_natCast,dF (show ¬ (l.length:Int)>4 by omega),cond_false,if_neg h4,hl']
   by_cases h0:l.length=0
   · have e:((l.length:Int)==0)=true:=by simp [h0]
     simp only [e,cond_true,if_pos h0]
   · have e:((l.length:Int)==0)=false:=by rw [beq_eq_false_iff_ne];omega
     simp only [e,cond_false,if_neg h0]
     have e2:((l.length:Int) != 2) = !(l.length==2):=by
      by_cases h2:l.length=2
      · rw [h2];rfl
      · rw [Zjj (show (l.length:Int)≠2 by omega),show (l.length==2)=false by simpa using h2];rfl
     rw [e2]
     cases join <;> cases (l.length==2) <;> cases l.all in03 <;> rfl
end Tg

/- Sources: the reference. -/
namespace Tg
open Go.Abs (Ze Zt tmm)

theorem Zrj {l:IL}{k i:Nat}(hi:i≤l.length)(hk:k<i)(p:Int×Unit→Bool):((l.take i).drop k).any p=(p (l[k]'(by omega))||((l.take i).drop (k+1)).any p):=by
 rw [List.drop_eq_getElem_cons (by rw [List.length_take];omega),List.any_cons,List.getElem_take]

theorem Zth (l:IL)(h4:l.length≤4)(i:Nat)(x:Int×Unit)(hx:l[i]? = some x):∀ (c k n:Nat),k+c=i→c<n →
    ∃ m',n - c - 1≤m' ∧ Xy n l (i:Int) (k:Int)=bif ((l.take i).drop k).any (fun y=>y.1==x.1) then some (43,()) else Y3 m' l ((i+1:Nat):Int)
  | 0,k,n,hk,hn=>by
   obtain⟨m,rfl⟩:∃ m,n=m+1:=⟨n - 1,by omega⟩
   have hi:i<l.length:=(List.getElem?_eq_some_iff.1 hx).1
   simp only [Nat.add_zero] at hk
   subst hk
   refine⟨m,by omega,?_⟩
   have e:((l.take k).drop k).any (fun y=>y.1==x.1)=false:=by rw [List.drop_of_length_le (by simp;omega)];rfl
   rw [e]
   simp only [Zet,dF (show ¬ (k:Int)<(k:Int) by omega),cond_false,Zew (show k≤1000000 by omega)]
  | c+1,k,n,hk,hn=>by
   obtain⟨m,rfl⟩:∃ m,n=m+1:=⟨n - 1,by omega⟩
   have hi:i<l.length:=(List.getElem?_eq_some_iff.1 hx).1
   have hkl:k<l.length:=by omega
   obtain⟨m',h1,h2⟩:=Zth l h4 i x hx c (k+1) m (by omega) (by omega)
   refine⟨m',by omega,?_⟩
   rw [Zrj (by omega) (by omega)]
   simp only [Zet,dT (show (k:Int)<(i:Int) by omega),cond_true,dT (Int.natCast_nonneg k),dT (Int.natCast_nonneg i),Int.toNat_natCast,List.getElem?_eq_getElem hkl,hx,Zew (show k≤1000000 by omega),h2]
   cases (l[k].1==x.1) <;> rfl

theorem Zti (l:IL)(h4:l.length≤4):∀ (rest:IL) (i n:Nat),i+rest.length=l.length→l.drop i=rest→10 * rest.length+1≤n →
    Y3 n l (i:Int)=some (bif Zaf l i rest then 43 else 0,())
  | [],i,n,hlen,hd,hn=>by
   obtain⟨m,rfl⟩:∃ m,n=m+1:=⟨n - 1,by omega⟩
   simp only [List.length_nil,Nat.add_zero] at hlen
   subst hlen
   simp only [Zes,Int.ofNat_eq_natCast,dF (show ¬ (l.length:Int)<(l.length:Int) by omega),cond_false,Zaf]
  | x::rest,i,n,hlen,hd,hn=>by
   simp only [List.length_cons] at hlen hn
   obtain⟨m,rfl⟩:∃ m,n=m+1:=⟨n - 1,by omega⟩
   have hx:l[i]? = some x:=by
    have:=congrArg (fun z=>z[0]?) hd
    simpa using this
   have hd' : l.drop (i+1)=rest:=by
    have:=congrArg (List.drop 1) hd
    simpa [List.drop_drop] using this
   obtain⟨m',h1,h2⟩:=Zth l h4 i x hx i 0 m (by omega) (by omega)
   have ih:=Zti l h4 rest (i+1) m' (by omega) hd' (by omega)
   have h2' : Xy m l (i:Int) 0=_:=h2
   simp only [Zes,Int.ofNat_eq_natCast,dT (show (i:Int)<(l.length:Int) by omega),cond_true,h2',ih,Zaf,List.drop_zero]
   cases (l.take i).any (fun y=>y.1==x.1) <;> rfl

theorem Z14 (l:IL)(h4:l.length≤4):∀ (rest:IL) (i n:Nat),i+rest.length=l.length→l.drop i=rest→rest.length+100≤n →
    Xf n l (i:Int)=some (bif rest.all in03 then (bif Zaf l 0 l then 43 else 0) else 8,())
  | [],i,n,hlen,hd,hn=>by
   obtain⟨m,rfl⟩:∃ m,n=m+2:=⟨n - 2,by omega⟩
   simp only [List.length_nil,Nat.add_zero] at hlen
   subst hlen
   have ho:=Zti l h4 l 0 m (by simp) (by simp) (by omega)
   have ho' : Y3 m l 0=_:=ho
   rw [show m+2=(m+1)+1 from rfl]
   simp only [Zfm,Int.ofNat_eq_natCast,dF (show ¬ (l.length:Int)<(l.length:Int) by omega),cond_false,Zl6,ho',List.all_nil,cond_true]
  | x::rest,i,n,hlen,hd,hn=>by
   simp only [List.length_cons] at hlen hn
   obtain⟨m,rfl⟩:∃ m,n=m+1:=⟨n - 1,by omega⟩
   have hx:l[i]? = some x:=by
    have:=congrArg (fun z=>z[0]?) hd
    simpa using this
   have hd' : l.drop (i+1)=rest:=by
    have:=congrArg (List.drop 1) hd
    simpa [List.drop_drop] using this
   have ih:=Z14 l h4 rest (i+1) m (by omega) hd' (by omega)
   simp only [Zfm,Int.ofNat_eq_natCast,dT (show (i:Int)<(l.length:Int) by omega),cond_true,dT (Int.natCast_nonneg i),Int.toNat_natCast,hx,Zew (show i≤1000000 by omega),ih,List.all_cons]
   by_cases h0:x.1<0
   · have e:in03 x=false:=by unfold in03;rw [dF (by omega)];rfl
     simp only [dT h0,cond_true,e,Bool.false_and,cond_false]
   · by_cases h4' : x.1>3
     · have e:in03 x=false:=by unfold in03;rw [dF (show ¬ x.1≤3 by omega),Bool.and_false]
       simp only [dF h0,cond_false,dT h4',cond_true,e,Bool.false_and]
     · have e:in03 x=true:=by unfold in03;rw [dT (by omega),dT (by omega)];rfl
       simp only [dF h0,cond_false,dF h4',e,Bool.true_and]

theorem Z6l (l:IL)(join:Bool):Xd l join=some (srcE l join,()):=by
 obtain⟨n,hn⟩:=Zan
 rw [Zng]
 unfold srcE
 by_cases h4:4<l.length
 · simp only [Int.ofNat_eq_natCast,dT (show (l.length:Int)>4 by omega),cond_true,if_pos h4]
 · have hl:=Z14 l (by omega) l 0 fuel (by simp) (by simp) (by rw [hn];omega)
   have hl' : Xf fuel l 0=_:=hl
   simp only [Int.ofNat_eq_natCast,dF (show ¬ (l.length:Int)>4 by omega),cond_false,if_neg h4,hl']
   by_cases h0:l.length=0
   · have e:((l.length:Int)==0)=true:=by simp [h0]
     simp only [e,cond_true,if_pos h0]
   · have e:((l.length:Int)==0)=false:=by rw [beq_eq_false_iff_ne];omega
     simp only [e,cond_false,if_neg h0]
     have e2:((l.length:Int) != 2) = !(l.length==2):=by
      by_cases h2:l.length=2
      · rw [h2];rfl
      · rw [Zjj (show (l.length:Int)≠2 by omega),show (l.length==2)=false by simpa using h2];rfl
     rw [e2]
     cases join <;> cases (l.length==2) <;> cases l.all in03 <;> rfl
end Tg

/- Clauses and checks. -/
namespace Tg
open Go.Abs (Ze Zt tmm)
abbrev Qr:=Int×List (Int×Int×Int×Int×Int×Unit)×List (Int×Unit)×Bool×List (Int×Int×Int×Int×Int×Unit)×Int×Int×Int×Bool×Int×Unit

def fitW (w:Int×Int×Int×Unit):Bool :=
 !decide (w.2.1<1)&&(!decide (w.2.1>1073741824)&&(bif w.1==2 then decide (w.2.2.1≥1)&&(decide (w.2.2.1≤w.2.1)&&decide (w.2.1≤Go.IntKind.wrap Go.IntKind.i64 (16 * w.2.2.1))) else ((w.1==1||w.1==3)&&w.2.2.1==0)))
theorem Ybf (w:Int×Int×Int×Unit):Zd9 w=some (fitW w,()):=by
 rw [Zu1]
 unfold fitW
 cases decide (w.2.1<1) <;> cases decide (w.2.1>1073741824) <;> cases (w.1==2) <;> cases (w.1==1) <;> cases (w.1==3) <;> cases decide (w.2.2.1≥1) <;> cases decide (w.2.2.1≤w.2.1) <;> rfl
theorem Yda (w:Int×Int×Int×Unit):Zeb w=some (bif fitW w then 0 else 8,()):=by
 rw [Zl8]
 unfold fitW
 cases decide (w.2.1<1) <;> cases decide (w.2.1>1073741824) <;> cases (w.1==2) <;> cases (w.1==1) <;> cases (w.1==3) <;> cases decide (w.2.2.1≥1) <;> cases decide (w.2.2.1≤w.2.1) <;> cases decide (w.2.1≤Go.IntKind.wrap Go.IntKind.i64 (16 * w.2.2.1)) <;> cases (w.2.2.1==0) <;> rfl

def Zm7 (q:Qr):Int:=bif srcE q.2.2.1 q.2.2.2.1==0 then (bif fitW (q.2.2.2.2.2.1,q.2.2.2.2.2.2.1,q.2.2.2.2.2.2.2.1,()) && !(q.2.2.2.1&&q.2.2.2.2.2.1 != 1) then 0 else 8) else srcE q.2.2.1 q.2.2.2.1
def Ze8 (q:Qr):Int:=bif decide ((q.2.2.2.2.1.length:Int)>0)&&errN q.2.2.2.2.1 != 0 then errN q.2.2.2.2.1 else Zm7 q
def chkC (q:Qr):Int :=
 bif decide (q.1<1)||(decide (q.1>4)||(decide (q.2.2.2.2.2.2.2.2.2.1<1)||decide (q.2.2.2.2.2.2.2.2.2.1>2))) then 8
 else bif q.1==1 then (bif decide ((q.2.1.length:Int)>0) then 8 else Ze8 q)
 else bif errN q.2.1 != 0 then errN q.2.1 else Ze8 q

theorem Ybg (m:Nat)(q:Qr):Za9 (m+1) q.2.2.1 q.2.2.2.1 q.2.2.2.2.2.1 q.2.2.2.2.2.2.1 q.2.2.2.2.2.2.2.1=some (Zm7 q,()):=by
 simp only [Zk8,Z86,Yda]
 unfold Zm7
 by_cases h:srcE q.2.2.1 q.2.2.2.1=0
 · have e:(srcE q.2.2.1 q.2.2.2.1==0)=true:=by simpa using h
   simp only [Zm6 h,cond_false,e,cond_true]
   cases q.2.2.2.1 <;> cases (q.2.2.2.2.2.1 != 1) <;> cases fitW (q.2.2.2.2.2.1,q.2.2.2.2.2.2.1,q.2.2.2.2.2.2.2.1,()) <;> rfl
 · have e:(srcE q.2.2.1 q.2.2.2.1==0)=false:=by simpa using h
   simp only [Zjj h,cond_true,e,cond_false]
theorem Ydb (m:Nat)(q:Qr):Q6 (m+2) q.2.2.1 q.2.2.2.1 q.2.2.2.2.1 q.2.2.2.2.2.1 q.2.2.2.2.2.2.1 q.2.2.2.2.2.2.2.1=some (Ze8 q,()):=by
 rw [show m+2=(m+1)+1 from rfl]
 simp only [Zl9,Zma,Ybg,Int.ofNat_eq_natCast]
 unfold Ze8
 cases decide ((q.2.2.2.2.1.length:Int)>0) with
 | false=>rfl
 | true =>
  cases (errN q.2.2.2.2.1 != 0) <;> rfl
theorem Z87 (x:Int):(x != 1&&x != 2)=(decide (x<1)||decide (x>2)):=by
 by_cases h1:x=1
 · subst h1;rfl
 · by_cases h2:x=2
   · subst h2;rfl
   · rw [Zjj h1,Zjj h2]
     by_cases h3:x<1
     · rw [dT h3];rfl
     · rw [dF h3,dT (show x>2 by omega)];rfl
theorem Zz6 (q:Qr):Ze7 q=some (chkC q,()):=by
 obtain⟨n,hn⟩:=Zan
 have h4:Q6 fuel q.2.2.1 q.2.2.2.1 q.2.2.2.2.1 q.2.2.2.2.2.1 q.2.2.2.2.2.2.1 q.2.2.2.2.2.2.2.1=some (Ze8 q,()):=by
  rw [hn]
  exact Ydb (n+999999999998) q
 rw [Znh]
 unfold chkC
 simp only [h4,Zma,Int.ofNat_eq_natCast]
 rw [← Z87 q.2.2.2.2.2.2.2.2.2.1]
 have hb:(q.1 != 1) = !(q.1==1):=rfl
 rw [hb]
 cases decide (q.1<1) <;> cases decide (q.1>4) <;> cases (q.2.2.2.2.2.2.2.2.2.1 != 1) <;> cases (q.2.2.2.2.2.2.2.2.2.1 != 2) <;> cases (q.1==1) <;> cases decide ((q.2.1.length:Int)>0) <;> cases (errN q.2.1 != 0) <;> rfl
theorem Zld (x:Int):(x != 0) = !(x==0):=rfl
theorem Zx2 (q:Qr):Zeu q=some (chkC q,()):=by
 rw [Zq9]
 unfold chkC Ze8 Zm7
 simp only [Zte,Z6l,Ybf,Int.ofNat_eq_natCast,Zld]
 have hb:(q.1 != 1) = !(q.1==1):=rfl
 rw [hb]
 cases decide (q.1<1) with
 | true=>rfl
 | false =>
 cases decide (q.1>4) with
 | true=>rfl
 | false =>
 cases decide (q.2.2.2.2.2.2.2.2.2.1<1) with
 | true=>rfl
 | false =>
 cases decide (q.2.2.2.2.2.2.2.2.2.1>2) with
 | true=>rfl
 | false =>
 cases (q.1==1) <;> cases decide ((q.2.1.length:Int)>0) <;> cases (errN q.2.1==0) <;> cases decide ((q.2.2.2.2.1.length:Int)>0) <;> cases (errN q.2.2.2.2.1==0) <;> cases (srcE q.2.2.1 q.2.2.2.1==0) <;>
  cases fitW (q.2.2.2.2.2.1,q.2.2.2.2.2.2.1,q.2.2.2.2.2.2.2.1,()) <;> cases q.2.2.2.1 <;> cases (q.2.2.2.2.2.1 != 1) <;> rfl
end Tg

/- The check of a query is the reference's. -/
namespace Tg
open Go.Abs (Ze Zt tmm)

def atOf (l:List Nd)(p:Int):Int:=(l.getD p.toNat (0,0,0,0,0,())).2.2.2.2.1
def whQ (l:List Nd)(t:Bool)(r:Int×Int×Unit):Int×Int×Unit :=
 bif l.length==0 then r else bif (Zaa l t).2.1==0 then r else (atOf l (Zaa l t).1,(Zaa l t).2.1,())
def chkQ (q:Qr):Int×Int×Unit:=bif chkC q==0 then whQ q.2.1 false (whQ q.2.2.2.2.1 true (0,0,())) else (0,chkC q,())

theorem Z9y {q:Qr}(h:chkC q=0):(q.2.1.length≠0→errN q.2.1=0)∧(q.2.2.2.2.1.length≠0→errN q.2.2.2.2.1=0)∧fitW (q.2.2.2.2.2.1,q.2.2.2.2.2.2.1,q.2.2.2.2.2.2.2.1,())=true:=by
 have hw:∀ q:Qr,Ze8 q=0→(q.2.2.2.2.1.length≠0→errN q.2.2.2.2.1=0)∧fitW (q.2.2.2.2.2.1,q.2.2.2.2.2.2.1,q.2.2.2.2.2.2.2.1,())=true:=by
  intro q h
  unfold Ze8 at h
  have ht:Zm7 q=0→fitW (q.2.2.2.2.2.1,q.2.2.2.2.2.2.1,q.2.2.2.2.2.2.2.1,())=true:=by
   intro h
   unfold Zm7 at h
   cases hs:(srcE q.2.2.1 q.2.2.2.1==0) with
   | false=>rw [hs] at h;simp only [cond_false] at h;simp [h] at hs
   | true =>
    rw [hs] at h
    cases hf:fitW (q.2.2.2.2.2.1,q.2.2.2.2.2.2.1,q.2.2.2.2.2.2.2.1,()) with
    | true=>rfl
    | false=>rw [hf] at h;simp at h
  by_cases he:errN q.2.2.2.2.1=0
  · refine⟨fun _=>he,ht ?_⟩
    rw [Zm6 he,Bool.and_false] at h
    exact h
  · rw [Zjj he,Bool.and_true] at h
    by_cases h0:q.2.2.2.2.1.length=0
    · refine⟨fun hn=>absurd h0 hn,ht ?_⟩
      rw [dF (by omega)] at h
      exact h
    · rw [dT (by omega)] at h
      exact absurd h he
 unfold chkC at h
 cases hb:(decide (q.1<1)||(decide (q.1>4)||(decide (q.2.2.2.2.2.2.2.2.2.1<1)||decide (q.2.2.2.2.2.2.2.2.2.1>2)))) with
 | true=>rw [hb] at h;simp at h
 | false =>
  rw [hb] at h
  simp only [cond_false] at h
  cases h1:(q.1==1) with
  | true =>
   rw [h1] at h
   simp only [cond_true] at h
   by_cases h0:q.2.1.length=0
   · rw [dF (by omega)] at h
     exact⟨fun hn=>absurd h0 hn,hw q h⟩
   · rw [dT (by omega)] at h
     simp at h
  | false =>
   rw [h1] at h
   simp only [cond_false] at h
   by_cases he:errN q.2.1=0
   · rw [Zm6 he] at h
     exact⟨fun _=>he,hw q h⟩
   · rw [Zjj he] at h
     exact absurd h he

theorem Zmc (q:Qr):Zba q=some (chkQ q):=by
 rw [Zqc]
 unfold chkQ
 simp only [Zz6,Zld]
 by_cases h:chkC q=0
 · obtain⟨ha,hw,_⟩:=Z9y h
   have e:(chkC q==0)=true:=by simpa using h
   simp only [e,Bool.not_true,cond_false,cond_true,Z85,Z3g,Int.ofNat_eq_natCast]
   have wh:∀ {α:Type} (f:Int×Int×Unit→α),True:=fun _=>trivial
   unfold whQ
   have e1:((q.2.1.length:Int)==0)=(q.2.1.length==0):=by
    rw [Bool.eq_iff_iff,beq_iff_eq,beq_iff_eq];omega
   have e2:((q.2.2.2.2.1.length:Int)==0)=(q.2.2.2.2.1.length==0):=by
    rw [Bool.eq_iff_iff,beq_iff_eq,beq_iff_eq];omega
   rw [e1,e2]
   by_cases h1:q.2.1.length=0
   · have f1:(q.2.1.length==0)=true:=by simpa using h1
     simp only [f1,cond_true]
     by_cases h2:q.2.2.2.2.1.length=0
     · have f2:(q.2.2.2.2.1.length==0)=true:=by simpa using h2
       simp only [f2,cond_true]
     · have f2:(q.2.2.2.2.1.length==0)=false:=by simpa using h2
       obtain⟨w1,w2⟩:=Zh7 (t:=true) (show 0<q.2.2.2.2.1.length by omega) (hw h2)
       simp only [f2,cond_false,dT w1,cond_true,Zc1 w2]
       cases ((Zaa q.2.2.2.2.1 true).2.1==0) <;> rfl
   · have f1:(q.2.1.length==0)=false:=by simpa using h1
     obtain⟨v1,v2⟩:=Zh7 (t:=false) (show 0<q.2.1.length by omega) (ha h1)
     simp only [f1,cond_false,dT v1,cond_true,Zc1 v2]
     by_cases h2:q.2.2.2.2.1.length=0
     · have f2:(q.2.2.2.2.1.length==0)=true:=by simpa using h2
       simp only [f2,cond_true]
       cases ((Zaa q.2.1 false).2.1==0) <;> rfl
     · have f2:(q.2.2.2.2.1.length==0)=false:=by simpa using h2
       obtain⟨w1,w2⟩:=Zh7 (t:=true) (show 0<q.2.2.2.2.1.length by omega) (hw h2)
       simp only [f2,cond_false,dT w1,cond_true,Zc1 w2]
       cases ((Zaa q.2.1 false).2.1==0) <;> cases ((Zaa q.2.2.2.2.1 true).2.1==0) <;> rfl
 · have e:(chkC q==0)=false:=by simpa using h
   simp only [e,Bool.not_false,cond_true,cond_false]

theorem Zz7 (m:Nat)(l:List Nd)(hl:l.length≠0→errN l=0):Qv (m+1) l=some (whQ l true (0,0,())):=by
 simp only [Zp3,Zxy,Zld,Int.ofNat_eq_natCast]
 unfold whQ
 by_cases h2:l.length=0
 · have f2:(l.length==0)=true:=by simpa using h2
   simp only [f2,cond_true,dF (show ¬ (l.length:Int)>0 by omega),cond_false]
 · have f2:(l.length==0)=false:=by simpa using h2
   obtain⟨w1,w2⟩:=Zh7 (t:=true) (show 0<l.length by omega) (hl h2)
   simp only [f2,cond_false,dT (show (l.length:Int)>0 by omega),dT w1,cond_true,Zc1 w2]
   cases ((Zaa l true).2.1==0) <;> rfl
theorem Zz8 (q:Qr):Zh0 q=some (chkQ q):=by
 rw [Zrd]
 unfold chkQ
 simp only [Zx2,Zld]
 by_cases h:chkC q=0
 · obtain⟨ha,hw,_⟩:=Z9y h
   obtain⟨n,hn⟩:=Zan
   have hr:Qv fuel q.2.2.2.2.1=some (whQ q.2.2.2.2.1 true (0,0,())):=by
    rw [hn]
    exact Zz7 (n+999999999999) _ hw
   have e:(chkC q==0)=true:=by simpa using h
   simp only [e,Bool.not_true,cond_false,cond_true]
   rw [Zrc]
   simp only [Zxy,Zld,Int.ofNat_eq_natCast,hr]
   rw [show whQ q.2.1 false (whQ q.2.2.2.2.1 true (0,0,()))=(bif q.2.1.length==0 then (whQ q.2.2.2.2.1 true (0,0,())) else bif (Zaa q.2.1 false).2.1==0 then (whQ q.2.2.2.2.1 true (0,0,())) else (atOf q.2.1 (Zaa q.2.1 false).1,(Zaa q.2.1 false).2.1,())) from rfl]
   by_cases h1:q.2.1.length=0
   · have f1:(q.2.1.length==0)=true:=by simpa using h1
     simp only [f1,cond_true,dF (show ¬ (q.2.1.length:Int)>0 by omega),cond_false]
   · have f1:(q.2.1.length==0)=false:=by simpa using h1
     obtain⟨v1,v2⟩:=Zh7 (t:=false) (show 0<q.2.1.length by omega) (ha h1)
     simp only [f1,cond_false,dT (show (q.2.1.length:Int)>0 by omega),dT v1,cond_true,Zc1 v2]
     cases ((Zaa q.2.1 false).2.1==0) <;> rfl
 · have e:(chkC q==0)=false:=by simpa using h
   simp only [e,Bool.not_false,cond_true,cond_false]
end Tg
