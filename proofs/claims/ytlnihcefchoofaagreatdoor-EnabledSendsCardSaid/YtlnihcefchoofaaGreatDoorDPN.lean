import Derived.Test.YtlnihcefchoofaaGreatDoorDXb6
import Derived.Test.YtlnihcefchoofaaGreatDoorDVb4
set_option linter.all false
namespace Tg
open Go.Abs (Ze Zj tmm)
abbrev Nd:=Int×Int×Int×Int×Int×Unit
abbrev Tp:=Int×Int×Int×Unit
def cntK(k:Int):Nat:=if k<=4 then 0 else if k<=6 then 1 else 2
def Qt(x:Nd)(a b:Int):Bool:=decide (1<=x.1)&&(decide (x.1<=19)&&(decide (0<=x.2.1)&&((x.2.1==0||x.1==1)&&(decide (0<=x.2.2.2.2.1)&&(decide (x.2.2.2.2.1<=400)&&(x.2.2.1==a&&x.2.2.2.1==b))))))
theorem parts_eq(k:Int):Zmn k=some (bif decide (1<=k)&&decide (k<=19)then((cntK k:Nat):Int)else 0,bif decide (1<=k)&&decide (k<=19)then 0 else 2,()):=by grind[Z09,cntK]
def gt(acc:List (Int×Int))(i:Nat):Int×Int:=acc.getD i (0,0)
def X8(acc:List (Int×Int))(x:Nd):Option (List (Int×Int)) :=
 if cntK x.1=0 then(if Qt x 0 0=true then some (acc++[(1,1)])else none)
 else if acc.length=0 then none
 else if cntK x.1=1 then(if Qt x ((acc.length:Int)-1) 0=true then some (acc++[(1+(gt acc (acc.length-1)).1,1+(gt acc (acc.length-1)).2)])else none)
 else if (acc.length:Int)-1-(gt acc (acc.length-1)).1<0 then none
 else if Qt x ((acc.length:Int)-1-(gt acc (acc.length-1)).1) ((acc.length:Int)-1)=true then
  some (acc++[(1+(gt acc (acc.length-1)).1+(gt acc ((acc.length:Int)-1-(gt acc (acc.length-1)).1).toNat).1,
   max (1+(gt acc (acc.length-1)).2) (1+(gt acc ((acc.length:Int)-1-(gt acc (acc.length-1)).1).toNat).2))])
 else none
def runN:List Nd->List (Int×Int)->Option (List (Int×Int))|[],acc=>some acc|x::l,acc=>match X8 acc x with|some a=>runN l a|none=>none
def Good(acc:List (Int×Int)):Prop:=∀i,i<acc.length->1<=(gt acc i).1/\(gt acc i).1<=i+1/\1<=(gt acc i).2/\(gt acc i).2<=i+1
inductive St(acc:List (Int×Int)):Nat->List Tp->Prop where|nil:St acc 0 []|snoc (i:Nat) (s:List Tp) (h:i<acc.length) (hs:St acc (i+1-(gt acc i).1.toNat) s):St acc (i+1) (s++[((i:Int),(gt acc i).1,(gt acc i).2,())])
variable {acc:List (Int×Int)}
theorem Yoq{e:Int×Int}{i:Nat}(h:i<acc.length):gt (acc++[e]) i=gt acc i:=by unfold gt;grind
theorem Yd1{e:Int×Int}:gt (acc++[e]) acc.length=e:=by unfold gt;simp
theorem St.app{e:Int×Int}{i:Nat}{s:List Tp}(h:St acc i s):St (acc++[e]) i s:=by
 induction h with|nil=>exact .nil|snoc i s h hs ih=>have:=Yoq (e:=e) h;rw[<- this]at ih ⊢;exact .snoc i s (by grind) ih
theorem Good.app{e:Int×Int}(h:Good acc)(he:1<=e.1/\e.1<=acc.length+1/\1<=e.2/\e.2<=acc.length+1):Good (acc++[e]):=by
 intro i hi;by_cases hlt:i<acc.length;rw[Yoq hlt];exact h i hlt;grind[Yd1]
def allT(acc:List (Int×Int)):List Tp:=acc.zipIdx.map λx=>((x.2:Int),x.1.1,x.1.2,())
theorem Yor(acc:List (Int×Int))(e:Int×Int):allT (acc++[e])=allT acc++[((acc.length:Int),e.1,e.2,())]:=by unfold allT;grind
theorem Z9t(acc:List (Int×Int)):(allT acc).length=acc.length:=by simp[allT]
theorem St.zero{s:List Tp}(h:St acc 0 s):s=[]:=by
 generalize hz:0=z at h;cases h with|nil=>rfl|snoc i s h hs=>omega
theorem St.last{i:Nat}{s:List Tp}(h:St acc i s)(hi:i≠0):∃s',s=s' ++ [(((i-1:Nat):Int),(gt acc (i-1)).1,(gt acc (i-1)).2,())]/\i-1<acc.length/\St acc (i-(gt acc (i-1)).1.toNat) s' := by cases h with|nil=>grind|snoc j s h hs=>grind
theorem St.len_le{i:Nat}{s:List Tp}(hg:Good acc)(h:St acc i s):s.length<=i:=by
 induction h with|nil=>simp|snoc j s h hs ih=>have:=hg j h;grind
end Tg
namespace Tg
open Go.Abs (Ze Zj tmm)
variable {a b:Nat}
theorem wsub(h:b<=a)(ha:a<=1000000):Go.IntKind.wrap Go.IntKind.i64 ((a:Int)-(b:Int))=((a-b:Nat):Int):=by grind[w64]
theorem wadd(ha:a<=1000000)(hb:b<=1000000):Go.IntKind.wrap Go.IntKind.i64 ((a:Int)+(b:Int))=((a+b:Nat):Int):=by grind[w64]
theorem Zho(ha:a<=1000000):Go.IntKind.wrap Go.IntKind.i64 ((a:Int)+1)=((a+1:Nat):Int):=wadd (b:=1) ha (by omega)
theorem Yd2(x:Nd)(a b:Int)(hk:(decide (1<=x.1)&&decide (x.1<=19))=true)(N:Int)(hN:N=bif x.1==1 then max x.2.1 0 else 0) :
    (x.1==x.1&&(N==x.2.1&&(a==x.2.2.1&&(b==x.2.2.2.1&&(min (max x.2.2.2.2.1 0) 400==x.2.2.2.2.1&&true)))))=Qt x a b:=by
  grind[Qt]
section
variable (x:Nd) (all s:List Tp) (l:List Nd) (q i:Nat) (a b sz dp len:Int)
theorem j21(m:Nat)(hk:(decide (1<=x.1)&&decide (x.1<=19))=true)(hq:q<=s.length)(hs:s.length<=100000)(hal:all.length<=100000)(hi:i<=100000) :
    Za7 (m+2) all s (q:Int) x.1 x.2.1 x.2.2.1 x.2.2.2.1 x.2.2.2.2.1 x.1 0 a b (tmm false (tmm true x.2.2.2.2.1 0) 400) (i:Int) sz dp l len (i:Int) =
    bif Qt x a b then Zu m (all++[((i:Int),sz,dp,())]) (s.take q++[((i:Int),sz,dp,())]) l len ((i+1:Nat):Int)else some (all,false,()):=by
  have h31:∀N:Int,N=(bif x.1==1 then max x.2.1 0 else 0) ->
      Zdb (m+1) all s (Int.ofNat (Int.toNat (q:Int))) x.1 x.2.1 x.2.2.1 x.2.2.2.1 x.2.2.2.2.1 x.1 N a b (tmm false (tmm true x.2.2.2.2.1 0) 400) (i:Int) sz dp l len (i:Int) =
      bif Qt x a b then Zu m (all++[((i:Int),sz,dp,())]) (s.take q++[((i:Int),sz,dp,())]) l len ((i+1:Nat):Int)else some (all,false,()):=by
    intro N hN;simp only[Zx6,tmax,tmin];rw[Yd2 x a b hk N hN];cases Qt x a b with|false=>rfl|true=>grind[Xe,Zho]
  grind[Zx4,tmax]
end
end Tg
namespace Tg
open Go.Abs (Ze Zj tmm)
variable {x:Nd}
theorem Yos{a b:Int}(h:(decide (1<=x.1)&&decide (x.1<=19))=false):Qt x a b=false:=by grind[Qt]
theorem Yso{acc:List (Int×Int)}(h:(decide (1<=x.1)&&decide (x.1<=19))=false):X8 acc x=none:=by grind[X8,Yos]
theorem Yd3(k:Int):cntK k<=2:=by grind[cntK]
section
variable (x:Nd) (all s:List Tp) (l:List Nd) (i:Nat) (len:Int)
theorem j4(m:Nat)(hi:l[i]? = some x)(hlt:(i:Int)<len)(hk:(decide (1<=x.1)&&decide (x.1<=19))=true)(hc:cntK x.1<=s.length)(hs:s.length<=100000) :
    Zu (m+1) all s l len (i:Int) =
    bif cntK x.1==0 then Yv m all s (s.length:Int) x.1 x.2.1 x.2.2.1 x.2.2.2.1 x.2.2.2.2.1 x.1 0 0 0 (tmm false (tmm true x.2.2.2.2.1 0) 400) (i:Int) 1 1 l len (i:Int) 1 0 0 0
    else Yv m all s ((s.length-cntK x.1:Nat):Int) x.1 x.2.1 x.2.2.1 x.2.2.2.1 x.2.2.2.2.1 x.1 0 0 0 (tmm false (tmm true x.2.2.2.2.1 0) 400) (i:Int) 1 1 l len (i:Int) ((s.length-cntK x.1:Nat):Int) (cntK x.1:Int) (cntK x.1:Int) 0:=by
  have hk' := hk;rw[J0e]at hk';simp only[Zen,dT hlt,cond_true,J0g,dT (Int.natCast_nonneg i),J0l,hi,parts_eq,hk,bne_self_eq_false,cond_false,
   dF (show ¬((cntK x.1:Nat):Int)>(s.length:Int) by omega),wsub hc (show s.length<=1000000 by omega),dT (Int.natCast_nonneg (s.length-cntK x.1)),dT (Nat.zero_le (s.length-cntK x.1)),dT (Nat.sub_le s.length (cntK x.1)),Bool.and_self]
  grind
theorem Z6d(m:Nat)(q k:Nat)(K N A B T:Int)(a b sz dp lo pl:Int)(N' At' K' : Int)(hk:pl<=(k:Int))(at_ i' : Int) :
    Yv (m+1) all s (q:Int) K N A B T K' N' a b At' at_ sz dp l len i' lo pl pl (k:Int) =
    Za7 m all s (q:Int) K N A B T K' N' a b At' at_ sz dp l len i' := by
  grind[Zmo]
theorem Yd4(m:Nat)(q k lo pl:Nat)(K N A B T:Int)(a b sz dp:Int)(N' At' K' : Int)(hk:k<pl)(at_ i' : Int)(t:Tp)(ht:s[lo+k]? = some t) :
    Yv (m+2) all s (q:Int) K N A B T K' N' a b At' at_ sz dp l len i' (lo:Int) (pl:Int) (pl:Int) (k:Int) =
    Yv m all s (q:Int) K N A B T K' N' (bif k==0 then t.1 else a) (bif k==0 then b else t.1) At' at_ (Go.IntKind.wrap Go.IntKind.i64 (sz+t.2.1)) (tmm true dp (Go.IntKind.wrap Go.IntKind.i64 (t.2.2.1+1))) l len i' (lo:Int) (pl:Int) (pl:Int) (Go.IntKind.wrap Go.IntKind.i64 ((k:Int)+1)):=by
  grind[Zmo,Zx5]
end
end Tg
namespace Tg
open Go.Abs (Ze Zj tmm)
variable {acc:List (Int×Int)}
theorem Yd5{n:Nat}(h:acc.length<=n):(allT acc).length<=n:=by grind[Z9t]
theorem Z9u{s:List Tp}{l:List Nd}{x:Nd}(hg:Good acc)(hst:St acc acc.length s)(hx:l[acc.length]? = some x)(hl:l.length<=1000)(m:Nat) :
    (X8 acc x=none/\Zu (m+9) (allT acc) s l (l.length:Int) (acc.length:Int)=some (allT acc,false,())) ∨
    (∃e s' m',X8 acc x=some (acc++[e])/\m<=m' /\ Good (acc++[e])/\St (acc++[e]) (acc.length+1) s' /\
     Zu (m+9) (allT acc) s l (l.length:Int) (acc.length:Int)=Zu m' (allT (acc++[e])) s' l (l.length:Int) ((acc.length+1:Nat):Int)):=by
  have hlt:acc.length<l.length:=(J0d.1 hx).1;have hlt' : (acc.length:Int)<(l.length:Int):=by omega
  have hsl:=hst.len_le hg;cases hk:decide (1<=x.1)&&decide (x.1<=19)with
  |false=>left;refine⟨Yso hk,?_⟩;simp only[Zen,dT hlt',cond_true,J0g,dT (Int.natCast_nonneg acc.length),J0l,hx,parts_eq,hk,cond_false];rfl|true =>
   by_cases hc:cntK x.1<=s.length
   -- parts are there
   have h4:=j4 x (allT acc) s l acc.length (l.length:Int) (m+8) hx hlt' hk hc (by omega);have hcnt:=Yd3 x.1;have hal:=Yd5 (acc:=acc) (n:=100000) (by omega)
   -- what the last round gives
   have fin:∀(mm q:Nat) (a b sz dp:Int),q<=s.length->(Qt x a b=true->X8 acc x=some (acc++[(sz,dp)]))->(Qt x a b=false->X8 acc x=none)->m<=mm ->
       (1<=sz/\sz<=acc.length+1/\1<=dp/\dp<=acc.length+1)->St acc (acc.length+1-sz.toNat) (s.take q) ->
       Zu (m+9) (allT acc) s l (l.length:Int) (acc.length:Int)=Za7 (mm+2) (allT acc) s (q:Int) x.1 x.2.1 x.2.2.1 x.2.2.2.1 x.2.2.2.2.1 x.1 0 a b (tmm false (tmm true x.2.2.2.2.1 0) 400) (acc.length:Int) sz dp l (l.length:Int) (acc.length:Int) ->
       (X8 acc x=none/\Zu (m+9) (allT acc) s l (l.length:Int) (acc.length:Int)=some (allT acc,false,())) ∨
       (∃e s' m',X8 acc x=some (acc++[e])/\m<=m' /\ Good (acc++[e])/\St (acc++[e]) (acc.length+1) s' /\
        Zu (m+9) (allT acc) s l (l.length:Int) (acc.length:Int)=Zu m' (allT (acc++[e])) s' l (l.length:Int) ((acc.length+1:Nat):Int)):=by
     intro mm q a b sz dp hq h1 h2 hm hsz hS h;rw[j21 x (allT acc) s l q acc.length a b sz dp (l.length:Int) mm hk hq (by omega) hal (by omega)]at h;cases hr:Qt x a b with|false=>grind|true => right;refine⟨(sz,dp),s.take q++[((acc.length:Int),sz,dp,())],mm,h1 hr,hm,hg.app hsz,?_,?_⟩;have h5:=St.snoc (acc:=acc++[(sz,dp)]) acc.length (s.take q) (by simp) (by rw[Yd1];exact hS.app);grind[Yd1];grind[Yor]
   by_cases c0:cntK x.1=0;grind[X8,Z6d];have e0:(cntK x.1==0)=false:=by grind
   rw[e0,cond_false]at h4;have hne:acc.length≠0:=by grind
   obtain⟨s1,rfl,hl1,hs1⟩:=hst.last hne;have hgl:=hg (acc.length-1) hl1;by_cases c1:cntK x.1=1;rw[c1]at h4;refine fin (m+3) s1.length ((acc.length:Int)-1) 0 (1+(gt acc (acc.length-1)).1) (1+(gt acc (acc.length-1)).2) (by simp) (λhr=>?_) (λhr=>?_) (by omega) ⟨by omega,by omega,by omega,by omega⟩ ?_ ?_;unfold X8;grind;unfold X8;grind;grind;rw[h4];have hlen:(s1++[(((acc.length-1:Nat):Int),(gt acc (acc.length-1)).1,(gt acc (acc.length-1)).2,())]).length-1=s1.length:=by simp
   rw[hlen];have g1:=Yd4 (allT acc) (s1++[(((acc.length-1:Nat):Int),(gt acc (acc.length-1)).1,(gt acc (acc.length-1)).2,())]) l (l.length:Int) (m+6) s1.length 0 s1.length 1 x.1 x.2.1 x.2.2.1 x.2.2.2.1 x.2.2.2.2.1 0 0 1 1 0 (tmm false (tmm true x.2.2.2.2.1 0) 400) x.1 (by omega) (acc.length:Int) (acc.length:Int) (((acc.length-1:Nat):Int),(gt acc (acc.length-1)).1,(gt acc (acc.length-1)).2,()) (by simp);grind[w64,tmax,Z6d];have c2:cntK x.1=2:=by omega
   rw[c2]at h4 hc;have hne2:acc.length-(gt acc (acc.length-1)).1.toNat≠0:=by intro h0;rw[h0]at hs1;rw[hs1.zero]at hc;grind
   obtain⟨s2,rfl,hl2,hs2⟩:=hs1.last hne2;have hf:((acc.length:Int)-1-(gt acc (acc.length-1)).1).toNat=acc.length-(gt acc (acc.length-1)).1.toNat-1:=by omega
   have hgf:=hg _ hl2;generalize hj:acc.length-(gt acc (acc.length-1)).1.toNat-1=j at *;have hstep:∀r,Qt x ((acc.length:Int)-1-(gt acc (acc.length-1)).1) ((acc.length:Int)-1)=r->X8 acc x=if r=true then some (acc++[(1+(gt acc (acc.length-1)).1+(gt acc j).1,max (1+(gt acc (acc.length-1)).2) (1+(gt acc j).2))])else none:=by grind[X8]
   refine fin (m+1) s2.length ((acc.length:Int)-1-(gt acc (acc.length-1)).1) ((acc.length:Int)-1) (1+(gt acc (acc.length-1)).1+(gt acc j).1) (max (1+(gt acc (acc.length-1)).2) (1+(gt acc j).2)) (by simp) (λhr=>by grind) (λhr=>by grind) (by omega) ⟨by omega,by omega,by omega,by omega⟩ ?_ ?_;grind;rw[h4];generalize htf:(((j:Nat):Int),(gt acc j).1,(gt acc j).2,())=tf;generalize htl:(((acc.length-1:Nat):Int),(gt acc (acc.length-1)).1,(gt acc (acc.length-1)).2,())=tl;have hlen:((s2++[tf])++[tl]).length-2=s2.length:=by simp
   rw[hlen];have g1:=Yd4 (allT acc) ((s2++[tf])++[tl]) l (l.length:Int) (m+6) s2.length 0 s2.length 2 x.1 x.2.1 x.2.2.1 x.2.2.2.1 x.2.2.2.2.1 0 0 1 1 0 (tmm false (tmm true x.2.2.2.2.1 0) 400) x.1 (by omega) (acc.length:Int) (acc.length:Int) tf (by simp);refine Eq.trans g1 ?_;have e2:Go.IntKind.wrap Go.IntKind.i64 (((0:Nat):Int)+1)=((1:Nat):Int):=Zho (by omega);have e3:Go.IntKind.wrap Go.IntKind.i64 (((1:Nat):Int)+1)=((2:Nat):Int):=Zho (by omega);rw[e2];refine Eq.trans (Yd4 (allT acc) ((s2++[tf])++[tl]) l (l.length:Int) (m+4) s2.length 1 s2.length 2 _ _ _ _ _ _ _ _ _ _ _ _ (by omega) _ _ tl (by simp)) ?_;rw[e3];subst htf;subst htl;have e1:(((acc.length-1:Nat):Int))=(acc.length:Int)-1:=by omega
   have e4:((j:Nat):Int)=(acc.length:Int)-1-(gt acc (acc.length-1)).1:=by omega
   have n1:((1:Nat)==0)=false:=rfl;simp only[beq_self_eq_true,n1,cond_true,cond_false,e1,tmax];rw[w64 (x:=1+(gt acc j).1) (by omega) (by omega),w64 (x:=(gt acc j).2+1) (by omega) (by omega),w64 (x:=(gt acc (acc.length-1)).2+1) (by omega) (by omega),w64 (x:=1+(gt acc j).1+(gt acc (acc.length-1)).1) (by omega) (by omega)];grind[Z6d]
   -- too few
   left;have hcnt:=Yd3 x.1;refine⟨?_,?_⟩;have c0:cntK x.1≠0:=by omega
   unfold X8;rw[if_neg c0];by_cases hne:acc.length=0;grind;rw[if_neg hne];obtain⟨s1,rfl,hl1,hs1⟩:=hst.last hne;have hgl:=hg (acc.length-1) hl1;have hs1l:s1.length=0:=by grind
   have hs1n:s1=[]:=List.eq_nil_of_length_eq_zero hs1l;subst hs1n;have c1:cntK x.1≠1:=by grind
   have h0:acc.length-(gt acc (acc.length-1)).1.toNat=0:=by refine Classical.byContradiction λhn=>?_;obtain⟨s2,h2,_⟩:=hs1.last hn;grind
   grind;simp only[Zen,dT hlt',cond_true,J0g,dT (Int.natCast_nonneg acc.length),J0l,hx,parts_eq,hk,bne_self_eq_false,cond_false,dT (show((cntK x.1:Nat):Int)>(s.length:Int) by omega)]
end Tg
namespace Tg
open Go.Abs (Ze Zj tmm)
def oneN(acc:List (Int×Int)):Bool:=decide (0<acc.length)&&(gt acc (acc.length-1)).1==(acc.length:Int)
theorem St.one{acc:List (Int×Int)}{s:List Tp}(hg:Good acc)(h:St acc acc.length s):(((s.length:Nat):Int)==1)=oneN acc:=by
 unfold oneN;by_cases h0:acc.length=0;rw[h0]at h;rw[h.zero,h0];rfl;obtain⟨s1,rfl,hl1,hs1⟩:=h.last h0;have hgl:=hg (acc.length-1) hl1;rw[dT (show 0<acc.length by omega),Bool.true_and,Bool.eq_iff_iff];simp only[beq_iff_eq,J0s,J0p,List.length_nil];constructor;intro e;have:s1=[]:=List.eq_nil_of_length_eq_zero (by omega);subst this;have hz:acc.length-(gt acc (acc.length-1)).1.toNat=0:=by refine Classical.byContradiction λhn=>?_;obtain⟨s2,h2,_⟩:=hs1.last hn;grind
 omega;intro e;have hz:acc.length-(gt acc (acc.length-1)).1.toNat=0:=by omega
 rw[hz]at hs1;rw[hs1.zero];rfl
theorem Zq8:∀(rest:List Nd) (acc acc' : List (Int×Int)),runN rest acc=some acc' -> acc'.length=acc.length+rest.length
 |[],acc,acc',h=>by obtain rfl:=J0a h;rfl|x::rest,acc,acc',h=>by
  simp only[runN]at h;split at h;rename_i a ha;have:=Zq8 rest a acc' h;grind[X8];cases h
theorem Z3k(l:List Nd)(hl:l.length<=1000):∀(rest:List Nd) (acc:List (Int×Int)) (s:List Tp) (n:Nat),acc.length+rest.length=l.length->l.drop acc.length=rest->Good acc->St acc acc.length s->9*rest.length+1<=n ->
    (runN rest acc=none /\ ∃r,Zu n (allT acc) s l (l.length:Int) (acc.length:Int)=some (r,false,())) ∨
    (∃acc',runN rest acc=some acc' /\ Good acc' /\ Zu n (allT acc) s l (l.length:Int) (acc.length:Int)=some (allT acc',oneN acc',()))
  |[],acc,s,n,hlen,hd,hg,hst,hn=>by right;refine⟨acc,rfl,hg,?_⟩;obtain⟨m,rfl⟩:∃m,n=m+1:=⟨n-1,by omega⟩;simp only[List.length_nil,Nat.add_zero]at hlen;simp only[Zen,dF (show ¬(acc.length:Int)<(l.length:Int) by omega),cond_false,J0g,hst.one hg]|x::rest,acc,s,n,hlen,hd,hg,hst,hn=>by
   simp only[J0p]at hlen hn;obtain⟨m,rfl⟩:∃m,n=m+9:=⟨n-9,by omega⟩;have hx:l[acc.length]? = some x:=by have:=congrArg (λz=>z[0]?) hd;simpa using this
   have hd' : l.drop (acc.length+1)=rest:=by have:=congrArg (List.drop 1) hd;grind[List.drop_drop]
   rcases Z9u hg hst hx hl m with⟨h1,h2⟩|⟨e,s',m',h1,h2,h3,h4,h5⟩
   grind[runN];have hle:(acc++[e]).length=acc.length+1:=by simp
   rcases Z3k l hl rest (acc++[e]) s' m' (by omega) (by grind) h3 (by rw[hle];exact h4) (by omega)with⟨q1,r,q2⟩|⟨acc',q1,q2,q3⟩
   grind[runN];grind[runN]
theorem Zyx:Good []:=λi hi=>absurd hi (Nat.not_lt_zero _)
theorem Ysp(l:List Nd)(hl:l.length<=1000) :
    (runN l []=none /\ ∃r,Zje l=some (r,false,()))∨(∃acc,runN l []=some acc/\acc.length=l.length/\Good acc/\Zje l=some (allT acc,oneN acc,())):=by
  obtain⟨n,hn⟩:=Zat;have:=Z3k l hl l [] [] fuel (by simp) (by simp) Zyx .nil (by rw[hn];omega);rcases this with⟨h1,r,h2⟩|⟨acc,h1,h2,h3⟩
  exact .inl ⟨h1,r,(Zqx l).trans h2⟩;exact .inr ⟨acc,h1,by grind[Zq8],h2,(Zqx l).trans h3⟩
theorem Zm4(k:Int):Zlz k=some (((cntK k:Nat):Int),()):=by grind[Z0m,cntK]
theorem Yjg(x:Nd)(a b:Int):Zl0 x a b=some (Qt x a b,()):=by grind[Z0n,Qt]
def szL(acc:List (Int×Int)):List (Int×Unit):=acc.map λx=>(x.1,())
def dpL(acc:List (Int×Int)):List (Int×Unit):=acc.map λx=>(x.2,())
theorem Zq9(acc:List (Int×Int)):(szL acc).length=acc.length:=by simp[szL]
theorem Zu6(acc:List (Int×Int)):(dpL acc).length=acc.length:=by simp[dpL]
variable {acc:List (Int×Int)}
theorem Zra{i:Nat}(h:i<acc.length):(szL acc)[i]? = some ((gt acc i).1,()):=by grind[szL,gt]
theorem Zrb{i:Nat}(h:i<acc.length):(dpL acc)[i]? = some ((gt acc i).2,()):=by grind[dpL,gt]
theorem Ysq(acc:List (Int×Int))(e:Int×Int):szL (acc++[e])=szL acc++[(e.1,())]:=by simp[szL]
theorem Ysr(acc:List (Int×Int))(e:Int×Int):dpL (acc++[e])=dpL acc++[(e.2,())]:=by simp[dpL]
variable {x:Nd}
theorem r11{l:List Nd}(hx:l[acc.length]? = some x)(hl:l.length<=1000)(m:Nat)(a b sz dp:Int) :
    Qg (m+1) l (szL acc) (dpL acc) (acc.length:Int) a b sz dp =
    bif Qt x a b then Zz m l (szL (acc++[(sz,dp)])) (dpL (acc++[(sz,dp)])) ((acc.length+1:Nat):Int)else some ([],[],false,()):=by
  have hlt:acc.length<l.length:=(J0d.1 hx).1;have b1:Ze ((szL acc).length+[(sz,())].length) 8=true:=Xe (by rw[Zq9];grind) (by omega);have b2:Ze ((dpL acc).length+[(dp,())].length) 8=true:=Xe (by rw[Zu6];grind) (by omega);grind[Zub,Int.toNat_natCast,Yjg,Zho,Ysq,Ysr]
theorem Yot{l:List Nd}(hg:Good acc)(hx:l[acc.length]? = some x)(hl:l.length<=1000)(m:Nat) :
    (X8 acc x=none/\Zz (m+2) l (szL acc) (dpL acc) (acc.length:Int)=some ([],[],false,())) ∨
    (∃e,X8 acc x=some (acc++[e])/\Zz (m+2) l (szL acc) (dpL acc) (acc.length:Int)=Zz m l (szL (acc++[e])) (dpL (acc++[e])) ((acc.length+1:Nat):Int)):=by
  have hlt:acc.length<l.length:=(J0d.1 hx).1;have fin:∀(a b sz dp:Int),(Qt x a b=true->X8 acc x=some (acc++[(sz,dp)]))->(Qt x a b=false->X8 acc x=none) ->
      Zz (m+2) l (szL acc) (dpL acc) (acc.length:Int)=Qg (m+1) l (szL acc) (dpL acc) (acc.length:Int) a b sz dp ->
      (X8 acc x=none/\Zz (m+2) l (szL acc) (dpL acc) (acc.length:Int)=some ([],[],false,())) ∨
      (∃e,X8 acc x=some (acc++[e])/\Zz (m+2) l (szL acc) (dpL acc) (acc.length:Int)=Zz m l (szL (acc++[e])) (dpL (acc++[e])) ((acc.length+1:Nat):Int)):=by
    grind[r11]
  have hcnt:=Yd3 x.1;by_cases c0:cntK x.1=0;refine fin 0 0 1 1 (λhr=>?_) (λhr=>?_) ?_;unfold X8;grind;unfold X8;grind;rw[show m+2=(m+1)+1 from rfl];simp only[Q5,J0g,dT (show(acc.length:Int)<(l.length:Int) by omega),cond_true,dT (Int.natCast_nonneg acc.length),J0l,hx,Zm4,dF (show ¬((cntK x.1:Nat):Int)>0 by omega),cond_false];by_cases hne:acc.length=0;left;refine⟨by unfold X8;grind,?_⟩;have hw:Go.IntKind.wrap Go.IntKind.i64 ((acc.length:Int)-1)=(acc.length:Int)-1:=w64 (by omega) (by omega);rw[show m+2=(m+1)+1 from rfl];simp only[Q5,J0g,dT (show(acc.length:Int)<(l.length:Int) by omega),cond_true,dT (Int.natCast_nonneg acc.length),J0l,hx,Zm4,dT (show((cntK x.1:Nat):Int)>0 by omega),hw,dT (show(acc.length:Int)-1<0 by omega)];have hl1:acc.length-1<acc.length:=by omega
  have hgl:=hg _ hl1;have hw:Go.IntKind.wrap Go.IntKind.i64 ((acc.length:Int)-1)=((acc.length-1:Nat):Int):=by grind[w64]
  have ew:((acc.length-1:Nat):Int)=(acc.length:Int)-1:=by omega
  by_cases c1:cntK x.1=1;refine fin ((acc.length:Int)-1) 0 (1+(gt acc (acc.length-1)).1) (1+(gt acc (acc.length-1)).2) (λhr=>?_) (λhr=>?_) ?_;unfold X8;grind;unfold X8;grind;rw[show m+2=(m+1)+1 from rfl];have e2:(((1:Nat):Int)==2)=false:=rfl;have g1:decide (((1:Nat):Int)>0)=true:=rfl;simp only[Q5,J0g,dT (show(acc.length:Int)<(l.length:Int) by omega),cond_true,dT (Int.natCast_nonneg acc.length),J0l,hx,Zm4,dT (show((cntK x.1:Nat):Int)>0 by omega),hw,dF (show ¬((acc.length-1:Nat):Int)<0 by omega),cond_false,dT (Int.natCast_nonneg (acc.length-1)),
   Zq9,Zu6,dT hl1,Zra hl1,Zrb hl1,c1,e2,w64 (x:=1+(gt acc (acc.length-1)).1) (by omega) (by omega),w64 (x:=1+(gt acc (acc.length-1)).2) (by omega) (by omega),g1]
  rw[ew];have c2:cntK x.1=2:=by omega
  have hw2:Go.IntKind.wrap Go.IntKind.i64 (((acc.length-1:Nat):Int)-(gt acc (acc.length-1)).1)=(acc.length:Int)-1-(gt acc (acc.length-1)).1:=by grind[w64]
  have e2:(((2:Nat):Int)==2)=true:=rfl;have g1:decide (((2:Nat):Int)>0)=true:=rfl;by_cases hf:(acc.length:Int)-1-(gt acc (acc.length-1)).1<0;left;refine⟨by unfold X8;grind,?_⟩;rw[show m+2=(m+1)+1 from rfl];simp only[Q5,J0g,dT (show(acc.length:Int)<(l.length:Int) by omega),cond_true,dT (Int.natCast_nonneg acc.length),J0l,hx,Zm4,dT (show((cntK x.1:Nat):Int)>0 by omega),hw,dF (show ¬((acc.length-1:Nat):Int)<0 by omega),cond_false,dT (Int.natCast_nonneg (acc.length-1)),
   Zq9,Zu6,dT hl1,Zra hl1,Zrb hl1,c2,e2,hw2,dT hf,g1]
  have hj:((acc.length:Int)-1-(gt acc (acc.length-1)).1).toNat<acc.length:=by omega
  have hgf:=hg _ hj;refine fin ((acc.length:Int)-1-(gt acc (acc.length-1)).1) ((acc.length:Int)-1) (1+(gt acc (acc.length-1)).1+(gt acc ((acc.length:Int)-1-(gt acc (acc.length-1)).1).toNat).1)
   (max (1+(gt acc (acc.length-1)).2) (1+(gt acc ((acc.length:Int)-1-(gt acc (acc.length-1)).1).toNat).2)) (λhr=>?_) (λhr=>?_) ?_
  unfold X8;grind;unfold X8;grind;rw[show m+2=(m+1)+1 from rfl];simp only[Q5,J0g,dT (show(acc.length:Int)<(l.length:Int) by omega),cond_true,dT (Int.natCast_nonneg acc.length),J0l,hx,Zm4,dT (show((cntK x.1:Nat):Int)>0 by omega),hw,dF (show ¬((acc.length-1:Nat):Int)<0 by omega),cond_false,dT (Int.natCast_nonneg (acc.length-1)),
   Zq9,Zu6,dT hl1,Zra hl1,Zrb hl1,c2,e2,hw2,dF hf,dT (show(0:Int)<=(acc.length:Int)-1-(gt acc (acc.length-1)).1 by omega),dT hj,Zra hj,Zrb hj,
   w64 (x:=1+(gt acc (acc.length-1)).1) (by omega) (by omega),w64 (x:=1+(gt acc (acc.length-1)).2) (by omega) (by omega),w64 (x:=1+(gt acc (acc.length-1)).1+(gt acc ((acc.length:Int)-1-(gt acc (acc.length-1)).1).toNat).1) (by omega) (by omega),w64 (x:=1+(gt acc ((acc.length:Int)-1-(gt acc (acc.length-1)).1).toNat).2) (by omega) (by omega),tmax,g1]
  rw[ew]
end Tg
namespace Tg
open Go.Abs (Ze Zj tmm)
theorem Zyy(l:List Nd)(hl:l.length<=1000):∀(rest:List Nd) (acc:List (Int×Int)) (n:Nat),acc.length+rest.length=l.length->l.drop acc.length=rest->Good acc->(∃s,St acc acc.length s)->2*rest.length+2<=n ->
    (runN rest acc=none/\Zz n l (szL acc) (dpL acc) (acc.length:Int)=some ([],[],false,())) ∨
    (∃acc',runN rest acc=some acc' /\ Zz n l (szL acc) (dpL acc) (acc.length:Int)=some (szL acc',dpL acc',oneN acc',()))
  |[],acc,n,hlen,hd,hg,hst,hn=>by
   right;refine⟨acc,rfl,?_⟩;obtain⟨m,rfl⟩:∃m,n=m+2:=⟨n-2,by omega⟩;simp only[List.length_nil,Nat.add_zero]at hlen;rw[show m+2=(m+1)+1 from rfl];simp only[Q5,J0g,dF (show ¬(acc.length:Int)<(l.length:Int) by omega),cond_false,Zxp];unfold oneN;rw[show l.length=acc.length from hlen.symm];by_cases h0:acc.length=0;grind;have hw:Go.IntKind.wrap Go.IntKind.i64 ((acc.length:Int)-1)=((acc.length-1:Nat):Int):=by grind[w64]
   have hl1:acc.length-1<acc.length:=by omega
   simp only[dT (show(acc.length:Int)>0 by omega),cond_true,hw,dT (Int.natCast_nonneg (acc.length-1)),J0l,Zq9,dT hl1,Zra hl1,dT (show 0<acc.length by omega),Bool.true_and]
  |x::rest,acc,n,hlen,hd,hg,⟨s,hst⟩,hn=>by
   simp only[J0p]at hlen hn;obtain⟨m,rfl⟩:∃m,n=m+2:=⟨n-2,by omega⟩;have hx:l[acc.length]? = some x:=by have:=congrArg (λz=>z[0]?) hd;grind
   have hd' : l.drop (acc.length+1)=rest:=by have:=congrArg (List.drop 1) hd;grind[List.drop_drop]
   rcases Yot hg hx hl m with⟨h1,h2⟩|⟨e,h1,h5⟩
   grind[runN];have hle:(acc++[e]).length=acc.length+1:=by simp
   rcases Z9u hg hst hx hl 0 with⟨t1,_⟩|⟨e',s',m',t1,_,h3,h4,_⟩
   grind;have he:acc++[e']=acc++[e]:=by grind
   rw[he]at h3 h4;rcases Zyy l hl rest (acc++[e]) m (by omega) (by grind) h3 ⟨s',by grind⟩ (by omega)with⟨q1,q2⟩|⟨acc',q1,q3⟩
   grind[runN];grind[runN]
theorem You(l:List Nd)(hl:l.length<=1000) :
    (runN l []=none/\Zhf l=some ([],[],false,()))∨(∃acc,runN l []=some acc/\Zhf l=some (szL acc,dpL acc,oneN acc,())):=by
  obtain⟨n,hn⟩:=Zat;rw[Z0o];exact Zyy l hl l [] fuel (by simp) (by simp) Zyx ⟨[],.nil⟩ (by grind)
def errN(l:List Nd):Int := if 60<l.length then 4 else match runN l []with|none=>8|some acc=>bif oneN acc then(if 20<(gt acc (l.length-1)).2 then 34 else 0)else 8
variable {acc:List (Int×Int)}
theorem Zyz(h:oneN acc=true):0<acc.length:=by grind[oneN]
theorem Yov{i:Nat}(h:i<acc.length):(allT acc)[i]? = some ((i:Int),(gt acc i).1,(gt acc i).2,()):=by grind[allT,gt]
theorem Zsm(l:List Nd):Ze4 l=some (errN l,()):=by
 rw[Z1b,Z1a];unfold errN;by_cases h60:60<l.length;grind;simp only[J0g,dF (show ¬(l.length:Int)>60 by omega),cond_false,if_neg h60];rcases Ysp l (by omega)with⟨h1,r,h2⟩|⟨acc,h1,hlen,hg,h2⟩
 grind;simp only[h1,h2];cases ho:oneN acc with
 |false=>rfl|true =>
  have hp:=Zyz ho;have hl1:acc.length-1<acc.length:=by omega
  have hw:Go.IntKind.wrap Go.IntKind.i64 (((allT acc).length:Int)-1)=((acc.length-1:Nat):Int):=by grind[Z9t,w64]
  simp only[Bool.not_true,cond_false,cond_true,hw,dT (Int.natCast_nonneg (acc.length-1)),J0l,Yov hl1,hlen.symm];grind
theorem Z3l(l:List Nd):Xq l=some (errN l,()):=by
 rw[Z0p];unfold errN;by_cases h60:60<l.length;grind;simp only[J0g,dF (show ¬(l.length:Int)>60 by omega),cond_false,if_neg h60];rcases You l (by omega)with⟨h1,h2⟩|⟨acc,h1,h2⟩
 grind;simp only[h1,h2];have hlen:acc.length=l.length:=by simpa using Zq8 l [] acc h1
 cases ho:oneN acc with
 |false=>rfl|true =>
  have hp:=Zyz ho;have hl1:acc.length-1<acc.length:=by omega
  have hw:Go.IntKind.wrap Go.IntKind.i64 ((l.length:Int)-1)=((acc.length-1:Nat):Int):=by grind[w64]
  simp only[Bool.not_true,cond_false,cond_true,hw,dT (Int.natCast_nonneg (acc.length-1)),J0l,Zrb hl1];grind
end Tg
