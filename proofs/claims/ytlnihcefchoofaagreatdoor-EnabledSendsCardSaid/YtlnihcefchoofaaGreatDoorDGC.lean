import Derived.Test.YtlnihcefchoofaaGreatDoorDWK
set_option linter.all false
namespace Tj
open Tg (cnt apart Zhx Zib rlx rnd rnds v2 v3 gOkB gChk)
theorem Yz5:@Tg.okC=@okC:=rfl
theorem Ywt:@Tg.inc=@inc:=rfl
theorem Ynk:∀(l:List Int) (a:Int),l.Pairwise (· < ·)->(∀x∈l,a<=x/\x<a+l.length)->l=(List.range l.length).map λi:Nat=>a+(i:Int)
 |[],_,_,_=>rfl|x::t,a,h,hr=>by
  rw[List.pairwise_cons]at h;have hx:=hr x (by simp);have ht:=Ynk t (a+1) h.2 (λy hy=>by grind);have hxa:x=a:=by
   cases t with
   |nil=>grind|cons y t =>
    have h1:=h.1 y (by simp);have h2:y=a+1:=by have:=congrArg (λl=>l[0]?) ht;grind
    omega
  subst hxa;simp only[J0p];rw[List.range_succ_eq_map,List.map_cons,List.map_map];congr 1;simp;grind[List.map_congr_left]
theorem Ynl(l:List Int):srt l=upto l.length↔l.Nodup /\ ∀x∈l,0<=x/\x<(l.length:Int):=by
 have hp:(srt l).Perm l:=List.mergeSort_perm l _;constructor;grind[upto,List.pairwise_lt_range];rintro⟨h1,h2⟩;have hs:(srt l).Pairwise (λa b=>a<=b):=by grind[List.pairwise_mergeSort,srt]
 have hn:(srt l).Nodup:=hp.nodup_iff.2 h1;have hlt:(srt l).Pairwise (· < ·):=by have:=List.pairwise_and_iff.2 ⟨hs,hn⟩;grind
 have:=Ynk (srt l) 0 hlt (λx hx=>by grind[Znv]);grind[Znv,upto,List.map_congr_left]
theorem Ysi(b:Bool)(j:Nat)(chs:List Chn):(lst b j chs).length=cnt b j chs:=by
 unfold lst cnt
 induction chs with|nil=>rfl|cons c l ih=>grind
theorem Zu2(b:Bool)(j:Nat)(chs:List Chn)(x:Int):x∈lst b j chs ↔ ∃c∈chs,cond b c.2.2.1 c.1=(j:Int)/\cond b c.2.2.2.1 c.2.1=x:=by unfold lst;grind
theorem Zsi(b:Bool)(j:Nat)(chs:List Chn):(lst b j chs).Nodup↔chs.Pairwise λd c=>cond b d.2.2.1 d.1=(j:Int)->cond b c.2.2.1 c.1=(j:Int)->cond b d.2.2.2.1 d.2.1≠cond b c.2.2.2.1 c.2.1:=by unfold lst;rw[List.Nodup,List.pairwise_filterMap];simp_all
theorem Yi7{a b c:Chn}(h1:inc a b=true)(h2:inc b c=true):inc a c=true:=by grind[inc]
theorem Yg5:∀(n:Nat) (p:Option Chn) (l:List Chn),chk n p l=true↔(∀c∈l,okC n c=true)/\(∀q,p=some q -> ∀c∈l,inc q c=true)/\l.Pairwise (λd c=>inc d c=true)
 |_,_,[]=>by simp[chk]|n,p,d::l=>by
  rw[Zlg,J0e,J0e,Yg5 n (some d) l,List.pairwise_cons];constructor;rintro⟨h1,h2,h3,h4,h5⟩;refine⟨λc hc=>?_,λq hq c hc=>?_,h4 d rfl,h5⟩;grind;subst hq;have h2:inc q d=true:=h2;grind[Yi7];rintro⟨h1,h2,h3,h4⟩;refine⟨h1 d (by simp),?_,λc hc=>h1 c (by simp[hc]),λq hq=>by grind,h4⟩;cases p with|none=>rfl|some q=>exact h2 q rfl d (by simp)
theorem Yg6(chs:List Chn):∀(ops:List Opr) (j:Nat),fin chs j ops=true ↔ ∀i o,ops[i]? = some o->Zbn (lst true (j+i) chs) (bnd o.1).1 (bnd o.1).2.1=true/\Zbn (lst false (j+i) chs) (bnd o.1).2.2.1 (bnd o.1).2.2.2=true
 |[],j=>by simp[fin]|o::l,j=>by
  rw[fin,J0e,J0e,Yg6 chs l (j+1)];constructor;grind;intro h;have h0:=h 0 o (by simp);refine⟨h0.1,h0.2,λi p hp=>?_⟩;have:=h (i+1) p (by grind);grind
def Zhn(ops:List Opr)(chs:List Chn):Prop :=
 (∀c∈chs,okC ops.length c=true)/\(chs.Pairwise (λd c=>apart d c=true) /\ ∀c∈chs,Zhx chs c=true) /\
 ∀(i:Nat) o,ops[i]? = some o->(decide (0<=o.2.1)&&decide (o.2.1<=3))=true/\Zib o.1 (cnt true i chs) (cnt false i chs)=true
theorem Yg7(ops:List Opr)(chs:List Chn):Zhn ops chs↔ops.all okO=true/\Zai ops chs=true:=by
 rw[Zai,J0e,Yg5,Yg6,List.all_eq_true];simp only[Nat.zero_add,Zbn,J0e,J0h,Ynl];simp only[Ysi];constructor;rintro⟨h1,⟨h2,h3⟩,h4⟩;have hinc:chs.Pairwise (λd c=>inc d c=true):=h2.imp λ{d c} h=>by rw[apart,J0e]at h;exact h.1
 refine⟨λo ho=>?_,⟨h1,(λq hq=>by cases hq),hinc⟩,λi o ho=>?_⟩;obtain⟨i,hi⟩:=List.mem_iff_getElem?.1 ho;grind[Zib,okO];obtain⟨g1,g2⟩:=h4 i o ho;simp only[Zib,J0e,J0h]at g2;refine⟨⟨⟨?_,?_⟩,g2.2.1⟩,⟨?_,?_⟩,g2.2.2⟩;rw[Zsi];refine h2.imp λ{d c} h e1 e2 e3=>?_;grind[apart];grind[Zu2,Zhx];rw[Zsi];refine hinc.imp λ{d c} h e1 e2 e3=>?_;grind[inc];grind[Zu2,Zhx];rintro⟨h1,⟨h2,_,h3⟩,h4⟩;have hop:∀x:Int,0<=x->x<ops.length -> ∃(i:Nat) (o:Opr),x=i/\ops[i]? = some o:=λx hx1 hx2=>⟨x.toNat,ops[x.toNat]'(by omega),by omega,J0c _⟩;refine⟨h2,⟨?_,λc hc=>?_⟩,λi o ho=>?_⟩;rw[List.pairwise_iff_getElem]at h3 ⊢;intro i j hi hj hij;rw[apart,Ywt,h3 i j hi hj hij,Bool.true_and,Bool.not_eq_true',Bool.and_eq_false_iff,decide_eq_false_iff_not,decide_eq_false_iff_not];by_cases e:chs[i].2.2.1=chs[j].2.2.1;right;have hok:=h2 chs[j] (List.getElem_mem _);simp only[okC,J0e,J0h]at hok;obtain⟨k,o,hk,ho⟩:=hop chs[j].2.2.1 (by omega) (by omega);have:=(h4 k o ho).1.1.1;rw[Zsi,List.pairwise_iff_getElem]at this;grind;grind;have hok:=h2 c hc;simp only[okC,J0e,J0h]at hok;simp only[Zhx,J0e,J0h];obtain⟨k,o,hk,ho⟩:=hop c.1 (by omega) (by omega);obtain⟨k',o',hk',ho'⟩:=hop c.2.2.1 (by omega) (by omega);have g1:=(h4 k o ho).2.1.2 c.2.1 ((Zu2 _ _ _ _).2 ⟨c,hc,hk,rfl⟩);have g2:=(h4 k' o' ho').1.1.2 c.2.2.2.1 ((Zu2 _ _ _ _).2 ⟨c,hc,hk',rfl⟩);grind;have g:=h1 o (J0j ho);obtain⟨g1,g2⟩:=h4 i o ho;rw[okO,J0e]at g;simp only[Zib,J0e,J0h];simp only[J0e,J0h]at g;exact⟨g.2,g.1,g1.2,g2.2⟩
def tr(R:List Bool):Nat:=(R.filter id).length
theorem Z52(f:Int)(R:List Bool)(c:Chn):(rlx f R c).length=R.length:=by unfold rlx;grind
theorem Zny(f:Int):∀(chs:List Chn) (R:List Bool),(rnd f chs R).length=R.length|[],_=>rfl|c::l,R=>by show(rnd f l (rlx f R c)).length=_;rw[Zny f l,Z52]
theorem Zms(f:Int)(chs:List Chn):∀(k:Nat) (R:List Bool),(rnds f chs k R).length=R.length|0,_=>rfl|k+1,R=>by rw[rnds,Zms f chs k,Zny]
theorem Ynm:∀(R:List Bool) (j:Nat),R.set j true=R∨tr (R.set j true)=tr R+1
 |[],j=>.inl (by simp)|b::R,0=>by grind[tr]|b::R,j+1=>by
  rcases Ynm R j with h|h
  grind;grind[tr]
theorem Ywu(f:Int)(R:List Bool)(c:Chn):rlx f R c=R∨tr (rlx f R c)=tr R+1:=by grind[rlx,Ynm]
theorem Ydo(f:Int):∀(chs:List Chn) (R:List Bool),(rnd f chs R=R /\ ∀c∈chs,rlx f R c=R)∨tr R<tr (rnd f chs R)
 |[],R=>.inl ⟨rfl,by simp⟩|c::l,R=>by
  show(rnd f l (rlx f R c)=R/\_)∨tr R<tr (rnd f l (rlx f R c));rcases Ywu f R c with h|h
  rw[h];rcases Ydo f l R with h2|h2
  grind;grind;right;rcases Ydo f l (rlx f R c)with h2|h2
  grind;omega
theorem Z9e(f:Int)(chs:List Chn)(R:List Bool)(h:rnd f chs R=R):∀k,rnds f chs k R=R|0=>rfl|k+1=>by rw[rnds,h,Z9e f chs R h k]
theorem Yg8(f:Int)(chs:List Chn):∀(k:Nat) (R:List Bool),(∀c∈chs,rlx f (rnds f chs k R) c=rnds f chs k R)∨k+tr R<=tr (rnds f chs k R)
 |0,R=>.inr (by simp[rnds])|k+1,R=>by
  rcases Ydo f chs R with h|h
  grind[Z9e];rw[rnds];rcases Yg8 f chs k (rnd f chs R)with h2|h2
  grind;grind
theorem Yz6(R:List Bool):tr R<=R.length:=List.length_filter_le _ _
def Rd(R:List Bool)(x:Int):Prop:=0<=x/\R[x.toNat]? = some true
variable {f:Int}{n:Nat}{R:List Bool}
theorem Yi8{chs:List Chn}{c:Chn}(hc:c∈chs)(hok:okC n c=true)(h:∀x,Rd R x->Tg.Pth (chs.map tch) f x):∀x,Rd (rlx f R c) x->Tg.Pth (chs.map tch) f x:=by
 intro x hx;unfold rlx at hx;simp only[okC,J0e,J0h]at hok;have hmem:tch c∈chs.map tch:=List.mem_map_of_mem hc;cases hb:c.1==f||(R[c.1.toNat]?).getD false with
 |false=>grind|true =>
  rw[hb,cond_true]at hx;obtain⟨h0,h1⟩:=hx;rw[List.getElem?_set]at h1;split at h1;rename_i he;have hxe:x=c.2.2.1:=by omega
  subst hxe;rw[Bool.or_eq_true]at hb;rcases hb with hb|hb
  have e:c.1=f:=by grind
  subst e;exact Tg.Pth.one (tch c) hmem;refine Tg.Pth.step f (tch c) (h c.1 ⟨by omega,?_⟩) hmem;grind;exact h x ⟨h0,h1⟩
theorem Z3d{f:Int}{n:Nat}{chs:List Chn}:∀(l:List Chn) (R:List Bool),(∀c∈l,c∈chs/\okC n c=true)->(∀x,Rd R x->Tg.Pth (chs.map tch) f x) -> ∀x,Rd (rnd f l R) x->Tg.Pth (chs.map tch) f x|[],_,_,h=>h|c::l,R,hl,h=>Z3d l (rlx f R c) (λd hd=>hl d (by simp[hd])) (Yi8 (hl c (by simp)).1 (hl c (by simp)).2 h)
theorem Zyc{f:Int}{n:Nat}{chs:List Chn}(hok:∀c∈chs,okC n c=true):∀(k:Nat) (R:List Bool),(∀x,Rd R x->Tg.Pth (chs.map tch) f x) -> ∀x,Rd (rnds f chs k R) x->Tg.Pth (chs.map tch) f x|0,_,h=>h|k+1,R,h=>Zyc hok k _ (Z3d chs R (λc hc=>⟨hc,hok c hc⟩) h)
theorem Ysj{chs:List Chn}(hn:R.length=n)(hok:∀c∈chs,okC n c=true)(h:∀c∈chs,rlx f R c=R){a x:Int}(hp:Tg.Pth (chs.map tch) a x):a=f->Rd R x:=by
 have key:∀c∈chs,(c.1=f∨Rd R c.1)->Rd R c.2.2.1:=λc hc hr=>by
  have h1:=h c hc;have h2:=hok c hc;simp only[okC,J0e,J0h]at h2;unfold rlx at h1;have hb:(c.1==f||(R[c.1.toNat]?).getD false)=true:=by
   rcases hr with rfl|hr
   simp;rw[hr.2];simp
  rw[hb,cond_true]at h1;refine⟨by omega,?_⟩;grind
 induction hp with|one c hc=>intro e;obtain⟨d,hd,rfl⟩:=List.mem_map.1 hc;exact key d hd (.inl e)|step a c p hc ih=>intro e;obtain⟨d,hd,rfl⟩:=List.mem_map.1 hc;exact key d hd (.inr (ih e))
theorem Z3e{chs:List Chn}(hok:∀c∈chs,okC n c=true)(f x:Int)(hx:0<=x):(rnds f chs (n+1) (List.replicate n false))[x.toNat]? = some true↔Tg.Pth (chs.map tch) f x:=by
 constructor;intro h;refine Zyc hok (n+1) (List.replicate n false) (λy hy=>?_) x ⟨hx,h⟩;have:=hy.2;grind;intro h;have hl:(rnds f chs (n+1) (List.replicate n false)).length=n:=by grind[Zms]
 rcases Yg8 f chs (n+1) (List.replicate n false)with g|g
 exact(Ysj hl hok g h rfl).2;grind[Yz6]
theorem Ynn(chs:List Chn):∀(l p:List Chn),v2 chs p l=true↔(∀c∈l,Zhx chs c=true)/\(∀c∈l,∀d∈p,apart d c=true)/\l.Pairwise (λd c=>apart d c=true)|[],p=>by simp[v2]|c::l,p=>by rw[v2,J0e,J0e,Ynn chs l,List.all_eq_true,List.pairwise_cons];grind
theorem Yno(n:Nat)(chs:List Chn):∀(l:List Opr) (j:Nat),v3 n chs j l=true ↔ ∀i o,l[i]? = some o->((decide (0<=o.2.1)&&decide (o.2.1<=3))=true/\Zib o.1 (cnt true (j+i:Nat) chs) (cnt false (j+i:Nat) chs)=true)/\((rnds (j+i:Nat) chs (n+1) (List.replicate n false))[j+i]?).getD false=false
 |[],j=>by simp[v3]|o::l,j=>by
  rw[v3,J0e (a:=(decide (0<=o.2.1)&&decide (o.2.1<=3))),J0e (a:=Zib _ _ _),J0e (a:=!_),Yno n chs l (j+1),Bool.not_eq_true'];constructor;grind;intro h;have h0:=h 0 o (by simp);refine⟨h0.1.1,h0.1.2,h0.2,λi p hp=>?_⟩;have:=h (i+1) p (by grind);grind
theorem Yg9(ops:List Opr)(chs:List Chn):gOk ops chs↔gOkB (ops,chs,())=true:=by
 have e:gOk ops chs↔Zhn ops chs/\acyc ops.length chs:=by grind[gOk,Yg7]
 rw[e,gOkB,J0e,J0e,List.all_eq_true,Ynn,Yno,Zhn];simp only[Nat.zero_add,Yz5];constructor;rintro⟨⟨h1,⟨h2,h3⟩,h4⟩,h5⟩;refine⟨h1,⟨h3,(λc _ d hd=>by cases hd),h2⟩,λi o ho=>⟨h4 i o ho,?_⟩⟩;have hi:=(J0d.1 ho).1;have hr:=Z3e (n:=ops.length) h1 (i:Int) (i:Int) (by omega);have ha:=h5 (i:Int) (by omega) (by omega);grind;rintro⟨h1,⟨h3,_,h2⟩,h4⟩;refine⟨⟨h1,⟨h2,h3⟩,λi o ho=>(h4 i o ho).1⟩,λx hx1 hx2 hp=>?_⟩;have hr:=(Z3e (n:=ops.length) h1 x x hx1).2 hp;have:=(h4 x.toNat _ (J0c (by omega))).2;grind
theorem Ysk(ops:List Opr)(chs:List Chn):gchk ops chs=gChk (ops,chs,()):=by grind[gchk,gChk,Yg9]
end Tj
namespace Tg
open Go Go.Abs Go.RowKit Go.Proofs
theorem Yha{α:Type}{w:World}{O:Nat->Prop}{sz:Nat}{f:α->List Value}{g:α->List PV}{xs:List α}{v:Value}(hf:∀x,(g x).length=sz)(hfg:∀(x:α) (w:World) (O:Nat->Prop) (i:Nat) (v:Value) (p:PV),(f x)[i]? = some v->(g x)[i]? = some p -> ∀u,PRel w O p u->u=v)(hlen:∀x,(f x).length=(g x).length)(h:PRel w O (.sl (xs.map g)) v):∃a n c,v = .slice a n c/\Tj.SlAt w sz f a n xs:=by
 generalize hes:xs.map g=es at h;cases h with
 |nil a c =>
  have:xs=[]:=by simp_all
  subst this;exact⟨a,0,c,rfl,rfl,λj x hj=>by grind⟩
 |sl _ a n c size u hno hlt hn hc hsz hcell hr =>
  refine⟨some a,n,c,rfl,by grind,λj x hj=>⟨a,rfl,hlt,λi y hy=>?_⟩⟩;have he:es[j]? = some (g x):=by grind
  have h1:size=sz:=by grind
  subst h1;have hi:i<(g x).length:=by grind
  have h2:=hcell j _ he i _ (J0c hi);rw[h2,hfg x w O i y _ hy (J0c hi) _ (hr j _ he i _ (J0c hi))]
def opP(r:Op):List PV:=[.int .u8 r.1,.int .i64 r.2.1]
def chP(r:Cn):List PV:=[.int .i64 r.1,.int .i64 r.2.1,.int .i64 r.2.2.1,.int .i64 r.2.2.2.1,.int .i64 r.2.2.2.2.1]
theorem Ynp(x:Cn)(w:World)(O:Nat->Prop)(i:Nat)(v:Value)(p:PV)(h1:(Tj.chC x)[i]? = some v)(h2:(chP x)[i]? = some p)(u:Value)(h:PRel w O p u):u=v:=by
 match i,h1,h2 with|0,h1,h2=>cases h1;cases h2;cases h;rfl|1,h1,h2=>cases h1;cases h2;cases h;rfl|2,h1,h2=>cases h1;cases h2;cases h;rfl|3,h1,h2=>cases h1;cases h2;cases h;rfl|4,h1,h2=>cases h1;cases h2;cases h;rfl|i+5,h1,h2=>simp[Tj.chC]at h1
theorem Ynq(x:Op)(w:World)(O:Nat->Prop)(i:Nat)(v:Value)(p:PV)(h1:(Tj.opC x)[i]? = some v)(h2:(opP x)[i]? = some p)(u:Value)(h:PRel w O p u):u=v:=by
 match i,h1,h2 with|0,h1,h2=>cases h1;cases h2;cases h;rfl|1,h1,h2=>cases h1;cases h2;cases h;rfl|i+2,h1,h2=>simp[Tj.opC]at h1
def Zjh(x:Gr):Option (Int×Unit):=bif decide (x.1.length<=4611686018427387904)&&decide (x.2.1.length<=4611686018427387904)then some (gChk x,())else none
noncomputable def Za8(x:Gr):Option (Int×Unit):=hid Zjh x
theorem Z1d(x:Gr)(h1:x.1.length<=4611686018427387904)(h2:x.2.1.length<=4611686018427387904):Za8 x=some (gChk x,()):=by rw[Za8,Za2,Zjh,decide_eq_true h1,decide_eq_true h2];rfl
noncomputable def Yt3:TCon:=⟨[.a [.sl [.int .u8,.int .i64],.sl [.int .i64,.int .i64,.int .i64,.int .i64,.int .i64]]],[.c (.p (.int .i64))],λa=>Za8 a.1⟩
theorem sp85(ops:List Op)(chs:List Cn)(m1:ops.length<=4611686018427387904)(m2:chs.length<=4611686018427387904):Spec Tryz.prog 31 [.a [.sl (ops.map opP),.sl (chs.map chP)]] [.c (.c (.int .i64 (gChk (ops,chs,()))))]:=by
 refine Spec.still (v:=.int .i64 (gChk (ops,chs,()))) (λw O=>.int _ _) λO w cargs hg hp=>?_;obtain⟨u,v,rfl,h1,h2⟩:∃u v,cargs=#[.agg #[u,v]]/\PRel w O (.sl (ops.map opP)) u/\PRel w O (.sl (chs.map chP)) v:=by
  obtain⟨h1,h2⟩:=hp;obtain⟨l⟩:=cargs
  match l,h1 with
  |[u],_ =>
   have e1:=h2 0 _ u rfl rfl;cases e1 with
   |a _ vs hl hr =>
    obtain⟨vs⟩:=vs
    match vs,hl with|[x,y],_=>exact⟨x,y,rfl,hr 0 _ x rfl rfl,hr 1 _ y rfl rfl⟩
 obtain⟨a1,n1,c1,rfl,g1⟩:=Yha (f:=Tj.opC) (sz:=2) (λ_=>rfl) (λx w O i v p a b u hu=>Ynq x w O i v p a b u hu) (λ_=>rfl) h1;obtain⟨a2,n2,c2,rfl,g2⟩:=Yha (f:=Tj.chC) (sz:=5) (λ_=>rfl) (λx w O i v p a b u hu=>Ynp x w O i v p a b u hu) (λ_=>rfl) h2;have e1:=g1.1;have e2:=g2.1;grind[Tj.Yi6,Tj.Ysk]
theorem ok45:Yt3.ok Tryz.prog 31:=λa r h=>by
 obtain⟨⟨ops,chs,u⟩,u'⟩:=a;have key:∀(x:Gr) (r:Int×Unit),Za8 x=some r->Spec Tryz.prog 31 [.a [.sl (x.1.map opP),.sl (x.2.1.map chP)]] [.c (.c (.int .i64 r.1))]:=λx r h=>by rw[Za8,Za2,Zjh]at h;grind[sp85]
 exact key (ops,chs,()) r h
end Tg
