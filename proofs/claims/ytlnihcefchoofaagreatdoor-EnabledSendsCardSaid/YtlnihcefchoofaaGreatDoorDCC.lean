import Derived.Test.YtlnihcefchoofaaGreatDoorDWJ0
import Derived.Deep.Upon
import Derived.Test.YtlnihcefchoofaaGreatDoorDWP
set_option linter.all false
set_option maxRecDepth 100000
namespace Tj
open Go Go.RowKit Go.Proofs
theorem Yt4:(Tryz.prog.info? 64).map (λi=>(i.zero,i.size,i.bytes))=some (some (.agg #[.int .i64 0,.slice none 0 0]),2,32):=by kernel_rfl
set_option maxHeartbeats 2000000 in
theorem Yny(n:Nat)(w:World)(h:n<=1000000):Calls Tryz.prog 133 #[.slice none 0 0,.int .i64 (n:Int)] w λe w' => ∃v,e = .returned v/\w'.ownsRow w.heap.size 64 2 v 0 []/\Below w.heap.size w w' := by
 obtain⟨i0,hi,hz0,hz1,hz2⟩:=info_parts Yt4;by_cases h0:n=0
 . subst h0;go_enter Tryz.func133,Tryz.ntmps133;go_wp2;go_ret;exact⟨_,rfl,World.ownsRow_nil _ _ _ _,Below.refl _ _⟩
 . have hp:0<n:=by omega
   have hpi:(0:Int)<(n:Int):=by omega
   have hr:=Lib.run_append_nil_zeros (P:=Tryz.prog) w 33 3 33 64 i0 _ .i64 .i64 Tryz.underlying33 Tryz.underlying3 hi hz0 n hp (by omega) (by omega) (by grind);have HR:=Lib.hid hr;clear hr;go_enter Tryz.func133,Tryz.ntmps133;go_wp2_with(first|(at_builtin;refine Lib.wpList_append_run _ rfl _ _ _ _ rfl _ _ rfl rfl _ _ HR.out ?_)|go_in);go_ret;refine⟨_,rfl,⟨rfl,.inr ⟨w.heap.size,grownCap w n 0 64,_,rfl,Nat.le_refl _,heap_alloc_new w.drew _,Nat.zero_le _,grownCap_le_maxLen w n 0 64 (by unfold maxLen;omega),?_,rfl⟩⟩,(Below.refl _ _).drew.alloc (Nat.le_refl _) _⟩;have hge:=grownCap_ge w n 0 64;rw[Array.size_append,size_zeroCells,size_zeroCells];grind
abbrev Sl:=Option Addr×Nat×Nat×List Value
def slC(x:Sl):List Value:=[.slice x.1 x.2.1 x.2.2.1]
structure InOk(w:World) (x:Sl):Prop where
 len:x.2.2.2.length=x.2.1*2
 cells:∀(i:Nat) (v:Value),x.2.2.2[i]? = some v->v.oneCell' = true /\ ∃b,x.1=some b/\b.block<w.heap.size/\w.cell? (b.add i)=some v
def tot(L:List Sl):Nat:=(L.map λx=>x.2.1).sum
variable {L:List Sl}{k:Nat}{x:Sl}
theorem Z9i(h:L[k]? = some x):tot (L.take (k+1))=tot (L.take k)+x.2.1:=by unfold tot;rw[List.take_add_one,h];simp
theorem Z53(L:List Sl)(k:Nat):tot (L.take k)<=tot L:=by
 have:tot L=tot (L.take k)+tot (L.drop k):=by unfold tot;rw[<- List.sum_append_nat,<- List.map_append,List.take_append_drop]
 omega
theorem Yjb(h:L[k]? = some x):(L.take (k+1)).flatMap (λx=>x.2.2.2)=(L.take k).flatMap (λx=>x.2.2.2)++x.2.2.2:=by rw[List.take_add_one,h];simp
set_option maxHeartbeats 4000000 in
theorem Ydp(a0:Option Addr)(n0 c0:Nat)(L:List Sl)(w:World)(hs:SlAt w 1 slC a0 n0 L)(hin:∀x∈L,InOk w x)(hn:n0<=1000)(ht:tot L<=1000000) :
    Calls Tryz.prog 73 #[.slice a0 n0 c0] w λe w' => ∃v,e = .returned v/\w'.ownsRow w.heap.size 64 2 v (tot L) (L.flatMap λx=>x.2.2.2)/\Below w.heap.size w w' := by
  obtain⟨i0,hi,hz0,hz1,hz2⟩:=info_parts Yt4;have H:=Lib.hid hs;have HI:=Lib.hid hin;clear hs hin;go_enter Tryz.func73,Tryz.ntmps73;go_wp2;go_loop[3,11] (λs i=>∃k:Nat,k<=n0/\i = .int .i64 k/\s = .int .i64 (tot (L.take k):Nat)) (λ_ i=>n0-(RowKit.intOf i).toNat)
  case atStart=>exact⟨0,Nat.zero_le _,rfl,rfl⟩
  case round =>
   obtain⟨k,hk,rfl,rfl⟩:=hrel;by_cases hlt:k<n0
   . obtain⟨x,hx⟩:∃x,L[k]? = some x:=⟨_,J0c (by rw[<- H.out.1];exact hlt)⟩;obtain⟨b1,rfl,hb,hc⟩:=H.out.2 k x hx;have hc0:=hc 0 _ rfl;rw[Nat.mul_one,Nat.add_zero]at hc0;have t1:=Z9i hx;have t2:=Z53 L k;have t3:=Z53 L (k+1);have hk0:(0:Int)<=(k:Int):=by omega
     have hkn:(k:Int)<(n0:Int):=by omega
     go_wp2;go_round
     case rel=>exact⟨k+1,by omega,by go_num,by grind⟩
     case measure=>simp[RowKit.intOf];omega
   . have hkl:k=n0:=by omega
     subst hkl;have hfull:L.take k=L:=List.take_of_length_le (by rw[<- H.out.1];grind);rw[hfull];go_wp2_with(go_at_call 133;refine(Yny (tot L) _ ht).mono ?_;rintro e w1 ⟨v,rfl,hown,hnx⟩);have HOWN:=Lib.hid hown;have HNX:=Lib.hid hnx;clear hown hnx;go_loopw[6,27] (λv i wr=>∃j:Nat,j<=k/\i = .int .i64 j/\wr.ownsRow w.heap.size 64 2 v (tot (L.take j)) ((L.take j).flatMap λx=>x.2.2.2)/\Below w.heap.size w wr) (λ_ i _=>k-(RowKit.intOf i).toNat)
     case atStart=>exact⟨0,Nat.zero_le _,rfl,HOWN.out,HNX.out⟩
     case round =>
      obtain⟨j,hj,rfl,hown,hnx⟩:=hrel;by_cases hlt:j<k
      . obtain⟨x,hx⟩:∃x,L[j]? = some x:=⟨_,J0c (by rw[<- H.out.1];exact hlt)⟩;obtain⟨b1,rfl,hb,hc⟩:=H.out.2 j x hx;have hc0:=(hnx.cell (p:=b1.add (j*1+0)) (by rw[Zc];exact hb)).trans (hc 0 _ rfl);rw[Nat.mul_one,Nat.add_zero]at hc0;have t1:=Z9i hx;have f1:=Yjb hx;have t2:=Z53 L j;have t3:=Z53 L (j+1);have hk0:(0:Int)<=(j:Int):=by omega
        have hkn:(j:Int)<(k:Int):=by omega
        have hxi:=HI.out x (J0j hx);have HX:=Lib.hid hxi;have HOW:=Lib.hid hown;have HN:=Lib.hid hnx;have F1:=Lib.hid f1;clear hx hxi hown hnx f1 hc;obtain⟨xa,xn,xc,xcells⟩:=x;simp only at hc0;cases hz:xn with
        |zero =>
         subst hz;obtain⟨p,n,c,hv,hle⟩:∃p n c,u6 = .slice p n c/\n<=c:=by
          rcases HOW.out.2 with⟨e,_⟩|⟨g,cap,cur,e,_,_,h1,_⟩
          grind;grind
         have src:Src Tryz.prog i0.size 33 (.slice xa 0 xc) 0 [] wr:=by
          cases xa with|none=>exact Src.ofNil _ Tryz.underlying33 xc|some a=>exact Src.ofSlice _ Tryz.underlying33 a 0 xc [] (by simp) (λq u hq=>by grind) (λu hu=>by cases hu)
         have HR:=Lib.hid (run_append_nothing (P:=Tryz.prog) wr 33 33 33 64 i0 Tryz.underlying33 hi p n c hle (.slice xa 0 xc) src);have HV:=Lib.hid hv;clear hv src;have hcl:xcells=[]:=List.length_eq_zero_iff.1 (by have:=HX.out.len;grind);rw[HV.out];go_wp2_with(first|(at_builtin;refine Lib.wpList_append_run _ rfl _ _ _ _ rfl _ _ rfl rfl _ _ HR.out ?_)|go_in);go_roundw
         case rel=>exact⟨j+1,by omega,by go_num,by rw[F1.out,t1,hcl,<- HV.out];simpa using HOW.out,HN.out⟩
         case measure=>simp[RowKit.intOf];omega
        |succ m =>
         obtain⟨b,hb2⟩:∃b,xa=some b:=by obtain⟨v0,hv0⟩:∃v0,xcells[0]? = some v0:=⟨_,J0c (by have:=HX.out.len;grind)⟩;obtain⟨_,b,e,_⟩:=HX.out.cells 0 v0 hv0;grind
         subst hb2;subst hz;go_wp2_with(first|(at_builtin;refine wpList_append_own _ rfl _ _ 33 rfl w.heap.size 64 i0 _ 2 32 Tryz.underlying33 hi hz0 hz1 hz2 rfl (by decide) _ _ _ rfl HOW.out b (m+1) xc xcells rfl HX.out.len ?c1 ?c2 ?c3 ?c4 ?c5 ?_)|go_in)
         case c1=>intro q u hq;obtain⟨_,b',e,hbl,hcc⟩:=HX.out.cells q u hq;obtain rfl:=J0a e;exact(HN.out.cell (p:=b.add q) (by rw[Zc];exact hbl)).trans hcc
         case c2=>intro u hu;obtain⟨q,hq⟩:=List.getElem?_of_mem hu;exact(HX.out.cells q u hq).1
         case c3=>unfold maxLen;omega
         case c4=>omega
         case c5=>exact HN.out.size
         intro v' w2 hown' hgrow _;have hlt2:∀q,_=some q->w.heap.size<=q:=λq hq=>(HOW.out.lt q hq).1;have R1:w2.ownsRow w.heap.size 64 2 v' (tot (L.take (j+1))) ((L.take (j+1)).flatMap λx=>x.2.2.2):=by rw[F1.out,t1];grind
         have R2:=HN.out.grown hgrow HN.out.size hlt2;have R:=Lib.hid (And.intro R1 R2);clear R1 R2 hown' hgrow hlt2;go_wp2;go_roundw
         case rel=>exact⟨j+1,by omega,by go_num,R.out.1,R.out.2⟩
         case measure=>simp[RowKit.intOf];omega
      . have hjk:j=k:=by omega
        subst hjk;have HOW:=Lib.hid hown;have HN:=Lib.hid hnx;clear hown hnx;rw[hfull]at HOW;go_wp2;go_ret;exact⟨_,rfl,HOW.out,HN.out⟩
end Tj
namespace Tg
open Go Go.Abs Go.RowKit Go.Proofs
def quT:List CT:=[.int .i64,.sl [.int .u8,.int .i64,.int .i64,.int .i64,.int .i64,.int .i64,.int .i64,.int .i64,.int .i64,.int .i64]]
def quE(q:Que):List PV:=pvL quT q
theorem Zu3(q:Que):(quE q).length=2:=rfl
def QRel(w:World)(O:Nat->Prop)(l:List Que)(cs:List Value):Prop:=cs.length=l.length*2 /\ ∀(k:Nat) (q:Que) (j:Nat) (p:PV),l[k]? = some q->(quE q)[j]? = some p -> ∃c,cs[k*2+j]? = some c/\PRel w O p c
variable {O:Nat->Prop}
theorem QRel.append{w:World}{l1 l2:List Que}{c1 c2:List Value}(h1:QRel w O l1 c1)(h2:QRel w O l2 c2):QRel w O (l1++l2) (c1++c2):=by
 refine⟨by rw[J0s,J0s,h1.1,h2.1,Nat.add_mul],λk q j p hk hj=>?_⟩;have hj2:j<2:=by grind[Zu3]
 by_cases hlt:k<l1.length;rw[List.getElem?_append_left hlt]at hk;obtain⟨c,hc,hp⟩:=h1.2 k q j p hk hj;grind;rw[J0o (by omega)]at hk;obtain⟨c,hc,hp⟩:=h2.2 _ q j p hk hj;refine⟨c,?_,hp⟩;rw[J0o (by rw[h1.1];omega),h1.1,<- hc];grind
structure RelS(w:World) (O:Nat->Prop) (l:List Que) (v:Value) (x:Tj.Sl):Prop where
 val:v = .slice x.1 x.2.1 x.2.2.1
 len:x.2.1=l.length
 ok:Tj.InOk w x
 rel:QRel w O l x.2.2.2
theorem relS{w:World}{l:List Que}{v:Value}(h:PRel w O (.sl (l.map quE)) v):∃x,RelS w O l v x:=by
 generalize hes:l.map quE=es at h;cases h with
 |nil a c =>
  have:l=[]:=by simp_all
  subst this;exact⟨(a,0,c,[]),rfl,rfl,⟨rfl,λi v h=>by simp at h⟩,rfl,λk q j p h=>by simp at h⟩
 |sl _ a n c size u hno hlt hn hc hsz hcell hr =>
  have hget:∀(k:Nat) (q:Que),l[k]? = some q->es[k]? = some (quE q):=λk q hq=>by grind
  have hlen:n=l.length:=by grind
  have hcs:∀t,t<n*2->((List.range (n*2)).map λt=>u (t / 2) (t % 2))[t]? = some (u (t / 2) (t % 2)):=λt ht=>by simp[ht]
  have key:∀(k j:Nat) (q:Que),l[k]? = some q->j<2 -> ∃p,(quE q)[j]? = some p/\w.cell? (a.add (k*2+j))=some (u k j)/\PRel w O p (u k j):=λk j q hq hj=>by
   have h1:size=2:=by grind[Zu3]
   subst h1;obtain⟨p,hp⟩:∃p,(quE q)[j]? = some p:=⟨_,J0c (by grind)⟩;grind
  refine⟨(some a,n,c,(List.range (n*2)).map λt=>u (t / 2) (t % 2)),rfl,hlen,⟨by simp,λi v hi=>?_⟩,by grind,λk q j p hk hj=>?_⟩;have hi2:i<n*2:=by grind
  simp only at hi;rw[hcs i hi2]at hi;obtain rfl:=J0a hi;obtain⟨q,hq⟩:∃q,l[i / 2]? = some q:=⟨_,J0c (by omega)⟩;obtain⟨p,_,h2,h3⟩:=key (i / 2) (i % 2) q hq (by omega);rw[show i / 2*2+i % 2=i by omega]at h2;exact⟨h3.oneCell,a,rfl,hlt,h2⟩;grind[Zu3]
theorem pick{α β:Type}(l:List α){P:Nat->α->β->Prop}(h:∀i a,l[i]? = some a -> ∃b,P i a b):∃l' : List β,l'.length=l.length /\ ∀i a b,l[i]? = some a->l'[i]? = some b->P i a b:=by have h2:∀i:Fin l.length,∃b,P i.val (l.get i) b:=λi=>h i.val _ (J0c i.isLt);refine⟨List.ofFn λi=>Classical.choose (h2 i),by simp,λi a b ha hb=>?_⟩;grind
theorem Z9j{w:World}{O:Nat->Prop}:∀(L:List (List Que×Unit)) (L' : List Tj.Sl),L'.length=L.length->(∀(i:Nat) (l:List Que×Unit) (x:Tj.Sl),L[i]? = some l->L'[i]? = some x->QRel w O l.1 x.2.2.2)->QRel w O (L.flatMap λx=>x.1) (L'.flatMap λx=>x.2.2.2)|[],[],_,_=>⟨rfl,λk q j p h=>by simp at h⟩|l::L,x::L',hl,h=>by rw[List.flatMap_cons,List.flatMap_cons];exact(h 0 l x rfl rfl).append (Z9j L L' (by grind) λi l x h1 h2=>h (i+1) l x (by grind) (by grind))
theorem Yhe:∀(L:List (List Que×Unit)) (L' : List Tj.Sl),L'.length=L.length->(∀(i:Nat) (l:List Que×Unit) (x:Tj.Sl),L[i]? = some l->L'[i]? = some x->x.2.1=l.1.length)->Tj.tot L' = (L.flatMap λx=>x.1).length|[],[],_,_=>rfl|l::L,x::L',hl,h=>by have:=Yhe L L' (by grind) λi l x h1 h2=>h (i+1) l x (by grind) (by grind);rw[List.flatMap_cons,J0s,<- this,<- h 0 l x rfl rfl];simp[Tj.tot]
theorem Spec.pure{P:Program}{f:FuncId}{pas:List PA}{y:PV}(h:∀(O:Nat->Prop) (w:World) (cargs:Array Value),(∀g,O g->g<w.heap.size)->Zcb w O pas cargs->Calls P f cargs w λe w' => ∃v,e = .returned v/\Below w.heap.size w w' /\ PRel w' O y v):Spec P f pas [.c (.c y)]:=by
 intro O w cargs hO hgl hp;refine(h O w cargs hO hp).mono λe w' he=>?_;obtain⟨v,rfl,hb,hv⟩:=he;have hown:Own 0 ⟨λ_=>undef,O,0,[]⟩=O:=by grind[Own]
 refine⟨v,⟨λ_=>undef,O,0,[]⟩,rfl,rfl,⟨hb,Nat.le_refl _,hO,hgl,λt o ho=>by grind[Za,Zbr,Yg],λt t' g h1=>by grind[Za,Zbr,Yg]⟩,.p _ _ ?_⟩;have e:(Za [RA.c (.c y)]).length=0:=rfl;grind
theorem Yz8(L:List (List Que×Unit))(h1:L.length<=1000)(h2:(L.flatMap λx=>x.1).length<=1000000):Spec Tryz.prog 73 [.c (.sl (L.map λx=>[.sl (x.1.map quE)]))] [.c (.c (.sl ((L.flatMap λx=>x.1).map quE)))]:=by
 refine Spec.pure λO w cargs hO hp=>?_;obtain⟨v,rfl,hv⟩:∃v,cargs=#[v]/\PRel w O (.sl (L.map λx=>[.sl (x.1.map quE)])) v:=by
  obtain⟨h1,h2⟩:=hp;obtain⟨l⟩:=cargs
  match l,h1 with|[u],_ => have e1:=h2 0 _ u rfl rfl;cases e1 with|c _ _ hz=>grind
 obtain⟨a0,n0,c0,L',rfl,hl,hs,hr⟩:∃a0 n0 c0,∃L' : List Tj.Sl,v = .slice a0 n0 c0/\L'.length=L.length/\Tj.SlAt w 1 Tj.slC a0 n0 L' /\ ∀(i:Nat) (l:List Que×Unit) (x:Tj.Sl),L[i]? = some l->L'[i]? = some x -> ∃u,RelS w O l.1 u x:=by
  generalize hes:(L.map λx=>[PV.sl (x.1.map quE)])=es at hv;cases hv with
  |nil a c =>
   have:L=[]:=by simp_all
   subst this;exact⟨a,0,c,[],rfl,rfl,⟨rfl,λj x h=>by simp at h⟩,λi l x h=>by simp at h⟩
  |sl _ a n c size u hno hlt hn hc hsz hcell hrl =>
   have hget:∀(k:Nat) (l:List Que×Unit),L[k]? = some l->es[k]? = some [PV.sl (l.1.map quE)]:=λk l hl=>by grind
   obtain⟨L',g1,g2⟩:=pick (α:=List Que×Unit) (β:=Tj.Sl) L (P:=λi l x=>RelS w O l.1 (u i 0) x) λi l hl=>relS (hrl i _ (hget i l hl) 0 _ rfl);refine⟨some a,n,c,L',rfl,g1,⟨by grind,λj x hx=>⟨a,rfl,hlt,λi y hy=>?_⟩⟩,λi l x hl hx=>⟨_,g2 i l x hl hx⟩⟩;obtain⟨l,hl⟩:∃l,L[j]? = some l:=⟨_,J0c (by grind)⟩;have h0:=g2 j l x hl hx;have hs1:size=1:=by grind
   subst hs1
   match i,hy with|0,hy=>simp only[Tj.slC,J0q,J0b]at hy;rw[<- hy,<- h0.val];exact hcell j _ (hget j l hl) 0 _ rfl|i+1,hy=>simp[Tj.slC]at hy
 have ht:=Yhe L L' hl λi l x h1 h2=>by obtain⟨u,h⟩:=hr i l x h1 h2;exact h.len
 have hq:=Z9j (w:=w) (O:=O) L L' hl λi l x h1 h2=>by obtain⟨u,h⟩:=hr i l x h1 h2;exact h.rel
 have hin:∀x∈L',Tj.InOk w x:=λx hx=>by obtain⟨i,hi⟩:=List.getElem?_of_mem hx;obtain⟨l,hl2⟩:∃l,L[i]? = some l:=⟨_,J0c (by grind)⟩;obtain⟨u,h⟩:=hr i l x hl2 hi;exact h.ok
 refine(Tj.Ydp a0 n0 c0 L' w hs hin (by rw[hs.1,hl];exact h1) (by grind)).mono λe w' he=>?_;obtain⟨v,rfl,hown,hb⟩:=he;refine⟨v,rfl,hb,?_⟩;rw[ht]at hown;generalize (L'.flatMap λx=>x.2.2.2)=cs at hq hown;generalize (L.flatMap λx=>x.1)=ql at hq hown;have fix:Fix w O w' O:=⟨hb.size,λg hg hn=>hb.block g hg,λ_ _ h=>h⟩;rcases hown.2 with⟨rfl,h0⟩|⟨g,cap,cur,rfl,hg,hgh,hn1,hcm,hcs,htk⟩
 have:ql=[]:=List.length_eq_zero_iff.1 h0;subst this;exact .nil none 0;have hcell:∀(t:Nat) (c:Value),cs[t]? = some c->w'.cell? ⟨g,t,none⟩=some c:=λt c hc=>by grind[World.cell?]
 have u0:∀k j,k<ql.length->j<2 -> ∃c,cs[k*2+j]? = some c:=λk j hk hj=>⟨_,J0c (by grind)⟩;refine .sl _ ⟨g,0,none⟩ _ cap 2 (λk j=>(cs[k*2+j]?).getD undef) (λh=>by grind) (Array.getElem?_eq_some_iff.1 hgh).1 (by simp) hn1 (λi e he=>?_) (λi e he j x hx=>?_) (λi e he j x hx=>?_);grind[Zu3];rw[J0m,J0f]at he;obtain⟨q,hk,rfl⟩:=he;obtain⟨c,hc,_⟩:=hq.2 i q j x hk hx;grind[Addr.add];rw[J0m,J0f]at he;obtain⟨q,hk,rfl⟩:=he;obtain⟨c,hc,hp⟩:=hq.2 i q j x hk hx;rw[hc];exact hp.fix fix
end Tg
namespace Tg
open Go Go.Abs Go.RowKit Go.Proofs
theorem own0(O:Nat->Prop)(ι:Em)(h:ι.O=O)(n:Nat)(hn:n=0):Own n ι=O:=by subst h;subst hn;funext g;unfold Own;grind
variable {P:Program}{f:FuncId}{pas:List PA}{O:Nat->Prop}{cargs:Array Value}
theorem Spec.num{k:IntKind}{n:Int}(h:Spec P f pas [.c (.c (.int k n))]){w:World}(hO:∀g,O g->g<w.heap.size)(hg:Zv w.heap.size w)(hp:Zcb w O pas cargs) :
    Calls P f cargs w λe w' => e = .returned (.int k n)/\Below w.heap.size w w' :=
  (h O w cargs hO hg hp).mono λe w' ⟨v,ι,he,_,hr,hv⟩=>by
   cases hv with|p _ _ hp=>cases hp;exact⟨he,hr.below⟩
theorem Spec.pur{y:PV}(h:Spec P f pas [.c (.c y)]){w:World}(hO:∀g,O g->g<w.heap.size)(hg:Zv w.heap.size w)(hp:Zcb w O pas cargs) :
    Calls P f cargs w λe w' => ∃v,e = .returned v/\Below w.heap.size w w' /\ PRel w' O y v :=
  (h O w cargs hO hg hp).mono λe w' ⟨v,ι,he,hι,hr,hv⟩=>by
   cases hv with|p _ _ hp=>have e0:(Za [RA.c (RC.c y)]).length=0:=rfl;rw[e0,own0 O ι hι _ rfl]at hp;exact⟨v,he,hr.below,hp⟩
variable {w':World}
theorem Ydq{w: World}{x:PV}{v:Value}(h:PRel w O x v)(hb:Below w.heap.size w w'):PRel w' O x v:=h.fix ⟨hb.size,λg hg hn=>hb.block g hg,λ_ _ h=>h⟩
def tskT:List CT:=[.int .u8,.int .i64,.int .i64,.sl [.int .i64,.int .u8,.int .i64,.int .i64,.int .i64,.int .i64,.int .i64,.int .i64,.int .i64,.int .i64,.int .i64],.sl [.int .i64],.sl [.int .i64,.int .i64,.int .i64,.int .i64,.int .i64,.int .i64,.int .i64,.int .i64,.int .i64,.int .i64,.int .i64],.sl [.bool,.int .i64,.int .i64,.int .i64,.int .i64],.sl [.int .i64,.int .i64,.int .i64,.int .i64,.int .i64],.sl [.int .i64,.int .i64,.int .i64]]
theorem Ynz(t:Tsk)(h:Yu t=some (0,())):Spec Tryz.prog 62 [.a (pvL tskT t)] [.c (.c (.int .i64 0))]:=ok66 (t,()) ((0:Int),()) h
theorem Yn0(q:Que)(h:Yp q=some (0,())):Spec Tryz.prog 32 [.a (quE q)] [.c (.c (.int .i64 0))]:=ok46 (q,()) ((0:Int),()) h
theorem Yhf{w: World}(h:Zv w.heap.size w)(hb:Below w.heap.size w w'):Zv w'.heap.size w' := ⟨Nat.le_trans h.1 hb.size,Glob.stable w w' h.2 (hb.mono h.1)⟩
theorem Yn1{w:World}{es:List (List PV)}{u:Value}(h:PRel w O (.sl es) u):∃p n c,u = .slice p n c:=by
 cases h with|nil a c=>grind|sl _ a n c=>grind
def QAt(O:Nat->Prop)(w:World)(a:Option Addr)(n:Nat)(l:List Que):Prop:=n=l.length /\ ∀(i:Nat) (q:Que),l[i]? = some q -> ∃b u,a=some b/\b.block<w.heap.size/\w.cell? (b.add (i*2))=some (.int .i64 q.1)/\w.cell? ⟨(b.add (i*2)).block,(b.add (i*2)).off+1,none⟩=some u/\PRel w O (.sl (q.2.1.map (pvL [.int .u8,.int .i64,.int .i64,.int .i64,.int .i64,.int .i64,.int .i64,.int .i64,.int .i64,.int .i64]))) u
theorem qat{w:World}{l:List Que}{v:Value}(h:PRel w O (.sl (l.map quE)) v):∃a n c,v = .slice a n c/\QAt O w a n l:=by obtain⟨x,hx⟩:=relS h;refine⟨x.1,x.2.1,x.2.2.1,hx.val,hx.len,λi q hq=>?_⟩;obtain⟨c0,h0,p0⟩:=hx.rel.2 i q 0 (.int .i64 q.1) hq rfl;obtain⟨c1,h1,p1⟩:=hx.rel.2 i q 1 _ hq rfl;obtain⟨_,b,hb,hlt,hc0⟩:=hx.ok.cells _ _ h0;obtain⟨_,b',hb',_,hc1⟩:=hx.ok.cells _ _ h1;obtain rfl:b=b' := J0a (hb.symm.trans hb');cases p0;refine⟨b,c1,hb,hlt,hc0,?_,p1⟩;rw[Tj.Zi9]at hc1;exact hc1
set_option maxHeartbeats 4000000 in
theorem Yjc(t:Tsk)(ins outs:List Que)(ht:Yu t=some (0,()))(h4:ins.length<=4)(h3:outs.length<=3)(hq:∀q∈ins++outs,Yp q=some (0,()))(O:Nat->Prop)(w:World)(hO:∀g,O g->g<w.heap.size)(hgl:Zv w.heap.size w)
    (v0 v1 v2 v3 v4 v5 v6 v7 v8 vi vo:Value) (hv:PARel w O (.a (pvL tskT t)) (.agg #[v0,v1,v2,v3,v4,v5,v6,v7,v8])) (hi:PRel w O (.sl (ins.map quE)) vi) (ho:PRel w O (.sl (outs.map quE)) vo) :
    Calls Tryz.prog 39 #[.agg #[v0,v1,v2,v3,v4,v5,v6,v7,v8],vi,vo] w λe w' => e = .returned (.int .i64 0)/\Below w.heap.size w w' := by
  have fix:∀W,Below w.heap.size w W->Fix w O W O:=λW hb=>⟨hb.size,λg hg hn=>hb.block g hg,λ_ _ h=>h⟩;have c147:∀W,Below w.heap.size w W->Calls Tryz.prog 62 #[.agg #[v0,v1,v2,v3,v4,v5,v6,v7,v8]] W λe w' => e = .returned (.int .i64 0)/\Below W.heap.size W w' := λW hb=>by
   refine Spec.num (Ynz t ht) (O:=O) (λg hg=>Nat.lt_of_lt_of_le (hO g hg) hb.size) (Yhf hgl hb) ⟨rfl,λi x v hx hv2=>?_⟩
   match i,hx,hv2 with|0,hx,hv2 => obtain rfl:=J0a hx;obtain rfl:=J0a hv2;cases hv with|a _ _ hl hr=>exact .a _ _ hl λi x v h1 h2=>(hr i x v h1 h2).fix (fix W hb)
  have c256:∀(W:World) (b:Nat) (tt:TypeId),Below w.heap.size w W->W.heap[b]? = some (.cells #[vi,vo] tt (0,0))->w.heap.size<=b->Calls Tryz.prog 73 #[.slice (some ⟨b,0,none⟩) 2 2] W λe w' => ∃a n c,e = .returned (.slice a n c)/\Below W.heap.size W w' /\ QAt O w' a n (ins++outs):=λW b tt hb hcell hge=>by
   have hs:=Yz8 [(ins,()),(outs,())] (by simp) (by grind);refine(Spec.pur hs (O:=O) (λg hg=>Nat.lt_of_lt_of_le (hO g hg) hb.size) (Yhf hgl hb) ⟨rfl,λi x v hx hv2=>?_⟩).mono λe w' ⟨v,he,hb2,hp⟩=>?_
   match i,hx,hv2 with
   |0,hx,hv2 =>
    obtain rfl:=J0a hx;obtain rfl:=J0a hv2;refine .c _ _ (.sl _ ⟨b,0,none⟩ 2 2 1 (λi _=>if i=0 then vi else vo) (λh=>by grind) (Array.getElem?_eq_some_iff.1 hcell).1 rfl (Nat.le_refl _) (λi e he=>?_) (λi e he j x hx=>?_) (λi e he j x hx=>?_));grind
    match i,he,j,hx with|0,he,0,hx=>exact(Tj.Yc hcell rfl).1|1,he,0,hx=>exact(Tj.Yc hcell rfl).1|0,he,j+1,hx=>grind|1,he,j+1,hx=>grind
    match i,he,j,hx with|0,he,0,hx=>cases he;cases hx;exact hi.fix (fix W hb)|1,he,0,hx=>cases he;cases hx;exact ho.fix (fix W hb)|0,he,j+1,hx=>grind|1,he,j+1,hx=>grind
   have e2:([(ins,()),(outs,())]:List (List Que×Unit)).flatMap (λx=>x.1)=ins++outs:=by simp
   rw[e2]at hp;obtain⟨a,n,c,rfl,hqa⟩:=qat hp;grind
  have hil:∃p c,vi = .slice p ins.length c:=by obtain⟨a,n,c,rfl,h⟩:=qat hi;exact⟨a,c,by rw[h.1]⟩
  have hol:∃p c,vo = .slice p outs.length c:=by obtain⟨a,n,c,rfl,h⟩:=qat ho;exact⟨a,c,by rw[h.1]⟩
  obtain⟨pi,ci,rfl⟩:=hil;obtain⟨po,co,rfl⟩:=hol;have hlen:(ins++outs).length=ins.length+outs.length:=J0s;generalize hall:ins++outs=all at c256 hq hlen;have C147:=Lib.hid c147;have C256:=Lib.hid c256;have HQ:=Lib.hid hq;have HG:=Lib.hid hgl;clear c147 c256 hgl hq hv hi ho hall;have b1:Below w.heap.size w (w.alloc (.cells #[v0,v1,v2,v3,v4,v5,v6,v7,v8] 56)):=(Below.refl _ _).alloc (Nat.le_refl _) _;go_enter Tryz.func39,Tryz.ntmps39;go_wp2_with(go_at_call 62;refine(C147.out _ b1).mono ?_;rintro e w1 ⟨rfl,hb1⟩);have b2:Below w.heap.size w (w1.alloc (.cells #[.slice pi ins.length ci,.slice po outs.length co] 33)):=(b1.trans (hb1.mono (by simp))).alloc (Nat.le_trans b1.size hb1.size) _;refine(C256.out _ _ 33 b2 (heap_alloc_new w1 _) (Nat.le_trans b1.size hb1.size)).mono ?_;rintro e w2 ⟨a,n,c,rfl,hb2,hqa⟩;have b3:Below w.heap.size w w2:=b2.trans (hb2.mono b2.size);have B3:=Lib.hid b3;have QA:=Lib.hid hqa;clear hb1 hb2 b1 b2 b3 hqa;have hn:=QA.out.1;go_wp2;go_loopw[29] (λi wr=>∃k:Nat,k<=n/\i = .int .i64 k/\Below w2.heap.size w2 wr) (λi _=>n-(RowKit.intOf i).toNat)
  case atStart=>exact⟨0,Nat.zero_le _,rfl,Below.refl _ _⟩
  case round =>
   obtain⟨k,hk,rfl,hnx⟩:=hrel;by_cases hlt:k<n
   . obtain⟨q,hqk⟩:∃q,all[k]? = some q:=⟨_,J0c (by omega)⟩;obtain⟨b,u,rfl,hblk,hc0,hc1,hpu⟩:=QA.out.2 k q hqk;obtain⟨up,un,uc,rfl⟩:=Yn1 hpu;have g0:=(hnx.cell (p:=b.add (k*2)) (by rw[Zc];grind)).trans hc0;have g1:=(hnx.cell (p:=⟨(b.add (k*2)).block,(b.add (k*2)).off+1,none⟩) (by show(b.add (k*2)).block<_;rw[Zc];grind)).trans hc1;have hk0:(0:Int)<=(k:Int):=by omega
     have hkn:(k:Int)<(n:Int):=by omega
     have c86:∀W,Below w2.heap.size w2 W->Calls Tryz.prog 32 #[.agg #[.int .i64 q.1,.slice up un uc]] W λe w' => e = .returned (.int .i64 0)/\Below W.heap.size W w' := λW hb=>by
      refine Spec.num (Yn0 q (HQ.out q (J0j hqk))) (O:=O) (λg hg=>Nat.lt_of_lt_of_le (hO g hg) (Nat.le_trans B3.out.size hb.size)) (Yhf (Yhf HG.out B3.out) hb) ⟨rfl,λi x v hx hv2=>?_⟩
      match i,hx,hv2 with
      |0,hx,hv2 =>
       obtain rfl:=J0a hx;obtain rfl:=J0a hv2;refine .a _ _ rfl λi x v h1 h2=>?_
       match i,h1,h2 with|0,h1,h2=>cases h1;cases h2;exact .int _ _|1,h1,h2=>cases h1;cases h2;exact Ydq hpu hb|i+2,h1,h2=>grind
     have C86:=Lib.hid c86;have NX:=Lib.hid hnx;clear c86 hnx hc0 hc1 hpu hqk;have b5:Below w2.heap.size w2 (wr.alloc (.cells #[.int .i64 q.1,.slice up un uc] 64)):=NX.out.alloc NX.out.size _;go_wp2_with(go_at_call 32;refine(C86.out _ b5).mono ?_;rintro e w3 ⟨rfl,hb3⟩);have b6:=b5.trans (hb3.mono (Nat.le_trans NX.out.size (by simp)));go_roundw
     case rel=>exact⟨k+1,by omega,by go_num,b6⟩
     case measure=>simp[RowKit.intOf];omega
   . go_wp2;go_ret;exact⟨rfl,B3.out.trans (hnx.mono B3.out.size)⟩
theorem Zmt{l:List Ent}(h:(stoE l==0)=true):l.length<=4000:=by unfold stoE at h;grind
variable {t:Tsk}
theorem Zd7(h:Zy t=true):t.2.2.2.1.length<=4000/\t.2.2.2.2.1.length<=4/\t.2.2.2.2.2.1.length<=4000/\t.2.2.2.2.2.2.1.length<=60/\t.2.2.2.2.2.2.2.1.length<=4000/\t.2.2.2.2.2.2.2.2.1.length<=4000:=by unfold Zy at h;simp only[J0e]at h;have hs:=Zmt h.2.2.2.2.1;have hk:=h.2.2.1;have hp:=of_decide_eq_true h.2.1;unfold Zic at hk;grind
theorem Za9(h:Zy t=true):Yu t=some (0,()):=by obtain⟨h1,h2,h3,h4,h5,h6⟩:=Zd7 h;rw[Z9c t (by omega) (by omega) (by omega) (by omega) (by omega) (by omega),h];rfl
theorem Zil{q:Que}(h:queB q=true):q.2.1.length<=8:=by unfold queB at h;grind
theorem Zgs{q:Que}(h:queB q=true):Yp q=some (0,()):=by rw[Z9a q (by have:=Zil h;omega),h];rfl
def Zmu(a:Tsk×List Que×List Que×Unit):Option (Int×Unit):=bif Zy a.1&&(decide (a.2.1.length<=4)&&(decide (a.2.2.1.length<=3)&&(a.2.1.all queB&&a.2.2.1.all queB)))then some (0,())else none
noncomputable def Zba(t:Tsk)(ins outs:List Que):Option (Int×Unit):=hid Zmu (t,ins,outs,())
theorem Zji{ins outs:List Que}(h1:Zy t=true)(h2:ins.length<=4)(h3:outs.length<=3)(h4:ins.all queB=true)(h5:outs.all queB=true):Zba t ins outs=some (0,()):=by rw[Zba,Za2,Zmu,h1,decide_eq_true h2,decide_eq_true h3,h4,h5];rfl
noncomputable def Yhg:TCon:=⟨[.a tskT,.c (.sl quT),.c (.sl quT)],[.c (.p (.int .i64))],λa=>Zba a.1 a.2.1 a.2.2.1⟩
theorem ok36:Yhg.ok Tryz.prog 39:=λa r h=>by
 obtain⟨t,ins,outs,u⟩:=a;have key:∀(t:Tsk) (ins outs:List Que) (r:Int×Unit),Zba t ins outs=some r->Spec Tryz.prog 39 [.a (pvL tskT t),.c (.sl (ins.map quE)),.c (.sl (outs.map quE))] [.c (.c (.int .i64 r.1))]:=λt ins outs r h=>by
  rw[Zba,Za2,Zmu]at h;obtain⟨hc,h⟩:=Qo h;simp only[J0e,J0h]at hc;obtain⟨h1,h2,h3,h4,h5⟩:=hc;obtain rfl:=J0a h;have hq:∀q∈ins++outs,Yp q=some (0,()):=λq hq=>by
   rcases List.mem_append.1 hq with hq|hq
   exact Zgs (List.all_eq_true.1 h4 q hq);exact Zgs (List.all_eq_true.1 h5 q hq)
  intro O w cargs hO hgl hp;obtain⟨p1,p2⟩:=hp;obtain⟨l⟩:=cargs
  match l,p1 with
  |[x,y,z],_ =>
   have e1:=p2 0 _ x rfl rfl;have e2:=p2 1 _ y rfl rfl;have e3:=p2 2 _ z rfl rfl;cases e2 with|c _ _ hy =>
   cases e3 with|c _ _ hz =>
   cases e1 with
   |a _ vs hl hr =>
    have e1' : PARel w O (.a (pvL tskT t)) (.agg vs):=.a _ vs hl hr;obtain⟨vs⟩:=vs
    match vs,hl with|[v0,v1,v2,v3,v4,v5,v6,v7,v8],_=>refine(Yjc t ins outs (Za9 h1) h2 h3 hq O w hO hgl v0 v1 v2 v3 v4 v5 v6 v7 v8 y z e1' hy hz).mono λe w' he=>?_;obtain⟨rfl,hb⟩:=he;exact⟨_,⟨λ_=>undef,O,0,[]⟩,rfl,rfl,⟨hb,Nat.le_refl _,hO,hgl,λt o ho=>by simp[Za,Zbr,Yg]at ho,λt t' g h1=>by simp[Za,Zbr,Yg]at h1⟩,.p _ _ (.int _ _)⟩
 exact key t ins outs r h
end Tg
