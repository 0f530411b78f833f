import Derived.Test.YtlnihcefchoofaaGreatDoorDAbsB4
set_option linter.all false
namespace Go.Abs
variable [GTab] [Glob]
mutual
theorem TV.noY_er:∀(x:TV),x.noY=true->x.er.noY=true|.raw v,h=>h|.agg cs,h=>Zgk cs h|.tuple cs,h=>Zgk cs h|.fn _ cs,h=>Zgk cs h|.p _ _,_=>rfl|.xf _ _,_=>rfl|.row _ _,_=>rfl|.sl _ _ _ _ _,_=>rfl|.ptr _ _ _ _,_=>rfl|.fptr _ _,_=>rfl|.ifb _,_=>rfl
theorem Zgk:∀(xs:List TV),Zqq xs=true->noYL (erL xs)=true|[],_=>rfl|x::xs,h=>by simp only[Zqq,J0e]at h;simp only[erL,noYL,J0e];exact⟨x.noY_er h.1,Zgk xs h.2⟩
end
theorem Z2w:∀(l:List PV),noYL (l.map AV.p)=true|[]=>rfl|x::l=>by simp only[List.map_cons,noYL,J0e];exact⟨rfl,Z2w l⟩
theorem TE.noY_er{e:TE}(h:e.noY=true):e.er.all noYL=true:=by
 cases e with|sym ts xs=>grind[TE.er,Z2w]|lit es=>rw[List.all_eq_true];intro y hy;have hy:y∈es.map erL:=hy;rw[List.mem_map]at hy;obtain⟨z,hz,rfl⟩:=hy;exact Zgk _ (List.all_eq_true.1 h z hz)
theorem Yr0{st:TSt}{l:Lows}(h:tnoY st l=true):(noYL st.er.slots&&st.er.heap.all noYO&&(erLL l).all noYL)=true:=by
 simp only[tnoY,J0e,List.all_eq_true]at h;obtain⟨⟨h1,h2⟩,h3⟩:=h;simp only[J0e,List.all_eq_true];refine⟨⟨Zgk _ h1,λo ho=>?_⟩,λxs hxs=>?_⟩;have ho:o∈st.heap.map TObj.er:=ho;rw[List.mem_map]at ho;obtain⟨p,hp,rfl⟩:=ho;exact TE.noY_er (h2 p hp);grind[erLL,Zgk]
theorem Z2x:∀(ps:List (Nat×TV)) (s:List TV),erL (Zw0 s ps)=Zj0 (erL s) (ps.map λq=>(q.1,q.2.er))|[],s=>rfl|(t,v)::ps,s=>by simp only[Zw0,List.map_cons,Zj0,Z2x ps];grind[Yk,List.map_set]
theorem Ylf:∀(ps:List Nat) (xs:List TV),(ps.zip xs).map (λq=>(q.1,q.2.er))=ps.zip (erL xs)|[],xs=>by simp|p::ps,[]=>by simp[erL]|p::ps,x::xs=>by simp[erL,Ylf ps xs]
theorem Z8m{l:Lows}{i:Nat}{x:List TV}(h:l[i]? = some x):(erLL l)[i]? = some (erL x):=by simp[erLL,h]
theorem Ylg(l:Lows)(i:Nat)(x:List TV):erLL (l.set i x)=(erLL l).set i (erL x):=by simp[erLL,List.map_set]
theorem Zgl:∀{g:List Fr},g.all Fr.plain=true -> ∀(frs:List Fr),botF (g++frs)=botF frs|[],_,_=>rfl|x::g,h,frs=>by simp only[List.all_cons,J0e]at h;have ih:=Zgl h.2 frs;cases x<;>first|exact ih|(cases h.1;done)
theorem Zle:∀{g:List Fr},g.all Fr.plain=true -> ∀(frs:List Fr),Xc (g++frs)=Xc frs|[],_,_=>rfl|x::g,h,frs=>by simp only[List.all_cons,J0e]at h;have ih:=Zle h.2 frs;cases x<;>first|exact ih|(cases h.1;done)
section
variable {R:Type} {P:Program} {Q:R->Exit->St->Prop}
def HN(P:Program)(Q:R->Exit->St->Prop)(k:KK R)(frs:List Fr):Prop:=∀s l r,k s l=some r->KAW P frs (Q r) s.er (erLL l)
def HE(P:Program)(Q:R->Exit->St->Prop)(k:Nat->KK R)(frs:List Fr):Prop:=∀id s l r,k id s l=some r -> ∀g:List Fr,g.all Fr.plain=true->Qi id (g++frs)=Qi id frs->KAW P (.code (.exit id)::(g++frs)) (Q r) s.er (erLL l)
def HR(P:Program)(Q:R->Exit->St->Prop)(k:KK R)(frs:List Fr):Prop:=∀s l r,k s l=some r -> ∀g:List Fr,g.all Fr.plain=true->KAW P (.code .ret::(g++frs)) (Q r) s.er (erLL l)
variable {x:Fr}
theorem HE.push{k:Nat->KK R}{frs:List Fr}(h:HE P Q k frs)(hx:x.plain=true)(hb:∀id,Qi id (x::frs)=Qi id frs):HE P Q k (x::frs):=λid s l r hk g hg he=>by have:=h id s l r hk (g++[x]) (by grind) (by grind);grind
theorem HR.push{k:KK R}{frs:List Fr}(h:HR P Q k frs)(hx:x.plain=true):HR P Q k (x::frs):=λs l r hk g hg=>by have:=h s l r hk (g++[x]) (by grind);grind
theorem HE.none{frs:List Fr}:HE P Q (λ_ _ _=>none) frs:=λid s l r hk=>by cases hk
theorem HR.none{frs:List Fr}:HR P Q (λ_ _=>none) frs:=λs l r hk=>by cases hk
theorem HE.block{kn:KK R}{ke:Nat->KK R}{frs:List Fr}{id:Nat}(hn:HN P Q kn frs)(he:HE P Q ke frs):HE P Q (λid' s l=>if id' = id then kn s l else ke id' s l) (.blk id::frs):=λid' s l r hk g hg hx=>by
 by_cases e:id' = id;subst e;simp only[if_true]at hk;refine .exit (frs' := frs) ?_ (hn s l r hk);grind[Qi];simp only[if_neg e]at hk;have hb:Qi id' (.blk id::frs)=Qi id' frs:=by show(if id=id' then _ else _)=_;grind
 have:=he id' s l r hk (g++[.blk id]) (by simp[hg,Fr.plain]) (by grind);grind
variable {dst:Option Nat}{frs0:List Fr}
theorem Ygg{res:List ARes}{k:KK R}(hk:HN P Q k frs0):∀s l r,popK res dst k s l=some r->KRet P (.fn res dst::frs0) (Q r) s.er (erLL l):=λs l r h=>by
 unfold popK at h;split at h;rename_i low l';split at h;rename_i xs hxs;have h1:=hk _ _ _ h;refine KRet.fn (low:=erL low) (lows:=erLL l') (Zwz hxs) ?_;grind[TSt.er,Qj,Zi5];grind;grind
theorem Z43(hx:x.isBot=true){k:KK R}(h:∀s l r,k s l=some r->KRet P (x::frs0) (Q r) s.er (erLL l)):HN P Q k (x::frs0)/\HR P Q k (x::frs0):=by
 refine⟨λs l r hk=>.endK hx (h s l r hk),λs l r hk g hg=>.retK (bot0:=x::frs0) ?_ ?_ (h s l r hk)⟩
 . rw[Zgl hg];cases x<;>first|rfl|(cases hx;done)
 . rw[Zle hg];cases x<;>first|rfl|(cases hx;done)
variable {ps:List Nat}{ac bc:ACode}
theorem Yvg{kn kr:KK R}{ke:Nat->KK R}(hn:HN P Q kn frs0)(he:HE P Q ke frs0)(hr:HR P Q kr frs0)(hnr:Zw frs0=false):∀s l r,rfK kn kr ke s l=some r->KRet P (.rf ps ac bc::frs0) (Q r) s.er (erLL l):=λs l r h=>by
 unfold rfK at h;split at h;rename_i pd low l';split at h;rename_i p;refine KRet.rf (p:=p) (low:=erL low) (lows:=erLL l') (λe=>?_) (λe=>?_) (λid e=>?_) hnr;have h0:rfGo kn kr ke p ⟨low,s.heap⟩ l' = some r:=h;rw[show p=(0:Int) from e]at h0;exact hn _ _ _ h0;have h0:rfGo kn kr ke p ⟨low,s.heap⟩ l' = some r:=h;rw[show p=(1:Int) from e]at h0;exact hr _ _ _ h0 [] rfl;have h0:rfGo kn kr ke p ⟨low,s.heap⟩ l' = some r:=h;rw[show p=((id:Int)+2:Int) from e]at h0;have h1:ke id ⟨low,s.heap⟩ l' = some r:=by grind[rfGo,isK]
 exact he id _ _ _ h1 [] rfl rfl;grind;grind
theorem Ylh{kn kr:KK R}{ke:Nat->KK R}(hn:HN P Q kn frs0)(he:HE P Q ke frs0)(hr:HR P Q kr frs0)(hnr:Zw frs0=false)(res:List ARes):HN P Q (rfE kn kr ke res) (.rf ps ac bc::frs0)/\HR P Q (rfE kn kr ke res) (.rf ps ac bc::frs0):=by
 cases res with|nil=>exact Z43 rfl (Yvg hn he hr hnr)|cons x xs=>exact⟨λs l r h=>(by cases h),HR.none⟩
theorem Ygh{pos:Nat}{k:KK R}(hk:HN P Q k frs0)(hnr:Zw frs0=false) :
    HN P Q (rndK pos dst true 0 k) (.rnd dst (pos+1)::frs0)/\HE P Q (λid=>rndK pos dst false ((id:Int)+2) k) (.rnd dst (pos+1)::frs0)/\HR P Q (rndK pos dst false 1 k) (.rnd dst (pos+1)::frs0):=by
  have go:∀b p s l r,rndK pos dst b p k s l=some r -> ∃low l',l=low::l' /\ KAW P frs0 (Q r) ⟨setD (erL low) dst (.p (.bool b)),s.er.heap⟩ ((erLL l').set pos [.p (.int .u64 p)]):=λb p s l r h=>by
   unfold rndK at h;split at h;rename_i low l';have h1:=hk _ _ _ h;refine⟨low,l',rfl,?_⟩;rw[Ylg]at h1;have e:(⟨setD (erL low) dst (.p (.bool b)),s.er.heap⟩:St)=(⟨Zac low dst (.p .bool b),s.heap⟩:TSt).er:=by simp only[TSt.er,Qj];rfl
   rw[e];exact h1;grind
  refine⟨λs l r h=>?_,λid s l r h g hg hx=>?_,λs l r h g hg=>?_⟩;obtain⟨low,l',rfl,h1⟩:=go _ _ _ _ _ h;exact .rndN hnr h1;obtain⟨low,l',rfl,h1⟩:=go _ _ _ _ _ h;exact .rndX (by rw[hx];rfl) (by rw[Zle hg];rfl) (by rw[Zgl hg];rfl) hnr h1;obtain⟨low,l',rfl,h1⟩:=go _ _ _ _ _ h;exact .rndR (by rw[Zgl hg];rfl) hnr h1
theorem Ycc{x:Ctx}{frs:List Fr}(h:Zj1 x frs)(res:List ARes)(dst:Option Nat)(ss:List AStep):Zj1 x.up (.fn res dst :: .steps ss::frs):=by
 match x,h with|none,h=>exact h|some none,_=>trivial|some (some (p,r)),h=>refine⟨?_,h.2⟩;show(rfAt frs).map (λx=>(x.1+1,x.2))=_;rw[h.1];rfl
theorem Za1{x:Ctx}{frs:List Fr}(h:Zj1 x frs){y:Fr}(hy:y.plain=true):Zj1 x (y::frs):=by
 match x,h with
 |none,h=>cases y<;>first|exact h|(cases hy;done)
 |some none,_=>trivial|some (some z),h=>exact⟨by cases y<;>first|exact h.1|(cases hy;done),by rw[Zqm hy];exact h.2.1,by rw[Zqn hy];exact h.2.2⟩
variable {tab:Tab} {M:Nat->FuncId->Option R} {J:Nat->KK R} {F:Nat->List Fr}
variable (ht:tab.ok P) (hcb:∀f c,tab f=some c->callable P f=true) (hM:∀n f,M n f=none) (hJ:∀i,HN P Q (J i) (F i))
def PosOK(F:Nat->List Fr)(l:List (Nat×List Fr)):Prop:=∀p∈l,F p.1=p.2
variable {a b:List (Nat×List Fr)}
theorem PosOK.left(h:PosOK F (a++b)):PosOK F a:=λp hp=>h p (by simp[hp])
theorem PosOK.right(h:PosOK F (a++b)):PosOK F b:=λp hp=>h p (by simp[hp])
include ht hcb hM hJ
mutual
theorem Zas:∀(c:CCode) (x:Ctx) (frs:List Fr) {kn:KK R} {ke:Nat->KK R} {kr:KK R} {st:TSt} {l:Lows} {r:R},OKC P x c->Zj1 x frs->PosOK F (posC c frs)->HN P Q kn frs->HE P Q ke frs->HR P Q kr frs ->
    runC tab M J c st l kn ke kr=some r->KAW P (.code c.er::frs) (Q r) st.er (erLL l)
  |.skip,x,frs,kn,ke,kr,st,l,r,ho,hx,hp,hn,he,hr,h=>.skip (hn st l r h)|.reg none ss,x,frs,kn,ke,kr,st,l,r,ho,hx,hp,hn,he,hr,h=>by obtain⟨st',h1,h2⟩:=Zgi ht hcb (show Zlb tab ss st (λs=>kn s l)=some r from h);have:=KAW.steps (s1:=ss) (s2:=[]) (frs:=frs) (Q:=Q r) (lows:=erLL l) h1 (.steps_nil (hn st' l r h2));rw[List.append_nil]at this;exact .reg this|.reg (some pre) ss,x,frs,kn,ke,kr,st,l,r,ho,hx,hp,hn,he,hr,h=>by obtain⟨L,st',a,b,c,ts,e,d⟩:=Z2p ht hcb (show Zqj tab (ordT pre ss) ss [] st (λs=>kn s l)=some r from h);refine .drawn ⟨L,st',a,b,c,?_⟩;rw[e];exact hn ts l r d|.seq a b,x,frs,kn,ke,kr,st,l,r,ho,hx,hp,hn,he,hr,h =>
   .seq (Zas a x (.code b.er::frs) ho.1 (Za1 hx rfl) hp.left (λs l r h1=>Zas b x frs ho.2 hx hp.right hn he hr h1) (he.push rfl λ_=>rfl) (hr.push rfl) h)
  |.cond z a b,x,frs,kn,ke,kr,st,l,r,ho,hx,hp,hn,he,hr,h=>by
   simp only[runC]at h;split at h;rename_i d;rcases Zwr h with⟨t,st',h1,h2,h3⟩|h
   have hz:(AOpd.t d).eval st.er.slots = .p (.bool t):=by show(erL st.slots).getD d .any=_;grind
   refine .cond (t:=t) hz ?_;rw[<- h1];cases t with|true=>exact Zas a x frs ho.1 hx hp.left hn he hr h3|false=>exact Zas b x frs ho.2 hx hp.right hn he hr h3
   grind;exact .cond (t:=true) rfl (Zas a x frs ho.1 hx hp.left hn he hr h);exact .cond (t:=false) rfl (Zas b x frs ho.2 hx hp.right hn he hr h);grind
  |.block id a,x,frs,kn,ke,kr,st,l,r,ho,hx,hp,hn,he,hr,h =>
   .block (Zas a x (.blk id::frs) ho (Za1 hx rfl) hp (λs l r h1=>.unblk (hn s l r h1)) (.block hn he) (hr.push rfl) h)
  |.scope a,x,frs,kn,ke,kr,st,l,r,ho,hx,hp,hn,he,hr,h =>
   .scope (Zas a x (.scp::frs) ho (Za1 hx rfl) hp (λs l r h1=>.unscp (hn s l r h1)) (he.push rfl λ_=>rfl) (hr.push rfl) h)
  |.loopU k a,x,frs,kn,ke,kr,st,l,r,ho,hx,hp,hn,he,hr,h=>by
   have hp2:PosOK F (posC a (.lp a.er::frs)):=hp;have go:∀k,HN P Q (Z42 (λkk s l=>runC tab M J a s l kk ke kr) k) (.lp a.er::frs):=by
    intro k
    induction k with|zero=>exact λs l r h=>by cases h|succ k ih=>exact λs l r h=>.again (Zas a x (.lp a.er::frs) ho (Za1 hx rfl) hp2 ih (he.push rfl λ_=>rfl) (hr.push rfl) h)
   cases k with|zero=>cases h|succ k=>exact .loop (Zas a x (.lp a.er::frs) ho (Za1 hx rfl) hp2 (go k) (he.push rfl λ_=>rfl) (hr.push rfl) h)
  |.loop i a,x,frs,kn,ke,kr,st,l,r,ho,hx,hp,hn,he,hr,h=>by have h1:=hJ i st l r h;rw[hp (i,.code a.er :: .lp a.er::frs) (by simp[posC])]at h1;exact .loop h1|.cut i a,x,frs,kn,ke,kr,st,l,r,ho,hx,hp,hn,he,hr,h=>by have h1:=hJ i st l r h;rw[hp (i,.code a.er::frs) (by simp[posC])]at h1;exact h1|.exit id,x,frs,kn,ke,kr,st,l,r,ho,hx,hp,hn,he,hr,h=>he id st l r h [] rfl rfl|.ret,x,frs,kn,ke,kr,st,l,r,ho,hx,hp,hn,he,hr,h=>hr st l r h [] rfl|.range n z ps a c alts,x,frs,kn,ke,kr,st,l,r,ho,hx,hp,hn,he,hr,h=>by
   simp only[runC]at h;cases hY:(tnoY st l&&Zpf alts)with
   |false=>grind|true =>
    rw[hY]at h;simp only[cond_true]at h;split at h;rename_i f caps hz;cases hA:Zld alts f with
    |false=>grind|true =>
     rw[hA]at h;simp only[cond_true]at h;rcases ho with rfl|⟨rfl,ho⟩
     cases hA;have hrf:noRf frs=true:=hx;have hnr:=Zqp hrf;obtain⟨af,g1,g2,g3,g4⟩:=Zw1 alts (some (some (0,ps,a,c))) none (λ_=>.rf ps a c::frs) ho (λ_=>⟨rfl,hnr,(show Zhu (.rf ps a c::frs)=false from Zwy (frs:=frs) hrf)⟩) hp (λres=>Ylh hn he hr hnr res) h;simp only[J0e]at hY;have hres:af.res=[]:=g4 hY.2;have hz' : z.eval st.er.slots = .fn f (erL caps):=by show z.eval (erL st.slots)=_;rw[<- Zk6,hz];rfl
     exact .range hz' g1 g2 hres hrf (Yr0 hY.1) g3
    grind
  |.regi c,x,frs,kn,ke,kr,st,l,r,ho,hx,hp,hn,he,hr,h=>.reg (Ycd c x frs ho hx hp hn h)|.bad,x,frs,kn,ke,kr,st,l,r,ho,hx,hp,hn,he,hr,h=>by cases h|.inl _ _ _ _ _,x,frs,kn,ke,kr,st,l,r,ho,hx,hp,hn,he,hr,h=>by cases h|.alt _ _ _ _ _,x,frs,kn,ke,kr,st,l,r,ho,hx,hp,hn,he,hr,h=>by cases h|.yld _ _ _ _ _,x,frs,kn,ke,kr,st,l,r,ho,hx,hp,hn,he,hr,h=>by cases h
theorem Ycd:∀(c:CCode) (x:Ctx) (frs:List Fr) {kn:KK R} {st:TSt} {l:Lows} {r:R},OKR P x c->Zj1 x frs->PosOK F (posR c frs)->HN P Q kn frs ->
    runR tab M J c st l kn=some r->KAW P (.steps c.ers::frs) (Q r) st.er (erLL l)
  |.reg none ss,x,frs,kn,st,l,r,ho,hx,hp,hn,h=>by obtain⟨st',h1,h2⟩:=Zgi ht hcb (show Zlb tab ss st (λs=>kn s l)=some r from h);have:=KAW.steps (s1:=ss) (s2:=[]) (frs:=frs) (Q:=Q r) (lows:=erLL l) h1 (.steps_nil (hn st' l r h2));rw[List.append_nil]at this;exact this|.inl n s1 s alts rest,x,frs,kn,st0,l,r,ho,hx,hp,hn,h=>by
   simp only[runR]at h;obtain⟨st1,h1,h2⟩:=Zgi ht hcb h;refine KAW.steps (s1:=s1) (s2:=s::rest.ers) h1 ?_;obtain⟨b,st,h3,h4,h5⟩:=Zwt h2;have hw:Zk st.er.slots s.guard=some b:=by rw[h4];exact h3
   rw[<- h4];have hrest:HN P Q (λs l=>runR tab M J rest s l kn) (.steps rest.ers::frs):=λs l r h=>Ycd rest x frs ho.2 hx hp.right.right hn h;have hpop:∀res,HN P Q (popK res s.dst λs l=>runR tab M J rest s l kn) (.fn res s.dst :: .steps rest.ers::frs)/\HR P Q (popK res s.dst λs l=>runR tab M J rest s l kn) (.fn res s.dst :: .steps rest.ers::frs):=λres=>Z43 rfl (Ygg hrest);cases b with
   |false =>
    simp only at h5;have h6:=hrest _ _ _ h5;refine KAW.steps (s1:=[s]) (s2:=rest.ers) (.skip s [] st.er _ hw (.nil _)) ?_;have e:(⟨setD st.er.slots s.dst .u,st.er.heap⟩:St)=(⟨Zac st.slots s.dst (.raw .u),st.heap⟩:TSt).er:=by simp only[TSt.er,Qj];rfl
    grind
   |true =>
    simp only at h5;split at h5;rename_i f args hop;cases hA:Zld alts f with|false=>grind|true=>rw[hA]at h5;simp only[cond_true]at h5;obtain⟨af,g1,g2,g3,_⟩:=Zw1 alts x.up x (λres=>.fn res s.dst :: .steps rest.ers::frs) ho.1 (λres=>Ycc hx res s.dst rest.ers) hp.left hpop h5;rw[Zef]at g3;exact .callS g1 hw hop g3
    rename_i xo args hop;split at h5;rename_i f caps hxe;have hxe' : xo.eval st.er.slots = .fn f (erL caps):=by show xo.eval (erL st.slots)=_;rw[<- Zk6,hxe];rfl
    cases hA:Zld alts f with|true=>rw[hA]at h5;simp only[cond_true]at h5;obtain⟨af,g1,g2,g3,_⟩:=Zw1 alts x.up x (λres=>.fn res s.dst :: .steps rest.ers::frs) ho.1 (λres=>Ycc hx res s.dst rest.ers) hp.left hpop h5;rw[Zi2,Zef]at g3;exact .callV g1 g2 hw hop hxe' g3|false => rw[hA]at h5;simp only[cond_false]at h5;split at h5;obtain⟨cc,mode,pas,rs,y,os,hc,q4,q5,q6,q7,q8,q9⟩:=Z8c ht h5;have h6:=hrest _ _ _ q9;refine KAW.steps (s1:=[s]) (s2:=rest.ers) (st' := ⟨setD st.er.slots s.dst (retV (Zg (erH st.heap).length rs)),erH st.heap++Za rs⟩) (.inv s xo f (erL caps) args _ _ [] st.er _ hop hw hxe' (hcb f cc hc) ?_ (.nil _)) ?_;have:=Zof q4 q5 q6;rw[Zi2,Zef]at this;exact this;grind[TSt.er,Qj,Zns];grind
    rename_i hxe;have hxe' : xo.eval st.er.slots = .yl:=by show xo.eval (erL st.slots)=_;rw[<- Zk6,hxe];rfl
    exact Yli alts x n frs ho.1 hx hp.right.left hrest hw hop hxe' h5;grind;grind
  |.skip,x,frs,kn,st,l,r,ho,hx,hp,hn,h=>by cases h|.reg (some _) _,x,frs,kn,st,l,r,ho,hx,hp,hn,h=>by cases h|.seq _ _,x,frs,kn,st,l,r,ho,hx,hp,hn,h=>by cases h|.cond _ _ _,x,frs,kn,st,l,r,ho,hx,hp,hn,h=>by cases h|.block _ _,x,frs,kn,st,l,r,ho,hx,hp,hn,h=>by cases h|.loop _ _,x,frs,kn,st,l,r,ho,hx,hp,hn,h=>by cases h|.cut _ _,x,frs,kn,st,l,r,ho,hx,hp,hn,h=>by cases h|.exit _,x,frs,kn,st,l,r,ho,hx,hp,hn,h=>by cases h|.ret,x,frs,kn,st,l,r,ho,hx,hp,hn,h=>by cases h|.bad,x,frs,kn,st,l,r,ho,hx,hp,hn,h=>by cases h|.range _ _ _ _ _ _,x,frs,kn,st,l,r,ho,hx,hp,hn,h=>by cases h|.regi _,x,frs,kn,st,l,r,ho,hx,hp,hn,h=>by cases h|.alt _ _ _ _ _,x,frs,kn,st,l,r,ho,hx,hp,hn,h=>by cases h|.yld _ _ _ _ _,x,frs,kn,st,l,r,ho,hx,hp,hn,h=>by cases h|.scope _,x,frs,kn,st,l,r,ho,hx,hp,hn,h=>by cases h|.loopU _ _,x,frs,kn,st,l,r,ho,hx,hp,hn,h=>by cases h
theorem Zw1:∀(c:CCode) (x y:Ctx) (bf:List ARes->List Fr) {kend:List ARes->KK R} {f:FuncId} {avs:List TV} {hh:List TObj} {l:Lows} {r:R},OKA P x y c->(∀res,Zj1 x (bf res))->PosOK F (posA c bf)->(∀res,HN P Q (kend res) (bf res)/\HR P Q (kend res) (bf res)) ->
    runA tab M J c f avs hh l kend=some r -> ∃af,Z0 P f=some af/\callable P f=true/\KAW P (.code af.body::bf af.res) (Q r) ⟨start af.nt (erL avs),erH hh⟩ (erLL l)/\(Zpf c=true->af.res=[])
  |.alt g nt res body next,x,y,bf,kend,f,avs,hh,l,r,ho,hx,hp,hk,h=>by
   simp only[runA]at h;cases hg:g==f with
   |true =>
    rw[hg]at h;simp only[cond_true]at h;have e:g=f:=by grind
    subst e;refine⟨⟨nt,res,body.er⟩,ho.1.1,ho.1.2,?_,λhno=>(by
     grind[Zpf])⟩
    have:=Zas body x (bf res) ho.2.1 (hx res) hp.left (hk res).1 HE.none (hk res).2 h;grind[TSt.er,Z2u]
   |false =>
    rw[hg]at h;obtain⟨af,g1,g2,g3,g4⟩:=Zw1 next x y bf ho.2.2 hx hp.right hk h
    grind[Zpf]
  |.yld pos ps a c next,x,y,bf,kend,f,avs,hh,l,r,ho,hx,hp,hk,h=>Zw1 next x y bf ho.2.2.2 hx hp hk h|.skip,x,y,bf,kend,f,avs,hh,l,r,ho,hx,hp,hk,h=>by cases h|.reg _ _,x,y,bf,kend,f,avs,hh,l,r,ho,hx,hp,hk,h=>by cases h|.seq _ _,x,y,bf,kend,f,avs,hh,l,r,ho,hx,hp,hk,h=>by cases h|.cond _ _ _,x,y,bf,kend,f,avs,hh,l,r,ho,hx,hp,hk,h=>by cases h|.block _ _,x,y,bf,kend,f,avs,hh,l,r,ho,hx,hp,hk,h=>by cases h|.loop _ _,x,y,bf,kend,f,avs,hh,l,r,ho,hx,hp,hk,h=>by cases h|.cut _ _,x,y,bf,kend,f,avs,hh,l,r,ho,hx,hp,hk,h=>by cases h|.exit _,x,y,bf,kend,f,avs,hh,l,r,ho,hx,hp,hk,h=>by cases h|.ret,x,y,bf,kend,f,avs,hh,l,r,ho,hx,hp,hk,h=>by cases h|.bad,x,y,bf,kend,f,avs,hh,l,r,ho,hx,hp,hk,h=>by cases h|.range _ _ _ _ _ _,x,y,bf,kend,f,avs,hh,l,r,ho,hx,hp,hk,h=>by cases h|.regi _,x,y,bf,kend,f,avs,hh,l,r,ho,hx,hp,hk,h=>by cases h|.inl _ _ _ _ _,x,y,bf,kend,f,avs,hh,l,r,ho,hx,hp,hk,h=>by cases h|.scope _,x,y,bf,kend,f,avs,hh,l,r,ho,hx,hp,hk,h=>by cases h|.loopU _ _,x,y,bf,kend,f,avs,hh,l,r,ho,hx,hp,hk,h=>by cases h
theorem Yli:∀(c:CCode) (y:Ctx) (n:Nat) (frs:List Fr) {x:Ctx} {k:KK R} {s:AStep} {ss:List AStep} {xo:AOpd} {args:List AOpd} {st:TSt} {l:Lows} {r:R},OKA P x y c->Zj1 y frs->PosOK F (posY c s.dst (.steps ss::frs))->HN P Q k (.steps ss::frs) ->
    Zk st.er.slots s.guard=some true->s.op = .callv xo args->xo.eval st.er.slots = .yl->runY tab M J n c (args.map (AOpd.tev st.slots)) st l s.dst k=some r->KAW P (.steps (s::ss)::frs) (Q r) st.er (erLL l)
  |.yld pos ps a c next,y,n,frs,x,k,s,ss,xo,args,st,l,r,ho,hx,hp,hk,hw,hop,hxe,h=>by
   obtain⟨rfl,ho1,ho2,_⟩:=ho;obtain⟨hx1,hx2,hx3⟩:=hx;simp only[runY]at h;split at h;rename_i pd hpd;split at h;rename_i p;cases hk0:isK p 0 with
   |false=>grind|true =>
    rw[hk0]at h;simp only[cond_true]at h;split at h;rename_i ls hls;cases hl0:((args.map (AOpd.tev st.slots)).length==ps.length)with
    |false=>grind|true =>
     rw[hl0]at h;simp only[cond_true]at h;have hp0:@Eq Int p 0:=Yk3 hk0;have hlen:args.length=ps.length:=by grind
     obtain⟨r1,r2,r3⟩:=Ygh (pos:=pos) (dst:=s.dst) hk (show Zw (.steps ss::frs)=false from hx2);have hbody:HN P Q (λs' l=>runC tab M J c s' l (rndK pos s.dst true 0 k) (λid=>rndK pos s.dst false ((id:Int)+2) k) (rndK pos s.dst false 1 k)) (.brd :: .code c.er :: .rnd s.dst (pos+1) :: .steps ss::frs):=λs' l r h =>
      .brd (dst:=s.dst) (pos:=pos+1) (frs0:=.steps ss::frs) rfl hx3 (Zas c (some none) (.rnd s.dst (pos+1) :: .steps ss::frs) ho2 trivial hp.right.left r1 r2 r3 h)
     have h6:=Zas a (some none) (.brd :: .code c.er :: .rnd s.dst (pos+1) :: .steps ss::frs) ho1 trivial hp.left hbody HE.none HR.none h;have e:(⟨Zw0 ls (ps.zip (args.map (AOpd.tev st.slots))),st.heap⟩:TSt).er=⟨Zj0 (erL ls) (ps.zip (args.map (AOpd.eval st.er.slots))),st.er.heap⟩:=by grind[TSt.er,Z2x,Ylf,Zef]
     rw[e]at h6;refine .yield hw hop hxe hx2 hx1 ?_ (Z8m hls) hlen h6;have:=Z8m hpd;rw[this];show some [AV.p (.int .u64 p)]=_;grind
    grind
   grind;grind
  |.alt g nt res body next,y,n,frs,x,k,s,ss,xo,args,st,l,r,ho,hx,hp,hk,hw,hop,hxe,h=>Yli next y n frs ho.2.2 hx hp hk hw hop hxe h|.skip,y,n,frs,x,k,s,ss,xo,args,st,l,r,ho,hx,hp,hk,hw,hop,hxe,h=>by simp[runY,hM]at h|.reg _ _,y,n,frs,x,k,s,ss,xo,args,st,l,r,ho,hx,hp,hk,hw,hop,hxe,h=>by simp[runY,hM]at h|.seq _ _,y,n,frs,x,k,s,ss,xo,args,st,l,r,ho,hx,hp,hk,hw,hop,hxe,h=>by simp[runY,hM]at h|.cond _ _ _,y,n,frs,x,k,s,ss,xo,args,st,l,r,ho,hx,hp,hk,hw,hop,hxe,h=>by simp[runY,hM]at h|.block _ _,y,n,frs,x,k,s,ss,xo,args,st,l,r,ho,hx,hp,hk,hw,hop,hxe,h=>by simp[runY,hM]at h|.loop _ _,y,n,frs,x,k,s,ss,xo,args,st,l,r,ho,hx,hp,hk,hw,hop,hxe,h=>by simp[runY,hM]at h|.cut _ _,y,n,frs,x,k,s,ss,xo,args,st,l,r,ho,hx,hp,hk,hw,hop,hxe,h=>by simp[runY,hM]at h|.exit _,y,n,frs,x,k,s,ss,xo,args,st,l,r,ho,hx,hp,hk,hw,hop,hxe,h=>by simp[runY,hM]at h|.ret,y,n,frs,x,k,s,ss,xo,args,st,l,r,ho,hx,hp,hk,hw,hop,hxe,h=>by simp[runY,hM]at h|.bad,y,n,frs,x,k,s,ss,xo,args,st,l,r,ho,hx,hp,hk,hw,hop,hxe,h=>by simp[runY,hM]at h|.range _ _ _ _ _ _,y,n,frs,x,k,s,ss,xo,args,st,l,r,ho,hx,hp,hk,hw,hop,hxe,h=>by simp[runY,hM]at h|.regi _,y,n,frs,x,k,s,ss,xo,args,st,l,r,ho,hx,hp,hk,hw,hop,hxe,h=>by simp[runY,hM]at h|.inl _ _ _ _ _,y,n,frs,x,k,s,ss,xo,args,st,l,r,ho,hx,hp,hk,hw,hop,hxe,h=>by simp[runY,hM]at h|.scope _,y,n,frs,x,k,s,ss,xo,args,st,l,r,ho,hx,hp,hk,hw,hop,hxe,h=>by simp[runY,hM]at h|.loopU _ _,y,n,frs,x,k,s,ss,xo,args,st,l,r,ho,hx,hp,hk,hw,hop,hxe,h=>by simp[runY,hM]at h
end
end
end Go.Abs
