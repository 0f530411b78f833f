import Derived.Test.YtlnihcefchoofaaGreatDoorDAbsA6
set_option linter.all false
namespace Go.Abs
variable [GTab]
def AOp.opds:AOp->List AOpd|.mv x=>[x]|.pick c a b=>[c,a,b]|.box _ _ x=>[x]|.build _ parts=>parts.map (·.2.2)|.bslice _ _ _ _ parts=>parts.map (·.2)|.load _ x=>[x]|.store _ a x=>[a,x]|.nilchk x=>[x]|.bin _ x y=>[x,y]|.beq _ x y=>[x,y]|.eqnil _ x=>[x]|.eqi _ x=>[x]|.eqagg _ _ _ x y=>[x,y]|.un _ x=>[x]|.conv _ x=>[x]|.convs x=>[x]|.bstr x=>[x]|.mksl _ _ _ _ l c=>[l,c]|.slice _ x lo hi mx=>x::(lo.toList++(hi.toList++mx.toList))|.sstr x lo hi=>x::(lo.toList++hi.toList)|.fld _ x=>[x]|.field _ _ x=>[x]|.ixa _ x i=>[x,i]|.ixarr _ _ x i=>[x,i]|.ixv _ _ _ x i=>[x,i]|.ixs x i=>[x,i]|.extract _ x=>[x]|.len x=>[x]|.lens x=>[x]|.append _ _ _ s x=>[s,x]|.copy _ d s=>[d,s]|.mm _ x y=>[x,y]|.mkfn _ caps=>caps|.mkfb _ caps=>caps|.eqp _ x=>[x]|.eqf _ x=>[x]|.capn x=>[x]|.sbytes x=>[x]|.appz _ _ _ _ s n=>[s,n]|.bad=>[]
section
variable {h h' : List AObj} {ρ ρ' : AOpd->AV}
variable {lo hi mx:Option AOpd}
theorem Zvs{len:Nat}{ex:Bool}(hl:∀x∈lo,ρ x=ρ' x)(hh:∀x∈hi,ρ x=ρ' x)(hx:∀x∈mx,ρ x=ρ' x):bndA len ex ρ lo hi mx=bndA len ex ρ' lo hi mx:=by
 have h1:lowA ρ lo=lowA ρ' lo:=by
  cases lo with|none=>rfl|some x=>grind[lowA]
 unfold bndA;grind
variable {x:AV}
theorem Z39{size:Nat}(hl:∀x∈lo,ρ x=ρ' x)(hh:∀x∈hi,ρ x=ρ' x)(hx:∀x∈mx,ρ x=ρ' x):Zbo h size ρ x lo hi mx=Zbo h size ρ' x lo hi mx:=by unfold Zbo;simp only[Zvs hl hh hx]
variable {T:Nat}{ao:AOp}
theorem Z7g(hρ:∀x∈ao.opds,ρ x=ρ' x):Zb h T ρ ao=Zb h T ρ' ao:=by
 cases ao
 case build zero parts =>
  have e:(parts.map λq=>(q.1,q.2.1,ρ q.2.2))=parts.map λq=>(q.1,q.2.1,ρ' q.2.2):=List.map_congr_left λq hq=>by rw[hρ q.2.2 (by simp only[AOp.opds,List.mem_map];grind)]
  simp only[Zb,e]
 case bslice e size len zero parts =>
  have e:(parts.map λq=>(q.1,ρ q.2))=parts.map λq=>(q.1,ρ' q.2):=List.map_congr_left λq hq=>by rw[hρ q.2 (by simp only[AOp.opds,List.mem_map];grind)]
  simp only[Zb,e]
 case mkfn f caps=>have e:caps.map ρ=caps.map ρ' := List.map_congr_left λq hq=>hρ q hq;simp only[Zb,e]
 case mkfb f caps=>have e:caps.map ρ=caps.map ρ' := List.map_congr_left λq hq=>hρ q hq;simp only[Zb,e]
 case slice size x lo hi mx=>simp only[AOp.opds,List.mem_cons,List.mem_append,Option.mem_toList]at hρ;simp only[Zb,hρ x (.inl rfl),Z39 (ρ:=ρ) (ρ' := ρ') (λx hx=>hρ x (.inr (.inl hx))) (λx hx=>hρ x (.inr (.inr (.inl hx)))) (λx hx=>hρ x (.inr (.inr (.inr hx))))]
 case sstr x lo hi=>simp only[AOp.opds,List.mem_cons,List.mem_append,Option.mem_toList]at hρ;simp only[Zb,hρ x (.inl rfl),Zvs (ρ:=ρ) (ρ' := ρ') (mx:=none) (λx hx=>hρ x (.inr (.inl hx))) (λx hx=>hρ x (.inr (.inr hx))) (λx hx=>by cases hx)]
 case bad=>rfl
 all_goals(simp only[AOp.opds,List.mem_cons,List.not_mem_nil,or_false,forall_eq_or_imp,forall_eq]at hρ;simp only[Zb,hρ])
variable (hm:∀t ver o,Zd h t ver=some o->Zd h' t ver=some o)
include hm
variable {es:List (List AV)}
theorem Ziy(he:Ye h x=some es):Ye h' x=some es:=by
 cases x
 case p v=>cases v<;>exact he
 all_goals simp only[Ye]at he ⊢
 all_goals try exact he
 all_goals
  rw[J0f]at he ⊢;obtain⟨o,ho,he⟩:=he;exact⟨o,hm _ _ _ ho,he⟩
variable {n:Nat}
theorem Zkz{es:List AV}(he:Xg h n x=some es):Xg h' n x=some es:=by
 cases x<;>simp only[Xg]at he ⊢ <;> try exact he
 grind
variable {b:Bool}
theorem Yih(he:nilP h x=some b):nilP h' x=some b:=by
 cases x<;>simp only[nilP]at he ⊢ <;> try exact he
 grind
theorem Yii(he:lenA h x=some n):lenA h' x=some n:=by
 cases x
 case p v=>cases v<;>exact he
 all_goals simp only[lenA]at he ⊢
 all_goals try exact he
 all_goals
  rw[J0f]at he ⊢;obtain⟨o,ho,he⟩:=he;exact⟨o,hm _ _ _ ho,he⟩
theorem Yij(he:nilA h x=some b):nilA h' x=some b:=by
 cases x
 case p v => cases v with|sl es=>cases es<;>exact he|_=>exact he
 case xf es=>cases es<;>exact he
 case row t ver=>grind[nilA]
 case sl t ver lo len ex=>grind[nilA]
 all_goals exact he
theorem Ykh{size:Nat}{i y: AV}(he:ixA h size x i=some y):ixA h' size x i=some y:=by
 unfold ixA at he ⊢;cases hi:asN i with|none=>grind|some n=>grind
theorem Z7h{size:Nat}{y: AV}(he:Zbo h size ρ x lo hi mx=some y):Zbo h' size ρ x lo hi mx=some y:=by unfold Zbo at he ⊢;grind
variable {r:AV×Eff}
theorem Z4a{e size bytes: Nat}{s:AV}(he:Qh h T e size bytes s es=some r):Qh h' T e size bytes s es=some r:=by unfold Qh at he ⊢;grind
theorem Ybj{size:Nat}{d:AV}(he:Zpx h size d es=some r):Zpx h' size d es=some r:=by unfold Zpx at he ⊢;grind
theorem Ziz(he:Zb h T ρ ao=some r):Zb h' T ρ ao=some r:=by
 cases ao<;>simp only[Zb]at he ⊢ <;> try exact he
 case load n x => cases n with|none=>grind[Zkz]|some n=>grind[Zkz]
 case store n a x=>grind
 case eqnil neg x=>grind[Yij]
 case nilchk x=>grind
 case eqp neg x=>grind[Yih]
 case slice size x lo hi mx=>grind[Z7h]
 case fld off x=>grind
 case ixa size x i=>grind[Ykh]
 case ixarr len size x i => split at he;cases he;grind
 case len x=>grind[Yii]
 case bstr x=>grind[Ziy]
 case append e size bytes s x=>grind[Ziy,Z4a]
 grind[Ziy,Ybj]
theorem Znn{f g:AV->Option PV}(hfg:∀x y,f x=some y->g x=some y):∀{xs:List AV} {ys:List PV},frzL f xs=some ys->frzL g xs=some ys
 |[],ys,h=>h|x::xs,ys,h=>by
  simp only[frzL]at h ⊢;split at h;rename_i a b ha hb;rw[hfg _ _ ha,Znn hfg hb];exact h;grind
theorem Zno{f g:AV->Option PV}(hfg:∀x y,f x=some y->g x=some y):∀{xs:List (List AV)} {ys:List (List PV)},frzE f xs=some ys->frzE g xs=some ys
 |[],ys,h=>h|x::xs,ys,h=>by
  simp only[frzE]at h ⊢;split at h;rename_i a b ha hb;rw[Znn hm hfg ha,Zno hfg hb];exact h;grind
theorem Z7i{bad:List Nat}(n:Nat):∀{x:AV} {y:PV},frz h bad n x=some y->frz h' bad n x=some y:=by
 induction n with
 |zero=>grind[frz]|succ n ih =>
  intro x y hf;cases x
  case row t ver => simp only[frz]at hf ⊢;split at hf;cases hf;rename_i hb;rw[if_neg hb];cases hg:Zd h t ver with|none=>grind|some o => simp only[hg]at hf;simp only[hm _ _ _ hg];split at hf;rename_i es hes;rw[Zno hm (λx y=>ih) hes];exact hf;grind
  case sl t ver lo len ex => simp only[frz]at hf ⊢;split at hf;cases hf;rename_i hb;rw[if_neg hb];cases hg:Zd h t ver with|none=>grind|some o => simp only[hg]at hf;simp only[hm _ _ _ hg];split at hf;rename_i es hes;rw[Zno hm (λx y=>ih) hes];exact hf;grind
  all_goals grind[frz]
theorem Yik{l:List PV}(hx:ptrC h x=some l):ptrC h' x=some l:=by
 cases x with|ptr t ver i off => simp only[ptrC]at hx ⊢;split at hx;rename_i o ho;rw[hm _ _ _ ho];simp only;split at hx;rename_i e he;split at hx;rename_i hlt;rw[if_pos hlt];exact Znn hm (λx y=>Z7i hm 6) hx;grind;grind;grind|fptr cs=>exact hx|_=>cases hx
theorem Zvt{f g:AV->Option PV}{f' g' : AV->Option (List PV)}(hfg:∀x y,f x=some y->g x=some y)(hfg' : ∀x y,f' x=some y->g' x=some y):∀{xs:List AV} {ys:List PA},Zew f f' xs=some ys->Zew g g' xs=some ys
 |[],ys,h=>h|x::xs,ys,h=>by
  simp only[Zew]at h ⊢;split at h;rename_i a b ha hb;have ha' : toPA g g' x=some a:=by
   unfold toPA at ha ⊢;split at ha;split at ha;rename_i l hl;simp only[Znn hm hfg hl];exact ha;grind;grind;grind;grind
  rw[ha',Zvt hfg hfg' hb];exact h;grind
theorem Zk0{mode:Bool}{xs:List AV}{ys:List PA}(ha:Yt h mode xs=some ys):Yt h' mode xs=some ys:=by
 unfold Yt at ha ⊢;cases mode with|true=>grind|false=>simp only[J0r,if_false]at ha ⊢;exact Zvt hm (λx y=>Z7i hm 6) (λx y=>Yik hm) ha
end
end Go.Abs
namespace Go.Abs
open Go.RowKit (Below)
variable [GTab] [Glob]
def Xh:AObj:=⟨0,0,0,[]⟩
def wrH(h:List AObj):List (Nat×AObj)->List AObj|[]=>h|p::ps=>wrH (h.set p.1 p.2) ps
def tagged:Nat->List AObj->List (Nat×AObj)|_,[]=>[]|T,o::os=>(T,o)::tagged (T+1) os
theorem Z4b:∀(ps:List (Nat×AObj)) (h:List AObj),(wrH h ps).length=h.length|[],h=>rfl|p::ps,h=>by rw[wrH,Z4b ps];simp
theorem Zus:∀(k:List AObj) (T:Nat) (h:List AObj) (t:Nat),T+k.length<=h.length->(wrH h (tagged T k))[t]? = if T<=t/\t<T+k.length then k[t-T]? else h[t]?|[],T,h,t,hl=>by grind[tagged,wrH]|o::k,T,h,t,hl=>by simp only[J0p]at hl ⊢;rw[tagged,wrH,Zus k (T+1) (h.set T o) t (by grind)];grind
def plcE(T m:Nat)(ι κ:Em):Em:=⟨λt=>if T<=t/\t<T+m then κ (t-T)else ι t,ι.O,ι.Y,ι.D⟩
variable {T m:Nat}{ι κ:Em}
theorem Z4c{j: Nat}(h:j<m):plcE T m ι κ (T+j)=κ j:=by show(if T<=T+j/\T+j<T+m then κ (T+j-T)else ι (T+j))=_;grind
theorem Zut{t: Nat}(h:¬(T<=t/\t<T+m)):plcE T m ι κ t=ι t:=by show(if T<=t/\t<T+m then κ (t-T)else ι t)=_;grind
section
variable {P:Program} {B:Nat} {w0 w w' : World} {h k H:List AObj} {ι κ J:Em} {n:Nat}
section
variable (hH:∀t o,t<k.length->H[n+t]? = some o->k[t]? = some o) (hJ:∀t,t<k.length->J (n+t)=κ t) (hlen:n+k.length<=H.length)
include hH hJ hlen
variable {O O':Nat->Prop}{G:PV->Prop}
theorem VRel.shiftG(hO:∀x v,G x->PRel w' O x v->PRel w' O' x v){x:RC}{T:Nat}{v:Value}(hG:∀y,x = .c y->G y)(hv:VRel k κ w' O (Zbm T x) v):VRel H J w' O' (Zbm (n+T) x) v:=by
 cases x with
 |c pv=>simp only[Zbm]at hv ⊢;cases hv with|p _ _ hp=>exact .p _ _ (hO _ _ (hG _ rfl) hp)
 |e b => simp only[Zbm]at hv ⊢;cases hv with|if0=>exact .if0|if1 t x=>exact .if1 t x
 |s e size es => simp only[Zbm]at hv ⊢;cases hv with|row _ _ _ ht hone hob=>refine .row _ _ _ (by omega) hone λo ho=>?_;grind
theorem VRel.shiftGA(hO:∀x v,G x->PRel w' O x v->PRel w' O' x v){x:RA}{T:Nat}{v:Value}(hG:∀y,InRs [x] y->G y)(hv:VRel k κ w' O (Zfh T x) v):VRel H J w' O' (Zfh (n+T) x) v:=by
 cases x with|c x=>exact VRel.shiftG hH hJ hlen hO (λy e=>hG y (by subst e;exact .c _ _)) hv|a xs => simp only[Zfh]at hv ⊢;cases hv with|agg _ vs hl hr=>refine .agg _ _ (by grind[Zit]) λi y u hy hu=>?_;obtain⟨x,U,rfl,hx,hm⟩:=Zo5 xs T n i y hy;exact VRel.shiftG hH hJ hlen hO (λy e=>hG y (by subst e;exact .a _ _ _ hm)) (hr i _ u hx hu)
theorem VRel.shiftGR(hO:∀x v,G x->PRel w' O x v->PRel w' O' x v){rs:List RA}{v:Value}(hG:∀y,InRs rs y->G y)(hv:VRel k κ w' O (retV (Zg 0 rs)) v):VRel H J w' O' (retV (Zg n rs)) v:=by
 have tup:∀{rs:List RA} {v:Value},(∀y,InRs rs y->G y)->VRel k κ w' O (.tuple (Zg 0 rs)) v->VRel H J w' O' (.tuple (Zg n rs)) v:=by
  intro rs v hG hv;cases hv with|tuple _ vs hl hr=>refine .tuple _ _ (by grind[Ziu]) λi y u hy hu=>?_;obtain⟨x,U,rfl,hx,hm⟩:=Zo6 rs 0 n i y (by grind);exact VRel.shiftGA hH hJ hlen hO (λy hy=>hG y (hy.mem hm)) (hr i _ u hx hu)
 match rs,hG,hv with|[],hG,hv=>exact tup (rs:=[]) hG hv|[x],hG,hv=>exact VRel.shiftGA hH hJ hlen (T:=0) hO hG hv|x::y::rs,hG,hv=>exact tup (rs:=x::y::rs) hG hv
end
theorem HRel.place(hr:HRel B w0 h ι w)(hk:HRel w.heap.size w k κ w'){T:Nat}(hT:T+k.length<=h.length)(hdead:∀j,j<k.length->h[T+j]? = some Xh)(hver:∀o∈k,0<o.ver)(hpure:∀o∈k,Znl o)
    (hO:∀(x:PV) (v:Value),VR k κ w' (.p x) v->(∃(t:Nat) (o:AObj) (i:Nat) (e:List AV) (j:Nat),k[t]? = some o/\o.elems[i]? = some e/\e[j]? = some (AV.p x))->PRel w' (Own (wrH h (tagged T k)).length (plcE T k.length ι κ)) x v) :
    HRel B w0 (wrH h (tagged T k)) (plcE T k.length ι κ) w' /\ EX h ι w (wrH h (tagged T k)) (plcE T k.length ι κ) w' := by
  have hnewblk:∀t g,t<k.length->(κ t).ownBlock=some g->w.heap.size<=g:=λt g ht hg=>(hk.own ht hg).1;have hlenW:(wrH h (tagged T k)).length=h.length:=Z4b _ _;have hin:∀t,T<=t/\t<T+k.length->(wrH h (tagged T k))[t]? = k[t-T]? := λt ht=>by grind[Zus]
  have hout:∀t,¬(T<=t/\t<T+k.length)->(wrH h (tagged T k))[t]? = h[t]? := λt ht=>by grind[Zus]
  have hblk:∀t,t<h.length -> ∀g,(plcE T k.length ι κ t).ownBlock=some g->((T<=t/\t<T+k.length)/\(κ (t-T)).ownBlock=some g/\w.heap.size<=g)∨(¬(T<=t/\t<T+k.length)/\(ι t).ownBlock=some g):=by grind[Z4c,Zut]
  have hext:EX h ι w (wrH h (tagged T k)) (plcE T k.length ι κ) w' := by
   refine⟨⟨hk.below.size,λg hg _=>hk.below.block g hg,λg hg hno=>?_⟩,by grind,⟨rfl,rfl,rfl⟩,λt o' ht ho' => ?_⟩;rintro(hOO|⟨t,ht,hb⟩);exact hno (.inl hOO);rw[hlenW]at ht;rcases hblk t ht g hb with⟨_,_,h3⟩|⟨_,h3⟩
   omega;exact hno (.inr ⟨t,ht,h3⟩);by_cases hc:T<=t/\t<T+k.length;rw[hin t hc]at ho';have hd:=hdead (t-T) (by omega);rw[show T+(t-T)=t by omega]at hd;exact⟨_,hd,.inr (hver o' (J0j ho'))⟩;grind[Zut]
  refine⟨⟨hr.below.trans (hk.below.mono hr.size),hr.base,hr.old,hr.glob,λt o ho=>?_,λt t' g ht ht' h1 h2=>?_⟩,hext⟩;by_cases hc:T<=t/\t<T+k.length;rw[hin t hc]at ho;obtain⟨s,rfl⟩:∃s,t=T+s:=⟨t-T,by omega⟩;rw[Nat.add_sub_cancel_left]at ho;rw[Z4c (by omega)];rcases hk.objs s o ho with h0|⟨hs,xs,h1,h2⟩
  grind;refine .inr ⟨hs,xs,?_,λi e he=>⟨(h2 i e he).1,λj x hj=>?_⟩⟩;obtain⟨g1,g2⟩:=h1;refine⟨g1,?_⟩;rcases g2 with g2|⟨g,cap,cur,hv,hb,rest⟩
  grind;exact .inr ⟨g,cap,cur,hv,Nat.le_trans hr.size hb,rest⟩;obtain⟨v,hv,hvr⟩:=(h2 i e he).2 j x hj;obtain⟨y,rfl⟩:=hpure o (J0j ho) i e he j x hj;exact⟨v,hv,.p _ _ (hO y v hvr ⟨s,o,i,e,j,ho,he,hj⟩)⟩;rw[hout t hc]at ho;rw[Zut hc];rcases hr.objs t o ho with h0|⟨hs,xs,h1,h2⟩
  grind;refine .inr ⟨hs,xs,h1.kept (row:=none) ⟨hk.below.os,hk.below.tape,hk.below.output,hk.below.size,λg hg _=>hk.below.block g hg⟩ (by grind),λi e he=>⟨(h2 i e he).1,λj x hj=>?_⟩⟩;obtain⟨v,hv,hvr⟩:=(h2 i e he).2 j x hj;exact⟨v,hv,hext.rel hvr⟩;rw[hlenW]at ht ht';rcases hblk t ht g h1 with⟨a1,a2,a3⟩|⟨a1,a2⟩<;>rcases hblk t' ht' g h2 with⟨b1,b2,b3⟩|⟨b1,b2⟩
  have:=hk.inj (t-T) (t' - T) g (by omega) (by omega) a2 b2;omega;have:=(hr.own ht' b2).2;omega;have:=(hr.own ht a2).2;omega;exact hr.inj t t' g ht ht' a2 b2
def Z16(T:Nat):Eff->List (Nat×AObj)|.none=>[]|.new o=>[(T,o)]|.upd t o=>[(t,o)]|.grow=>[]
variable {st:St}{a:Act}
theorem Yil{T:Nat}(hs:SR B w0 st ι a w){y:AV}{eff:Eff}{cv:Value}(hres:Res B st.heap ι w T y eff cv w')(hT:∀o,eff = .new o->st.heap[T]? = some Xh)(d:Option Nat) :
    ∃ι',SR B w0 ⟨setD st.slots d y,wrH st.heap (Z16 T eff)⟩ ι' (a.put d cv) w' /\ EX st.heap ι w (wrH st.heap (Z16 T eff)) ι' w' := by
  have fin:∀(h' : List AObj) (ι' : Em),HRel B w0 h' ι' w' -> EX st.heap ι w h' ι' w' -> VR h' ι' w' y cv->SR B w0 ⟨setD st.slots d y,h'⟩ ι' (a.put d cv) w' := by intro h' ι' hh hx hy;obtain⟨h1,h2⟩:=Zbe hs.len (λi x v hx' hv=>hx.rel (hs.slot i x v hx' hv)) d hy;exact⟨hh,h1,h2,(put_defers a d cv).trans (hs.defers.trans hx.oeq.2.2.symm)⟩
  cases eff with
  |none=>obtain⟨rfl,hy⟩:=hres;exact⟨ι,fin _ _ hs.heap (.refl _ _ _ _) hy,.refl _ _ _ _⟩|grow=>obtain⟨hg,hy⟩:=hres;obtain⟨hh,hx⟩:=hs.heap.grown hg;exact⟨ι,fin _ _ hh hx hy,hx⟩|new o =>
   obtain⟨hver,sv,⟨xs,h1,h2,h3,h4,h5⟩,hy⟩:=hres;have hd:=hT o rfl;have htl:T<st.heap.length:=(J0d.1 hd).1;have hnone:(ι T).ownBlock=none:=by
    rcases hs.heap.objs T Xh hd with⟨_,h0⟩|⟨h0,_⟩
    exact h0;simp[Xh]at h0
   obtain⟨hh,hx⟩:=hs.heap.change T Xh o hd sv xs (by grind) (λg hg=>.inr (h2 g hg)) (.inr (by grind[Xh])) h3 h4 h5;refine⟨_,fin _ _ hh hx ?_,hx⟩;show VRel (st.heap.set T o) _ _ _ _ _;have hget:(st.heap.set T o)[T]? = some o:=by grind
   have hone:sv.oneCell' = true:=by rcases h4.2 with⟨rfl,_⟩|⟨g,cap,cur,rfl,_⟩<;>rfl
   rcases hy with⟨rfl,rfl⟩|⟨rfl,g,N,C,hsv,hcv,hlt⟩
   refine .row _ _ _ (by grind) hone λo' ho' => ?_;grind[upd_same];refine .ptr _ _ _ _ _ (by grind) (by rw[hcv];rfl) λo' ho' => ?_;rw[hget]at ho';obtain rfl:=J0a ho';exact⟨by omega,λ_=>⟨g,N,C,by grind[upd_same],hcv,hlt⟩⟩
  |upd t o' =>
   obtain⟨sv,⟨o,xs,h0,h1,h2,h3,h4,h5,h6⟩,hy⟩:=hres;obtain⟨hh,hx⟩:=hs.heap.change t o o' h0 sv xs h1 h2 h3 h4 h5 h6;refine⟨_,fin _ _ hh hx ?_,hx⟩;show VRel (st.heap.set t o') _ _ _ _ _;rcases hy with⟨rfl,rfl⟩|hy
   have htl:t<st.heap.length:=(J0d.1 h0).1;have hone:cv.oneCell' = true:=by rcases h5.2 with⟨rfl,_⟩|⟨g,cap,cur,rfl,_⟩<;>rfl
   refine .row _ _ _ (by grind) hone λp hp=>?_;grind[upd_same];exact hx.rel hy
theorem Z17(x:RC):∀o∈Yg x,0<o.ver:=by
 intro o ho;cases x with|c v=>simp[Yg]at ho|e b=>simp[Yg]at ho|s e size es=>grind[Yg]
theorem Zvu:∀(xs:List RC),∀o∈Xk xs,0<o.ver
 |[],o,ho=>by simp[Xk]at ho|x::xs,o,ho=>by
  simp only[Xk,List.mem_append]at ho;rcases ho with ho|ho
  grind[Z17];exact Zvu xs o ho
theorem Zvv:∀(xs:List RA),∀o∈Za xs,0<o.ver
 |[],o,ho=>by simp[Za]at ho|x::xs,o,ho=>by
  simp only[Za,List.mem_append]at ho;rcases ho with ho|ho
  cases x with|c x=>exact Z17 x o ho|a ys=>exact Zvu ys o ho
  exact Zvv xs o ho
theorem Ybk(hs:SR B w0 st ι a w){rs:List RA}{v:Value}(hk:HRel w.heap.size w (Za rs) κ w')(hv:VR (Za rs) κ w' (retV (Zg 0 rs)) v)
    (hmode:Yr rs=true∨κ.O=Own st.heap.length ι) {T:Nat} (hT:T+(Za rs).length<=st.heap.length) (hdead:∀j,j<(Za rs).length->st.heap[T+j]? = some Xh) (d:Option Nat) :
    SR B w0 ⟨setD st.slots d (retV (Zg T rs)),wrH st.heap (tagged T (Za rs))⟩ (plcE T (Za rs).length ι κ) (a.put d v) w' /\ EX st.heap ι w (wrH st.heap (tagged T (Za rs))) (plcE T (Za rs).length ι κ) w' := by
  have hlenW:(wrH st.heap (tagged T (Za rs))).length=st.heap.length:=Z4b _ _;have hO:∀(x:PV) (u:Value),(x.flat=true∨κ.O=Own st.heap.length ι)->PRel w' (Own (Za rs).length κ) x u->PRel w' (Own (wrH st.heap (tagged T (Za rs))).length (plcE T (Za rs).length ι κ)) x u:=by
   intro x u hm hp;rcases hm with hm|hm
   exact hp.of_flat hm;refine hp.fix ⟨Nat.le_refl _,λ_ _ _=>rfl,λg hg hno=>?_⟩;rintro(hOO|⟨t,ht,hb⟩);exact hno (.inl (by rw[hm];exact .inl hOO));rw[hlenW]at ht;by_cases hc:T<=t/\t<T+(Za rs).length;obtain⟨j,rfl⟩:∃j,t=T+j:=⟨t-T,by omega⟩;rw[Z4c (by omega)]at hb;exact hno (.inr ⟨j,by omega,hb⟩);rw[Zut hc]at hb;exact hno (.inl (by rw[hm];exact .inr ⟨t,ht,hb⟩))
  obtain⟨hh,hx⟩:=hs.heap.place hk hT hdead (Zvv rs) (Zkv rs) (λx u hvr hin=>by
   cases hvr with
   |p _ _ hp =>
    refine hO x u ?_ hp;rcases hmode with hm|hm
    obtain⟨t,o,i,e,j,h1,h2,h3⟩:=hin;exact .inl (Zkx hm o (J0j h1) i e h2 j x h3);grind)
  have hvr:VR (wrH st.heap (tagged T (Za rs))) (plcE T (Za rs).length ι κ) w' (retV (Zg T rs)) v :=
   VRel.shiftGR (k:=Za rs) (κ:=κ) (λt o ht ho=>by
    grind[Zus]) (λt ht=>Z4c ht) (by grind) (G:=λx=>x.flat=true∨κ.O=Own st.heap.length ι) hO (λy hy=>by
    grind[Z15]) hv
  obtain⟨h1,h2⟩:=Zbe hs.len (λi x v hx' hv=>hx.rel (hs.slot i x v hx' hv)) d hvr;exact⟨⟨hh,h1,h2,(put_defers a d v).trans (hs.defers.trans hx.oeq.2.2.symm)⟩,hx⟩
theorem SR.pad(hs:SR B w0 st ι a w)(m:Nat):∃ι',SR B w0 ⟨st.slots,st.heap++List.replicate m Xh⟩ ι' a w/\EX st.heap ι w (st.heap++List.replicate m Xh) ι' w:=by have hk:HRel w.heap.size w (List.replicate m Xh) ⟨λ_=>.slice none 0 0,λ_=>False,0,[]⟩ w:=⟨.refl _ _,Nat.le_refl _,λg h=>h.elim,hs.heap.globw,λt o ho=>by have:=J0j ho;obtain rfl:=List.eq_of_mem_replicate this;exact .inl ⟨rfl,rfl⟩,λt t' g _ _ h=>by grind[Value.ownBlock]⟩;obtain⟨hh,hx⟩:=hs.heap.join hk (λo ho=>by obtain rfl:=List.eq_of_mem_replicate ho;intro i e he;simp[Xh]at he) (λx v _ ⟨t,o,i,e,j,h1,h2,_⟩=>by grind[Xh]);exact⟨_,⟨hh,hs.len,λi x v hx' hv=>hx.rel (hs.slot i x v hx' hv),hs.defers.trans hx.oeq.2.2.symm⟩,hx⟩
end
end Go.Abs
namespace Go.Abs
open Go.RowKit (Below)
variable [GTab] [Glob]
structure Ev where
 y:AV
 T:Nat
 wr:List (Nat×AObj)
 tau:List Nat
def Za0(tau:List Nat):Nat->List AObj->List AObj|_,[]=>[]|i,o::os=>(if tau.contains i then o else Xh)::Za0 tau (i+1) os
theorem Znp(tau:List Nat):∀(h:List AObj) (i t:Nat),(Za0 tau i h)[t]? = h[t]?.map λo=>if tau.contains (i+t)then o else Xh
 |[],i,t=>by simp[Za0]|o::os,i,t=>by
  cases t with|zero=>simp[Za0]|succ t=>rw[Za0,List.getElem?_cons_succ,List.getElem?_cons_succ,Znp tau os (i+1) t,show i+1+t=i+(t+1) by omega]
theorem Zrt{tau:List Nat}{h:List AObj}{t ver:Nat}{o:AObj}(hg:Zd (Za0 tau 0 h) t ver=some o):tau.contains t=true/\Zd h t ver=some o:=by grind[Zd,Znp,Xh]
def SOp.opds:SOp->List AOpd|.op ao=>ao.opds|.call _ args=>args|.callv x args=>x::args
def AOpd.tmp? : AOpd->Option Nat|.t n=>some n|.c _=>none
def AStep.reads(s:AStep):List Nat:=(match s.guard with|some (d,_)=>[d]|none=>[])++s.op.opds.filterMap AOpd.tmp?
inductive Called(P:Program) (op:SOp) (s:List AV) (f:FuncId):List AV->Prop where|st (args:List AOpd) (ho:op = .call f args):Called P op s f (args.map (AOpd.eval s))|vl (x:AOpd) (args:List AOpd) (caps:List AV) (ho:op = .callv x args) (hx:x.eval s = .fn f caps) (hcb:callable P f=true):Called P op s f (args.map (AOpd.eval s)++caps)
variable {P:Program}{s' avs:List AV}{f:FuncId}
theorem Called.congr{op:SOp}{s: List AV}(h:Called P op s f avs)(ho:∀x∈op.opds,AOpd.eval s x=AOpd.eval s' x):Called P op s' f avs:=by
 cases h with|st args h1=>have:args.map (AOpd.eval s)=args.map (AOpd.eval s'):=List.map_congr_left λx hx=>ho x (by rw[h1];exact hx);rw[this];exact .st args h1|vl x args caps h1 h2 h3=>have:args.map (AOpd.eval s)=args.map (AOpd.eval s'):=List.map_congr_left λy hy=>ho y (by rw[h1];exact List.mem_cons_of_mem _ hy);rw[this];exact .vl x args caps h1 (by rw[<- ho x (by rw[h1];exact List.mem_cons_self ..)];exact h2) h3
variable {st:St}
theorem Called.run{B:Nat}{w0 w:World}{op:SOp}(h:Called P op st.slots f avs){ι:Em}{a:Act}(hs:SR B w0 st ι a w){o:Oper}(hc:Zn6 P o=some op) :
    ∃cargs:Array Value,(execOp a.eval o).run P w = .ok (.enter f cargs) w/\cargs.size=avs.length /\ ∀(i:Nat) (x:AV) (v:Value),avs[i]? = some x->cargs[i]? = some v->VR st.heap ι w x v:=by
  cases h with
  |st args h1 =>
   subst h1;obtain⟨cargs,ts,hop,hcb,hxs⟩:=Ze9 (Ziw hc);have hx:(execOp a.eval o).run P w = .ok (.enter f (cargs.map a.eval)) w:=by grind[execOp,resolve,Deferred.ofValue,Act.eval,invoke,Xo]
   obtain⟨hl,hrel⟩:=Zay (a:=a) (λi x v hx hv=>hs.slot i x v hx hv) hs.len hxs;grind
  |vl x args caps h1 hxe hcb =>
   subst h1;obtain⟨g,cargs,ts,hop,hg,hxs⟩:=Zaz (Zex hc);obtain⟨hl2,hrel⟩:=Zay (a:=a) hs.slot hs.len hxs;have hgv:=Zf (a:=a) hs.slot hs.len hg;rw[hxe]at hgv;generalize hev:a.eval g=gv at hgv;cases hgv with
   |fn _ _ vs k1 k2 =>
    have hx:(execOp a.eval o).run P w = .ok (.enter f (cargs.map a.eval++vs)) w:=by grind[execOp,resolve,Deferred.ofValue,invoke,Xo]
    grind
inductive StepD(P:Program) (s:AStep) (ev:Ev) (st:St):Prop where
 |skip (hw:Zk st.slots s.guard=some false) (hy:ev.y = .u) (hwr:ev.wr=[]):StepD P s ev st|op (ao:AOp) (eff:Eff) (ho:s.op = .op ao) (hw:Zk st.slots s.guard=some true) (he:Zb (Za0 ev.tau 0 st.heap) ev.T (AOpd.eval st.slots) ao=some (ev.y,eff)) (hwr:ev.wr=Z16 ev.T eff)
     (hn:∀o,eff = .new o->st.heap[ev.T]? = some Xh):StepD P s ev st
 |call (f:FuncId) (avs:List AV) (mode:Bool) (pas:List PA) (rs:List RA) (ho:Called P s.op st.slots f avs) (hw:Zk st.slots s.guard=some true)
     (hp:Yt (Za0 ev.tau 0 st.heap) mode avs=some pas) (hs:Spec P f pas rs) (hm:mode=true∨Yr rs=true) (hy:ev.y=retV (Zg ev.T rs)) (hwr:ev.wr=tagged ev.T (Za rs))
     (hn:∀j,j<(Za rs).length->st.heap[ev.T+j]? = some Xh):StepD P s ev st
def ap(st:St)(s:AStep)(ev:Ev):St:=⟨setD st.slots s.dst ev.y,wrH st.heap ev.wr⟩
def Zf9(P:Program):List (AStep×Ev)->St->St->Prop|[],st,st' => st' = st|p::r,st,st' => StepD P p.1 p.2 st/\Zf9 P r (ap st p.1 p.2) st'
def ordP(pre:List Nat)(i k:Nat):Bool:=(pre.getD i 0).testBit k||(pre.getD k 0).testBit i
def Zte(pre:List Nat)(L:List (AStep×Ev)):Bool :=
 (L.all λp=>p.2.wr.all λq=>p.2.tau.contains q.1) &&
 (List.range L.length).all λi=>(List.range L.length).all λk=>i==k||match L[i]?,L[k]? with
  |some p,some q =>
   (match q.1.dst with|some d=>!(p.1.dst==some d)&&(!(p.1.reads.contains d)||ordP pre i k)|none=>true) &&
   ((q.2.wr.all λx=>!(p.2.tau.contains x.1))||ordP pre i k)
  |_,_=>false
theorem Yim{pre:List Nat}{L:List (AStep×Ev)}(h:Zte pre L=true) :
    (∀(i:Nat) (p:AStep×Ev),L[i]? = some p -> ∀x∈p.2.wr,p.2.tau.contains x.1=true) /\
    ∀(i k:Nat) (p q:AStep×Ev),L[i]? = some p->L[k]? = some q->i≠k ->
     (∀d,q.1.dst=some d->p.1.dst≠some d/\(p.1.reads.contains d=true->ordP pre i k=true))/\(∀x∈q.2.wr,p.2.tau.contains x.1=true->ordP pre i k=true):=by
  simp only[Zte,J0e,List.all_eq_true]at h;obtain⟨h1,h2⟩:=h;refine⟨λi p hp x hx=>h1 p (J0j hp) x hx,λi k p q hp hq hne=>?_⟩;have hi:=(J0d.1 hp).1;have hk:=(J0d.1 hq).1;have h3:=h2 i (List.mem_range.2 hi) k (List.mem_range.2 hk);grind
def Xa(D:Nat->Bool):Nat->List (AStep×Ev)->St->St|_,[],st=>st|i,p::r,st=>Xa D (i+1) r (if D i then ap st p.1 p.2 else st)
theorem Zo8{D:Nat->Bool}:∀(L:List (AStep×Ev)) (i:Nat) (st:St),(∀k,k<L.length->D (i+k)=false)->Xa D i L st=st|[],i,st,_=>rfl|p::r,i,st,h=>by have h0:=h 0 (by simp);rw[Xa,if_neg (by grind)];exact Zo8 r (i+1) st λk hk=>by have:=h (k+1) (by grind);grind
theorem Z18{P:Program}{D:Nat->Bool}:∀(L:List (AStep×Ev)) (i:Nat) (st st' : St),Zf9 P L st st' -> (∀k,k<L.length->D (i+k)=true)->Xa D i L st=st'|[],i,st,st',ht,_=>by grind[Zf9,Xa]|p::r,i,st,st',ht,h=>by have h0:=h 0 (by simp);rw[Xa,if_pos (by grind)];exact Z18 r (i+1) _ st' ht.2 λk hk=>by have:=h (k+1) (by grind);grind
theorem Z7j{P:Program}:∀(L:List (AStep×Ev)) (i k:Nat) (st st' : St) (p:AStep×Ev),Zf9 P L st st' -> L[k]? = some p->StepD P p.1 p.2 (Xa (λj=>decide (j<i+k)) i L st)
 |[],i,k,st,st',p,ht,hk=>by grind|q::r,i,k,st,st',p,ht,hk=>by
  cases k with|zero => simp only[J0q,J0b]at hk;subst hk;rw[Zo8];exact ht.1;grind|succ k=>rw[List.getElem?_cons_succ]at hk;rw[Xa,if_pos (by simp)];have:=Z7j r (i+1) k (ap st q.1 q.2) st' p ht.2 hk;grind
variable {d:Option Nat}{x:Nat}
theorem Yki{s: List AV}{y:AV}(h:s[x]? = s'[x]?):(setD s d y)[x]? = (setD s' d y)[x]? := by cases d with|none=>exact h|some d=>grind[setD]
theorem Ybl{s:List AV}{y:AV}(h:d≠some x):(setD s d y)[x]? = s[x]? := by cases d with|none=>rfl|some d=>grind[setD]
theorem Yfl:∀{wr:List (Nat×AObj)} {h h' : List AObj} {t:Nat},h[t]? = h'[t]? -> (wrH h wr)[t]? = (wrH h' wr)[t]?|[],h,h',t,e=>e|p::ps,h,h',t,e=>by rw[wrH,wrH];refine Yfl ?_;grind
theorem Z19:∀{wr:List (Nat×AObj)} {h:List AObj} {t:Nat},(∀x∈wr,x.1≠t)->(wrH h wr)[t]? = h[t]?|[],h,t,_=>rfl|p::ps,h,t,hn=>by rw[wrH,Z19 (λx hx=>hn x (by simp[hx])),List.getElem?_set_ne (hn p (by simp))]
theorem Zvw{D D' : Nat->Bool}{x:Nat}:∀(L:List (AStep×Ev)) (i:Nat) (st st' : St),(∀(k:Nat) (p:AStep×Ev),L[k]? = some p->p.1.dst=some x->D (i+k)=D' (i+k))->st.slots[x]? = st'.slots[x]? -> (Xa D i L st).slots[x]? = (Xa D' i L st').slots[x]?
 |[],i,st,st',_,h=>h|p::r,i,st,st',ha,h=>by
  rw[Xa,Xa];refine Zvw r (i+1) _ _ (λk q hk hd=>by have:=ha (k+1) q (by grind) hd;grind) ?_;by_cases hd:p.1.dst=some x;have h0:=ha 0 p rfl hd;simp only[Nat.add_zero]at h0;rw[h0];split;exact Yki h;grind;grind[ap,Ybl]
theorem Zvx{D D' : Nat->Bool}{t:Nat}:∀(L:List (AStep×Ev)) (i:Nat) (st st' : St),(∀(k:Nat) (p:AStep×Ev),L[k]? = some p->(∃x∈p.2.wr,x.1=t)->D (i+k)=D' (i+k))->st.heap[t]? = st'.heap[t]? -> (Xa D i L st).heap[t]? = (Xa D' i L st').heap[t]?
 |[],i,st,st',_,h=>h|p::r,i,st,st',ha,h=>by
  rw[Xa,Xa];refine Zvx r (i+1) _ _ (λk q hk hd=>by have:=ha (k+1) q (by grind) hd;grind) ?_;by_cases hd:∃x∈p.2.wr,x.1=t;have h0:=ha 0 p rfl hd;simp only[Nat.add_zero]at h0;rw[h0];split;exact Yfl h;grind;grind[ap,Z19]
def Apart(p q:AStep×Ev):Prop:=(∀d,p.1.dst=some d->q.1.dst≠some d) /\ ∀x∈p.2.wr,∀y∈q.2.wr,x.1≠y.1
theorem Zp3:∀(wr:List (Nat×AObj)) (h:List AObj) (t:Nat) (o:AObj),(∀x∈wr,x.1≠t)->wrH (h.set t o) wr=(wrH h wr).set t o|[],h,t,o,_=>rfl|p::ps,h,t,o,hn=>by rw[wrH,wrH,List.set_comm _ _ (Ne.symm (hn p (by simp))),Zp3 ps _ t o λx hx=>hn x (by simp[hx])]
theorem Z7k:∀(a b:List (Nat×AObj)) (h:List AObj),(∀x∈a,∀y∈b,x.1≠y.1)->wrH (wrH h a) b=wrH (wrH h b) a|[],b,h,_=>rfl|p::ps,b,h,hn=>by rw[wrH,Z7k ps b _ λx hx=>hn x (by simp[hx]),Zp3 b h p.1 p.2 λy hy e=>hn p (by simp) y hy e.symm,wrH]
theorem Yra{p q:AStep×Ev}(h:Apart p q):ap (ap st p.1 p.2) q.1 q.2=ap (ap st q.1 q.2) p.1 p.2:=by
 simp only[ap,St.mk.injEq];refine⟨?_,Z7k _ _ _ h.2⟩;cases hp:p.1.dst with|none=>rfl|some d => cases hq:q.1.dst with|none=>rfl|some e=>simp only[setD];exact List.set_comm _ _ λhe=>h.1 d hp (by grind)
theorem Z7l{D:Nat->Bool}{p:AStep×Ev}:∀(L:List (AStep×Ev)) (i:Nat) (st:St),(∀(k:Nat) (q:AStep×Ev),L[k]? = some q->D (i+k)=true->Apart p q)->Xa D i L (ap st p.1 p.2)=ap (Xa D i L st) p.1 p.2
 |[],i,st,_=>rfl|q::r,i,st,ha=>by
  rw[Xa,Xa];have ih:=λs=>Z7l (D:=D) (p:=p) r (i+1) s λk q' hk hd=>ha (k+1) q' (by grind) (by grind);cases hD:D i with|false=>grind|true=>simp only[if_true];rw[Yra (ha 0 q rfl (by grind)),ih]
theorem Ztf{D D' : Nat->Bool}:∀(L:List (AStep×Ev)) (i:Nat) (st:St),(∀k,k<L.length->D (i+k)=D' (i+k))->Xa D i L st=Xa D' i L st|[],i,st,_=>rfl|p::r,i,st,h=>by have h0:=h 0 (by simp);simp only[Nat.add_zero]at h0;rw[Xa,Xa,h0];exact Ztf r (i+1) _ λk hk=>by have:=h (k+1) (by grind);grind
theorem Z2a{D D' : Nat->Bool}{p:AStep×Ev}:∀(L:List (AStep×Ev)) (i k0:Nat) (st:St),L[k0]? = some p->D (i+k0)=false->D' (i+k0)=true->(∀j,j≠i+k0->D' j=D j) ->
    (∀(k:Nat) (q:AStep×Ev),L[k]? = some q->k≠k0->D (i+k)=true->k0<k->Apart p q)->Xa D' i L st=ap (Xa D i L st) p.1 p.2
  |[],i,k0,st,hp,_,_,_,_=>by grind|q::r,i,k0,st,hp,h0,h1,hD,ha=>by
   rw[Xa,Xa];cases k0 with
   |zero=>simp only[J0q,J0b]at hp;subst hp;simp only[Nat.add_zero]at h0 h1;rw[h0,h1];simp only[if_true,J0r,if_false];rw[Ztf (D:=D') (D' := D) r (i+1) _ λk _=>hD _ (by omega)];exact Z7l r (i+1) st λk q' hk hd=>ha (k+1) q' (by grind) (by omega) (by grind) (by omega)|succ k0 =>
    rw[hD i (by omega)];rw[List.getElem?_cons_succ]at hp;exact Z2a r (i+1) k0 _ hp (by grind) (by grind) (λj hj=>hD j (by omega))
     λk q' hk hne hd hlt=>ha (k+1) q' (by grind) (by omega) (by grind) (by omega)
section
variable {P:Program} {B:Nat} {w0 w:World} {ops:Array Oper}
theorem Ybm{s s' : List AV}{xs:List AOpd}(h:∀d∈xs.filterMap AOpd.tmp?,s[d]? = s'[d]?):∀x∈xs,AOpd.eval s x=AOpd.eval s' x:=by
 intro x hx;cases x with|c v=>rfl|t n=>have:=h n (List.mem_filterMap.2 ⟨_,hx,rfl⟩);grind[AOpd.eval]
theorem Z7m{s:AStep}{ev:Ev}{stT st:St}(hst:StepD P s ev stT)(hslot:∀d∈s.reads,stT.slots[d]? = st.slots[d]?)(hheap:∀t,ev.tau.contains t=true->stT.heap[t]? = st.heap[t]?)(hwt:∀x∈ev.wr,ev.tau.contains x.1=true)
    {ι:Em} {a:Act} (hs:SR B w0 st ι a w) {i:Nat} {o:Oper} (hi:ops[i]? = some o) (hcs:Zh6 P ops o=some s) {K:Act->World->Prop} {Q:Exit->Act->World->Prop}
    (hK:∀ι' a' w',SR B w0 (ap st s ev) ι' a' w' -> EX st.heap ι w (ap st s ev).heap ι' w' -> K a' w'):wpOp P ops Q i K a w:=by
  have hg:Zk st.slots s.guard=Zk stT.slots s.guard:=by grind[AStep.reads,Zk]
  have hopds:∀x∈s.op.opds,AOpd.eval stT.slots x=AOpd.eval st.slots x:=Ybm λd hd=>hslot d (by grind[AStep.reads]);have hm:∀t ver o,Zd (Za0 ev.tau 0 stT.heap) t ver=some o->Zd st.heap t ver=some o:=λt ver o hgr=>by obtain⟨h1,h2⟩:=Zrt hgr;grind[Zd]
  have htagT:∀o,ev.wr=[(ev.T,o)] -> ∀q,stT.heap[ev.T]? = some q->st.heap[ev.T]? = some q:=λo he q hq=>by simp_all
  unfold wpOp;simp only[hi];cases hst with
  |skip hw hy hwr =>
   rw[<- hg]at hw;obtain⟨h1,h2,h3⟩:=Qn hcs hs.len hs.slot hw;rw[h1];simp only[J0r,if_false];obtain⟨g1,g2⟩:=Zbe hs.len hs.slot o.dst (VRel.u (h:=st.heap) (ι:=ι) (w:=w) (O:=Own st.heap.length ι));rw[<- h2]at g1 g2 ⊢;have e:ap st s ev=⟨setD st.slots s.dst .u,st.heap⟩:=by grind[ap,wrH]
   exact hK ι _ _ (by rw[e];exact⟨hs.heap,g1,g2,(put_defers a _ _).trans hs.defers⟩) (by rw[e];exact .refl _ _ _ _)
  |op ao eff ho hw he hwr hn=>rw[<- hg]at hw;obtain⟨h1,h2,h3⟩:=Qn hcs hs.len hs.slot hw;rw[h1];simp only[if_true];left;rw[ho]at h3;have he2:=Ziz hm he;rw[Z7g (ρ' := AOpd.eval st.slots) (by rw[ho]at hopds;exact hopds)]at he2;obtain⟨cv,w',hrun,hres⟩:=Z7b hs.heap hs.slot hs.len ((Z7f h3).resolve_right (by grind[Zb])) he2;obtain⟨ι',hs2,hx2⟩:=Yil hs hres (λp hp=>htagT p (by rw[hwr,hp];rfl) _ (hn p hp)) s.dst;rw[<- hwr]at hs2 hx2;have fin:=hK ι' _ _ hs2 hx2;grind[Oper.wp,Oper.upon_value,Oper.upon_skip]|call f avs mode pas rs ho hw hp hsp hmo hy hwr hn =>
   rw[<- hg]at hw;obtain⟨h1,h2,h3⟩:=Qn hcs hs.len hs.slot hw;rw[h1];simp only[if_true];left;have ho:=ho.congr hopds;have hp2:=Zk0 hm hp;have hdead:∀j,j<(Za rs).length->st.heap[ev.T+j]? = some Xh:=λj hj=>by
    have hmem:∀(k:List AObj) (T j:Nat),j<k.length -> ∃o,(T+j,o)∈tagged T k:=by
     intro k
     induction k with|nil=>grind|cons o k ih => intro T j hj;cases j with|zero=>grind[tagged]|succ j=>obtain⟨o',ho'⟩:=ih (T+1) j (by grind);grind[tagged]
    obtain⟨q,hq⟩:=hmem (Za rs) ev.T j hj;grind
   have hT:ev.T+(Za rs).length<=st.heap.length∨(Za rs).length=0:=by
    by_cases hz:(Za rs).length=0;grind;have:=(J0d.1 (hdead ((Za rs).length-1) (by omega))).1;grind
   obtain⟨cargs,hx,hsz,hrel'⟩:=ho.run hs h3;have fin:∀(O:Nat->Prop),(∀g,O g->g<w.heap.size)->Zcb w O pas cargs->(Yr rs=true∨O=Own st.heap.length ι)->o.wp P a w K Q:=by
    intro O hOs hpr hm;unfold Oper.wp;rw[hx];simp only[Oper.upon_enter];refine(hsp O w _ hOs hs.heap.globw hpr).mono λe w' he=>?_;obtain⟨v,κ,rfl,hkO,hk,hv⟩:=he;rcases hT with hT|hz
    obtain⟨h5,h6⟩:=Ybk hs hk hv (hm.imp id (λe=>by grind)) hT hdead s.dst;rw[<- hwr,<- hy]at h5;rw[<- hwr]at h6;have:=hK _ _ _ h5 h6;grind;have hnil:Za rs=[]:=List.eq_nil_of_length_eq_zero hz;obtain⟨h5,h6⟩:=join_step hs hk hv (hm.imp id (λe=>by grind)) s.dst;have hval:retV (Zg st.heap.length rs)=ev.y:=by
     rw[hy];have:∀(rs:List RA) (T T' : Nat),Za rs=[]->Zg T rs=Zg T' rs:=by
      intro rs
      induction rs with
      |nil=>intro T T' _;rfl|cons r rs ih =>
       intro T T' hr;simp only[Za,List.append_eq_nil_iff]at hr;have hc:∀(x:RC) (T T' : Nat),Yg x=[]->Zbm T x=Zbm T' x:=by
        intro x T T' hx;cases x with|c v=>rfl|e b=>rfl|s e size es=>simp[Yg]at hx
       have hcs:∀(xs:List RC) (T T' : Nat),Xk xs=[]->Zag T xs=Zag T' xs:=by
        intro xs
        induction xs with|nil=>intro T T' _;rfl|cons x xs ih=>grind[Xk,List.append_eq_nil_iff,Zag]
       simp only[Zg];have hr1:Zfh T r=Zfh T' r:=by
        cases r with|c x=>exact hc x T T' hr.1|a xs=>simp only[Zfh];rw[hcs xs T T' hr.1]
       grind
     grind
    grind[wrH,tagged,ap]
   unfold Yt at hp2;cases mode with
   |true =>
    simp only[if_true]at hp2;exact fin _ (λg hg=>by
     rcases hg with hg|⟨t,ht,hb⟩
     exact Nat.lt_of_lt_of_le (hs.heap.old g hg) hs.heap.size;exact(hs.heap.own ht hb).2) (Zfx (λx v y hv hf=>Zvn hv hf) (λx v l hv hg=>Zrs hv hg) hsz hrel' hp2) (.inr rfl)
   |false=>simp only[J0r,if_false]at hp2;exact fin (λ_=>False) (λ_ h=>h.elim) (Zfx (λx v y hv hf=>Zg4 hs.heap (λ_ h=>h.elim) (λ_ _ _ _ _ h=>h) 6 hv hf) (λx v l hv hg=>Zvo hs.heap hv hg) hsz hrel' hp2) (.inl (by grind))
end
end Go.Abs
