import Derived.Test.YtlnihcefchoofaaGreatDoorDAbsB2
set_option linter.all false
namespace Go.Abs
open Go.RowKit (Below)
variable [GTab] [Glob]
section
variable {P:Program} {Q:Exit->St->Prop} {st:St} {frs:List Fr} {lows:List (List AV)}
theorem Zlc{B:Nat}:∀(mt:List Nat) (fr:Frame) (cs:List Frame) (w:World),fr.mode = .returning->fr.defers=mt.map Zfb->Marks B w mt ->
    ∃w',Steps P (lone fr cs w) (lone { fr with defers:=[] } cs w')/\Quiet B w w' /\ ∀g,g ∉ mt->w'.heap[g]? = w.heap[g]?
  |[],fr,cs,w,hm,hd,h=>by
   have:({ fr with defers:=[] }:Frame)=fr:=by cases fr;grind
   rw[this];exact⟨w,.refl _ _,.refl _ _,λ_ _=>rfl⟩
  |r::mt,fr,cs,w,hm,hd,h=>by obtain⟨hn,hr⟩:=h;simp only[List.nodup_cons]at hn;obtain⟨h1,h2⟩:=hr r (by simp);have hlt:r<w.heap.size:=(Array.getElem?_eq_some_iff.1 h2).1;have s1:=Yiu (P:=P) (cs:=cs) (w:=w) (w' := putO w r (.deferred none)) (r:=r) (ds:=mt.map Zfb) hm (by rw[hd];rfl) (Yb7 h2);obtain⟨w',s2,q,hs⟩:=Zlc mt { fr with defers:=mt.map Zfb } cs (putO w r (.deferred none)) hm rfl ⟨hn.2,λx hx=>by have hxr:x≠r:=λe=>hn.1 (e▸hx);rw[Zce hxr];exact hr x (by simp[hx])⟩;refine⟨w',.head s1 s2,(Zfo h1 h2 (λ_ _ _=>by grind)).trans q,λg hg=>?_⟩;grind[Zce]
variable {ι:Em}{xs:List AV}
theorem Ylc{h:List AObj}{w:World}{vs:List Value}(m2:vs.length=xs.length)(m3:∀(i:Nat) (x:AV) (v:Value),xs[i]? = some x->vs[i]? = some v->VR h ι w x v):VR h ι w (retV xs) (retC vs):=by
 have tup:VR h ι w (.tuple xs) (.tuple vs.toArray):=.tuple _ _ (by simp[m2]) λi y u hy hu=>m3 i y u hy (by grind)
 match xs,vs,m2,m3,tup with|[],[],_,_,tup=>exact tup|[x],[v],_,m3,_=>exact m3 0 x v rfl rfl|x::x' :: xs,v::v' :: vs,_,_,tup=>exact tup
variable {B:Nat}{f:FuncId}
theorem Ztr{w0 w:World}{a:Act}{fnr:Func}{res:List ARes}(hf:P.funcs[f]? = some fnr)(hres:Zcs P fnr.results.toList=some res)(hs:SR B w0 st ι a w)(hx:resV st res=some xs){mt:List Nat}(hd:a.defers=mt.map Zfb)(hm:Marks B w mt)
    (todo:List Item) (c:Frame) (cs:List Frame):∃w' v,Steps P (lone { (Y0 f none).atR a todo with mode:=.returning } (c::cs) w) (lone (c.finish v) cs w')/\Quiet B w w' /\ (∀g,g ∉ mt->w'.heap[g]? = w.heap[g]?)/\VR st.heap ι w' (retV xs) v:=by
  obtain⟨w',s1,hq,hsame⟩:=Zlc (P:=P) (B:=B) mt { (Y0 f none).atR a todo with mode:=.returning } (c::cs) w rfl hd hm;have hs' : SR B w0 st (ι.setD []) { a with defers:=[] } w' := hq.sr (ι:=ι) (ι' := ι.setD []) rfl rfl hs (.inl rfl) rfl rfl;obtain⟨vs,m1,m2,m3⟩:=Zey hs' hres hx;refine⟨w',retC vs,Steps.trans s1 (.one (step_leave_returned ⟨rfl,rfl,rfl,fnr,hf,Zo7 m1⟩)),hq,hsame,?_⟩;exact(Ylc m2 m3).reD ι.D
def KRet(P:Program)(bot:List Fr)(Q:Exit->St->Prop)(st:St)(lows:List (List AV)):Prop :=
 ∀(b:Frame) (k:List Item) (cs:List Frame) L lt ms b1 k1 cs1,Und P b k cs L bot lt ms b1 k1 cs1 ->
  ∀B w0 ι a w mt,SR B w0 st ι a w->LRel st.heap ι w lows lt->a.defers=mt.map Zfb->Marks B w (mt++ms)->LoopOK B w ι bot L ->
   b1.roundOf=none/\k1=[] /\ ∀todo,∃e a' w',Z8e B w0 ι.O Q e a' w' /\ Arrives P (lone { b1.atR a todo with mode:=.returning } cs1 w) b k cs e a' w'
theorem KAW.endK{x:Fr}{frs0:List Fr}(hx:x.isBot=true)(h:KRet P (x::frs0) Q st lows):KAW P (x::frs0) Q st lows:=by intro b k cs L top bot lt ms b1 k1 cs1 its he hc hu B w0 ι a w mt hs hl hd hm hL;obtain⟨rfl,rfl,rfl⟩:=Z2s hc hx he;obtain⟨h1,rfl,h3⟩:=h b k cs L lt ms b1 k1 cs1 hu B w0 ι a w mt hs hl hd hm hL;obtain⟨e,a',w',q,r⟩:=h3 [];exact⟨e,a',w',q,.of_steps (.one (stepR_end h1)) r⟩
def Xc:List Fr->Bool|.brd::_=>false|.code _::frs=>Xc frs|.blk _::frs=>Xc frs|.lp _::frs=>Xc frs|.steps _::frs=>Xc frs|.scp::frs=>Xc frs|_=>true
theorem Zdz{bot:List Fr}:∀{its:List Item} {top:List Fr},CompF P its top->Xc (top++bot)=true -> ∀p,Zbp (top++bot) p=Zbp bot p|_,_,.nil,_,p=>rfl|_,_,.code C c its frs hC hs,h,p=>(Yd (g:=[.code c]) rfl (frs++bot) p).trans (Zdz hs h p)|_,_,.lp C c its frs hC hs,h,p=>(Yd (g:=[.lp c]) rfl (frs++bot) p).trans (Zdz hs h p)|_,_,.steps ops is ss its frs hn hC hs,h,p=>(Yd (g:=[.steps ss]) rfl (frs++bot) p).trans (Zdz hs h p)|_,_,.blk i its frs hs,h,p=>(Yd (g:=[.blk i]) rfl (frs++bot) p).trans (Zdz hs h p)|_,_,.scp C its frs hs,h,p=>(Yd (g:=[.scp]) rfl (frs++bot) p).trans (Zdz hs h p)|_,_,.brd its frs hs,h,p=>by cases h
theorem KAW.retK{bot0:List Fr}(hb:botF frs=bot0)(hnb:Xc frs=true)(h:KRet P bot0 Q st lows):KAW P (.code .ret::frs) Q st lows:=by
 intro b k cs L top bot lt ms b1 k1 cs1 its he hc hu B w0 ι a w mt hs hl hd hm hL;obtain⟨top',rfl,rfl⟩:=Qe hu rfl he;cases hc with|code C c its frs hC hs' => have hsh:=Zp hC;dsimp only at hsh;subst hsh;have e2:bot=bot0:=(Zcx (Zqo hu) hs').symm.trans hb;subst e2;obtain⟨h1,h2,h3⟩:=h b k cs L lt ms b1 k1 cs1 hu B w0 ι a w mt hs hl hd hm (hL.frs λp=>(Zdz hs' hnb p).symm.trans (Yd (g:=[.code .ret]) rfl _ p).symm);obtain⟨e,a',w',q,r⟩:=h3 (.code .ret::(its++k1));refine⟨e,a',w',q,.of_steps (.one ?_) r⟩;grind[stepR_ret]
variable {a b:List Nat}
theorem Marks.left{w:World}(h:Marks B w (a++b)):Marks B w a:=⟨(List.nodup_append.1 h.1).1,λr hr=>h.2 r (by simp[hr])⟩
variable {w':World}
theorem Marks.right{w: World}(h:Marks B w (a++b))(hs:∀g,g ∉ a->w'.heap[g]? = w.heap[g]?):Marks B w' b:=by obtain⟨h1,h2⟩:=h;obtain⟨_,h3,h4⟩:=List.nodup_append.1 h1;refine⟨h3,λr hr=>⟨(h2 r (by simp[hr])).1,?_⟩⟩;grind
theorem LoopOK.same{w: World}{ι': Em}(hY:ι'.Y=ι.Y)(hm:Marks B w (a++b))(hs:∀g,g ∉ a->w'.heap[g]? = w.heap[g]?){frs:List Fr}{L:Option (Nat×Loop)}(hL:LoopOK B w ι frs L):LoopOK B w' ι' frs L:=by
 cases L with|none=>trivial|some x => obtain⟨l,rec⟩:=x;obtain⟨h1,h2,h3,h4⟩:=hL;refine⟨by grind,h2,?_,h4⟩;rw[hs l (λha=>?_)];exact h3;have:=(hm.2 l (by simp[ha])).2;grind
theorem KRet.fn{res:List ARes}{dst:Option Nat}{frs0:List Fr}{low:List AV}{xs:List AV}(hx:resV st res=some xs)(h:KAW P frs0 Q ⟨setD low dst (retV xs),st.heap⟩ lows):KRet P (.fn res dst::frs0) Q st (low::lows):=by
 intro b k cs L lt ms b1 k1 cs1 hu B w0 ι a w mt hs hl hd hm hL;cases hu with
 |fn _ bot lt' ms' b2 k2 cs2 hu f fnr _ hf hres ops i is ss its frs a2 mt2 hn hss hC hD =>
  refine⟨rfl,rfl,λtodo=>?_⟩;obtain⟨hl1,hl2⟩:=hl;obtain⟨w',v,s1,hq,hsame,hv⟩:=Ztr hf hres hs hx hd hm.left todo (b2.atR a2 (.inRegion ops (i::is)::(its++k2))) cs2;rw[Frame.finish_atR]at s1;have hr1:=hq.vrs (ι:=ι) (ι' := ι.setD a2.defers) rfl rfl hl1 (.inl rfl);obtain⟨p1,p2⟩:=Zbe (slots:=low) (a:=a2) (h:=st.heap) (ι:=ι.setD a2.defers) (w:=w') (by have:=hl1.1;grind) (λi x v h1 h2=>hr1.2 i x v h1 (by grind)) ((ops[i]?).bind (·.dst)) (y:=retV xs) (cv:=v) (hv.reD a2.defers);obtain⟨e,a',w2,q,r⟩:=h b k cs L (.steps ss::frs) bot lt' ms' b2 k2 cs2 (.inRegion ops is::its) (by simp) (.steps _ _ _ _ _ hn hss hC) hu B w0 (ι.setD a2.defers) (a2.put ((ops[i]?).bind (·.dst)) v) w' mt2
   ⟨hq.hrel (ι:=ι) (ι' := ι.setD a2.defers) rfl rfl hs.heap (.inl rfl),p1,p2,put_defers _ _ _⟩ (hq.lrel (ι:=ι) (ι' := ι.setD a2.defers) rfl rfl hl2 (.inl rfl)) ((put_defers _ _ _).trans hD) (hm.right hsame) ((hL.frs λp=>rfl).same rfl hm hsame)
  exact⟨e,a',w2,q,.of_steps (by grind) r⟩
variable {rest:List AStep}{af:AFun}
theorem KAW.enter{s:AStep}{avs:List AV}(haf:Z0 P f=some af)(hw:Zk st.slots s.guard=some true)
    (hcall:∀o:Oper,Zn6 P o=some s.op -> ∀B w0 ι a w,SR B w0 st ι a w -> ∃cargs,(execOp a.eval o).run P w = .ok (.enter f cargs) w/\cargs.size=avs.length /\ ∀(i:Nat) (x:AV) (v:Value),avs[i]? = some x->cargs[i]? = some v->VR st.heap ι w x v)
    (h:KAW P (.code af.body :: .fn af.res s.dst :: .steps rest::frs) Q ⟨start af.nt avs,st.heap⟩ (st.slots::lows)):KAW P (.steps (s::rest)::frs) Q st lows:=by
  intro b k cs L top bot lt ms b1 k1 cs1 its he hc hu B w0 ι a w mt hs hl hd hm hL;obtain⟨top',rfl,rfl⟩:=Qe hu rfl he;cases hc with
  |steps ops is ss its frs hn hix hs' =>
   cases is with
   |nil=>simp[Qd]at hix|cons i is =>
    simp only[Qd]at hix;split at hix;rename_i o hio;split at hix;rename_i s' r h1 h2;simp only[J0b,List.cons.injEq]at hix;obtain⟨rfl,rfl⟩:=hix;obtain⟨g1,g2,g3⟩:=Qn h1 hs.len hs.slot hw;obtain⟨cargs,g4,g5,g6⟩:=hcall o g3 B w0 ι a w hs;unfold Z0 at haf;split at haf;rename_i fnr hfn;split at haf;rename_i c hb;split at haf;rename_i bd rs hcb hcr;obtain rfl:=J0a haf;have henter:=Ztn (P:=P) (b:=b1) (a:=a) (k:=its++k1) (cs:=cs1) (w:=w) (rest:=is) hn hio g1 g4;have hfe:Frame.enter P f cargs .normal=(Y0 f none).atR { tmps:=cargs++Array.replicate (fnr.ntmps-cargs.size) undef,defers:=[] } ([.code c]++[]):=by grind[Frame.enter,Frame.atR,Y0]
    rw[hfe]at henter;obtain⟨q1,q2⟩:=Zg6 (nt:=fnr.ntmps) g5 g6;have hdst:s'.dst=(ops[i]?).bind (·.dst):=by grind
    have hund:=Und.fn L bot lt ms b1 k1 cs1 hu f fnr rs hfn hcr ops i is r its top' a mt hn h2 hs' hd;rw[<- hdst]at hund;obtain⟨e,a',w',q,rr⟩:=h b k cs L [.code bd] (.fn rs s'.dst :: .steps r::(top' ++ bot)) (a.tmps.toList::lt) (mt++ms) (Y0 f none) [] (b1.atR a (.inRegion ops (i::is)::(its++k1))::cs1) [.code c] rfl (.code _ _ _ _ hcb .nil) hund
     B w0 (ι.setD []) { tmps:=cargs++Array.replicate (fnr.ntmps-cargs.size) undef,defers:=[] } w [] ⟨hs.heap.reD [],q1,λi x v h1 h2=>(q2 i x v h1 h2).reD [],rfl⟩
     ⟨⟨by simpa using hs.len,λi x v h1 h2=>(hs.slot i x v h1 (by grind)).reD []⟩,(Quiet.refl B w).lrel (ι:=ι) (ι' := ι.setD []) rfl rfl hl (.inl rfl)⟩ rfl (by grind) (by
      have hL2:=hL.frs (f2:=.code bd :: .fn rs s'.dst :: .steps r::(top' ++ bot)) (λp=>rfl);cases L with|none=>trivial|some x=>exact hL2)
    refine⟨e,a',w',q,.of_steps (.one ?_) rr⟩;grind;grind;grind;grind;grind;grind
variable {args:List AOpd}
theorem KAW.callS{s:AStep}(haf:Z0 P f=some af)(hw:Zk st.slots s.guard=some true)(ho:s.op = .call f args)
    (h:KAW P (.code af.body :: .fn af.res s.dst :: .steps rest::frs) Q ⟨start af.nt (args.map (AOpd.eval st.slots)),st.heap⟩ (st.slots::lows)):KAW P (.steps (s::rest)::frs) Q st lows:=by
  refine .enter haf hw (λo hc B w0 ι a w hs=>?_) h;rw[ho]at hc;obtain⟨cargs,ts,hop,hcb,hxs⟩:=Ze9 (Ziw hc);obtain⟨hl2,hrel⟩:=Zay (a:=a) hs.slot hs.len hxs;refine⟨cargs.map a.eval,?_,by grind,λi x v g1 g2=>hrel i x v g1 (by grind)⟩;grind[execOp,resolve,Deferred.ofValue,Act.eval,invoke,Xo]
variable {x:AOpd}
theorem KAW.callV{s:AStep}{caps:List AV}(haf:Z0 P f=some af)(hcb:callable P f=true)(hw:Zk st.slots s.guard=some true)(ho:s.op = .callv x args)(hxe:x.eval st.slots = .fn f caps)
    (h:KAW P (.code af.body :: .fn af.res s.dst :: .steps rest::frs) Q ⟨start af.nt (args.map (AOpd.eval st.slots)++caps),st.heap⟩ (st.slots::lows)):KAW P (.steps (s::rest)::frs) Q st lows:=by
  refine .enter haf hw (λo hc B w0 ι a w hs=>?_) h;rw[ho]at hc;obtain⟨g,cargs,ts,hop,hg,hxs⟩:=Zaz (Zex hc);obtain⟨hl2,hrel⟩:=Zay (a:=a) hs.slot hs.len hxs;have hgv:=Zf (a:=a) hs.slot hs.len hg;rw[hxe]at hgv;generalize hev:a.eval g=gv at hgv;cases hgv with
  |fn _ _ vs k1 k2 =>
   have hsz:(cargs.map a.eval).size=(args.map (AOpd.eval st.slots)).length:=by grind
   refine⟨cargs.map a.eval++vs,?_,by grind,λi x v g1 g2=>?_⟩;grind[execOp,resolve,Deferred.ofValue,invoke,Xo];grind
theorem KAW.callB{s:AStep}{firsts:List AV}(haf:Z0 P f=some af)(hcb:callable P f=true)(hw:Zk st.slots s.guard=some true)(ho:s.op = .callv x args)(hxe:x.eval st.slots = .fb f firsts)
    (h:KAW P (.code af.body :: .fn af.res s.dst :: .steps rest::frs) Q ⟨start af.nt (firsts++args.map (AOpd.eval st.slots)),st.heap⟩ (st.slots::lows)):KAW P (.steps (s::rest)::frs) Q st lows:=by
  refine .enter haf hw (λo hc B w0 ι a w hs=>?_) h;rw[ho]at hc;obtain⟨g,cargs,ts,hop,hg,hxs⟩:=Zaz (Zex hc);obtain⟨hl2,hrel⟩:=Zay (a:=a) hs.slot hs.len hxs;have hgv:=Zf (a:=a) hs.slot hs.len hg;rw[hxe]at hgv;generalize hev:a.eval g=gv at hgv;cases hgv with
  |fb _ _ vs k1 k2 =>
   have hsz:(cargs.map a.eval).size=(args.map (AOpd.eval st.slots)).length:=by rw[<- hl2];simp
   refine⟨vs++cargs.map a.eval,?_,by grind,λi x v g1 g2=>?_⟩;grind[execOp,resolve,Deferred.ofValue,invoke,Xo];grind
end
end Go.Abs
namespace Go.Abs
open Go.RowKit (Below)
variable [GTab] [Glob]
section
variable {P:Program} {Q:Exit->St->Prop} {st:St} {frs:List Fr} {lows:List (List AV)}
def noRf:List Fr->Bool|[]=>true|.rf _ _ _::_=>false|.rnd _ _::_=>false|.brd::_=>false|_::frs=>noRf frs
theorem Zwx:∀{a b:List Fr},noRf (a++b)=true->noRf b=true|[],b,h=>h|x::a,b,h=>by cases x<;>first|exact Zwx (a:=a) h|(cases h;done)
theorem Yiv{b:Frame}{k:List Item}{cs:List Frame}{L:Option (Nat×Loop)}{bot:List Fr}{lt:List (List Value)}{ms:List Nat}{b1:Frame}{k1:List Item}{cs1:List Frame}(h:Und P b k cs L bot lt ms b1 k1 cs1)(hn:noRf bot=true):L=none/\b1.roundOf=none:=by
 induction h with|base hb=>grind|fn L bot lt ms b2 k2 cs2 hu f fnr res hf hres ops i is ss its frs a mt hn' hss hC hD ih=>exact⟨(ih (Zwx (a:=frs) hn)).1,rfl⟩|rf=>cases hn|rnd=>cases hn
theorem Zqp:∀{frs:List Fr},noRf frs=true->Zw frs=false|[],_=>rfl|x::frs,h=>by cases x<;>first|exact Zqp (frs:=frs) h|(cases h;done)
theorem Zwy:∀{frs:List Fr},noRf frs=true->Zhu frs=false|[],_=>rfl|x::frs,h=>by cases x<;>first|exact Zwy (frs:=frs) h|(cases h;done)
variable {x:AV}
theorem Z8f{v:Value}(h:cav1 v=some x):x.noY=true:=by unfold cav1 at h;split at h<;>first|(obtain rfl:=J0a h;rfl)|grind
theorem Z8g:∀{l:List Value} {xs:List AV},l.mapM cav1=some xs->noYL xs=true
 |[],xs,h=>by obtain rfl:=J0a (show some []=some xs from h);rfl|v::l,xs,h=>by
  rw[List.mapM_cons]at h;cases h1:cav1 v with|none=>grind|some y => cases h2:l.mapM cav1 with|none=>grind|some ys=>simp[h1,h2]at h;subst h;simp[noYL,Z8f h1,Z8g h2]
theorem Yrx{v:Value}(h:cav v=some x):x.noY=true:=by
 unfold cav at h;split at h;split at h;rename_i l hl;obtain rfl:=J0a h;exact Z8g hl;grind;exact Z8f h
theorem Yld{st:St}{lows:List (List AV)}(h:(noYL st.slots&&st.heap.all noYO&&lows.all noYL)=true):(noYL st.slots&&st.heap.all noYO)=true/\lows.all noYL=true:=by grind
variable {g:Operand}
theorem Yry{z:AOpd}(h0:opd g=some z){slots:List AV}(hY:noYL slots=true):(z.eval slots).noY=true:=by
 cases z with
 |t n => show(slots.getD n .any).noY=true;rw[List.getD_eq_getElem?_getD];cases hn:slots[n]? with|none=>rfl|some y=>exact Zbt hY hn
 |c v0 =>
  show v0.noY=true;unfold opd at h0;split at h0;cases h0;grind[Option.map_eq_some_iff,Yrx];injection h0 with h0
  injection h0 with h0
  subst h0;rfl;injection h0 with h0
  injection h0 with h0
  subst h0;rfl
def Zia(w:World)(r:Loop):World:=(w.alloc (.deferred (some []))).alloc (.loop r)
variable {B:Nat}
theorem Z8h{w:World}(r:Loop)(hB:B<=w.heap.size):Quiet B w (Zia w r):=(Ztp w _ hB).trans (Ztp _ _ (by show B<=(w.heap.push _).size;grind))
variable {r:Loop}
theorem Yiw{w:World}{g:Nat}(hg:g<w.heap.size):(Zia w r).heap[g]? = w.heap[g]? := by show((w.heap.push _).push _)[g]? = _;grind
theorem Yb9{w:World}:(Zia w r).heap[w.heap.size]? = some (.deferred (some [])):=by show((w.heap.push _).push _)[w.heap.size]? = _;grind
theorem Yix{w:World}:(Zia w r).heap[w.heap.size+1]? = some (.loop r):=by show((w.heap.push _).push _)[w.heap.size+1]? = _;grind
variable {caps:List AV}{vs:Array Value}
theorem Yrz{w w1:World}(hq:Quiet B w w1){h:List AObj}{ι ι1:Em}(hat:ι1.at_=ι.at_)(hO:ι1.O=ι.O)(k1:vs.size=caps.length)(k2:∀(i:Nat) (x:AV) (v:Value),caps[i]? = some x->vs[i]? = some v->VR h ι w x v)(hc:noYL caps=true) :
    ∀(i:Nat) (x:AV) (v:Value),(AV.yl::caps)[i]? = some x->(#[Value.func (.yield ι1.Y) #[] #[]]++vs)[i]? = some v->VR h ι1 w1 x v:=by
  intro i x v hx hv;cases i with
  |zero =>
   rw[Array.getElem?_append_left (by simp)]at hv;have hv:Value.func (.yield ι1.Y) #[] #[]=v:=by grind
   have hx:AV.yl=x:=by grind
   subst hx;subst hv;exact .yl
  |succ i =>
   simp only[List.getElem?_cons_succ]at hx;rw[Array.getElem?_append_right (by simp)]at hv;have hv:vs[i]? = some v:=by grind
   show VRel h ι1 w1 (Own h.length ι1) x v;rw[Zwv hat hO];exact hq.vrel hat (k2 i x v hx hv) (.inr (Zbt hc hx))
variable {f:FuncId}
theorem Zts{fnr:Func}{cc:Code}(hfn:P.funcs[f]? = some fnr)(hb:fnr.body=some cc)(cargs:Array Value):Frame.enter P f cargs .normal=(Y0 f none).atR { tmps:=cargs++Array.replicate (fnr.ntmps-cargs.size) undef,defers:=[] } [.code cc]:=by grind[Frame.enter,Frame.atR,Y0]
variable {af:AFun}
theorem Zoh(haf:Z0 P f=some af):∃fnr cc,P.funcs[f]? = some fnr/\fnr.body=some cc/\comp P cc=some af.body/\Zcs P fnr.results.toList=some af.res/\fnr.ntmps=af.nt:=by grind[Z0]
theorem Yca{a:Act}(hev:a.eval g = .func (.func f) #[] vs)(hcb:callable P f=true)(l:Nat)(w1:World) :
    (resolve a.eval { callee:=.value g,args:=#[.const (.func (.yield l) #[] #[])],argTypes:=#[] } 0).run P w1 = .ok { target:=.fn (.func f) vs,args:=#[.func (.yield l) #[] #[]] } w1 /\
    (invoke (.fn (.func f) vs) #[.func (.yield l) #[] #[]]).run P w1 = .ok (.enter f (#[.func (.yield l) #[] #[]]++vs)) w1:=by
  refine⟨?_,?_⟩;have hc1:a.eval (.const (.func (.yield l) #[] #[])) = .func (.yield l) #[] #[]:=rfl;grind[resolve,Deferred.ofValue,Sem.run_pure];grind[invoke,Xo]
theorem KAW.range{z:AOpd}{ps:List Nat}{ac bc:ACode}(hz:z.eval st.slots = .fn f caps)(haf:Z0 P f=some af)(hcb:callable P f=true)(hres:af.res=[])(hrf:noRf frs=true)(hY:(noYL st.slots&&st.heap.all noYO&&lows.all noYL)=true)
    (h:KAW P (.code af.body :: .rf ps ac bc::frs) Q ⟨start af.nt (.yl::caps),st.heap⟩ ([.p (.int .u64 0)]::st.slots::lows)):KAW P (.code (.range z ps ac bc)::frs) Q st lows:=by
  intro b k cs L top bot lt ms b1 k1 cs1 its he hc hu B w0 ι a w mt hs hl hd hm hL;obtain⟨top',rfl,rfl⟩:=Qe hu rfl he;obtain⟨hY1,hY2⟩:=Yld hY;simp only[J0e]at hY1;obtain⟨hY0,hYh⟩:=hY1;cases hc with
  |code C c its frs hC hs' =>
   obtain⟨g,psA,A1,B1,rfl,h0,rfl,h2,h3⟩:=Zp hC;obtain⟨rfl,hro⟩:=Yiv hu (Zwx (a:=top') hrf);have hgv:=Zf (a:=a) hs.slot hs.len h0;have hzY:=Yry h0 hY0;rw[hz]at hgv hzY;have hcY:noYL caps=true:=hzY;generalize hev:a.eval g=gv at hgv;cases hgv with
   |fn _ _ vs k1' k2' =>
    obtain⟨fnr,cc,hfn,hb,hcb',hcr,hnt⟩:=Zoh haf;rw[hres]at hcr;obtain⟨rec1,hrec⟩:∃r:Loop,r = { state:=.ready,pending:=none,fn:=b1.fn,tmps:=a.tmps,params:=psA,assign:=A1,body:=B1,defers:=w.heap.size }:=⟨_,rfl⟩;have he1:(Instr.enterLoop b1.fn a.tmps psA A1 B1 b1.roundOf).run P w = .ok (w.heap.size+1,[Zfb w.heap.size]) (Zia w rec1):=by rw[hro,hrec];exact Yb4 _ _ _ _ _
    have hB:B<=w.heap.size:=hs.heap.size;have hq:Quiet B w (Zia w rec1):=Z8h rec1 hB;obtain⟨hr1,hr2⟩:=Yca (P:=P) hev hcb (w.heap.size+1) (Zia w rec1);have s1:=Yb8 (P:=P) (b:=b1) (a:=a) (k:=its++k1) (cs:=cs1) (w:=w) he1 hr1 hr2;rw[Zts hfn hb]at s1;obtain⟨ι1,hι1⟩:∃i:Em,i=⟨ι.at_,ι.O,w.heap.size+1,[]⟩:=⟨_,rfl⟩;have hat:ι1.at_=ι.at_:=by rw[hι1]
    have hO:ι1.O=ι.O:=by rw[hι1]
    have hYl:ι1.Y=w.heap.size+1:=by rw[hι1]
    have hargs:=Yrz hq hat hO k1' k2' hcY;rw[hYl]at hargs;obtain⟨q1,q2⟩:=Zg6 (nt:=fnr.ntmps) (h:=st.heap) (ι:=ι1) (w:=Zia w rec1) (O:=Own st.heap.length ι1) (args:=AV.yl::caps) (by grind) hargs;have hund:=Und.rf bot lt ms b1 k1 cs1 hu hro f fnr hfn hcr (w.heap.size+1) rec1 its top' { a with defers:=[Zfb w.heap.size]++a.defers } (w.heap.size::mt) ac bc hs' (by grind) (by rw[hrec]) (by rw[hrec]) (by grind) (by grind) 0 (by rw[hrec];rfl);have hps:rec1.params.toList=psA.toList:=by rw[hrec]
    rw[hps]at hund;have hnm:∀r∈mt++ms,r<w.heap.size:=λr hr=>(Array.getElem?_eq_some_iff.1 (hm.2 r hr).2).1;have hSR:SR B w0 ⟨start af.nt (.yl::caps),st.heap⟩ ι1 { tmps:=(#[Value.func (.yield (w.heap.size+1)) #[] #[]]++vs)++Array.replicate (fnr.ntmps-(#[Value.func (.yield (w.heap.size+1)) #[] #[]]++vs).size) undef,defers:=[] } (Zia w rec1):=by rw[<- hnt];exact⟨hq.hrel hat hO hs.heap (.inr hYh),q1,q2,by rw[hι1]⟩
    have hLR:LRel st.heap ι1 (Zia w rec1) ([.p (.int .u64 0)]::st.slots::lows) ([.int .u64 0]::a.tmps.toList::lt):=by
     refine⟨⟨rfl,λi x v hx hv=>?_⟩,hq.vrs hat hO ⟨by simpa using hs.len,λi x v hx hv=>hs.slot i x v hx (by grind)⟩ (.inr hY0),hq.lrel hat hO hl (.inr hY2)⟩;cases i with
     |zero =>
      have hx:AV.p (.int .u64 0)=x:=by grind
      have hv:Value.int .u64 0=v:=by grind
      subst hx;subst hv;exact .p _ _ (.int _ _)
     |succ i=>grind
    have hMK:Marks B (Zia w rec1) (w.heap.size::(mt++ms)):=by
     refine⟨List.nodup_cons.2 ⟨λhin=>Nat.lt_irrefl _ (hnm _ hin),hm.1⟩,λr hr=>?_⟩;rcases List.mem_cons.1 hr with rfl|hr
     grind[Yb9];exact⟨(hm.2 r hr).1,by rw[Yiw (hnm r hr)];exact(hm.2 r hr).2⟩
    have hLK:LoopOK B (Zia w rec1) ι1 (.code af.body :: .rf psA.toList ac bc::(top' ++ bot)) (some (w.heap.size+1,rec1)):=by refine⟨hYl,by omega,Yix,?_⟩;grind[Zw,Zqp,Zbp]
    obtain⟨e,a',w',q,rr⟩:=h b k cs (some (w.heap.size+1,rec1)) [.code af.body] (.rf psA.toList ac bc::(top' ++ bot)) _ _ (Y0 f none) [] _ [.code cc] rfl (.code _ _ _ _ hcb' .nil) hund B w0 ι1 _ (Zia w rec1) [] hSR hLR rfl hMK hLK;rw[hO]at q;exact⟨e,a',w',q,.of_steps (.one (by grind)) rr⟩
end
end Go.Abs
namespace Go.Abs
open Go.RowKit (Below)
variable [GTab] [Glob]
def rfAt:List Fr->Option (Nat×List Nat×ACode×ACode)|.rf ps a c::_=>some (0,ps,a,c)|.fn _ _::frs=>(rfAt frs).map λx=>(x.1+1,x.2)|.rnd _ _::_=>none|.code _::frs=>rfAt frs|.blk _::frs=>rfAt frs|.lp _::frs=>rfAt frs|.steps _::frs=>rfAt frs|.brd::frs=>rfAt frs|.scp::frs=>rfAt frs|[]=>none
section
variable {P:Program} {Q:Exit->St->Prop} {st:St} {frs:List Fr} {lows:List (List AV)}
theorem Ze1{bot:List Fr}:∀{its:List Item} {top:List Fr},CompF P its top->rfAt (top++bot)=rfAt bot|_,_,.nil=>rfl|_,_,.code C c its frs hC hs=>(Ze1 hs:rfAt (frs++bot)=rfAt bot)|_,_,.lp C c its frs hC hs=>(Ze1 hs:rfAt (frs++bot)=rfAt bot)|_,_,.steps ops is ss its frs hn hC hs=>(Ze1 hs:rfAt (frs++bot)=rfAt bot)|_,_,.brd its frs hs=>(Ze1 hs:rfAt (frs++bot)=rfAt bot)|_,_,.scp C its frs hs=>(Ze1 hs:rfAt (frs++bot)=rfAt bot)|_,_,.blk i its frs hs=>(Ze1 hs:rfAt (frs++bot)=rfAt bot)
variable {b b1:Frame}{k k1:List Item}{cs cs1:List Frame}{L:Option (Nat×Loop)}{lt:List (List Value)}{ms:List Nat}
theorem Yvd{bot:List Fr}(h:Und P b k cs L bot lt ms b1 k1 cs1) :
    ∀{pos:Nat} {ps:List Nat} {ac bc:ACode},rfAt bot=some (pos,ps,ac,bc) -> ∃l rec p,L=some (l,rec)/\lt[pos]? = some [.int .u64 p]/\Ztq rec.pending=some p/\lt[pos+1]? = some rec.tmps.toList/\rec.params.toList=ps/\comp P rec.assign=some ac/\comp P rec.body=some bc /\
     ∀s j p',Ztq j=some p' -> Und P b k cs (some (l,{ rec with state:=s,pending:=j })) bot (lt.set pos [.int .u64 p']) ms b1 k1 cs1:=by
  induction h with|base hb=>intro pos ps ac bc hr;cases hr|fn L bot lt ms b2 k2 cs2 hu f fnr res hf hres ops i is ss its frs a mt hn' hss hC hD ih=>intro pos ps ac bc hr;have hr:(rfAt (frs++bot)).map (λx=>(x.1+1,x.2))=some (pos,ps,ac,bc):=hr;rw[Ze1 hC,J0f]at hr;obtain⟨⟨pos',ps',ac',bc'⟩,h1,h2⟩:=hr;simp only[J0i]at h2;obtain⟨rfl,rfl,rfl,rfl⟩:=h2;obtain⟨l,rec,p,rfl,g1,g2,g3,g4,g5,g6,g7⟩:=ih h1;refine⟨l,rec,p,rfl,by grind,g2,by grind,g4,g5,g6,λs j p' hj=>?_⟩;rw[List.set_cons_succ];exact Und.fn _ bot _ ms b2 k2 cs2 (g7 s j p' hj) f fnr res hf hres ops i is ss its frs a mt hn' hss hC hD|rf bot lt ms b2 k2 cs2 hu hb2 f fnr hf hres l rec its frs a mt ac0 bc0 hC hD hfn htm hac hbc p hp ih=>intro pos ps ac bc hr;have hr:some (0,rec.params.toList,ac0,bc0)=some (pos,ps,ac,bc):=hr;simp only[J0b,J0i]at hr;obtain⟨rfl,rfl,rfl,rfl⟩:=hr;refine⟨l,rec,p,rfl,rfl,hp,by grind,rfl,hac,hbc,λs j p' hj=>?_⟩;exact Und.rf bot lt ms b2 k2 cs2 hu hb2 f fnr hf hres l { rec with state:=s,pending:=j } its frs a mt ac0 bc0 hC hD hfn htm hac hbc p' hj|rnd=>intro pos ps ac bc hr;cases hr
variable {h:List AObj}{ι:Em}
theorem LRel.get{w:World}:∀{xs:List (List AV)} {vs:List (List Value)},LRel h ι w xs vs -> ∀{i:Nat} {x:List AV} {v:List Value},xs[i]? = some x->vs[i]? = some v->VRs h ι w x v|[],[],_,i,x,v,hx,_=>by grind|x::xs,v::vs,hr,0,y,u,hx,hv=>by simp at hx hv;subst hx;subst hv;exact hr.1|x::xs,v::vs,hr,i+1,y,u,hx,hv=>LRel.get hr.2 (by simpa using hx) (by grind)|[],_::_,hr,_,_,_,_,_=>hr.elim|_::_,[],hr,_,_,_,_,_=>hr.elim
theorem LRel.set{w:World}{y:List AV}{u:List Value}(hy:VRs h ι w y u):∀{xs:List (List AV)} {vs:List (List Value)},LRel h ι w xs vs -> ∀(i:Nat),LRel h ι w (xs.set i y) (vs.set i u)|[],[],_,i=>trivial|x::xs,v::vs,hr,0=>⟨hy,hr.2⟩|x::xs,v::vs,hr,i+1=>⟨hr.1,LRel.set hy hr.2 i⟩|[],_::_,hr,_=>hr.elim|_::_,[],hr,_=>hr.elim
def Zj0(s:List AV):List (Nat×AV)->List AV|[]=>s|(t,v)::rest=>Zj0 (s.set t v) rest
theorem Z2t{h:List AObj}{ι:Em}{w:World}:∀{ps:List Nat} {xs:List AV} {vs:List Value} {s:List AV} {tm:Array Value},vs.length=xs.length->(∀(i:Nat) (x:AV) (v:Value),xs[i]? = some x->vs[i]? = some v->VR h ι w x v)->VRs h ι w s tm.toList ->
    VRs h ι w (Zj0 s (ps.zip xs)) ((ps.zip vs).foldl (λtmps x=>tmps.setIfInBounds x.1 x.2) tm).toList
  |[],xs,vs,s,tm,hl,hr,hs=>by simpa[Zj0]using hs|p::ps,[],[],s,tm,hl,hr,hs=>by simpa[Zj0]using hs|p::ps,x::xs,v::vs,s,tm,hl,hr,hs=>by
   simp only[List.zip_cons_cons,Zj0,List.foldl_cons];refine Z2t (by grind) (λi y u hy hu=>hr (i+1) y u (by grind) (by grind)) ⟨by simpa using hs.1,λi y u hy hu=>?_⟩;have hu:(tm.setIfInBounds p v)[i]? = some u:=by grind
   by_cases e:p=i;subst e;have hlt:p<s.length:=by grind
   rw[List.getElem?_set_self hlt]at hy;have hlt2:p<tm.size:=by grind
   rw[Array.getElem?_setIfInBounds_self_of_lt hlt2]at hu;obtain rfl:=J0a hy;obtain rfl:=J0a hu;exact hr 0 _ _ rfl rfl;rw[List.getElem?_set_ne e]at hy;rw[Array.getElem?_setIfInBounds_ne e]at hu;exact hs.2 i y u hy (by grind)
  |p::ps,[],v::vs,s,tm,hl,hr,hs=>by grind|p::ps,x::xs,[],s,tm,hl,hr,hs=>by grind
variable {j:Option Code}
theorem Yiy(h:Ztq j=some 0):j=none:=by unfold Ztq at h;grind
variable {p:Int}
theorem Z8i{w:World}{n: Int}(hr:VRs h ι w [.p (.int .u64 n)] [.int .u64 p]):p=n:=by
 have:=hr.2 0 _ _ rfl rfl;cases this with|p _ _ hp=>cases hp;rfl
theorem Zcf{bot:List Fr}:∀{its:List Item} {top:List Fr},CompF P its top->Zw (top++bot)=Zw bot|_,_,.nil=>rfl|_,_,.code C c its frs hC hs=>(Zcf hs:Zw (frs++bot)=Zw bot)|_,_,.lp C c its frs hC hs=>(Zcf hs:Zw (frs++bot)=Zw bot)|_,_,.steps ops is ss its frs hn hC hs=>(Zcf hs:Zw (frs++bot)=Zw bot)|_,_,.brd its frs hs=>(Zcf hs:Zw (frs++bot)=Zw bot)|_,_,.scp C its frs hs=>(Zcf hs:Zw (frs++bot)=Zw bot)|_,_,.blk i its frs hs=>(Zcf hs:Zw (frs++bot)=Zw bot)
theorem KAW.yield{s:AStep}{rest:List AStep}{x:AOpd}{args:List AOpd}{pos:Nat}{ps:List Nat}{ac bc:ACode}{lslots:List AV}(hw:Zk st.slots s.guard=some true)(ho:s.op = .callv x args)(hxe:x.eval st.slots = .yl)
    (hnr:Zw frs=false) (hrf:rfAt frs=some (pos,ps,ac,bc)) (hp0:lows[pos]? = some [.p (.int .u64 0)]) (hls:lows[pos+1]? = some lslots) (hlen:args.length=ps.length)
    (h:KAW P (.code ac :: .brd :: .code bc :: .rnd s.dst (pos+1) :: .steps rest::frs) Q ⟨Zj0 lslots (ps.zip (args.map (AOpd.eval st.slots))),st.heap⟩ (st.slots::lows)):KAW P (.steps (s::rest)::frs) Q st lows:=by
  intro b k cs L top bot lt ms b1 k1 cs1 its he hc hu B w0 ι a w mt hs hl hd hm hL;obtain⟨top',rfl,rfl⟩:=Qe hu rfl he;cases hc with
  |steps ops is ss its frs hn hix hs' =>
   cases is with
   |nil=>simp[Qd]at hix|cons i is =>
    simp only[Qd]at hix;split at hix;rename_i o hio;split at hix;rename_i s' r h1 h2;simp only[J0b,List.cons.injEq]at hix;obtain⟨rfl,rfl⟩:=hix;obtain⟨g1,g2,g3⟩:=Qn h1 hs.len hs.slot hw;rw[Ze1 hs']at hrf;obtain⟨l,rec,p,rfl,u1,u2,u3,u4,u5,u6,u7⟩:=Yvd hu hrf;have hp:p=0:=Z8i (hl.get hp0 u1);subst hp;have hpn:=Yiy u2;obtain⟨l1,l2,l3,l4⟩:=hL;rw[ho]at g3;obtain⟨g,cargs,ts,hop,hg,hxs⟩:=Zaz (Zex g3);obtain⟨hl2,hrel⟩:=Zay (a:=a) hs.slot hs.len hxs;have hgv:=Zf (a:=a) hs.slot hs.len hg;rw[hxe]at hgv;have hev:a.eval g = .func (.yield l) #[] #[]:=by generalize a.eval g=gv at hgv;cases hgv;rw[l1]
    have hcl:cargs.size=rec.params.size:=by grind
    have hy:=Yb5 (P:=P) (args:=cargs.map a.eval) l3 (by grind);have hx:(execOp a.eval o).run P w = .ok (.round l rec.fn ((rec.params.zip (cargs.map a.eval)).foldl (λtmps (t,a)=>tmps.setIfInBounds t a) rec.tmps) rec.assign rec.body) w:=by grind[execOp,resolve,Deferred.ofValue,invoke]
    have henter:=Z8d (P:=P) (b:=b1) (a:=a) (k:=its++k1) (cs:=cs1) (w:=w) (rest:=is) hn hio g1 hx;obtain⟨tmps,htm⟩:∃t,t=(rec.params.zip (cargs.map a.eval)).foldl (λtmps (t,a)=>tmps.setIfInBounds t a) rec.tmps:=⟨_,rfl⟩;rw[<- htm]at henter;have hfe:Frame.round l rec.fn tmps rec.assign rec.body .normal=(Y0 rec.fn (some l)).atR { tmps:=tmps,defers:=[] } [.code rec.assign,.beginRound,.code rec.body]:=by grind[Frame.round,Frame.atR,Y0]
    rw[hfe]at henter;have htl:VRs st.heap ι w (Zj0 lslots (ps.zip (args.map (AOpd.eval st.slots)))) tmps.toList:=by
     have e:tmps=(ps.zip (cargs.toList.map a.eval)).foldl (λtmps x=>tmps.setIfInBounds x.1 x.2) rec.tmps:=by rw[htm,<- u4,<- Array.foldl_toList];simp
     rw[e];exact Z2t hl2 hrel (hl.get hls u3)
    have hdst:s'.dst=(ops[i]?).bind (·.dst):=by grind
    have hund:=Und.rnd bot lt ms b1 k1 cs1 l rec pos u7 ops i is r its top' a mt hn h2 hs' hd;rw[<- hdst]at hund;have hq:=Quiet.refl B w;have hSR:SR B w0 ⟨Zj0 lslots (ps.zip (args.map (AOpd.eval st.slots))),st.heap⟩ (ι.setD []) { tmps:=tmps,defers:=[] } w:=⟨hs.heap.reD [],by have:=htl.1;grind,λi x v h1 h2=>(htl.2 i x v h1 (by grind)).reD [],rfl⟩;have hLR:LRel st.heap (ι.setD []) w (st.slots::lows) (a.tmps.toList::lt):=⟨⟨by simpa using hs.len,λi x v h1 h2=>(hs.slot i x v h1 (by grind)).reD []⟩,hq.lrel (ι:=ι) (ι' := ι.setD []) rfl rfl hl (.inl rfl)⟩;have hLK:LoopOK B w (ι.setD []) (.code ac :: .brd :: .code bc :: .rnd s'.dst (pos+1) :: .steps r::(top' ++ bot)) (some (l,rec)):=by refine⟨l1,l2,l3,?_⟩;rw[l4,hpn];unfold Zbp;rw[show Zw (.steps (s' :: r)::(top' ++ bot))=Zw (top' ++ bot) from rfl,hnr];rfl
    obtain⟨e,a',w',q,rr⟩:=h b k cs (some (l,rec)) [.code ac,.brd,.code bc] (.rnd s'.dst (pos+1) :: .steps r::(top' ++ bot)) (a.tmps.toList::lt) (mt++ms) (Y0 rec.fn (some l)) [] _ [.code rec.assign,.beginRound,.code rec.body] rfl (.code _ _ _ _ u5 (.brd _ _ (.code _ _ _ _ u6 .nil))) hund
     B w0 (ι.setD []) _ w [] hSR hLR rfl (by grind) hLK
    exact⟨e,a',w',q,.of_steps (.one (by grind)) rr⟩;grind;grind
theorem KAW.brd{dst:Option Nat}{pos:Nat}{frs0:List Fr}(hb:botF frs = .rnd dst pos::frs0)(hnb:Zhu frs=false)(h:KAW P frs Q st lows):KAW P (.brd::frs) Q st lows:=by
 intro b k cs L top bot lt ms b1 k1 cs1 its he hc hu B w0 ι a w mt hs hl hd hm hL;obtain⟨top',rfl,rfl⟩:=Qe hu rfl he;cases hc with
 |brd its frs hs' =>
  have e2:bot = .rnd dst pos::frs0:=(Zcx (Zqo hu) hs').symm.trans hb;subst e2;have hr2:Zw (top' ++ .rnd dst pos::frs0)=true:=Zcf hs';cases hu with
  |rnd bot lt ms b2 k2 cs2 l rec pos hu ops i is ss its2 frs2 a2 mt2 hn hss hC hD =>
   obtain⟨l1,l2,l3,l4⟩:=hL;have hst:rec.state = .ready:=by rw[l4];unfold Zbp;rw[show Zw (.brd::(top' ++ .rnd _ (pos+1) :: .steps ss::(frs2++bot)))=true from hr2];rfl
   have s1:=stepR_beginRound (P:=P) (b:=Y0 rec.fn (some l)) (a:=a) (k:=its++[]) (cs:=b2.atR a2 (.inRegion ops (i::is)::(its2++k2))::cs2) (w:=w) rfl (Yb6 l3 hst);have hlt:l<w.heap.size:=(Array.getElem?_eq_some_iff.1 l3).1;have hq:Quiet B w (putO w l (.loop { rec with state:=.busy })):=Zfo l2 l3 (λ_ _ _=>by grind);obtain⟨e,a',w',q,rr⟩:=h b k cs (some (l,{ rec with state:=.busy })) top' (.rnd ((ops[i]?).bind (·.dst)) (pos+1) :: .steps ss::(frs2++bot)) _ _ _ _ _ its rfl hs' (Und.rnd bot lt ms b2 k2 cs2 l { rec with state:=.busy } pos hu ops i is ss its2 frs2 a2 mt2 hn hss hC hD)
    B w0 ι a (putO w l (.loop { rec with state:=.busy })) mt (hq.sr rfl rfl hs (.inl rfl) rfl hs.defers) (hq.lrel rfl rfl hl (.inl rfl)) hd
    ⟨hm.1,λr hr=>⟨(hm.2 r hr).1,by
     rw[Zce (λe=>?_)];exact(hm.2 r hr).2;subst e;have:=(hm.2 r hr).2;grind⟩⟩
    ⟨l1,l2,Z2r hlt,by grind[Zbp]⟩
   exact⟨e,a',w',q,.of_steps (.one (by grind)) rr⟩
variable {dst:Option Nat}{frs0:List Fr}{low:List AV}
theorem Z4y(hj:Ztq j=some p){pos:Nat}(hnr:Zw frs0=false)
    (h:KAW P frs0 Q ⟨setD low dst (.p (.bool j.isNone)),st.heap⟩ (lows.set pos [.p (.int .u64 p)]))
    (hu:Und P b k cs L (.rnd dst (pos+1)::frs0) lt ms b1 k1 cs1)
    {B:Nat} {w0 w:World} {a:Act} {mt:List Nat} {frs:List Fr} (hs:SR B w0 st ι a w) (hl:LRel st.heap ι w (low::lows) lt) (hm:Marks B w (mt++ms)) (hL:LoopOK B w ι frs L) :
    k1=[]/\b1.kind = .normal /\ ∃l c cs2 v w2,cs1=c::cs2/\b1.roundOf=some l/\(Instr.endRound l j).run P w = .ok v w2 /\ ∃e a' w',Z8e B w0 ι.O Q e a' w' /\ Arrives P (lone (c.finish v) cs2 w2) b k cs e a' w' := by
  generalize hbot:Fr.rnd dst (pos+1)::frs0=bot0 at hu;cases hu with
  |base=>grind|fn=>grind|rf=>grind|rnd bot lt' ms' b2 k2 cs2 l rec pos' hu ops i is ss its2 frs2 a2 mt2 hn hss hC hD =>
   simp only[List.cons.injEq,Fr.rnd.injEq,Nat.add_right_cancel_iff]at hbot;obtain⟨⟨rfl,rfl⟩,rfl⟩:=hbot;obtain⟨l1,l2,l3,l4⟩:=hL;obtain⟨hl1,hl2⟩:=hl;have hlt:l<w.heap.size:=(Array.getElem?_eq_some_iff.1 l3).1;obtain⟨w2,hw2⟩:∃w2,w2=putO w l (.loop { rec with state:=if j.isNone then .ready else .done,pending:=j }):=⟨_,rfl⟩;have hq:Quiet B w w2:=by grind[Zfo]
   refine⟨rfl,rfl,l,_,_,.bool j.isNone,w2,rfl,rfl,by grind[Zz6],?_⟩;rw[Frame.finish_atR];have hr1:=hq.vrs (ι:=ι) (ι' := ι.setD a2.defers) rfl rfl hl1 (.inl rfl);obtain⟨p1,p2⟩:=Zbe (slots:=low) (a:=a2) (h:=st.heap) (ι:=ι.setD a2.defers) (w:=w2) (by have:=hl1.1;grind) (λi x v h1 h2=>hr1.2 i x v h1 (by grind)) ((ops[i]?).bind (·.dst)) (y:=.p (.bool j.isNone)) (cv:=.bool j.isNone) (.p _ _ (.bool _));have hlr2:=hq.lrel (ι:=ι) (ι' := ι.setD a2.defers) rfl rfl hl2 (.inl rfl);exact h b k cs (some (l,{ rec with state:=if j.isNone then .ready else .done,pending:=j })) (.steps ss::frs2) bot (lt'.set pos [.int .u64 p]) ms' b2 k2 cs2 (.inRegion ops is::its2) (by simp) (.steps _ _ _ _ _ hn hss hC) (hu _ _ _ hj) B w0 (ι.setD a2.defers) (a2.put ((ops[i]?).bind (·.dst)) (.bool j.isNone)) w2 mt2
    ⟨hq.hrel (ι:=ι) (ι' := ι.setD a2.defers) rfl rfl hs.heap (.inl rfl),p1,p2,put_defers _ _ _⟩ (LRel.set ⟨rfl,λi x v hx hv=>by
     cases i with
     |zero =>
      have hx:AV.p (.int .u64 p)=x:=by grind
      have hv:Value.int .u64 p=v:=by grind
      subst hx;subst hv;exact .p _ _ (.int _ _)
     |succ i=>grind⟩ hlr2 pos) ((put_defers _ _ _).trans hD)
    ⟨(List.nodup_append.1 hm.1).2.1,λr hr=>⟨(hm.2 r (by grind)).1,by have h9:=(hm.2 r (by grind)).2;grind[Zce]⟩⟩
    ⟨l1,l2,by grind[Z2r],by grind[Zbp]⟩
theorem KAW.rndN{pos:Nat}(hnr:Zw frs0=false)(h:KAW P frs0 Q ⟨setD low dst (.p (.bool true)),st.heap⟩ (lows.set pos [.p (.int .u64 0)])):KAW P (.rnd dst (pos+1)::frs0) Q st (low::lows):=by intro b k cs L top bot lt ms b1 k1 cs1 its he hc hu B w0 ι a w mt hs hl hd hm hL;obtain⟨rfl,rfl,rfl⟩:=Z2s hc rfl he;obtain⟨rfl,hk,l,c,cs2,v,w2,rfl,hro,hrun,e,a',w',q,r⟩:=Z4y (j:=none) rfl hnr h hu hs hl hm hL;exact⟨e,a',w',q,.of_steps (.one (stepR_round_end hro hk hrun)) r⟩
theorem KAW.rndR{pos:Nat}(hb:botF frs = .rnd dst (pos+1)::frs0)(hnr:Zw frs0=false)(h:KAW P frs0 Q ⟨setD low dst (.p (.bool false)),st.heap⟩ (lows.set pos [.p (.int .u64 1)])):KAW P (.code .ret::frs) Q st (low::lows):=by
 intro b k cs L top bot lt ms b1 k1 cs1 its he hc hu B w0 ι a w mt hs hl hd hm hL;obtain⟨top',rfl,rfl⟩:=Qe hu rfl he;cases hc with|code C c its frs hC hs' => have hsh:=Zp hC;dsimp only at hsh;subst hsh;have e2:bot = .rnd dst (pos+1)::frs0:=(Zcx (Zqo hu) hs').symm.trans hb;subst e2;obtain⟨rfl,hk,l,c,cs2,v,w2,rfl,hro,hrun,e,a',w',q,r⟩:=Z4y (j:=some .ret) rfl hnr h hu hs hl hm hL;refine⟨e,a',w',q,.of_steps (.one ?_) r⟩;grind[stepR_round_ret]
theorem Zfy{bot:List Fr}{id:Nat}:∀{its:List Item} {top:List Fr},CompF P its top->Xc (top++bot)=true->Qi id (top++bot)=none->exitTo id its=none
 |_,_,.nil,_,_=>rfl|_,_,.code C c its frs hC hs,hb,h=>by simpa[exitTo]using Zfy hs (show Xc (frs++bot)=true from hb) (show Qi id (frs++bot)=none from h)|_,_,.lp C c its frs hC hs,hb,h=>by simpa[exitTo]using Zfy hs (show Xc (frs++bot)=true from hb) (show Qi id (frs++bot)=none from h)|_,_,.steps ops is ss its frs hn hC hs,hb,h=>by simpa[exitTo]using Zfy hs (show Xc (frs++bot)=true from hb) (show Qi id (frs++bot)=none from h)|_,_,.brd its frs hs,hb,h=>by cases(show false=true from hb)|_,_,.scp C its frs hs,hb,h=>by simpa[exitTo]using Zfy hs (show Xc (frs++bot)=true from hb) (show Qi id (frs++bot)=none from h)|_,_,.blk i its frs hs,hb,h=>by
  have h0:(if i=id then some (frs++bot)else Qi id (frs++bot))=none:=h;split at h0;cases h0;rename_i e;show(if (i==id)=true then _ else _)=_;rw[if_neg (by grind)];exact Zfy hs hb h0
theorem KAW.rndX{id:Nat}{pos:Nat}(hx:Qi id frs=none)(hnb:Xc frs=true)(hb:botF frs = .rnd dst (pos+1)::frs0)(hnr:Zw frs0=false)
    (h:KAW P frs0 Q ⟨setD low dst (.p (.bool false)),st.heap⟩ (lows.set pos [.p (.int .u64 ((id:Int)+2))])):KAW P (.code (.exit id)::frs) Q st (low::lows):=by
  intro b k cs L top bot lt ms b1 k1 cs1 its he hc hu B w0 ι a w mt hs hl hd hm hL;obtain⟨top',rfl,rfl⟩:=Qe hu rfl he;cases hc with|code C c its frs hC hs' => have hsh:=Zp hC;dsimp only at hsh;subst hsh;have e2:bot = .rnd dst (pos+1)::frs0:=(Zcx (Zqo hu) hs').symm.trans hb;subst e2;obtain⟨rfl,hk,l,c,cs2,v,w2,rfl,hro,hrun,e,a',w',q,r⟩:=Z4y (j:=some (.exit id)) rfl hnr h hu hs hl hm hL;refine⟨e,a',w',q,.of_steps (.one ?_) r⟩;grind[Zfy,stepR_round_exit]
theorem KRet.rf{ps:List Nat}{ac bc:ACode}{frs0:List Fr}{p:Int}{low:List AV}
    (h0:p=0->KAW P frs0 Q ⟨low,st.heap⟩ lows) (h1:p=1->KAW P (.code .ret::frs0) Q ⟨low,st.heap⟩ lows) (h2:∀id:Nat,p=(id:Int)+2->KAW P (.code (.exit id)::frs0) Q ⟨low,st.heap⟩ lows) (hnr:Zw frs0=false) :
    KRet P (.rf ps ac bc::frs0) Q st ([.p (.int .u64 p)]::low::lows):=by
  intro b k cs L lt ms b1 k1 cs1 hu B w0 ι a w mt hs hl hd hm hL;cases hu with
  |rf bot lt' ms' b2 k2 cs2 hu hb2 f fnr hf hres l rec its frs a2 mt2 _ _ hC hD hfn htm hac hbc p' hp =>
   refine⟨rfl,rfl,λtodo=>?_⟩;obtain⟨hl0,hl1,hl2⟩:=hl;have hpp:p' = p:=Z8i hl0;subst hpp;obtain⟨w1,v,s1,hq1,hsame,hv⟩:=Ztr hf hres hs (xs:=[]) rfl hd hm.left todo (b2.atR a2 (.inRangeFunc l::(its++k2))) cs2;rw[Z4x]at s1;have hm1:=hm.right hsame;obtain⟨l1,l2,l3,l4⟩:=hL.same (ι' := ι) rfl hm hsame;have hnb:rec.state ≠ .busy:=by grind[Zbp,Zw]
   have s2:=Zz7 (P:=P) (b:=b2) (a:=a2) (k:=its++k2) (cs:=cs2) (w:=w1) (Yla l3 hnb);obtain⟨w2,hw2⟩:∃w2,w2=putO w1 l (.loop { rec with state:=.exhausted }):=⟨_,rfl⟩;rw[<- hw2]at s2;have hq2:Quiet B w1 w2:=by grind[Zfo]
   have hq:=hq1.trans hq2;have hr1:=hq.vrs (ι:=ι) (ι' := ι.setD a2.defers) rfl rfl hl1 (.inl rfl);have hSR:SR B w0 ⟨low,st.heap⟩ (ι.setD a2.defers) a2 w2:=⟨hq.hrel (ι:=ι) (ι' := ι.setD a2.defers) rfl rfl hs.heap (.inl rfl),by have:=hl1.1;grind,λi x v h1 h2=>hr1.2 i x v h1 (by grind),rfl⟩;have hLR:=hq.lrel (ι:=ι) (ι' := ι.setD a2.defers) rfl rfl hl2 (.inl rfl);have hMK:Marks B w2 (mt2++ms'):=⟨hm1.1,λr hr=>⟨(hm1.2 r hr).1,by have h9:=(hm1.2 r hr).2;grind[Zce]⟩⟩;have hgo:∀frs',(∃its' tp,frs' = tp++bot/\CompF P its' tp/\(rec.pending.map Item.code).toList++(its++k2)=its' ++ k2)->KAW P frs' Q ⟨low,st.heap⟩ lows ->
       ∃e a' w',Z8e B w0 ι.O Q e a' w' /\ Arrives P (lone (b2.atR a2 ((rec.pending.map Item.code).toList++(its++k2))) cs2 w2) b k cs e a' w' := by
     rintro frs' ⟨its',tp,rfl,hc',e⟩ hk;rw[e];exact hk b k cs none tp bot lt' ms' b2 k2 cs2 its' rfl hc' hu B w0 (ι.setD a2.defers) a2 w2 mt2 hSR hLR hD hMK trivial
   have fin:∃e a' w',Z8e B w0 ι.O Q e a' w' /\ Arrives P (lone (b2.atR a2 ((rec.pending.map Item.code).toList++(its++k2))) cs2 w2) b k cs e a' w' := by unfold Ztq at hp;split at hp;rename_i hpd;rw[hpd]at hgo ⊢;exact hgo _ ⟨its,frs,rfl,hC,rfl⟩ (h0 (J0a hp).symm);rename_i hpd;rw[hpd]at hgo ⊢;exact hgo _ ⟨.code .ret::its,.code .ret::frs,rfl,.code _ _ _ _ rfl hC,rfl⟩ (h1 (J0a hp).symm);rename_i id hpd;rw[hpd]at hgo ⊢;exact hgo _ ⟨.code (.exit id)::its,.code (.exit id)::frs,rfl,.code _ _ _ _ rfl hC,rfl⟩ (h2 id (J0a hp).symm);grind
   obtain⟨e,a',w',q,r⟩:=fin;exact⟨e,a',w',q,.of_steps (Steps.trans s1 (.one s2)) r⟩
end
end Go.Abs
namespace Go.Abs
open Go.RowKit (Below)
variable [GTab] [Glob]
theorem Zwg{P:Program}{f:FuncId}{af:AFun}(hf:Z0 P f=some af){args:List PA}{rs:List RA}{own:Bool}(h:KAW P [.code af.body] (RetQ af.res own rs) ⟨start af.nt (args.map PA.av),[]⟩ []):Spec P f args rs:=by
 obtain⟨fnr,cc,hfn,hb,hcb,hcr,hnt⟩:=Zoh hf;intro O w cargs hO hglob hargs cs;obtain⟨ι,hι⟩:∃i:Em,i=⟨λ_=>.slice none 0 0,O,0,[]⟩:=⟨_,rfl⟩;have hh:HRel w.heap.size w [] ι w:=⟨.refl _ _,Nat.le_refl _,by simp_all,hglob,λt o ho=>by grind,λt t' g ht=>by grind⟩;have hOw:Own ([]:List AObj).length ι=O:=by
  funext g;refine propext ⟨?_,λh=>.inl (by simp_all)⟩;rintro(h|⟨t,ht,_⟩);simp_all;grind
 have hrel:∀(i:Nat) (x:AV) (v:Value),(args.map PA.av)[i]? = some x->cargs[i]? = some v->VR [] ι w x v:=by
  intro i x v hx hv;rw[J0m,J0f]at hx;obtain⟨p,hp,rfl⟩:=hx;have hpr:=hargs.2 i p v hp hv;rw[<- hOw]at hpr;cases hpr with|q cs ad u k1 k2 k3 k4=>exact .fptr _ ad u k1 k2 k3 k4|c y _ hy=>exact .p _ _ hy|a cs vs hl hr=>refine .agg _ _ (by grind) λj z u hz hu=>?_;rw[J0m,J0f]at hz;obtain⟨q,hq,rfl⟩:=hz;exact .p _ _ (hr j q u hq hu)
 obtain⟨g1,g2⟩:=Zg6 (nt:=fnr.ntmps) (by rw[hargs.1];simp) hrel;obtain⟨tm,htm⟩:∃t,t=cargs++Array.replicate (fnr.ntmps-cargs.size) undef:=⟨_,rfl⟩;have hSR:SR w.heap.size w ⟨start af.nt (args.map PA.av),[]⟩ ι { tmps:=tm,defers:=[] } w:=by rw[htm,<- hnt];exact⟨hh,g1,g2,by rw[hι]⟩
 obtain⟨e,a',w',⟨s',ι',mt,k1,k2,k3,k4,hee,xs,hxs,hrs⟩,harr⟩:=h (Y0 f none) [] cs none [.code af.body] [] [] [] (Y0 f none) [] cs [.code cc] rfl (.code _ _ _ _ hcb .nil) (.base rfl)
  w.heap.size w ι { tmps:=tm,defers:=[] } w [] hSR trivial rfl ⟨List.nodup_nil,λr hr=>by grind⟩ trivial
 have hent:Frame.enter P f cargs .normal=(Y0 f none).atR { tmps:=tm,defers:=[] } ([.code cc]++[]):=by grind[Zts]
 rw[hent]
 -- it leaves
 have hlv:∃todo,Steps P (lone ((Y0 f none).atR { tmps:=tm,defers:=[] } ([.code cc]++[])) cs w) (lone { (Y0 f none).atR a' todo with mode:=.returning } cs w'):=by
  rcases hee with rfl|rfl
  have harr:Steps P _ (lone ((Y0 f none).at a' []) cs w'):=harr;exact⟨[],Steps.trans harr (.one step_end)⟩;obtain⟨todo,hs⟩:=harr;exact⟨todo,hs⟩
 obtain⟨todo,hst⟩:=hlv;obtain⟨w2,s2,hq,hsame⟩:=Zlc (P:=P) (B:=w.heap.size) mt { (Y0 f none).atR a' todo with mode:=.returning } cs w' rfl k3 k4;have hs2:SR w.heap.size w s' (ι'.setD []) { a' with defers:=[] } w2:=hq.sr (ι:=ι') (ι' := ι'.setD []) rfl rfl k1 (.inl rfl) rfl rfl;obtain⟨vs,m1,m2,m3⟩:=Zey hs2 hcr hxs;obtain⟨κ,q1,q2,q3⟩:=Z37 hs2.heap hrs m2 m3;refine⟨.returned (retC vs),w2,_,⟨retC vs,κ,rfl,?_,q2,q3⟩,Steps.trans hst s2,rfl,rfl,rfl,rfl,fnr,hfn,Zo7 m1⟩;rw[q1];show ι'.O=O;grind
end Go.Abs
