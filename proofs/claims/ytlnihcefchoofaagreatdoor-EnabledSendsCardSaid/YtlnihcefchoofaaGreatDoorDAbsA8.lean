import Derived.Test.YtlnihcefchoofaaGreatDoorDAbsA7
set_option linter.all false
namespace Go.Abs
open Go.RowKit (Below)
variable [GTab] [Glob]
theorem Z2b{ops:Array Oper}{b:List Nat}(h:Zvq ops b=true){i:Nat}{o:Oper}(hi:ops[i]? = some o) :
    (∀e∈o.after,Region.binds .any e=true->e.on<i) /\ ∀j,j<ops.size->(b.getD i 0).testBit j=true -> ∃e∈o.after,Region.binds .any e=true/\(e.on=j∨(b.getD e.on 0).testBit j=true):=by
  have hlt:=(Array.getElem?_eq_some_iff.1 hi).1;have h1:=List.all_eq_true.1 h i (List.mem_range.2 hlt);simp only[hi,J0e]at h1;obtain⟨h2,h3⟩:=h1;refine⟨λe he hb=>?_,λj hj hbit=>?_⟩;have:=Array.all_eq_true_iff_forall_mem.1 h2 e he;grind;grind
section
variable {P:Program} {B:Nat} {w0:World} {ops:Array Oper} {pre:List Nat}
def Closed(ops:Array Oper)(D:Nat->Bool):Prop:=∀(i:Nat) (o:Oper),ops[i]? = some o->D i=true -> ∀e∈o.after,Region.binds .any e=true->D e.on=true
variable {D:Nat->Bool}
theorem Zo9(hp:Zvq ops pre=true)(hc:Closed ops D):∀(i:Nat) (o:Oper),ops[i]? = some o->(∀e∈o.after,Region.binds .any e=true->D e.on=true) -> ∀j,j<ops.size->(pre.getD i 0).testBit j=true->D j=true/\j<i:=by
 intro i
 induction i using Nat.strongRecOn with
 |_ i ih =>
  intro o hi he j hj hb;obtain⟨h1,h2⟩:=Z2b hp hi;obtain⟨e,hem,hbe,hor⟩:=h2 j hj hb;have hlt:=h1 e hem hbe;rcases hor with rfl|hor
  grind;have hil:=(Array.getElem?_eq_some_iff.1 hi).1;have hon:ops[e.on]? = some ops[e.on]:=Array.getElem?_eq_getElem (by omega);obtain⟨g1,g2⟩:=ih e.on hlt _ hon (hc e.on _ hon (he e hem hbe)) j hj hor;grind
theorem Yrb(hp:Zvq ops pre=true)(hc:Closed ops D){i k:Nat}{o:Oper}(hi:ops[i]? = some o)(he:∀e∈o.after,Region.binds .any e=true->D e.on=true)(hD:D i=false)(hk:k<ops.size)(ho:ordP pre i k=true):D k=decide (k<i)/\(D k=true->k<i):=by
 have hil:=(Array.getElem?_eq_some_iff.1 hi).1;simp only[ordP,Bool.or_eq_true]at ho;rcases ho with ho|ho
 grind[Zo9];have hko:ops[k]? = some ops[k]:=Array.getElem?_eq_getElem hk;have hik:i<k:=by have all:∀e∈ops[k].after,Region.binds .any e=true->(λ_=>true) e.on=true:=λ_ _ _=>rfl;exact(Zo9 hp (D:=λ_=>true) (λ_ _ _ _ _ _ _=>rfl) k _ hko all i hil ho).2
 have hDk:D k=false:=by
  cases hd:D k with|false=>rfl|true=>have:=(Zo9 hp hc k _ hko (hc k _ hko hd) i hil ho).1;grind
 grind
theorem Zoa:∀{l:List Oper} {ss:List AStep},Zl P ops l=some ss -> ∀{i:Nat} {s:AStep},ss[i]? = some s -> ∃o,l[i]? = some o/\Zh6 P ops o=some s
 |[],ss,h,i,s,hs=>by grind[Zl]|o::l,ss,h,i,s,hs=>by
  simp only[Zl]at h;split at h;rename_i s' r hs' hr;obtain rfl:=J0a h;cases i with|zero=>grind|succ i=>exact Zoa hr (by grind)
  grind
theorem Zob:∀{l:List Oper} {ss:List AStep},Zl P ops l=some ss->ss.length=l.length
 |[],ss,h=>by grind[Zl]|o::l,ss,h=>by
  simp only[Zl]at h;split at h;rename_i s' r hs' hr;obtain rfl:=J0a h;simp[Zob hr];grind
variable {ss:List AStep}{L:List (AStep×Ev)}{st':St}{Q:Exit->Act->World->Prop}
theorem Ykj(hp:Zvq ops pre=true)(hcs:Zl P ops ops.toList=some ss)(hL:L.map (·.1)=ss)(hord:Zte pre L=true){st0: St}(htr:Zf9 P L st0 st')
    {ι0:Em} {wI:World} (hQ:∀ι' a' w',SR B w0 st' ι' a' w' -> EX st0.heap ι0 wI st'.heap ι' w' -> Q .normal a' w') :
    ∀(fuel:Nat) (listed:Array Bool) (a:Act) (w:World) (ι:Em),listed.size=ops.size->Closed ops (λi=>listed.getD i false)->listed.toList.count false<=fuel->SR B w0 (Xa (λi=>listed.getD i false) 0 L st0) ι a w ->
     EX st0.heap ι0 wI (Xa (λi=>listed.getD i false) 0 L st0).heap ι w->wpAny P .any ops Q fuel listed a w:=by
  have hlenL:L.length=ops.size:=by have:=Zob hcs;grind
  obtain⟨hwt,hpair⟩:=Yim hord;have done:∀(listed:Array Bool) (a:Act) (w:World) (ι:Em),listed.size=ops.size->Closed ops (λi=>listed.getD i false)->Region.ready .any ops listed=[]->SR B w0 (Xa (λi=>listed.getD i false) 0 L st0) ι a w ->
      EX st0.heap ι0 wI (Xa (λi=>listed.getD i false) 0 L st0).heap ι w->Q .normal a w:=by
    intro listed a w ι hsz hc hr hs hx;have all:∀i,i<ops.size->listed.getD i false=true:=by
     intro i
     induction i using Nat.strongRecOn with
     |_ i ih =>
      intro hi;cases hd:listed.getD i false with
      |true=>rfl|false =>
       exfalso;have hio:ops[i]? = some ops[i]:=Array.getElem?_eq_getElem hi;have:i∈Region.ready .any ops listed:=by grind[mem_ready,Z2b]
       grind
    grind[Z18]
  intro fuel
  induction fuel with
  |zero =>
   intro listed a w ι hsz hc hcount hs hx;have hr:Region.ready .any ops listed=[]:=by
    refine List.eq_nil_iff_forall_not_mem.2 λi hi=>?_;rw[mem_ready]at hi;have h0:listed.toList.count false=0:=by omega
    rw[List.count_eq_zero]at h0;refine h0 ?_;have h1:=hi.1;simp only[Array.getD_eq_getD_getElem?]at h1;grind
   exact⟨hr,done listed a w ι hsz hc hr hs hx⟩
  |succ fuel ih =>
   intro listed a w ι hsz hc hcount hs hx;refine⟨λhr=>done listed a w ι hsz hc hr hs hx,λi hi=>?_⟩;rw[mem_ready]at hi;obtain⟨h0,o,hio,hall⟩:=hi;have hil:=(Array.getElem?_eq_some_iff.1 hio).1;have hDi:listed.getD i false=false:=by grind
   obtain⟨p,hpL⟩:∃p,L[i]? = some p:=⟨L[i],J0c (by omega)⟩;have hss:ss[i]? = some p.1:=by grind
   obtain⟨o',ho',hstep⟩:=Zoa hcs hss;rw[Array.getElem?_toList,hio]at ho';obtain rfl:=J0a ho';have hst:=Z7j L 0 i st0 st' p htr hpL;rw[Nat.zero_add]at hst;have od:∀k,k<ops.size->ordP pre i k=true->listed.getD k false=decide (k<i)/\(listed.getD k false=true->k<i):=λk hk ho=>Yrb hp (D:=λi=>listed.getD i false) hc hio hall hDi hk ho;refine Z7m hst (st:=Xa (λi=>listed.getD i false) 0 L st0) ?_ ?_ (hwt i p hpL) hs hio hstep λι' a' w' hs2 hx2=>?_;grind[Zvw];grind[Zvx];have hins:Xa (λj=>(listed.setIfInBounds i true).getD j false) 0 L st0=ap (Xa (λi=>listed.getD i false) 0 L st0) p.1 p.2:=by
    refine Z2a L 0 i st0 hpL (by grind) ?_ (λj hj=>?_) λk q hq hne hD hlt=>?_;simp_all;exact getD_set_ne false (by omega);have hk:=(J0d.1 hq).1;rw[Nat.zero_add]at hD;have hpk:=hpair i k p q hpL hq (Ne.symm hne);refine⟨λd hd e=>?_,λx hx y hy e=>?_⟩;grind;grind
   refine ih _ a' w' ι' (by grind) ?_ ?_ (by grind) (by rw[hins];exact hx.trans hx2);intro j oj hoj hDj e he hb;by_cases hji:i=j;grind[getD_set_true];have hDj' : listed.getD j false=true:=by rw[<- getD_set_ne (i:=i) false hji];exact hDj
   exact getD_set_true (hc j oj hoj hDj' e he hb);have hget:listed.toList[i]? = some false:=by rw[Array.getElem?_toList];simp_all
   grind
variable {st:St}{m:Nat}{ι:Em}{a:Act}
theorem Zvy(hp:Zvq ops pre=true)(hcs:Zl P ops ops.toList=some ss)(hL:L.map (·.1)=ss)(hord:Zte pre L=true)(htr:Zf9 P L ⟨st.slots,st.heap++List.replicate m Xh⟩ st')
    (hm:P.follows .mixedOrders=true) {w:World} (hs:SR B w0 st ι a w) (hQ:∀ι' a' w',SR B w0 st' ι' a' w' -> EX st.heap ι w st'.heap ι' w' -> Q .normal a' w') :
    wpAny P .any ops Q ops.size (Array.replicate ops.size false) a w.drew:=by
  obtain⟨hh,hx⟩:=hs.heap.drew;have hs1:SR B w0 st ι a w.drew:=⟨hh,hs.len,λi x v h1 h2=>hx.rel (hs.slot i x v h1 h2),hs.defers⟩;obtain⟨ι',hs2,hx2⟩:=hs1.pad m;have e:Xa (λi=>(Array.replicate ops.size false).getD i false) 0 L ⟨st.slots,st.heap++List.replicate m Xh⟩=⟨st.slots,st.heap++List.replicate m Xh⟩:=Zo8 L 0 _ λk hk=>by simp only[Array.getD_eq_getD_getElem?,Array.getElem?_replicate];grind
  refine Ykj hp hcs hL hord htr (ι0:=ι') (wI:=w.drew) (λι2 a2 w2 h1 h2=>hQ ι2 a2 w2 h1 ((hx.trans hx2).trans h2)) ops.size _ a w.drew ι' (by simp) ?_ ?_ (by grind) (by rw[e];exact .refl _ _ _ _);intro i o hio hD;simp only[Array.getD_eq_getD_getElem?,Array.getElem?_replicate]at hD;grind;simp_all
theorem Ybn(hp:Zvq ops pre=true)(hcs:Zl P ops ops.toList=some ss)(hL:L.map (·.1)=ss)(hord:Zte pre L=true)(htr:Zf9 P L ⟨st.slots,st.heap++List.replicate m Xh⟩ st')
    (hm:P.follows .mixedOrders=true) {w:World} (hs:SR B w0 st ι a w) {id:Nat} (hQ:∀ι' a' w',SR B w0 st' ι' a' w' -> EX st.heap ι w st'.heap ι' w' -> Q .normal a' w') :
    (Code.region id ops true).wp P Q a w :=
  wp_region_any hm (Zvy hp hcs hL hord htr hm hs hQ)
end
theorem AW.draw{P:Program}{n:Nat}{Q:Exit->St->Prop}{st:St}{pre:List Nat}{ss:List AStep}{L:List (AStep×Ev)}{m:Nat}{st' : St}(hL:L.map (·.1)=ss)(hord:Zte pre L=true)(htr:Zf9 P L ⟨st.slots,st.heap++List.replicate m Xh⟩ st')(hq:Q .normal st'):AW P n (.reg (some pre) ss) Q st:=λc hc B w0 ι a w hs hn=>by
 obtain⟨id,ops,d,rfl,h1⟩:=Zp hc;have h1:=(Zg5 h1).2;unfold Zf8 at h1;split at h1;cases h1;rename_i ss' hss;split at h1;rename_i hd;split at h1;rename_i hok;simp only[J0b,ACode.reg.injEq]at h1;obtain⟨h2,h3⟩:=h1;simp only[J0e]at hok;rw[h2]at hok;rw[hd];rw[h3]at hss;exact Ybn hok.2 hss hL hord htr hok.1 hs λι' a' w' g1 g2=>⟨st',ι',g1,.of hn g2,hq⟩;grind;grind
end Go.Abs
namespace Go.Abs
variable [GTab] [Glob]
inductive StepS(P:Program) (s:AStep) (tau:List Nat) (st:St):AV->List (Nat×AObj)->List AObj->Prop where
 |skip (hw:Zk st.slots s.guard=some false):StepS P s tau st .u [] st.heap|op (ao:AOp) (y:AV) (eff:Eff) (ho:s.op = .op ao) (hw:Zk st.slots s.guard=some true) (he:Zb (Za0 tau 0 st.heap) st.heap.length (AOpd.eval st.slots) ao=some (y,eff))
     (hu:∀t o,eff = .upd t o->t<st.heap.length):StepS P s tau st y (Z16 st.heap.length eff) (effH st.heap eff)
 |call (f:FuncId) (avs:List AV) (mode:Bool) (pas:List PA) (rs:List RA) (ho:Called P s.op st.slots f avs) (hw:Zk st.slots s.guard=some true)
     (hp:Yt (Za0 tau 0 st.heap) mode avs=some pas) (hs:Spec P f pas rs) (hm:mode=true∨Yr rs=true) :
     StepS P s tau st (retV (Zg st.heap.length rs)) (tagged st.heap.length (Za rs)) (st.heap++Za rs)
inductive TraceS(P:Program):List (AStep×Ev)->St->St->Prop where
 |nil (st:St):TraceS P [] st st|cons (s:AStep) (y:AV) (wr:List (Nat×AObj)) (tau:List Nat) (h1:List AObj) (r:List (AStep×Ev)) (st st' : St) (hs:StepS P s tau st y wr h1) (hr:TraceS P r ⟨setD st.slots s.dst y,h1⟩ st') :
     TraceS P ((s,⟨y,st.heap.length,wr,tau⟩)::r) st st'
variable {tau:List Nat}{h:List AObj}{t ver:Nat}{o:AObj}
theorem Zvz(hc:tau.contains t=true)(hg:Zd h t ver=some o):Zd (Za0 tau 0 h) t ver=some o:=by grind[Zd,Znp]
theorem Ybo{k: List AObj}(hg:Zd h t ver=some o):Zd (h++k) t ver=some o:=by grind[Zd]
theorem Zp4(h:List AObj)(n:Nat)(o:AObj):(h++List.replicate (n+1) Xh).set h.length o=(h++[o])++List.replicate n Xh:=by grind
theorem Zp5:∀(k h:List AObj) (n:Nat),wrH (h++List.replicate (k.length+n) Xh) (tagged h.length k)=(h++k)++List.replicate n Xh
 |[],h,n=>by simp[tagged,wrH]|o::k,h,n=>by
  rw[tagged,wrH];have e:(o::k).length+n=(k.length+n)+1:=by grind
  rw[e,Zp4];have:=Zp5 k (h++[o]) n;grind
variable {P:Program}{st:St}
theorem StepS.len{s:AStep}{y:AV}{wr:List (Nat×AObj)}{h1:List AObj}(h:StepS P s tau st y wr h1):st.heap.length<=h1.length:=by
 cases h with|skip=>grind|op ao y eff=>cases eff<;>simp[effH]|call=>simp
variable {L:List (AStep×Ev)}{st':St}
theorem TraceS.len(h:TraceS P L st st'):st.heap.length<=st'.heap.length:=by
 induction h with|nil=>grind|cons s y wr tau h1 r st st' hs hr ih=>exact Nat.le_trans hs.len ih
theorem TraceS.pad(h:TraceS P L st st'):Zf9 P L ⟨st.slots,st.heap++List.replicate (st'.heap.length-st.heap.length) Xh⟩ st' := by
 induction h with
 |nil st=>simp[Zf9]|cons s y wr tau h1 r st st' hs hr ih =>
  have hl1:=hs.len;have hl2:=hr.len;simp only at hl2;refine⟨?_,?_⟩;simp only;have hm:∀t ver o,Zd (Za0 tau 0 st.heap) t ver=some o->Zd (Za0 tau 0 (st.heap++List.replicate (st'.heap.length-st.heap.length) Xh)) t ver=some o:=λt ver o hg=>by grind[Zrt,Zvz,Ybo]
  have hdead:∀j,st.heap.length+j<h1.length->(st.heap++List.replicate (st'.heap.length-st.heap.length) Xh)[st.heap.length+j]? = some Xh:=λj hj=>by grind
  cases hs with|skip hw=>exact .skip hw rfl rfl|op ao _ eff ho hw he hu=>exact .op ao eff ho hw (Ziz hm he) rfl λo ho=>hdead 0 (by subst ho;simp[effH])|call f args mode pas rs ho hw hp hsp hmo=>exact .call f args mode pas rs ho hw (Zk0 hm hp) hsp hmo rfl rfl λj hj=>hdead j (by grind)
  have e:ap ⟨st.slots,st.heap++List.replicate (st'.heap.length-st.heap.length) Xh⟩ s ⟨y,st.heap.length,wr,tau⟩=⟨setD st.slots s.dst y,h1++List.replicate (st'.heap.length-h1.length) Xh⟩:=by
   simp only[ap,St.mk.injEq,true_and];cases hs with
   |skip hw=>rfl|op ao _ eff ho hw he hu => cases eff with|none=>rfl|grow=>rfl|new o=>simp only[effH,J0s,List.length_singleton]at hl2 ⊢;simp only[Z16,wrH];rw[show st'.heap.length-st.heap.length=(st'.heap.length-(st.heap.length+1))+1 by omega,Zp4]|upd t o=>grind[effH,Z16,wrH]
   |call f args mode pas rs ho hw hp hsp hmo=>simp only[J0s]at hl2 ⊢;rw[show st'.heap.length-st.heap.length=(Za rs).length+(st'.heap.length-(st.heap.length+(Za rs).length)) by omega,Zp5]
  grind
def AV.tag:AV->List Nat|.row t _=>[t]|.sl t _ _ _ _=>[t]|.ptr t _ _ _=>[t]|_=>[]
def touch(ρ:AOpd->AV):AOp->List Nat|.load _ x=>(ρ x).tag|.store _ a _=>(ρ a).tag|.nilchk x=>(ρ x).tag|.eqnil _ x=>(ρ x).tag|.eqp _ x=>(ρ x).tag|.slice _ x _ _ _=>(ρ x).tag|.fld _ x=>(ρ x).tag|.ixa _ x _=>(ρ x).tag|.ixarr _ _ x _=>(ρ x).tag|.len x=>(ρ x).tag|.bstr x=>(ρ x).tag|.append _ _ _ s x=>(ρ s).tag++(ρ x).tag|.copy _ d s=>(ρ d).tag++(ρ s).tag|_=>[]
end Go.Abs
namespace Go.Abs
variable [GTab] [Glob]
def arun:List AStep->St->Option (List AStep×St)
 |[],st=>some ([],st)|s::rest,st =>
  match Zk st.slots s.guard with
  |some false=>arun rest ⟨setD st.slots s.dst .u,st.heap⟩|some true =>
   match s.op with
   |.op ao => match Zb st.heap st.heap.length (AOpd.eval st.slots) ao with|some (y,eff)=>arun rest ⟨setD st.slots s.dst y,effH st.heap eff⟩|none=>none
   |_=>some (s::rest,st)
  |none=>none
theorem ASteps.run{P:Program}:∀{ss rest:List AStep} {st st1 st' : St},arun ss st=some (rest,st1)->ASteps P rest st1 st' -> ASteps P ss st st'
 |[],rest,st,st1,st',h,hr=>by simp only[arun,J0b,J0i]at h;grind|s::ss,rest,st,st1,st',h,hr=>by
  simp only[arun]at h;split at h;rename_i hw;exact .skip _ _ _ _ hw (ASteps.run h hr);rename_i hw;split at h;rename_i ao ho;split at h;rename_i y eff he;exact .op _ ao _ _ y eff _ ho hw he (ASteps.run h hr);grind;grind;grind
end Go.Abs
namespace Go.Abs
variable [GTab] [Glob]
inductive EX' where
 |normal|exit (id:Nat)|ret
 deriving DecidableEq
def EX'.to:EX' -> Exit|.normal=>.normal|.exit id=>.exit id|.ret=>.ret
section
variable {P:Program} {callF:FuncId->List PA->Option (List RA)} {callI:FuncId->List AV->List AObj->Option (AV×List AObj)} {cb:FuncId->Bool}
theorem Zru{t1 t2:List Nat}(hs:∀t,t1.contains t=true->t2.contains t=true){h:List AObj}:∀t ver o,Zd (Za0 t1 0 h) t ver=some o->Zd (Za0 t2 0 h) t ver=some o:=λt ver o hg=>by grind[Zrt,Zvz]
variable {n:Nat}{st:St}
theorem AW.len{ac:ACode}{Q:Exit->St->Prop}(h:AW P n ac Q st):AW P n ac (λe s=>n<=s.heap.length/\Q e s) st:=λc hc B w0 ι a w hs hn=>wp_mono (h c hc B w0 ι a w hs hn) λe a' w' ⟨st',ι',h1,h2,h3⟩=>⟨st',ι',h1,h2,h2.len,h3⟩
theorem Weak.refl(hn:n<=st.heap.length):Weak n st st:=⟨hn,λB w0 ι a w hs hl=>⟨ι,hs,.refl hl ι w⟩⟩
end
end Go.Abs
