import Derived.Test.YtlnihcefchoofaaGreatDoorDAbsRead
set_option linter.all false
namespace Go.Abs
variable [GTab] [Glob]
def Zwi:Nat->List AStep->St->Option (List AStep×St)
 |0,ss,st=>some (ss,st)|_+1,[],st=>some ([],st)|n+1,s::rest,st =>
  match Zk st.slots s.guard with
  |some false=>Zwi n rest ⟨setD st.slots s.dst .u,st.heap⟩|some true =>
   match s.op with
   |.op ao => match Zb st.heap st.heap.length (AOpd.eval st.slots) ao with|some (y,eff)=>Zwi n rest ⟨setD st.slots s.dst y,effH st.heap eff⟩|none=>none
   |_=>none
  |none=>none
theorem ASteps.runN{P:Program}:∀{n:Nat} {ss rest:List AStep} {st st1 st' : St},Zwi n ss st=some (rest,st1)->ASteps P rest st1 st' -> ASteps P ss st st'
 |0,ss,rest,st,st1,st',h,hr=>by simp only[Zwi,J0b,J0i]at h;grind|n+1,[],rest,st,st1,st',h,hr=>by simp only[Zwi,J0b,J0i]at h;grind|n+1,s::ss,rest,st,st1,st',h,hr=>by
  simp only[Zwi]at h;split at h;rename_i hw;exact .skip _ _ _ _ hw (ASteps.runN h hr);rename_i hw;split at h;rename_i ao ho;split at h;rename_i y eff he;exact .op _ ao _ _ y eff _ ho hw he (ASteps.runN h hr);grind;grind;grind
def SE(P:Program)(ss:List AStep)(st:St)(Φ:St->Prop):Prop:=∃st',ASteps P ss st st' /\ Φ st'
section
variable {P:Program} {ss rest:List AStep} {st st1:St} {Φ:St->Prop}
theorem SE.nil(h:Φ st):SE P [] st Φ:=⟨st,.nil _,h⟩
theorem SE.run(n:Nat)(h:Zwi n ss st=some (rest,st1))(hr:SE P rest st1 Φ):SE P ss st Φ:=by obtain⟨st',h1,h2⟩:=hr;exact⟨st',.runN h h1,h2⟩
theorem SE.op{s:AStep}(hss:ss=s::rest){ao:AOp}{y:AV}{eff:Eff}(ho:s.op = .op ao)(hw:Zk st.slots s.guard=some true)(he:Zb st.heap st.heap.length (AOpd.eval st.slots) ao=some (y,eff))
    (hst:(⟨setD st.slots s.dst y,effH st.heap eff⟩:St)=st1) (hr:SE P rest st1 Φ):SE P ss st Φ:=by
  subst hss;subst hst;obtain⟨st',h1,h2⟩:=hr;exact⟨st',.op _ ao _ _ y eff _ ho hw he h1,h2⟩
variable {f:FuncId}{args:List AOpd}
theorem SE.call{s:AStep}(hss:ss=s::rest)(mode:Bool){pas:List PA}{rs:List RA}(ho:s.op = .call f args)(hw:Zk st.slots s.guard=some true)
    (hp:Yt st.heap mode (args.map (AOpd.eval st.slots))=some pas) (hs:Spec P f pas rs) (hm:(mode||Yr rs)=true) (hst:(⟨setD st.slots s.dst (retV (Zg st.heap.length rs)),st.heap++Za rs⟩:St)=st1) (hr:SE P rest st1 Φ):SE P ss st Φ:=by
  subst hss;subst hst;obtain⟨st',h1,h2⟩:=hr;exact⟨st',.call _ f args mode pas rs _ _ _ ho hw hp hs (by grind) h1,h2⟩
theorem SE.inl{s:AStep}(hss:ss=s::rest){y:AV}{h' : List AObj}(ho:s.op = .call f args)(hw:Zk st.slots s.guard=some true)
    (hs:Z7e P f (args.map (AOpd.eval st.slots)) st.heap y h') (hst:(⟨setD st.slots s.dst y,h'⟩:St)=st1) (hr:SE P rest st1 Φ):SE P ss st Φ:=by
  subst hss;subst hst;obtain⟨st',h1,h2⟩:=hr;exact⟨st',.inl _ f args y h' _ _ _ ho hw hs h1,h2⟩
end
def evI(p:AStep×Ev):List Nat×List Nat:=(p.2.wr.map (·.1),p.2.tau)
def ordT(pre:List Nat)(ss:List AStep)(L:List (List Nat×List Nat)):Bool :=
 (L.all λp=>p.1.all λq=>p.2.contains q) &&
 (List.range ss.length).all λi=>(List.range ss.length).all λk=>i==k||match ss[i]?,ss[k]?,L[i]?,L[k]? with
  |some s,some s',some p,some q =>
   (match s'.dst with|some d=>!(s.dst==some d)&&(!(s.reads.contains d)||ordP pre i k)|none=>true) &&
   ((q.1.all λx=>!(p.2.contains x))||ordP pre i k)
  |_,_,_,_=>false
theorem Yrg{pre:List Nat}{ss:List AStep}{L:List (AStep×Ev)}(hL:L.map (·.1)=ss)(h:ordT pre ss (L.map evI)=true):Zte pre L=true:=by
 subst hL;simp only[ordT,J0e,List.all_eq_true,List.length_map]at h;obtain⟨h1,h2⟩:=h;simp only[Zte,J0e,List.all_eq_true];refine⟨λp hp q hq=>?_,λi hi k hk=>?_⟩;exact h1 (evI p) (List.mem_map.2 ⟨p,hp,rfl⟩) q.1 (List.mem_map.2 ⟨q,hq,rfl⟩);have h3:=h2 i hi k hk;have hi' := List.mem_range.1 hi;have hk' := List.mem_range.1 hk;simp only[J0m,J0c hi',J0c hk',Option.map_some]at h3 ⊢;grind[evI]
def DE(P:Program)(pre:List Nat)(all:List AStep)(done:List (List Nat×List Nat))(ss:List AStep)(st:St)(Φ:St->Prop):Prop:=∃L st',TraceS P L st st' /\ L.map (·.1)=ss/\ordT pre all (done++L.map evI)=true/\Φ st'
section
variable {P:Program} {pre:List Nat} {all:List AStep} {done I:List (List Nat×List Nat)} {ss rest:List AStep} {st st1:St} {Φ:St->Prop}
theorem DE.nil(ho:ordT pre all done=true)(h:Φ st):DE P pre all done [] st Φ:=⟨[],st,.nil _,rfl,by grind,h⟩
theorem DE.step{s:AStep}{y:AV}{wr:List (Nat×AObj)}{tau:List Nat}{h1:List AObj}(hs:StepS P s tau st y wr h1)(hr:DE P pre all (done++[(wr.map (·.1),tau)]) rest ⟨setD st.slots s.dst y,h1⟩ Φ):DE P pre all done (s::rest) st Φ:=by obtain⟨L,st',a,b,c,d⟩:=hr;refine⟨_,st',.cons s y wr tau h1 L st st' hs a,by grind,?_,d⟩;rw[List.append_assoc]at c;exact c
theorem DE.call{s:AStep}(hss:ss=s::rest){i:List Nat×List Nat}{f:FuncId}{args:List AOpd}(mode:Bool)(tau:List Nat){pas:List PA}{rs:List RA}(ho:s.op = .call f args)(hw:Zk st.slots s.guard=some true)
    (hp:Yt (Za0 tau 0 st.heap) mode (args.map (AOpd.eval st.slots))=some pas) (hs:Spec P f pas rs) (hm:(mode||Yr rs)=true) (hst:(⟨setD st.slots s.dst (retV (Zg st.heap.length rs)),st.heap++Za rs⟩:St)=st1)
    (hI:((tagged st.heap.length (Za rs)).map (·.1),tau)=i) (hr:DE P pre all (done++[i]) rest st1 Φ):DE P pre all done ss st Φ:=by
  subst hss;subst hst;subst hI;exact .step (.call f _ mode pas rs (.st args ho) hw hp hs (by grind)) hr
end
end Go.Abs
namespace Go.Abs
mutual
def CT.den:CT->Type|.bool=>Bool|.int _=>Int|.str=>List UInt8|.sl ts=>List (denL ts)
def denL:List CT->Type|[]=>Unit|t::ts=>t.den×denL ts
end
mutual
def CT.pv:(t:CT)->t.den->PV|.bool,b=>.bool b|.int k,n=>.int k n|.str,s=>.str s|.sl ts,xs=>.sl (List.map (pvL ts) xs)
def pvL:(ts:List CT)->denL ts->List PV|[],_=>[]|t::ts,e=>t.pv e.1::pvL ts e.2
end
mutual
def CT.beq:CT->CT->Bool|.bool,.bool=>true|.int k,.int k' => decide (k=k')|.str,.str=>true|.sl ts,.sl ts' => beqL ts ts'|_,_=>false
def beqL:List CT->List CT->Bool|[],[]=>true|t::ts,t' :: ts' => t.beq t' && beqL ts ts'|_,_=>false
end
mutual
theorem CT.eq_of_beq:∀{a b:CT},a.beq b=true->a=b
 |.bool,b,h=>by grind[CT.beq]|.int k,b,h=>by cases b<;>simp_all[CT.beq]|.str,b,h=>by grind[CT.beq]|.sl ts,b,h=>by
  cases b with|sl ts' => simp only[CT.beq]at h;rw[Zpc h]|_=>simp[CT.beq]at h
theorem Zpc:∀{a b:List CT},beqL a b=true->a=b
 |[],b,h=>by grind[beqL]|t::ts,b,h=>by
  cases b with|nil=>simp[beqL]at h|cons t' ts' => simp only[beqL,J0e]at h;rw[CT.eq_of_beq h.1,Zpc h.2]
end
def CT.castTo(a b:CT)(v:a.den):Option b.den:=if h:a.beq b=true then some (CT.eq_of_beq h▸v)else none
def Ztm(a b:List CT)(v:List (denL a)):Option (List (denL b)):=if h:beqL a b=true then some (Zpc h▸v)else none
theorem Zk5{a b:CT}{v:a.den}{w:b.den}(h:a.castTo b v=some w):a.pv v=b.pv w:=by grind[CT.castTo]
theorem Zgc{a b:List CT}{v:List (denL a)}{w:List (denL b)}(h:Ztm a b v=some w):v.map (pvL a)=w.map (pvL b):=by grind[Ztm]
theorem Zdx:∀(ts:List CT) (e:denL ts),(pvL ts e).length=ts.length|[],_=>rfl|t::ts,e=>by simp[pvL,Zdx ts e.2]
inductive TV where|raw (v:AV)|p (t:CT) (v:t.den)|xf (ts:List CT) (xs:List (denL ts))|row (t ver:Nat)|sl (t ver lo len:Nat) (ex:Bool)|ptr (t ver i off:Nat)|fptr (ts:List CT) (e:denL ts)|agg (cells:List TV)|tuple (vs:List TV)|fn (f:FuncId) (caps:List TV)|ifb (b:Bool)
instance:Inhabited TV:=⟨.raw .any⟩
mutual
def TV.er:TV->AV|.raw v=>v|.p t v=>.p (t.pv v)|.xf ts xs=>.xf (xs.map (pvL ts))|.row t ver=>.row t ver|.sl t ver lo len ex=>.sl t ver lo len ex|.ptr t ver i off=>.ptr t ver i off|.fptr ts e=>.fptr (pvL ts e)|.agg cs=>.agg (erL cs)|.tuple cs=>.tuple (erL cs)|.fn f cs=>.fn f (erL cs)|.ifb b=>.ifc b
def erL:List TV->List AV|[]=>[]|x::xs=>x.er::erL xs
end
theorem Yk:∀(xs:List TV),erL xs=xs.map TV.er|[]=>rfl|x::xs=>by simp[erL,Yk xs]
theorem Y9(xs:List TV):(erL xs).length=xs.length:=by grind[Yk]
theorem Zb0(xs:List TV)(i:Nat):(erL xs)[i]? = xs[i]?.map TV.er:=by grind[Yk]
theorem Zi2(xs ys:List TV):erL (xs++ys)=erL xs++erL ys:=by simp[Yk]
def Zpd:(ts:List CT)->denL ts->List TV|[],_=>[]|t::ts,e=>.p t e.1::Zpd ts e.2
theorem Zh8:∀(ts:List CT) (e:denL ts),erL (Zpd ts e)=(pvL ts e).map .p|[],_=>rfl|t::ts,e=>by simp[Zpd,erL,pvL,TV.er,Zh8 ts e.2]
def ofC:AV->TV|.p (.bool b)=>.p .bool b|.p (.int k n)=>.p (.int k) n|.p (.str s)=>.p .str s|.row t ver=>.row t ver|.ifc b=>.ifb b|v=>.raw v
def ofA:AV->TV|.agg cs=>.agg (cs.map ofC)|.fn f []=>.fn f []|v=>ofC v
theorem Zrw(v:AV):(ofC v).er=v:=by unfold ofC;grind[TV.er,CT.pv]
theorem Yu3(v:AV):(ofA v).er=v:=by
 unfold ofA;split;simp only[TV.er,Yk,List.map_map];congr 1;refine(List.map_congr_left λx _=>?_).trans (List.map_id _);exact Zrw x;rfl;exact Zrw v
def AOpd.tev(s:List TV):AOpd->TV|.t n=>s.getD n (.raw .any)|.c v=>ofA v
theorem Zk6(s:List TV)(o:AOpd):(o.tev s).er=o.eval (erL s):=by
 cases o with|t n=>grind[AOpd.tev,AOpd.eval,Zb0,TV.er]|c v=>exact Yu3 v
inductive TE where|lit (es:List (List TV))|sym (ts:List CT) (xs:List (denL ts))
instance:Inhabited TE:=⟨.lit []⟩
def TE.er:TE->List (List AV)|.lit es=>es.map erL|.sym ts xs=>xs.map λx=>(pvL ts x).map .p
def TE.len:TE->Nat|.lit es=>es.length|.sym _ xs=>xs.length
theorem TE.len_er(e:TE):e.er.length=e.len:=by cases e<;>simp[TE.er,TE.len]
structure TObj where
 ver:Nat
 e:TypeId
 size:Nat
 el:TE
 deriving Inhabited
def TObj.er(o:TObj):AObj:=⟨o.ver,o.e,o.size,o.el.er⟩
def erH(h:List TObj):List AObj:=h.map TObj.er
theorem Qv(h:List TObj)(i:Nat):(erH h)[i]? = h[i]?.map TObj.er:=by simp[erH]
theorem Z7(h:List TObj):(erH h).length=h.length:=by simp[erH]
def tget(h:List TObj)(t ver:Nat):Option TObj := match h[t]? with|some o=>if o.ver=ver/\o.size≠0 then some o else none|none=>none
theorem Yf{h:List TObj}{t ver:Nat}{o:TObj}(hg:tget h t ver=some o):Zd (erH h) t ver=some o.er:=by grind[tget,Zd,Qv,TObj.er]
structure TSt where
 slots:List TV
 heap:List TObj
def TSt.er(s:TSt):St:=⟨erL s.slots,erH s.heap⟩
inductive TEff where|none|new (o:TObj)|upd (t:Nat) (o:TObj)
def TEff.er:TEff->Eff|.none=>.none|.new o=>.new o.er|.upd t o=>.upd t o.er
def TV.isCell:TV->Bool|.raw v=>v.isCell|.agg _|.tuple _=>false|_=>true
theorem Z2f(x:TV):x.er.isCell=x.isCell:=by cases x<;>rfl
def TV.cells:TV->Option (List TV)|.agg cs=>if cs.all TV.isCell then some cs else none|.raw v=>if v.isCell then some [.raw v]else none|.tuple _=>none|x=>some [x]
variable {x:TV}
theorem Zqe{cs:List TV}(h:x.cells=some cs):x.er.cells=some (erL cs):=by
 unfold TV.cells at h;split at h;grind[Yk,Z2f,TV.er,AV.cells];rename_i v;split at h;rename_i hc;obtain rfl:=J0a h;cases v<;>simp_all[TV.er,AV.cells,AV.isCell,erL];grind;cases h;rename_i h1 h2 h3;obtain rfl:=J0a h;cases x<;>first|grind|grind|(exact absurd rfl (h3 _))|grind[TV.er,AV.cells,AV.isCell,erL]
def tyE:List TV->Option (List CT)
 |[]=>some []|.p t _::xs=>match tyE xs with|some ts=>some (t::ts)|none=>none
 |_=>none
def symE:(ts:List CT)->List TV->Option (denL ts)
 |[],[]=>some ()|t::ts,.p t' v::xs=>match t'.castTo t v,symE ts xs with|some a,some b=>some (a,b)|_,_=>none
 |_,_=>none
theorem Zuu:∀{ts:List CT} {xs:List TV} {e:denL ts},symE ts xs=some e->erL xs=(pvL ts e).map .p
 |[],[],e,h=>rfl|[],_::_,e,h=>by simp[symE]at h|t::ts,[],e,h=>by simp[symE]at h|t::ts,x::xs,e,h=>by
  cases x with|p t' v => simp only[symE]at h;split at h;rename_i a b ha hb;obtain rfl:=J0a h;simp[erL,TV.er,pvL,Zk5 ha,Zuu hb];grind|_=>simp[symE]at h
def Z2g(ts:List CT):List (List TV)->Option (List (denL ts))|[]=>some []|e::es=>match symE ts e,Z2g ts es with|some a,some b=>some (a::b)|_,_=>none
theorem Zqf{ts:List CT}:∀{es:List (List TV)} {xs:List (denL ts)},Z2g ts es=some xs->es.map erL=xs.map λx=>(pvL ts x).map .p
 |[],xs,h=>by obtain rfl:=J0a h;rfl|e::es,xs,h=>by
  simp only[Z2g]at h;split at h;rename_i a b ha hb;obtain rfl:=J0a h;simp[Zuu ha,Zqf hb];grind
def mkTE(es:List (List TV)):TE :=
 match es with
 |[]=>.lit []|e::es' => match tyE e with
  |some ts=>match Z2g ts (e::es')with
   |some xs=>.sym ts xs|none=>.lit (e::es')
  |none=>.lit (e::es')
theorem Yfy(es:List (List TV)):(mkTE es).er=es.map erL:=by
 unfold mkTE;split;rfl;split;split;rename_i h;exact(Zqf h).symm;rfl;rfl
def Zqg:TE->TE->Option TE
 |.lit a,.lit b=>some (mkTE (a++b))|.sym ts xs,.sym ts' ys=>match Ztm ts' ts ys with|some zs=>some (.sym ts (xs++zs))|none=>none
 |.lit a,.sym ts ys=>match a with
  |[]=>some (.sym ts ys)|a=>match Z2g ts a with|some xs=>some (.sym ts (xs++ys))|none=>none
 |.sym ts xs,.lit b=>match Z2g ts b with|some ys=>some (.sym ts (xs++ys))|none=>none
theorem Yrh{a b:List CT}{v:List (denL a)}{w:List (denL b)}(h:v.map (pvL a)=w.map (pvL b)):(v.map λx=>(pvL a x).map AV.p)=w.map λx=>(pvL b x).map AV.p:=by have:=congrArg (List.map (List.map AV.p)) h;grind[Function.comp_def]
theorem Zgd{a b c:TE}(h:Zqg a b=some c):c.er=a.er++b.er:=by
 unfold Zqg at h;split at h;obtain rfl:=J0a h;simp only[Yfy,List.map_append];rfl;grind[TE.er,Yrh,Zgc];grind[TE.er,Zqf];grind[TE.er,Zqf]
def TE.take(n:Nat):TE->TE|.lit es=>.lit (es.take n)|.sym ts xs=>.sym ts (xs.take n)
def TE.drop(n:Nat):TE->TE|.lit es=>.lit (es.drop n)|.sym ts xs=>.sym ts (xs.drop n)
theorem TE.take_er(n:Nat)(e:TE):(e.take n).er=e.er.take n:=by cases e<;>simp[TE.take,TE.er,List.map_take]
theorem TE.drop_er(n:Nat)(e:TE):(e.drop n).er=e.er.drop n:=by cases e<;>simp[TE.drop,TE.er,List.map_drop]
def TE.fits(size:Nat):TE->Bool|.lit es=>es.all λe=>e.length==size&&e.all TV.isCell|.sym ts _=>ts.length==size
theorem TE.fits_er{size:Nat}{e:TE}(h:e.fits size=true):Zn size e.er=true:=by
 unfold Zn;cases e with|lit es=>grind[TE.fits,TE.er,Yk,Z2f]|sym ts xs=>simp only[TE.fits,beq_iff_eq]at h;simp only[TE.er,List.all_eq_true,List.mem_map,J0e,beq_iff_eq];rintro _ ⟨x,hx,rfl⟩;refine⟨by simp[Zdx,h],λv hv=>?_⟩;obtain⟨y,hy,rfl⟩:=List.mem_map.1 hv;rfl
def Zwj(h:List TObj):TV->Option TE
 |.p (.sl ts) xs=>some (.sym ts xs)|.xf ts xs=>some (.sym ts xs)|.raw .nil=>some (.lit [])|.raw .ne=>some (.lit [])|.raw .nl=>some (.lit [])|.raw .e0=>some (.lit [])|.row t ver=>match tget h t ver with|some o=>some o.el|none=>none
 |.sl t ver lo len _=>match tget h t ver with|some o=>some ((o.el.drop lo).take len)|none=>none
 |.raw (.p (.sl []))=>some (.lit [])|_=>none
theorem Zrx{h:List TObj}{e:TE}(he:Zwj h x=some e):Ye (erH h) x.er=some e.er:=by
 unfold Zwj at he;split at he
 case h_1 ts xs=>obtain rfl:=J0a he;simp only[TV.er,CT.pv,Ye,TE.er];exact congrArg some (List.map_map ..)
 case h_2 ts xs=>grind[TV.er,Ye,TE.er,Function.comp_def]
 case h_7 t ver => split at he;rename_i o ho;obtain rfl:=J0a he;simp[TV.er,Ye,Yf ho,TObj.er];grind
 case h_8 t ver lo len ex => split at he;rename_i o ho;obtain rfl:=J0a he;simp[TV.er,Ye,Yf ho,TObj.er,TE.take_er,TE.drop_er];grind
 case h_10=>cases he
 all_goals(obtain rfl:=J0a he;rfl)
def updT:(ts:List CT)->Nat->List TV->Option (denL ts->denL ts)
 |_,_,[]=>some id|[],_,_::_=>none|t::ts,0,c::cs=>match c with
  |.p t' v=>match t'.castTo t v,updT ts 0 cs with|some a,some f=>some λe=>(a,f e.2)|_,_=>none
  |_=>none
 |t::ts,n+1,c::cs=>match updT ts n (c::cs)with|some f=>some λe=>(e.1,f e.2)|none=>none
theorem Z4k:∀{ts:List CT} {off:Nat} {cs:List TV} {f:denL ts->denL ts},updT ts off cs=some f -> ∀e,(pvL ts (f e)).map AV.p=spl ((pvL ts e).map .p) off (erL cs)/\(cs=[]∨off+cs.length<=ts.length)
 |ts,off,[],f,h=>by cases ts<;>(simp only[updT,J0b]at h;subst h;intro e;simp[spl,erL])|[],off,c::cs,f,h=>by simp[updT]at h|t::ts,0,c::cs,f,h=>by
  simp only[updT]at h;split at h;rename_i t' v;split at h;rename_i a g ha hg;obtain rfl:=J0a h;intro e;obtain⟨h1,h2⟩:=Z4k hg e.2;grind[pvL,erL,TV.er,Zk5,spl];grind;grind
 |t::ts,n+1,c::cs,f,h=>by
  simp only[updT]at h;split at h;rename_i g hg;obtain rfl:=J0a h;intro e;obtain⟨h1,h2⟩:=Z4k hg e.2;grind[pvL,spl];grind
def Z74:(ts:List CT)->denL ts->(n:Nat)->denL (ts.drop n)|_,e,0=>e|[],_,_+1=>()|_::ts,e,n+1=>Z74 ts e.2 n
theorem Zwk:∀(ts:List CT) (e:denL ts) (n:Nat),pvL (ts.drop n) (Z74 ts e n)=(pvL ts e).drop n|[],_,0=>rfl|t::ts,e,0=>rfl|[],_,_+1=>rfl|_::ts,e,n+1=>by simp only[Z74,pvL,List.drop_succ_cons];exact Zwk ts e.2 n
section
variable {R:Type}
def tspl(l:List TV)(off:Nat)(cs:List TV):List TV:=l.take off++(cs++l.drop (off+cs.length))
theorem Yfz(l:List TV)(off:Nat)(cs:List TV):erL (tspl l off cs)=spl (erL l) off (erL cs):=by grind[tspl,spl,Yk,List.map_take,List.map_drop]
def Z4l:List (Nat×Nat×TV)->List TV->Option (List TV)|[],cells=>some cells|(off,size,v)::rest,cells => match v.cells with|some cs=>if cs.length=size/\off+size<=cells.length then Z4l rest (tspl cells off cs)else none|none=>none
theorem Z2h:∀{ps:List (Nat×Nat×TV)} {cells cs:List TV},Z4l ps cells=some cs->Zn4 (ps.map λq=>(q.1,q.2.1,q.2.2.er)) (erL cells)=some (erL cs)
 |[],cells,cs,h=>by obtain rfl:=J0a h;rfl|(off,size,v)::rest,cells,cs,h=>by
  simp only[Z4l]at h;split at h;rename_i l hl;split at h;rename_i hc;simp only[List.map_cons,Zn4,Zqe hl,Y9,if_pos hc];rw[<- Yfz];exact Z2h h;grind;grind
def Z4m(size:Nat):List (Nat×TV)->List (List TV)->Option (List (List TV))|[],es=>some es|(i,v)::rest,es => match v.cells with|some cs=>if cs.length=size/\i<es.length then Z4m size rest (es.set i cs)else none|none=>none
theorem Z2i{size:Nat}:∀{ps:List (Nat×TV)} {es fs:List (List TV)},Z4m size ps es=some fs->Zn5 size (ps.map λq=>(q.1,q.2.er)) (es.map erL)=some (fs.map erL)
 |[],es,fs,h=>by obtain rfl:=J0a h;rfl|(i,v)::rest,es,fs,h=>by
  simp only[Z4m]at h;split at h;rename_i l hl;split at h;rename_i hc;simp only[List.map_cons,Zn5,Zqe hl,Y9,List.length_map,if_pos hc];rw[<- List.map_set];exact Z2i h;grind;grind
def toN(n:Int)(k:Nat->Option R):Option R:=cond (decide (0<=n)) (k n.toNat) none
def tasN(v:TV)(k:Nat->Option R):Option R := match v with|.p (.int _) n=>toN n k|_=>none
def Z2j(n:Nat)(k:Nat->Option R):Nat->Option R|0=>none|m+1=>cond (decide (n=m)) (k m) (Z2j n k m)
def Yku(op:BinOp)(k:IntKind)(a b:Int)(kk:TV->Option R):Option R := match op with|.add=>kk (.p (.int k) (k.wrap (a+b)))|.sub=>kk (.p (.int k) (k.wrap (a-b)))|.mul=>kk (.p (.int k) (k.wrap (a*b)))|.quo=>cond (decide (b=0)) none (kk (.p (.int k) (k.wrap (a.tdiv b))))|.rem=>cond (decide (b=0)) none (kk (.p (.int k) (a.tmod b)))|.and=>kk (.p (.int k) (bits .and k a b))|.or=>kk (.p (.int k) (bits .or k a b))|.xor=>kk (.p (.int k) (bits .xor k a b))|.andNot=>kk (.p (.int k) (bits .andNot k a b))|.eql=>kk (.p .bool (a==b))|.neq=>kk (.p .bool (a != b))|.lss=>kk (.p .bool (decide (a<b)))|.leq=>kk (.p .bool (decide (a<=b)))|.gtr=>kk (.p .bool (decide (a>b)))|.geq=>kk (.p .bool (decide (a>=b)))|_=>none
def Z4n(op:BinOp)(k:IntKind)(a b:Int)(kk:TV->Option R):Option R := match op with|.shl=>cond (decide (b<0)) none (kk (.p (.int k) (k.wrap (a*2 ^ (min b.toNat k.bits)))))|.shr=>cond (decide (b<0)) none (kk (.p (.int k) (a.fdiv (2 ^ (min b.toNat k.bits)))))|_=>none
def Ykv(op:BinOp)(a b:List UInt8)(kk:TV->Option R):Option R := match op with|.add=>cond (decide (a.length+b.length<=9223372036854775807)) (kk (.p .str (a++b))) none|.eql=>kk (.p .bool (a==b))|.neq=>kk (.p .bool (!(a==b)))|.lss=>kk (.p .bool (Op.bytesLess a b))|.leq=>kk (.p .bool (Op.bytesLess a b||a==b))|.gtr=>kk (.p .bool (!(Op.bytesLess a b||a==b)))|.geq=>kk (.p .bool (!(Op.bytesLess a b)))|_=>none
def tbin(op:BinOp)(x y:TV)(kk:TV->Option R):Option R := match x,y with|.p (.int k) a,.p (.int k') b=>if Zur op then Z4n op k a b kk else if k=k' then Yku op k a b kk else none|.p .str a,.p .str b=>Ykv op a b kk|_,_=>none
def tun(op:UnOp)(x:TV):Option TV :=
 match x with
 |.p (.int k) n => match op with|.neg=>some (.p (.int k) (k.wrap (@HSub.hSub Int Int Int _ 0 n)))|.xor=>some (.p (.int k) (bits .xor k (if k.signed then -1 else k.max) n))|_=>none
 |.p .bool b=>match op with|.not=>some (.p .bool (!(b:Bool)))|_=>none
 |_=>none
def Ykw:Nat->TV->TV->Option Bool|0,.p (.int k) a,.p (.int k') b=>if k=k' then some (@BEq.beq Int _ a b)else none|1,.p .bool a,.p .bool b=>some (@BEq.beq Bool _ a b)|2,.p .str a,.p .str b=>some (@BEq.beq (List UInt8) _ a b)|_,_,_=>none
def Yf0(xs ys:List TV):List (Nat×Nat)->Option Bool
 |[]=>some true|(i,kd)::is =>
  match xs[i]?,ys[i]? with
  |some x,some y => match Ykw kd x y,Yf0 xs ys is with|some a,some b=>some (a&&b)|_,_=>none
  |_,_=>none
def tlow(ρ:AOpd->TV)(x:Option AOpd)(k:Nat->Option R):Option R := match x with|none=>k 0|some x=>tasN (ρ x) k
def Ykx(len:Nat)(ρ:AOpd->TV)(lo hi:Option AOpd)(k:Nat->Nat->Option R):Option R := match hi with|none=>tlow ρ lo λl=>cond (decide (l<=len)) (k l len) none|some x=>tasN (ρ x) λn=>tlow ρ lo λl=>cond (decide (l<=n)&&decide (n<=len)) (k l n) none
def tbnd(len:Nat)(ex:Bool)(ρ:AOpd->TV)(lo hi mx:Option AOpd)(k:Nat->Nat->Bool->Option R):Option R := match hi,mx with|none,none=>tlow ρ lo λl=>cond (decide (l<=len)) (k l len ex) none|some x,none=>tasN (ρ x) λn=>tlow ρ lo λl=>cond (decide (l<=n)&&decide (n<=len)) (k l n (ex&&n==len)) none|some x,some y=>tasN (ρ x) λn=>tasN (ρ y) λm=>cond (decide (m=n)) (tlow ρ lo λl=>cond (decide (l<=n)&&decide (n<=len)) (k l n true) none) none|none,some _=>none
def Zuv(ts:List CT)(ex:Bool)(size:Nat)(ρ:AOpd->TV)(xs:List (denL ts))(lo hi mx:Option AOpd)(k:TV->Option R):Option R:=tbnd xs.length ex ρ lo hi mx λl n b=>if ts.length=size then cond b (cond (decide (l=n)) (k (.raw .e0)) (k (.xf ts ((xs.take n).drop l)))) (k (.p (.sl ts) ((xs.take n).drop l)))else none
def Ybt(h:List TObj)(size:Nat)(ρ:AOpd->TV)(x:TV)(lo hi mx:Option AOpd)(k:TV->Option R):Option R :=
 match x with
 |.raw .nil=>tbnd 0 true ρ lo hi mx λ_ _ _=>k (.raw .nil)|.p (.sl ts) xs=>Zuv ts false size ρ xs lo hi mx k|.xf ts xs=>Zuv ts true size ρ xs lo hi mx k|.row t ver=>match tget h t ver with
  |some o=>if o.size=size then tbnd o.el.len false ρ lo hi mx λl n b =>
      cond (lo.isNone&&mx.isNone) (cond hi.isNone (k (.row t ver)) (k (.sl t ver 0 n false))) <|
      cond (decide (l=n)) (cond b (k (.raw .e0)) (k (.raw (.p (.sl []))))) (k (.sl t ver l (n-l) b))else none
  |none=>none
 |.sl t ver lo0 len0 ex=>match tget h t ver with
  |some o=>if o.size=size then tbnd len0 ex ρ lo hi mx λl n b=>cond (ex && !b) none<|cond (lo.isNone&&mx.isNone&&lo0==0 && !ex) (k (.sl t ver 0 n false))<|cond (decide (l=n)) (cond b (k (.raw .e0)) (k (.raw (.p (.sl []))))) (k (.sl t ver (lo0+l) (n-l) b))else none|none=>none
 |_=>none
def tlen(h:List TObj):TV->Option Nat
 |.p (.sl ts) xs=>some (List.length xs)|.xf ts xs=>some xs.length|.raw .nil=>some 0|.raw .ne=>some 0|.raw .nl=>some 0|.raw .e0=>some 0|.row t ver=>match tget h t ver with|some o=>some o.el.len|none=>none
 |.sl t ver _ len _=>match tget h t ver with|some _=>some len|none=>none
 |.raw (.p (.sl []))=>some 0|_=>none
def Yf1(ts:List CT)(n:Nat)(xs:List (denL ts))(k:TV->Option R):Option R:=match xs[n]? with|some e=>k (.fptr ts e)|none=>none
def Yky(n:Nat)(s:List UInt8)(k:TV->Option R):Option R:=match s[n]? with|some b=>k (.p (.int .u8) (b.toNat:Int))|none=>none
def tixa(h:List TObj)(size:Nat)(x i:TV)(k:TV->Option R):Option R :=
 tasN i λn =>
  match x with
  |.p (.sl ts) xs=>if ts.length=size then Yf1 ts n xs k else none|.xf ts xs=>if ts.length=size then Yf1 ts n xs k else none|.row t ver=>match tget h t ver with|some o=>if o.size=size then cond (decide (n<o.el.len)) (k (.ptr t ver n 0)) none else none|none=>none
  |.sl t ver lo len _=>match tget h t ver with|some o=>if o.size=size then cond (decide (n<len)) (k (.ptr t ver (lo+n) 0)) none else none|none=>none
  |_=>none
def Yf2(ts:List CT)(xs:List (denL ts))(k:Bool->Option R):Option R:=match xs with | []=>none|_::_=>k false
def tnil(h:List TObj)(x:TV)(k:Bool->Option R):Option R :=
 match x with
 |.raw .nil=>k true|.raw .ne=>k false|.raw .nl=>k true|.p (.sl ts) xs=>Yf2 ts xs k|.xf ts xs=>Yf2 ts xs k|.row t ver=>match tget h t ver with|some o=>cond (decide (o.el.len=0)) none (k false)|none=>none
 |.sl t ver _ len _=>match tget h t ver with|some _=>cond (decide (len=0)) none (k false)|none=>none
 |_=>none
def Yf3(cs:List TV)(off:Nat):Option Nat->Option TV|some n=>if off+n<=cs.length then some (.agg ((cs.drop off).take n))else none|none=>cs[off]?
def tread(h:List TObj)(n:Nat)(x:TV)(k:List TV->Option R):Option R :=
 match x with
 |.ptr t ver i off =>
  match tget h t ver with
  |some o =>
   match o.el with
   |.lit es=>match es[i]? with
    |some e=>if off+n<=e.length then k ((e.drop off).take n)else none|none=>none
   |.sym ts xs=>if off+n<=ts.length then(match xs[i]? with
    |some e=>k (((Zpd ts e).drop off).take n)|none=>none)else none
  |none=>none
 |.fptr ts e=>if n<=ts.length then k ((Zpd ts e).take n)else none|_=>none
def Ze(len bytes:Nat):Bool:=decide (len*bytes<=Zx)&&decide (len<=maxLen)
def Z4o(h:List TObj)(T e size bytes:Nat)(s:TV)(es:TE)(k:TV->TEff->Option R):Option R :=
 match s with
 |.raw .nil=>if es.fits size then cond (Ze es.len bytes) (k (.row T 1) (.new ⟨1,e,size,es⟩)) none else none|.row t ver =>
  match tget h t ver with
  |some o=>if o.e=e/\o.size=size/\es.fits size then
      match Zqg o.el es with|some el=>cond (Ze (o.el.len+es.len) bytes) (k (.row t (ver+1)) (.upd t ⟨ver+1,e,size,el⟩)) none|none=>none else none
  |none=>none
 |.raw .e0=>cond (decide (es.len=0)) (k (.raw .e0) .none) (if es.fits size then cond (Ze es.len bytes) (k (.row T 1) (.new ⟨1,e,size,es⟩)) none else none)|.xf ts xs =>
  if ts.length=size/\es.fits size then
   match Zqg (.sym ts xs) es with|some el=>cond (decide (es.len=0)) none (cond (Ze (xs.length+es.len) bytes) (k (.row T 1) (.new ⟨1,e,size,el⟩)) none)|none=>none else none
 |.sl t ver lo len ex =>
  match tget h t ver with
  |some o =>
   if ex/\o.size=size/\((o.el.drop lo).take len).fits size/\es.fits size then
    match Zqg ((o.el.drop lo).take len) es with|some el=>cond (decide (es.len=0)) (k (.sl t ver lo len ex) .none) (cond (Ze (((o.el.drop lo).take len).len+es.len) bytes) (k (.row T 1) (.new ⟨1,e,size,el⟩)) none)|none=>none
   else if ex=false/\lo=0/\o.e=e/\o.size=size/\es.fits size then
    match Zqg (o.el.take len) es with|some el=>cond (decide (es.len=0)) (k (.sl t ver lo len ex) .none) (cond (decide (len<=o.el.len)&&Ze (len+es.len) bytes) (k (.row t (ver+1)) (.upd t ⟨ver+1,e,size,el⟩)) none)|none=>none
   else none
  |none=>none
 |_=>none
def Ykz(h:List TObj)(size:Nat)(d:TV)(es:TE)(k:TV->TEff->Option R):Option R :=
 match d with
 |.raw .nil=>k (.p (.int .i64) (0:Int)) .none|.row t ver =>
  match tget h t ver with
  |some o=>if o.size=size/\es.fits size then
      match Zqg (es.take (min es.len o.el.len)) (o.el.drop (min es.len o.el.len))with|some el=>k (.p (.int .i64) ((min es.len o.el.len:Nat):Int)) (.upd t ⟨o.ver,o.e,o.size,el⟩)|none=>none else none
  |none=>none
 |.sl t ver lo len _ =>
  match tget h t ver with
  |some o=>if o.size=size/\es.fits size then
      match Zqg (es.take (min es.len len)) (o.el.drop (lo+min es.len len))with
      |some el1=>match Zqg (o.el.take lo) el1 with
       |some el=>cond (decide (lo+len<=o.el.len)) (k (.p (.int .i64) ((min es.len len:Nat):Int)) (.upd t ⟨o.ver,o.e,o.size,el⟩)) none|none=>none
      |none=>none else none
  |none=>none
 |_=>none
def Ybu(h:List TObj)(n:Nat)(a x:TV)(k:TV->TEff->Option R):Option R :=
 match x.cells,a with
 |some cs,.ptr t ver i off =>
  match tget h t ver with
  |some o =>
   match o.el with
   |.lit es=>match es[i]? with
    |some e=>if cs.length=n/\off+n<=e.length then k (.raw .u) (.upd t ⟨o.ver,o.e,o.size,.lit (es.set i (tspl e off cs))⟩)else none|none=>none
   |.sym ts xs=>if cs.length=n/\off+n<=ts.length then
       (match updT ts off cs with
       |some f=>match xs[i]? with
        |some e=>k (.raw .u) (.upd t ⟨o.ver,o.e,o.size,.sym ts (xs.set i (f e))⟩)|none=>none
       |none=>none)else none
  |none=>none
 |_,_=>none
def Zuw:List (List TV)->Option (List UInt8)|[]=>some []|[.p (.int .u8) n]::es=>(match Zuw es with|some l=>some (UInt8.ofNat (Int.toNat n)::l)|none=>none)|_=>none
def Ybv:TE->Option (List UInt8)|.lit es=>Zuw es|.sym [.int .u8] xs=>some (List.map (λ(e:Int×Unit)=>UInt8.ofNat (Int.toNat e.1)) xs)|_=>none
theorem Zwl:∀{es:List (List TV)} {l:List UInt8},Zuw es=some l->Zkp (es.map erL)=some l
 |[],l,h=>h|e::es,l,h=>by
  unfold Zuw at h;split at h;grind;rename_i n es' heq;obtain⟨rfl,rfl⟩:=List.cons.inj heq;split at h;rename_i l' hl';obtain rfl:=J0a h;have ih:=Zwl hl';grind[erL,TV.er,CT.pv,Zkp];grind;grind
theorem Yin{e:TE}{l:List UInt8}(h:Ybv e=some l):Zkp e.er=some l:=by
 unfold Ybv at h;split at h;exact Zwl h;rename_i xs;obtain rfl:=J0a h;have key:∀ys:List (Int×Unit),Zkp (ys.map λx=>[AV.p (.int .u8 x.1)])=some (ys.map λe=>UInt8.ofNat (Int.toNat e.1)):=λys=>by
  induction ys with|nil=>rfl|cons y ys ih=>grind[Zkp]
 exact key xs;grind
def tmm(mx:Bool)(a b:Int):Int:=if mx then(if b>a then b else a)else(if b<a then b else a)
def Z2k(h:List TObj)(T:Nat)(ρ:AOpd->TV)(op:AOp)(k:TV->TEff->Option R):Option R :=
 match op with
 |.mv x=>k (ρ x) .none|.pick c a b=>match ρ c with
  |.p .bool v=>cond (v:Bool) (k (ρ a) .none) (k (ρ b) .none)|_=>none
 |.box e size x=>match (ρ x).cells with|some cs=>if cs.length=size/\0<size then k (.ptr T 1 0 0) (.new ⟨1,e,size,.lit [cs]⟩)else none|none=>none
 |.build zero parts=>match Z4l (parts.map λq=>(q.1,q.2.1,ρ q.2.2)) (zero.map ofC)with|some cs=>k (.agg cs) .none|none=>none
 |.bslice e size len zero parts => match Z4m size (parts.map λq=>(q.1,ρ q.2)) (List.replicate len (zero.map ofC))with|some es=>if 0<size/\zero.length=size then k (.row T 1) (.new ⟨1,e,size,mkTE es⟩)else none|none=>none
 |.load n x => match n with|some n=>tread h n (ρ x) λcs=>k (.agg cs) .none|none=>tread h 1 (ρ x) λcs=>match cs with | [c]=>k c .none|_=>none
 |.store n a x=>Ybu h n (ρ a) (ρ x) k|.nilchk x=>match ρ x with
  |.ptr t ver i off=>match tget h t ver with|some _=>k (.ptr t ver i off) .none|none=>none
  |.fptr ts e=>k (.fptr ts e) .none|.fn f cs=>k (.fn f cs) .none|_=>none
 |.bin op x y=>tbin op (ρ x) (ρ y) λv=>k v .none|.beq neg x y=>match ρ x,ρ y with
  |.p .bool a,.p .bool b=>k (.p .bool (if neg then !(@BEq.beq Bool _ a b)else(@BEq.beq Bool _ a b))) .none|_,_=>none
 |.eqnil neg x=>tnil h (ρ x) λb=>k (.p .bool (if neg then !b else b)) .none|.eqi neg x=>match ρ x with|.ifb b=>k (.p .bool (if neg then b else !b)) .none|_=>none
 |.eqagg neg size ix x y=>match ρ x,ρ y with
  |.agg xs,.agg ys=>if xs.length=size/\ys.length=size then(match Yf0 xs ys ix with|some b=>k (.p .bool (if neg then !b else b)) .none|none=>none)else none|_,_=>none
 |.un op x=>match tun op (ρ x)with|some v=>k v .none|none=>none
 |.conv kd x=>match ρ x with|.p (.int _) n=>k (.p (.int kd) (kd.wrap (n:Int))) .none|_=>none
 |.convs x=>match ρ x with|.p .str s=>k (.p .str s) .none|_=>none
 |.bstr x=>match Zwj h (ρ x)with|some e=>(match Ybv e with|some s=>k (.p .str s) .none|none=>none)|none=>none
 |.mksl e size bytes zero len cap =>
  tasN (ρ len) λn=>tasN (ρ cap) λc =>
   if 0<size/\zero.length=size then
    cond (decide (n<=c)&&(decide (bytes*c<=2*Zx)&&decide (c<=maxLen)))
     (match tyE (zero.map ofC)with
     |some ts=>match symE ts (zero.map ofC)with
      |some z=>k (.row T 1) (.new ⟨1,e,size,.sym ts (List.replicate n z)⟩)|none=>none
     |none=>k (.row T 1) (.new ⟨1,e,size,.lit (List.replicate n (zero.map ofC))⟩))
     none
   else none
 |.slice size x lo hi mx=>Ybt h size ρ (ρ x) lo hi mx λv=>k v .none|.sstr x lo hi=>match ρ x with
  |.p .str s=>Ykx (List.length s) ρ lo hi λl n=>k (.p .str ((List.take n s).drop l)) .none|_=>none
 |.fld off x=>match ρ x with
  |.ptr t ver i o=>match tget h t ver with|some _=>k (.ptr t ver i (o+off)) .none|none=>none
  |.fptr ts e=>k (.fptr (ts.drop off) (Z74 ts e off)) .none|_=>none
 |.field off n x=>match ρ x with
  |.agg cs=>(match Yf3 cs off n with|some v=>k v .none|none=>none)|_=>none
 |.ixa size x i=>tixa h size (ρ x) (ρ i) λv=>k v .none|.ixarr len size x i=>tasN (ρ i) λn=>Z2j n (λn=>match ρ x with
     |.ptr t ver i o=>match tget h t ver with|some _=>k (.ptr t ver i (o+n*size)) .none|none=>none
     |.fptr ts e=>k (.fptr (ts.drop (n*size)) (Z74 ts e (n*size))) .none|_=>none) len
 |.ixv len size m x i=>tasN (ρ i) λn=>Z2j n (λn=>match ρ x with
     |.agg cs=>(match Yf3 cs (n*size) m with|some v=>k v .none|none=>none)|_=>none) len
 |.ixs x i=>tasN (ρ i) λn=>match ρ x with
  |.p .str s=>Yky n s λv=>k v .none|_=>none
 |.extract i x=>match ρ x with|.tuple vs=>(match vs[i]? with|some v=>k v .none|none=>none)|_=>none
 |.len x=>match tlen h (ρ x)with|some n=>k (.p (.int .i64) (n:Int)) .none|none=>none
 |.lens x=>match ρ x with|.p .str s=>k (.p (.int .i64) ((List.length s:Nat):Int)) .none|_=>none
 |.capn x=>match ρ x with|.raw .nil=>k (.p (.int .i64) (0:Int)) .none|_=>none
 |.appz e size bytes zero s n=>match ρ s with
  |.raw .nil=>tasN (ρ n) λn =>
   if 0<size/\zero.length=size then
    cond (decide (0<n)&&Ze n bytes)
     (match tyE (zero.map ofC)with
     |some ts=>match symE ts (zero.map ofC)with
      |some z=>k (.row T 1) (.new ⟨1,e,size,.sym ts (List.replicate n z)⟩)|none=>none
     |none=>k (.row T 1) (.new ⟨1,e,size,.lit (List.replicate n (zero.map ofC))⟩))
     none
   else none
  |_=>none
 |.append e size bytes s x=>match Zwj h (ρ x)with|some es=>if 0<size then Z4o h T e size bytes (ρ s) es k else none|none=>none
 |.copy size d s=>match Zwj h (ρ s)with|some es=>Ykz h size (ρ d) es k|none=>none
 |.mm mx x y=>match ρ x,ρ y with
  |.p (.int kd) a,.p (.int _) b=>k (.p (.int kd) (tmm mx a b)) .none|_,_=>none
 |.mkfn f caps=>k (.fn f (caps.map ρ)) .none|_=>none
end
end Go.Abs
