import Derived.Test.YtlnihcefchoofaaGreatDoorDAbsCut
set_option linter.all false
namespace Go.Abs
variable [GTab] [Glob]
def AT.den:AT->Type|.c t=>t.den|.a ts=>denL ts|.q ts=>denL ts
def Zg9:List AT->Type|[]=>Unit|a::as=>a.den×Zg9 as
def AT.pa:(a:AT)->a.den->PA|.c t,v=>.c (t.pv v)|.a ts,e=>.a (pvL ts e)|.q ts,e=>.q (pvL ts e)
def pasL:(as:List AT)->Zg9 as->List PA|[],_=>[]|a::as,e=>a.pa e.1::pasL as e.2
inductive RCT where
 |p (t:CT)|s (e size:Nat) (ts:List CT)|ifc
 deriving Inhabited
inductive RT where
 |c (x:RCT)|a (xs:List RCT)
 deriving Inhabited
def RCT.den:RCT->Type|.p t=>t.den|.s _ _ ts=>List (denL ts)|.ifc=>Bool
def Zha:List RCT->Type|[]=>Unit|x::xs=>x.den×Zha xs
def RT.den:RT->Type|.c x=>x.den|.a xs=>Zha xs
def Xj:List RT->Type|[]=>Unit|x::xs=>x.den×Xj xs
def RCT.rc:(x:RCT)->x.den->RC|.p t,v=>.c (t.pv v)|.s e size ts,xs=>.s e size (List.map (pvL ts) xs)|.ifc,b=>.e b
def rcL:(xs:List RCT)->Zha xs->List RC|[],_=>[]|x::xs,e=>x.rc e.1::rcL xs e.2
def RT.ra:(x:RT)->x.den->RA|.c x,v=>.c (x.rc v)|.a xs,e=>.a (rcL xs e)
def raL:(xs:List RT)->Xj xs->List RA|[],_=>[]|x::xs,e=>x.ra e.1::raL xs e.2
def RCT.cnt:RCT->Nat|.p _=>0|.s _ _ _=>1|.ifc=>0
def Yf9:List RCT->Nat|[]=>0|x::xs=>x.cnt+Yf9 xs
def RT.cnt:RT->Nat|.c x=>x.cnt|.a xs=>Yf9 xs
def cntR:List RT->Nat|[]=>0|x::xs=>x.cnt+cntR xs
def RCT.obj:(x:RCT)->x.den->List TObj|.p _,_=>[]|.s e size ts,xs=>[⟨1,e,size,.sym ts xs⟩]|.ifc,_=>[]
def Z76:(xs:List RCT)->Zha xs->List TObj|[],_=>[]|x::xs,e=>x.obj e.1++Z76 xs e.2
def RT.obj:(x:RT)->x.den->List TObj|.c x,v=>x.obj v|.a xs,e=>Z76 xs e
def objR:(xs:List RT)->Xj xs->List TObj|[],_=>[]|x::xs,e=>x.obj e.1++objR xs e.2
def RCT.val(T:Nat):(x:RCT)->x.den->TV|.p t,v=>.p t v|.s _ _ _,_=>.row T 1|.ifc,b=>.ifb b
def Yga:Nat->(xs:List RCT)->Zha xs->List TV|_,[],_=>[]|T,x::xs,e=>x.val T e.1::Yga (T+x.cnt) xs e.2
def RT.val(T:Nat):(x:RT)->x.den->TV|.c x,v=>x.val T v|.a xs,e=>.agg (Yga T xs e)
def valR:Nat->(xs:List RT)->Xj xs->List TV|_,[],_=>[]|T,x::xs,e=>x.val T e.1::valR (T+x.cnt) xs e.2
def retT:List TV->TV|[x]=>x|xs=>.tuple xs
theorem RCT.obj_er:∀(x:RCT) (v:x.den),erH (x.obj v)=Yg (x.rc v)/\(x.obj v).length=x.cnt
 |.p _,_=>⟨rfl,rfl⟩|.ifc,_=>⟨rfl,rfl⟩|.s e size ts,xs=>by
  have:∀ys:List (denL ts),erH [(⟨1,e,size,.sym ts ys⟩:TObj)]=Yg (.s e size (ys.map (pvL ts))):=λys=>by grind[Yg,erH,TObj.er,TE.er,Function.comp_def]
  exact⟨this xs,rfl⟩
theorem Z77:∀(xs:List RCT) (e:Zha xs),erH (Z76 xs e)=Xk (rcL xs e)/\(Z76 xs e).length=Yf9 xs|[],_=>⟨rfl,rfl⟩|x::xs,e=>by obtain⟨h1,h2⟩:=x.obj_er e.1;obtain⟨h3,h4⟩:=Z77 xs e.2;grind[Z76,rcL,Xk,erH,Yf9]
theorem RT.obj_er:∀(x:RT) (v:x.den),erH (x.obj v)=Zbr (x.ra v)/\(x.obj v).length=x.cnt|.c x,v=>x.obj_er v|.a xs,e=>Z77 xs e
theorem Zfm:∀(xs:List RT) (e:Xj xs),erH (objR xs e)=Za (raL xs e)/\(objR xs e).length=cntR xs|[],_=>⟨rfl,rfl⟩|x::xs,e=>by obtain⟨h1,h2⟩:=x.obj_er e.1;obtain⟨h3,h4⟩:=Zfm xs e.2;grind[objR,raL,Za,erH,cntR]
theorem RCT.val_er(T:Nat):∀(x:RCT) (v:x.den),(x.val T v).er=Zbm T (x.rc v)|.p _,_=>rfl|.s _ _ _,_=>rfl|.ifc,_=>rfl
theorem Z78:∀(T:Nat) (xs:List RCT) (e:Zha xs),erL (Yga T xs e)=Zag T (rcL xs e)
 |_,[],_=>rfl|T,x::xs,e=>by
  obtain⟨h1,h2⟩:=x.obj_er e.1;have hl:(Yg (x.rc e.1)).length=x.cnt:=by grind[Z7]
  simp only[Yga,erL,rcL,Zag,x.val_er,hl,Z78]
theorem RT.val_er(T:Nat):∀(x:RT) (v:x.den),(x.val T v).er=Zfh T (x.ra v)|.c x,v=>x.val_er T v|.a xs,e=>congrArg AV.agg (Z78 T xs e)
theorem Zi4:∀(T:Nat) (xs:List RT) (e:Xj xs),erL (valR T xs e)=Zg T (raL xs e)
 |_,[],_=>rfl|T,x::xs,e=>by
  obtain⟨h1,h2⟩:=x.obj_er e.1;have hl:(Zbr (x.ra e.1)).length=x.cnt:=by grind[Z7]
  simp only[valR,erL,raL,Zg,x.val_er,hl,Zi4]
theorem Zi5(xs:List TV):(retT xs).er=retV (erL xs):=by
 match xs with|[]=>rfl|[x]=>rfl|x::y::xs=>rfl
def CT.plain:CT->Bool|.sl _=>false|_=>true
theorem CT.plain_flat:∀{t:CT} (h:t.plain=true) (v:t.den),(t.pv v).flat=true|.bool,_,_=>rfl|.int _,_,_=>rfl|.str,_,_=>rfl|.sl _,h,_=>by simp[CT.plain]at h
theorem Z79:∀{ts:List CT} (h:ts.all CT.plain=true) (e:denL ts),(pvL ts e).all PV.flat=true|[],_,_=>rfl|t::ts,h,e=>by simp only[List.all_cons,J0e]at h;simp[pvL,CT.plain_flat h.1 e.1,Z79 h.2 e.2]
def RCT.plain:RCT->Bool|.p t=>t.plain|.s _ _ ts=>ts.all CT.plain|.ifc=>true
def RT.plain:RT->Bool|.c x=>x.plain|.a xs=>xs.all RCT.plain
theorem RCT.plain_flat:∀{x:RCT} (h:x.plain=true) (v:x.den),(x.rc v).flat=true
 |.p t,h,v=>CT.plain_flat h v|.ifc,_,_=>rfl|.s e size ts,h,xs=>by
  have:∀ys:List (denL ts),((ys.map (pvL ts)).all λe=>e.all PV.flat)=true:=λys=>by simp only[List.all_eq_true,List.mem_map];rintro _ ⟨y,hy,rfl⟩;exact List.all_eq_true.1 (Z79 h y)
  exact this xs
theorem Z8a:∀{xs:List RCT} (h:xs.all RCT.plain=true) (e:Zha xs),(rcL xs e).all RC.flat=true|[],_,_=>rfl|x::xs,h,e=>by simp only[List.all_cons,J0e]at h;simp[rcL,RCT.plain_flat h.1 e.1,Z8a h.2 e.2]
theorem Zqh:∀{xs:List RT} (h:xs.all RT.plain=true) (e:Xj xs),Yr (raL xs e)=true|[],_,_=>rfl|.c x::xs,h,e=>by simp only[List.all_cons,J0e]at h;have h1:=RCT.plain_flat (x:=x) h.1 e.1;have h2:=Zqh h.2 e.2;simp only[Yr,raL,List.all_cons,J0e]at h2 ⊢;exact⟨h1,h2⟩|.a ys::xs,h,e=>by simp only[List.all_cons,J0e]at h;have h1:=Z8a (xs:=ys) h.1 e.1;have h2:=Zqh h.2 e.2;simp only[Yr,raL,List.all_cons,J0e]at h2 ⊢;exact⟨h1,h2⟩
def argQ(h:List TObj)(ts:List CT):TV->Option (denL ts)
 |.ptr t ver 0 0=>match tget h t ver with
  |some o=>(match o.el with
   |.lit [cells]=>cond (decide (0<cells.length)) (Zk7 (frzT h [] 6) ts cells) none|_=>none)
  |none=>none
 |.fptr ts' e=>match Ztm ts' ts [e]with|some [e']=>some e' | _=>none
 |_=>none
def argV(h:List TObj):(a:AT)->TV->Option a.den
 |.c t,x=>frzT h [] 6 t x|.a ts,x=>match x with|.agg cs=>Zk7 (frzT h [] 6) ts cs|_=>none
 |.q ts,x=>argQ h ts x
def Zh9(h:List TObj):(as:List AT)->List TV->Option (Zg9 as)
 |[],[]=>some ()|a::as,x::xs=>match argV h a x,Zh9 h as xs with|some v,some vs=>some (v,vs)|_,_=>none
 |_,_=>none
variable {h:List TObj}{d:Nat}{t:CT}{x:TV}
theorem Yby{bad:List Nat}{v:t.den}(hf:frzT h bad d t x=some v):∀cs,x.er ≠ .agg cs:=by
 intro cs e;cases d with|zero=>cases(show(none:Option t.den)=some v from hf)|succ d => cases x with|raw w=>have e:w = .agg cs:=e;subst e;have hf:nilC t (.agg cs)=some v:=hf;cases t<;>cases hf|agg l=>cases(show(none:Option t.den)=some v from hf)|_=>cases e
theorem Ybz{bad:List Nat}{v:t.den}(hf:frzT h bad d t x=some v):(∀tg ver i off,x.er ≠ .ptr tg ver i off) /\ ∀cs,x.er ≠ .fptr cs:=by
 cases d with|zero=>cases(show(none:Option t.den)=some v from hf)|succ d => cases x with|raw w => have hf:nilC t w=some v:=hf;constructor;intro tg ver i off e;have e:w = .ptr tg ver i off:=e;subst e;cases t<;>cases hf;intro cs e;have e:w = .fptr cs:=e;subst e;cases t<;>cases hf|ptr a b c d=>cases(show(none:Option t.den)=some v from hf)|fptr a b=>cases(show(none:Option t.den)=some v from hf)|_=>exact⟨(λ_ _ _ _ e=>nomatch e),(λ_ e=>nomatch e)⟩
variable {f:AV->Option PV}
theorem Yb0{g:AV->Option (List PV)}{a:AV}{v:PV}(hn:∀cs,a ≠ .agg cs)(hp:(∀tg ver i off,a ≠ .ptr tg ver i off) /\ ∀cs,a ≠ .fptr cs)(h:f a=some v):toPA f g a=some (.c v):=by unfold toPA;grind
theorem Yrs{ts:List CT}{v:denL ts}(hv:argQ h ts x=some v):ptrC (erH h) x.er=some (pvL ts v):=by
 unfold argQ at hv;split at hv;rename_i t ver;split at hv;rename_i o ho;split at hv;rename_i cells hel;obtain⟨hlt,hv⟩:=Qo hv;have hlt:=of_decide_eq_true hlt;have h1:=Zk8 (g:=frz (erH h) [] 6) (λt x v hv=>Zah hv) hv;simp only[TV.er,ptrC,Yf ho];have h2:o.er.elems[0]? = some (erL cells):=by show(o.el.er)[0]? = _;rw[hel];rfl
 grind[Y9];grind;grind;rename_i ts' e;split at hv;rename_i e' he;obtain rfl:=J0a hv;have:=Zgc he;grind[TV.er,ptrC];grind;grind
theorem Yrt(hf:∀t x v,frzT h [] 6 t x=some v->f x.er=some (t.pv v)):∀{a:AT} {x:TV} {v:a.den},argV h a x=some v->toPA f (ptrC (erH h)) x.er=some (a.pa v)
 |.c t,x,v,hv=>Yb0 (Yby (d:=6) hv) (Ybz (d:=6) hv) (hf t x v hv)|.a ts,x,v,hv=>by
  cases x with|agg cs=>have hv:Zk7 (frzT h [] 6) ts cs=some v:=hv;have h1:=Zk8 hf hv;show(match frzL f (erL cs)with|some l=>some (PA.a l)|none=>none)=_;rw[h1];rfl|_=>cases(show(none:Option (denL ts))=some v from hv)
 |.q ts,x,v,hv=>by
  have hv:argQ h ts x=some v:=hv;have h1:=Yrs hv;cases x with|ptr t ver i off=>show(match ptrC (erH h) (.ptr t ver i off)with|some l=>some (PA.q l)|none=>none)=_;rw[show ptrC (erH h) (.ptr t ver i off)=some (pvL ts v) from h1];rfl|fptr ts' e=>show(match ptrC (erH h) (.fptr (pvL ts' e))with|some l=>some (PA.q l)|none=>none)=_;rw[show ptrC (erH h) (.fptr (pvL ts' e))=some (pvL ts v) from h1];rfl|_=>cases hv
theorem Zcw{h:List TObj}{f:AV->Option PV}(hf:∀t x v,frzT h [] 6 t x=some v->f x.er=some (t.pv v)):∀{as:List AT} {xs:List TV} {e:Zg9 as},Zh9 h as xs=some e->Zew f (ptrC (erH h)) (erL xs)=some (pasL as e)
 |[],[],e,hv=>rfl|[],_::_,e,hv=>by simp[Zh9]at hv|_::_,[],e,hv=>by simp[Zh9]at hv|a::as,x::xs,e,hv=>by
  simp only[Zh9]at hv;split at hv;rename_i v vs h1 h2;obtain rfl:=J0a hv;simp only[erL,Zew,Yrt hf h1,Zcw hf h2,pasL];grind
theorem Zuy{x:AV}{y:PV}:∀{d:Nat},frz [] [] d x=some y->frzP x=some y|0,h=>by simp[frz]at h|d+1,h=>by unfold frz at h;split at h<;>first|exact h|grind|(cases h;done)
structure TCon where
 args:List AT
 res:List RT
 fn:Zg9 args->Option (Xj res)
def TCon.ok(P:Program)(f:FuncId)(c:TCon):Prop:=∀a r,c.fn a=some r->Spec P f (pasL c.args a) (raL c.res r)
abbrev Tab:=FuncId->Option TCon
def Tab.ok(P:Program)(tab:Tab):Prop:=∀f c,tab f=some c->c.ok P f
def Zac(s:List TV)(d:Option Nat)(v:TV):List TV := match d with|none=>s|some d=>s.set d v
theorem Qj(s:List TV)(d:Option Nat)(v:TV):erL (Zac s d v)=setD (erL s) d v.er:=by cases d<;>simp[Zac,setD,Yk,List.map_set]
def Yk5(h:List TObj):TEff->List TObj|.none=>h|.new o=>h++[o]|.upd t o=>h.set t o
theorem Yk6(h:List TObj)(e:TEff):erH (Yk5 h e)=effH (erH h) e.er:=by cases e<;>simp[Yk5,effH,TEff.er,erH,List.map_set]
theorem Zns(a b:List TObj):erH (a++b)=erH a++erH b:=by simp[erH]
theorem Zoe{α:Type}:∀{l:List α} {i:Nat} {x:α},l[i]? = some x->l.set i x=l|[],i,x,h=>by simp at h|a::l,0,x,h=>by grind|a::l,i+1,x,h=>by simp only[List.set_cons_succ];rw[Zoe (by grind)]
section
variable {R:Type} {r:R} {P:Program} {tab:Tab}
def Zwq(st:TSt)(d:Nat)(k:Bool->TSt->Option R)(els:Option R):Option R := match st.slots[d]? with|some (.p .bool b)=>cond (b:Bool) (k true ⟨st.slots.set d (.p .bool true),st.heap⟩) (k false ⟨st.slots.set d (.p .bool false),st.heap⟩)|_=>els
variable {st:TSt}
theorem Zwr{d:Nat}{k:Bool->TSt->Option R}{els:Option R}(h:Zwq st d k els=some r):(∃b st',st'.er=st.er/\(erL st.slots)[d]? = some (.p (.bool b))/\k b st' = some r)∨els=some r:=by
 unfold Zwq at h;split at h;rename_i b hb;left;have hs:(erL st.slots)[d]? = some (.p (.bool b)):=by rw[Zb0,hb];rfl
 have he:∀b' : Bool,b' = b->(⟨st.slots.set d (.p .bool b'),st.heap⟩:TSt).er=st.er:=by grind[TSt.er,Zoe]
 cases hb2:(b:Bool)with|true=>rw[show(b:Bool)=true from hb2]at h;grind|false=>rw[show(b:Bool)=false from hb2]at h;grind
 grind
def Zws(st:TSt)(g:Option (Nat×Bool))(k:Bool->TSt->Option R):Option R :=
 match g with
 |none=>k true st|some (d,b)=>Zwq st d (λb' st=>k (b' == b) st) (match st.slots[d]? with
  |some (.raw .u)=>k false st|_=>none)
theorem Zwt{g:Option (Nat×Bool)}{k:Bool->TSt->Option R}(h:Zws st g k=some r):∃b st',Zk (erL st.slots) g=some b/\st'.er=st.er/\k b st' = some r:=by unfold Zws at h;grind[Zwr,Zk,Zb0,TV.er]
def Z4u(mask:List TObj->List TObj)(st:TSt)(ao:AOp)(k:TSt->TV->TEff->Option R):Option R := match ao with|.pick (.t d) a b=>Zwq st d (λ_ st=>Z2k (mask st.heap) st.heap.length (AOpd.tev st.slots) ao λy e=>k st y e) (Z2k (mask st.heap) st.heap.length (AOpd.tev st.slots) ao λy e=>k st y e)|_=>Z2k (mask st.heap) st.heap.length (AOpd.tev st.slots) ao λy e=>k st y e
theorem Z4v{st': TSt}(h:st'.er=st.er):erL st'.slots=erL st.slots/\erH st'.heap=erH st.heap:=by grind[TSt.er]
theorem Z8b{mask:List TObj->List TObj}{mask' : List AObj->List AObj}(hm:∀h,erH (mask h)=mask' (erH h)){ao:AOp}{k:TSt->TV->TEff->Option R}(h:Z4u mask st ao k=some r) :
    ∃st' y eff,st'.er=st.er/\Zb (mask' (erH st.heap)) (erH st.heap).length (AOpd.eval (erL st.slots)) ao=some ((y:TV).er,(eff:TEff).er)/\k st' y eff=some r:=by
  have base:∀st' : TSt,st'.er=st.er->(Z2k (mask st'.heap) st'.heap.length (AOpd.tev st'.slots) ao λy e=>k st' y e)=some r ->
      ∃st' y eff,st'.er=st.er/\Zb (mask' (erH st.heap)) (erH st.heap).length (AOpd.eval (erL st.slots)) ao=some ((y:TV).er,(eff:TEff).er)/\k st' y eff=some r:=λst' he h=>by
    obtain⟨h1,h2⟩:=Z4v he;obtain⟨y,eff,h3,h4⟩:=Yro (ρ' := AOpd.eval (erL st.slots)) (λo=>by rw[Zk6,h1]) h;grind[Z7]
  unfold Z4u at h;grind[Zwr]
def Yb1:(t:CT)->t.den->Option R->Option R|.sl ts,v,k=>cond (List.isEmpty (α:=denL ts) v) k none|.bool,_,k=>k|.int _,_,k=>k|.str,_,k=>k
def Zgh:(xs:List RCT)->Zha xs->Option R->Option R|[],_,k=>k|.p t::xs,e,k=>Yb1 t e.1 (Zgh xs e.2 k)|.s _ _ ts::xs,e,k=>cond (ts.all CT.plain) (Zgh xs e.2 k) none|.ifc::xs,e,k=>Zgh xs e.2 k
def flatK:(xs:List RT)->Xj xs->Option R->Option R|[],_,k=>k|.c x::xs,e,k=>Zgh [x] (e.1,()) (flatK xs e.2 k)|.a ys::xs,e,k=>Zgh ys e.1 (flatK xs e.2 k)
theorem Yk7:∀{t:CT} {v:t.den} {k:Option R},Yb1 t v k=some r->(t.pv v).flat=true/\k=some r
 |.sl ts,v,k,h=>by
  have h:cond (List.isEmpty (α:=denL ts) v) k none=some r:=h;revert h;show cond (List.isEmpty (α:=denL ts) (id v)) k none=some r->_;have key:∀l:List (denL ts),cond l.isEmpty k none=some r->((CT.sl ts).pv l).flat=true/\k=some r
   |[],h=>⟨rfl,h⟩|_::_,h=>by cases h
  grind
 |.bool,_,_,h=>⟨rfl,h⟩|.int _,_,_,h=>⟨rfl,h⟩|.str,_,_,h=>⟨rfl,h⟩
theorem Zla:∀{xs:List RCT} {e:Zha xs} {k:Option R},Zgh xs e k=some r->((rcL xs e).all RC.flat)=true/\k=some r
 |[],_,_,h=>⟨rfl,h⟩|.p t::xs,e,k,h=>by obtain⟨h1,h2⟩:=Yk7 (show Yb1 t e.1 (Zgh xs e.2 k)=some r from h);obtain⟨h3,h4⟩:=Zla h2;refine⟨?_,h4⟩;simp only[rcL,List.all_cons,h3,Bool.and_true];exact h1|.s a z ts::xs,e,k,h=>by
  have h:cond (ts.all CT.plain) (Zgh xs e.2 k) none=some r:=h;cases hp:ts.all CT.plain with|true=>rw[hp]at h;obtain⟨h3,h4⟩:=Zla h;refine⟨?_,h4⟩;simp only[rcL,List.all_cons,h3,Bool.and_true];exact RCT.plain_flat (x:=.s a z ts) hp e.1|false=>grind
 |.ifc::xs,e,k,h=>by obtain⟨h3,h4⟩:=Zla (show Zgh xs e.2 k=some r from h);refine⟨?_,h4⟩;simp only[rcL,List.all_cons,h3,Bool.and_true];rfl
theorem Zuz:∀{xs:List RT} {e:Xj xs} {k:Option R},flatK xs e k=some r->Yr (raL xs e)=true/\k=some r|[],_,_,h=>⟨rfl,h⟩|.c x::xs,e,k,h=>by obtain⟨h1,h2⟩:=Zla (show Zgh [x] (e.1,()) (flatK xs e.2 k)=some r from h);obtain⟨h3,h4⟩:=Zuz h2;refine⟨?_,h4⟩;simp only[rcL,List.all_cons,List.all_nil,Bool.and_true]at h1;simp only[Yr,raL,List.all_cons,J0e]at h3 ⊢;exact⟨h1,h3⟩|.a ys::xs,e,k,h=>by obtain⟨h1,h2⟩:=Zla (show Zgh ys e.1 (flatK xs e.2 k)=some r from h);obtain⟨h3,h4⟩:=Zuz h2;refine⟨?_,h4⟩;simp only[Yr,raL,List.all_cons,J0e]at h3 ⊢;exact⟨h1,h3⟩
def Yk8(c:Option TCon)(h:List TObj)(xs:List TV)(k:TV->List TObj->Option R):Option R :=
 match c with
 |none=>none|some c =>
  match Zh9 [] c.args xs with
  |some a=>match c.fn a with
   |some rs=>k (retT (valR h.length c.res rs)) (objR c.res rs)|none=>none
  |none=>match Zh9 h c.args xs with
   |some a=>if c.res.all RT.plain then(match c.fn a with
    |some rs=>k (retT (valR h.length c.res rs)) (objR c.res rs)|none=>none)else none
   |none=>none
variable {xs:List TV}
theorem Yru(ht:tab.ok P){f:FuncId}{h:List TObj}{k:TV->List TObj->Option R}(hr:Yk8 (tab f) h xs k=some r) :
    ∃mode pas rs y os,Yt (erH h) mode (erL xs)=some pas/\Spec P f pas rs/\(mode=true∨Yr rs=true)/\(y:TV).er=retV (Zg (erH h).length rs)/\erH os=Za rs/\k y os=some r:=by
  unfold Yk8 at hr;split at hr;cases hr;rename_i c hc;split at hr;rename_i a ha;split at hr;rename_i rs hrs;refine⟨true,_,_,_,_,?_,ht f c hc a rs hrs,.inl rfl,?_,(Zfm c.res rs).1,hr⟩;simp only[Yt,if_true];exact Zcw (λt x v hv=>Zuy (show frz [] [] 6 _=_ from Zah (h:=[]) hv)) ha;grind[Zi5,Zi4,Z7];grind;split at hr;rename_i a ha;split at hr;rename_i hp;split at hr;rename_i rs hrs;refine⟨false,_,_,_,_,?_,ht f c hc a rs hrs,.inr (Zqh hp rs),?_,(Zfm c.res rs).1,hr⟩;grind[Yt,Zcw,Zah];grind[Zi5,Zi4,Z7];grind;grind;grind
def Z4w(c:Option TCon)(h:List TObj)(xs:List TV)(k:TV->List TObj->Option R):Option R :=
 match c with
 |none=>none|some c =>
  match Zh9 [] c.args xs with
  |some a=>match c.fn a with
   |some rs=>k (retT (valR h.length c.res rs)) (objR c.res rs)|none=>none
  |none=>match Zh9 h c.args xs with
   |some a=>(match c.fn a with
    |some rs=>flatK c.res rs (k (retT (valR h.length c.res rs)) (objR c.res rs))|none=>none)
   |none=>none
theorem Z8c(ht:tab.ok P){f:FuncId}{h:List TObj}{k:TV->List TObj->Option R}(hr:Z4w (tab f) h xs k=some r) :
    ∃c mode pas rs y os,tab f=some c/\Yt (erH h) mode (erL xs)=some pas/\Spec P f pas rs/\(mode=true∨Yr rs=true)/\(y:TV).er=retV (Zg (erH h).length rs)/\erH os=Za rs/\k y os=some r:=by
  unfold Z4w at hr;split at hr;cases hr;rename_i c hc;split at hr;rename_i a ha;split at hr;rename_i rs hrs;refine⟨c,true,_,_,_,_,hc,?_,ht f c hc a rs hrs,.inl rfl,?_,(Zfm c.res rs).1,hr⟩;simp only[Yt,if_true];exact Zcw (λt x v hv=>Zuy (show frz [] [] 6 _=_ from Zah (h:=[]) hv)) ha;grind[Zi5,Zi4,Z7];grind;split at hr;rename_i a ha;split at hr;rename_i rs hrs;obtain⟨hf,hr⟩:=Zuz hr;refine⟨c,false,_,_,_,_,hc,?_,ht f c hc a rs hrs,.inr hf,?_,(Zfm c.res rs).1,hr⟩;grind[Yt,Zcw,Zah];grind[Zi5,Zi4,Z7];grind;grind
theorem Zof{f:FuncId}{xs:List AV}{h:List AObj}{mode:Bool}{pas:List PA}{rs:List RA}(hp:Yt h mode xs=some pas)(hs:Spec P f pas rs)(hm:mode=true∨Yr rs=true):Z7e P f xs h (retV (Zg h.length rs)) (h++Za rs):=by
 intro B w0 ι w cargs hh hsz hrel;have fin:∀(O:Nat->Prop),(∀g,O g->g<w.heap.size)->Zcb w O pas cargs->(Yr rs=true∨O=Own h.length ι) ->
     Calls P f cargs w λe w' => ∃v ι',e = .returned v/\HRel B w0 (h++Za rs) ι' w' /\ EX h ι w (h++Za rs) ι' w' /\ VR (h++Za rs) ι' w' (retV (Zg h.length rs)) v:=by
   intro O hOs hpr hm;refine(hs O w cargs hOs hh.globw hpr).mono λe w' he=>?_;obtain⟨v,κ,rfl,hkO,hk,hv⟩:=he;have hsr:SR B w0 ⟨[.any],h⟩ ι ⟨#[undef],ι.D⟩ w:=⟨hh,rfl,λi x v hx hv=>by
    cases i with|zero=>simp at hx;subst hx;exact .any v|succ i=>grind,rfl⟩
   obtain⟨h1,h2⟩:=join_step hsr hk hv (hm.imp id (λe=>by grind)) (some 0);refine⟨v,_,rfl,h1.heap,h2,?_⟩;exact h1.slot 0 _ v rfl rfl
 unfold Yt at hp;cases mode with
 |true =>
  simp only[if_true]at hp;exact fin _ (λg hg=>by
   rcases hg with hg|⟨t,ht,hb⟩
   exact Nat.lt_of_lt_of_le (hh.old g hg) hh.size;exact(hh.own ht hb).2) (Zfx (λx v y hv hf=>Zvn hv hf) (λx v l hv hg=>Zrs hv hg) hsz hrel hp) (.inr rfl)
 |false=>simp only[J0r,if_false]at hp;exact fin (λ_=>False) (λ_ h=>h.elim) (Zfx (λx v y hv hf=>Zg4 hh (λ_ h=>h.elim) (λ_ _ _ _ _ h=>h) 6 hv hf) (λx v l hv hg=>Zvo hh hv hg) hsz hrel hp) (.inl (by grind))
def Ytl(s:AStep)(tab:Tab)(st:TSt)(k:TSt->Option R):Option R :=
 Zws st s.guard λb st =>
  match b with
  |false=>k ⟨Zac st.slots s.dst (.raw .u),st.heap⟩|true =>
   match s.op with
   |.op ao=>Z4u id st ao λst y e=>k ⟨Zac st.slots s.dst y,Yk5 st.heap e⟩|.call f args=>Yk8 (tab f) st.heap (args.map (AOpd.tev st.slots)) λy os=>k ⟨Zac st.slots s.dst y,st.heap++os⟩|.callv x args=>match x.tev st.slots with
    |.fn g caps=>Z4w (tab g) st.heap (args.map (AOpd.tev st.slots)++caps) λy os=>k ⟨Zac st.slots s.dst y,st.heap++os⟩|_=>none
theorem Zef(s:List TV)(args:List AOpd):erL (args.map (AOpd.tev s))=args.map (AOpd.eval (erL s)):=by grind[Yk,List.map_congr_left,Zk6]
def Zlb(tab:Tab):List AStep->TSt->(TSt->Option R)->Option R|[],st,k=>k st|s::ss,st,k=>Ytl s tab st λst=>Zlb tab ss st k
theorem Zgi(ht:tab.ok P)(hcb:∀f c,tab f=some c->callable P f=true):∀{ss:List AStep} {st:TSt} {k:TSt->Option R},Zlb tab ss st k=some r -> ∃st' : TSt,ASteps P ss st.er st'.er/\k st' = some r
 |[],st,k,h=>⟨st,.nil _,h⟩|s::ss,st,k,h=>by
  simp only[Zlb,Ytl]at h;obtain⟨b,st1,h1,h2,h3⟩:=Zwt h;cases b with
  |false=>obtain⟨st',h4,h5⟩:=Zgi ht hcb h3;refine⟨st',.skip _ _ _ _ h1 ?_,h5⟩;grind[TSt.er,Qj,TV.er]|true =>
   simp only at h3;split at h3;rename_i ao ho;obtain⟨st2,y,eff,h4,h5,h6⟩:=Z8b (mask' := id) (λ_=>rfl) h3;obtain⟨st',h7,h8⟩:=Zgi ht hcb h6;refine⟨st',.op _ ao _ _ y.er eff.er _ ho h1 ?_ ?_,h8⟩;rw[<- h2];exact h5;grind[TSt.er,Qj,Yk6];rename_i f args ho;obtain⟨mode,pas,rs,y,os,h4,h5,h6,h7,h8,h9⟩:=Yru ht h3;obtain⟨st',h10,h11⟩:=Zgi ht hcb h9;refine⟨st',.call _ f args mode pas rs _ _ _ ho h1 ?_ h5 h6 ?_,h11⟩;rw[<- h2];rw[Zef]at h4;exact h4;grind[TSt.er,Qj,Zns];rename_i x args ho;split at h3;rename_i g caps hx;obtain⟨c,mode,pas,rs,y,os,hc,h4,h5,h6,h7,h8,h9⟩:=Z8c ht h3;obtain⟨st',h10,h11⟩:=Zgi ht hcb h9;have hx' : x.eval st.er.slots = .fn g (erL caps):=by rw[<- h2];show x.eval (erL st1.slots)=_;rw[<- Zk6,hx];rfl
   refine⟨st',.inv _ x g (erL caps) args (retV (Zg (erH st1.heap).length rs)) (erH st1.heap++Za rs) _ _ _ ho h1 hx' (hcb g c hc) ?_ ?_,h11⟩;rw[<- h2];have:=Zof h4 h5 h6;rw[Zi2,Zef]at this;exact this;grind[TSt.er,Qj,Zns];grind
end
end Go.Abs
namespace Go.Abs
variable [GTab] [Glob]
theorem Yrv(h:List TObj)(t:Nat)(o:TObj):erH (h.set t o)=(erH h).set t o.er:=by simp[erH,List.map_set]
def Yyh:TObj:=⟨0,0,0,.lit []⟩
def Z2o(tau:List Nat):Nat->List TObj->List TObj|_,[]=>[]|i,o::os=>(if tau.contains i then o else Yyh)::Z2o tau (i+1) os
theorem Zqi(tau:List Nat):∀(i:Nat) (h:List TObj),erH (Z2o tau i h)=Za0 tau i (erH h)|_,[]=>rfl|i,o::os=>by have ih:=Zqi tau (i+1) os;simp only[Z2o,erH,List.map_cons,Za0]at ih ⊢;rw[ih];congr 1;split<;>rfl
def Zr1(h:List TObj):Nat->TV->List Nat|0,_=>[]|n+1,x => match x with|.row t _=>t::(match h[t]? with|some o=>(match o.el with|.lit es=>es.flatMap λe=>e.flatMap (Zr1 h n)|.sym _ _=>[])|none=>[])|.sl t _ _ _ _=>t::(match h[t]? with|some o=>(match o.el with|.lit es=>es.flatMap λe=>e.flatMap (Zr1 h n)|.sym _ _=>[])|none=>[])|.agg cs=>cs.flatMap (Zr1 h n)|.ptr t _ _ _=>t::(match h[t]? with|some o=>(match o.el with|.lit es=>es.flatMap λe=>e.flatMap (Zr1 h n)|.sym _ _=>[])|none=>[])|_=>[]
section
variable {R:Type} {r:R} {P:Program} {tab:Tab}
def Yb2(s:AStep)(tab:Tab)(st:TSt)(k:TSt->List Nat->List Nat->Option R):Option R :=
 Zws st s.guard λb st =>
  match b with
  |false=>k ⟨Zac st.slots s.dst (.raw .u),st.heap⟩ [] []|true =>
   match s.op with
   |.op ao =>
    let τ:=touch (λo=>(o.tev st.slots).er) ao
    Z4u (Z2o τ 0) st ao λst y e=>match e with
     |.none=>k ⟨Zac st.slots s.dst y,st.heap⟩ [] τ|.new o=>k ⟨Zac st.slots s.dst y,st.heap++[o]⟩ [st.heap.length] (st.heap.length::τ)|.upd t o=>match decide (t<st.heap.length)with
      |true=>k ⟨Zac st.slots s.dst y,st.heap.set t o⟩ [t] τ|false=>none
   |.call f args =>
    match tab f with
    |none=>none|some c =>
     match Zh9 [] c.args (args.map (AOpd.tev st.slots))with
     |some a=>match c.fn a with
      |some rs=>k ⟨Zac st.slots s.dst (retT (valR st.heap.length c.res rs)),st.heap++objR c.res rs⟩ (List.range' st.heap.length (cntR c.res)) (List.range' st.heap.length (cntR c.res))|none=>none
     |none =>
      let τ:=(args.map (AOpd.tev st.slots)).flatMap (Zr1 st.heap 6)++List.range' st.heap.length (cntR c.res)
      match Zh9 (Z2o τ 0 st.heap) c.args (args.map (AOpd.tev st.slots))with
      |some a=>if c.res.all RT.plain then(match c.fn a with
       |some rs=>k ⟨Zac st.slots s.dst (retT (valR st.heap.length c.res rs)),st.heap++objR c.res rs⟩ (List.range' st.heap.length (cntR c.res)) τ|none=>none)else none
      |none=>none
   |.callv x args=>match x.tev st.slots with
    |.fn f caps=>(match tab f with
     |none=>none|some c =>
      match Zh9 [] c.args (args.map (AOpd.tev st.slots)++caps)with
      |some a=>(match c.fn a with
       |some rs=>k ⟨Zac st.slots s.dst (retT (valR st.heap.length c.res rs)),st.heap++objR c.res rs⟩ (List.range' st.heap.length (cntR c.res)) (List.range' st.heap.length (cntR c.res))|none=>none)
      |none =>
       let τ:=(args.map (AOpd.tev st.slots)++caps).flatMap (Zr1 st.heap 6)++List.range' st.heap.length (cntR c.res)
       match Zh9 (Z2o τ 0 st.heap) c.args (args.map (AOpd.tev st.slots)++caps)with
       |some a=>(match c.fn a with
        |some rs=>flatK c.res rs (k ⟨Zac st.slots s.dst (retT (valR st.heap.length c.res rs)),st.heap++objR c.res rs⟩ (List.range' st.heap.length (cntR c.res)) τ)|none=>none)
       |none=>none)
    |_=>none
theorem Zpe:∀(os:List AObj) (T:Nat),(tagged T os).map (·.1)=List.range' T os.length|[],_=>rfl|o::os,T=>by simp[tagged,Zpe os,List.range'_succ]
theorem Yk9(ht:tab.ok P)(hcb:∀g c,tab g=some c->callable P g=true){s:AStep}{st:TSt}{k:TSt->List Nat->List Nat->Option R}(h:Yb2 s tab st k=some r) :
    ∃(y:AV) (wr:List (Nat×AObj)) (tau:List Nat) (h1:List AObj) (st' : TSt),StepS P s tau st.er y wr h1/\st'.er=⟨setD st.er.slots s.dst y,h1⟩/\k st' (wr.map (·.1)) tau=some r:=by
  unfold Yb2 at h;obtain⟨b,st1,h1,h2,h3⟩:=Zwt h;cases b with
  |false=>refine⟨.u,[],[],st.er.heap,_,.skip h1,?_,h3⟩;grind[TSt.er,Qj,TV.er]|true =>
   simp only at h3;split at h3;rename_i ao ho;obtain⟨st2,y,eff,h4,h5,h6⟩:=Z8b (mask' := Za0 (touch (λo=>(o.tev st1.slots).er) ao) 0) (λh=>Zqi _ _ h) h3;have hlen:st2.heap.length=st1.heap.length:=by grind[Z4v,Z7]
   have e1:erL st2.slots=st.er.slots:=by rw[(Z4v h4).1];rw[<- h2];rfl
   have e2:erH st2.heap=st.er.heap:=by rw[(Z4v h4).2];rw[<- h2];rfl
   have e3:st1.heap.length=st.er.heap.length:=by grind[Z7]
   have h5' : Zb (Za0 (touch (λo=>(o.tev st1.slots).er) ao) 0 st.er.heap) st.er.heap.length (AOpd.eval st.er.slots) ao=some (y.er,eff.er):=by rw[<- h2];exact h5
   cases eff with
   |none => refine⟨y.er,[],_,st.er.heap,⟨Zac st2.slots s.dst y,st2.heap⟩,.op ao _ .none ho h1 h5' (λt o e=>by cases e),?_,?_⟩;grind[TSt.er,Qj];grind|new o => refine⟨y.er,[(st.er.heap.length,o.er)],st1.heap.length::touch (λo=>(o.tev st1.slots).er) ao,st.er.heap++[o.er],⟨Zac st2.slots s.dst y,st2.heap++[o]⟩,.op ao _ (.new o.er) ho h1 (Ziz (Zru λt ht=>by grind) h5') (λt o e=>by cases e),?_,?_⟩;simp only[TSt.er,Qj,Zns,e1,e2];rfl;grind|upd t o =>
    simp only at h6;split at h6;rename_i hd;refine⟨y.er,[(t,o.er)],_,st.er.heap.set t o.er,⟨Zac st2.slots s.dst y,st2.heap.set t o⟩,.op ao _ (.upd t o.er) ho h1 h5' (λt' o' e=>by grind),?_,?_⟩;have h7:erH (st2.heap.set t o)=st.er.heap.set t o.er:=by rw[Yrv,e2]
    have h8:erL (Zac st2.slots s.dst y)=setD st.er.slots s.dst y.er:=by rw[Qj,e1]
    show(⟨_,_⟩:St)=_;grind;grind;grind
   rename_i f args ho;have e1:erL st1.slots=st.er.slots:=by rw[<- h2];rfl
   have e2:erH st1.heap=st.er.heap:=by rw[<- h2];rfl
   split at h3;cases h3;rename_i c hc;have post:∀rs:Xj c.res,(⟨Zac st1.slots s.dst (retT (valR st1.heap.length c.res rs)),st1.heap++objR c.res rs⟩:TSt).er=⟨setD st.er.slots s.dst (retV (Zg st.er.heap.length (raL c.res rs))),st.er.heap++Za (raL c.res rs)⟩:=λrs=>by grind[TSt.er,Qj,Zns,Zi5,Zi4,Zfm,Z7]
   have tg:∀rs:Xj c.res,(tagged st.er.heap.length (Za (raL c.res rs))).map (·.1)=List.range' st1.heap.length (cntR c.res):=λrs=>by grind[Zpe,Zfm,Z7]
   split at h3;rename_i a ha;split at h3;rename_i rs hrs;refine⟨_,_,List.range' st1.heap.length (cntR c.res),_,_,.call f _ true (pasL c.args a) (raL c.res rs) (.st args ho) h1 ?_ (ht f c hc a rs hrs) (.inl rfl),post rs,by grind⟩;have:=Zcw (λt x v hv=>Zuy (show frz [] [] 6 _=_ from Zah (h:=[]) hv)) ha;rw[Zef,e1]at this;simp only[Yt,if_true];exact this;grind;split at h3;rename_i a ha;split at h3;rename_i hp;split at h3;rename_i rs hrs;refine⟨_,_,_,_,_,.call f _ false (pasL c.args a) (raL c.res rs) (.st args ho) h1 ?_ (ht f c hc a rs hrs) (.inr (Zqh hp rs)),post rs,by rw[tg];exact h3⟩;grind[Zcw,Zah,Zef,Zqi,Yt];grind;grind;grind;rename_i x args ho;have e1:erL st1.slots=st.er.slots:=by rw[<- h2];rfl
   have e2:erH st1.heap=st.er.heap:=by rw[<- h2];rfl
   split at h3;rename_i f caps hx;have hx' : x.eval st.er.slots = .fn f (erL caps):=by rw[<- e1,<- Zk6,hx];rfl
   split at h3;cases h3;rename_i c hc;have post:∀rs:Xj c.res,(⟨Zac st1.slots s.dst (retT (valR st1.heap.length c.res rs)),st1.heap++objR c.res rs⟩:TSt).er=⟨setD st.er.slots s.dst (retV (Zg st.er.heap.length (raL c.res rs))),st.er.heap++Za (raL c.res rs)⟩:=λrs=>by grind[TSt.er,Qj,Zns,Zi5,Zi4,Zfm,Z7]
   have tg:∀rs:Xj c.res,(tagged st.er.heap.length (Za (raL c.res rs))).map (·.1)=List.range' st1.heap.length (cntR c.res):=λrs=>by grind[Zpe,Zfm,Z7]
   split at h3;rename_i a ha;split at h3;rename_i rs hrs;refine⟨_,_,List.range' st1.heap.length (cntR c.res),_,_,.call f _ true (pasL c.args a) (raL c.res rs) (.vl x args (erL caps) ho hx' (hcb f c hc)) h1 ?_ (ht f c hc a rs hrs) (.inl rfl),post rs,by grind⟩;have:=Zcw (λt x v hv=>Zuy (show frz [] [] 6 _=_ from Zah (h:=[]) hv)) ha;rw[Zi2,Zef,e1]at this;simp only[Yt,if_true];exact this;grind;split at h3;rename_i a ha;split at h3;rename_i rs hrs;obtain⟨hf,h3⟩:=Zuz h3;refine⟨_,_,_,_,_,.call f _ false (pasL c.args a) (raL c.res rs) (.vl x args (erL caps) ho hx' (hcb f c hc)) h1 ?_ (ht f c hc a rs hrs) (.inr hf),post rs,by rw[tg];exact h3⟩;grind[Zcw,Zah,Zi2,Zef,Zqi,Yt];grind;grind;grind
def Zqj(tab:Tab)(fin:List (List Nat×List Nat)->Bool):List AStep->List (List Nat×List Nat)->TSt->(TSt->Option R)->Option R|[],done,st,k=>cond (fin done) (k st) none|s::ss,done,st,k=>Yb2 s tab st λst wr tau=>Zqj tab fin ss (done++[(wr,tau)]) st k
theorem Z2p(ht:tab.ok P)(hcb:∀g c,tab g=some c->callable P g=true){pre:List Nat}{all:List AStep}:∀{ss:List AStep} {done:List (List Nat×List Nat)} {st:TSt} {k:TSt->Option R},Zqj tab (ordT pre all) ss done st k=some r->DE P pre all done ss st.er (λs=>∃ts:TSt,s=ts.er/\k ts=some r)|[],done,st,k,h=>by obtain⟨h1,h2⟩:=Qo h;exact .nil h1 ⟨st,rfl,h2⟩|s::ss,done,st,k,h=>by simp only[Zqj]at h;obtain⟨y,wr,tau,h1,st',h2,h3,h4⟩:=Yk9 ht hcb h;refine .step h2 ?_;rw[<- h3];exact Z2p ht hcb h4
end
end Go.Abs
