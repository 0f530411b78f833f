/- The abstract machine and its soundness, part B1. -/
import Derived.Test.YtmkkpgcecpnejaaGreatDoorEAbsCut
set_option linter.constructorNameAsVariable false
set_option linter.unusedVariables false
set_option linter.unusedSimpArgs false
set_option linter.unusedSectionVars false
namespace Go.Abs
variable [GTab] [Glob]

def AT.den:AT->Type
 | .c t=>t.den
 | .a ts=>denL ts
 | .q ts=>denL ts
def Zfw:List AT->Type
 | []=>Unit
 | a::as=>a.den×Zfw as
def AT.pa:(a:AT)->a.den->PA
 | .c t,v=>.c (t.pv v)
 | .a ts,e=>.a (pvL ts e)
 | .q ts,e=>.q (pvL ts e)
def pasL:(as:List AT)->Zfw as->List PA
 | [],_=>[]
 | a::as,e=>a.pa e.1::pasL as e.2

inductive RCT where
 | p (t:CT)
 | s (e size:Nat) (ts:List CT)
 | ifc
 deriving Inhabited
inductive RT where
 | c (x:RCT)
 | a (xs:List RCT)
 deriving Inhabited
def RCT.den:RCT->Type
 | .p t=>t.den
 | .s _ _ ts=>List (denL ts)
 | .ifc=>Bool
def Zfx:List RCT->Type
 | []=>Unit
 | x::xs=>x.den×Zfx xs
def RT.den:RT->Type
 | .c x=>x.den
 | .a xs=>Zfx xs
def Xh:List RT->Type
 | []=>Unit
 | x::xs=>x.den×Xh xs
def RCT.rc:(x:RCT)->x.den->RC
 | .p t,v=>.c (t.pv v)
 | .s e size ts,xs=>.s e size (List.map (pvL ts) xs)
 | .ifc,b=>.e b
def rcL:(xs:List RCT)->Zfx xs->List RC
 | [],_=>[]
 | x::xs,e=>x.rc e.1::rcL xs e.2
def RT.ra:(x:RT)->x.den->RA
 | .c x,v=>.c (x.rc v)
 | .a xs,e=>.a (rcL xs e)
def raL:(xs:List RT)->Xh xs->List RA
 | [],_=>[]
 | x::xs,e=>x.ra e.1::raL xs e.2

def RCT.cnt:RCT->Nat
 | .p _=>0
 | .s _ _ _=>1
 | .ifc=>0
def Z7l:List RCT->Nat
 | []=>0
 | x::xs=>x.cnt+Z7l xs
def RT.cnt:RT->Nat
 | .c x=>x.cnt
 | .a xs=>Z7l xs
def cntR:List RT->Nat
 | []=>0
 | x::xs=>x.cnt+cntR xs
def RCT.obj:(x:RCT)->x.den->List TObj
 | .p _,_=>[]
 | .s e size ts,xs=>[⟨1,e,size,.sym ts xs⟩]
 | .ifc,_=>[]
def Zw2:(xs:List RCT)->Zfx xs->List TObj
 | [],_=>[]
 | x::xs,e=>x.obj e.1++Zw2 xs e.2
def RT.obj:(x:RT)->x.den->List TObj
 | .c x,v=>x.obj v
 | .a xs,e=>Zw2 xs e
def objR:(xs:List RT)->Xh xs->List TObj
 | [],_=>[]
 | x::xs,e=>x.obj e.1++objR xs e.2
def RCT.val (T:Nat):(x:RCT)->x.den->TV
 | .p t,v=>.p t v
 | .s _ _ _,_=>.row T 1
 | .ifc,b=>.ifb b
def Z7m:Nat->(xs:List RCT)->Zfx xs->List TV
 | _,[],_=>[]
 | T,x::xs,e=>x.val T e.1::Z7m (T+x.cnt) xs e.2
def RT.val (T:Nat):(x:RT)->x.den->TV
 | .c x,v=>x.val T v
 | .a xs,e=>.agg (Z7m T xs e)
def valR:Nat->(xs:List RT)->Xh xs->List TV
 | _,[],_=>[]
 | T,x::xs,e=>x.val T e.1::valR (T+x.cnt) xs e.2
def retT:List TV->TV
 | [x]=>x
 | xs=>.tuple xs

theorem RCT.obj_er:∀ (x:RCT) (v:x.den),erH (x.obj v)=Y0 (x.rc v)/\(x.obj v).length=x.cnt
 | .p _,_=>⟨rfl,rfl⟩
 | .ifc,_=>⟨rfl,rfl⟩
 | .s e size ts,xs=>by
  have:∀ ys:List (denL ts),erH [(⟨1,e,size,.sym ts ys⟩:TObj)]=Y0 (.s e size (ys.map (pvL ts))):=fun ys=>by simp [Y0,erH,TObj.er,TE.er,List.map_map,Function.comp_def]
  exact⟨this xs,rfl⟩
theorem Z1t:∀ (xs:List RCT) (e:Zfx xs),erH (Zw2 xs e)=Xa (rcL xs e)/\(Zw2 xs e).length=Z7l xs
 | [],_=>⟨rfl,rfl⟩
 | x::xs,e=>by obtain⟨h1,h2⟩:=x.obj_er e.1;obtain⟨h3,h4⟩:=Z1t xs e.2;exact⟨by simp only [Zw2,rcL,Xa,<- h1,<- h3];simp [erH],by simp [Zw2,Z7l,h2,h4]⟩
theorem RT.obj_er:∀ (x:RT) (v:x.den),erH (x.obj v)=Ze1 (x.ra v)/\(x.obj v).length=x.cnt
 | .c x,v=>x.obj_er v
 | .a xs,e=>Z1t xs e
theorem Zb8:∀ (xs:List RT) (e:Xh xs),erH (objR xs e)=Za (raL xs e)/\(objR xs e).length=cntR xs
 | [],_=>⟨rfl,rfl⟩
 | x::xs,e=>by obtain⟨h1,h2⟩:=x.obj_er e.1;obtain⟨h3,h4⟩:=Zb8 xs e.2;exact⟨by simp only [objR,raL,Za,<- h1,<- h3];simp [erH],by simp [objR,cntR,h2,h4]⟩
theorem RCT.val_er (T:Nat):∀ (x:RCT) (v:x.den),(x.val T v).er=Zbd T (x.rc v)
 | .p _,_=>rfl
 | .s _ _ _,_=>rfl
 | .ifc,_=>rfl
theorem Z1u:∀ (T:Nat) (xs:List RCT) (e:Zfx xs),erL (Z7m T xs e)=X5 T (rcL xs e)
 | _,[],_=>rfl
 | T,x::xs,e=>by
  obtain⟨h1,h2⟩:=x.obj_er e.1;have hl:(Y0 (x.rc e.1)).length=x.cnt:=by rw [<- h1,Z4,h2]
  simp only [Z7m,erL,rcL,X5,x.val_er,hl,Z1u]
theorem RT.val_er (T:Nat):∀ (x:RT) (v:x.den),(x.val T v).er=Zec T (x.ra v)
 | .c x,v=>x.val_er T v
 | .a xs,e=>congrArg AV.agg (Z1u T xs e)
theorem Zhg:∀ (T:Nat) (xs:List RT) (e:Xh xs),erL (valR T xs e)=Zf T (raL xs e)
 | _,[],_=>rfl
 | T,x::xs,e=>by
  obtain⟨h1,h2⟩:=x.obj_er e.1;have hl:(Ze1 (x.ra e.1)).length=x.cnt:=by rw [<- h1,Z4,h2]
  simp only [valR,erL,raL,Zf,x.val_er,hl,Zhg]
theorem Zhh (xs:List TV):(retT xs).er=retV (erL xs):=by
 match xs with
 | []=>rfl
 | [x]=>rfl
 | x::y::xs=>rfl

def CT.plain:CT->Bool
 | .sl _=>false
 | _=>true
theorem CT.plain_flat:∀ {t:CT} (h:t.plain=true) (v:t.den),(t.pv v).flat=true
 | .bool,_,_=>rfl
 | .int _,_,_=>rfl
 | .str,_,_=>rfl
 | .sl _,h,_=>by simp [CT.plain] at h
theorem Z1v:∀ {ts:List CT} (h:ts.all CT.plain=true) (e:denL ts),(pvL ts e).all PV.flat=true
 | [],_,_=>rfl
 | t::ts,h,e=>by simp only [List.all_cons,J0e] at h;simp [pvL,CT.plain_flat h.1 e.1,Z1v h.2 e.2]
def RCT.plain:RCT->Bool
 | .p t=>t.plain
 | .s _ _ ts=>ts.all CT.plain
 | .ifc=>true
def RT.plain:RT->Bool
 | .c x=>x.plain
 | .a xs=>xs.all RCT.plain
theorem RCT.plain_flat:∀ {x:RCT} (h:x.plain=true) (v:x.den),(x.rc v).flat=true
 | .p t,h,v=>CT.plain_flat h v
 | .ifc,_,_=>rfl
 | .s e size ts,h,xs=>by
  have:∀ ys:List (denL ts),((ys.map (pvL ts)).all fun e=>e.all PV.flat)=true:=fun ys=>by simp only [List.all_eq_true,List.mem_map];rintro _ ⟨y,hy,rfl⟩;exact List.all_eq_true.1 (Z1v h y)
  exact this xs
theorem Z1w:∀ {xs:List RCT} (h:xs.all RCT.plain=true) (e:Zfx xs),(rcL xs e).all RC.flat=true
 | [],_,_=>rfl
 | x::xs,h,e=>by simp only [List.all_cons,J0e] at h;simp [rcL,RCT.plain_flat h.1 e.1,Z1w h.2 e.2]
theorem Zna:∀ {xs:List RT} (h:xs.all RT.plain=true) (e:Xh xs),Yk (raL xs e)=true
 | [],_,_=>rfl
 | .c x::xs,h,e=>by simp only [List.all_cons,J0e] at h;have h1:=RCT.plain_flat (x:=x) h.1 e.1;have h2:=Zna h.2 e.2;simp only [Yk,raL,List.all_cons,J0e] at h2 ⊢;exact⟨h1,h2⟩
 | .a ys::xs,h,e=>by simp only [List.all_cons,J0e] at h;have h1:=Z1w (xs:=ys) h.1 e.1;have h2:=Zna h.2 e.2;simp only [Yk,raL,List.all_cons,J0e] at h2 ⊢;exact⟨h1,h2⟩

def argQ (h:List TObj)(ts:List CT):TV->Option (denL ts)
 | .ptr t ver 0 0=>match tget h t ver with
  | some o=>(match o.el with
   | .lit [cells]=>cond (decide (0<cells.length)) (Zi9 (frzT h [] 6) ts cells) none
   | _=>none)
  | none=>none
 | .fptr ts' e=>match Zpv ts' ts [e] with | some [e']=>some e' | _=>none
 | _=>none
def argV (h:List TObj):(a:AT)->TV->Option a.den
 | .c t,x=>frzT h [] 6 t x
 | .a ts,x=>match x with | .agg cs=>Zi9 (frzT h [] 6) ts cs | _=>none
 | .q ts,x=>argQ h ts x
def Zgw (h:List TObj):(as:List AT)->List TV->Option (Zfw as)
 | [],[]=>some ()
 | a::as,x::xs=>match argV h a x,Zgw h as xs with | some v,some vs=>some (v,vs) | _,_=>none
 | _,_=>none

theorem Z4y {h:List TObj}{bad:List Nat}{d:Nat}{t:CT}{x:TV}{v:t.den}(hf:frzT h bad d t x=some v):∀ cs,x.er ≠ .agg cs:=by
 intro cs e;cases d with
 | zero=>cases (show (none:Option t.den)=some v from hf)
 | succ d =>
  cases x with
  | raw w=>have e:w = .agg cs:=e;subst e;have hf:nilC t (.agg cs)=some v:=hf;cases t <;> cases hf
  | agg l=>cases (show (none:Option t.den)=some v from hf)
  | _=>cases e

theorem Z4z {h:List TObj}{bad:List Nat}{d:Nat}{t:CT}{x:TV}{v:t.den}(hf:frzT h bad d t x=some v):(∀ tg ver i off,x.er ≠ .ptr tg ver i off) /\ ∀ cs,x.er ≠ .fptr cs:=by
 cases d with
 | zero=>cases (show (none:Option t.den)=some v from hf)
 | succ d =>
  cases x with
  | raw w =>
   have hf:nilC t w=some v:=hf;constructor
   . intro tg ver i off e;have e:w = .ptr tg ver i off:=e;subst e;cases t <;> cases hf
   . intro cs e;have e:w = .fptr cs:=e;subst e;cases t <;> cases hf
  | ptr a b c d=>cases (show (none:Option t.den)=some v from hf)
  | fptr a b=>cases (show (none:Option t.den)=some v from hf)
  | _=>exact⟨(fun _ _ _ _ e=>nomatch e),(fun _ e=>nomatch e)⟩
theorem Z40 {f:AV->Option PV}{g:AV->Option (List PV)}{a:AV}{v:PV}(hn:∀ cs,a ≠ .agg cs)(hp:(∀ tg ver i off,a ≠ .ptr tg ver i off) /\ ∀ cs,a ≠ .fptr cs)(h:f a=some v):toPA f g a=some (.c v):=by unfold toPA;grind

theorem Ygu {h:List TObj}{ts:List CT}{x:TV}{v:denL ts}(hv:argQ h ts x=some v):ptrC (erH h) x.er=some (pvL ts v):=by
 unfold argQ at hv;split at hv
 . rename_i t ver;split at hv
   . rename_i o ho;split at hv
     . rename_i cells hel;obtain⟨hlt,hv⟩:=Xd hv;have hlt:=of_decide_eq_true hlt;have h1:=Zja (g:=frz (erH h) [] 6) (fun t x v hv=>Zai hv) hv;simp only [TV.er,ptrC,Ye ho];have h2:o.er.elems[0]? = some (erL cells):=by show (o.el.er)[0]? = _;rw [hel];rfl
       rw [h2];simp only [List.drop_zero,Z0];grind
     grind
   grind
 . rename_i ts' e;split at hv
   . rename_i e' he;obtain rfl:=J0a hv;have:=Ze8 he;simp only [List.map_cons,List.map_nil,List.cons.injEq,and_true] at this;simp only [TV.er,ptrC,this]
   grind
 grind

theorem Ygv {h:List TObj}{f:AV->Option PV}(hf:∀ t x v,frzT h [] 6 t x=some v->f x.er=some (t.pv v)):∀ {a:AT} {x:TV} {v:a.den},argV h a x=some v->toPA f (ptrC (erH h)) x.er=some (a.pa v)
 | .c t,x,v,hv=>Z40 (Z4y (d:=6) hv) (Z4z (d:=6) hv) (hf t x v hv)
 | .a ts,x,v,hv=>by
  cases x with
  | agg cs=>have hv:Zi9 (frzT h [] 6) ts cs=some v:=hv;have h1:=Zja hf hv;show (match frzL f (erL cs) with | some l=>some (PA.a l) | none=>none)=_;rw [h1];rfl
  | _=>cases (show (none:Option (denL ts))=some v from hv)
 | .q ts,x,v,hv=>by
  have hv:argQ h ts x=some v:=hv;have h1:=Ygu hv;cases x with
  | ptr t ver i off=>show (match ptrC (erH h) (.ptr t ver i off) with | some l=>some (PA.q l) | none=>none)=_;rw [show ptrC (erH h) (.ptr t ver i off)=some (pvL ts v) from h1];rfl
  | fptr ts' e=>show (match ptrC (erH h) (.fptr (pvL ts' e)) with | some l=>some (PA.q l) | none=>none)=_;rw [show ptrC (erH h) (.fptr (pvL ts' e))=some (pvL ts v) from h1];rfl
  | _=>cases hv
theorem Zb9 {h:List TObj}{f:AV->Option PV}(hf:∀ t x v,frzT h [] 6 t x=some v->f x.er=some (t.pv v)):∀ {as:List AT} {xs:List TV} {e:Zfw as},Zgw h as xs=some e->Zdt f (ptrC (erH h)) (erL xs)=some (pasL as e)
 | [],[],e,hv=>rfl
 | [],_::_,e,hv=>by simp [Zgw] at hv
 | _::_,[],e,hv=>by simp [Zgw] at hv
 | a::as,x::xs,e,hv=>by
  simp only [Zgw] at hv;split at hv
  . rename_i v vs h1 h2;obtain rfl:=J0a hv;simp only [erL,Zdt,Ygv hf h1,Zb9 hf h2,pasL]
  grind
theorem Zq4 {x:AV}{y:PV}:∀ {d:Nat},frz [] [] d x=some y->frzP x=some y
 | 0,h=>by simp [frz] at h
 | d+1,h=>by unfold frz at h;split at h <;> first | exact h | grind | (cases h;done)

structure TCon where
 args:List AT
 res:List RT
 fn:Zfw args->Option (Xh res)
def TCon.ok (P:Program)(f:FuncId)(c:TCon):Prop:=∀ a r,c.fn a=some r->Spec P f (pasL c.args a) (raL c.res r)

abbrev Tab:=FuncId->Option TCon
def Tab.ok (P:Program)(tab:Tab):Prop:=∀ f c,tab f=some c->c.ok P f

def Qz (s:List TV)(d:Option Nat)(v:TV):List TV :=
 match d with
 | none=>s
 | some d=>s.set d v
theorem Qm (s:List TV)(d:Option Nat)(v:TV):erL (Qz s d v)=setD (erL s) d v.er:=by cases d <;> simp [Qz,setD,Yi,List.map_set]
def Ybs (h:List TObj):TEff->List TObj
 | .none=>h
 | .new o=>h++[o]
 | .upd t o=>h.set t o
theorem Ybt (h:List TObj)(e:TEff):erH (Ybs h e)=effH (erH h) e.er:=by cases e <;> simp [Ybs,effH,TEff.er,erH,List.map_set]
theorem Zk2 (a b:List TObj):erH (a++b)=erH a++erH b:=by simp [erH]

theorem Zlp {α:Type}:∀ {l:List α} {i:Nat} {x:α},l[i]? = some x->l.set i x=l
 | [],i,x,h=>by simp at h
 | a::l,0,x,h=>by grind
 | a::l,i+1,x,h=>by simp only [List.set_cons_succ];rw [Zlp (by grind)]

section
variable {R:Type} {r:R} {P:Program} {tab:Tab}

def Zsq (st:TSt)(d:Nat)(k:Bool->TSt->Option R)(els:Option R):Option R :=
 match st.slots[d]? with
 | some (.p .bool b)=>cond (b:Bool) (k true ⟨st.slots.set d (.p .bool true),st.heap⟩) (k false ⟨st.slots.set d (.p .bool false),st.heap⟩)
 | _=>els
theorem Zsr {st:TSt}{d:Nat}{k:Bool->TSt->Option R}{els:Option R}(h:Zsq st d k els=some r):(∃ b st',st'.er=st.er/\(erL st.slots)[d]? = some (.p (.bool b))/\k b st' = some r)∨els=some r:=by
 unfold Zsq at h;split at h
 . rename_i b hb;left;have hs:(erL st.slots)[d]? = some (.p (.bool b)):=by rw [Za8,hb];rfl
   have he:∀ b' : Bool,b' = b->(⟨st.slots.set d (.p .bool b'),st.heap⟩:TSt).er=st.er:=by rintro _ rfl;simp only [TSt.er];rw [Zlp hb]
   cases hb2:(b:Bool) with
   | true=>rw [show (b:Bool)=true from hb2] at h;grind
   | false=>rw [show (b:Bool)=false from hb2] at h;grind
 grind

def Zss (st:TSt)(g:Option (Nat×Bool))(k:Bool->TSt->Option R):Option R :=
 match g with
 | none=>k true st
 | some (d,b)=>Zsq st d (fun b' st=>k (b' == b) st) (match st.slots[d]? with
  | some (.raw .u)=>k false st
  | _=>none)
theorem Zst {st:TSt}{g:Option (Nat×Bool)}{k:Bool->TSt->Option R}(h:Zss st g k=some r):∃ b st',Zl (erL st.slots) g=some b/\st'.er=st.er/\k b st' = some r:=by
 unfold Zss at h;split at h
 . exact⟨true,st,rfl,rfl,h⟩
 . rename_i d b;rcases Zsr h with ⟨b',st',h1,h2,h3⟩ | h
   . exact⟨_,st',by simp only [Zl,h2],h1,h3⟩
   . split at h
     . rename_i hu;exact⟨false,st,by simp only [Zl,Za8,hu,Option.map_some,TV.er],rfl,h⟩
     grind

def Zyy (mask:List TObj->List TObj)(st:TSt)(ao:AOp)(k:TSt->TV->TEff->Option R):Option R :=
 match ao with
 | .pick (.t d) a b=>Zsq st d (fun _ st=>Zwy (mask st.heap) st.heap.length (AOpd.tev st.slots) ao fun y e=>k st y e) (Zwy (mask st.heap) st.heap.length (AOpd.tev st.slots) ao fun y e=>k st y e)
 | _=>Zwy (mask st.heap) st.heap.length (AOpd.tev st.slots) ao fun y e=>k st y e
theorem Zyz {st st' : TSt}(h:st'.er=st.er):erL st'.slots=erL st.slots/\erH st'.heap=erH st.heap:=by simp only [TSt.er,St.mk.injEq] at h;exact h
theorem Z1x {mask:List TObj->List TObj}{mask' : List AObj->List AObj}(hm:∀ h,erH (mask h)=mask' (erH h)){st:TSt}{ao:AOp}{k:TSt->TV->TEff->Option R}(h:Zyy mask st ao k=some r) :
    ∃ st' y eff,st'.er=st.er/\Zb (mask' (erH st.heap)) (erH st.heap).length (AOpd.eval (erL st.slots)) ao=some ((y:TV).er,(eff:TEff).er)/\k st' y eff=some r:=by
  have base:∀ st' : TSt,st'.er=st.er->(Zwy (mask st'.heap) st'.heap.length (AOpd.tev st'.slots) ao fun y e=>k st' y e)=some r ->
      ∃ st' y eff,st'.er=st.er/\Zb (mask' (erH st.heap)) (erH st.heap).length (AOpd.eval (erL st.slots)) ao=some ((y:TV).er,(eff:TEff).er)/\k st' y eff=some r:=fun st' he h=>by
    obtain⟨h1,h2⟩:=Zyz he;obtain⟨y,eff,h3,h4⟩:=Ygq (ρ' := AOpd.eval (erL st.slots)) (fun o=>by rw [Zi8,h1]) h;rw [hm,h2,<- Z4,h2] at h3;grind
  unfold Zyy at h;split at h
  . rcases Zsr h with ⟨b,st',h1,_,h3⟩ | h
    . grind
    grind
  grind

def Z41:(t:CT)->t.den->Option R->Option R
 | .sl ts,v,k=>cond (List.isEmpty (α:=denL ts) v) k none
 | .bool,_,k=>k
 | .int _,_,k=>k
 | .str,_,k=>k
def Zfc:(xs:List RCT)->Zfx xs->Option R->Option R
 | [],_,k=>k
 | .p t::xs,e,k=>Z41 t e.1 (Zfc xs e.2 k)
 | .s _ _ ts::xs,e,k=>cond (ts.all CT.plain) (Zfc xs e.2 k) none
 | .ifc::xs,e,k=>Zfc xs e.2 k
def flatK:(xs:List RT)->Xh xs->Option R->Option R
 | [],_,k=>k
 | .c x::xs,e,k=>Zfc [x] (e.1,()) (flatK xs e.2 k)
 | .a ys::xs,e,k=>Zfc ys e.1 (flatK xs e.2 k)
theorem Ybu:∀ {t:CT} {v:t.den} {k:Option R},Z41 t v k=some r->(t.pv v).flat=true/\k=some r
 | .sl ts,v,k,h=>by
  have h:cond (List.isEmpty (α:=denL ts) v) k none=some r:=h;revert h;show cond (List.isEmpty (α:=denL ts) (id v)) k none=some r->_;have key:∀ l:List (denL ts),cond l.isEmpty k none=some r->((CT.sl ts).pv l).flat=true/\k=some r
   | [],h=>⟨rfl,h⟩
   | _::_,h=>by cases h
  grind
 | .bool,_,_,h=>⟨rfl,h⟩
 | .int _,_,_,h=>⟨rfl,h⟩
 | .str,_,_,h=>⟨rfl,h⟩
theorem Zjc:∀ {xs:List RCT} {e:Zfx xs} {k:Option R},Zfc xs e k=some r->((rcL xs e).all RC.flat)=true/\k=some r
 | [],_,_,h=>⟨rfl,h⟩
 | .p t::xs,e,k,h=>by obtain⟨h1,h2⟩:=Ybu (show Z41 t e.1 (Zfc xs e.2 k)=some r from h);obtain⟨h3,h4⟩:=Zjc h2;refine⟨?_,h4⟩;simp only [rcL,List.all_cons,h3,Bool.and_true];exact h1
 | .s a z ts::xs,e,k,h=>by
  have h:cond (ts.all CT.plain) (Zfc xs e.2 k) none=some r:=h;cases hp:ts.all CT.plain with
  | true=>rw [hp] at h;obtain⟨h3,h4⟩:=Zjc h;refine⟨?_,h4⟩;simp only [rcL,List.all_cons,h3,Bool.and_true];exact RCT.plain_flat (x:=.s a z ts) hp e.1
  | false=>grind
 | .ifc::xs,e,k,h=>by obtain⟨h3,h4⟩:=Zjc (show Zfc xs e.2 k=some r from h);refine⟨?_,h4⟩;simp only [rcL,List.all_cons,h3,Bool.and_true];rfl
theorem Zq5:∀ {xs:List RT} {e:Xh xs} {k:Option R},flatK xs e k=some r->Yk (raL xs e)=true/\k=some r
 | [],_,_,h=>⟨rfl,h⟩
 | .c x::xs,e,k,h=>by obtain⟨h1,h2⟩:=Zjc (show Zfc [x] (e.1,()) (flatK xs e.2 k)=some r from h);obtain⟨h3,h4⟩:=Zq5 h2;refine⟨?_,h4⟩;simp only [rcL,List.all_cons,List.all_nil,Bool.and_true] at h1;simp only [Yk,raL,List.all_cons,J0e] at h3 ⊢;exact⟨h1,h3⟩
 | .a ys::xs,e,k,h=>by obtain⟨h1,h2⟩:=Zjc (show Zfc ys e.1 (flatK xs e.2 k)=some r from h);obtain⟨h3,h4⟩:=Zq5 h2;refine⟨?_,h4⟩;simp only [Yk,raL,List.all_cons,J0e] at h3 ⊢;exact⟨h1,h3⟩

def Ybv (c:Option TCon)(h:List TObj)(xs:List TV)(k:TV->List TObj->Option R):Option R :=
 match c with
 | none=>none
 | some c =>
  match Zgw [] c.args xs with
  | some a=>match c.fn a with
   | some rs=>k (retT (valR h.length c.res rs)) (objR c.res rs)
   | none=>none
  | none=>match Zgw h c.args xs with
   | some a=>if c.res.all RT.plain then (match c.fn a with
    | some rs=>k (retT (valR h.length c.res rs)) (objR c.res rs)
    | none=>none) else none
   | none=>none
theorem Ygw (ht:tab.ok P){f:FuncId}{h:List TObj}{xs:List TV}{k:TV->List TObj->Option R}(hr:Ybv (tab f) h xs k=some r) :
    ∃ mode pas rs y os,Yl (erH h) mode (erL xs)=some pas/\Spec P f pas rs/\(mode=true∨Yk rs=true)/\(y:TV).er=retV (Zf (erH h).length rs)/\erH os=Za rs/\k y os=some r:=by
  unfold Ybv at hr;split at hr
  . cases hr
  . rename_i c hc;split at hr
    . rename_i a ha;split at hr
      . rename_i rs hrs;refine⟨true,_,_,_,_,?_,ht f c hc a rs hrs,.inl rfl,?_,(Zb8 c.res rs).1,hr⟩
        . simp only [Yl,if_true];exact Zb9 (fun t x v hv=>Zq4 (show frz [] [] 6 _=_ from Zai (h:=[]) hv)) ha
        . rw [Zhh,Zhg,Z4]
      grind
    . split at hr
      . rename_i a ha;split at hr
        . rename_i hp;split at hr
          . rename_i rs hrs;refine⟨false,_,_,_,_,?_,ht f c hc a rs hrs,.inr (Zna hp rs),?_,(Zb8 c.res rs).1,hr⟩
            . simp only [Yl,J0r,if_false];exact Zb9 (fun t x v hv=>Zai hv) ha
            . rw [Zhh,Zhg,Z4]
          grind
        grind
      grind

def Zy0 (c:Option TCon)(h:List TObj)(xs:List TV)(k:TV->List TObj->Option R):Option R :=
 match c with
 | none=>none
 | some c =>
  match Zgw [] c.args xs with
  | some a=>match c.fn a with
   | some rs=>k (retT (valR h.length c.res rs)) (objR c.res rs)
   | none=>none
  | none=>match Zgw h c.args xs with
   | some a=>(match c.fn a with
    | some rs=>flatK c.res rs (k (retT (valR h.length c.res rs)) (objR c.res rs))
    | none=>none)
   | none=>none
theorem Z1y (ht:tab.ok P){f:FuncId}{h:List TObj}{xs:List TV}{k:TV->List TObj->Option R}(hr:Zy0 (tab f) h xs k=some r) :
    ∃ c mode pas rs y os,tab f=some c/\Yl (erH h) mode (erL xs)=some pas/\Spec P f pas rs/\(mode=true∨Yk rs=true)/\(y:TV).er=retV (Zf (erH h).length rs)/\erH os=Za rs/\k y os=some r:=by
  unfold Zy0 at hr;split at hr
  . cases hr
  . rename_i c hc;split at hr
    . rename_i a ha;split at hr
      . rename_i rs hrs;refine⟨c,true,_,_,_,_,hc,?_,ht f c hc a rs hrs,.inl rfl,?_,(Zb8 c.res rs).1,hr⟩
        . simp only [Yl,if_true];exact Zb9 (fun t x v hv=>Zq4 (show frz [] [] 6 _=_ from Zai (h:=[]) hv)) ha
        . rw [Zhh,Zhg,Z4]
      grind
    . split at hr
      . rename_i a ha;split at hr
        . rename_i rs hrs;obtain⟨hf,hr⟩:=Zq5 hr;refine⟨c,false,_,_,_,_,hc,?_,ht f c hc a rs hrs,.inr hf,?_,(Zb8 c.res rs).1,hr⟩
          . simp only [Yl,J0r,if_false];exact Zb9 (fun t x v hv=>Zai hv) ha
          . rw [Zhh,Zhg,Z4]
        grind
      grind

theorem Zlq {f:FuncId}{xs:List AV}{h:List AObj}{mode:Bool}{pas:List PA}{rs:List RA}(hp:Yl h mode xs=some pas)(hs:Spec P f pas rs)(hm:mode=true∨Yk rs=true):Z02 P f xs h (retV (Zf h.length rs)) (h++Za rs):=by
 intro B w0 ι w cargs hh hsz hrel;have fin:∀ (O:Nat->Prop),(∀ g,O g->g<w.heap.size)->Q7 w O pas cargs->(Yk rs=true∨O=Own h.length ι) ->
     Calls P f cargs w fun e w' => ∃ v ι',e = .returned v/\HRel B w0 (h++Za rs) ι' w' /\ EX h ι w (h++Za rs) ι' w' /\ VR (h++Za rs) ι' w' (retV (Zf h.length rs)) v:=by
   intro O hOs hpr hm;refine (hs O w cargs hOs hh.globw hpr).mono fun e w' he=>?_;obtain⟨v,κ,rfl,hkO,hk,hv⟩:=he;have hsr:SR B w0 ⟨[.any],h⟩ ι ⟨#[undef],ι.D⟩ w:=⟨hh,rfl,fun i x v hx hv=>by
    cases i with
    | zero=>simp at hx;subst hx;exact .any v
    | succ i=>grind,rfl⟩
   obtain⟨h1,h2⟩:=join_step hsr hk hv (hm.imp id (fun e=>by grind)) (some 0);refine⟨v,_,rfl,h1.heap,h2,?_⟩;exact h1.slot 0 _ v rfl rfl
 unfold Yl at hp;cases mode with
 | true =>
  simp only [if_true] at hp;exact fin _ (fun g hg=>by
   rcases hg with hg | ⟨t,ht,hb⟩
   . exact Nat.lt_of_lt_of_le (hh.old g hg) hh.size
   . exact (hh.own ht hb).2) (Zet (fun x v y hv hf=>Zro hv hf) (fun x v l hv hg=>Zoi hv hg) hsz hrel hp) (.inr rfl)
 | false=>simp only [J0r,if_false] at hp;exact fin (fun _=>False) (fun _ h=>h.elim) (Zet (fun x v y hv hf=>Zfr hh (fun _ h=>h.elim) (fun _ _ _ _ _ h=>h) 6 hv hf) (fun x v l hv hg=>Zrp hh hv hg) hsz hrel hp) (.inl (by grind))

def Yid (s:AStep)(tab:Tab)(st:TSt)(k:TSt->Option R):Option R :=
 Zss st s.guard fun b st =>
  match b with
  | false=>k ⟨Qz st.slots s.dst (.raw .u),st.heap⟩
  | true =>
   match s.op with
   | .op ao=>Zyy id st ao fun st y e=>k ⟨Qz st.slots s.dst y,Ybs st.heap e⟩
   | .call f args=>Ybv (tab f) st.heap (args.map (AOpd.tev st.slots)) fun y os=>k ⟨Qz st.slots s.dst y,st.heap++os⟩
   | .callv x args=>match x.tev st.slots with
    | .fn g caps=>Zy0 (tab g) st.heap (args.map (AOpd.tev st.slots)++caps) fun y os=>k ⟨Qz st.slots s.dst y,st.heap++os⟩
    | _=>none

theorem Zde (s:List TV)(args:List AOpd):erL (args.map (AOpd.tev s))=args.map (AOpd.eval (erL s)):=by rw [Yi,List.map_map];exact List.map_congr_left fun o _=>Zi8 s o

def Zjd (tab:Tab):List AStep->TSt->(TSt->Option R)->Option R
 | [],st,k=>k st
 | s::ss,st,k=>Yid s tab st fun st=>Zjd tab ss st k

theorem Zfd (ht:tab.ok P)(hcb:∀ f c,tab f=some c->callable P f=true):∀ {ss:List AStep} {st:TSt} {k:TSt->Option R},Zjd tab ss st k=some r -> ∃ st' : TSt,ASteps P ss st.er st'.er/\k st' = some r
 | [],st,k,h=>⟨st,.nil _,h⟩
 | s::ss,st,k,h=>by
  simp only [Zjd,Yid] at h;obtain⟨b,st1,h1,h2,h3⟩:=Zst h;cases b with
  | false=>obtain⟨st',h4,h5⟩:=Zfd ht hcb h3;refine⟨st',.skip _ _ _ _ h1 ?_,h5⟩;rw [<- h2];simpa [TSt.er,Qm,TV.er] using h4
  | true =>
   simp only at h3;split at h3
   . rename_i ao ho;obtain⟨st2,y,eff,h4,h5,h6⟩:=Z1x (mask' := id) (fun _=>rfl) h3;obtain⟨st',h7,h8⟩:=Zfd ht hcb h6;refine⟨st',.op _ ao _ _ y.er eff.er _ ho h1 ?_ ?_,h8⟩
     . rw [<- h2];exact h5
     . rw [<- h2,<- h4];simpa [TSt.er,Qm,Ybt] using h7
   . rename_i f args ho;obtain⟨mode,pas,rs,y,os,h4,h5,h6,h7,h8,h9⟩:=Ygw ht h3;obtain⟨st',h10,h11⟩:=Zfd ht hcb h9;refine⟨st',.call _ f args mode pas rs _ _ _ ho h1 ?_ h5 h6 ?_,h11⟩
     . rw [<- h2];rw [Zde] at h4;exact h4
     . rw [<- h2];simp only [TSt.er,Qm,Zk2,h7,h8] at h10;exact h10
   . rename_i x args ho;split at h3
     . rename_i g caps hx;obtain⟨c,mode,pas,rs,y,os,hc,h4,h5,h6,h7,h8,h9⟩:=Z1y ht h3;obtain⟨st',h10,h11⟩:=Zfd ht hcb h9;have hx' : x.eval st.er.slots = .fn g (erL caps):=by rw [<- h2];show x.eval (erL st1.slots)=_;rw [<- Zi8,hx];rfl
       refine⟨st',.inv _ x g (erL caps) args (retV (Zf (erH st1.heap).length rs)) (erH st1.heap++Za rs) _ _ _ ho h1 hx' (hcb g c hc) ?_ ?_,h11⟩
       . rw [<- h2];have:=Zlq h4 h5 h6;rw [Zhd,Zde] at this;exact this
       . rw [<- h2];simp only [TSt.er,Qm,Zk2,h7,h8] at h10;exact h10
     grind
end
end Go.Abs

namespace Go.Abs
variable [GTab] [Glob]

theorem Ygx (h:List TObj)(t:Nat)(o:TObj):erH (h.set t o)=(erH h).set t o.er:=by simp [erH,List.map_set]
def Ylr:TObj:=⟨0,0,0,.lit []⟩
def Zw3 (tau:List Nat):Nat->List TObj->List TObj
 | _,[]=>[]
 | i,o::os=>(if tau.contains i then o else Ylr)::Zw3 tau (i+1) os
theorem Znb (tau:List Nat):∀ (i:Nat) (h:List TObj),erH (Zw3 tau i h)=Za0 tau i (erH h)
 | _,[]=>rfl
 | i,o::os=>by have ih:=Znb tau (i+1) os;simp only [Zw3,erH,List.map_cons,Za0] at ih ⊢;rw [ih];congr 1;split <;> rfl

def Zoq (h:List TObj):Nat->TV->List Nat
 | 0,_=>[]
 | n+1,x =>
  match x with
  | .row t _=>t::(match h[t]? with | some o=>(match o.el with | .lit es=>es.flatMap fun e=>e.flatMap (Zoq h n) | .sym _ _=>[]) | none=>[])
  | .sl t _ _ _ _=>t::(match h[t]? with | some o=>(match o.el with | .lit es=>es.flatMap fun e=>e.flatMap (Zoq h n) | .sym _ _=>[]) | none=>[])
  | .agg cs=>cs.flatMap (Zoq h n)
  | .ptr t _ _ _=>t::(match h[t]? with | some o=>(match o.el with | .lit es=>es.flatMap fun e=>e.flatMap (Zoq h n) | .sym _ _=>[]) | none=>[])
  | _=>[]

section
variable {R:Type} {r:R} {P:Program} {tab:Tab}

def Z42 (s:AStep)(tab:Tab)(st:TSt)(k:TSt->List Nat->List Nat->Option R):Option R :=
 Zss st s.guard fun b st =>
  match b with
  | false=>k ⟨Qz st.slots s.dst (.raw .u),st.heap⟩ [] []
  | true =>
   match s.op with
   | .op ao =>
    let τ:=touch (fun o=>(o.tev st.slots).er) ao
    Zyy (Zw3 τ 0) st ao fun st y e=>match e with
     | .none=>k ⟨Qz st.slots s.dst y,st.heap⟩ [] τ
     | .new o=>k ⟨Qz st.slots s.dst y,st.heap++[o]⟩ [st.heap.length] (st.heap.length::τ)
     | .upd t o=>match decide (t<st.heap.length) with
      | true=>k ⟨Qz st.slots s.dst y,st.heap.set t o⟩ [t] τ
      | false=>none
   | .call f args =>
    match tab f with
    | none=>none
    | some c =>
     match Zgw [] c.args (args.map (AOpd.tev st.slots)) with
     | some a=>match c.fn a with
      | some rs=>k ⟨Qz st.slots s.dst (retT (valR st.heap.length c.res rs)),st.heap++objR c.res rs⟩ (List.range' st.heap.length (cntR c.res)) (List.range' st.heap.length (cntR c.res))
      | none=>none
     | none =>
      let τ:=(args.map (AOpd.tev st.slots)).flatMap (Zoq st.heap 6)++List.range' st.heap.length (cntR c.res)
      match Zgw (Zw3 τ 0 st.heap) c.args (args.map (AOpd.tev st.slots)) with
      | some a=>if c.res.all RT.plain then (match c.fn a with
       | some rs=>k ⟨Qz st.slots s.dst (retT (valR st.heap.length c.res rs)),st.heap++objR c.res rs⟩ (List.range' st.heap.length (cntR c.res)) τ
       | none=>none) else none
      | none=>none
   | .callv x args=>match x.tev st.slots with
    | .fn f caps=>(match tab f with
     | none=>none
     | some c =>
      match Zgw [] c.args (args.map (AOpd.tev st.slots)++caps) with
      | some a=>(match c.fn a with
       | some rs=>k ⟨Qz st.slots s.dst (retT (valR st.heap.length c.res rs)),st.heap++objR c.res rs⟩ (List.range' st.heap.length (cntR c.res)) (List.range' st.heap.length (cntR c.res))
       | none=>none)
      | none =>
       let τ:=(args.map (AOpd.tev st.slots)++caps).flatMap (Zoq st.heap 6)++List.range' st.heap.length (cntR c.res)
       match Zgw (Zw3 τ 0 st.heap) c.args (args.map (AOpd.tev st.slots)++caps) with
       | some a=>(match c.fn a with
        | some rs=>flatK c.res rs (k ⟨Qz st.slots s.dst (retT (valR st.heap.length c.res rs)),st.heap++objR c.res rs⟩ (List.range' st.heap.length (cntR c.res)) τ)
        | none=>none)
       | none=>none)
    | _=>none

theorem Zmd:∀ (os:List AObj) (T:Nat),(tagged T os).map (·.1)=List.range' T os.length
 | [],_=>rfl
 | o::os,T=>by simp [tagged,Zmd os,List.range'_succ]

theorem Ybw (ht:tab.ok P)(hcb:∀ g c,tab g=some c->callable P g=true){s:AStep}{st:TSt}{k:TSt->List Nat->List Nat->Option R}(h:Z42 s tab st k=some r) :
    ∃ (y:AV) (wr:List (Nat×AObj)) (tau:List Nat) (h1:List AObj) (st' : TSt),StepS P s tau st.er y wr h1/\st'.er=⟨setD st.er.slots s.dst y,h1⟩/\k st' (wr.map (·.1)) tau=some r:=by
  unfold Z42 at h;obtain⟨b,st1,h1,h2,h3⟩:=Zst h;cases b with
  | false=>refine⟨.u,[],[],st.er.heap,_,.skip h1,?_,h3⟩;rw [<- h2];simp [TSt.er,Qm,TV.er]
  | true =>
   simp only at h3;split at h3
   . rename_i ao ho;obtain⟨st2,y,eff,h4,h5,h6⟩:=Z1x (mask' := Za0 (touch (fun o=>(o.tev st1.slots).er) ao) 0) (fun h=>Znb _ _ h) h3;have hlen:st2.heap.length=st1.heap.length:=by have:=congrArg List.length (Zyz h4).2;simpa [Z4] using this
     have e1:erL st2.slots=st.er.slots:=by rw [(Zyz h4).1];rw [<- h2];rfl
     have e2:erH st2.heap=st.er.heap:=by rw [(Zyz h4).2];rw [<- h2];rfl
     have e3:st1.heap.length=st.er.heap.length:=by rw [<- h2];exact (Z4 _).symm
     have h5' : Zb (Za0 (touch (fun o=>(o.tev st1.slots).er) ao) 0 st.er.heap) st.er.heap.length (AOpd.eval st.er.slots) ao=some (y.er,eff.er):=by rw [<- h2];exact h5
     cases eff with
     | none =>
      refine⟨y.er,[],_,st.er.heap,⟨Qz st2.slots s.dst y,st2.heap⟩,.op ao _ .none ho h1 h5' (fun t o e=>by cases e),?_,?_⟩
      . simp only [TSt.er,Qm,e1,e2]
      grind
     | new o =>
      refine⟨y.er,[(st.er.heap.length,o.er)],st1.heap.length::touch (fun o=>(o.tev st1.slots).er) ao,st.er.heap++[o.er],⟨Qz st2.slots s.dst y,st2.heap++[o]⟩,.op ao _ (.new o.er) ho h1 (Zha (Zok fun t ht=>by grind) h5') (fun t o e=>by cases e),?_,?_⟩
      . simp only [TSt.er,Qm,Zk2,e1,e2];rfl
      grind
     | upd t o =>
      simp only at h6;split at h6
      . rename_i hd;refine⟨y.er,[(t,o.er)],_,st.er.heap.set t o.er,⟨Qz st2.slots s.dst y,st2.heap.set t o⟩,.op ao _ (.upd t o.er) ho h1 h5' (fun t' o' e=>by grind),?_,?_⟩
        . have h7:erH (st2.heap.set t o)=st.er.heap.set t o.er:=by rw [Ygx,e2]
          have h8:erL (Qz st2.slots s.dst y)=setD st.er.slots s.dst y.er:=by rw [Qm,e1]
          show (⟨_,_⟩:St)=_;grind
        grind
      grind
   . rename_i f args ho;have e1:erL st1.slots=st.er.slots:=by rw [<- h2];rfl
     have e2:erH st1.heap=st.er.heap:=by rw [<- h2];rfl
     split at h3
     . cases h3
     . rename_i c hc;have post:∀ rs:Xh c.res,(⟨Qz st1.slots s.dst (retT (valR st1.heap.length c.res rs)),st1.heap++objR c.res rs⟩:TSt).er=⟨setD st.er.slots s.dst (retV (Zf st.er.heap.length (raL c.res rs))),st.er.heap++Za (raL c.res rs)⟩:=fun rs=>by simp only [TSt.er,Qm,Zk2,e1,e2,Zhh,Zhg,(Zb8 c.res rs).1];rw [<- Z4,e2];rfl
       have tg:∀ rs:Xh c.res,(tagged st.er.heap.length (Za (raL c.res rs))).map (·.1)=List.range' st1.heap.length (cntR c.res):=fun rs=>by rw [Zmd,<- (Zb8 c.res rs).1,Z4,(Zb8 c.res rs).2,<- e2,Z4]
       split at h3
       . rename_i a ha;split at h3
         . rename_i rs hrs;refine⟨_,_,List.range' st1.heap.length (cntR c.res),_,_,.call f _ true (pasL c.args a) (raL c.res rs) (.st args ho) h1 ?_ (ht f c hc a rs hrs) (.inl rfl),post rs,by grind⟩;have:=Zb9 (fun t x v hv=>Zq4 (show frz [] [] 6 _=_ from Zai (h:=[]) hv)) ha;rw [Zde,e1] at this;simp only [Yl,if_true];exact this
         grind
       . split at h3
         . rename_i a ha;split at h3
           . rename_i hp;split at h3
             . rename_i rs hrs;refine⟨_,_,_,_,_,.call f _ false (pasL c.args a) (raL c.res rs) (.st args ho) h1 ?_ (ht f c hc a rs hrs) (.inr (Zna hp rs)),post rs,by rw [tg];exact h3⟩;have:=Zb9 (fun t x v hv=>Zai hv) ha;rw [Zde,e1,Znb,e2] at this;simp only [Yl,J0r,if_false];grind
             grind
           grind
         grind
   . rename_i x args ho;have e1:erL st1.slots=st.er.slots:=by rw [<- h2];rfl
     have e2:erH st1.heap=st.er.heap:=by rw [<- h2];rfl
     split at h3
     . rename_i f caps hx;have hx' : x.eval st.er.slots = .fn f (erL caps):=by rw [<- e1,<- Zi8,hx];rfl
       split at h3
       . cases h3
       . rename_i c hc;have post:∀ rs:Xh c.res,(⟨Qz st1.slots s.dst (retT (valR st1.heap.length c.res rs)),st1.heap++objR c.res rs⟩:TSt).er=⟨setD st.er.slots s.dst (retV (Zf st.er.heap.length (raL c.res rs))),st.er.heap++Za (raL c.res rs)⟩:=fun rs=>by simp only [TSt.er,Qm,Zk2,e1,e2,Zhh,Zhg,(Zb8 c.res rs).1];rw [<- Z4,e2];rfl
         have tg:∀ rs:Xh c.res,(tagged st.er.heap.length (Za (raL c.res rs))).map (·.1)=List.range' st1.heap.length (cntR c.res):=fun rs=>by rw [Zmd,<- (Zb8 c.res rs).1,Z4,(Zb8 c.res rs).2,<- e2,Z4]
         split at h3
         . rename_i a ha;split at h3
           . rename_i rs hrs;refine⟨_,_,List.range' st1.heap.length (cntR c.res),_,_,.call f _ true (pasL c.args a) (raL c.res rs) (.vl x args (erL caps) ho hx' (hcb f c hc)) h1 ?_ (ht f c hc a rs hrs) (.inl rfl),post rs,by grind⟩;have:=Zb9 (fun t x v hv=>Zq4 (show frz [] [] 6 _=_ from Zai (h:=[]) hv)) ha;rw [Zhd,Zde,e1] at this;simp only [Yl,if_true];exact this
           grind
         . split at h3
           . rename_i a ha;split at h3
             . rename_i rs hrs;obtain⟨hf,h3⟩:=Zq5 h3;refine⟨_,_,_,_,_,.call f _ false (pasL c.args a) (raL c.res rs) (.vl x args (erL caps) ho hx' (hcb f c hc)) h1 ?_ (ht f c hc a rs hrs) (.inr hf),post rs,by rw [tg];exact h3⟩;have:=Zb9 (fun t x v hv=>Zai hv) ha;rw [Zhd,Zde,e1,Znb,e2] at this;simp only [Yl,J0r,if_false];grind
             grind
           grind
     grind

def Znc (tab:Tab)(fin:List (List Nat×List Nat)->Bool):List AStep->List (List Nat×List Nat)->TSt->(TSt->Option R)->Option R
 | [],done,st,k=>cond (fin done) (k st) none
 | s::ss,done,st,k=>Z42 s tab st fun st wr tau=>Znc tab fin ss (done++[(wr,tau)]) st k

theorem Zw4 (ht:tab.ok P)(hcb:∀ g c,tab g=some c->callable P g=true){pre:List Nat}{all:List AStep}:∀ {ss:List AStep} {done:List (List Nat×List Nat)} {st:TSt} {k:TSt->Option R},Znc tab (ordT pre all) ss done st k=some r->DE P pre all done ss st.er (fun s=>∃ ts:TSt,s=ts.er/\k ts=some r)
 | [],done,st,k,h=>by obtain⟨h1,h2⟩:=Xd h;exact .nil h1 ⟨st,rfl,h2⟩
 | s::ss,done,st,k,h=>by simp only [Znc] at h;obtain⟨y,wr,tau,h1,st',h2,h3,h4⟩:=Ybw ht hcb h;refine .step h2 ?_;rw [<- h3];exact Zw4 ht hcb h4
end
end Go.Abs
