/- The abstract machine and its soundness, part B1. -/
import Derived.Test.YtenldcjkpgmpnaaGreatDoorTAbsCut
set_option linter.constructorNameAsVariable false
set_option linter.unusedVariables false
set_option linter.unusedSimpArgs false
set_option linter.unusedSectionVars false
namespace Go.Abs
variable [GTab] [Glob]

def AT.den:AT->Type
 | .c t=>t.den
 | .a ts=>denL ts
 | .q ts=>denL ts
def Zgx:List AT->Type
 | []=>Unit
 | a::as=>a.den×Zgx as
def AT.pa:(a:AT)->a.den->PA
 | .c t,v=>.c (t.pv v)
 | .a ts,e=>.a (pvL ts e)
 | .q ts,e=>.q (pvL ts e)
def pasL:(as:List AT)->Zgx as->List PA
 | [],_=>[]
 | a::as,e=>a.pa e.1::pasL as e.2

inductive RCT where
 | p (t:CT)
 | s (e size:Nat) (ts:List CT)
 | ifc
 deriving Inhabited
inductive RT where
 | c (x:RCT)
 | a (xs:List RCT)
 deriving Inhabited
def RCT.den:RCT->Type
 | .p t=>t.den
 | .s _ _ ts=>List (denL ts)
 | .ifc=>Bool
def Zgy:List RCT->Type
 | []=>Unit
 | x::xs=>x.den×Zgy xs
def RT.den:RT->Type
 | .c x=>x.den
 | .a xs=>Zgy xs
def Xp:List RT->Type
 | []=>Unit
 | x::xs=>x.den×Xp xs
def RCT.rc:(x:RCT)->x.den->RC
 | .p t,v=>.c (t.pv v)
 | .s e size ts,xs=>.s e size (List.map (pvL ts) xs)
 | .ifc,b=>.e b
def rcL:(xs:List RCT)->Zgy xs->List RC
 | [],_=>[]
 | x::xs,e=>x.rc e.1::rcL xs e.2
def RT.ra:(x:RT)->x.den->RA
 | .c x,v=>.c (x.rc v)
 | .a xs,e=>.a (rcL xs e)
def raL:(xs:List RT)->Xp xs->List RA
 | [],_=>[]
 | x::xs,e=>x.ra e.1::raL xs e.2

def RCT.cnt:RCT->Nat
 | .p _=>0
 | .s _ _ _=>1
 | .ifc=>0
def Yba:List RCT->Nat
 | []=>0
 | x::xs=>x.cnt+Yba xs
def RT.cnt:RT->Nat
 | .c x=>x.cnt
 | .a xs=>Yba xs
def cntR:List RT->Nat
 | []=>0
 | x::xs=>x.cnt+cntR xs
def RCT.obj:(x:RCT)->x.den->List TObj
 | .p _,_=>[]
 | .s e size ts,xs=>[⟨1,e,size,.sym ts xs⟩]
 | .ifc,_=>[]
def Zzj:(xs:List RCT)->Zgy xs->List TObj
 | [],_=>[]
 | x::xs,e=>x.obj e.1++Zzj xs e.2
def RT.obj:(x:RT)->x.den->List TObj
 | .c x,v=>x.obj v
 | .a xs,e=>Zzj xs e
def objR:(xs:List RT)->Xp xs->List TObj
 | [],_=>[]
 | x::xs,e=>x.obj e.1++objR xs e.2
def RCT.val (T:Nat):(x:RCT)->x.den->TV
 | .p t,v=>.p t v
 | .s _ _ _,_=>.row T 1
 | .ifc,b=>.ifb b
def Ybb:Nat->(xs:List RCT)->Zgy xs->List TV
 | _,[],_=>[]
 | T,x::xs,e=>x.val T e.1::Ybb (T+x.cnt) xs e.2
def RT.val (T:Nat):(x:RT)->x.den->TV
 | .c x,v=>x.val T v
 | .a xs,e=>.agg (Ybb T xs e)
def valR:Nat->(xs:List RT)->Xp xs->List TV
 | _,[],_=>[]
 | T,x::xs,e=>x.val T e.1::valR (T+x.cnt) xs e.2
def retT:List TV->TV
 | [x]=>x
 | xs=>.tuple xs

theorem RCT.obj_er:∀ (x:RCT) (v:x.den),erH (x.obj v)=Yt (x.rc v)/\(x.obj v).length=x.cnt
 | .p _,_=>⟨rfl,rfl⟩
 | .ifc,_=>⟨rfl,rfl⟩
 | .s e size ts,xs=>by
  have:∀ ys:List (denL ts),erH [(⟨1,e,size,.sym ts ys⟩:TObj)]=Yt (.s e size (ys.map (pvL ts))):=fun ys=>by simp [Yt,erH,TObj.er,TE.er,List.map_map,Function.comp_def]
  exact⟨this xs,rfl⟩
theorem Z4t:∀ (xs:List RCT) (e:Zgy xs),erH (Zzj xs e)=Xt (rcL xs e)/\(Zzj xs e).length=Yba xs
 | [],_=>⟨rfl,rfl⟩
 | x::xs,e=>by obtain⟨h1,h2⟩:=x.obj_er e.1;obtain⟨h3,h4⟩:=Z4t xs e.2;exact⟨by simp only [Zzj,rcL,Xt,<- h1,<- h3];simp [erH],by simp [Zzj,Yba,h2,h4]⟩
theorem RT.obj_er:∀ (x:RT) (v:x.den),erH (x.obj v)=Zcv (x.ra v)/\(x.obj v).length=x.cnt
 | .c x,v=>x.obj_er v
 | .a xs,e=>Z4t xs e
theorem Zc1:∀ (xs:List RT) (e:Xp xs),erH (objR xs e)=Za (raL xs e)/\(objR xs e).length=cntR xs
 | [],_=>⟨rfl,rfl⟩
 | x::xs,e=>by obtain⟨h1,h2⟩:=x.obj_er e.1;obtain⟨h3,h4⟩:=Zc1 xs e.2;exact⟨by simp only [objR,raL,Za,<- h1,<- h3];simp [erH],by simp [objR,cntR,h2,h4]⟩
theorem RCT.val_er (T:Nat):∀ (x:RCT) (v:x.den),(x.val T v).er=Zby T (x.rc v)
 | .p _,_=>rfl
 | .s _ _ _,_=>rfl
 | .ifc,_=>rfl
theorem Z4u:∀ (T:Nat) (xs:List RCT) (e:Zgy xs),erL (Ybb T xs e)=Zaa T (rcL xs e)
 | _,[],_=>rfl
 | T,x::xs,e=>by
  obtain⟨h1,h2⟩:=x.obj_er e.1;have hl:(Yt (x.rc e.1)).length=x.cnt:=by rw [<- h1,Z4,h2]
  simp only [Ybb,erL,rcL,Zaa,x.val_er,hl,Z4u]
theorem RT.val_er (T:Nat):∀ (x:RT) (v:x.den),(x.val T v).er=Zfb T (x.ra v)
 | .c x,v=>x.val_er T v
 | .a xs,e=>congrArg AV.agg (Z4u T xs e)
theorem Zii:∀ (T:Nat) (xs:List RT) (e:Xp xs),erL (valR T xs e)=Zh T (raL xs e)
 | _,[],_=>rfl
 | T,x::xs,e=>by
  obtain⟨h1,h2⟩:=x.obj_er e.1;have hl:(Zcv (x.ra e.1)).length=x.cnt:=by rw [<- h1,Z4,h2]
  simp only [valR,erL,raL,Zh,x.val_er,hl,Zii]
theorem Zij (xs:List TV):(retT xs).er=retV (erL xs):=by
 match xs with
 | []=>rfl
 | [x]=>rfl
 | x::y::xs=>rfl

def CT.plain:CT->Bool
 | .sl _=>false
 | _=>true
theorem CT.plain_flat:∀ {t:CT} (h:t.plain=true) (v:t.den),(t.pv v).flat=true
 | .bool,_,_=>rfl
 | .int _,_,_=>rfl
 | .str,_,_=>rfl
 | .sl _,h,_=>by simp [CT.plain] at h
theorem Z4v:∀ {ts:List CT} (h:ts.all CT.plain=true) (e:denL ts),(pvL ts e).all PV.flat=true
 | [],_,_=>rfl
 | t::ts,h,e=>by simp only [List.all_cons,J0e] at h;simp [pvL,CT.plain_flat h.1 e.1,Z4v h.2 e.2]
def RCT.plain:RCT->Bool
 | .p t=>t.plain
 | .s _ _ ts=>ts.all CT.plain
 | .ifc=>true
def RT.plain:RT->Bool
 | .c x=>x.plain
 | .a xs=>xs.all RCT.plain
theorem RCT.plain_flat:∀ {x:RCT} (h:x.plain=true) (v:x.den),(x.rc v).flat=true
 | .p t,h,v=>CT.plain_flat h v
 | .ifc,_,_=>rfl
 | .s e size ts,h,xs=>by
  have:∀ ys:List (denL ts),((ys.map (pvL ts)).all fun e=>e.all PV.flat)=true:=fun ys=>by simp only [List.all_eq_true,List.mem_map];rintro _ ⟨y,hy,rfl⟩;exact List.all_eq_true.1 (Z4v h y)
  exact this xs
theorem Z4w:∀ {xs:List RCT} (h:xs.all RCT.plain=true) (e:Zgy xs),(rcL xs e).all RC.flat=true
 | [],_,_=>rfl
 | x::xs,h,e=>by simp only [List.all_cons,J0e] at h;simp [rcL,RCT.plain_flat h.1 e.1,Z4w h.2 e.2]
theorem Zpd:∀ {xs:List RT} (h:xs.all RT.plain=true) (e:Xp xs),Yu (raL xs e)=true
 | [],_,_=>rfl
 | .c x::xs,h,e=>by simp only [List.all_cons,J0e] at h;have h1:=RCT.plain_flat (x:=x) h.1 e.1;have h2:=Zpd h.2 e.2;simp only [Yu,raL,List.all_cons,J0e] at h2 ⊢;exact⟨h1,h2⟩
 | .a ys::xs,h,e=>by simp only [List.all_cons,J0e] at h;have h1:=Z4w (xs:=ys) h.1 e.1;have h2:=Zpd h.2 e.2;simp only [Yu,raL,List.all_cons,J0e] at h2 ⊢;exact⟨h1,h2⟩

def argQ (h:List TObj)(ts:List CT):TV->Option (denL ts)
 | .ptr t ver 0 0=>match tget h t ver with
  | some o=>(match o.el with
   | .lit [cells]=>cond (decide (0<cells.length)) (Zkg (frzT h [] 6) ts cells) none
   | _=>none)
  | none=>none
 | .fptr ts' e=>match Zr1 ts' ts [e] with | some [e']=>some e' | _=>none
 | _=>none
def argV (h:List TObj):(a:AT)->TV->Option a.den
 | .c t,x=>frzT h [] 6 t x
 | .a ts,x=>match x with | .agg cs=>Zkg (frzT h [] 6) ts cs | _=>none
 | .q ts,x=>argQ h ts x
def Zht (h:List TObj):(as:List AT)->List TV->Option (Zgx as)
 | [],[]=>some ()
 | a::as,x::xs=>match argV h a x,Zht h as xs with | some v,some vs=>some (v,vs) | _,_=>none
 | _,_=>none

theorem Z7w {h:List TObj}{bad:List Nat}{d:Nat}{t:CT}{x:TV}{v:t.den}(hf:frzT h bad d t x=some v):∀ cs,x.er ≠ .agg cs:=by
 intro cs e;cases d with
 | zero=>cases (show (none:Option t.den)=some v from hf)
 | succ d =>
  cases x with
  | raw w=>have e:w = .agg cs:=e;subst e;have hf:nilC t (.agg cs)=some v:=hf;cases t <;> cases hf
  | agg l=>cases (show (none:Option t.den)=some v from hf)
  | _=>cases e

theorem Z7x {h:List TObj}{bad:List Nat}{d:Nat}{t:CT}{x:TV}{v:t.den}(hf:frzT h bad d t x=some v):(∀ tg ver i off,x.er ≠ .ptr tg ver i off) /\ ∀ cs,x.er ≠ .fptr cs:=by
 cases d with
 | zero=>cases (show (none:Option t.den)=some v from hf)
 | succ d =>
  cases x with
  | raw w =>
   have hf:nilC t w=some v:=hf;constructor
   . intro tg ver i off e;have e:w = .ptr tg ver i off:=e;subst e;cases t <;> cases hf
   . intro cs e;have e:w = .fptr cs:=e;subst e;cases t <;> cases hf
  | ptr a b c d=>cases (show (none:Option t.den)=some v from hf)
  | fptr a b=>cases (show (none:Option t.den)=some v from hf)
  | _=>exact⟨(fun _ _ _ _ e=>nomatch e),(fun _ e=>nomatch e)⟩
theorem Z7y {f:AV->Option PV}{g:AV->Option (List PV)}{a:AV}{v:PV}(hn:∀ cs,a ≠ .agg cs)(hp:(∀ tg ver i off,a ≠ .ptr tg ver i off) /\ ∀ cs,a ≠ .fptr cs)(h:f a=some v):toPA f g a=some (.c v):=by unfold toPA;grind

theorem Yk9 {h:List TObj}{ts:List CT}{x:TV}{v:denL ts}(hv:argQ h ts x=some v):ptrC (erH h) x.er=some (pvL ts v):=by
 unfold argQ at hv;split at hv
 . rename_i t ver;split at hv
   . rename_i o ho;split at hv
     . rename_i cells hel;obtain⟨hlt,hv⟩:=Xi hv;have hlt:=of_decide_eq_true hlt;have h1:=Zkh (g:=frz (erH h) [] 6) (fun t x v hv=>Zap hv) hv;simp only [TV.er,ptrC,Yi ho];have h2:o.er.elems[0]? = some (erL cells):=by show (o.el.er)[0]? = _;rw [hel];rfl
       rw [h2];simp only [List.drop_zero,Z0];grind
     grind
   grind
 . rename_i ts' e;split at hv
   . rename_i e' he;obtain rfl:=J0a hv;have:=Zf6 he;simp only [List.map_cons,List.map_nil,List.cons.injEq,and_true] at this;simp only [TV.er,ptrC,this]
   grind
 grind

theorem Yla {h:List TObj}{f:AV->Option PV}(hf:∀ t x v,frzT h [] 6 t x=some v->f x.er=some (t.pv v)):∀ {a:AT} {x:TV} {v:a.den},argV h a x=some v->toPA f (ptrC (erH h)) x.er=some (a.pa v)
 | .c t,x,v,hv=>Z7y (Z7w (d:=6) hv) (Z7x (d:=6) hv) (hf t x v hv)
 | .a ts,x,v,hv=>by
  cases x with
  | agg cs=>have hv:Zkg (frzT h [] 6) ts cs=some v:=hv;have h1:=Zkh hf hv;show (match frzL f (erL cs) with | some l=>some (PA.a l) | none=>none)=_;rw [h1];rfl
  | _=>cases (show (none:Option (denL ts))=some v from hv)
 | .q ts,x,v,hv=>by
  have hv:argQ h ts x=some v:=hv;have h1:=Yk9 hv;cases x with
  | ptr t ver i off=>show (match ptrC (erH h) (.ptr t ver i off) with | some l=>some (PA.q l) | none=>none)=_;rw [show ptrC (erH h) (.ptr t ver i off)=some (pvL ts v) from h1];rfl
  | fptr ts' e=>show (match ptrC (erH h) (.fptr (pvL ts' e)) with | some l=>some (PA.q l) | none=>none)=_;rw [show ptrC (erH h) (.fptr (pvL ts' e))=some (pvL ts v) from h1];rfl
  | _=>cases hv
theorem Zc2 {h:List TObj}{f:AV->Option PV}(hf:∀ t x v,frzT h [] 6 t x=some v->f x.er=some (t.pv v)):∀ {as:List AT} {xs:List TV} {e:Zgx as},Zht h as xs=some e->Zes f (ptrC (erH h)) (erL xs)=some (pasL as e)
 | [],[],e,hv=>rfl
 | [],_::_,e,hv=>by simp [Zht] at hv
 | _::_,[],e,hv=>by simp [Zht] at hv
 | a::as,x::xs,e,hv=>by
  simp only [Zht] at hv;split at hv
  . rename_i v vs h1 h2;obtain rfl:=J0a hv;simp only [erL,Zes,Yla hf h1,Zc2 hf h2,pasL]
  grind
theorem Zs4 {x:AV}{y:PV}:∀ {d:Nat},frz [] [] d x=some y->frzP x=some y
 | 0,h=>by simp [frz] at h
 | d+1,h=>by unfold frz at h;split at h <;> first | exact h | grind | (cases h;done)

structure TCon where
 args:List AT
 res:List RT
 fn:Zgx args->Option (Xp res)
def TCon.ok (P:Program)(f:FuncId)(c:TCon):Prop:=∀ a r,c.fn a=some r->Spec P f (pasL c.args a) (raL c.res r)

abbrev Tab:=FuncId->Option TCon
def Tab.ok (P:Program)(tab:Tab):Prop:=∀ f c,tab f=some c->c.ok P f

def Q4 (s:List TV)(d:Option Nat)(v:TV):List TV :=
 match d with
 | none=>s
 | some d=>s.set d v
theorem Qs (s:List TV)(d:Option Nat)(v:TV):erL (Q4 s d v)=setD (erL s) d v.er:=by cases d <;> simp [Q4,setD,Yo,List.map_set]
def Yfl (h:List TObj):TEff->List TObj
 | .none=>h
 | .new o=>h++[o]
 | .upd t o=>h.set t o
theorem Yfm (h:List TObj)(e:TEff):erH (Yfl h e)=effH (erH h) e.er:=by cases e <;> simp [Yfl,effH,TEff.er,erH,List.map_set]
theorem Zmt (a b:List TObj):erH (a++b)=erH a++erH b:=by simp [erH]

theorem Znd {α:Type}:∀ {l:List α} {i:Nat} {x:α},l[i]? = some x->l.set i x=l
 | [],i,x,h=>by simp at h
 | a::l,0,x,h=>by grind
 | a::l,i+1,x,h=>by simp only [List.set_cons_succ];rw [Znd (by grind)]

section
variable {R:Type} {r:R} {P:Program} {tab:Tab}

def Zur (st:TSt)(d:Nat)(k:Bool->TSt->Option R)(els:Option R):Option R :=
 match st.slots[d]? with
 | some (.p .bool b)=>cond (b:Bool) (k true ⟨st.slots.set d (.p .bool true),st.heap⟩) (k false ⟨st.slots.set d (.p .bool false),st.heap⟩)
 | _=>els
theorem Zus {st:TSt}{d:Nat}{k:Bool->TSt->Option R}{els:Option R}(h:Zur st d k els=some r):(∃ b st',st'.er=st.er/\(erL st.slots)[d]? = some (.p (.bool b))/\k b st' = some r)∨els=some r:=by
 unfold Zur at h;split at h
 . rename_i b hb;left;have hs:(erL st.slots)[d]? = some (.p (.bool b)):=by rw [Zbr,hb];rfl
   have he:∀ b' : Bool,b' = b->(⟨st.slots.set d (.p .bool b'),st.heap⟩:TSt).er=st.er:=by rintro _ rfl;simp only [TSt.er];rw [Znd hb]
   cases hb2:(b:Bool) with
   | true=>rw [show (b:Bool)=true from hb2] at h;grind
   | false=>rw [show (b:Bool)=false from hb2] at h;grind
 grind

def Zut (st:TSt)(g:Option (Nat×Bool))(k:Bool->TSt->Option R):Option R :=
 match g with
 | none=>k true st
 | some (d,b)=>Zur st d (fun b' st=>k (b' == b) st) (match st.slots[d]? with
  | some (.raw .u)=>k false st
  | _=>none)
theorem Zuu {st:TSt}{g:Option (Nat×Bool)}{k:Bool->TSt->Option R}(h:Zut st g k=some r):∃ b st',Zk (erL st.slots) g=some b/\st'.er=st.er/\k b st' = some r:=by
 unfold Zut at h;split at h
 . exact⟨true,st,rfl,rfl,h⟩
 . rename_i d b;rcases Zus h with ⟨b',st',h1,h2,h3⟩ | h
   . exact⟨_,st',by simp only [Zk,h2],h1,h3⟩
   . split at h
     . rename_i hu;exact⟨false,st,by simp only [Zk,Zbr,hu,Option.map_some,TV.er],rfl,h⟩
     grind

def Z1i (mask:List TObj->List TObj)(st:TSt)(ao:AOp)(k:TSt->TV->TEff->Option R):Option R :=
 match ao with
 | .pick (.t d) a b=>Zur st d (fun _ st=>Zzf (mask st.heap) st.heap.length (AOpd.tev st.slots) ao fun y e=>k st y e) (Zzf (mask st.heap) st.heap.length (AOpd.tev st.slots) ao fun y e=>k st y e)
 | _=>Zzf (mask st.heap) st.heap.length (AOpd.tev st.slots) ao fun y e=>k st y e
theorem Z1j {st st' : TSt}(h:st'.er=st.er):erL st'.slots=erL st.slots/\erH st'.heap=erH st.heap:=by simp only [TSt.er,St.mk.injEq] at h;exact h
theorem Z4x {mask:List TObj->List TObj}{mask' : List AObj->List AObj}(hm:∀ h,erH (mask h)=mask' (erH h)){st:TSt}{ao:AOp}{k:TSt->TV->TEff->Option R}(h:Z1i mask st ao k=some r) :
    ∃ st' y eff,st'.er=st.er/\Zc (mask' (erH st.heap)) (erH st.heap).length (AOpd.eval (erL st.slots)) ao=some ((y:TV).er,(eff:TEff).er)/\k st' y eff=some r:=by
  have base:∀ st' : TSt,st'.er=st.er->(Zzf (mask st'.heap) st'.heap.length (AOpd.tev st'.slots) ao fun y e=>k st' y e)=some r ->
      ∃ st' y eff,st'.er=st.er/\Zc (mask' (erH st.heap)) (erH st.heap).length (AOpd.eval (erL st.slots)) ao=some ((y:TV).er,(eff:TEff).er)/\k st' y eff=some r:=fun st' he h=>by
    obtain⟨h1,h2⟩:=Z1j he;obtain⟨y,eff,h3,h4⟩:=Yk5 (ρ' := AOpd.eval (erL st.slots)) (fun o=>by rw [Zkf,h1]) h;rw [hm,h2,<- Z4,h2] at h3;grind
  unfold Z1i at h;split at h
  . rcases Zus h with ⟨b,st',h1,_,h3⟩ | h
    . grind
    grind
  grind

def Z7z:(t:CT)->t.den->Option R->Option R
 | .sl ts,v,k=>cond (List.isEmpty (α:=denL ts) v) k none
 | .bool,_,k=>k
 | .int _,_,k=>k
 | .str,_,k=>k
def Zga:(xs:List RCT)->Zgy xs->Option R->Option R
 | [],_,k=>k
 | .p t::xs,e,k=>Z7z t e.1 (Zga xs e.2 k)
 | .s _ _ ts::xs,e,k=>cond (ts.all CT.plain) (Zga xs e.2 k) none
 | .ifc::xs,e,k=>Zga xs e.2 k
def flatK:(xs:List RT)->Xp xs->Option R->Option R
 | [],_,k=>k
 | .c x::xs,e,k=>Zga [x] (e.1,()) (flatK xs e.2 k)
 | .a ys::xs,e,k=>Zga ys e.1 (flatK xs e.2 k)
theorem Yfn:∀ {t:CT} {v:t.den} {k:Option R},Z7z t v k=some r->(t.pv v).flat=true/\k=some r
 | .sl ts,v,k,h=>by
  have h:cond (List.isEmpty (α:=denL ts) v) k none=some r:=h;revert h;show cond (List.isEmpty (α:=denL ts) (id v)) k none=some r->_;have key:∀ l:List (denL ts),cond l.isEmpty k none=some r->((CT.sl ts).pv l).flat=true/\k=some r
   | [],h=>⟨rfl,h⟩
   | _::_,h=>by cases h
  grind
 | .bool,_,_,h=>⟨rfl,h⟩
 | .int _,_,_,h=>⟨rfl,h⟩
 | .str,_,_,h=>⟨rfl,h⟩
theorem Zkj:∀ {xs:List RCT} {e:Zgy xs} {k:Option R},Zga xs e k=some r->((rcL xs e).all RC.flat)=true/\k=some r
 | [],_,_,h=>⟨rfl,h⟩
 | .p t::xs,e,k,h=>by obtain⟨h1,h2⟩:=Yfn (show Z7z t e.1 (Zga xs e.2 k)=some r from h);obtain⟨h3,h4⟩:=Zkj h2;refine⟨?_,h4⟩;simp only [rcL,List.all_cons,h3,Bool.and_true];exact h1
 | .s a z ts::xs,e,k,h=>by
  have h:cond (ts.all CT.plain) (Zga xs e.2 k) none=some r:=h;cases hp:ts.all CT.plain with
  | true=>rw [hp] at h;obtain⟨h3,h4⟩:=Zkj h;refine⟨?_,h4⟩;simp only [rcL,List.all_cons,h3,Bool.and_true];exact RCT.plain_flat (x:=.s a z ts) hp e.1
  | false=>grind
 | .ifc::xs,e,k,h=>by obtain⟨h3,h4⟩:=Zkj (show Zga xs e.2 k=some r from h);refine⟨?_,h4⟩;simp only [rcL,List.all_cons,h3,Bool.and_true];rfl
theorem Zs5:∀ {xs:List RT} {e:Xp xs} {k:Option R},flatK xs e k=some r->Yu (raL xs e)=true/\k=some r
 | [],_,_,h=>⟨rfl,h⟩
 | .c x::xs,e,k,h=>by obtain⟨h1,h2⟩:=Zkj (show Zga [x] (e.1,()) (flatK xs e.2 k)=some r from h);obtain⟨h3,h4⟩:=Zs5 h2;refine⟨?_,h4⟩;simp only [rcL,List.all_cons,List.all_nil,Bool.and_true] at h1;simp only [Yu,raL,List.all_cons,J0e] at h3 ⊢;exact⟨h1,h3⟩
 | .a ys::xs,e,k,h=>by obtain⟨h1,h2⟩:=Zkj (show Zga ys e.1 (flatK xs e.2 k)=some r from h);obtain⟨h3,h4⟩:=Zs5 h2;refine⟨?_,h4⟩;simp only [Yu,raL,List.all_cons,J0e] at h3 ⊢;exact⟨h1,h3⟩

def Yfo (c:Option TCon)(h:List TObj)(xs:List TV)(k:TV->List TObj->Option R):Option R :=
 match c with
 | none=>none
 | some c =>
  match Zht [] c.args xs with
  | some a=>match c.fn a with
   | some rs=>k (retT (valR h.length c.res rs)) (objR c.res rs)
   | none=>none
  | none=>match Zht h c.args xs with
   | some a=>if c.res.all RT.plain then (match c.fn a with
    | some rs=>k (retT (valR h.length c.res rs)) (objR c.res rs)
    | none=>none) else none
   | none=>none
theorem Ylb (ht:tab.ok P){f:FuncId}{h:List TObj}{xs:List TV}{k:TV->List TObj->Option R}(hr:Yfo (tab f) h xs k=some r) :
    ∃ mode pas rs y os,Yv (erH h) mode (erL xs)=some pas/\Spec P f pas rs/\(mode=true∨Yu rs=true)/\(y:TV).er=retV (Zh (erH h).length rs)/\erH os=Za rs/\k y os=some r:=by
  unfold Yfo at hr;split at hr
  . cases hr
  . rename_i c hc;split at hr
    . rename_i a ha;split at hr
      . rename_i rs hrs;refine⟨true,_,_,_,_,?_,ht f c hc a rs hrs,.inl rfl,?_,(Zc1 c.res rs).1,hr⟩
        . simp only [Yv,if_true];exact Zc2 (fun t x v hv=>Zs4 (show frz [] [] 6 _=_ from Zap (h:=[]) hv)) ha
        . rw [Zij,Zii,Z4]
      grind
    . split at hr
      . rename_i a ha;split at hr
        . rename_i hp;split at hr
          . rename_i rs hrs;refine⟨false,_,_,_,_,?_,ht f c hc a rs hrs,.inr (Zpd hp rs),?_,(Zc1 c.res rs).1,hr⟩
            . simp only [Yv,J0r,if_false];exact Zc2 (fun t x v hv=>Zap hv) ha
            . rw [Zij,Zii,Z4]
          grind
        grind
      grind

def Z1k (c:Option TCon)(h:List TObj)(xs:List TV)(k:TV->List TObj->Option R):Option R :=
 match c with
 | none=>none
 | some c =>
  match Zht [] c.args xs with
  | some a=>match c.fn a with
   | some rs=>k (retT (valR h.length c.res rs)) (objR c.res rs)
   | none=>none
  | none=>match Zht h c.args xs with
   | some a=>(match c.fn a with
    | some rs=>flatK c.res rs (k (retT (valR h.length c.res rs)) (objR c.res rs))
    | none=>none)
   | none=>none
theorem Z4y (ht:tab.ok P){f:FuncId}{h:List TObj}{xs:List TV}{k:TV->List TObj->Option R}(hr:Z1k (tab f) h xs k=some r) :
    ∃ c mode pas rs y os,tab f=some c/\Yv (erH h) mode (erL xs)=some pas/\Spec P f pas rs/\(mode=true∨Yu rs=true)/\(y:TV).er=retV (Zh (erH h).length rs)/\erH os=Za rs/\k y os=some r:=by
  unfold Z1k at hr;split at hr
  . cases hr
  . rename_i c hc;split at hr
    . rename_i a ha;split at hr
      . rename_i rs hrs;refine⟨c,true,_,_,_,_,hc,?_,ht f c hc a rs hrs,.inl rfl,?_,(Zc1 c.res rs).1,hr⟩
        . simp only [Yv,if_true];exact Zc2 (fun t x v hv=>Zs4 (show frz [] [] 6 _=_ from Zap (h:=[]) hv)) ha
        . rw [Zij,Zii,Z4]
      grind
    . split at hr
      . rename_i a ha;split at hr
        . rename_i rs hrs;obtain⟨hf,hr⟩:=Zs5 hr;refine⟨c,false,_,_,_,_,hc,?_,ht f c hc a rs hrs,.inr hf,?_,(Zc1 c.res rs).1,hr⟩
          . simp only [Yv,J0r,if_false];exact Zc2 (fun t x v hv=>Zap hv) ha
          . rw [Zij,Zii,Z4]
        grind
      grind

theorem Zne {f:FuncId}{xs:List AV}{h:List AObj}{mode:Bool}{pas:List PA}{rs:List RA}(hp:Yv h mode xs=some pas)(hs:Spec P f pas rs)(hm:mode=true∨Yu rs=true):Z32 P f xs h (retV (Zh h.length rs)) (h++Za rs):=by
 intro B w0 ι w cargs hh hsz hrel;have fin:∀ (O:Nat->Prop),(∀ g,O g->g<w.heap.size)->Zcf w O pas cargs->(Yu rs=true∨O=Own h.length ι) ->
     Calls P f cargs w fun e w' => ∃ v ι',e = .returned v/\HRel B w0 (h++Za rs) ι' w' /\ EX h ι w (h++Za rs) ι' w' /\ VR (h++Za rs) ι' w' (retV (Zh h.length rs)) v:=by
   intro O hOs hpr hm;refine (hs O w cargs hOs hh.globw hpr).mono fun e w' he=>?_;obtain⟨v,κ,rfl,hkO,hk,hv⟩:=he;have hsr:SR B w0 ⟨[.any],h⟩ ι ⟨#[undef],ι.D⟩ w:=⟨hh,rfl,fun i x v hx hv=>by
    cases i with
    | zero=>simp at hx;subst hx;exact .any v
    | succ i=>grind,rfl⟩
   obtain⟨h1,h2⟩:=join_step hsr hk hv (hm.imp id (fun e=>by grind)) (some 0);refine⟨v,_,rfl,h1.heap,h2,?_⟩;exact h1.slot 0 _ v rfl rfl
 unfold Yv at hp;cases mode with
 | true =>
  simp only [if_true] at hp;exact fin _ (fun g hg=>by
   rcases hg with hg | ⟨t,ht,hb⟩
   . exact Nat.lt_of_lt_of_le (hh.old g hg) hh.size
   . exact (hh.own ht hb).2) (Zfr (fun x v y hv hf=>Ztp hv hf) (fun x v l hv hg=>Zqm hv hg) hsz hrel hp) (.inr rfl)
 | false=>simp only [J0r,if_false] at hp;exact fin (fun _=>False) (fun _ h=>h.elim) (Zfr (fun x v y hv hf=>Zgs hh (fun _ h=>h.elim) (fun _ _ _ _ _ h=>h) 6 hv hf) (fun x v l hv hg=>Ztq hh hv hg) hsz hrel hp) (.inl (by grind))

def Ym2 (s:AStep)(tab:Tab)(st:TSt)(k:TSt->Option R):Option R :=
 Zut st s.guard fun b st =>
  match b with
  | false=>k ⟨Q4 st.slots s.dst (.raw .u),st.heap⟩
  | true =>
   match s.op with
   | .op ao=>Z1i id st ao fun st y e=>k ⟨Q4 st.slots s.dst y,Yfl st.heap e⟩
   | .call f args=>Yfo (tab f) st.heap (args.map (AOpd.tev st.slots)) fun y os=>k ⟨Q4 st.slots s.dst y,st.heap++os⟩
   | .callv x args=>match x.tev st.slots with
    | .fn g caps=>Z1k (tab g) st.heap (args.map (AOpd.tev st.slots)++caps) fun y os=>k ⟨Q4 st.slots s.dst y,st.heap++os⟩
    | _=>none

theorem Zeb (s:List TV)(args:List AOpd):erL (args.map (AOpd.tev s))=args.map (AOpd.eval (erL s)):=by rw [Yo,List.map_map];exact List.map_congr_left fun o _=>Zkf s o

def Zkk (tab:Tab):List AStep->TSt->(TSt->Option R)->Option R
 | [],st,k=>k st
 | s::ss,st,k=>Ym2 s tab st fun st=>Zkk tab ss st k

theorem Zgb (ht:tab.ok P)(hcb:∀ f c,tab f=some c->callable P f=true):∀ {ss:List AStep} {st:TSt} {k:TSt->Option R},Zkk tab ss st k=some r -> ∃ st' : TSt,ASteps P ss st.er st'.er/\k st' = some r
 | [],st,k,h=>⟨st,.nil _,h⟩
 | s::ss,st,k,h=>by
  simp only [Zkk,Ym2] at h;obtain⟨b,st1,h1,h2,h3⟩:=Zuu h;cases b with
  | false=>obtain⟨st',h4,h5⟩:=Zgb ht hcb h3;refine⟨st',.skip _ _ _ _ h1 ?_,h5⟩;rw [<- h2];simpa [TSt.er,Qs,TV.er] using h4
  | true =>
   simp only at h3;split at h3
   . rename_i ao ho;obtain⟨st2,y,eff,h4,h5,h6⟩:=Z4x (mask' := id) (fun _=>rfl) h3;obtain⟨st',h7,h8⟩:=Zgb ht hcb h6;refine⟨st',.op _ ao _ _ y.er eff.er _ ho h1 ?_ ?_,h8⟩
     . rw [<- h2];exact h5
     . rw [<- h2,<- h4];simpa [TSt.er,Qs,Yfm] using h7
   . rename_i f args ho;obtain⟨mode,pas,rs,y,os,h4,h5,h6,h7,h8,h9⟩:=Ylb ht h3;obtain⟨st',h10,h11⟩:=Zgb ht hcb h9;refine⟨st',.call _ f args mode pas rs _ _ _ ho h1 ?_ h5 h6 ?_,h11⟩
     . rw [<- h2];rw [Zeb] at h4;exact h4
     . rw [<- h2];simp only [TSt.er,Qs,Zmt,h7,h8] at h10;exact h10
   . rename_i x args ho;split at h3
     . rename_i g caps hx;obtain⟨c,mode,pas,rs,y,os,hc,h4,h5,h6,h7,h8,h9⟩:=Z4y ht h3;obtain⟨st',h10,h11⟩:=Zgb ht hcb h9;have hx' : x.eval st.er.slots = .fn g (erL caps):=by rw [<- h2];show x.eval (erL st1.slots)=_;rw [<- Zkf,hx];rfl
       refine⟨st',.inv _ x g (erL caps) args (retV (Zh (erH st1.heap).length rs)) (erH st1.heap++Za rs) _ _ _ ho h1 hx' (hcb g c hc) ?_ ?_,h11⟩
       . rw [<- h2];have:=Zne h4 h5 h6;rw [Zif,Zeb] at this;exact this
       . rw [<- h2];simp only [TSt.er,Qs,Zmt,h7,h8] at h10;exact h10
     grind
end
end Go.Abs

namespace Go.Abs
variable [GTab] [Glob]

theorem Ylc (h:List TObj)(t:Nat)(o:TObj):erH (h.set t o)=(erH h).set t o.er:=by simp [erH,List.map_set]
def Yrq:TObj:=⟨0,0,0,.lit []⟩
def Zzk (tau:List Nat):Nat->List TObj->List TObj
 | _,[]=>[]
 | i,o::os=>(if tau.contains i then o else Yrq)::Zzk tau (i+1) os
theorem Zpe (tau:List Nat):∀ (i:Nat) (h:List TObj),erH (Zzk tau i h)=Zbb tau i (erH h)
 | _,[]=>rfl
 | i,o::os=>by have ih:=Zpe tau (i+1) os;simp only [Zzk,erH,List.map_cons,Zbb] at ih ⊢;rw [ih];congr 1;split <;> rfl

def Zqu (h:List TObj):Nat->TV->List Nat
 | 0,_=>[]
 | n+1,x =>
  match x with
  | .row t _=>t::(match h[t]? with | some o=>(match o.el with | .lit es=>es.flatMap fun e=>e.flatMap (Zqu h n) | .sym _ _=>[]) | none=>[])
  | .sl t _ _ _ _=>t::(match h[t]? with | some o=>(match o.el with | .lit es=>es.flatMap fun e=>e.flatMap (Zqu h n) | .sym _ _=>[]) | none=>[])
  | .agg cs=>cs.flatMap (Zqu h n)
  | .ptr t _ _ _=>t::(match h[t]? with | some o=>(match o.el with | .lit es=>es.flatMap fun e=>e.flatMap (Zqu h n) | .sym _ _=>[]) | none=>[])
  | _=>[]

section
variable {R:Type} {r:R} {P:Program} {tab:Tab}

def Z70 (s:AStep)(tab:Tab)(st:TSt)(k:TSt->List Nat->List Nat->Option R):Option R :=
 Zut st s.guard fun b st =>
  match b with
  | false=>k ⟨Q4 st.slots s.dst (.raw .u),st.heap⟩ [] []
  | true =>
   match s.op with
   | .op ao =>
    let τ:=touch (fun o=>(o.tev st.slots).er) ao
    Z1i (Zzk τ 0) st ao fun st y e=>match e with
     | .none=>k ⟨Q4 st.slots s.dst y,st.heap⟩ [] τ
     | .new o=>k ⟨Q4 st.slots s.dst y,st.heap++[o]⟩ [st.heap.length] (st.heap.length::τ)
     | .upd t o=>match decide (t<st.heap.length) with
      | true=>k ⟨Q4 st.slots s.dst y,st.heap.set t o⟩ [t] τ
      | false=>none
   | .call f args =>
    match tab f with
    | none=>none
    | some c =>
     match Zht [] c.args (args.map (AOpd.tev st.slots)) with
     | some a=>match c.fn a with
      | some rs=>k ⟨Q4 st.slots s.dst (retT (valR st.heap.length c.res rs)),st.heap++objR c.res rs⟩ (List.range' st.heap.length (cntR c.res)) (List.range' st.heap.length (cntR c.res))
      | none=>none
     | none =>
      let τ:=(args.map (AOpd.tev st.slots)).flatMap (Zqu st.heap 6)++List.range' st.heap.length (cntR c.res)
      match Zht (Zzk τ 0 st.heap) c.args (args.map (AOpd.tev st.slots)) with
      | some a=>if c.res.all RT.plain then (match c.fn a with
       | some rs=>k ⟨Q4 st.slots s.dst (retT (valR st.heap.length c.res rs)),st.heap++objR c.res rs⟩ (List.range' st.heap.length (cntR c.res)) τ
       | none=>none) else none
      | none=>none
   | .callv x args=>match x.tev st.slots with
    | .fn f caps=>(match tab f with
     | none=>none
     | some c =>
      match Zht [] c.args (args.map (AOpd.tev st.slots)++caps) with
      | some a=>(match c.fn a with
       | some rs=>k ⟨Q4 st.slots s.dst (retT (valR st.heap.length c.res rs)),st.heap++objR c.res rs⟩ (List.range' st.heap.length (cntR c.res)) (List.range' st.heap.length (cntR c.res))
       | none=>none)
      | none =>
       let τ:=(args.map (AOpd.tev st.slots)++caps).flatMap (Zqu st.heap 6)++List.range' st.heap.length (cntR c.res)
       match Zht (Zzk τ 0 st.heap) c.args (args.map (AOpd.tev st.slots)++caps) with
       | some a=>(match c.fn a with
        | some rs=>flatK c.res rs (k ⟨Q4 st.slots s.dst (retT (valR st.heap.length c.res rs)),st.heap++objR c.res rs⟩ (List.range' st.heap.length (cntR c.res)) τ)
        | none=>none)
       | none=>none)
    | _=>none

theorem Zob:∀ (os:List AObj) (T:Nat),(tagged T os).map (·.1)=List.range' T os.length
 | [],_=>rfl
 | o::os,T=>by simp [tagged,Zob os,List.range'_succ]

theorem Yfp (ht:tab.ok P)(hcb:∀ g c,tab g=some c->callable P g=true){s:AStep}{st:TSt}{k:TSt->List Nat->List Nat->Option R}(h:Z70 s tab st k=some r) :
    ∃ (y:AV) (wr:List (Nat×AObj)) (tau:List Nat) (h1:List AObj) (st' : TSt),StepS P s tau st.er y wr h1/\st'.er=⟨setD st.er.slots s.dst y,h1⟩/\k st' (wr.map (·.1)) tau=some r:=by
  unfold Z70 at h;obtain⟨b,st1,h1,h2,h3⟩:=Zuu h;cases b with
  | false=>refine⟨.u,[],[],st.er.heap,_,.skip h1,?_,h3⟩;rw [<- h2];simp [TSt.er,Qs,TV.er]
  | true =>
   simp only at h3;split at h3
   . rename_i ao ho;obtain⟨st2,y,eff,h4,h5,h6⟩:=Z4x (mask' := Zbb (touch (fun o=>(o.tev st1.slots).er) ao) 0) (fun h=>Zpe _ _ h) h3;have hlen:st2.heap.length=st1.heap.length:=by have:=congrArg List.length (Z1j h4).2;simpa [Z4] using this
     have e1:erL st2.slots=st.er.slots:=by rw [(Z1j h4).1];rw [<- h2];rfl
     have e2:erH st2.heap=st.er.heap:=by rw [(Z1j h4).2];rw [<- h2];rfl
     have e3:st1.heap.length=st.er.heap.length:=by rw [<- h2];exact (Z4 _).symm
     have h5' : Zc (Zbb (touch (fun o=>(o.tev st1.slots).er) ao) 0 st.er.heap) st.er.heap.length (AOpd.eval st.er.slots) ao=some (y.er,eff.er):=by rw [<- h2];exact h5
     cases eff with
     | none =>
      refine⟨y.er,[],_,st.er.heap,⟨Q4 st2.slots s.dst y,st2.heap⟩,.op ao _ .none ho h1 h5' (fun t o e=>by cases e),?_,?_⟩
      . simp only [TSt.er,Qs,e1,e2]
      grind
     | new o =>
      refine⟨y.er,[(st.er.heap.length,o.er)],st1.heap.length::touch (fun o=>(o.tev st1.slots).er) ao,st.er.heap++[o.er],⟨Q4 st2.slots s.dst y,st2.heap++[o]⟩,.op ao _ (.new o.er) ho h1 (Zic (Zqo fun t ht=>by grind) h5') (fun t o e=>by cases e),?_,?_⟩
      . simp only [TSt.er,Qs,Zmt,e1,e2];rfl
      grind
     | upd t o =>
      simp only at h6;split at h6
      . rename_i hd;refine⟨y.er,[(t,o.er)],_,st.er.heap.set t o.er,⟨Q4 st2.slots s.dst y,st2.heap.set t o⟩,.op ao _ (.upd t o.er) ho h1 h5' (fun t' o' e=>by grind),?_,?_⟩
        . have h7:erH (st2.heap.set t o)=st.er.heap.set t o.er:=by rw [Ylc,e2]
          have h8:erL (Q4 st2.slots s.dst y)=setD st.er.slots s.dst y.er:=by rw [Qs,e1]
          show (⟨_,_⟩:St)=_;grind
        grind
      grind
   . rename_i f args ho;have e1:erL st1.slots=st.er.slots:=by rw [<- h2];rfl
     have e2:erH st1.heap=st.er.heap:=by rw [<- h2];rfl
     split at h3
     . cases h3
     . rename_i c hc;have post:∀ rs:Xp c.res,(⟨Q4 st1.slots s.dst (retT (valR st1.heap.length c.res rs)),st1.heap++objR c.res rs⟩:TSt).er=⟨setD st.er.slots s.dst (retV (Zh st.er.heap.length (raL c.res rs))),st.er.heap++Za (raL c.res rs)⟩:=fun rs=>by simp only [TSt.er,Qs,Zmt,e1,e2,Zij,Zii,(Zc1 c.res rs).1];rw [<- Z4,e2];rfl
       have tg:∀ rs:Xp c.res,(tagged st.er.heap.length (Za (raL c.res rs))).map (·.1)=List.range' st1.heap.length (cntR c.res):=fun rs=>by rw [Zob,<- (Zc1 c.res rs).1,Z4,(Zc1 c.res rs).2,<- e2,Z4]
       split at h3
       . rename_i a ha;split at h3
         . rename_i rs hrs;refine⟨_,_,List.range' st1.heap.length (cntR c.res),_,_,.call f _ true (pasL c.args a) (raL c.res rs) (.st args ho) h1 ?_ (ht f c hc a rs hrs) (.inl rfl),post rs,by grind⟩;have:=Zc2 (fun t x v hv=>Zs4 (show frz [] [] 6 _=_ from Zap (h:=[]) hv)) ha;rw [Zeb,e1] at this;simp only [Yv,if_true];exact this
         grind
       . split at h3
         . rename_i a ha;split at h3
           . rename_i hp;split at h3
             . rename_i rs hrs;refine⟨_,_,_,_,_,.call f _ false (pasL c.args a) (raL c.res rs) (.st args ho) h1 ?_ (ht f c hc a rs hrs) (.inr (Zpd hp rs)),post rs,by rw [tg];exact h3⟩;have:=Zc2 (fun t x v hv=>Zap hv) ha;rw [Zeb,e1,Zpe,e2] at this;simp only [Yv,J0r,if_false];grind
             grind
           grind
         grind
   . rename_i x args ho;have e1:erL st1.slots=st.er.slots:=by rw [<- h2];rfl
     have e2:erH st1.heap=st.er.heap:=by rw [<- h2];rfl
     split at h3
     . rename_i f caps hx;have hx' : x.eval st.er.slots = .fn f (erL caps):=by rw [<- e1,<- Zkf,hx];rfl
       split at h3
       . cases h3
       . rename_i c hc;have post:∀ rs:Xp c.res,(⟨Q4 st1.slots s.dst (retT (valR st1.heap.length c.res rs)),st1.heap++objR c.res rs⟩:TSt).er=⟨setD st.er.slots s.dst (retV (Zh st.er.heap.length (raL c.res rs))),st.er.heap++Za (raL c.res rs)⟩:=fun rs=>by simp only [TSt.er,Qs,Zmt,e1,e2,Zij,Zii,(Zc1 c.res rs).1];rw [<- Z4,e2];rfl
         have tg:∀ rs:Xp c.res,(tagged st.er.heap.length (Za (raL c.res rs))).map (·.1)=List.range' st1.heap.length (cntR c.res):=fun rs=>by rw [Zob,<- (Zc1 c.res rs).1,Z4,(Zc1 c.res rs).2,<- e2,Z4]
         split at h3
         . rename_i a ha;split at h3
           . rename_i rs hrs;refine⟨_,_,List.range' st1.heap.length (cntR c.res),_,_,.call f _ true (pasL c.args a) (raL c.res rs) (.vl x args (erL caps) ho hx' (hcb f c hc)) h1 ?_ (ht f c hc a rs hrs) (.inl rfl),post rs,by grind⟩;have:=Zc2 (fun t x v hv=>Zs4 (show frz [] [] 6 _=_ from Zap (h:=[]) hv)) ha;rw [Zif,Zeb,e1] at this;simp only [Yv,if_true];exact this
           grind
         . split at h3
           . rename_i a ha;split at h3
             . rename_i rs hrs;obtain⟨hf,h3⟩:=Zs5 h3;refine⟨_,_,_,_,_,.call f _ false (pasL c.args a) (raL c.res rs) (.vl x args (erL caps) ho hx' (hcb f c hc)) h1 ?_ (ht f c hc a rs hrs) (.inr hf),post rs,by rw [tg];exact h3⟩;have:=Zc2 (fun t x v hv=>Zap hv) ha;rw [Zif,Zeb,e1,Zpe,e2] at this;simp only [Yv,J0r,if_false];grind
             grind
           grind
     grind

def Zpf (tab:Tab)(fin:List (List Nat×List Nat)->Bool):List AStep->List (List Nat×List Nat)->TSt->(TSt->Option R)->Option R
 | [],done,st,k=>cond (fin done) (k st) none
 | s::ss,done,st,k=>Z70 s tab st fun st wr tau=>Zpf tab fin ss (done++[(wr,tau)]) st k

theorem Zzl (ht:tab.ok P)(hcb:∀ g c,tab g=some c->callable P g=true){pre:List Nat}{all:List AStep}:∀ {ss:List AStep} {done:List (List Nat×List Nat)} {st:TSt} {k:TSt->Option R},Zpf tab (ordT pre all) ss done st k=some r->DE P pre all done ss st.er (fun s=>∃ ts:TSt,s=ts.er/\k ts=some r)
 | [],done,st,k,h=>by obtain⟨h1,h2⟩:=Xi h;exact .nil h1 ⟨st,rfl,h2⟩
 | s::ss,done,st,k,h=>by simp only [Zpf] at h;obtain⟨y,wr,tau,h1,st',h2,h3,h4⟩:=Yfp ht hcb h;refine .step h2 ?_;rw [<- h3];exact Zzl ht hcb h4
end
end Go.Abs
