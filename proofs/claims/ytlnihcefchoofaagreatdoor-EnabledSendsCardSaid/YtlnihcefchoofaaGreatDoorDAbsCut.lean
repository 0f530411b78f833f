import Derived.Test.YtlnihcefchoofaaGreatDoorDAbsTOpsS
set_option linter.all false
namespace Go.Abs
variable [GTab] [Glob]
def Zk7(f:(t:CT)->TV->Option t.den):(ts:List CT)->List TV->Option (denL ts)
 |[],[]=>some ()|t::ts,x::xs=>match f t x,Zk7 f ts xs with|some a,some b=>some (a,b)|_,_=>none
 |_,_=>none
def Z2m(f:(t:CT)->TV->Option t.den)(ts:List CT):List (List TV)->Option (List (denL ts))|[]=>some []|e::es=>match Zk7 f ts e,Z2m f ts es with|some a,some b=>some (a::b)|_,_=>none
def Zgf(f:(t:CT)->TV->Option t.den)(ts:List CT):TE->Option (List (denL ts))|.sym ts' xs=>Ztm ts' ts xs|.lit es=>Z2m f ts es
def nilC:(t:CT)->AV->Option t.den|.sl _,.nil=>some []|.sl _,.ne=>some []|.sl _,.nl=>some []|.sl _,.e0=>some []|.sl _,.p (.sl [])=>some []|_,_=>none
def frzT(h:List TObj)(bad:List Nat):Nat->(t:CT)->TV->Option t.den
 |0,_,_=>none|d+1,t,x =>
  match x with
  |.p t' v=>t'.castTo t v|.xf ts xs=>(match t with|.sl ts' => Ztm ts ts' xs|_=>none)|.raw v=>nilC t v|.row tg ver=>if bad.contains tg||d==0 then none else match tget h tg ver with
   |some o=>(match t with|.sl ts=>Zgf (frzT h bad d) ts o.el|_=>none)|none=>none
  |.sl tg ver lo len _=>if bad.contains tg||d==0 then none else match tget h tg ver with
   |some o=>(match t with|.sl ts=>Zgf (frzT h bad d) ts ((o.el.drop lo).take len)|_=>none)|none=>none
  |_=>none
theorem Zwn{g:AV->Option PV}(hg:∀x,g (.p x)=some x):∀(l:List PV),frzL g (l.map AV.p)=some l|[]=>rfl|x::l=>by rw[List.map_cons,frzL,Zwn hg l,hg]
theorem Zwo{g:AV->Option PV}(hg:∀x,g (.p x)=some x):∀(es:List (List PV)),frzE g (es.map (·.map AV.p))=some es|[]=>rfl|x::es=>by rw[List.map_cons,frzE,Zwn hg,Zwo hg es]
theorem Zk8{f:(t:CT)->TV->Option t.den}{g:AV->Option PV}(hf:∀t x v,f t x=some v->g x.er=some (t.pv v)):∀{ts:List CT} {xs:List TV} {e:denL ts},Zk7 f ts xs=some e->frzL g (erL xs)=some (pvL ts e)
 |[],[],e,h=>rfl|[],_::_,e,h=>by simp[Zk7]at h|_::_,[],e,h=>by simp[Zk7]at h|t::ts,x::xs,e,h=>by
  simp only[Zk7]at h;split at h;rename_i a b ha hb;obtain rfl:=J0a h;simp only[erL,frzL,hf _ _ _ ha,Zk8 hf hb,pvL];grind
theorem Z75{f:(t:CT)->TV->Option t.den}{g:AV->Option PV}(hf:∀t x v,f t x=some v->g x.er=some (t.pv v)){ts:List CT}:∀{es:List (List TV)} {xs:List (denL ts)},Z2m f ts es=some xs->frzE g (es.map erL)=some (xs.map (pvL ts))
 |[],xs,h=>by obtain rfl:=J0a h;rfl|e::es,xs,h=>by
  simp only[Z2m]at h;split at h;rename_i a b ha hb;obtain rfl:=J0a h;simp only[List.map_cons,frzE,Zk8 hf ha,Z75 hf hb];grind
variable {f:(t:CT)->TV->Option t.den}{ts:List CT}{el:TE}
theorem Zk9{g:AV->Option PV}(hf:∀t x v,f t x=some v->g x.er=some (t.pv v))(hg:∀x,g (.p x)=some x){xs:List (denL ts)}(h:Zgf f ts el=some xs):frzE g el.er=some (xs.map (pvL ts)):=by
 cases el with
 |sym ts' ys =>
  simp only[Zgf]at h;have h1:=Zgc h;have:TE.er (.sym ts' ys)=(xs.map (pvL ts)).map (·.map AV.p):=by grind[TE.er,Function.comp_def]
  grind[Zwo]
 |lit es=>exact Z75 hf h
variable {d:Nat}
theorem Yrp{h:List AObj}{bad:List Nat}{t:CT}{x:AV}{v:t.den}(hn:nilC t x=some v):frz h bad (d+1) x=some (t.pv v):=by unfold nilC at hn;split at hn<;>first|(cases hn;done)|(obtain rfl:=J0a hn;rfl)
variable {h:List TObj}
theorem Yiq{bad:List Nat}(ih:∀(t:CT) (x:TV) (v:t.den),frzT h bad d t x=some v->frz (erH h) bad d x.er=some (t.pv v)){t:CT}{x:TV}{v:t.den}(hf:frzT h bad (d+1) t x=some v):frz (erH h) bad (d+1) x.er=some (t.pv v):=by
 have hp:d≠0 -> ∀x,frz (erH h) bad d (.p x)=some x:=λh0 x=>by
  cases d with|zero=>grind|succ d=>rfl
 cases x with
 |p t' w=>have hf:t'.castTo t w=some v:=hf;grind[TV.er,frz,Zk5]|xf ts xs => cases t with|sl ts' => have hf:Ztm ts ts' xs=some v:=hf;simp only[TV.er,frz,Zgc hf,CT.pv]|_=>cases(show(none:Option _)=some v from hf)
 |raw w=>exact Yrp (show nilC t w=some v from hf)|row tg ver =>
  have hf:(if bad.contains tg||d==0 then none else match tget h tg ver with|some o=>(match (motive:=(t:CT)->Option t.den) t with|.sl ts=>Zgf (frzT h bad d) ts o.el|_=>none)|none=>none)=some v:=hf;split at hf;cases hf;rename_i hc;simp only[Bool.or_eq_true,beq_iff_eq,not_or,Bool.not_eq_true]at hc;split at hf;rename_i o ho;cases t with|sl ts=>have hf:Zgf (frzT h bad d) ts o.el=some v:=hf;have:=Zk9 ih (hp hc.2) hf;simp only[TV.er,frz,hc.1,J0r,if_false,Yf ho];rw[show o.er.elems=o.el.er from rfl,this];rfl|_=>grind
  grind
 |sl tg ver lo len ex =>
  have hf:(if bad.contains tg||d==0 then none else match tget h tg ver with|some o=>(match (motive:=(t:CT)->Option t.den) t with|.sl ts=>Zgf (frzT h bad d) ts ((o.el.drop lo).take len)|_=>none)|none=>none)=some v:=hf;split at hf;cases hf;rename_i hc;simp only[Bool.or_eq_true,beq_iff_eq,not_or,Bool.not_eq_true]at hc;split at hf;rename_i o ho;cases t with|sl ts=>have hf:Zgf (frzT h bad d) ts ((o.el.drop lo).take len)=some v:=hf;have:=Zk9 ih (hp hc.2) hf;rw[TE.take_er,TE.drop_er]at this;simp only[TV.er,frz,hc.1,J0r,if_false,Yf ho];rw[show o.er.elems=o.el.er from rfl,this];rfl|_=>grind
  grind
 |_=>cases(show(none:Option _)=some v from hf)
theorem Zah{bad:List Nat}:∀{d:Nat} {t:CT} {x:TV} {v:t.den},frzT h bad d t x=some v->frz (erH h) bad d x.er=some (t.pv v):=by
 intro d
 induction d with|zero=>intro t x v hf;cases(show(none:Option _)=some v from hf)|succ d ih=>grind[Yiq]
inductive SC where
 |any|nil|nptr|nilf|p (t:CT)|rowN (e size:Nat) (ts:List CT)|row (i:Nat)|ptr (i off:Nat)|fn (f:FuncId) (caps:List CT)|yl|k (n:Int)|slN (e size:Nat) (ts:List CT)|slR (i:Nat)|fnp (f:FuncId) (i off:Nat)
 deriving Inhabited
inductive Sh where
 |c (s:SC)|agg (ss:List SC)|boxN (e size:Nat) (ss:List SC)|fnS (f:FuncId) (ss:List SC)
 deriving Inhabited
def SC.tys:SC->List CT->List CT|.p t,r=>t::r|.rowN _ _ ts,r=>.sl ts::r|.fn _ caps,r=>caps++r|.slN _ _ ts,r=>.sl ts :: .int .i64::r|.slR _,r=>.int .i64 :: .int .i64::r|_,r=>r
def Zod:List SC->List CT->List CT|[],r=>r|s::ss,r=>s.tys (Zod ss r)
def Sh.tys:Sh->List CT->List CT|.c s,r=>s.tys r|.agg ss,r=>Zod ss r|.boxN _ _ ss,r=>Zod ss r|.fnS _ ss,r=>Zod ss r
def Zez:List Sh->List CT->List CT|[],r=>r|s::ss,r=>s.tys (Zez ss r)
def SC.cnt:SC->Nat|.rowN _ _ _=>1|.slN _ _ _=>1|_=>0
def Zwp:List SC->Nat|[]=>0|s::ss=>s.cnt+Zwp ss
def Sh.cnt:Sh->Nat|.c s=>s.cnt|.agg ss=>Zwp ss|.boxN _ _ ss=>Zwp ss+1|.fnS _ ss=>Zwp ss
def Zrz:(a:List CT) -> {r:List CT}->denL (a++r)->denL a×denL r|[],_,e=>((),e)|_::ts,_,e=>((e.1,(Zrz ts e.2).1),(Zrz ts e.2).2)
def Yf8:(a:List CT) -> {r:List CT}->denL a->denL r->denL (a++r)|[],_,_,e=>e|_::ts,_,x,e=>(x.1,Yf8 ts x.2 e)
theorem Zi3:∀(a:List CT) {r:List CT} (x:denL a) (y:denL r),Zrz a (Yf8 a x y)=(x,y)|[],_,x,y=>rfl|_::ts,_,x,y=>by simp only[Zrz,Yf8];rw[Zi3 ts x.2 y];rfl
def Yz:(s:SC)->Nat -> {r:List CT}->denL (s.tys r)->TV×List TObj×denL r|.any,_,_,e=>(.raw .any,[],e)|.nil,_,_,e=>(.raw .nil,[],e)|.nptr,_,_,e=>(.raw .nptr,[],e)|.nilf,_,_,e=>(.raw .nilf,[],e)|.p t,_,_,e=>(.p t e.1,[],e.2)|.rowN ty size ts,n,_,e=>(.row n 1,[⟨1,ty,size,.sym ts e.1⟩],e.2)|.row i,_,_,e=>(.row i 1,[],e)|.ptr i off,_,_,e=>(.ptr i 1 0 off,[],e)|.fn f caps,_,_,e=>(.fn f (Zpd caps (Zrz caps e).1),[],(Zrz caps e).2)|.yl,_,_,e=>(.raw .yl,[],e)|.k n,_,_,e=>(.p (.int .u64) n,[],e)|.slN ty size ts,n,_,e=>(.sl n 1 0 (Int.toNat e.2.1) false,[⟨1,ty,size,.sym ts e.1⟩],e.2.2)|.slR i,_,_,e=>(.sl i 1 (Int.toNat e.1) (Int.toNat e.2.1) false,[],e.2.2)|.fnp f i off,_,_,e=>(.fn f [.ptr i 1 0 off],[],e)
def Xi:(ss:List SC)->Nat -> {r:List CT}->denL (Zod ss r)->List TV×List TObj×denL r|[],_,_,e=>([],[],e)|s::ss,n,_,e=>((Yz s n e).1::(Xi ss (n+s.cnt) (Yz s n e).2.2).1,(Yz s n e).2.1++(Xi ss (n+s.cnt) (Yz s n e).2.2).2.1,(Xi ss (n+s.cnt) (Yz s n e).2.2).2.2)
def Xd:(s:Sh)->Nat -> {r:List CT}->denL (s.tys r)->TV×List TObj×denL r|.c s,n,_,e=>Yz s n e|.agg ss,n,_,e=>(.agg (Xi ss n e).1,(Xi ss n e).2)|.boxN ty size ss,n,_,e=>(.ptr n 1 0 0,⟨1,ty,size,.lit [(Xi ss (n+1) e).1]⟩::(Xi ss (n+1) e).2.1,(Xi ss (n+1) e).2.2)|.fnS f ss,n,_,e=>(.fn f (Xi ss n e).1,(Xi ss n e).2)
def Qw:(ss:List Sh)->Nat -> {r:List CT}->denL (Zez ss r)->List TV×List TObj×denL r|[],_,_,e=>([],[],e)|s::ss,n,_,e=>((Xd s n e).1::(Qw ss (n+s.cnt) (Xd s n e).2.2).1,(Xd s n e).2.1++(Qw ss (n+s.cnt) (Xd s n e).2.2).2.1,(Qw ss (n+s.cnt) (Xd s n e).2.2).2.2)
abbrev Cut:=List Sh
def Cut.ty(c:Cut):List CT:=Zez c []
def fill(c:Cut)(x:denL (Zez c [])):TSt:=⟨(Qw c 0 x).1,(Qw c 0 x).2.1⟩
def Qb(h:List TObj):SC->TV->Option (List (Option Nat))
 |.rowN ty size _,x=>match x with
  |.row t ver=>match tget h t ver with|some o=>if o.e=ty/\o.size=size then some [some t]else none|none=>none
  |.raw .nil=>if 0<size then some [none]else none|_=>none
 |.slN ty size _,x=>match x with
  |.row t ver=>match tget h t ver with|some o=>if o.e=ty/\o.size=size then some [some t]else none|none=>none
  |.sl t ver 0 _ false=>match tget h t ver with|some o=>if o.e=ty/\o.size=size then some [some t]else none|none=>none
  |.raw .nil=>if 0<size then some [none]else none|_=>none
 |_,_=>some []
def Zgg(h:List TObj):List SC->List TV->Option (List (Option Nat))
 |[],[]=>some []|s::ss,x::xs=>match Qb h s x,Zgg h ss xs with|some a,some b=>some (a++b)|_,_=>none
 |_,_=>none
def Yk2(h:List TObj):Sh->TV->Option (List (Option Nat))
 |.c s,x=>Qb h s x|.agg ss,x=>match x with|.agg cs=>Zgg h ss cs|_=>none
 |.boxN ty size ss,x=>match x with
  |.ptr t ver 0 0=>match tget h t ver with
   |some o=>if o.e=ty/\o.size=size/\ss.length=size then(match o.el with
    |.lit [cells]=>match Zgg h ss cells with|some l=>some (some t::l)|none=>none
    |_=>none)else none
   |none=>none
  |_=>none
 |.fnS f ss,x=>match x with|.fn g cs=>if g=f then Zgg h ss cs else none|_=>none
def Z4r(h:List TObj):List Sh->List TV->Option (List (Option Nat))
 |[],[]=>some []|s::ss,x::xs=>match Yk2 h s x,Z4r h ss xs with|some a,some b=>some (a++b)|_,_=>none
 |_,_=>none
def isK(v n:Int):Bool:=v==n
theorem Yk3{v n:Int}(h:isK v n=true):v=n:=by simpa[isK]using h
def Qc(h:List TObj)(m:List (Option Nat))(bad:List Nat):(s:SC)->TV -> {r:List CT}->denL r->Option (denL (s.tys r))
 |.any,_,_,tl=>some tl|.nil,x,_,tl=>match x with|.raw .nil=>some tl|_=>none
 |.nptr,x,_,tl=>match x with|.raw .nptr=>some tl|_=>none
 |.nilf,x,_,tl=>match x with|.raw .nilf=>some tl|_=>none
 |.p t,x,_,tl=>match frzT h bad 6 t x with|some v=>some (v,tl)|none=>none
 |.rowN _ _ ts,x,_,tl=>match x with
  |.row t ver=>match tget h t ver with|some o=>(match Zgf (frzT h bad 6) ts o.el with|some v=>some (v,tl)|none=>none)|none=>none
  |.raw .nil=>some (([]:List (denL ts)),tl)|_=>none
 |.row i,x,_,tl=>match x with
  |.row t ver=>match tget h t ver with|some _=>if m[i]? = some (some t)then some tl else none|none=>none
  |.raw .nil=>if m[i]? = some none then some tl else none|_=>none
 |.ptr i off,x,_,tl=>match x with
  |.ptr t ver 0 o=>match tget h t ver with|some _=>if m[i]? = some (some t)/\o=off then some tl else none|none=>none
  |_=>none
 |.fn f caps,x,_,tl=>match x with
  |.fn g cs=>if g=f then(match Zk7 (frzT h bad 6) caps cs with|some v=>some (Yf8 caps v tl)|none=>none)else none|_=>none
 |.yl,x,_,tl=>match x with|.raw .yl=>some tl|_=>none
 |.k n,x,_,tl=>match x with|.p (.int .u64) v=>if isK v n then some tl else none|_=>none
 |.slN _ _ ts,x,_,tl=>match x with
  |.row t ver=>match tget h t ver with|some o=>(match Zgf (frzT h bad 6) ts o.el with|some v=>some (v,((o.el.len:Nat):Int),tl)|none=>none)|none=>none
  |.sl t ver 0 len false=>match tget h t ver with|some o=>(match Zgf (frzT h bad 6) ts o.el with|some v=>some (v,((len:Nat):Int),tl)|none=>none)|none=>none
  |.raw .nil=>some (([]:List (denL ts)),((0:Nat):Int),tl)|_=>none
 |.slR i,x,_,tl=>match x with
  |.sl t ver lo len false=>match tget h t ver with|some _=>if m[i]? = some (some t)then some (((lo:Nat):Int),((len:Nat):Int),tl)else none|none=>none
  |.raw (.p (.sl []))=>if i<m.length then some (((1:Nat):Int),((0:Nat):Int),tl)else none|.raw .nil=>if i<m.length then some (((1:Nat):Int),((0:Nat):Int),tl)else none|_=>none
 |.fnp f i off,x,_,tl=>match x with
  |.fn g [.ptr t ver 0 o]=>if g=f then(match tget h t ver with|some _=>if m[i]? = some (some t)/\o=off then some tl else none|none=>none)else none|_=>none
def Zcu(h:List TObj)(m:List (Option Nat))(bad:List Nat):(ss:List SC)->List TV -> {r:List CT}->denL r->Option (denL (Zod ss r))
 |[],[],_,tl=>some tl|s::ss,x::xs,_,tl=>match Zcu h m bad ss xs tl with|some e=>Qc h m bad s x e|none=>none
 |[],_::_,_,_=>none|_::_,[],_,_=>none
def Ytk(h:List TObj)(m:List (Option Nat))(bad:List Nat):(s:Sh)->TV -> {r:List CT}->denL r->Option (denL (s.tys r))
 |.c s,x,_,tl=>Qc h m bad s x tl|.agg ss,x,_,tl=>match x with|.agg cs=>Zcu h m bad ss cs tl|_=>none
 |.boxN _ _ ss,x,_,tl=>match x with
  |.ptr t ver 0 0=>match tget h t ver with
   |some o=>(match o.el with|.lit [cells]=>Zcu h m bad ss cells tl|_=>none)|none=>none
  |_=>none
 |.fnS f ss,x,_,tl=>match x with|.fn g cs=>if g=f then Zcu h m bad ss cs tl else none|_=>none
def Zr0(h:List TObj)(m:List (Option Nat))(bad:List Nat):(ss:List Sh)->List TV -> {r:List CT}->denL r->Option (denL (Zez ss r))
 |[],[],_,tl=>some tl|s::ss,x::xs,_,tl=>match Zr0 h m bad ss xs tl with|some e=>Ytk h m bad s x e|none=>none
 |[],_::_,_,_=>none|_::_,[],_,_=>none
def gc(c:Cut)(s:TSt):Option (denL (Zez c [])) := match Z4r s.heap c s.slots with|some m=>if nodupB (m.filterMap id)then Zr0 s.heap m (m.filterMap id) c s.slots ()else none|none=>none
theorem Z2n{f:(t:CT)->TV->Option t.den}{ts:List CT}:∀{es:List (List TV)} {xs:List (denL ts)},Z2m f ts es=some xs->xs.length=es.length
 |[],xs,h=>by obtain rfl:=J0a h;rfl|e::es,xs,h=>by
  simp only[Z2m]at h;split at h;rename_i a b ha hb;obtain rfl:=J0a h;simp[Z2n hb];grind
theorem Yir{xs:List (denL ts)}(h:Zgf f ts el=some xs):xs.length=el.len:=by
 cases el with|sym ts' ys=>have:=congrArg List.length (Zgc (show Ztm ts' ts ys=some xs from h));grind[TE.len]|lit es=>exact Z2n h
section
variable {h:List TObj} {m:List (Option Nat)} {bad:List Nat} {V:TV->TV->Prop} {G:Option Nat->TObj->Prop}
def SCok(h:List TObj)(m:List (Option Nat))(bad:List Nat)(V:TV->TV->Prop)(G:Option Nat->TObj->Prop):Prop :=
 ∀(s:SC) (x:TV) (r:List CT) (tl:denL r) (full:denL (s.tys r)) (l pre post:List (Option Nat)),Qc h m bad s x tl=some full->Qb h s x=some l->m=pre++l++post ->
  (Yz s pre.length full).2.2=tl/\V (Yz s pre.length full).1 x/\l.length=s.cnt/\(Yz s pre.length full).2.1.length=s.cnt /\
  (∀(k:Nat) (src:Option Nat) (o:TObj),l[k]? = some src->(Yz s pre.length full).2.1[k]? = some o->G src o)
theorem Z4s(K:SCok h m bad V G):∀{ss:List SC} {xs:List TV} {r:List CT} {tl:denL r} {full:denL (Zod ss r)} (hgat:Zcu h m bad ss xs tl=some full) {l pre post:List (Option Nat)} (htag:Zgg h ss xs=some l) (hm:m=pre++l++post),
    (Xi ss pre.length full).2.2=tl/\((Xi ss pre.length full).1.length=xs.length /\ ∀(i:Nat) (y x:TV),(Xi ss pre.length full).1[i]? = some y->xs[i]? = some x->V y x)/\l.length=Zwp ss /\
    (Xi ss pre.length full).2.1.length=Zwp ss/\(∀(k:Nat) (src:Option Nat) (o:TObj),l[k]? = some src->(Xi ss pre.length full).2.1[k]? = some o->G src o)
  |[],[],r,tl,full,hgat,l,pre,post,htag,hm=>by have hgat:tl=full:=J0a hgat;have htag:[]=l:=J0a htag;subst hgat;subst htag;exact⟨rfl,⟨rfl,λi y x hy hx=>by grind⟩,rfl,rfl,λk src o hk=>by grind⟩|[],_::_,_,_,_,hgat,_,_,_,_,_=>by simp[Zcu]at hgat|_::_,[],_,_,_,hgat,_,_,_,_,_=>by simp[Zcu]at hgat|s::ss,x::xs,r,tl,full,hgat,l,pre,post,htag,hm=>by
   simp only[Zcu]at hgat;simp only[Zgg]at htag;split at hgat;rename_i e he;split at htag;rename_i a b ha hb;obtain rfl:=J0a htag;obtain⟨p1,p2,p3,p4,p5⟩:=K s x _ e full a pre (b++post) hgat ha (by grind);have hpre:(pre++a).length=pre.length+s.cnt:=by simp[p3]
   obtain⟨q1,q2,q3,q4,q5⟩:=Z4s K he hb (pre:=pre++a) (post:=post) (by grind);grind[Xi,Zwp];grind;grind
structure SHok(h:List TObj) (m:List (Option Nat)) (V:TV->TV->Prop) (G:Option Nat->TObj->Prop):Prop where
 agg:∀(ys xs:List TV),ys.length=xs.length->(∀(i:Nat) (y x:TV),ys[i]? = some y->xs[i]? = some x->V y x)->V (.agg ys) (.agg xs)
 fn:∀(f:FuncId) (ys xs:List TV),ys.length=xs.length->(∀(i:Nat) (y x:TV),ys[i]? = some y->xs[i]? = some x->V y x)->V (.fn f ys) (.fn f xs)
 box:∀(n t ver:Nat) (o:TObj),tget h t ver=some o->m[n]? = some (some t)->V (.ptr n 1 0 0) (.ptr t ver 0 0)
 obj:∀(t ver ty size:Nat) (o:TObj) (ys xs:List TV),tget h t ver=some o->o.e=ty->o.size=size->o.el = .lit [xs]->ys.length=xs.length->(∀(i:Nat) (y x:TV),ys[i]? = some y->xs[i]? = some x->V y x)->G (some t) ⟨1,ty,size,.lit [ys]⟩
variable {r:List CT}
theorem Yk4{s:SC}{n:Nat}{e:denL (s.tys r)}:Xd (.c s) n e=Yz s n e:=rfl
variable {x:TV}{pre:List (Option Nat)}
theorem Yu8(K:SCok h m bad V G){s:SC}{tl:denL r}{full:denL (s.tys r)}(hgat:Qc h m bad s x tl=some full){l post: List (Option Nat)}(htag:Qb h s x=some l)(hm:m=pre++l++post) :
    (Xd (.c s) pre.length full).2.2=tl/\V (Xd (.c s) pre.length full).1 x/\l.length=(Sh.c s).cnt /\
    (Xd (.c s) pre.length full).2.1.length=(Sh.c s).cnt/\(∀(k:Nat) (src:Option Nat) (o:TObj),l[k]? = some src->(Xd (.c s) pre.length full).2.1[k]? = some o->G src o):=by
  rw[Yk4];exact K s x r tl full l pre post hgat htag hm
variable {ss:List SC}{cs:List TV}
theorem Yu9(K:SCok h m bad V G)(K2:SHok h m V G){tl:denL r}{full:denL (Zod ss r)}(hgat:Zcu h m bad ss cs tl=some full){l post: List (Option Nat)}(htag:Zgg h ss cs=some l)(hm:m=pre++l++post) :
    (Xd (.agg ss) pre.length full).2.2=tl/\V (Xd (.agg ss) pre.length full).1 (.agg cs)/\l.length=(Sh.agg ss).cnt /\
    (Xd (.agg ss) pre.length full).2.1.length=(Sh.agg ss).cnt/\(∀(k:Nat) (src:Option Nat) (o:TObj),l[k]? = some src->(Xd (.agg ss) pre.length full).2.1[k]? = some o->G src o):=by
  obtain⟨q1,q2,q3,q4,q5⟩:=Z4s K hgat htag hm;exact⟨q1,K2.agg _ _ q2.1 q2.2,q3,q4,q5⟩
theorem Yva(K:SCok h m bad V G)(K2:SHok h m V G){f:FuncId}{tl:denL r}{full:denL (Zod ss r)}(hgat:Zcu h m bad ss cs tl=some full){l post: List (Option Nat)}(htag:Zgg h ss cs=some l)(hm:m=pre++l++post) :
    (Xd (.fnS f ss) pre.length full).2.2=tl/\V (Xd (.fnS f ss) pre.length full).1 (.fn f cs)/\l.length=(Sh.fnS f ss).cnt /\
    (Xd (.fnS f ss) pre.length full).2.1.length=(Sh.fnS f ss).cnt/\(∀(k:Nat) (src:Option Nat) (o:TObj),l[k]? = some src->(Xd (.fnS f ss) pre.length full).2.1[k]? = some o->G src o):=by
  obtain⟨q1,q2,q3,q4,q5⟩:=Z4s K hgat htag hm;exact⟨q1,K2.fn f _ _ q2.1 q2.2,q3,q4,q5⟩
theorem Yvb(K:SCok h m bad V G)(K2:SHok h m V G){ty size:Nat}{t ver:Nat}{o:TObj}{cells:List TV}{tl:denL r}{full:denL (Zod ss r)}(ho:tget h t ver=some o)(hel:o.el = .lit [cells])(he:o.e=ty)(hsz:o.size=size)
    (hgat:Zcu h m bad ss cells tl=some full) {l post: List (Option Nat)} (htag:Zgg h ss cells=some l) (hm:m=pre++(some t::l)++post) :
    (Xd (.boxN ty size ss) pre.length full).2.2=tl/\V (Xd (.boxN ty size ss) pre.length full).1 (.ptr t ver 0 0)/\(some t::l).length=(Sh.boxN ty size ss).cnt /\
    (Xd (.boxN ty size ss) pre.length full).2.1.length=(Sh.boxN ty size ss).cnt/\(∀(k:Nat) (src:Option Nat) (o:TObj),(some t::l)[k]? = some src->(Xd (.boxN ty size ss) pre.length full).2.1[k]? = some o->G src o):=by
  have hm2:m=(pre++[some t])++l++post:=by grind
  obtain⟨q1,q2,q3,q4,q5⟩:=Z4s K hgat htag hm2;have hpre:(pre++[some t]).length=pre.length+1:=by simp
  rw[hpre]at q1 q2 q4 q5;have hmn:m[pre.length]? = some (some t):=by grind
  refine⟨q1,K2.box _ t ver o ho hmn,by simp[q3,Sh.cnt],?_,λk src o' hk ho' => ?_⟩;show((⟨1,ty,size,.lit [(Xi ss (pre.length+1) full).1]⟩:TObj)::(Xi ss (pre.length+1) full).2.1).length=_;simp[q4,Sh.cnt];have ho' : ((⟨1,ty,size,.lit [(Xi ss (pre.length+1) full).1]⟩:TObj)::(Xi ss (pre.length+1) full).2.1)[k]? = some o' := ho';cases k with|zero=>simp only[J0q,J0b]at hk ho';subst hk;subst ho';exact K2.obj t ver ty size o _ cells ho he hsz hel q2.1 q2.2|succ k=>grind
theorem Yyf(K:SCok h m bad V G)(K2:SHok h m V G){s:Sh}{tl:denL r}{full:denL (s.tys r)}(hgat:Ytk h m bad s x tl=some full){l post: List (Option Nat)}(htag:Yk2 h s x=some l)(hm:m=pre++l++post) :
    (Xd s pre.length full).2.2=tl/\V (Xd s pre.length full).1 x/\l.length=s.cnt /\
    (Xd s pre.length full).2.1.length=s.cnt/\(∀(k:Nat) (src:Option Nat) (o:TObj),l[k]? = some src->(Xd s pre.length full).2.1[k]? = some o->G src o):=by
  cases s with
  |c s=>exact Yu8 K hgat htag hm|agg ss => cases x with|agg cs=>exact Yu9 K K2 hgat htag hm|_=>cases(show(none:Option (List (Option Nat)))=some l from htag)
  |fnS f ss => cases x with|fn g cs => by_cases e:g=f;subst e;have h1:(if g=g then Zgg h ss cs else none)=some l:=htag;rw[if_pos rfl]at h1;have h2:(if g=g then Zcu h m bad ss cs tl else none)=some full:=hgat;rw[if_pos rfl]at h2;exact Yva K K2 h2 h1 hm;have h1:(if g=f then Zgg h ss cs else none)=some l:=htag;grind|_=>cases(show(none:Option (List (Option Nat)))=some l from htag)
  |boxN ty size ss =>
   simp only[Yk2]at htag;split at htag;rename_i t ver;split at htag;rename_i o ho;split at htag;rename_i hc;split at htag;rename_i cells hel;split at htag;rename_i l' hl';obtain rfl:=J0a htag;have hgat:Zcu h m bad ss cells tl=some full:=by
    have h1:(match tget h t ver with|some o=>(match o.el with|.lit [cells]=>Zcu h m bad ss cells tl|_=>none)|none=>none)=some full:=hgat;grind
   exact Yvb K K2 ho hel hc.1 hc.2.1 hgat hl' hm;grind;grind;grind;grind;grind
theorem Ybx(K:SCok h m bad V G)(K2:SHok h m V G):∀{ss:List Sh} {xs:List TV} {r:List CT} {tl:denL r} {full:denL (Zez ss r)} (hgat:Zr0 h m bad ss xs tl=some full) {l pre post:List (Option Nat)} (htag:Z4r h ss xs=some l) (hm:m=pre++l++post),
    (Qw ss pre.length full).2.2=tl/\((Qw ss pre.length full).1.length=xs.length /\ ∀(i:Nat) (y x:TV),(Qw ss pre.length full).1[i]? = some y->xs[i]? = some x->V y x)/\(Qw ss pre.length full).2.1.length=l.length /\
    (∀(k:Nat) (src:Option Nat) (o:TObj),l[k]? = some src->(Qw ss pre.length full).2.1[k]? = some o->G src o)
  |[],[],r,tl,full,hgat,l,pre,post,htag,hm=>by have hgat:tl=full:=J0a hgat;have htag:[]=l:=J0a htag;subst hgat;subst htag;exact⟨rfl,⟨rfl,λi y x hy hx=>by grind⟩,rfl,λk src o hk=>by grind⟩|[],_::_,_,_,_,hgat,_,_,_,_,_=>by simp[Zr0]at hgat|_::_,[],_,_,_,hgat,_,_,_,_,_=>by simp[Zr0]at hgat|s::ss,x::xs,r,tl,full,hgat,l,pre,post,htag,hm=>by
   simp only[Zr0]at hgat;simp only[Z4r]at htag;split at hgat;rename_i e he;split at htag;rename_i a b ha hb;obtain rfl:=J0a htag;obtain⟨p1,p2,p3,p4,p5⟩:=Yyf K K2 hgat ha (pre:=pre) (post:=b++post) (by grind);have hpre:(pre++a).length=pre.length+s.cnt:=by simp[p3]
   obtain⟨q1,q2,q4,q5⟩:=Ybx K K2 he hb (pre:=pre++a) (post:=post) (by grind);grind[Qw];grind;grind
end
variable {t ver:Nat}{o:TObj}
theorem Zcv(hg:tget h t ver=some o):h[t]? = some o/\o.ver=ver/\o.size≠0:=by grind[tget]
def newE(m:List (Option Nat))(ι:Em):Em:=⟨λi=>match m[i]? with|some (some t)=>ι t|_=>.slice none 0 0,ι.O,ι.Y,ι.D⟩
section
variable {B:Nat} {w0 w:World} {h:List TObj} {ι:Em} {m:List (Option Nat)} {bad:List Nat} {H' : List AObj}
def OO(h:List TObj)(ι:Em)(w:World)(VR' : AV->Value->Prop)(src:Option Nat)(o' : TObj):Prop :=
 o'.ver=1/\0<o'.size/\match src with
 |some t=>∃o,(erH h)[t]? = some o/\o.size≠0/\o'.e=o.e/\o'.size=o.size/\o'.er.elems.length=o.elems.length /\
     ∀(i:Nat) (e e' : List AV),o.elems[i]? = some e->o'.er.elems[i]? = some e' -> e'.length=e.length /\ ∀(j:Nat) (x x' : AV),e[j]? = some x->e'[j]? = some x' -> ∀v,VR (erH h) ι w x v->VR' x' v
 |none=>o'.er.elems=[]
structure Kit(B:Nat) (w0 w:World) (h:List TObj) (ι:Em) (m:List (Option Nat)) (bad:List Nat) (H' : List AObj):Prop where
 hr:HRel B w0 (erH h) ι w
 bad:bad=m.filterMap id
 len:H'.length=m.length
 ver:∀(i:Nat) (o:AObj),H'[i]? = some o->o.ver=1
 src:∀(i t:Nat),m[i]? = some (some t)->t<h.length
 lens:∀(i t:Nat) (o o' : AObj),m[i]? = some (some t)->H'[i]? = some o' -> (erH h)[t]? = some o->o'.elems.length=o.elems.length
 sizes:∀(i t:Nat) (o o' : AObj),m[i]? = some (some t)->H'[i]? = some o' -> (erH h)[t]? = some o->o'.size=o.size
 emp:∀(i:Nat) (o' : AObj),m[i]? = some none->H'[i]? = some o' -> o'.elems.length=0
variable (K:Kit B w0 w h ι m bad H')
include K
theorem Kit.sub:∀g,Own H'.length (newE m ι) g->Own (erH h).length ι g:=by
 rintro g (hg|⟨i,hi,hg⟩);exact .inl hg;simp only[newE]at hg;split at hg;rename_i t ht;exact .inr ⟨t,by rw[Z7];exact K.src i t ht,hg⟩;grind[Value.ownBlock]
theorem Kit.clear:∀t g,t<(erH h).length->bad.contains t=false->(ι t).ownBlock=some g->¬Own H'.length (newE m ι) g:=by
 intro t g ht hb hg;obtain⟨hBg,_⟩:=K.hr.own ht hg;rintro(hO|⟨i,hi,hg'⟩);have:=K.hr.old g hO;omega;simp only[newE]at hg';split at hg';rename_i t' ht';have e:=K.hr.inj t t' g ht (by rw[Z7];exact K.src i t' ht') hg hg';subst e;have:t∈bad:=by rw[K.bad,List.mem_filterMap];exact⟨some t,J0j ht',rfl⟩
 grind;grind[Value.ownBlock]
theorem Kit.frz{d:Nat}{x:AV}{v:Value}{y:PV}(hv:VR (erH h) ι w x v)(hf:frz (erH h) bad d x=some y):VRel H' (newE m ι) w (Own H'.length (newE m ι)) (.p y) v :=
 .p _ _ (Zg4 K.hr K.sub K.clear d hv hf)
variable {n:Nat}
theorem Kit.row{v:Value}(hn:n<m.length)(hv:v.oneCell' = true)(he:v=newE m ι n):VRel H' (newE m ι) w (Own H'.length (newE m ι)) (.row n 1) v:=by refine .row _ _ _ (by rw[K.len];exact hn) hv λo ho=>?_;rw[K.ver n o ho];grind
theorem Kit.oldRow{t ver:Nat}{o:TObj}(hg:tget h t ver=some o){v:Value}(hv:VR (erH h) ι w (.row t ver) v):v=ι t/\v.oneCell' = true:=by
 obtain⟨h1,h2,h3⟩:=Zcv hg;cases hv with|row _ _ _ ht hc ho=>exact⟨(ho o.er (by rw[Qv,h1];rfl)).2 h2,hc⟩
theorem Kit.fnCaps{caps:List CT}{cs:List TV}{e:denL caps}(hf:Zk7 (frzT h bad 6) caps cs=some e){g:FuncId}{v:Value}(hv:VR (erH h) ι w (.fn g (erL cs)) v):VRel H' (newE m ι) w (Own H'.length (newE m ι)) (.fn g ((pvL caps e).map .p)) v:=by
 have h1:=Zk8 (λt x v=>Zah) hf;obtain⟨hl,hg⟩:=Zbs h1;cases hv with
 |fn _ _ vs hl2 hr2 =>
  refine .fn _ _ _ (by grind) λi x u hx hu=>?_;rw[J0m,J0f]at hx;obtain⟨y,hy,rfl⟩:=hx;have hi:i<(erL cs).length:=by grind
  have:=hr2 i _ u (J0c hi) hu;exact K.frz this (hg i _ y (J0c hi) hy)
theorem Kit.objOK{ty size:Nat}{ts:List CT}{t ver:Nat}{o:TObj}(ho:tget h t ver=some o)(hc:o.e=ty/\o.size=size){xs:List (denL ts)}(hxs:Zgf (frzT h bad 6) ts o.el=some xs) :
    OO h ι w (VRel H' (newE m ι) w (Own H'.length (newE m ι))) (some t) ⟨1,ty,size,.sym ts xs⟩:=by
  obtain⟨g1,g2,g3⟩:=Zcv ho;have hfe:=Zk9 (λt x v=>Zah) (λx=>rfl) hxs;obtain⟨hl,hg⟩:=Zkw hfe;refine⟨rfl,by grind,o.er,by rw[Qv,g1];rfl,g3,hc.1.symm,hc.2.symm,?_,λi e e' he he' => ?_⟩;show(TE.er (.sym ts xs)).length=o.el.er.length;grind[TE.er];have he'' : (TE.er (.sym ts xs))[i]? = some e' := he';simp only[TE.er,J0m,J0f]at he'';obtain⟨z,hz,rfl⟩:=he'';have hy:=hg i e (pvL ts z) he (by simp[hz]);obtain⟨hl2,hg2⟩:=Zbs hy;refine⟨by grind,λj x x' hx hx' v hv=>?_⟩;rw[J0m,J0f]at hx';obtain⟨q,hq,rfl⟩:=hx';exact K.frz hv (hg2 j x q hx hq)
theorem Kit.slOK{t ver:Nat}{o:TObj}(ho:tget h t ver=some o){lo len: Nat}{v:Value}(hv:VR (erH h) ι w (.sl t ver lo len false) v)(hmn:m[n]? = some (some t)) :
    VRel H' (newE m ι) w (Own H'.length (newE m ι)) (.sl n 1 lo len false) v:=by
  obtain⟨g1,g2,g3⟩:=Zcv ho;have ho2:(erH h)[t]? = some o.er:=by rw[Qv,g1];rfl
  cases hv with
  |sl _ _ _ _ _ _ ht hc hob =>
   have hss:=(hob o.er ho2).2 g2;have hm2:newE m ι n=ι t:=by simp only[newE,hmn]
   refine .sl _ _ _ _ _ _ (by rw[K.len];grind) hc λo' ho' => ?_;rw[K.ver n o' ho'];refine⟨Nat.le_refl _,λ_=>?_⟩;have hlen:=K.lens n t o.er o' hmn ho' ho2;have hsz:=K.sizes n t o.er o' hmn ho' ho2;grind[SubSl]
variable {x:TV}{r:List CT}{pre:List (Option Nat)}
theorem Kit.slN_ok{ty size:Nat}{ts:List CT}{tl:denL r}{full:denL ((SC.slN ty size ts).tys r)}(hgat:Qc h m bad (.slN ty size ts) x tl=some full){l post: List (Option Nat)}(htag:Qb h (.slN ty size ts) x=some l)(hm:m=pre++l++post) :
    (Yz (.slN ty size ts) pre.length full).2.2=tl/\(∀v,VR (erH h) ι w x.er v->VRel H' (newE m ι) w (Own H'.length (newE m ι)) (Yz (.slN ty size ts) pre.length full).1.er v)/\l.length=(SC.slN ty size ts).cnt /\
    (Yz (.slN ty size ts) pre.length full).2.1.length=(SC.slN ty size ts).cnt/\(∀(k:Nat) (src:Option Nat) (o:TObj),l[k]? = some src->(Yz (.slN ty size ts) pre.length full).2.1[k]? = some o->OO h ι w (VRel H' (newE m ι) w (Own H'.length (newE m ι))) src o):=by
  have one:∀{src:Option Nat} {o' : TObj},OO h ι w (VRel H' (newE m ι) w (Own H'.length (newE m ι))) src o' -> ∀(k:Nat) (s:Option Nat) (o:TObj),[src][k]? = some s->[o'][k]? = some o->OO h ι w (VRel H' (newE m ι) w (Own H'.length (newE m ι))) s o:=λhO k s o hk ho=>by grind
  simp only[Qc]at hgat;simp only[Qb]at htag;split at htag;rename_i t ver;split at htag;rename_i o ho;split at htag;rename_i hc;obtain rfl:=J0a htag;simp only[ho]at hgat;split at hgat;rename_i xs hxs;obtain rfl:=J0a hgat;have hmn:m[pre.length]? = some (some t):=by grind
  refine⟨rfl,λv hv=>?_,rfl,rfl,one (K.objOK ho hc hxs)⟩;obtain⟨e1,e2⟩:=K.oldRow ho hv;obtain⟨g1,g2,g3⟩:=Zcv ho;have ho2:(erH h)[t]? = some o.er:=by rw[Qv,g1];rfl
  have hm2:newE m ι pre.length=ι t:=by simp only[newE,hmn]
  show VRel H' (newE m ι) w (Own H'.length (newE m ι)) (.sl pre.length 1 0 o.el.len false) v;refine .sl _ _ _ _ _ _ (by rw[K.len,hm];simp) e2 λo' ho' => ?_;rw[K.ver _ o' ho'];refine⟨Nat.le_refl _,λ_=>?_⟩;have hlen:=K.lens _ t o.er o' hmn ho' ho2;rw[hm2];obtain⟨_,xs',hown,_⟩:=Xm K.hr ho2 g3;have hol:o.er.elems.length=o.el.len:=TE.len_er _;rw[hol]at hlen hown;rcases hown.2 with⟨hv0,h0⟩|⟨g,cap,cur,hv0,_,_,hcap,_⟩
  exact .inr ⟨h0,rfl,.inl ⟨rfl,e1,by omega⟩⟩;exact .inl ⟨g,_,cap,cap,hv0,by grind,hcap,λe=>Bool.noConfusion e,by omega,λ_ _=>rfl⟩;grind;grind;grind;rename_i t ver len;split at htag;rename_i o ho;split at htag;rename_i hc;obtain rfl:=J0a htag;simp only[ho]at hgat;split at hgat;rename_i xs hxs;obtain rfl:=J0a hgat;have hmn:m[pre.length]? = some (some t):=by grind
  exact⟨rfl,λv hv=>K.slOK ho hv hmn,rfl,rfl,one (K.objOK ho hc hxs)⟩;grind;grind;grind;split at htag;rename_i h0;obtain rfl:=J0a htag;obtain rfl:=J0a hgat;have hmn:m[pre.length]? = some none:=by grind
  refine⟨rfl,λv hv=>?_,rfl,rfl,one ⟨rfl,h0,rfl⟩⟩;simp only[TV.er]at hv;cases hv;show VRel H' (newE m ι) w (Own H'.length (newE m ι)) (.sl pre.length 1 0 0 false) (.slice none 0 0);refine .sl _ _ _ _ _ _ (by rw[K.len,hm];simp) rfl λo' ho' => ?_;rw[K.ver _ o' ho'];refine⟨Nat.le_refl _,λ_=>.inr ⟨rfl,rfl,.inl ⟨rfl,by simp only[newE,hmn],K.emp _ o' hmn ho'⟩⟩⟩;grind;grind
theorem Kit.slR_ok{i:Nat}{tl:denL r}{full:denL ((SC.slR i).tys r)}(hgat:Qc h m bad (.slR i) x tl=some full){l post: List (Option Nat)}(htag:Qb h (.slR i) x=some l)(hm:m=pre++l++post) :
    (Yz (.slR i) pre.length full).2.2=tl/\(∀v,VR (erH h) ι w x.er v->VRel H' (newE m ι) w (Own H'.length (newE m ι)) (Yz (.slR i) pre.length full).1.er v)/\l.length=(SC.slR i).cnt /\
    (Yz (.slR i) pre.length full).2.1.length=(SC.slR i).cnt/\(∀(k:Nat) (src:Option Nat) (o:TObj),l[k]? = some src->(Yz (.slR i) pre.length full).2.1[k]? = some o->OO h ι w (VRel H' (newE m ι) w (Own H'.length (newE m ι))) src o):=by
  simp only[Qc]at hgat;simp only[Qb,J0b]at htag;subst htag;have emp:∀{v:Value},i<m.length->(∃a c,v = .slice a 0 c)->VRel H' (newE m ι) w (Own H'.length (newE m ι)) (.sl i 1 1 0 false) v:=by rintro v hi ⟨a,c,rfl⟩;refine .sl _ _ _ _ _ _ (by rw[K.len];exact hi) rfl λo' ho' => ?_;rw[K.ver _ o' ho'];exact⟨Nat.le_refl _,λ_=>.inr ⟨rfl,rfl,.inr ⟨by omega,a,c,rfl⟩⟩⟩
  split at hgat;rename_i t ver lo len;split at hgat;rename_i o ho;split at hgat;rename_i hmi;obtain rfl:=J0a hgat;exact⟨rfl,λv hv=>K.slOK ho hv hmi,rfl,rfl,λk src o hk=>by grind⟩;grind;grind;split at hgat;rename_i hi;obtain rfl:=J0a hgat;refine⟨rfl,λv hv=>emp hi ?_,rfl,rfl,λk src o hk=>by grind⟩;simp only[TV.er]at hv;cases hv with
  |p _ _ hp=>cases hp with
   |nil a c=>grind|sl _ a n c size u hO hlt hn _ _ _ _=>simp_all
  grind;split at hgat;rename_i hi;obtain rfl:=J0a hgat;refine⟨rfl,λv hv=>emp hi ?_,rfl,rfl,λk src o hk=>by grind⟩;simp only[TV.er]at hv;cases hv;grind;grind;grind
theorem Yyg{s:SC}{tl:denL r}{full:denL (s.tys r)}(hgat:Qc h m bad s x tl=some full){l post: List (Option Nat)}(htag:Qb h s x=some l)(hm:m=pre++l++post) :
    (Yz s pre.length full).2.2=tl/\(∀v,VR (erH h) ι w x.er v->VRel H' (newE m ι) w (Own H'.length (newE m ι)) (Yz s pre.length full).1.er v)/\l.length=s.cnt /\
    (Yz s pre.length full).2.1.length=s.cnt/\(∀(k:Nat) (src:Option Nat) (o:TObj),l[k]? = some src->(Yz s pre.length full).2.1[k]? = some o->OO h ι w (VRel H' (newE m ι) w (Own H'.length (newE m ι))) src o)  := by
  cases s with
  |any=>have hgat:tl=full:=J0a hgat;have htag:[]=l:=J0a htag;subst hgat;subst htag;exact⟨rfl,λv hv=>.any v,rfl,rfl,λk src o hk=>by grind⟩|nil => simp only[Qc]at hgat;simp only[Qb,J0b]at htag;subst htag;split at hgat;obtain rfl:=J0a hgat;refine⟨rfl,λv hv=>?_,rfl,rfl,λk src o hk=>by grind⟩;simp only[TV.er]at hv;cases hv;exact .nil;grind|nptr => simp only[Qc]at hgat;simp only[Qb,J0b]at htag;subst htag;split at hgat;obtain rfl:=J0a hgat;refine⟨rfl,λv hv=>?_,rfl,rfl,λk src o hk=>by grind⟩;simp only[TV.er]at hv;cases hv;exact .nptr;grind|nilf => simp only[Qc]at hgat;simp only[Qb,J0b]at htag;subst htag;split at hgat;obtain rfl:=J0a hgat;refine⟨rfl,λv hv=>?_,rfl,rfl,λk src o hk=>by grind⟩;simp only[TV.er]at hv;cases hv;exact .nilf;grind|p t => simp only[Qc]at hgat;simp only[Qb,J0b]at htag;subst htag;split at hgat;rename_i y hy;obtain rfl:=J0a hgat;exact⟨rfl,λv hv=>K.frz hv (Zah hy),rfl,rfl,λk src o hk=>by grind⟩;grind|rowN ty size ts =>
   simp only[Qc]at hgat;simp only[Qb]at htag;split at htag;rename_i t ver;split at htag;rename_i o ho;split at htag;rename_i hc;obtain rfl:=J0a htag;simp only[ho]at hgat;split at hgat;rename_i xs hxs;obtain rfl:=J0a hgat;have hmn:m[pre.length]? = some (some t):=by grind
   refine⟨rfl,λv hv=>?_,rfl,rfl,λk src o' hk ho' => ?_⟩;obtain⟨e1,e2⟩:=K.oldRow ho hv;refine K.row ?_ e2 ?_;grind;grind[newE];have hk0:k=0:=by grind
   subst hk0;simp only[J0q,J0b]at hk ho';have ho' : (⟨1,ty,size,.sym ts xs⟩:TObj)=o' := by grind[Yz]
   subst hk;subst ho';obtain⟨g1,g2,g3⟩:=Zcv ho;have hfe:=Zk9 (λt x v=>Zah) (λx=>rfl) hxs;obtain⟨hl,hg⟩:=Zkw hfe;refine⟨rfl,by grind,o.er,by rw[Qv,g1];rfl,g3,hc.1.symm,hc.2.symm,?_,λi e e' he he' => ?_⟩;show(TE.er (.sym ts xs)).length=o.el.er.length;grind[TE.er];have he'' : (TE.er (.sym ts xs))[i]? = some e' := he';simp only[TE.er,J0m,J0f]at he'';obtain⟨z,hz,rfl⟩:=he'';have hy:=hg i e (pvL ts z) he (by simp[hz]);obtain⟨hl2,hg2⟩:=Zbs hy;refine⟨by grind,λj x x' hx hx' v hv=>?_⟩;rw[J0m,J0f]at hx';obtain⟨q,hq,rfl⟩:=hx';exact K.frz hv (hg2 j x q hx hq);grind;grind;grind;split at htag;rename_i h0;obtain rfl:=J0a htag;obtain rfl:=J0a hgat;have hmn:m[pre.length]? = some none:=by grind
   refine⟨rfl,λv hv=>?_,rfl,rfl,λk src o' hk ho' => ?_⟩;simp only[TV.er]at hv;cases hv;exact K.row (by grind) rfl (by simp only[newE,hmn]);have hk0:k=0:=by grind
   subst hk0;simp only[J0q,J0b]at hk ho';have ho' : (⟨1,ty,size,.sym ts ([]:List (denL ts))⟩:TObj)=o' := by grind[Yz]
   subst hk;subst ho';exact⟨rfl,h0,rfl⟩;grind;grind
  |row i => simp only[Qc]at hgat;simp only[Qb,J0b]at htag;subst htag;split at hgat;rename_i t ver;split at hgat;rename_i o ho;split at hgat;rename_i hmi;obtain rfl:=J0a hgat;refine⟨rfl,λv hv=>?_,rfl,rfl,λk src o hk=>by grind⟩;obtain⟨e1,e2⟩:=K.oldRow ho hv;exact K.row (J0d.1 hmi).1 e2 (by grind[newE]);grind;grind;split at hgat;rename_i hmi;obtain rfl:=J0a hgat;refine⟨rfl,λv hv=>?_,rfl,rfl,λk src o hk=>by grind⟩;simp only[TV.er]at hv;cases hv;exact K.row (J0d.1 hmi).1 rfl (by simp only[newE,hmi]);grind;grind|ptr i off =>
   simp only[Qc]at hgat;simp only[Qb,J0b]at htag;subst htag;split at hgat;rename_i t ver o;split at hgat;rename_i p hp;split at hgat;rename_i hmi;obtain rfl:=J0a hgat;obtain⟨hmi,rfl⟩:=hmi;refine⟨rfl,λv hv=>?_,rfl,rfl,λk src o hk=>by grind⟩;obtain⟨g1,g2,g3⟩:=Zcv hp;simp only[TV.er]at hv;cases hv with
   |ptr _ _ _ _ _ ht hc ho =>
    have hpt:=(ho p.er (by rw[Qv,g1];rfl)).2 g2;obtain⟨g,N,C,q1,q2,q3⟩:=hpt;have hm2:newE m ι i=ι t:=by simp only[newE,hmi]
    refine .ptr _ _ _ _ _ (by rw[K.len];grind) hc λo' ho' => ?_;rw[K.ver i o' ho'];refine⟨Nat.le_refl _,λ_=>⟨g,N,C,by grind,?_,?_⟩⟩;grind;rw[K.lens i t p.er o' hmi ho' (by rw[Qv,g1];rfl)];exact q3
   grind;grind;grind
  |fn f caps => simp only[Qc]at hgat;simp only[Qb,J0b]at htag;subst htag;split at hgat;rename_i g cs;split at hgat;rename_i hgf;subst hgf;split at hgat;rename_i e he;obtain rfl:=J0a hgat;refine⟨by simp[Yz,Zi3],λv hv=>?_,rfl,rfl,λk src o hk=>by grind⟩;simp only[Yz,Zi3,TV.er,Zh8];exact K.fnCaps he hv;grind;grind;grind|slN ty size ts=>exact K.slN_ok hgat htag hm|fnp f i off =>
   simp only[Qc]at hgat;simp only[Qb,J0b]at htag;subst htag;split at hgat;rename_i g t ver o;split at hgat;rename_i hgf;subst hgf;split at hgat;rename_i p hp;split at hgat;rename_i hmi;obtain rfl:=J0a hgat;obtain⟨hmi,rfl⟩:=hmi;refine⟨rfl,λv hv=>?_,rfl,rfl,λk src o hk=>by grind⟩;obtain⟨g1,g2,g3⟩:=Zcv hp;simp only[TV.er,erL]at hv;cases hv with
   |fn _ _ vs hl hr =>
    refine .fn _ _ vs hl λj y u hy hu=>?_
    match j,hy with
    |0,hy =>
     obtain rfl:=J0a hy;have hv:=hr 0 _ u rfl hu;cases hv with
     |ptr _ _ _ _ _ ht hc ho =>
      have hpt:=(ho p.er (by rw[Qv,g1];rfl)).2 g2;obtain⟨g,N,C,q1,q2,q3⟩:=hpt;have hm2:newE m ι i=ι t:=by simp only[newE,hmi]
      refine .ptr _ _ _ _ _ (by rw[K.len];grind) hc λo' ho' => ?_;rw[K.ver i o' ho'];refine⟨Nat.le_refl _,λ_=>⟨g,N,C,by grind,?_,?_⟩⟩;grind;rw[K.lens i t p.er o' hmi ho' (by rw[Qv,g1];rfl)];exact q3
    |j+1,hy=>grind
   grind;grind;grind;grind
  |slR i=>exact K.slR_ok hgat htag hm|yl => simp only[Qc]at hgat;simp only[Qb,J0b]at htag;subst htag;split at hgat;obtain rfl:=J0a hgat;refine⟨rfl,λv hv=>?_,rfl,rfl,λk src o hk=>by grind⟩;simp only[TV.er]at hv;cases hv;exact .yl;grind|k n =>
   simp only[Qc]at hgat;simp only[Qb,J0b]at htag;subst htag;split at hgat;rename_i u;split at hgat;rename_i hu;obtain rfl:=J0a hgat;have hu:(u:Int)=n:=Yk3 hu;subst hu;refine⟨rfl,λv hv=>?_,rfl,rfl,λk src o hk=>by grind⟩;have hv:VR (erH h) ι w (.p (.int .u64 u)) v:=hv;cases hv with|p _ _ hp=>cases hp with|int=>exact .p _ _ (.int _ _)
   grind;grind
end
def LL(h:List TObj)(src:Option Nat)(o' : TObj):Prop:=o'.ver=1/\(src=none->o'.er.elems.length=0) /\ ∀t,src=some t->t<h.length /\ ∀o,(erH h)[t]? = some o->o'.er.elems.length=o.elems.length/\o'.size=o.size
theorem LL.sym{bad:List Nat}{ty size:Nat}(ho:tget h t ver=some o)(hc:o.e=ty/\o.size=size){xs:List (denL ts)}(hxs:Zgf (frzT h bad 6) ts o.el=some xs):LL h (some t) ⟨1,ty,size,.sym ts xs⟩:=by obtain⟨g1,g2,g3⟩:=Zcv ho;refine⟨rfl,(λe=>nomatch e),λt' e=>?_⟩;obtain rfl:=J0a e;refine⟨(J0d.1 g1).1,λp hp=>?_⟩;rw[Qv,g1]at hp;obtain rfl:=J0a hp;refine⟨?_,hc.2.symm⟩;show(TE.er (.sym ts xs)).length=o.el.er.length;rw[TE.len_er,TE.len_er];exact Yir hxs
theorem LL.one{src:Option Nat}{o' : TObj}(hO:LL h src o'):∀(k:Nat) (s:Option Nat) (o:TObj),[src][k]? = some s->[o'][k]? = some o->LL h s o:=λk s o hk ho=>by grind
variable {m:List (Option Nat)}
theorem Yrq{bad:List Nat}:SCok h m bad (λ_ _=>True) (LL h):=by
 intro s x r tl full l pre post hgat htag hm;cases s with
 |rowN ty size ts => simp only[Qc]at hgat;simp only[Qb]at htag;split at htag;rename_i t ver;split at htag;rename_i o ho;split at htag;rename_i hc;obtain rfl:=J0a htag;simp only[ho]at hgat;split at hgat;rename_i xs hxs;obtain rfl:=J0a hgat;exact⟨rfl,trivial,rfl,rfl,LL.one (LL.sym ho hc hxs)⟩;grind;grind;grind;split at htag;obtain rfl:=J0a htag;obtain rfl:=J0a hgat;exact⟨rfl,trivial,rfl,rfl,LL.one ⟨rfl,λ_=>rfl,(λt e=>nomatch e)⟩⟩;grind;grind|slN ty size ts => simp only[Qc]at hgat;simp only[Qb]at htag;split at htag;rename_i t ver;split at htag;rename_i o ho;split at htag;rename_i hc;obtain rfl:=J0a htag;simp only[ho]at hgat;split at hgat;rename_i xs hxs;obtain rfl:=J0a hgat;exact⟨rfl,trivial,rfl,rfl,LL.one (LL.sym ho hc hxs)⟩;grind;grind;grind;rename_i t ver len;split at htag;rename_i o ho;split at htag;rename_i hc;obtain rfl:=J0a htag;simp only[ho]at hgat;split at hgat;rename_i xs hxs;obtain rfl:=J0a hgat;exact⟨rfl,trivial,rfl,rfl,LL.one (LL.sym ho hc hxs)⟩;grind;grind;grind;split at htag;obtain rfl:=J0a htag;obtain rfl:=J0a hgat;exact⟨rfl,trivial,rfl,rfl,LL.one ⟨rfl,λ_=>rfl,(λt e=>nomatch e)⟩⟩;grind;grind|slR i => simp only[Qc]at hgat;simp only[Qb,J0b]at htag;subst htag;split at hgat;split at hgat;split at hgat;obtain rfl:=J0a hgat;exact⟨rfl,trivial,rfl,rfl,λk src o hk=>by grind⟩;grind;grind;split at hgat;obtain rfl:=J0a hgat;exact⟨rfl,trivial,rfl,rfl,λk src o hk=>by grind⟩;grind;split at hgat;obtain rfl:=J0a hgat;exact⟨rfl,trivial,rfl,rfl,λk src o hk=>by grind⟩;grind;grind|fnp f i off => simp only[Qc]at hgat;simp only[Qb,J0b]at htag;subst htag;split at hgat;split at hgat;split at hgat;split at hgat;obtain rfl:=J0a hgat;exact⟨rfl,trivial,rfl,rfl,λk src o hk=>by grind⟩;grind;grind;grind;grind|fn f caps => simp only[Qc]at hgat;simp only[Qb,J0b]at htag;subst htag;split at hgat;split at hgat;split at hgat;obtain rfl:=J0a hgat;exact⟨by simp[Yz,Zi3],trivial,rfl,rfl,λk src o hk=>by grind⟩;grind;grind;grind|k n => simp only[Qc]at hgat;simp only[Qb,J0b]at htag;subst htag;split at hgat;split at hgat;obtain rfl:=J0a hgat;exact⟨rfl,trivial,rfl,rfl,λk src o hk=>by grind⟩;grind;grind|p t => simp only[Qc]at hgat;simp only[Qb,J0b]at htag;subst htag;split at hgat;obtain rfl:=J0a hgat;exact⟨rfl,trivial,rfl,rfl,λk src o hk=>by grind⟩;grind|any=>have hgat:tl=full:=J0a hgat;have htag:[]=l:=J0a htag;subst hgat;subst htag;exact⟨rfl,trivial,rfl,rfl,λk src o hk=>by grind⟩|row i =>
  simp only[Qc]at hgat;simp only[Qb,J0b]at htag;subst htag;have:tl=full:=by grind
  subst this;exact⟨rfl,trivial,rfl,rfl,λk src o hk=>by grind⟩
 |ptr i off =>
  simp only[Qc]at hgat;simp only[Qb,J0b]at htag;subst htag;have:tl=full:=by grind
  subst this;exact⟨rfl,trivial,rfl,rfl,λk src o hk=>by grind⟩
 |_ => simp only[Qc]at hgat;simp only[Qb,J0b]at htag;subst htag;split at hgat;obtain rfl:=J0a hgat;exact⟨rfl,trivial,rfl,rfl,λk src o hk=>by grind⟩;grind
theorem Yrr:SHok h m (λ_ _=>True) (LL h):=by refine⟨λ_ _ _ _=>trivial,λ_ _ _ _ _=>trivial,λ_ _ _ _ _ _=>trivial,λt ver ty size o ys xs ho _ hsz hel hl _=>⟨rfl,(λe=>nomatch e),λt' e=>?_⟩⟩;obtain rfl:=J0a e;obtain⟨g1,g2,g3⟩:=Zcv ho;refine⟨(J0d.1 g1).1,λp hp=>?_⟩;rw[Qv,g1]at hp;obtain rfl:=J0a hp;refine⟨?_,hsz.symm⟩;show(TE.er (.lit [ys])).length=o.el.er.length;grind[TE.er]
theorem Kit.shok{B:Nat}{w0 w:World}{ι:Em}{bad:List Nat}{H' : List AObj}(K:Kit B w0 w h ι m bad H') :
    SHok h m (λy x=>∀v,VR (erH h) ι w x.er v->VRel H' (newE m ι) w (Own H'.length (newE m ι)) y.er v) (OO h ι w (VRel H' (newE m ι) w (Own H'.length (newE m ι)))):=by
  refine⟨λys xs hl hp v hv=>?_,λf ys xs hl hp v hv=>?_,λn t ver o ho hmn v hv=>?_,λt ver ty size o ys xs ho he hs hel hl hp=>?_⟩;simp only[TV.er]at hv;cases hv with
  |agg _ vs hvl hr2 =>
   refine .agg _ _ (by grind[Y9]) λi y u hy hu=>?_;rw[Zb0,J0f]at hy;obtain⟨y',hy',rfl⟩:=hy;have hi:i<xs.length:=by grind
   exact hp i y' xs[i] hy' (J0c hi) u (hr2 i _ u (by grind[Zb0]) hu)
  simp only[TV.er]at hv;cases hv with
  |fn _ _ vs hvl hr2 =>
   refine .fn _ _ _ (by grind[Y9]) λi y u hy hu=>?_;rw[Zb0,J0f]at hy;obtain⟨y',hy',rfl⟩:=hy;have hi:i<xs.length:=by grind
   exact hp i y' xs[i] hy' (J0c hi) u (hr2 i _ u (by grind[Zb0]) hu)
  obtain⟨g1,g2,g3⟩:=Zcv ho;simp only[TV.er]at hv;cases hv with
  |ptr _ _ _ _ _ ht hc2 ho2 =>
   have hpt:=(ho2 o.er (by rw[Qv,g1];rfl)).2 g2;obtain⟨g,N,C,r1,r2,r3⟩:=hpt;have hm3:newE m ι n=ι t:=by simp only[newE,hmn]
   refine .ptr _ _ _ _ _ (by rw[K.len];grind) hc2 λo' ho' => ?_;rw[K.ver _ o' ho'];refine⟨Nat.le_refl _,λ_=>⟨g,N,C,by grind,?_,?_⟩⟩;grind;rw[K.lens _ t o.er o' hmn ho' (by rw[Qv,g1];rfl)];exact r3
  obtain⟨g1,g2,g3⟩:=Zcv ho;have hoel:o.er.elems=[erL xs]:=by show o.el.er=_;rw[hel];rfl
  refine⟨rfl,by grind,o.er,by rw[Qv,g1];rfl,g3,he.symm,hs.symm,by rw[hoel];rfl,λi e e' he he' => ?_⟩;rw[hoel]at he;have he' : ([erL ys]:List (List AV))[i]? = some e' := he';grind[Y9,Zb0]
theorem Yis{l:List (Option Nat)}(hn:(l.filterMap id).Nodup){i j: Nat}(hi:l[i]? = some (some t))(hj:l[j]? = some (some t)):i=j:=by
 induction l generalizing i j with|nil=>grind|cons a l ih=>grind
theorem Z4t{c:Cut}{s:TSt}{x:denL (Zez c [])}(hg:gc c s=some x):Weak 0 s.er (fill c x).er:=by
 unfold gc at hg;split at hg;rename_i m hm;split at hg;rename_i hnd;have hnd:=Zfk hnd;obtain⟨l1,l2,l3,l4⟩:=Ybx Yrq Yrr hg (pre:=[]) (post:=[]) hm (by simp);refine⟨Nat.zero_le _,λB w0 ι a w hs hn=>?_⟩;let H' := erH (fill c x).heap;have hH:∀i:Nat,H'[i]? = ((Qw c 0 x).2.1)[i]?.map TObj.er:=λi=>Qv _ i;have hHl:H'.length=m.length:=by rw[Z7];exact l3
 have mget:∀(i:Nat) (o' : AObj),H'[i]? = some o' -> ∃(src:Option Nat) (o:TObj),m[i]? = some src/\(Qw c 0 x).2.1[i]? = some o/\o' = o.er:=by
  intro i o' hi;have hlt:i<m.length:=by grind
  rw[hH,J0f]at hi;simp_all
 have hnew:∀i t:Nat,m[i]? = some (some t)->t<s.heap.length:=λi t hi=>by
  have hlt:i<(Qw c 0 x).2.1.length:=by grind
  exact((l4 i (some t) _ hi (J0c hlt)).2.2 t rfl).1
 have K:Kit B w0 w s.heap ι m (m.filterMap id) H' := by refine⟨hs.heap,rfl,hHl,λi o ho=>?_,hnew,λi t o o' hi ho' ho=>?_,λi t o o' hi ho' ho=>?_,λi o' hi ho' => ?_⟩;obtain⟨src,p,h1,h2,rfl⟩:=mget i o ho;exact(l4 i src p h1 h2).1;obtain⟨src,p,h1,h2,rfl⟩:=mget i o' ho';rw[hi]at h1;obtain rfl:=J0a h1;exact(((l4 i _ p hi h2).2.2 t rfl).2 o ho).1;obtain⟨src,p,h1,h2,rfl⟩:=mget i o' ho';rw[hi]at h1;obtain rfl:=J0a h1;exact(((l4 i _ p hi h2).2.2 t rfl).2 o ho).2;obtain⟨src,p,h1,h2,rfl⟩:=mget i o' ho';rw[hi]at h1;obtain rfl:=J0a h1;exact(l4 i _ p hi h2).2.1 rfl
 have SK:SCok s.heap m (m.filterMap id) (λy x=>∀v,VR (erH s.heap) ι w x.er v->VRel H' (newE m ι) w (Own H'.length (newE m ι)) y.er v) (OO s.heap ι w (VRel H' (newE m ι) w (Own H'.length (newE m ι)))):=λs x r tl full l pre post hgat htag hm=>Yyg K hgat htag hm;obtain⟨q1,q2,q3,q4⟩:=Ybx SK K.shok hg (pre:=[]) (post:=[]) hm (by simp);refine⟨newE m ι,⟨⟨hs.heap.below,hs.heap.base,hs.heap.old,hs.heap.glob,λi o' ho' => ?_,λi j g hi hj h1 h2=>?_⟩,?_,λi y v hy hv=>?_,hs.defers⟩,⟨⟨Nat.le_refl _,λ_ _ _=>rfl,λg _ hno h' => hno (K.sub g h')⟩,Nat.zero_le _,⟨rfl,rfl,rfl⟩,λt o' ht=>absurd ht (Nat.not_lt_zero _)⟩⟩;right;obtain⟨src,p,h1,h2,rfl⟩:=mget i o' ho';have hoo:=q4 i src p h1 h2;cases src with
 |none =>
  obtain⟨g1,g2,g3⟩:=hoo;have he:p.er.elems=[]:=g3;refine⟨g2,[],?_,λk e hk=>by grind⟩;rw[he];have:newE m ι i = .slice none 0 0:=by simp only[newE,h1]
  rw[this];exact⟨by simp,.inl ⟨rfl,rfl⟩⟩
 |some t =>
  obtain⟨g1,g2,o,k1,k2,k3,k4,k5,k6⟩:=hoo;have hnm:newE m ι i=ι t:=by simp only[newE,h1]
  rcases hs.heap.objs t o k1 with⟨h0,_⟩|⟨_,xs,z1,z2⟩
  grind;refine⟨g2,xs,?_,λk e' hk=>?_⟩;rw[hnm,k5];show w.ownsRow B p.er.e p.er.size (ι t) o.elems.length xs;rw[show p.er.e=o.e from k3,show p.er.size=o.size from k4];exact z1;have hk' : k<o.elems.length:=by grind
  have hko:=J0c hk';obtain⟨m1,m2⟩:=k6 k _ e' hko hk;obtain⟨n1,n2⟩:=z2 k _ hko;refine⟨by rw[m1,n1];exact k4.symm,λj x' hx' => ?_⟩;have hj:j<(o.elems[k]).length:=by grind
  have hjo:=J0c hj;obtain⟨v,hv1,hv2⟩:=n2 j _ hjo;refine⟨v,?_,m2 j _ x' hjo hx' v hv2⟩;rw[show p.er.size=o.size from k4];exact hv1
 have gi:∀(i:Nat),(newE m ι i).ownBlock=some g -> ∃t,m[i]? = some (some t)/\(ι t).ownBlock=some g:=λi hi=>by grind[newE,Value.ownBlock]
 obtain⟨t,h3,h4⟩:=gi i h1;obtain⟨t',h5,h6⟩:=gi j h2;have e:=hs.heap.inj t t' g (by rw[show s.er.heap=erH s.heap from rfl,Z7];grind) (by rw[show s.er.heap=erH s.heap from rfl,Z7];grind) h4 h6;grind[Yis];rw[hs.len];show(erL s.slots).length=(erL (Qw c 0 x).1).length;grind[Y9];have hy' : (erL (Qw c 0 x).1)[i]? = some y:=hy;rw[Zb0,J0f]at hy';obtain⟨y',h1,rfl⟩:=hy';have hi:i<s.slots.length:=by grind
 have h2:=q2.2 i y' s.slots[i] h1 (J0c hi);refine h2 v (hs.slot i _ v ?_ hv);show(erL s.slots)[i]? = _;grind[Zb0];grind;grind
end Go.Abs
