import Derived.Test.YtlnihcefchoofaaGreatDoorDAbsA5
import Derived.CheckFast
set_option linter.all false
namespace Go.Abs
open Go.RowKit (Below)
variable [GTab] [Glob]
structure St where
 slots:List AV
 heap:List AObj
structure SR(B:Nat) (w0:World) (st:St) (ι:Em) (a:Act) (w:World):Prop where
 heap:HRel B w0 st.heap ι w
 len:a.tmps.size=st.slots.length
 slot:∀(i:Nat) (x:AV) (v:Value),st.slots[i]? = some x->a.tmps[i]? = some v->VR st.heap ι w x v
 defers:a.defers=ι.D
def effH(h:List AObj):Eff->List AObj|.none=>h|.new o=>h++[o]|.upd t o=>h.set t o|.grow=>h
def setD(s:List AV)(d:Option Nat)(v:AV):List AV := match d with|none=>s|some d=>s.set d v
theorem put_defers(a:Act)(d:Option Nat)(v:Value):(a.put d v).defers=a.defers:=by cases d<;>rfl
abbrev EX(h:List AObj)(ι:Em)(w:World)(h' : List AObj)(ι' : Em)(w' : World):Prop:=Ext h ι w (Own h.length ι) h' ι' w' (Own h'.length ι')
variable {slots:List AV}{a:Act}{h:List AObj}{ι:Em}
theorem Zbe{w:World}(hl:a.tmps.size=slots.length)(hsl:∀(i:Nat) (x:AV) (v:Value),slots[i]? = some x->a.tmps[i]? = some v->VR h ι w x v)(d:Option Nat){y:AV}{cv:Value}(hy:VR h ι w y cv) :
    (a.put d cv).tmps.size=(setD slots d y).length /\ ∀(i:Nat) (x:AV) (v:Value),(setD slots d y)[i]? = some x->(a.put d cv).tmps[i]? = some v->VR h ι w x v:=by
  cases d with|none=>exact⟨hl,hsl⟩|some d=>grind[Act.put,setD]
section
variable {P:Program} {B:Nat} {w0 w:World}
theorem Yke{st:St}{ι:Em}{a:Act}(hs:SR B w0 st ι a w){y:AV}{eff:Eff}{cv:Value}{w' : World}(hres:Res B st.heap ι w st.heap.length y eff cv w')(d:Option Nat) :
    ∃ι',SR B w0 ⟨setD st.slots d y,effH st.heap eff⟩ ι' (a.put d cv) w' /\ EX st.heap ι w (effH st.heap eff) ι' w' := by
  have fin:∀(h' : List AObj) (ι' : Em),HRel B w0 h' ι' w' -> EX st.heap ι w h' ι' w' -> VR h' ι' w' y cv->SR B w0 ⟨setD st.slots d y,h'⟩ ι' (a.put d cv) w' := by intro h' ι' hh hx hy;obtain⟨h1,h2⟩:=Zbe hs.len (λi x v hx' hv=>hx.rel (hs.slot i x v hx' hv)) d hy;exact⟨hh,h1,h2,(put_defers a d cv).trans (hs.defers.trans hx.oeq.2.2.symm)⟩
  cases eff with
  |none=>obtain⟨rfl,hy⟩:=hres;exact⟨ι,fin _ _ hs.heap (.refl _ _ _ _) hy,.refl _ _ _ _⟩|grow=>obtain⟨hg,hy⟩:=hres;obtain⟨hh,hx⟩:=hs.heap.grown hg;exact⟨ι,fin _ _ hh hx hy,hx⟩|new o =>
   obtain⟨hver,sv,⟨xs,h1,h2,h3,h4,h5⟩,hy⟩:=hres;obtain⟨hh,hx⟩:=hs.heap.push o sv xs h1 h2 h3 h4 h5;refine⟨_,fin _ _ hh hx ?_,hx⟩;have hget:(st.heap++[o])[st.heap.length]? = some o:=by simp
   have hone:sv.oneCell' = true:=by rcases h4.2 with⟨rfl,_⟩|⟨g,cap,cur,rfl,_⟩<;>rfl
   rcases hy with⟨rfl,rfl⟩|⟨rfl,g,N,C,hsv,hcv,hlt⟩
   refine .row _ _ _ (by simp[effH]) hone λo' ho' => ?_;grind[effH,upd_same];refine .ptr _ _ _ _ _ (by simp[effH]) (by rw[hcv];rfl) λo' ho' => ?_;rw[effH,hget]at ho';obtain rfl:=J0a ho';exact⟨by omega,λ_=>⟨g,N,C,by grind[upd_same],hcv,hlt⟩⟩
  |upd t o' =>
   obtain⟨sv,⟨o,xs,h0,h1,h2,h3,h4,h5,h6⟩,hy⟩:=hres;obtain⟨hh,hx⟩:=hs.heap.change t o o' h0 sv xs h1 h2 h3 h4 h5 h6;refine⟨_,fin _ _ hh hx ?_,hx⟩;rcases hy with⟨rfl,rfl⟩|hy
   have htl:t<st.heap.length:=(J0d.1 h0).1;have hone:cv.oneCell' = true:=by rcases h5.2 with⟨rfl,_⟩|⟨g,cap,cur,rfl,_⟩<;>rfl
   refine .row _ _ _ (by grind[effH]) hone λp hp=>?_;grind[effH,upd_same];exact hx.rel hy
end
structure AStep where
 dst:Option Nat
 guard:Option (Nat×Bool)
 op:SOp
 deriving Inhabited
def Zh6(P:Program)(ops:Array Oper)(o:Oper):Option AStep := match Zn6 P o with|none=>none|some ao => match o.guard with|none=>some ⟨o.dst,none,ao⟩|some (j,b) => match (ops[j]?).bind (·.dst)with|some d=>some ⟨o.dst,some (d,b),ao⟩|none=>none
def Zk(s:List AV):Option (Nat×Bool)->Option Bool|none=>some true|some (d,b) => match s[d]? with|some (.p (.bool b'))=>some (b' == b)|some .u=>some false|_=>none
theorem Qn{P:Program}{ops:Array Oper}{o:Oper}{s:AStep}(hc:Zh6 P ops o=some s){w:World}(hl:a.tmps.size=slots.length)
    (hsl:∀(i:Nat) (x:AV) (v:Value),slots[i]? = some x->a.tmps[i]? = some v->VR h ι w x v) {b:Bool} (hw:Zk slots s.guard=some b):Region.wanted o (yielded ops a.tmps)=b/\s.dst=o.dst/\Zn6 P o=some s.op:=by
  unfold Zh6 at hc;split at hc;cases hc;rename_i ao hao;split at hc;grind[Zk,Region.wanted];rename_i j b' hg;split at hc;rename_i d hd;obtain rfl:=J0a hc;refine⟨?_,rfl,hao⟩;simp only[Zk]at hw;simp only[Region.wanted,hg,yielded,hd,J0k];split at hw;rename_i x hx;obtain rfl:=J0a hw;have hlt:d<a.tmps.size:=by grind
  have hv:=hsl d _ _ hx (Array.getElem?_eq_getElem hlt);rw[Array.getElem?_eq_getElem hlt];generalize a.tmps[d]=v at hv;cases hv with|p _ _ hv=>cases hv;simp
  rename_i hx;obtain rfl:=J0a hw;have hlt:d<a.tmps.size:=by grind
  have hv:=hsl d _ _ hx (Array.getElem?_eq_getElem hlt);rw[Array.getElem?_eq_getElem hlt];generalize a.tmps[d]=v at hv;cases hv;rfl;grind;grind
inductive PA where
 |c (x:PV)|a (cells:List PV)|q (cells:List PV)
 deriving Inhabited
inductive PARel(w:World) (O:Nat->Prop):PA->Value->Prop where
 |c (x:PV) (v:Value) (h:PRel w O x v):PARel w O (.c x) v|a (cs:List PV) (vs:Array Value) (hl:vs.size=cs.length) (hr:∀(i:Nat) (x:PV) (v:Value),cs[i]? = some x->vs[i]? = some v->PRel w O x v):PARel w O (.a cs) (.agg vs)|q (cs:List PV) (ad:Addr) (u:Nat->Value) (hO:¬O ad.block) (hlt:ad.block<w.heap.size) (hcell:∀(j:Nat) (x:PV),cs[j]? = some x->w.cell? (ad.add j)=some (u j))
     (hrel:∀(j:Nat) (x:PV),cs[j]? = some x->PRel w O x (u j)):PARel w O (.q cs) (.pointer (some ad))
def Zcb(w:World)(O:Nat->Prop)(ps:List PA)(vs:Array Value):Prop:=vs.size=ps.length /\ ∀(i:Nat) (x:PA) (v:Value),ps[i]? = some x->vs[i]? = some v->PARel w O x v
inductive RC where
 |c (v:PV)|s (e size:Nat) (elems:List (List PV))|e (b:Bool)
 deriving Inhabited
inductive RA where
 |c (x:RC)|a (cells:List RC)
 deriving Inhabited
def Yg:RC->List AObj|.c _=>[]|.s e size es=>[⟨1,e,size,es.map (·.map .p)⟩]|.e _=>[]
def Xk:List RC->List AObj|[]=>[]|x::xs=>Yg x++Xk xs
def Zbr:RA->List AObj|.c x=>Yg x|.a xs=>Xk xs
def Za:List RA->List AObj|[]=>[]|x::xs=>Zbr x++Za xs
def Zbm(T:Nat):RC->AV|.c v=>.p v|.s _ _ _=>.row T 1|.e b=>.ifc b
def Zag:Nat->List RC->List AV|_,[]=>[]|T,x::xs=>Zbm T x::Zag (T+(Yg x).length) xs
def Zfh(T:Nat):RA->AV|.c x=>Zbm T x|.a xs=>.agg (Zag T xs)
def Zg:Nat->List RA->List AV|_,[]=>[]|T,x::xs=>Zfh T x::Zg (T+(Zbr x).length) xs
def retV:List AV->AV|[x]=>x|xs=>.tuple xs
def Spec(P:Program)(f:FuncId)(args:List PA)(rs:List RA):Prop :=
 ∀(O:Nat->Prop) (w:World) (cargs:Array Value),(∀g,O g->g<w.heap.size)->Zv w.heap.size w->Zcb w O args cargs ->
  Calls P f cargs w λe w' => ∃v ι,e = .returned v/\ι.O=O/\HRel w.heap.size w (Za rs) ι w' /\ VR (Za rs) ι w' (retV (Zg 0 rs)) v
def PV.flat:PV->Bool|.sl es=>es.isEmpty|_=>true
def RC.flat:RC->Bool|.c v=>v.flat|.s _ _ es=>es.all λe=>e.all PV.flat|.e _=>true
def RA.flat:RA->Bool|.c x=>x.flat|.a xs=>xs.all RC.flat
theorem PRel.of_flat{w w' : World}{O O' : Nat->Prop}{x:PV}{v:Value}(hf:x.flat=true)(h:PRel w O x v):PRel w' O' x v:=by
 cases h with|bool b=>exact .bool b|int k n=>exact .int k n|str s=>exact .str s|nil a c=>exact .nil a c|sl elems a n c size u hO hlt hn hc hsz hcell hrel=>simp only[PV.flat,List.isEmpty_iff]at hf;subst hf;simp only[List.length_nil]at hn;subst hn;exact .nil _ _
def Zg3(n:Nat)(ι κ:Em):Em:=⟨λt=>if t<n then ι t else κ (t-n),ι.O,ι.Y,ι.D⟩
variable {n t:Nat}{κ:Em}
theorem Zev(h:t<n):Zg3 n ι κ t=ι t:=by show(if t<n then ι t else κ (t-n))=_;grind
theorem Zf7:Zg3 n ι κ (n+t)=κ t:=by show(if n+t<n then ι (n+t)else κ (n+t-n))=_;grind
def Znl(o:AObj):Prop:=∀(i:Nat) (e:List AV),o.elems[i]? = some e -> ∀(j:Nat) (x:AV),e[j]? = some x -> ∃y,x = .p y
theorem Zvm(x:RC):∀o∈Yg x,Znl o:=by
 intro o ho;cases x with|c v=>simp[Yg]at ho|e b=>simp[Yg]at ho|s e size es=>simp only[Yg,List.mem_singleton]at ho;subst ho;intro i el he j y hy;grind
theorem Zta:∀(xs:List RC),∀o∈Xk xs,Znl o
 |[],o,ho=>by simp[Xk]at ho|x::xs,o,ho=>by
  simp only[Xk,List.mem_append]at ho;rcases ho with ho|ho
  grind[Zvm];exact Zta xs o ho
theorem Ybi(x:RA):∀o∈Zbr x,Znl o:=by
 cases x with|c x=>exact Zvm x|a xs=>exact Zta xs
theorem Zkv:∀(xs:List RA),∀o∈Za xs,Znl o
 |[],o,ho=>by simp[Za]at ho|x::xs,o,ho=>by
  simp only[Za,List.mem_append]at ho;rcases ho with ho|ho
  grind[Ybi];exact Zkv xs o ho
section
variable {P:Program} {B:Nat} {w0 w w' : World} {h k:List AObj} {ι κ:Em}
variable {O O':Nat->Prop}{G:PV->Prop}
theorem VRel.shift(hO:∀x v,G x->PRel w' O x v->PRel w' O' x v):∀{x:RC} {T:Nat} {v:Value},(∀y,x = .c y->G y)->VRel k κ w' O (Zbm T x) v->VRel (h++k) (Zg3 h.length ι κ) w' O' (Zbm (h.length+T) x) v:=by
 intro x T v hG hv;cases x with
 |c pv=>simp only[Zbm]at hv ⊢;cases hv with|p _ _ hp=>exact .p _ _ (hO _ _ (hG _ rfl) hp)
 |e b => simp only[Zbm]at hv ⊢;cases hv with|if0=>exact .if0|if1 t x=>exact .if1 t x
 |s e size es => simp only[Zbm]at hv ⊢;cases hv with|row _ _ _ ht hone hob=>refine .row _ _ _ (by grind) hone λo ho=>?_;rw[J0o (by omega),Nat.add_sub_cancel_left]at ho;obtain⟨h1,h2⟩:=hob o ho;exact⟨h1,λe=>by rw[Zf7];grind⟩
theorem Zit:∀(T:Nat) (xs:List RC),(Zag T xs).length=xs.length|_,[]=>rfl|T,x::xs=>by simp[Zag,Zit]
theorem Ziu:∀(T:Nat) (xs:List RA),(Zg T xs).length=xs.length|_,[]=>rfl|T,x::xs=>by simp[Zg,Ziu]
theorem Zo5:∀(xs:List RC) (T n i:Nat) (y:AV),(Zag (n+T) xs)[i]? = some y -> ∃(x:RC) (U:Nat),y=Zbm (n+U) x/\(Zag T xs)[i]? = some (Zbm U x)/\x∈xs
 |[],_,_,i,y,hy=>by simp[Zag]at hy|x::xs,T,n,i,y,hy=>by
  cases i with|zero=>grind[Zag]|succ i=>simp only[Zag,List.getElem?_cons_succ]at hy ⊢;rw[Nat.add_assoc]at hy;obtain⟨z,U,h1,h2,h3⟩:=Zo5 xs _ n i y hy;grind
inductive InRs:List RA->PV->Prop where|c (x:PV) (rs:List RA):InRs (.c (.c x)::rs) x|a (x:PV) (cs:List RC) (rs:List RA) (hm:RC.c x∈cs):InRs (.a cs::rs) x|tl (x:PV) (r:RA) (rs:List RA) (hm:InRs rs x):InRs (r::rs) x
theorem InRs.mem{r:RA}{rs:List RA}{x:PV}(h:InRs [r] x)(hr:r∈rs):InRs rs x:=by
 induction rs with
 |nil=>cases hr|cons q rs ih =>
  rcases List.mem_cons.1 hr with rfl|hr
  cases h with|c=>exact .c _ _|a _ cs _ hm=>exact .a _ _ _ hm|tl _ _ _ hm=>cases hm
  exact .tl _ _ _ (ih hr)
theorem VRel.shiftA(hO:∀x v,G x->PRel w' O x v->PRel w' O' x v){x:RA}{T:Nat}{v:Value}(hG:∀y,InRs [x] y->G y)(hv:VRel k κ w' O (Zfh T x) v):VRel (h++k) (Zg3 h.length ι κ) w' O' (Zfh (h.length+T) x) v:=by
 cases x with|c x=>exact VRel.shift hO (λy e=>hG y (by subst e;exact .c _ _)) hv|a xs => simp only[Zfh]at hv ⊢;cases hv with|agg _ vs hl hr=>refine .agg _ _ (by grind[Zit]) λi y u hy hu=>?_;obtain⟨x,U,rfl,hx,hm⟩:=Zo5 xs T h.length i y hy;exact VRel.shift hO (λy e=>hG y (by subst e;exact .a _ _ _ hm)) (hr i _ u hx hu)
theorem Zo6:∀(xs:List RA) (T n i:Nat) (y:AV),(Zg (n+T) xs)[i]? = some y -> ∃(x:RA) (U:Nat),y=Zfh (n+U) x/\(Zg T xs)[i]? = some (Zfh U x)/\x∈xs
 |[],_,_,i,y,hy=>by simp[Zg]at hy|x::xs,T,n,i,y,hy=>by
  cases i with|zero=>grind[Zg]|succ i=>simp only[Zg,List.getElem?_cons_succ]at hy ⊢;rw[Nat.add_assoc]at hy;obtain⟨z,U,h1,h2,h3⟩:=Zo6 xs _ n i y hy;grind
theorem VRel.shiftR(hO:∀x v,G x->PRel w' O x v->PRel w' O' x v){rs:List RA}{v:Value}(hG:∀y,InRs rs y->G y)(hv:VRel k κ w' O (retV (Zg 0 rs)) v):VRel (h++k) (Zg3 h.length ι κ) w' O' (retV (Zg h.length rs)) v:=by
 have tup:∀{rs:List RA} {v:Value},(∀y,InRs rs y->G y)->VRel k κ w' O (.tuple (Zg 0 rs)) v->VRel (h++k) (Zg3 h.length ι κ) w' O' (.tuple (Zg h.length rs)) v:=by
  intro rs v hG hv;cases hv with|tuple _ vs hl hr=>refine .tuple _ _ (by grind[Ziu]) λi y u hy hu=>?_;obtain⟨x,U,rfl,hx,hm⟩:=Zo6 rs 0 h.length i y (by grind);exact VRel.shiftA hO (λy hy=>hG y (hy.mem hm)) (hr i _ u hx hu)
 match rs,hG,hv with|[],hG,hv=>exact tup (rs:=[]) hG hv|[x],hG,hv=>exact VRel.shiftA (T:=0) hO hG hv|x::y::rs,hG,hv=>exact tup (rs:=x::y::rs) hG hv
theorem HRel.join(hr:HRel B w0 h ι w)(hk:HRel w.heap.size w k κ w')(hpure:∀o∈k,Znl o)(hO:∀(x:PV) (v:Value),VR k κ w' (.p x) v->(∃(t:Nat) (o:AObj) (i:Nat) (e:List AV) (j:Nat),k[t]? = some o/\o.elems[i]? = some e/\e[j]? = some (AV.p x))->PRel w' (Own (h++k).length (Zg3 h.length ι κ)) x v) :
    HRel B w0 (h++k) (Zg3 h.length ι κ) w' /\ EX h ι w (h++k) (Zg3 h.length ι κ) w' := by
  have hnewblk:∀t g,t<k.length->(κ t).ownBlock=some g->w.heap.size<=g:=λt g ht hg=>(hk.own ht hg).1;have hext:EX h ι w (h++k) (Zg3 h.length ι κ) w' := by refine⟨⟨hk.below.size,λg hg _=>hk.below.block g hg,λg hg hno=>?_⟩,by simp,⟨rfl,rfl,rfl⟩,λt o' ht ho' => ?_⟩;rintro(hOO|⟨t,ht,hb⟩);exact hno (.inl hOO);by_cases htl:t<h.length;rw[Zev htl]at hb;exact hno (.inr ⟨t,htl,hb⟩);obtain⟨s,rfl⟩:∃s,t=h.length+s:=⟨t-h.length,by omega⟩;rw[Zf7]at hb;have:=hnewblk s g (by grind) hb;omega;grind[Zev]
  refine⟨⟨hr.below.trans (hk.below.mono hr.size),hr.base,hr.old,hr.glob,λt o ho=>?_,λt t' g ht ht' h1 h2=>?_⟩,hext⟩;by_cases htl:t<h.length;rw[List.getElem?_append_left htl]at ho;rw[Zev htl];rcases hr.objs t o ho with h0|⟨hs,xs,h1,h2⟩
  grind;refine .inr ⟨hs,xs,h1.kept (row:=none) ⟨hk.below.os,hk.below.tape,hk.below.output,hk.below.size,λg hg _=>hk.below.block g hg⟩ (by grind),λi e he=>⟨(h2 i e he).1,λj x hj=>?_⟩⟩;obtain⟨v,hv,hvr⟩:=(h2 i e he).2 j x hj;exact⟨v,hv,hext.rel hvr⟩;obtain⟨s,rfl⟩:∃s,t=h.length+s:=⟨t-h.length,by omega⟩;rw[J0o (by omega),Nat.add_sub_cancel_left]at ho;rw[Zf7];rcases hk.objs s o ho with h0|⟨hs,xs,h1,h2⟩
  grind;refine .inr ⟨hs,xs,?_,λi e he=>⟨(h2 i e he).1,λj x hj=>?_⟩⟩;obtain⟨g1,g2⟩:=h1;refine⟨g1,?_⟩;rcases g2 with g2|⟨g,cap,cur,hv,hb,rest⟩
  grind;exact .inr ⟨g,cap,cur,hv,Nat.le_trans hr.size hb,rest⟩;obtain⟨v,hv,hvr⟩:=(h2 i e he).2 j x hj;obtain⟨y,rfl⟩:=hpure o (J0j ho) i e he j x hj;exact⟨v,hv,.p _ _ (hO y v hvr ⟨s,o,i,e,j,ho,he,hj⟩)⟩;by_cases a1:t<h.length<;>by_cases a2:t' < h.length;rw[Zev a1]at h1;rw[Zev a2]at h2;exact hr.inj t t' g a1 a2 h1 h2;obtain⟨s,rfl⟩:∃s,t' = h.length+s:=⟨t' - h.length,by omega⟩;rw[Zev a1]at h1;rw[Zf7]at h2;have:=(hr.own a1 h1).2;have:=hnewblk s g (by grind) h2;omega;obtain⟨s,rfl⟩:∃s,t=h.length+s:=⟨t-h.length,by omega⟩;rw[Zev a2]at h2;rw[Zf7]at h1;have:=(hr.own a2 h2).2;have:=hnewblk s g (by grind) h1;omega;obtain⟨s,rfl⟩:∃s,t=h.length+s:=⟨t-h.length,by omega⟩;obtain⟨s',rfl⟩:∃s',t' = h.length+s' := ⟨t' - h.length,by omega⟩;rw[Zf7]at h1 h2;rw[hk.inj s s' g (by grind) (by grind) h1 h2]
end
end Go.Abs
namespace Go.Abs
open Go.RowKit (Below)
variable [GTab] [Glob]
def frzL(f:AV->Option PV):List AV->Option (List PV)|[]=>some []|x::xs=>match f x,frzL f xs with|some a,some b=>some (a::b)|_,_=>none
def frzE(f:AV->Option PV):List (List AV)->Option (List (List PV))|[]=>some []|x::xs=>match frzL f x,frzE f xs with|some a,some b=>some (a::b)|_,_=>none
def frz(h:List AObj)(bad:List Nat):Nat->AV->Option PV
 |0,_=>none|n+1,x =>
  match x with
  |.p v=>some v|.xf es=>some (.sl es)|.nil=>some (.sl [])|.ne=>some (.sl [])|.nl=>some (.sl [])|.e0=>some (.sl [])|.row t ver=>if bad.contains t then none else match Zd h t ver with|some o=>(match frzE (frz h bad n) o.elems with|some es=>some (.sl es)|none=>none)|none=>none
  |.sl t ver lo len _=>if bad.contains t then none else match Zd h t ver with|some o=>(match frzE (frz h bad n) ((o.elems.drop lo).take len)with|some es=>some (.sl es)|none=>none)|none=>none
  |_=>none
def frzP:AV->Option PV|.p v=>some v|.xf es=>some (.sl es)|.nil=>some (.sl [])|.ne=>some (.sl [])|.nl=>some (.sl [])|.e0=>some (.sl [])|_=>none
def ptrC(h:List AObj):AV->Option (List PV)
 |.ptr t ver i off=>match Zd h t ver with
  |some o=>(match o.elems[i]? with|some e=>if off<e.length then frzL (frz h [] 6) (e.drop off)else none|none=>none)|none=>none
 |.fptr cs=>some cs|_=>none
def toPA(f:AV->Option PV)(g:AV->Option (List PV)):AV->Option PA
 |.agg cs=>match frzL f cs with|some l=>some (.a l)|none=>none
 |.ptr t ver i off=>match g (.ptr t ver i off)with|some l=>some (.q l)|none=>none
 |.fptr cs=>match g (.fptr cs)with|some l=>some (.q l)|none=>none
 |x=>match f x with|some v=>some (.c v)|none=>none
def Zew(f:AV->Option PV)(g:AV->Option (List PV)):List AV->Option (List PA)|[]=>some []|x::xs=>match toPA f g x,Zew f g xs with|some a,some b=>some (a::b)|_,_=>none
theorem Zbs{f:AV->Option PV}:∀{xs:List AV} {ys:List PV},frzL f xs=some ys->ys.length=xs.length /\ ∀(i:Nat) (x:AV) (y:PV),xs[i]? = some x->ys[i]? = some y->f x=some y
 |[],ys,h=>by grind[frzL]|x::xs,ys,h=>by
  simp only[frzL]at h;split at h;rename_i a b ha hb;obtain rfl:=J0a h;obtain⟨h1,h2⟩:=Zbs hb;grind;grind
theorem Zkw{f:AV->Option PV}:∀{xs:List (List AV)} {ys:List (List PV)},frzE f xs=some ys->ys.length=xs.length /\ ∀(i:Nat) (x:List AV) (y:List PV),xs[i]? = some x->ys[i]? = some y->frzL f x=some y
 |[],ys,h=>by grind[frzE]|x::xs,ys,h=>by
  simp only[frzE]at h;split at h;rename_i a b ha hb;obtain rfl:=J0a h;obtain⟨h1,h2⟩:=Zkw hb;grind;grind
theorem Z14{f:AV->Option PV}{g:AV->Option (List PV)}:∀{xs:List AV} {ys:List PA},Zew f g xs=some ys->ys.length=xs.length /\ ∀(i:Nat) (x:AV) (y:PA),xs[i]? = some x->ys[i]? = some y->toPA f g x=some y
 |[],ys,h=>by grind[Zew]|x::xs,ys,h=>by
  simp only[Zew]at h;split at h;rename_i a b ha hb;obtain rfl:=J0a h;obtain⟨h1,h2⟩:=Z14 hb;grind;grind
section
variable {P:Program} {B:Nat} {w0 w:World} {h:List AObj} {ι:Em}
variable {O:Nat->Prop}
theorem PRel.weak{x:PV}{v:Value}(hp:PRel w O x v):PRel w (λ_=>False) x v:=hp.fix ⟨Nat.le_refl _,λ_ _ _=>rfl,λ_ _ _ h=>h⟩
theorem Zg4(hr:HRel B w0 h ι w){bad:List Nat}(hO:∀g,O g->Own h.length ι g)(hbad:∀t g,t<h.length->bad.contains t=false->(ι t).ownBlock=some g->¬O g):∀(n:Nat) {x:AV} {v:Value} {y:PV},VR h ι w x v->frz h bad n x=some y->PRel w O y v:=by
 have wk:∀{x:PV} {v:Value},PRel w (Own h.length ι) x v->PRel w O x v:=λhp=>hp.fix ⟨Nat.le_refl _,λ_ _ _=>rfl,λg _ h h' => h (hO g h')⟩;intro n
 induction n with
 |zero=>grind[frz]|succ n ih =>
  intro x v y hv hf;have rows:∀(es:List (List AV)) (ps:List (List PV)),Ye h x=some es->(∃t,t<h.length/\bad.contains t=false /\ ∀(a:Addr) (n c:Nat),v = .slice (some a) n c->(ι t).ownBlock=some a.block)->frzE (frz h bad n) es=some ps->y = .sl ps->PRel w O y v:=by
   intro es ps he hblk hp hy;subst hy;obtain⟨a,c,rfl,hc,hrest⟩:=Zax hr hv he;obtain⟨hl,hg⟩:=Zkw hp;by_cases hne:es=[];subst hne;have:ps=[]:=List.eq_nil_of_length_eq_zero (by grind);subst this;exact .nil _ _;obtain⟨sz,ad,u,blk,rfl,hel,hcell⟩:=hrest hne;have pair:∀(i:Nat) (e:List PV),ps[i]? = some e -> ∃e' : List AV,es[i]? = some e' /\ frzL (frz h bad n) e' = some e:=λi e hie=>by
    have hi:i<es.length:=by grind
    exact⟨es[i],J0c hi,hg i _ e (J0c hi) hie⟩
   rw[<- hl]at hc ⊢;obtain⟨tt,htt,hbt,hblk⟩:=hblk;refine .sl ps ad _ c sz u (hbad tt _ htt hbt (hblk ad _ _ rfl)) blk rfl hc (λi e hie=>?_) (λi e hie j z hz=>?_) (λi e hie j z hz=>?_);grind[Zbs];grind[Zbs];grind[Zbs]
  cases x<;>simp only[frz]at hf
  case p v' => obtain rfl:=J0a hf;cases hv with|p _ _ hp=>grind
  case xf es=>obtain rfl:=J0a hf;cases hv with|xf _ _ _ hp=>grind
  case nil=>obtain rfl:=J0a hf;cases hv;exact .nil _ _
  case ne=>obtain rfl:=J0a hf;cases hv;exact .nil _ _
  case nl=>obtain rfl:=J0a hf;cases hv;exact .nil _ _
  case e0=>obtain rfl:=J0a hf;cases hv;exact .nil _ _
  case row t ver =>
   split at hf;cases hf;rename_i hbt;split at hf;rename_i o hgo;split at hf;rename_i ps hps;obtain rfl:=J0a hf;refine rows o.elems ps (by simp[Ye,hgo]) ?_ hps rfl;obtain⟨hot,hov⟩:=Zi hgo;cases hv with|row _ _ _ ht _ hob=>exact⟨t,ht,by grind,λa n c e=>by rw[<- (hob o hot).2 hov,e];rfl⟩
   grind;grind
  case sl t ver lo len ex =>
   split at hf;cases hf;rename_i hbt;split at hf;rename_i o hgo;split at hf;rename_i ps hps;obtain rfl:=J0a hf;obtain⟨hot,hov⟩:=Zi hgo;rcases Nat.eq_zero_or_pos len with h0|hpos
   subst h0;cases hv with
   |sl _ _ _ _ _ _ ht _ hob =>
    obtain⟨a2,c2,rfl,_⟩:=Zni hr hot (Zq hgo) ((hob o hot).2 hov);have hp0:ps=[]:=by rw[List.take_zero]at hps;exact(J0a hps).symm
    subst hp0;exact .nil _ _
   refine rows _ ps (by simp[Ye,hgo]) ?_ hps rfl;cases hv with|sl _ _ _ _ _ _ ht _ hob=>refine⟨t,ht,by grind,λa n c e=>?_⟩;obtain⟨g,N,C,c2,hsv,hvv,_⟩:=((hob o hot).2 hov).pos (.inl hpos);rw[hvv]at e;simp only[Value.slice.injEq,J0b]at e;obtain⟨rfl,_,_⟩:=e;rw[hsv];rfl
   grind;grind
  all_goals cases hf
variable {x:AV}
theorem Zvn{v:Value}{y:PV}(hv:VR h ι w x v)(hf:frzP x=some y):PRel w (Own h.length ι) y v:=by
 unfold frzP at hf;split at hf;obtain rfl:=J0a hf;cases hv with|p _ _ hp=>exact hp
 obtain rfl:=J0a hf;cases hv with|xf _ _ _ hp=>exact hp
 obtain rfl:=J0a hf;cases hv;exact .nil _ _;obtain rfl:=J0a hf;cases hv;exact .nil _ _;obtain rfl:=J0a hf;cases hv;exact .nil _ _;obtain rfl:=J0a hf;cases hv;exact .nil _ _;grind
theorem Zvo(hr:HRel B w0 h ι w){v:Value}{l:List PV}(hv:VR h ι w x v)(hg:ptrC h x=some l):PARel w (λ_=>False) (.q l) v:=by
 cases x with
 |ptr t ver i off =>
  simp only[ptrC]at hg;split at hg;rename_i o hgo;split at hg;rename_i e he;split at hg;rename_i hlt;obtain⟨hl,hgt⟩:=Zbs hg;have hrc:Xg h (e.drop off).length (.ptr t ver i off)=some (e.drop off):=by grind[Xg]
  obtain⟨ad,u,rfl,_,hc⟩:=Zvd hr hv hrc;have hne:0<(e.drop off).length:=by grind
  refine .q l ad u (λh=>h) ?_ (λj x hx=>?_) (λj x hx=>?_);have:=(hc 0 _ (J0c hne)).1;have hb:=World.block_lt_of_cell? w _ this;grind[Zc];have hj:j<(e.drop off).length:=by grind
  exact(hc j _ (J0c hj)).1;have hj:j<(e.drop off).length:=by grind
  exact Zg4 hr (λ_ h=>h.elim) (λ_ _ _ _ _ h=>h) 6 (hc j _ (J0c hj)).2 (hgt j _ x (J0c hj) hx);grind;grind;grind
 |fptr cs => obtain rfl:=J0a hg;cases hv with|fptr _ ad u hO hlt hcell hrel=>exact .q _ ad u (λh=>h) hlt hcell λj x hx=>(hrel j x hx).weak
 |_=>cases hg
theorem Zrs{v:Value}{l:List PV}(hv:VR h ι w x v)(hg:ptrC [] x=some l):PARel w (Own h.length ι) (.q l) v:=by
 cases x with
 |ptr t ver i off=>simp[ptrC,Zd]at hg|fptr cs => obtain rfl:=J0a hg;cases hv with|fptr _ ad u hO hlt hcell hrel=>exact .q _ ad u hO hlt hcell hrel
 |_=>cases hg
variable {f:AV->Option PV}{g:AV->Option (List PV)}
theorem Ykf(hf:∀(x:AV) (v:Value) (y:PV),VR h ι w x v->f x=some y->PRel w O y v)(hgr:∀(x:AV) (v:Value) (l:List PV),VR h ι w x v->g x=some l->PARel w O (.q l) v){v:Value}{y:PA}(hv:VR h ι w x v)(hp:toPA f g x=some y):PARel w O y v:=by
 have one:∀(v' : PV),f x=some v' -> PARel w O (.c v') v:=λv' h' => .c _ _ (hf x v v' hv h');unfold toPA at hp;split at hp;rename_i cs;split at hp;rename_i l hl;obtain rfl:=J0a hp;obtain⟨h1,h2⟩:=Zbs hl;cases hv with|agg _ vs h3 h4=>refine .a _ _ (by omega) λi z u hz hu=>?_;grind
 grind;grind;grind;grind
theorem Zfx(hf:∀(x:AV) (v:Value) (y:PV),VR h ι w x v->f x=some y->PRel w O y v)(hgr:∀(x:AV) (v:Value) (l:List PV),VR h ι w x v->g x=some l->PARel w O (.q l) v){xs:List AV}{vs:Array Value}{ys:List PA}(hl:vs.size=xs.length)(hv:∀(i:Nat) (x:AV) (v:Value),xs[i]? = some x->vs[i]? = some v->VR h ι w x v)
    (hp:Zew f g xs=some ys):Zcb w O ys vs:=by
  obtain⟨h1,h2⟩:=Z14 hp;refine⟨by omega,λi y v hy hv' => ?_⟩;have hi:i<xs.length:=by grind
  exact Ykf hf hgr (hv i _ v (J0c hi) hv') (h2 i _ y (J0c hi) hy)
def Yr(rs:List RA):Bool:=rs.all RA.flat
theorem Zvp{x:RC}(hf:x.flat=true):∀o∈Yg x,∀(i:Nat) (e:List AV),o.elems[i]? = some e -> ∀(j:Nat) (y:PV),e[j]? = some (AV.p y)->y.flat=true:=by
 intro o ho i e he j y hy;cases x with
 |c v=>simp[Yg]at ho|e b=>simp[Yg]at ho|s e' size es =>
  simp only[Yg,List.mem_singleton]at ho;subst ho;simp only[J0m,J0f]at he;obtain⟨el,hel,rfl⟩:=he;simp only[J0m,J0f]at hy;obtain⟨z,hz,hzy⟩:=hy;injection hzy with hzy
  subst hzy;simp only[RC.flat,List.all_eq_true]at hf;exact hf el (J0j hel) z (J0j hz)
theorem Ztb:∀{xs:List RC},xs.all RC.flat=true -> ∀o∈Xk xs,∀(i:Nat) (e:List AV),o.elems[i]? = some e -> ∀(j:Nat) (y:PV),e[j]? = some (AV.p y)->y.flat=true
 |[],_,o,ho=>by simp[Xk]at ho|x::xs,hf,o,ho=>by
  simp only[List.all_cons,J0e]at hf;simp only[Xk,List.mem_append]at ho;rcases ho with ho|ho
  grind[Zvp];exact Ztb hf.2 o ho
theorem Zkx:∀{xs:List RA},Yr xs=true -> ∀o∈Za xs,∀(i:Nat) (e:List AV),o.elems[i]? = some e -> ∀(j:Nat) (y:PV),e[j]? = some (AV.p y)->y.flat=true
 |[],_,o,ho=>by simp[Za]at ho|x::xs,hf,o,ho=>by
  simp only[Yr,List.all_cons,J0e]at hf;simp only[Za,List.mem_append]at ho;rcases ho with ho|ho
  cases x with|c x=>exact Zvp hf.1 o ho|a ys=>exact Ztb hf.1 o ho
  exact Zkx (xs:=xs) hf.2 o ho
theorem Z15{rs:List RA}{x:PV}(hf:Yr rs=true)(hm:InRs rs x):x.flat=true:=by
 induction hm with|c x rs=>simp only[Yr,List.all_cons,J0e]at hf;exact hf.1|a x cs rs hm=>simp only[Yr,List.all_cons,J0e,RA.flat,List.all_eq_true]at hf;exact hf.1 _ hm|tl x r rs _ ih=>grind[Yr]
theorem Xo{f:FuncId}(hc:callable P f=true)(args:Array Value)(w:World):(callFunc f args).run P w = .ok (.enter f args) w:=by
 unfold callable at hc;split at hc;rename_i fn hf;simp only[J0e,Bool.not_eq_true']at hc;obtain⟨h1,h2⟩:=hc;have h3:fn.body.isNone=false:=by simp_all
 grind[callFunc,Sem.run_bind,run_program,Result.andThen_ok,Sem.run_pure];grind
variable {st:St}{a:Act}
theorem join_step{ι κ:Em}{w' : World}(hs:SR B w0 st ι a w){rs:List RA}{v:Value}(hk:HRel w.heap.size w (Za rs) κ w')(hv:VR (Za rs) κ w' (retV (Zg 0 rs)) v)
    (hmode:Yr rs=true∨κ.O=Own st.heap.length ι) (d:Option Nat) :
    SR B w0 ⟨setD st.slots d (retV (Zg st.heap.length rs)),st.heap++Za rs⟩ (Zg3 st.heap.length ι κ) (a.put d v) w' /\ EX st.heap ι w (st.heap++Za rs) (Zg3 st.heap.length ι κ) w' := by
  have hO:∀(x:PV) (u:Value),(x.flat=true∨κ.O=Own st.heap.length ι)->PRel w' (Own (Za rs).length κ) x u->PRel w' (Own (st.heap++Za rs).length (Zg3 st.heap.length ι κ)) x u:=by
   intro x u hm hp;rcases hm with hm|hm
   exact hp.of_flat hm;refine hp.fix ⟨Nat.le_refl _,λ_ _ _=>rfl,λg hg hno=>?_⟩;rintro(hOO|⟨t,ht,hb⟩);exact hno (.inl (by rw[hm];exact .inl hOO));by_cases htl:t<st.heap.length;rw[Zev htl]at hb;exact hno (.inl (by rw[hm];exact .inr ⟨t,htl,hb⟩));obtain⟨s,rfl⟩:∃s,t=st.heap.length+s:=⟨t-st.heap.length,by omega⟩;rw[Zf7]at hb;exact hno (.inr ⟨s,by grind,hb⟩)
  obtain⟨hh,hx⟩:=hs.heap.join hk (Zkv rs) (λx u hvr hin=>by
   cases hvr with
   |p _ _ hp =>
    refine hO x u ?_ hp;rcases hmode with hm|hm
    obtain⟨t,o,i,e,j,h1,h2,h3⟩:=hin;exact .inl (Zkx hm o (J0j h1) i e h2 j x h3);grind)
  have hvr:VR (st.heap++Za rs) (Zg3 st.heap.length ι κ) w' (retV (Zg st.heap.length rs)) v:=VRel.shiftR (G:=λx=>x.flat=true∨κ.O=Own st.heap.length ι) hO (λy hy=>by grind[Z15]) hv;obtain⟨h1,h2⟩:=Zbe hs.len (λi x v hx' hv=>hx.rel (hs.slot i x v hx' hv)) d hvr;exact⟨⟨hh,h1,h2,(put_defers a d v).trans (hs.defers.trans hx.oeq.2.2.symm)⟩,hx⟩
def Yt(h:List AObj)(mode:Bool)(xs:List AV):Option (List PA):=if mode then Zew frzP (ptrC []) xs else Zew (frz h [] 6) (ptrC h) xs
theorem Yig{ι:Em}(hs:SR B w0 st ι a w){o:Oper}{f:FuncId}{args:List AOpd}(hc:Zbq P o=some (.call f args)){mode:Bool}{pas:List PA}{rs:List RA}(hp:Yt st.heap mode (args.map (AOpd.eval st.slots))=some pas)(hsp:Spec P f pas rs)
    (hmode:mode=true∨Yr rs=true) {K:Act->World->Prop} {Q:Exit->Act->World->Prop}
    (hK:∀ι' a' w',SR B w0 ⟨setD st.slots o.dst (retV (Zg st.heap.length rs)),st.heap++Za rs⟩ ι' a' w' -> EX st.heap ι w (st.heap++Za rs) ι' w' -> K a' w'):o.wp P a w K Q:=by
  have hop:∃cargs ts,o.op = .call { callee:=.value (.func f),args:=cargs,argTypes:=ts }/\callable P f=true/\cargs.toList.mapM opd=some args:=by
   unfold Zbq at hc;split at hc;rename_i c hop;obtain⟨callee,cargs,ts⟩:=c;dsimp only at hc;split at hc;split at hc;simp_all;grind;grind;grind;grind
  obtain⟨cargs,ts,hop,hcb,hxs⟩:=hop;have hx:(execOp a.eval o).run P w = .ok (.enter f (cargs.map a.eval)) w:=by grind[Xo,execOp,resolve,Deferred.ofValue,Act.eval,invoke]
  obtain⟨hl,hrel⟩:=Zay (a:=a) (λi x v hx hv=>hs.slot i x v hx hv) hs.len hxs;have hrel' : ∀(i:Nat) (x:AV) (v:Value),(args.map (AOpd.eval st.slots))[i]? = some x->(cargs.map a.eval)[i]? = some v->VR st.heap ι w x v:=λi x v h1 h2=>hrel i x v h1 (by grind);have hsz:(cargs.map a.eval).size=(args.map (AOpd.eval st.slots)).length:=by grind
  have fin:∀(O:Nat->Prop),(∀g,O g->g<w.heap.size)->Zcb w O pas (cargs.map a.eval)->(Yr rs=true∨O=Own st.heap.length ι)->o.wp P a w K Q:=by intro O hOs hpr hm;unfold Oper.wp;rw[hx];simp only[Oper.upon_enter];refine(hsp O w _ hOs hs.heap.globw hpr).mono λe w' he=>?_;obtain⟨v,κ,rfl,hkO,hk,hv⟩:=he;obtain⟨h1,h2⟩:=join_step hs hk hv (hm.imp id (λe=>by grind)) o.dst;grind
  unfold Yt at hp;cases mode with
  |true =>
   simp only[if_true]at hp;exact fin _ (λg hg=>by
    rcases hg with hg|⟨t,ht,hb⟩
    exact Nat.lt_of_lt_of_le (hs.heap.old g hg) hs.heap.size;exact(hs.heap.own ht hb).2) (Zfx (λx v y hv hf=>Zvn hv hf) (λx v l hv hg=>Zrs hv hg) hsz hrel' hp) (.inr rfl)
  |false=>simp only[J0r,if_false]at hp;exact fin (λ_=>False) (λ_ h=>h.elim) (Zfx (λx v y hv hf=>Zg4 hs.heap (λ_ h=>h.elim) (λ_ _ _ _ _ h=>h) 6 hv hf) (λx v l hv hg=>Zvo hs.heap hv hg) hsz hrel' hp) (.inl (by grind))
end
end Go.Abs
namespace Go.Abs
open Go.RowKit (Below)
variable [GTab] [Glob]
def topC:AV->List Nat|.row t _=>[t]|_=>[]
def topA:AV->List Nat|.agg cs=>cs.flatMap topC|x=>topC x
def tops(xs:List AV):List Nat:=xs.flatMap topA
def rcOf(h:List AObj)(bad:List Nat)(own:Bool):AV->Option RC
 |.row t ver =>
  if own then match Zd h t ver with|some o=>(match frzE (frz h bad 6) o.elems with|some es=>some (.s o.e o.size es)|none=>none)|none=>none
  else match frz h bad 6 (.row t ver)with|some v=>some (.c v)|none=>none
 |.ifc b=>some (.e b)|x=>match frz h bad 6 x with|some v=>some (.c v)|none=>none
def Zjz(h:List AObj)(bad:List Nat)(own:Bool):List AV->Option (List RC)|[]=>some []|x::xs=>match rcOf h bad own x,Zjz h bad own xs with|some a,some b=>some (a::b)|_,_=>none
def raOf(h:List AObj)(bad:List Nat)(own:Bool):AV->Option RA
 |.agg cs=>match Zjz h bad own cs with|some l=>some (.a l)|none=>none
 |x=>match rcOf h bad own x with|some v=>some (.c v)|none=>none
def Zcc(h:List AObj)(bad:List Nat)(own:Bool):List AV->Option (List RA)|[]=>some []|x::xs=>match raOf h bad own x,Zcc h bad own xs with|some a,some b=>some (a::b)|_,_=>none
def nodupB:List Nat->Bool|[]=>true|x::xs=>!xs.contains x&&nodupB xs
def Zky(h:List AObj)(own:Bool)(xs:List AV):Option (List RA):=if own then(if nodupB (tops xs)then Zcc h (tops xs) true xs else none)else Zcc h [] false xs
def retC:List Value->Value|[v]=>v|vs=>.tuple vs.toArray
theorem Zfk:∀{l:List Nat},nodupB l=true->l.Nodup|[],_=>List.nodup_nil|x::xs,h=>by simp only[nodupB,J0e,Bool.not_eq_true']at h;exact List.nodup_cons.2 ⟨by grind,Zfk h.2⟩
section
variable {B:Nat} {w0 w:World} {h:List AObj} {ι:Em}
structure RowsOK(B:Nat) (w:World) (O:Nat->Prop) (ι:Em) (ts:List Nat) (os:List AObj):Prop where
 len:os.length=ts.length
 obj:∀(i t:Nat) (o:AObj),ts[i]? = some t->os[i]? = some o->o.ver=1/\0<o.size /\ ∃xs,w.ownsRow B o.e o.size (ι t) o.elems.length xs /\
  ∀(i:Nat) (e:List AV),o.elems[i]? = some e->e.length=o.size /\ ∀(j:Nat) (x:AV),e[j]? = some x -> ∃v y,xs[i*o.size+j]? = some v/\x = .p y/\PRel w O y v
theorem RowsOK.nil(B:Nat)(w:World)(O:Nat->Prop)(ι:Em):RowsOK B w O ι [] []:=⟨rfl,λi t o ht=>by grind⟩
theorem RowsOK.app{O:Nat->Prop}{t1 t2:List Nat}{o1 o2:List AObj}(a:RowsOK B w O ι t1 o1)(b:RowsOK B w O ι t2 o2):RowsOK B w O ι (t1++t2) (o1++o2):=by
 refine⟨by simp[a.len,b.len],λi t o ht ho=>?_⟩;by_cases hi:i<t1.length;rw[List.getElem?_append_left hi]at ht;rw[List.getElem?_append_left (by rw[a.len];exact hi)]at ho;exact a.obj i t o ht ho;rw[J0o (by omega)]at ht;rw[J0o (by rw[a.len];omega),a.len]at ho;exact b.obj _ t o ht ho
def KOK(κ ι:Em)(T:Nat)(ts:List Nat):Prop:=∀i t:Nat,ts[i]? = some t->κ (T+i)=ι t
variable {κ:Em}{T:Nat}{a b:List Nat}
theorem KOK.left{ι: Em}(h:KOK κ ι T (a++b)):KOK κ ι T a:=λi t ht=>h i t (by grind)
theorem KOK.right{ι: Em}(h:KOK κ ι T (a++b)):KOK κ ι (T+a.length) b:=λi t ht=>by rw[Nat.add_assoc];exact h _ t (by grind)
variable {bad:List Nat} {O:Nat->Prop}
variable {x:AV}
theorem Yfj(hr:HRel B w0 h ι w)(hO:∀g,O g->Own h.length ι g)(hbad:∀t g,t<h.length->bad.contains t=false->(ι t).ownBlock=some g->¬O g){own:Bool}{v:Value}(hv:VR h ι w x v){r:RC}(hx:rcOf h bad own x=some r) :
    RowsOK B w O ι (if own then topC x else[]) (Yg r) /\ ∀(k:List AObj) (κ:Em) (T:Nat),T+(Yg r).length<=k.length->(∀(i:Nat) (o:AObj),(Yg r)[i]? = some o->k[T+i]? = some o)->KOK κ ι T (if own then topC x else[])->VRel k κ w O (Zbm T r) v:=by
  have pure:∀{y:PV},frz h bad 6 x=some y->r = .c y->(if own then topC x else[])=[]->RowsOK B w O ι (if own then topC x else[]) (Yg r) /\ ∀(k:List AObj) (κ:Em) (T:Nat),T+(Yg r).length<=k.length->(∀(i:Nat) (o:AObj),(Yg r)[i]? = some o->k[T+i]? = some o)->KOK κ ι T (if own then topC x else[])->VRel k κ w O (Zbm T r) v:=by intro y hy hry ht;subst hry;rw[ht];exact⟨.nil _ _ _ _,λk κ T _ _ _=>.p _ _ (Zg4 hr hO hbad 6 hv hy)⟩
  unfold rcOf at hx;split at hx;rename_i t ver;split at hx;rename_i how;simp only[how,if_true,topC];split at hx;rename_i o hgo;split at hx;rename_i es hes;obtain rfl:=J0a hx;obtain⟨hot,hov⟩:=Zi hgo;obtain⟨hs,xs,hown,hel,u,hu⟩:=Xm hr hot (Zq hgo);obtain⟨hl,hg⟩:=Zkw hes;have hv2:=hv;cases hv with
  |row _ _ _ ht hone hob =>
   have hvt:=(hob o hot).2 hov;refine⟨⟨rfl,λi t' o' ht' ho' => ?_⟩,λk κ T hk hkk hκ=>?_⟩;cases i with
   |succ i=>grind|zero =>
    simp only[J0q,J0b]at ht';subst ht';simp only[Yg,J0q,J0b]at ho';subst ho';refine⟨rfl,hs,xs,by grind,λi e he=>?_⟩;simp only[J0m,J0f]at he;obtain⟨e',he',rfl⟩:=he;have hi:i<o.elems.length:=by grind
    have hfe:=hg i _ e' (J0c hi) he';obtain⟨g1,g2⟩:=Zbs hfe;have hle:=hel i _ (J0c hi);refine⟨by grind,λj z hz=>?_⟩;simp only[J0m,J0f]at hz;obtain⟨q,hq,rfl⟩:=hz;have hj:j<(o.elems[i]).length:=by grind
    obtain⟨h5,h6⟩:=hu i _ (J0c hi) j _ (J0c hj);exact⟨_,q,h5,rfl,Zg4 hr hO hbad 6 h6 (g2 j _ q (J0c hj) hq)⟩
   refine .row _ _ _ (by grind[Yg]) hone λo' ho' => ?_;have h7:=hkk 0 _ (by simp[Yg];rfl);rw[Nat.add_zero,ho']at h7;obtain rfl:=J0a h7;refine⟨Nat.le_refl _,λ_=>?_⟩;have:=hκ 0 t rfl;grind
  grind;grind;grind;rename_i b;obtain rfl:=J0a hx;have ht:(if own then topC (.ifc b)else[])=[]:=by cases own<;>rfl
  rw[ht];refine⟨.nil _ _ _ _,λk κ T _ _ _=>?_⟩;cases hv with|if0=>exact .if0|if1 t x=>exact .if1 t x
  rename_i hnr _;split at hx;rename_i v' hv';refine pure hv' (J0a hx).symm ?_;split;cases x<;>first|rfl|grind
  rfl;grind
theorem Z7c(hr:HRel B w0 h ι w)(hO:∀g,O g->Own h.length ι g)(hbad:∀t g,t<h.length->bad.contains t=false->(ι t).ownBlock=some g->¬O g){own:Bool}:∀{xs:List AV} {rs:List RC},Zjz h bad own xs=some rs ->
    ∀{vs:List Value},vs.length=xs.length->(∀(i:Nat) (x:AV) (v:Value),xs[i]? = some x->vs[i]? = some v->VR h ι w x v) ->
    rs.length=xs.length/\RowsOK B w O ι (if own then xs.flatMap topC else[]) (Xk rs) /\ ∀(k:List AObj) (κ:Em) (T:Nat),T+(Xk rs).length<=k.length->(∀(i:Nat) (o:AObj),(Xk rs)[i]? = some o->k[T+i]? = some o)->KOK κ ι T (if own then xs.flatMap topC else[]) ->
     ∀(i:Nat) (y:AV) (v:Value),(Zag T rs)[i]? = some y->vs[i]? = some v->VRel k κ w O y v
  |[],rs,hx,vs,hl,hv=>by simp only[Zjz,J0b]at hx;subst hx;refine⟨rfl,by cases own<;>exact .nil _ _ _ _,λk κ T _ _ _ i y v hy=>by grind⟩|x::xs,rs,hx,vs,hl,hv=>by
   simp only[Zjz]at hx;split at hx;rename_i r rs' hr1 hr2;obtain rfl:=J0a hx;cases vs with
   |nil=>grind|cons v vs =>
    obtain⟨a1,a2⟩:=Yfj hr hO hbad (hv 0 x v rfl rfl) hr1;obtain⟨b0,b1,b2⟩:=Z7c hr hO hbad hr2 (vs:=vs) (by grind) (λi x v hx hv' => hv (i+1) x v (by grind) (by grind));have hts:(if own then(x::xs).flatMap topC else[])=(if own then topC x else[])++(if own then xs.flatMap topC else[]):=by grind
    rw[hts];refine⟨by simp[b0],a1.app b1,λk κ T hk hkk hκ i y u hy hu=>?_⟩;have hlen:=a1.len;cases i with|zero=>simp only[Zag,J0q,J0b]at hy hu;subst hy;subst hu;refine a2 k κ T (by grind[Xk]) (λi o ho=>hkk i o (by grind[Xk])) hκ.left|succ i=>simp only[Zag,List.getElem?_cons_succ]at hy hu;refine b2 k κ (T+(Yg r).length) (by grind[Xk]) (λi o ho=>?_) (by rw[hlen];exact hκ.right) i y u hy hu;rw[Nat.add_assoc];exact hkk _ o (by grind[Xk])
   grind
theorem Yq0(hr:HRel B w0 h ι w)(hO:∀g,O g->Own h.length ι g)(hbad:∀t g,t<h.length->bad.contains t=false->(ι t).ownBlock=some g->¬O g){own:Bool}{v:Value}(hv:VR h ι w x v){r:RA}(hx:raOf h bad own x=some r) :
    RowsOK B w O ι (if own then topA x else[]) (Zbr r) /\ ∀(k:List AObj) (κ:Em) (T:Nat),T+(Zbr r).length<=k.length->(∀(i:Nat) (o:AObj),(Zbr r)[i]? = some o->k[T+i]? = some o)->KOK κ ι T (if own then topA x else[])->VRel k κ w O (Zfh T r) v:=by
  unfold raOf at hx;split at hx;rename_i cs;split at hx;rename_i l hl;obtain rfl:=J0a hx;cases hv with|agg _ vs h1 h2=>obtain⟨b0,b1,b2⟩:=Z7c hr hO hbad hl (vs:=vs.toList) (by grind) (λi x v hx hv=>h2 i x v hx (by grind));refine⟨b1,λk κ T hk hkk hκ=>.agg _ _ (by grind[Zit]) λi y u hy hu=>b2 k κ T hk hkk hκ i y u hy (by grind)⟩
  grind;rename_i hna;split at hx;rename_i v' hv';obtain rfl:=J0a hx;have ht:topA x=topC x:=by cases x<;>first|rfl|grind
  rw[ht];exact Yfj hr hO hbad hv hv';grind
theorem Z7d(hr:HRel B w0 h ι w)(hO:∀g,O g->Own h.length ι g)(hbad:∀t g,t<h.length->bad.contains t=false->(ι t).ownBlock=some g->¬O g){own:Bool}:∀{xs:List AV} {rs:List RA},Zcc h bad own xs=some rs ->
    ∀{vs:List Value},vs.length=xs.length->(∀(i:Nat) (x:AV) (v:Value),xs[i]? = some x->vs[i]? = some v->VR h ι w x v) ->
    rs.length=xs.length/\RowsOK B w O ι (if own then xs.flatMap topA else[]) (Za rs) /\ ∀(k:List AObj) (κ:Em) (T:Nat),T+(Za rs).length<=k.length->(∀(i:Nat) (o:AObj),(Za rs)[i]? = some o->k[T+i]? = some o)->KOK κ ι T (if own then xs.flatMap topA else[]) ->
     ∀(i:Nat) (y:AV) (v:Value),(Zg T rs)[i]? = some y->vs[i]? = some v->VRel k κ w O y v
  |[],rs,hx,vs,hl,hv=>by simp only[Zcc,J0b]at hx;subst hx;refine⟨rfl,by cases own<;>exact .nil _ _ _ _,λk κ T _ _ _ i y v hy=>by grind⟩|x::xs,rs,hx,vs,hl,hv=>by
   simp only[Zcc]at hx;split at hx;rename_i r rs' hr1 hr2;obtain rfl:=J0a hx;cases vs with
   |nil=>grind|cons v vs =>
    obtain⟨a1,a2⟩:=Yq0 hr hO hbad (hv 0 x v rfl rfl) hr1;obtain⟨b0,b1,b2⟩:=Z7d hr hO hbad hr2 (vs:=vs) (by grind) (λi x v hx hv' => hv (i+1) x v (by grind) (by grind));have hts:(if own then(x::xs).flatMap topA else[])=(if own then topA x else[])++(if own then xs.flatMap topA else[]):=by grind
    rw[hts];refine⟨by simp[b0],a1.app b1,λk κ T hk hkk hκ i y u hy hu=>?_⟩;have hlen:=a1.len;cases i with|zero=>simp only[Zg,J0q,J0b]at hy hu;subst hy;subst hu;refine a2 k κ T (by grind[Za]) (λi o ho=>hkk i o (by grind[Za])) hκ.left|succ i=>simp only[Zg,List.getElem?_cons_succ]at hy hu;refine b2 k κ (T+(Zbr r).length) (by grind[Za]) (λi o ho=>?_) (by rw[hlen];exact hκ.right) i y u hy hu;rw[Nat.add_assoc];exact hkk _ o (by grind[Za])
   grind
theorem Z37(hr:HRel B w0 h ι w){own:Bool}{xs:List AV}{rs:List RA}(hx:Zky h own xs=some rs){vs:List Value}(hl:vs.length=xs.length)(hv:∀(i:Nat) (x:AV) (v:Value),xs[i]? = some x->vs[i]? = some v->VR h ι w x v) :
    ∃κ:Em,κ.O=ι.O/\HRel B w0 (Za rs) κ w/\VR (Za rs) κ w (retV (Zg 0 rs)) (retC vs):=by
  have main:∀(bad ts:List Nat),Zcc h bad own xs=some rs->ts=(if own then xs.flatMap topA else[])->(∀t,bad.contains t=false->¬t∈ts)->ts.Nodup -> ∃κ:Em,κ.O=ι.O/\HRel B w0 (Za rs) κ w/\VR (Za rs) κ w (retV (Zg 0 rs)) (retC vs):=by
   intro bad ts hx hts hbt hnd;have htl:∀t∈ts,t<h.length:=by
    intro t ht;rw[hts]at ht;split at ht;obtain⟨x,hx1,hx2⟩:=List.mem_flatMap.1 ht;obtain⟨i,hi⟩:=List.getElem?_of_mem hx1;have hi2:i<vs.length:=by grind
    have hvr:=hv i x _ hi (J0c hi2);have one:∀(y:AV) (u:Value),VR h ι w y u->t∈topC y->t<h.length:=by intro y u hyu hty;cases hyu<;>simp[topC]at hty;grind
    generalize vs[i]=u at hvr;unfold topA at hx2;split at hx2;obtain⟨c,hc1,hc2⟩:=List.mem_flatMap.1 hx2;cases hvr with
    |agg _ us h1 h2 =>
     obtain⟨j,hj⟩:=List.getElem?_of_mem hc1;have hj2:j<us.size:=by grind
     exact one c _ (h2 j c _ hj (Array.getElem?_eq_getElem hj2)) hc2
    grind;grind
   let κ:Em:=⟨λi=>ι (ts.getD i 0),ι.O,ι.Y,ι.D⟩;have hO:∀g,(ι.O g ∨ ∃t∈ts,(ι t).ownBlock=some g)->Own h.length ι g:=by
    rintro g (hg|⟨t,ht,hg⟩);exact .inl hg;exact .inr ⟨t,htl t ht,hg⟩
   have hbad:∀t g,t<h.length->bad.contains t=false->(ι t).ownBlock=some g->¬(ι.O g ∨ ∃t∈ts,(ι t).ownBlock=some g):=by
    rintro t g ht hb hg (hOO|⟨t',ht',hg'⟩);have:=hr.old g hOO;have:=(hr.own ht hg).1;omega;have:=hr.inj t t' g ht (htl t' ht') hg hg';grind
   obtain⟨b0,b1,b2⟩:=Z7d hr hO hbad hx hl hv;rw[<- hts]at b1 b2;have hκ:∀i t,ts[i]? = some t->κ i=ι t:=λi t ht=>by grind
   have hOwn:∀g,Own (Za rs).length κ g↔(ι.O g ∨ ∃t∈ts,(ι t).ownBlock=some g):=by
    intro g;constructor;rintro(hg|⟨i,hi,hg⟩);grind;have hi2:i<ts.length:=by rw[<- b1.len];exact hi
    grind;rintro(hg|⟨t,ht,hg⟩);exact .inl hg;obtain⟨i,hi⟩:=List.getElem?_of_mem ht;exact .inr ⟨i,by rw[b1.len];grind,by grind⟩
   have hOeq:Own (Za rs).length κ=λg=>(ι.O g ∨ ∃t∈ts,(ι t).ownBlock=some g):=funext λg=>propext (hOwn g);have vals:=b2 (Za rs) κ 0 (by omega) (λi o ho=>by grind) (λi t ht=>by grind);rw[<- hOeq]at vals;refine⟨κ,rfl,⟨hr.below,hr.base,hr.old,hr.glob,λi o ho=>?_,λi i' g hi hi' h1 h2=>?_⟩,?_⟩;have hi2:i<ts.length:=by rw[<- b1.len];grind
   obtain⟨_,hs,ys,h1,h2⟩:=b1.obj i _ o (J0c hi2) ho;right;refine⟨hs,ys,by grind,λk e he=>⟨(h2 k e he).1,λj x hj=>?_⟩⟩;obtain⟨v,y,hv1,rfl,hv2⟩:=(h2 k e he).2 j x hj;exact⟨v,hv1,.p _ _ (by grind)⟩;have hi2:i<ts.length:=by rw[<- b1.len];exact hi
   have hi2' : i' < ts.length:=by rw[<- b1.len];exact hi'
   rw[hκ i _ (J0c hi2)]at h1;rw[hκ i' _ (J0c hi2')]at h2;have heq:=hr.inj _ _ g (htl _ (List.getElem_mem hi2)) (htl _ (List.getElem_mem hi2')) h1 h2;rcases Nat.lt_trichotomy i i' with hlt|rfl|hlt
   exact absurd heq (List.pairwise_iff_getElem.1 hnd i i' hi2 hi2' hlt);rfl;exact absurd heq.symm (List.pairwise_iff_getElem.1 hnd i' i hi2' hi2 hlt);have hlv:(Zg 0 rs).length=vs.length:=by grind[Ziu]
   have tup:VR (Za rs) κ w (.tuple (Zg 0 rs)) (.tuple vs.toArray):=.tuple _ _ (by grind) λi y u hy hu=>vals i y u hy (by grind)
   match rs,vs,hlv,vals,tup with|[],[],_,_,tup=>exact tup|[r],[v],_,vals,_=>exact vals 0 _ v rfl rfl|r::r' :: rs,v::v' :: vs,_,_,tup=>exact tup
  grind[Zky,tops,Zfk]
end
end Go.Abs
namespace Go.Abs
open Go.RowKit (Below)
variable [GTab] [Glob]
inductive ACode where
 |skip|reg (pre:Option (List Nat)) (steps:List AStep)|seq (a b:ACode)|cond (c:AOpd) (a b:ACode)|block (id:Nat) (c:ACode)|loop (c:ACode)|exit (id:Nat)|ret|bad|range (g:AOpd) (ps:List Nat) (a c:ACode)|scope (c:ACode)
 deriving Inhabited
def Zl(P:Program)(ops:Array Oper):List Oper->Option (List AStep)|[]=>some []|o::rest=>match Zh6 P ops o,Zl P ops rest with|some s,some r=>some (s::r)|_,_=>none
def Zvq(ops:Array Oper)(b:List Nat):Bool :=
 (List.range ops.size).all λi =>
  match ops[i]? with
  |none=>false|some oi =>
   (oi.after.all λe=>!(Region.binds .any e)||decide (e.on<i)) &&
   ((List.range ops.size).all λj=>!((b.getD i 0).testBit j)||(oi.after.any λe=>Region.binds .any e&&(e.on==j||(b.getD e.on 0).testBit j)))
def Zcr(ops:Array Oper):Bool:=ops.toList.all λo=>match o.op with|.defer _=>false|_=>true
def Zf8(P:Program)(ops:Array Oper)(draw:Bool):Option ACode :=
 match Zl P ops ops.toList with
 |none=>some .bad|some ss =>
  if draw then
   if P.follows .mixedOrders&&Zvq ops (CheckFast.beforeF ops).toList then some (.reg (some (CheckFast.beforeF ops).toList) ss)else some .bad
  else some (.reg none ss)
def Ziv(P:Program)(ops:Array Oper)(draw:Bool):Option ACode:=if Zcr ops then Zf8 P ops draw else some .bad
variable {P:Program}{ops:Array Oper}{d:Bool}
theorem Zg5{p:Option (List Nat)}{ss:List AStep}(h:Ziv P ops d=some (.reg p ss)):Zcr ops=true/\Zf8 P ops d=some (.reg p ss):=by grind[Ziv]
theorem Zn9{ac:ACode}(h:Ziv P ops d=some ac):ac = .bad ∨ ∃p ss,ac = .reg p ss:=by grind[Ziv,Zf8]
def comp(P:Program):Code->Option ACode
 |.skip=>some .skip|.region _ ops d=>Ziv P ops d|.seq a b=>match comp P a,comp P b with|some x,some y=>some (.seq x y)|_,_=>none
 |.cond c a b=>match opd c,comp P a,comp P b with|some z,some x,some y=>some (.cond z x y)|_,_,_=>none
 |.block id c=>match comp P c with|some x=>some (.block id x)|none=>none
 |.loop c=>match comp P c with|some x=>some (.loop x)|none=>none
 |.exit id=>some (.exit id)|.ret=>some .ret|.label _=>some .skip|.scope c=>match comp P c with|some x=>some (.scope x)|none=>none
 |.rangeFunc g ps a c=>match opd g,comp P a,comp P c with|some z,some x,some y=>some (.range z ps.toList x y)|_,_,_=>none
 |_=>some .bad
structure ExtN(n:Nat) (h:List AObj) (ι:Em) (w:World) (h' : List AObj) (ι' : Em) (w' : World):Prop where
 fix:Fix w (Own h.length ι) w' (Own h'.length ι')
 len:n<=h'.length
 oeq:ι'.O=ι.O/\ι'.Y=ι.Y/\ι'.D=ι.D
 obj:∀t o',t<n->h'[t]? = some o' -> ∃o,h[t]? = some o/\((o'.ver=o.ver/\o'.size=o.size/\o'.elems.length=o.elems.length/\ι' t=ι t)∨o.ver<o'.ver)
variable {n:Nat}{h h':List AObj}{ι ι':Em}{w':World}
theorem ExtN.of{w: World}(hn:n<=h.length)(hx:EX h ι w h' ι' w'):ExtN n h ι w h' ι' w' := ⟨hx.fix,Nat.le_trans hn hx.len,hx.oeq,λt o' ht ho' => hx.obj t o' (by omega) ho'⟩
theorem ExtN.refl(hn:n<=h.length)(ι:Em)(w:World):ExtN n h ι w h ι w:=.of hn (.refl _ _ _ _)
theorem ExtN.trans{h'': List AObj}{ι'': Em}{w w'': World}(a:ExtN n h ι w h' ι' w')(b:ExtN n h' ι' w' h'' ι'' w''):ExtN n h ι w h'' ι'' w'' := by refine⟨a.fix.trans b.fix,b.len,⟨b.oeq.1.trans a.oeq.1,b.oeq.2.1.trans a.oeq.2.1,b.oeq.2.2.trans a.oeq.2.2⟩,λt o'' ht ho'' => ?_⟩;obtain⟨o',ho',hb⟩:=b.obj t o'' ht ho'';obtain⟨o,ho,ha⟩:=a.obj t o' ht ho';grind
theorem ExtN.ext{w: World}(a:ExtN h.length h ι w h' ι' w'):EX h ι w h' ι' w' := ⟨a.fix,a.len,a.oeq,a.obj⟩
def Z7e(P:Program)(f:FuncId)(args:List AV)(h:List AObj)(y:AV)(h' : List AObj):Prop :=
 ∀(B:Nat) (w0:World) (ι:Em) (w:World) (cargs:Array Value),HRel B w0 h ι w->cargs.size=args.length->(∀(i:Nat) (x:AV) (v:Value),args[i]? = some x->cargs[i]? = some v->VR h ι w x v) ->
  Calls P f cargs w λe w' => ∃v ι',e = .returned v/\HRel B w0 h' ι' w' /\ EX h ι w h' ι' w' /\ VR h' ι' w' y v
inductive ASteps(P:Program):List AStep->St->St->Prop where
 |nil (st:St):ASteps P [] st st|skip (s:AStep) (rest:List AStep) (st st' : St) (hw:Zk st.slots s.guard=some false) (hr:ASteps P rest ⟨setD st.slots s.dst .u,st.heap⟩ st'):ASteps P (s::rest) st st'|op (s:AStep) (ao:AOp) (rest:List AStep) (st:St) (y:AV) (eff:Eff) (st' : St) (ho:s.op = .op ao) (hw:Zk st.slots s.guard=some true) (he:Zb st.heap st.heap.length (AOpd.eval st.slots) ao=some (y,eff))
     (hr:ASteps P rest ⟨setD st.slots s.dst y,effH st.heap eff⟩ st'):ASteps P (s::rest) st st'
 |call (s:AStep) (f:FuncId) (args:List AOpd) (mode:Bool) (pas:List PA) (rs:List RA) (rest:List AStep) (st st' : St) (ho:s.op = .call f args) (hw:Zk st.slots s.guard=some true)
     (hp:Yt st.heap mode (args.map (AOpd.eval st.slots))=some pas) (hs:Spec P f pas rs) (hm:mode=true∨Yr rs=true)
     (hr:ASteps P rest ⟨setD st.slots s.dst (retV (Zg st.heap.length rs)),st.heap++Za rs⟩ st'):ASteps P (s::rest) st st'
 |inl (s:AStep) (f:FuncId) (args:List AOpd) (y:AV) (h' : List AObj) (rest:List AStep) (st st' : St) (ho:s.op = .call f args) (hw:Zk st.slots s.guard=some true)
     (hs:Z7e P f (args.map (AOpd.eval st.slots)) st.heap y h') (hr:ASteps P rest ⟨setD st.slots s.dst y,h'⟩ st'):ASteps P (s::rest) st st'
 |inv (s:AStep) (x:AOpd) (f:FuncId) (caps:List AV) (args:List AOpd) (y:AV) (h' : List AObj) (rest:List AStep) (st st' : St) (ho:s.op = .callv x args) (hw:Zk st.slots s.guard=some true) (hx:x.eval st.slots = .fn f caps) (hcb:callable P f=true)
     (hs:Z7e P f (args.map (AOpd.eval st.slots)++caps) st.heap y h') (hr:ASteps P rest ⟨setD st.slots s.dst y,h'⟩ st'):ASteps P (s::rest) st st'
section
variable {P:Program} {B:Nat} {w0 w:World}
variable {o:Oper}
theorem Z7f{ao:AOp}(hc:Zn6 P o=some (.op ao)):Zo P o=some ao∨ao = .bad:=by
 unfold Zn6 at hc;split at hc;rename_i s hs;obtain rfl:=J0a hc;exfalso;unfold Zbq at hs;split at hs;split at hs;simp_all;grind;grind;grind;injection hc with hc
 injection hc with hc
 cases h:Zo P o with|none=>grind|some x=>grind
variable {f:FuncId}{args:List AOpd}
theorem Ziw(hc:Zn6 P o=some (.call f args)):Zbq P o=some (.call f args):=by grind[Zn6]
variable {x:AOpd}
theorem Zex(hc:Zn6 P o=some (.callv x args)):Zbq P o=some (.callv x args):=by grind[Zn6]
theorem Yfk{st:St}{ι:Em}{a:Act}(hs:SR B w0 st ι a w){cargs:Array Value}{args:List AV}{y:AV}{h' : List AObj}(hsz:cargs.size=args.length)(hrel:∀(i:Nat) (x:AV) (v:Value),args[i]? = some x->cargs[i]? = some v->VR st.heap ι w x v)
    (hx:(execOp a.eval o).run P w = .ok (.enter f cargs) w) (hcall:Z7e P f args st.heap y h') {K:Act->World->Prop} {Q:Exit->Act->World->Prop}
    (hK:∀ι' a' w',SR B w0 ⟨setD st.slots o.dst y,h'⟩ ι' a' w' -> EX st.heap ι w h' ι' w' -> K a' w'):o.wp P a w K Q:=by
  unfold Oper.wp;rw[hx];simp only[Oper.upon_enter];refine(hcall B w0 ι w cargs hs.heap hsz hrel).mono λe w' he=>?_;obtain⟨v,ι',rfl,hh,hext,hv⟩:=he;obtain⟨h1,h2⟩:=Zbe hs.len (λi x v hx' hv=>hext.rel (hs.slot i x v hx' hv)) o.dst hv;exact hK _ _ _ ⟨hh,h1,h2,(put_defers a o.dst v).trans (hs.defers.trans hext.oeq.2.2.symm)⟩ hext
theorem Ze9(hc:Zbq P o=some (.call f args)):∃cargs ts,o.op = .call { callee:=.value (.func f),args:=cargs,argTypes:=ts }/\callable P f=true/\cargs.toList.mapM opd=some args:=by
 unfold Zbq at hc;split at hc;rename_i c hop;obtain⟨callee,cargs,ts⟩:=c;dsimp only at hc;split at hc;split at hc;simp_all;grind;grind;grind;grind
theorem Zaz(hc:Zbq P o=some (.callv x args)):∃g cargs ts,o.op = .call { callee:=.value g,args:=cargs,argTypes:=ts }/\opd g=some x/\cargs.toList.mapM opd=some args:=by
 unfold Zbq at hc;split at hc;rename_i c hop;obtain⟨callee,cargs,ts⟩:=c;dsimp only at hc;split at hc;simp_all;grind;grind;grind
theorem Ztc(ops:Array Oper):∀{ss:List AStep} {st st' : St},ASteps P ss st st' -> ∀{l:List Oper},Zl P ops l=some ss -> ∀{ι:Em} {a:Act} {w:World},SR B w0 st ι a w ->
    ∀{Q:Exit->Act->World->Prop},(∀ι' a' w',SR B w0 st' ι' a' w' -> EX st.heap ι w st'.heap ι' w' -> Q .normal a' w')->wpList P ops Q l a w:=by
  intro ss st st' hss
  induction hss with
  |nil st => intro l hl ι a w hs Q hQ;cases l with|nil=>exact hQ ι a w hs (.refl _ _ _ _)|cons o l=>grind[Zl]
  |skip s rest st st' hw hr ih => intro l hl ι a w hs Q hQ;cases l with|nil=>grind[Zl]|cons o l => simp only[Zl]at hl;split at hl;rename_i s' r hs' hr';simp only[J0b,List.cons.injEq]at hl;obtain⟨rfl,rfl⟩:=hl;obtain⟨h1,h2,h3⟩:=Qn hs' hs.len hs.slot hw;refine wpList_step λK hK=>?_;rw[if_neg (by grind)];obtain⟨g1,g2⟩:=Zbe hs.len hs.slot o.dst (VRel.u (h:=st.heap) (ι:=ι) (w:=w) (O:=Own st.heap.length ι));rw[<- h2]at g1 g2 ⊢;exact hK _ _ (ih hr' (ι:=ι) ⟨hs.heap,g1,g2,(put_defers a _ _).trans hs.defers⟩ hQ);grind
  |op s ao rest st y eff st' ho hw he hr ih => intro l hl ι a w hs Q hQ;cases l with|nil=>grind[Zl]|cons o l => simp only[Zl]at hl;split at hl;rename_i s' r hs' hr';simp only[J0b,List.cons.injEq]at hl;obtain⟨rfl,rfl⟩:=hl;obtain⟨h1,h2,h3⟩:=Qn hs' hs.len hs.slot hw;rw[ho]at h3;obtain⟨cv,w',hrun,hres⟩:=Z7b hs.heap hs.slot hs.len ((Z7f h3).resolve_right (by grind[Zb])) he;obtain⟨ι',hs2,hx2⟩:=Yke hs hres s'.dst;refine wpList_step λK hK=>?_;rw[if_pos h1];have fin:=ih hr' hs2 (Q:=Q) (λι2 a2 w2 h4 h5=>hQ ι2 a2 w2 h4 (hx2.trans h5));grind[Oper.wp,Oper.upon_value,Oper.upon_skip];grind
  |call s f args mode pas rs rest st st' ho hw hp hsp hm hr ih => intro l hl ι a w hs Q hQ;cases l with|nil=>grind[Zl]|cons o l => simp only[Zl]at hl;split at hl;rename_i s' r hs' hr';simp only[J0b,List.cons.injEq]at hl;obtain⟨rfl,rfl⟩:=hl;obtain⟨h1,h2,h3⟩:=Qn hs' hs.len hs.slot hw;rw[ho]at h3;refine wpList_step λK hK=>?_;rw[if_pos h1];refine Yig hs (Ziw h3) hp hsp hm λι' a' w' h4 h5=>hK _ _ ?_;rw[<- h2]at h4;exact ih hr' h4 (λι2 a2 w2 h6 h7=>hQ ι2 a2 w2 h6 (h5.trans h7));grind
  |inl s f args y h' rest st st' ho hw hcall hr ih =>
   intro l hl ι a w hs Q hQ;cases l with
   |nil=>grind[Zl]|cons o l =>
    simp only[Zl]at hl;split at hl;rename_i s' r hs' hr';simp only[J0b,List.cons.injEq]at hl;obtain⟨rfl,rfl⟩:=hl;obtain⟨h1,h2,h3⟩:=Qn hs' hs.len hs.slot hw;rw[ho]at h3;obtain⟨cargs,ts,hop,hcb,hxs⟩:=Ze9 (Ziw h3);obtain⟨hl2,hrel⟩:=Zay (a:=a) hs.slot hs.len hxs;have hx:(execOp a.eval o).run P w = .ok (.enter f (cargs.map a.eval)) w:=by grind[execOp,resolve,Deferred.ofValue,Act.eval,invoke,Xo]
    refine wpList_step λK hK=>?_;rw[if_pos h1];refine Yfk hs (by grind) (λi x v g1 g2=>hrel i x v g1 (by grind)) hx hcall λι' a' w' h4 h5=>hK _ _ ?_;rw[<- h2]at h4;exact ih hr' h4 (λι2 a2 w2 h6 h7=>hQ ι2 a2 w2 h6 (h5.trans h7));grind
  |inv s x f caps args y h' rest st st' ho hw hxe hcb hcall hr ih =>
   intro l hl ι a w hs Q hQ;cases l with
   |nil=>grind[Zl]|cons o l =>
    simp only[Zl]at hl;split at hl;rename_i s' r hs' hr';simp only[J0b,List.cons.injEq]at hl;obtain⟨rfl,rfl⟩:=hl;obtain⟨h1,h2,h3⟩:=Qn hs' hs.len hs.slot hw;rw[ho]at h3;obtain⟨g,cargs,ts,hop,hg,hxs⟩:=Zaz (Zex h3);obtain⟨hl2,hrel⟩:=Zay (a:=a) hs.slot hs.len hxs;have hgv:=Zf (a:=a) hs.slot hs.len hg;rw[hxe]at hgv;generalize hev:a.eval g=gv at hgv;cases hgv with
    |fn _ _ vs k1 k2 =>
     have hx:(execOp a.eval o).run P w = .ok (.enter f (cargs.map a.eval++vs)) w:=by grind[execOp,resolve,Deferred.ofValue,invoke,Xo]
     have hsz:(cargs.map a.eval).size=(args.map (AOpd.eval st.slots)).length:=by grind
     refine wpList_step λK hK=>?_;rw[if_pos h1];refine Yfk hs (args:=args.map (AOpd.eval st.slots)++caps) (by grind) (λi x v g1 g2=>?_) hx hcall λι' a' w' h4 h5=>hK _ _ ?_;grind;rw[<- h2]at h4;exact ih hr' h4 (λι2 a2 w2 h6 h7=>hQ ι2 a2 w2 h6 (h5.trans h7))
    grind
end
end Go.Abs
namespace Go.Abs
open Go.RowKit (Below)
variable [GTab] [Glob]
def Post(B:Nat)(w0:World)(n:Nat)(h:List AObj)(ι:Em)(w:World)(Q:Exit->St->Prop)(e:Exit)(a' : Act)(w' : World):Prop:=∃(st' : St) (ι' : Em),SR B w0 st' ι' a' w' /\ ExtN n h ι w st'.heap ι' w' /\ Q e st'
def AW(P:Program)(n:Nat)(ac:ACode)(Q:Exit->St->Prop)(st:St):Prop:=∀c,comp P c=some ac -> ∀B w0 ι a w,SR B w0 st ι a w->n<=st.heap.length->c.wp P (Post B w0 n st.heap ι w Q) a w
def Weak(n:Nat)(st st' : St):Prop:=n<=st'.heap.length /\ ∀B w0 ι a w,SR B w0 st ι a w->n<=st.heap.length -> ∃ι',SR B w0 st' ι' a w/\ExtN n st.heap ι w st'.heap ι' w
section
variable {P:Program} {n:Nat} {Q:Exit->St->Prop} {st:St}
variable {B:Nat}{w0:World}
theorem Znm{ι:Em}{a:Act}{w:World}(hs:SR B w0 st ι a w)(hn:n<=st.heap.length){e:Exit}(h:Q e st):Post B w0 n st.heap ι w Q e a w:=⟨st,ι,hs,.refl hn ι w,h⟩
theorem Zvr{h h1:List AObj}{ι ι1:Em}{w w1:World}(hx:ExtN n h ι w h1 ι1 w1){e:Exit}{a' : Act}{w' : World}(hp:Post B w0 n h1 ι1 w1 Q e a' w'):Post B w0 n h ι w Q e a' w' := by obtain⟨st',ι',h1,h2,h3⟩:=hp;exact⟨st',ι',h1,hx.trans h2,h3⟩
variable {ac:ACode}{Q':Exit->St->Prop}
theorem AW.mono(h:AW P n ac Q st)(hq:∀e s,Q e s->Q' e s):AW P n ac Q' st:=λc hc B w0 ι a w hs hn=>wp_mono (h c hc B w0 ι a w hs hn) λe a' w' ⟨st',ι',h1,h2,h3⟩=>⟨st',ι',h1,h2,hq e st' h3⟩
variable {st':St}
theorem AW.weak(hw:Weak n st st')(h:AW P n ac Q st'):AW P n ac Q st:=λc hc B w0 ι a w hs hn=>by obtain⟨κ,h1,h2⟩:=hw.2 B w0 ι a w hs hn;exact wp_mono (h c hc B w0 κ a w h1 hw.1) λe a' w' hp=>Zvr h2 hp
theorem AW.post(h:AW P n ac Q' st)(hq:∀e s,Q' e s -> ∃s',Weak n s s' /\ Q e s'):AW P n ac Q st:=λc hc B w0 ι a w hs hn=>wp_mono (h c hc B w0 ι a w hs hn) λe a' w' ⟨st',ι',h1,h2,h3⟩=>by obtain⟨s',hw,hQ⟩:=hq e st' h3;obtain⟨κ,g1,g2⟩:=hw.2 B w0 ι' a' w' h1 h2.len;exact⟨s',κ,g1,h2.trans g2,hQ⟩
theorem AW.skip(h:Q .normal st):AW P n .skip Q st:=λc hc B w0 ι a w hs hn=>by
 cases c<;>simp only[comp]at hc
 case skip=>grind[wp_skip,Znm]
 case label=>grind[wp_label,Znm]
 case region id ops d=>grind[Zn9]
 case cond=>grind
 all_goals grind
theorem Zp{c:Code}(hc:comp P c=some ac):match ac with|.skip=>c = .skip ∨ ∃l,c = .label l|.reg p ss=>∃id ops d,c = .region id ops d/\Ziv P ops d=some (.reg p ss)|.seq x y=>∃a b,c = .seq a b/\comp P a=some x/\comp P b=some y|.cond z x y=>∃o a b,c = .cond o a b/\opd o=some z/\comp P a=some x/\comp P b=some y|.block id x=>∃a,c = .block id a/\comp P a=some x|.loop x=>∃a,c = .loop a/\comp P a=some x|.exit id=>c = .exit id|.ret=>c = .ret|.bad=>True|.scope x=>∃a,c = .scope a/\comp P a=some x|.range z ps x y=>∃g psA a b,c = .rangeFunc g psA a b/\opd g=some z/\ps=psA.toList/\comp P a=some x/\comp P b=some y:=by
  cases c<;>simp only[comp]at hc
  case skip=>grind
  case label l=>grind
  case region id ops d=>grind[Zn9]
  case seq a b=>grind
  case cond o a b=>grind
  case block id a=>grind
  case loop a=>grind
  case scope a=>grind
  case rangeFunc g ps a b=>grind
  case exit id=>grind
  case ret=>grind
  all_goals grind
theorem AW.ret(h:Q .ret st):AW P n .ret Q st:=λc hc B w0 ι a w hs hn=>by have hsh:=Zp hc;grind[wp_ret,Znm]
variable {id:Nat}
theorem AW.exit(h:Q (.exit id) st):AW P n (.exit id) Q st:=λc hc B w0 ι a w hs hn=>by have hsh:=Zp hc;grind[wp_exit,Znm]
def Yx9(P:Program)(n:Nat)(b:ACode)(Q:Exit->St->Prop):Exit->St->Prop|.normal,s=>AW P n b Q s|e,s=>Q e s
theorem AW.seq{x y:ACode}(h:AW P n x (Yx9 P n y Q) st):AW P n (.seq x y) Q st:=λc hc B w0 ι a w hs hn=>by
 obtain⟨c1,c2,rfl,h1,h2⟩:=Zp hc;refine wp_seq (wp_mono (h c1 h1 B w0 ι a w hs hn) λe a' w' hp=>?_);obtain⟨st',ι',g1,g2,g3⟩:=hp;cases e with|normal=>exact wp_mono (g3 c2 h2 B w0 ι' a' w' g1 g2.len) λe a2 w2 hp=>Zvr g2 hp|_=>exact⟨st',ι',g1,g2,g3⟩
theorem AW.cond{z:AOpd}{x y:ACode}{t:Bool}(hz:z.eval st.slots = .p (.bool t))(h:AW P n (if t then x else y) Q st):AW P n (.cond z x y) Q st:=λc hc B w0 ι a w hs hn=>by
 obtain⟨o,c1,c2,rfl,h0,h1,h2⟩:=Zp hc;have hv:=Zf (a:=a) hs.slot hs.len h0;rw[hz]at hv;have he:a.eval o = .bool t:=by generalize a.eval o=v at hv;cases hv with|p _ _ hv=>cases hv;rfl
 refine wp_cond he ?_;cases t;exact h c2 h2 B w0 ι a w hs hn;exact h c1 h1 B w0 ι a w hs hn
def Ykg(id:Nat)(Q:Exit->St->Prop):Exit->St->Prop|.exit id',s=>if id' = id then Q .normal s else Q (.exit id') s|e,s=>Q e s
theorem AW.block{x:ACode}(h:AW P n x (Ykg id Q) st):AW P n (.block id x) Q st:=λc hc B w0 ι a w hs hn=>by
 obtain⟨c1,rfl,h1⟩:=Zp hc;refine wp_block (wp_mono (h c1 h1 B w0 ι a w hs hn) λe a' w' hp=>?_);obtain⟨st',ι',g1,g2,g3⟩:=hp;cases e with|exit id' => simp only[Exit.inBlock];simp only[Ykg]at g3;split;rename_i he;rw[if_pos he]at g3;exact⟨st',ι',g1,g2,g3⟩;rename_i he;rw[if_neg he]at g3;exact⟨st',ι',g1,g2,g3⟩|_=>exact⟨st',ι',g1,g2,g3⟩
theorem AW.reg{ss:List AStep}(h:ASteps P ss st st')(hq:Q .normal st'):AW P n (.reg none ss) Q st:=λc hc B w0 ι a w hs hn=>by
 obtain⟨id,ops,d,rfl,h1⟩:=Zp hc;have h1:=(Zg5 h1).2;unfold Zf8 at h1;split at h1;cases h1;rename_i ss' hss;split at h1;grind;rename_i hd;simp only[J0b,ACode.reg.injEq,true_and]at h1;subst h1;have hd:d=false:=by grind
 subst hd;exact wp_region_list (Ztc ops h hss hs λι' a' w' g1 g2=>⟨st',ι',g1,.of hn g2,hq⟩)
def Yya(n k:Nat)(I:Nat->St->Prop)(Q:Exit->St->Prop):Exit->St->Prop|.normal,s=>∃k' s',k' < k/\Weak n s s' /\ I k' s'|e,s=>Q e s
theorem AW.loop{x:ACode}(I:Nat->St->Prop)(k:Nat)(h0:I k st)(hround:∀k s,I k s->AW P n x (Yya n k I Q) s):AW P n (.loop x) Q st:=λc hc B w0 ι a w hs hn=>by
 obtain⟨c1,rfl,h1⟩:=Zp hc;let J:Nat->Act->World->Prop:=λk a' w' => ∃s ι',I k s/\SR B w0 s ι' a' w' /\ ExtN n st.heap ι w s.heap ι' w';have hJ:J k a w:=⟨st,ι,h0,hs,.refl hn ι w⟩;have ex:∀a' w',(∃k,J k a' w') -> ∃k,J k a' w' /\ ∀m,m<k->¬J m a' w' := by
  intro a' w' ⟨k,hk⟩
  induction k using Nat.strongRecOn with|_ k ih => by_cases hm:∃m,m<k/\J m a' w';obtain⟨m,hmk,hjm⟩:=hm;grind;grind
 open Classical in
 let μ:Act->World->Nat:=λa' w' => if h:∃k,J k a' w' then Classical.choose (ex a' w' h)else 0
 have hμ:∀a' w',(∃k,J k a' w')->J (μ a' w') a' w' /\ ∀m,m<μ a' w' -> ¬J m a' w' := by intro a' w' h;show J (if h:∃k,J k a' w' then Classical.choose (ex a' w' h)else 0) a' w' /\ _;simp only[μ,h,dif_pos];grind
 refine wp_loop (λa' w' => ∃k,J k a' w') μ ⟨k,hJ⟩ λa' w' hI=>?_;obtain⟨⟨s,ι',hIs,hss,hxx⟩,_⟩:=hμ a' w' hI;refine wp_mono (hround _ s hIs c1 h1 B w0 ι' a' w' hss hxx.len) λe a2 w2 hp=>?_;obtain⟨s2,ι2,g1,g2,g3⟩:=hp;cases e with|normal=>obtain⟨k',s',hlt,hw,hI'⟩:=g3;obtain⟨κ,g4,g5⟩:=hw.2 B w0 ι2 a2 w2 g1 g2.len;have hj:J k' a2 w2:=⟨s',κ,hI',g4,(hxx.trans g2).trans g5⟩;refine⟨⟨k',hj⟩,?_⟩;grind|_=>exact⟨s2,ι2,g1,hxx.trans g2,g3⟩
end
mutual
def AV.bel(m:Nat):AV->Bool|.row t _=>decide (t<m)|.sl t _ _ _ _=>decide (t<m)|.ptr t _ _ _=>decide (t<m)|.agg cs=>Zix m cs|.tuple cs=>Zix m cs|.fn _ cs=>Zix m cs|.fb _ cs=>Zix m cs|_=>true
def Zix(m:Nat):List AV->Bool|[]=>true|x::xs=>x.bel m&&Zix m xs
end
theorem Zcd{m:Nat}:∀{xs:List AV},Zix m xs=true -> ∀{i:Nat} {x:AV},xs[i]? = some x->x.bel m=true
 |[],_,i,x,hx=>by grind|y::ys,h,i,x,hx=>by
  simp only[Zix,J0e]at h;cases i with|zero=>grind|succ i=>exact Zcd h.2 (by simpa using hx)
def Yuz(m:Nat)(o:AObj):Bool:=o.elems.all (Zix m)
variable {h:List AObj}{ι:Em}{m:Nat}{O:Nat->Prop}{x:AV}
theorem VRel.takeN{w:World}{O': Nat->Prop}(hO:∀g,O' g->O g){v:Value}(hr:VRel h ι w O x v):x.bel m=true->VRel (h.take m) ι w O' x v:=by
 have hf:Fix w O w O' := ⟨Nat.le_refl _,λ_ _ _=>rfl,λg _ hn h' => hn (hO g h')⟩;have hget:∀t o,t<m->(h.take m)[t]? = some o->h[t]? = some o:=λt o ht ho=>by grind
 have hlen:∀t,t<m->t<h.length->t<(h.take m).length:=λt h1 h2=>by grind
 induction hr with|any v=>exact λ_=>.any v|u=>exact λ_=>.u|p x v hp=>exact λ_=>.p x v (hp.fix hf)|nil=>exact λ_=>.nil|ne ad c=>exact λ_=>.ne ad c|nl c=>exact λ_=>.nl c|e0 ad=>exact λ_=>.e0 ad|xf elems ad k hp=>exact λ_=>.xf elems ad k (hp.fix hf)|row t ver v ht hv ho=>intro hb;simp only[AV.bel,J0h]at hb;exact .row t ver v (hlen t hb ht) hv λo hoo=>ho o (hget t o hb hoo)|sl t ver lo len ex v ht hv ho=>intro hb;simp only[AV.bel,J0h]at hb;exact .sl t ver lo len ex v (hlen t hb ht) hv λo hoo=>ho o (hget t o hb hoo)|ptr t ver i off v ht hv ho=>intro hb;simp only[AV.bel,J0h]at hb;exact .ptr t ver i off v (hlen t hb ht) hv λo hoo=>ho o (hget t o hb hoo)|nptr=>exact λ_=>.nptr|fptr cells ad u hO1 hlt hcell hrel=>exact λ_=>.fptr cells ad u (λh' => hO1 (hO _ h')) hlt hcell λj x hx=>(hrel j x hx).fix hf|agg cs vs hl _ ih=>exact λhb=>.agg cs vs hl λi x v hx hv=>ih i x v hx hv (Zcd (by grind[AV.bel]) hx)|tuple cs vs hl _ ih=>exact λhb=>.tuple cs vs hl λi x v hx hv=>ih i x v hx hv (Zcd (by grind[AV.bel]) hx)|fn f cs vs hl _ ih=>exact λhb=>.fn f cs vs hl λi x v hx hv=>ih i x v hx hv (Zcd (by grind[AV.bel]) hx)|nilf=>exact λ_=>.nilf|yl=>exact λ_=>.yl|if0=>exact λ_=>.if0|if1 t x=>exact λ_=>.if1 t x|gp g off=>exact λ_=>.gp g off|fb f cs vs hl _ ih=>exact λhb=>.fb f cs vs hl λi x v hx hv=>ih i x v hx hv (Zcd (by grind[AV.bel]) hx)
def Z38:List AV->List AV->Prop|[],[]=>True|x::xs,y::ys=>(y = .any∨y=x)/\Z38 xs ys|_,_=>False
theorem Ztd:∀{xs ys:List AV},Z38 xs ys->xs.length=ys.length /\ ∀(i:Nat) (x y:AV),xs[i]? = some x->ys[i]? = some y->y = .any∨y=x|[],[],_=>⟨rfl,λi x y hx=>by grind⟩|[],_::_,h=>h.elim|_::_,[],h=>h.elim|x::xs,y::ys,h=>by obtain⟨h1,h2⟩:=h;obtain⟨h3,h4⟩:=Ztd h2;grind
variable {n:Nat}
theorem Weak.of{s s' : List AV}{h': List AObj}(hs:Z38 s s')(hh:h' = h.take m)(hm:m<=h.length)(hn:n<=m)(hb:Zix m s' = true)(ho:h'.all (Yuz m)=true):Weak n ⟨s,h⟩ ⟨s',h'⟩:=by
 subst hh;have hlen:(h.take m).length=m:=by grind
 refine⟨by grind,λB w0 ι a w hsr hnl=>?_⟩;obtain⟨g1,g2⟩:=Ztd hs;have hO:∀g,Own (h.take m).length ι g->Own h.length ι g:=by
  rintro g (hg|⟨t,ht,hg⟩);exact .inl hg;exact .inr ⟨t,by omega,hg⟩
 have hget:∀t o,(h.take m)[t]? = some o->h[t]? = some o:=λt o ho=>by
  rw[List.getElem?_take]at ho;split at ho;exact ho;grind
 refine⟨ι,⟨⟨hsr.heap.below,hsr.heap.base,hsr.heap.old,hsr.heap.glob,λt o hto=>?_,λt t' g ht ht' => hsr.heap.inj t t' g (by grind) (by grind)⟩,by rw[hsr.len];exact g1,λi y v hy hv=>?_,hsr.defers⟩,⟨⟨Nat.le_refl _,λ_ _ _=>rfl,λg _ hno h' => hno (hO g h')⟩,by grind,⟨rfl,rfl,rfl⟩,λt o' ht ho' => ⟨o',hget t o' ho',.inl ⟨rfl,rfl,rfl,rfl⟩⟩⟩⟩;rcases hsr.heap.objs t o (hget t o hto)with h0|⟨k1,xs,k2,k3⟩
 grind;refine .inr ⟨k1,xs,k2,λi e he=>⟨(k3 i e he).1,λj x hj=>?_⟩⟩;obtain⟨v,hv,hvr⟩:=(k3 i e he).2 j x hj;refine⟨v,hv,VRel.takeN hO hvr ?_⟩;have h1:=List.all_eq_true.1 ho o (J0j hto);exact Zcd (List.all_eq_true.1 h1 e (J0j he)) hj;have hi:i<s.length:=by grind
 rcases g2 i _ y (J0c hi) hy with rfl|rfl
 exact .any v;exact VRel.takeN hO (hsr.slot i _ v (J0c hi) hv) (Zcd hb hy)
variable {P:Program}
theorem AW.split{ac:ACode}{Q:Exit->St->Prop}{st:St}(i:Nat)(hi:st.slots[i]? = some (.p (.sl [])))(h1:AW P n ac Q ⟨st.slots.set i .nl,st.heap⟩)(h2:AW P n ac Q ⟨st.slots.set i .ne,st.heap⟩):AW P n ac Q st:=λc hc B w0 ι a w hs hn=>by
 have hlt:i<st.slots.length:=(J0d.1 hi).1;have hlt' : i<a.tmps.size:=by rw[hs.len];exact hlt
 have hv:=hs.slot i _ _ hi (Array.getElem?_eq_getElem hlt');have fin:∀y,VR st.heap ι w y a.tmps[i]->SR B w0 ⟨st.slots.set i y,st.heap⟩ ι a w:=λy hy=>⟨hs.heap,by rw[hs.len];simp,λj x v hx hjv=>by
  by_cases e:i=j;grind;rw[List.getElem?_set_ne e]at hx;exact hs.slot j x v hx hjv,hs.defers⟩
 generalize a.tmps[i]=v at hv fin;cases hv with
 |p _ _ hp =>
  cases hp with
  |nil ad k => cases ad with|none=>exact h1 c hc B w0 ι a w (fin _ (.nl k)) hn|some ad=>exact h2 c hc B w0 ι a w (fin _ (.ne ad k)) hn
  |sl _ ad m k size u hO hlt2 hm hck=>simp only[List.length_nil]at hm;subst hm;exact h2 c hc B w0 ι a w (fin _ (.ne ad k)) hn
theorem Weak.nilrow{i: Nat}{slots:List AV}{e:TypeId}{size:Nat}(hi:slots[i]? = some .nil)(hs:0<size)(hn:n<=h.length):Weak n ⟨slots,h⟩ ⟨slots.set i (.row h.length 1),h++[⟨1,e,size,[]⟩]⟩:=by
 refine⟨by grind,λB w0 ι a w hsr hnl=>?_⟩;have hlt:i<slots.length:=(J0d.1 hi).1;obtain⟨hh,hx⟩:=hsr.heap.push (w' := w) ⟨1,e,size,[]⟩ (.slice none 0 0) [] ⟨rfl,rfl,rfl,Nat.le_refl _,λ_ _ _=>rfl⟩ (λg hg=>by grind[Value.ownBlock]) hs ⟨by simp,.inl ⟨rfl,rfl⟩⟩ (λi e he=>by grind);refine⟨_,⟨hh,by rw[hsr.len];simp,λj x v hx' hv=>?_,hsr.defers⟩,.of hn hx⟩;by_cases e:i=j;subst e;simp only at hx';rw[List.getElem?_set_self hlt]at hx';obtain rfl:=J0a hx';have hvr:=hsr.slot i _ v hi hv;cases hvr;refine .row _ _ _ (by simp) rfl λo ho=>?_;grind[upd_same];simp only at hx';rw[List.getElem?_set_ne e]at hx';exact hx.rel (hsr.slot j x v hx' hv)
inductive ARes where
 |tmp (t:Nat)|cell (t:Nat) (m:Option Nat)
 deriving Inhabited
structure AFun where
 nt:Nat
 res:List ARes
 body:ACode
 deriving Inhabited
def Zcs(P:Program):List ResultVar->Option (List ARes)
 |[]=>some []|.tmp t::rest=>match Zcs P rest with|some r=>some (.tmp t::r)|none=>none
 |.cell t ty::rest=>match Zco P ty,Zcs P rest with|some m,some r=>some (.cell t m::r)|_,_=>none
def Z0(P:Program)(f:FuncId):Option AFun :=
 match P.funcs[f]? with
 |some fn =>
  match fn.body with
  |some c => match comp P c,Zcs P fn.results.toList with|some b,some r=>some ⟨fn.ntmps,r,b⟩|_,_=>none
  |none=>none
 |none=>none
def res1(s:St):ARes->Option AV
 |.tmp t=>some (s.slots.getD t .any)|.cell t (some n)=>match Xg s.heap n (s.slots.getD t .any)with|some cs=>some (.agg cs)|none=>none
 |.cell t none=>match Xg s.heap 1 (s.slots.getD t .any)with|some [c]=>some c|_=>none
def resV(s:St):List ARes->Option (List AV)|[]=>some []|r::rs=>match res1 s r,resV s rs with|some x,some xs=>some (x::xs)|_,_=>none
theorem Zey{P:Program}{B:Nat}{w0:World}{s:St}{ι:Em}{a:Act}{w:World}(hs:SR B w0 s ι a w):∀{rl:List ResultVar} {rs:List ARes} {xs:List AV},Zcs P rl=some rs->resV s rs=some xs ->
    ∃vs:List Value,(rl.mapM (λr=>match r with|.tmp t=>pure (a.tmps.getD t undef)|.cell p t=>do loadVar t (<- asAddr (a.tmps.getD p undef))):Sem (List Value)).run P w = .ok vs w/\vs.length=xs.length /\ ∀(i:Nat) (x:AV) (v:Value),xs[i]? = some x->vs[i]? = some v->VR s.heap ι w x v
  |[],rs,xs,hc,hx=>by simp only[Zcs,J0b]at hc;subst hc;simp only[resV,J0b]at hx;simp_all|.tmp t::rl,rs,xs,hc,hx=>by
   simp only[Zcs]at hc;split at hc;rename_i r hr;obtain rfl:=J0a hc;simp only[resV,res1]at hx;split at hx;rename_i y ys hy hys;obtain rfl:=J0a hx;obtain rfl:=J0a hy;obtain⟨vs,h1,h2,h3⟩:=Zey hs hr hys;refine⟨a.tmps.getD t undef::vs,?_,by simp[h2],λi x v hx hv=>?_⟩;simp_all;cases i with|zero=>simp only[J0q,J0b]at hx hv;subst hx;subst hv;exact Zvi hs.slot hs.len t|succ i=>grind
   grind;grind
  |.cell t ty::rl,rs,xs,hc,hx=>by
   simp only[Zcs]at hc;split at hc;rename_i m r hm hr;obtain rfl:=J0a hc;simp only[resV]at hx;split at hx;rename_i y ys hy hys;obtain rfl:=J0a hx;obtain⟨vs,h1,h2,h3⟩:=Zey hs hr hys;have hv0:=Zvi hs.slot hs.len t;have hld:Zb s.heap 0 (AOpd.eval s.slots) (.load m (.t t))=some (y,.none):=by
    cases m with|none=>grind[res1,Zb,AOpd.eval]|some k=>grind[res1,Zb,AOpd.eval]
   obtain⟨_,cv,hrun,hvr⟩:=Zve hs.heap hm hv0 rfl hld;have hptr:∃ad,a.tmps.getD t undef = .pointer (some ad):=by
    generalize a.tmps.getD t undef=v at hrun;unfold Instr.loadAt Instr.sureAddr at hrun;split at hrun;grind;simp_all
   obtain⟨ad,had⟩:=hptr;refine⟨cv::vs,?_,by simp[h2],λi x v hx hv=>?_⟩;grind[Instr.loadAt,Instr.sureAddr,Sem.run_bind,Sem.run_pure,Result.andThen_ok,asAddr];grind;grind;grind
def PA.av:PA->AV|.c x=>.p x|.a cs=>.agg (cs.map .p)|.q cs=>.fptr cs
def start(nt:Nat)(args:List AV):List AV:=args++List.replicate (nt-args.length) .u
def RetQ(res:List ARes)(own:Bool)(rs:List RA)(e:Exit)(s:St):Prop:=(e = .normal∨e = .ret) /\ ∃xs,resV s res=some xs/\Zky s.heap own xs=some rs
theorem Zo7{fn:Func}{a:Act}{w:World}{vs:List Value}(h:(fn.results.toList.mapM (λr=>match r with|.tmp t=>pure (a.tmps.getD t undef)|.cell p t=>do loadVar t (<- asAddr (a.tmps.getD p undef))):Sem (List Value)).run P w = .ok vs w) :
    (results fn a.tmps).run P w = .ok (retC vs) w:=by
  have h2:(fn.results.mapM (λr=>match r with|.tmp t=>pure (a.tmps.getD t undef)|.cell p t=>do loadVar t (<- asAddr (a.tmps.getD p undef))):Sem (Array Value)).run P w = .ok vs.toArray w:=by rw[<- Array.toArray_toList (xs:=fn.results),List.mapM_toArray];simp_all
  unfold results;rw[Sem.run_bind];refine(congrArg (λr=>Result.andThen r _) h2).trans ?_;simp only[Result.andThen_ok]
  match vs with|[]=>rfl|[v]=>rfl|v::v' :: vs=>rfl
theorem Zg6{w:World}{args:List AV}{cargs:Array Value}{nt:Nat}(hl:cargs.size=args.length)(hr:∀(i:Nat) (x:AV) (v:Value),args[i]? = some x->cargs[i]? = some v->VRel h ι w O x v) :
    (cargs++Array.replicate (nt-cargs.size) undef).size=(start nt args).length /\ ∀(i:Nat) (x:AV) (v:Value),(start nt args)[i]? = some x->(cargs++Array.replicate (nt-cargs.size) undef)[i]? = some v->VRel h ι w O x v:=by
  refine⟨by simp[start,hl],λi x v hx hv=>?_⟩;unfold start at hx;by_cases hi:i<args.length;grind;rw[J0o (by omega),List.getElem?_replicate]at hx;rw[Array.getElem?_append_right (by omega),Array.getElem?_replicate]at hv;split at hx;split at hv;obtain rfl:=J0a hx;obtain rfl:=J0a hv;exact .u;grind;grind
theorem Yq9{f:FuncId}{af:AFun}(hf:Z0 P f=some af){args:List PA}{rs:List RA}{own:Bool}(h:AW P 0 af.body (RetQ af.res own rs) ⟨start af.nt (args.map PA.av),[]⟩):Spec P f args rs:=by
 unfold Z0 at hf;split at hf;rename_i fn hfn;split at hf;rename_i c hb;split at hf;rename_i b r hcb hcr;obtain rfl:=J0a hf;intro O w cargs hO hglob hargs;refine calls_of_wp hfn hb ?_;let ι:Em:=⟨λ_=>.slice none 0 0,O,0,[]⟩;have hh:HRel w.heap.size w [] ι w:=⟨.refl _ _,Nat.le_refl _,hO,hglob,λt o ho=>by grind,λt t' g ht=>by grind⟩;have hOw:Own ([]:List AObj).length ι=O:=by
  funext g;refine propext ⟨?_,λh=>.inl h⟩;rintro(h|⟨t,ht,_⟩);exact h;grind
 have hrel:∀(i:Nat) (x:AV) (v:Value),(args.map PA.av)[i]? = some x->cargs[i]? = some v->VR [] ι w x v:=by
  intro i x v hx hv;rw[J0m,J0f]at hx;obtain⟨p,hp,rfl⟩:=hx;have hpr:=hargs.2 i p v hp hv;rw[<- hOw]at hpr;cases hpr with|q cs ad u k1 k2 k3 k4=>exact .fptr _ ad u k1 k2 k3 k4|c y _ hy=>exact .p _ _ hy|a cs vs hl hr=>refine .agg _ _ (by grind) λj z u hz hu=>?_;rw[J0m,J0f]at hz;obtain⟨q,hq,rfl⟩:=hz;exact .p _ _ (hr j q u hq hu)
 obtain⟨g1,g2⟩:=Zg6 (nt:=fn.ntmps) (by rw[hargs.1];simp) hrel;refine wp_mono (h c hcb w.heap.size w ι _ w ⟨hh,g1,g2,rfl⟩ (Nat.zero_le _)) λe a' w' hp=>?_;obtain⟨s',ι',k1,k2,hee,xs,hxs,hrs⟩:=hp;obtain⟨vs,m1,m2,m3⟩:=Zey k1 hcr hxs;obtain⟨κ,q1,q2,q3⟩:=Z37 k1.heap hrs m2 m3;have hret:bodyPost P fn (λe w' => ∃v ι,e = .returned v/\ι.O=O/\HRel w.heap.size w (Za rs) ι w' /\ VR (Za rs) ι w' (retV (Zg 0 rs)) v) .ret a' w' := ⟨k1.defers.trans k2.oeq.2.2,_,Zo7 m1,_,κ,rfl,q1.trans k2.oeq.1,q2,q3⟩;rcases hee with rfl|rfl
 exact hret;grind;grind;grind;grind
def Em.setD(ι:Em)(D:List Deferred):Em:=⟨ι.at_,ι.O,ι.Y,D⟩
theorem VRel.reD{w:World}{v:Value}(D:List Deferred)(hr:VRel h ι w O x v):VRel h (ι.setD D) w O x v:=by
 induction hr with|any v=>exact .any v|u=>exact .u|p x v hp=>exact .p x v hp|nil=>exact .nil|ne ad c=>exact .ne ad c|nl c=>exact .nl c|e0 ad=>exact .e0 ad|xf elems ad n hp=>exact .xf elems ad n hp|row t ver v ht hv ho=>exact .row t ver v ht hv ho|sl t ver lo len ex v ht hv ho=>exact .sl t ver lo len ex v ht hv ho|ptr t ver i off v ht hv ho=>exact .ptr t ver i off v ht hv ho|nptr=>exact .nptr|fptr cells ad u hO hlt hcell hrel=>exact .fptr cells ad u hO hlt hcell hrel|agg cs vs hl _ ih=>exact .agg cs vs hl ih|tuple cs vs hl _ ih=>exact .tuple cs vs hl ih|fn f cs vs hl _ ih=>exact .fn f cs vs hl ih|nilf=>exact .nilf|yl=>exact .yl|if0=>exact .if0|if1 t x=>exact .if1 t x|gp g off=>exact .gp g off|fb f cs vs hl _ ih=>exact .fb f cs vs hl ih
theorem HRel.reD{B:Nat}{w0 w:World}(D:List Deferred)(hr:HRel B w0 h ι w):HRel B w0 h (ι.setD D) w:=⟨hr.below,hr.base,hr.old,hr.glob,λt o ho=>(hr.objs t o ho).imp id λ⟨a,xs,b,c⟩=>⟨a,xs,b,λi e he=>⟨(c i e he).1,λj x hx=>let ⟨v,h1,h2⟩:=(c i e he).2 j x hx;⟨v,h1,h2.reD D⟩⟩⟩,hr.inj⟩
end Go.Abs
