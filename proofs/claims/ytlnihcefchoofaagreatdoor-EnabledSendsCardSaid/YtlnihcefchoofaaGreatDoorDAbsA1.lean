import Derived.ProofKit
import Derived.WalkLawsBesides
import Derived.Maps.AppendAt
abbrev J0a:=@Option.some.inj
abbrev J0b:=@Option.some.injEq
abbrev J0c:=@List.getElem?_eq_getElem
abbrev J0d:=@List.getElem?_eq_some_iff
abbrev J0e:=@Bool.and_eq_true
abbrev J0f:=@Option.map_eq_some_iff
abbrev J0g:=@Int.ofNat_eq_natCast
abbrev J0h:=@decide_eq_true_eq
abbrev J0i:=@Prod.mk.injEq
abbrev J0j:=@List.mem_of_getElem?
abbrev J0k:=@Option.bind_some
abbrev J0l:=@Int.toNat_natCast
abbrev J0m:=@List.getElem?_map
abbrev J0n:=@Option.bind_eq_some_iff
abbrev J0o:=@List.getElem?_append_right
abbrev J0p:=@List.length_cons
abbrev J0q:=@List.getElem?_cons_zero
abbrev J0r:=@Bool.false_eq_true
abbrev J0s:=@List.length_append
set_option linter.all false
namespace Go.Abs
open Go.RowKit (Below)
inductive PV where
 |bool (b:Bool)|int (k:IntKind) (n:Int)|str (s:List UInt8)|sl (elems:List (List PV))
 deriving Inhabited
inductive PRel(w:World) (O:Nat->Prop):PV->Value->Prop where
 |bool (b:Bool):PRel w O (.bool b) (.bool b)|int (k:IntKind) (n:Int):PRel w O (.int k n) (.int k n)|str (s:List UInt8):PRel w O (.str s) (.string ⟨s.toArray⟩)|nil (a:Option Addr) (c:Nat):PRel w O (.sl []) (.slice a 0 c)|sl (elems:List (List PV)) (a:Addr) (n c size:Nat) (u:Nat->Nat->Value) (hO:¬O a.block) (hlt:a.block<w.heap.size) (hn:n=elems.length)
     (hc:n<=c) (hsz:∀(i:Nat) (e:List PV),elems[i]? = some e->e.length=size)
     (hcell:∀(i:Nat) (e:List PV),elems[i]? = some e -> ∀(j:Nat) (x:PV),e[j]? = some x->w.cell? (a.add (i*size+j))=some (u i j))
     (hrel:∀(i:Nat) (e:List PV),elems[i]? = some e -> ∀(j:Nat) (x:PV),e[j]? = some x->PRel w O x (u i j)):PRel w O (.sl elems) (.slice (some a) n c)
theorem Zc(a:Addr)(n:Nat):(a.add n).block=a.block:=by grind[Addr.add]
theorem Zf2(a:Addr)(i j:Nat):(a.add i).add j=a.add (i+j):=by grind[Addr.add]
structure Fix(w:World) (O:Nat->Prop) (w' : World) (O' : Nat->Prop):Prop where
 size:w.heap.size<=w'.heap.size
 heap:∀g,g<w.heap.size->¬O g->w'.heap[g]? = w.heap[g]?
 own:∀g,g<w.heap.size->¬O g->¬O' g
theorem Fix.refl(w:World)(O:Nat->Prop):Fix w O w O:=⟨Nat.le_refl _,λ_ _ _=>rfl,λ_ _ h=>h⟩
variable {w' w'':World}{O O' O'':Nat->Prop}
theorem Fix.trans{w: World}(h:Fix w O w' O')(k:Fix w' O' w'' O''):Fix w O w'' O'' := ⟨Nat.le_trans h.size k.size,λg hg ho=>(k.heap g (Nat.lt_of_lt_of_le hg h.size) (h.own g hg ho)).trans (h.heap g hg ho),λg hg ho=>k.own g (Nat.lt_of_lt_of_le hg h.size) (h.own g hg ho)⟩
theorem Fix.cell{w: World}(h:Fix w O w' O'){a:Addr}{v:Value}(ho:¬O a.block)(hc:w.cell? a=some v):w'.cell? a=some v:=(World.cell?_of_block (h.heap a.block (World.block_lt_of_cell? w a hc) ho)).trans hc
variable {x:PV}
theorem PRel.fix{w: World}(h:Fix w O w' O'){v:Value}(hr:PRel w O x v):PRel w' O' x v:=by
 induction hr with|bool b=>exact .bool b|int k n=>exact .int k n|str s=>exact .str s|nil a c=>exact .nil a c|sl elems a n c size u hO hlt hn hc hsz hcell _ ih=>exact .sl elems a n c size u (h.own _ hlt hO) (Nat.lt_of_lt_of_le hlt h.size) hn hc hsz (λi e he j x hx=>h.cell (by grind[Zc]) (hcell i e he j x hx)) ih
theorem PRel.oneCell{w:World}{v:Value}(h:PRel w O x v):v.oneCell' = true:=by cases h<;>rfl
class GTab where
 tab:Nat->Nat->Option PV
variable [GTab]
inductive AV where
 |any|u|p (v:PV)|nil|ne|nl|e0|xf (elems:List (List PV))|row (t ver:Nat)|sl (t ver lo len:Nat) (ex:Bool)|ptr (t ver i off:Nat)|nptr|fptr (cells:List PV)|agg (cells:List AV)|tuple (vs:List AV)|fn (f:FuncId) (caps:List AV)|nilf|yl|ifc (b:Bool)|gp (g off:Nat)|fb (f:FuncId) (firsts:List AV)
 deriving Inhabited
structure AObj where
 ver:Nat
 e:TypeId
 size:Nat
 elems:List (List AV)
 deriving Inhabited
structure Em where
 at_:Nat->Value
 O:Nat->Prop
 Y:Nat
 D:List Deferred
instance:CoeFun Em (λ_=>Nat->Value):=⟨Em.at_⟩
def Own(n:Nat)(ι:Em)(g:Nat):Prop:=ι.O g ∨ ∃t,t<n/\(ι t).ownBlock=some g
def SubSl(o:AObj)(sv:Value)(lo len:Nat)(ex:Bool)(v:Value):Prop :=
 (∃g N C c,sv = .slice (some ⟨g,0,none⟩) N C/\v = .slice (some ⟨g,lo*o.size,none⟩) len c/\len<=c/\(ex=true->c=len)/\lo+len<=o.elems.length/\(lo=0->ex=false->c=C)) ∨
 (len=0/\ex=false/\((lo=0/\v=sv/\o.elems.length=0)∨(0<lo /\ ∃a c,v = .slice a 0 c)))
theorem SubSl.pos{o:AObj}{sv:Value}{lo len:Nat}{ex:Bool}{v:Value}(h:SubSl o sv lo len ex v)(hp:0<len∨ex=true) :
    ∃g N C c,sv = .slice (some ⟨g,0,none⟩) N C/\v = .slice (some ⟨g,lo*o.size,none⟩) len c/\len<=c/\(ex=true->c=len)/\lo+len<=o.elems.length/\(lo=0->ex=false->c=C):=by
  rcases h with h|⟨h1,h2,_⟩
  exact h;grind
def PtrTo(o:AObj)(sv:Value)(i off:Nat)(v:Value):Prop:=∃g N C,sv = .slice (some ⟨g,0,none⟩) N C/\v = .pointer (some ⟨g,i*o.size+off,none⟩)/\i<o.elems.length
inductive VRel(h:List AObj) (ι:Em) (w:World) (O:Nat->Prop):AV->Value->Prop where
 |any (v:Value):VRel h ι w O .any v|u:VRel h ι w O .u undef|p (x:PV) (v:Value) (hp:PRel w O x v):VRel h ι w O (.p x) v|nil:VRel h ι w O .nil (.slice none 0 0)|ne (a:Addr) (c:Nat):VRel h ι w O .ne (.slice (some a) 0 c)|nl (c:Nat):VRel h ι w O .nl (.slice none 0 c)|e0 (a:Option Addr):VRel h ι w O .e0 (.slice a 0 0)|xf (elems:List (List PV)) (a:Option Addr) (n:Nat) (hp:PRel w O (.sl elems) (.slice a n n)):VRel h ι w O (.xf elems) (.slice a n n)|row (t ver:Nat) (v:Value) (ht:t<h.length) (hv:v.oneCell' = true) (ho:∀o,h[t]? = some o->ver<=o.ver/\(o.ver=ver->v=ι t)):VRel h ι w O (.row t ver) v|sl (t ver lo len:Nat) (ex:Bool) (v:Value) (ht:t<h.length) (hv:v.oneCell' = true) (ho:∀o,h[t]? = some o->ver<=o.ver/\(o.ver=ver->SubSl o (ι t) lo len ex v)):VRel h ι w O (.sl t ver lo len ex) v|ptr (t ver i off:Nat) (v:Value) (ht:t<h.length) (hv:v.oneCell' = true) (ho:∀o,h[t]? = some o->ver<=o.ver/\(o.ver=ver->PtrTo o (ι t) i off v)):VRel h ι w O (.ptr t ver i off) v|nptr:VRel h ι w O .nptr (.pointer none)|fptr (cells:List PV) (a:Addr) (u:Nat->Value) (hO:¬O a.block) (hlt:a.block<w.heap.size) (hcell:∀(j:Nat) (x:PV),cells[j]? = some x->w.cell? (a.add j)=some (u j))
     (hrel:∀(j:Nat) (x:PV),cells[j]? = some x->PRel w O x (u j)):VRel h ι w O (.fptr cells) (.pointer (some a))
 |agg (cs:List AV) (vs:Array Value) (hl:vs.size=cs.length) (hr:∀(i:Nat) (x:AV) (v:Value),cs[i]? = some x->vs[i]? = some v->VRel h ι w O x v):VRel h ι w O (.agg cs) (.agg vs)|tuple (cs:List AV) (vs:Array Value) (hl:vs.size=cs.length) (hr:∀(i:Nat) (x:AV) (v:Value),cs[i]? = some x->vs[i]? = some v->VRel h ι w O x v):VRel h ι w O (.tuple cs) (.tuple vs)|fn (f:FuncId) (cs:List AV) (vs:Array Value) (hl:vs.size=cs.length) (hr:∀(i:Nat) (x:AV) (v:Value),cs[i]? = some x->vs[i]? = some v->VRel h ι w O x v):VRel h ι w O (.fn f cs) (.func (.func f) #[] vs)|nilf:VRel h ι w O .nilf .nilFunc|yl:VRel h ι w O .yl (.func (.yield ι.Y) #[] #[])|if0:VRel h ι w O (.ifc false) .nilIface|if1 (t:TypeId) (x:Value):VRel h ι w O (.ifc true) (.iface t x)|gp (g off:Nat):VRel h ι w O (.gp g off) (.pointer (some ⟨g,off,none⟩))|fb (f:FuncId) (cs:List AV) (vs:Array Value) (hl:vs.size=cs.length) (hr:∀(i:Nat) (x:AV) (v:Value),cs[i]? = some x->vs[i]? = some v->VRel h ι w O x v):VRel h ι w O (.fb f cs) (.func (.func f) vs #[])
def AV.isCell:AV->Bool|.any|.u|.agg _|.tuple _=>false|_=>true
variable {h:List AObj}{ι:Em}
theorem VRel.oneCell{w:World}{x:AV}{v:Value}(hr:VRel h ι w O x v)(hx:x.isCell=true):v.oneCell' = true:=by
 cases hr<;>first|rfl|assumption|grind[AV.isCell]|skip
 case p x hp=>exact hp.oneCell
structure Ext(h:List AObj) (ι:Em) (w:World) (O:Nat->Prop) (h' : List AObj) (ι' : Em) (w' : World) (O' : Nat->Prop):Prop where
 fix:Fix w O w' O'
 len:h.length<=h'.length
 oeq:ι'.O=ι.O/\ι'.Y=ι.Y/\ι'.D=ι.D
 obj:∀t o',t<h.length->h'[t]? = some o' -> ∃o,h[t]? = some o/\((o'.ver=o.ver/\o'.size=o.size/\o'.elems.length=o.elems.length/\ι' t=ι t)∨o.ver<o'.ver)
theorem Ext.refl(h:List AObj)(ι:Em)(w:World)(O:Nat->Prop):Ext h ι w O h ι w O:=⟨.refl _ _,Nat.le_refl _,⟨rfl,rfl,rfl⟩,λt o' _ ho=>⟨o',ho,.inl ⟨rfl,rfl,rfl,rfl⟩⟩⟩
variable {h':List AObj}{ι':Em}
theorem Ext.trans{h'': List AObj}{ι'': Em}{w: World}(a:Ext h ι w O h' ι' w' O')(b:Ext h' ι' w' O' h'' ι'' w'' O''):Ext h ι w O h'' ι'' w'' O'' := by refine⟨a.fix.trans b.fix,Nat.le_trans a.len b.len,⟨b.oeq.1.trans a.oeq.1,b.oeq.2.1.trans a.oeq.2.1,b.oeq.2.2.trans a.oeq.2.2⟩,λt o'' ht ho'' => ?_⟩;obtain⟨o',ho',hb⟩:=b.obj t o'' (Nat.lt_of_lt_of_le ht a.len) ho'';obtain⟨o,ho,ha⟩:=a.obj t o' ht ho';grind
theorem Ext.rel{w: World}(a:Ext h ι w O h' ι' w' O'){x:AV}{v:Value}(hr:VRel h ι w O x v):VRel h' ι' w' O' x v:=by
 induction hr with|any v=>exact .any v|u=>exact .u|p x v hp=>exact .p x v (hp.fix a.fix)|nil=>exact .nil|ne ad c=>exact .ne ad c|nl c=>exact .nl c|e0 ad=>exact .e0 ad|xf elems ad n hp=>exact .xf elems ad n (hp.fix a.fix)|row t ver v ht hv ho=>refine .row t ver v (Nat.lt_of_lt_of_le ht a.len) hv λo' ho' => ?_;obtain⟨o,h0,hc⟩:=a.obj t o' ht ho';grind|sl t ver lo len ex v ht hv ho=>refine .sl t ver lo len ex v (Nat.lt_of_lt_of_le ht a.len) hv λo' ho' => ?_;obtain⟨o,h0,hc⟩:=a.obj t o' ht ho';grind[SubSl]|ptr t ver i off v ht hv ho=>refine .ptr t ver i off v (Nat.lt_of_lt_of_le ht a.len) hv λo' ho' => ?_;obtain⟨o,h0,hc⟩:=a.obj t o' ht ho';grind[PtrTo]|nptr=>exact .nptr|fptr cells ad u hO hlt hcell hrel=>exact .fptr cells ad u (a.fix.own _ hlt hO) (Nat.lt_of_lt_of_le hlt a.fix.size) (λj x hx=>a.fix.cell (by grind[Zc]) (hcell j x hx)) (λj x hx=>(hrel j x hx).fix a.fix)|agg cs vs hl _ ih=>exact .agg cs vs hl ih|tuple cs vs hl _ ih=>exact .tuple cs vs hl ih|fn f cs vs hl _ ih=>exact .fn f cs vs hl ih|nilf=>exact .nilf|yl=>rw[<- a.oeq.2.1];exact .yl|if0=>exact .if0|if1 t x=>exact .if1 t x|gp g off=>exact .gp g off|fb f cs vs hl _ ih=>exact .fb f cs vs hl ih
class Glob[GTab] where
 lim:Nat
 T:World->Prop
 stable:∀(w w' : World),T w->Below lim w w' -> T w'
 holds:∀(w:World),T w -> ∀(g off:Nat) (x:PV),GTab.tab g off=some x -> ∃v,w.cell? ⟨g,off,none⟩=some v /\ ∀(w' : World) (O:Nat->Prop),PRel w' O x v
variable [Glob]
def Zv(B:Nat)(w:World):Prop:=Glob.lim<=B/\Glob.T w
structure HRel(B:Nat) (w0:World) (h:List AObj) (ι:Em) (w:World):Prop where
 below:Below B w0 w
 base:B<=w0.heap.size
 old:∀g,ι.O g->g<B
 glob:Zv B w0
 objs:∀t o,h[t]? = some o->(o.size=0/\(ι t).ownBlock=none)∨0<o.size /\ ∃xs,w.ownsRow B o.e o.size (ι t) o.elems.length xs /\
  ∀(i:Nat) (e:List AV),o.elems[i]? = some e->e.length=o.size /\ ∀(j:Nat) (x:AV),e[j]? = some x -> ∃v,xs[i*o.size+j]? = some v/\VRel h ι w (Own h.length ι) x v
 inj:∀t t' g,t<h.length->t' < h.length->(ι t).ownBlock=some g->(ι t').ownBlock=some g->t=t'
variable {B:Nat}{w0:World}
theorem HRel.size{w: World}(hr:HRel B w0 h ι w):B<=w.heap.size:=Nat.le_trans hr.base hr.below.size
theorem HRel.globw{w: World}(hr:HRel B w0 h ι w):Zv w.heap.size w:=⟨Nat.le_trans hr.glob.1 hr.size,Glob.stable w0 w hr.glob.2 (hr.below.mono hr.glob.1)⟩
variable {t:Nat}
theorem HRel.own{w: World}(hr:HRel B w0 h ι w){g: Nat}(ht:t<h.length)(hg:(ι t).ownBlock=some g):B<=g/\g<w.heap.size:=by
 rcases hr.objs t h[t] (J0c ht)with⟨_,h0⟩|⟨_,xs,ho,_⟩
 grind;exact ho.lt g hg
theorem HRel.drew{w: World}(hr:HRel B w0 h ι w):HRel B w0 h ι w.drew/\Ext h ι w (Own h.length ι) h ι w.drew (Own h.length ι):=by
 have hx:Ext h ι w (Own h.length ι) h ι w.drew (Own h.length ι):=⟨⟨Nat.le_refl _,λ_ _ _=>rfl,λ_ _ h=>h⟩,Nat.le_refl _,⟨rfl,rfl,rfl⟩,λt o' _ ho=>⟨o',ho,.inl ⟨rfl,rfl,rfl,rfl⟩⟩⟩;refine⟨⟨hr.below.drew,hr.base,hr.old,hr.glob,λt o ho=>?_,hr.inj⟩,hx⟩;rcases hr.objs t o ho with h0|⟨hs,xs,h1,h2⟩
 grind;exact .inr ⟨hs,xs,h1,λi e he=>⟨(h2 i e he).1,λj x hj=>by obtain⟨v,hv,hvr⟩:=(h2 i e he).2 j x hj;exact⟨v,hv,hx.rel hvr⟩⟩⟩
theorem HRel.grown{w: World}(hr:HRel B w0 h ι w)(hg:w.grownBy w' none):HRel B w0 h ι w' /\ Ext h ι w (Own h.length ι) h ι w' (Own h.length ι):=by
 have hx:Ext h ι w (Own h.length ι) h ι w' (Own h.length ι):=⟨⟨hg.size,λg hlt _=>hg.block g hlt (by simp),λ_ _ h=>h⟩,Nat.le_refl _,⟨rfl,rfl,rfl⟩,λt o' _ ho=>⟨o',ho,.inl ⟨rfl,rfl,rfl,rfl⟩⟩⟩;refine⟨⟨hr.below.grown hg hr.size (by simp),hr.base,hr.old,hr.glob,λt o ho=>?_,hr.inj⟩,hx⟩;rcases hr.objs t o ho with h0|⟨hs,xs,h1,h2⟩
 exact .inl h0;exact .inr ⟨hs,xs,h1.kept hg (by cases(ι t).ownBlock<;>simp),λi e he=>⟨(h2 i e he).1,λj x hj=>by obtain⟨v,hv,hvr⟩:=(h2 i e he).2 j x hj;exact⟨v,hv,hx.rel hvr⟩⟩⟩
def upd(ι:Em)(t:Nat)(v:Value):Em:=⟨λs=>if s=t then v else ι s,ι.O,ι.Y,ι.D⟩
theorem upd_same(ι:Em)(t:Nat)(v:Value):upd ι t v t=v:=by simp[upd]
theorem Yx(ι:Em){s: Nat}(v:Value)(h:s≠t):upd ι t v s=ι s:=by simp[upd,h]
theorem HRel.push{w: World}(hr:HRel B w0 h ι w)(o:AObj)(sv:Value)(xs:List Value)
    (hg:w.grownBy w' none) (hnew:∀g,sv.ownBlock=some g->w.heap.size<=g) (hs:0<o.size) (hown:w'.ownsRow B o.e o.size sv o.elems.length xs)
    (hx:∀(i:Nat) (e:List AV),o.elems[i]? = some e->e.length=o.size /\ ∀(j:Nat) (x:AV),e[j]? = some x -> ∃v,xs[i*o.size+j]? = some v/\VRel h ι w (Own h.length ι) x v) :
    HRel B w0 (h++[o]) (upd ι h.length sv) w' /\ Ext h ι w (Own h.length ι) (h++[o]) (upd ι h.length sv) w' (Own (h++[o]).length (upd ι h.length sv)):=by
  have hB:=hr.size;have hext:Ext h ι w (Own h.length ι) (h++[o]) (upd ι h.length sv) w' (Own (h++[o]).length (upd ι h.length sv)):=by
   refine⟨⟨hg.size,λg hlt _=>hg.block g hlt (by simp),λg hlt hno=>?_⟩,by simp,⟨rfl,rfl,rfl⟩,λt o' ht ho' => ?_⟩;rintro(hO|⟨t,ht,hb⟩);exact hno (.inl hO);simp only[J0s,J0p,List.length_nil,Nat.zero_add]at ht;by_cases e:t=h.length;grind[upd_same];rw[Yx _ _ e]at hb;exact hno (.inr ⟨t,by omega,hb⟩);grind[Yx]
  refine⟨⟨hr.below.grown hg hB (by simp),hr.base,hr.old,hr.glob,λt o' ho' => ?_,λt t' g ht ht' h1 h2=>?_⟩,hext⟩;by_cases ht:t<h.length;rw[List.getElem?_append_left ht]at ho';rcases hr.objs t o' ho' with⟨h0,h00⟩|⟨hs',ys,h1,h2⟩
  grind[Yx];refine .inr ⟨hs',ys,?_,λi e he=>⟨(h2 i e he).1,λj x hj=>?_⟩⟩;rw[Yx _ _ (by omega)];exact h1.kept hg (by grind);obtain⟨v,hv,hvr⟩:=(h2 i e he).2 j x hj;exact⟨v,hv,hext.rel hvr⟩;rw[J0o (by omega)]at ho';have e:t=h.length:=by grind
  subst e;simp at ho';subst ho';refine .inr ⟨hs,xs,by rw[upd_same];grind,λi e he=>⟨(hx i e he).1,λj x hj=>?_⟩⟩;obtain⟨v,hv,hvr⟩:=(hx i e he).2 j x hj;exact⟨v,hv,hext.rel hvr⟩;simp only[J0s,J0p,List.length_nil,Nat.zero_add]at ht ht';by_cases e:t=h.length<;>by_cases e' : t' = h.length;omega;subst e;rw[upd_same]at h1;rw[Yx _ _ e']at h2;have:=hnew g h1;have:=(hr.own (t:=t') (by omega) h2).2;omega;subst e';rw[upd_same]at h2;rw[Yx _ _ e]at h1;have:=hnew g h2;have:=(hr.own (t:=t) (by omega) h1).2;omega;rw[Yx _ _ e]at h1;rw[Yx _ _ e']at h2;exact hr.inj t t' g (by omega) (by omega) h1 h2
theorem HRel.change{w: World}(hr:HRel B w0 h ι w)(t:Nat)(o o' : AObj)(ho:h[t]? = some o)(sv:Value)(xs:List Value)
    (hg:w.grownBy w' (ι t).ownBlock) (hsv:∀g,sv.ownBlock=some g->(ι t).ownBlock=some g∨w.heap.size<=g)
    (hver:(o'.ver=o.ver/\o'.size=o.size/\o'.elems.length=o.elems.length/\sv=ι t)∨o.ver<o'.ver)
    (hs:0<o'.size) (hown:w'.ownsRow B o'.e o'.size sv o'.elems.length xs)
    (hx:∀(i:Nat) (e:List AV),o'.elems[i]? = some e->e.length=o'.size /\ ∀(j:Nat) (x:AV),e[j]? = some x -> ∃v,xs[i*o'.size+j]? = some v/\VRel h ι w (Own h.length ι) x v) :
    HRel B w0 (h.set t o') (upd ι t sv) w' /\ Ext h ι w (Own h.length ι) (h.set t o') (upd ι t sv) w' (Own (h.set t o').length (upd ι t sv)):=by
  have hB:=hr.size;have htl:t<h.length:=(J0d.1 ho).1;have hset:(h.set t o')[t]? = some o' := by grind
  have hext:Ext h ι w (Own h.length ι) (h.set t o') (upd ι t sv) w' (Own (h.set t o').length (upd ι t sv)):=by
   refine⟨⟨hg.size,λg hlt hno=>hg.block g hlt (λe=>hno (.inr ⟨t,htl,e.symm⟩)),λg hlt hno=>?_⟩,by simp,⟨rfl,rfl,rfl⟩,λs p hs' hp=>?_⟩;rintro(hO|⟨s,hs',hb⟩);exact hno (.inl hO);simp only[List.length_set]at hs';by_cases e:s=t;subst e;rw[upd_same]at hb;rcases hsv g hb with h1|h1
   exact hno (.inr ⟨s,hs',h1⟩);omega;rw[Yx _ _ e]at hb;exact hno (.inr ⟨s,hs',hb⟩);grind[upd_same,Yx]
  refine⟨⟨hr.below.grown hg hB (λk hk=>(hr.own htl hk).1),hr.base,hr.old,hr.glob,λs p hp=>?_,λs s' g hs1 hs2 h1 h2=>?_⟩,hext⟩;by_cases e:s=t;subst e;rw[hset]at hp;obtain rfl:=J0a hp;refine .inr ⟨hs,xs,by rw[upd_same];grind,λi e he=>⟨(hx i e he).1,λj x hj=>?_⟩⟩;obtain⟨v,hv,hvr⟩:=(hx i e he).2 j x hj;exact⟨v,hv,hext.rel hvr⟩;rw[List.getElem?_set_ne (Ne.symm e)]at hp;have hsl:s<h.length:=(J0d.1 hp).1;rcases hr.objs s p hp with⟨h0,h00⟩|⟨hs',ys,h1,h2⟩
  grind[Yx];refine .inr ⟨hs',ys,?_,λi e' he=>⟨(h2 i e' he).1,λj x hj=>?_⟩⟩;rw[Yx _ _ e];refine h1.kept hg ?_;by_cases hb:(ι s).ownBlock=none;grind;right;intro heq;obtain⟨g,hgg⟩:=Option.ne_none_iff_exists'.1 hb;exact e (hr.inj s t g hsl htl hgg (by grind));obtain⟨v,hv,hvr⟩:=(h2 i e' he).2 j x hj;exact⟨v,hv,hext.rel hvr⟩;simp only[List.length_set]at hs1 hs2;by_cases e:s=t<;>by_cases e' : s' = t;omega;subst e;rw[upd_same]at h1;rw[Yx _ _ e']at h2;rcases hsv g h1 with h3|h3
  exact hr.inj s s' g hs1 hs2 h3 h2;have:=(hr.own hs2 h2).2;omega;subst e';rw[upd_same]at h2;rw[Yx _ _ e]at h1;rcases hsv g h2 with h3|h3
  exact hr.inj s s' g hs1 hs2 h1 h3;have:=(hr.own hs1 h1).2;omega;rw[Yx _ _ e]at h1;rw[Yx _ _ e']at h2;exact hr.inj s s' g hs1 hs2 h1 h2
end Go.Abs
namespace Go.Abs
variable [GTab]
inductive AOpd where
 |t (n:Nat)|c (v:AV)
 deriving Inhabited
inductive AOp where
 |mv (x:AOpd)|pick (c a b:AOpd)|box (e size:Nat) (x:AOpd)|build (zero:List AV) (parts:List (Nat×Nat×AOpd))|bslice (e size len:Nat) (zero:List AV) (parts:List (Nat×AOpd))|load (n:Option Nat) (x:AOpd)|store (n:Nat) (a x:AOpd)|nilchk (x:AOpd)|bin (op:BinOp) (x y:AOpd)|beq (neg:Bool) (x y:AOpd)|eqnil (neg:Bool) (x:AOpd)|eqi (neg:Bool) (x:AOpd)|eqagg (neg:Bool) (size:Nat) (ix:List (Nat×Nat)) (x y:AOpd)|un (op:UnOp) (x:AOpd)|conv (k:IntKind) (x:AOpd)|convs (x:AOpd)|bstr (x:AOpd)|mksl (e size bytes:Nat) (zero:List AV) (len cap:AOpd)|slice (size:Nat) (x:AOpd) (lo hi mx:Option AOpd)|sstr (x:AOpd) (lo hi:Option AOpd)|fld (off:Nat) (x:AOpd)|field (off:Nat) (n:Option Nat) (x:AOpd)|ixa (size:Nat) (x i:AOpd)|ixarr (len size:Nat) (x i:AOpd)|ixv (len size:Nat) (n:Option Nat) (x i:AOpd)|ixs (x i:AOpd)|extract (i:Nat) (x:AOpd)|len (x:AOpd)|lens (x:AOpd)|append (e size bytes:Nat) (s x:AOpd)|copy (size:Nat) (d s:AOpd)|mm (mx:Bool) (x y:AOpd)|mkfn (f:FuncId) (caps:List AOpd)|mkfb (f:FuncId) (caps:List AOpd)|eqp (neg:Bool) (x:AOpd)|eqf (neg:Bool) (x:AOpd)|capn (x:AOpd)|sbytes (x:AOpd)|appz (e size bytes:Nat) (zero:List AV) (s n:AOpd)|bad
 deriving Inhabited
inductive Eff where|none|new (o:AObj)|upd (t:Nat) (o:AObj)|grow
def AOpd.eval(s:List AV):AOpd->AV|.t n=>s.getD n .any|.c v=>v
def Zd(h:List AObj)(t ver:Nat):Option AObj := match h[t]? with|some o=>if o.ver=ver/\o.size≠0 then some o else none|none=>none
def AV.cells:AV->Option (List AV)|.agg cs=>if cs.all AV.isCell then some cs else none|x=>if x.isCell then some [x]else none
def Zn(size:Nat)(es:List (List AV)):Bool:=es.all λe=>e.length==size&&e.all AV.isCell
def Ye(h:List AObj):AV->Option (List (List AV))|.p (.sl es)=>some (es.map (·.map .p))|.xf es=>some (es.map (·.map .p))|.nil=>some []|.ne=>some []|.nl=>some []|.e0=>some []|.row t ver=>(Zd h t ver).map (·.elems)|.sl t ver lo len _=>(Zd h t ver).map λo=>(o.elems.drop lo).take len|_=>none
def Xg(h:List AObj)(n:Nat):AV->Option (List AV)
 |.ptr t ver i off =>
  match Zd h t ver with
  |some o => match o.elems[i]? with|some e=>if off+n<=e.length then some ((e.drop off).take n)else none|none=>none
  |none=>none
 |.fptr cs=>if n<=cs.length then some ((cs.take n).map .p)else none|.gp g off=>if n=1 then(match GTab.tab g off with|some x=>some [.p x]|none=>none)else none|_=>none
def nilP(h:List AObj):AV->Option Bool
 |.nptr=>some true|.ptr t ver _ _=>match Zd h t ver with|some _=>some false|none=>none
 |.fptr _=>some false|.gp _ _=>some false|_=>none
def nilF:AV->Option Bool|.nilf=>some true|.fn _ _=>some false|.fb _ _=>some false|_=>none
def spl(l:List AV)(off:Nat)(cs:List AV):List AV:=l.take off++(cs++l.drop (off+cs.length))
def Zn4:List (Nat×Nat×AV)->List AV->Option (List AV)|[],cells=>some cells|(off,size,v)::rest,cells => match v.cells with|some cs=>if cs.length=size/\off+size<=cells.length then Zn4 rest (spl cells off cs)else none|none=>none
def Zn5(size:Nat):List (Nat×AV)->List (List AV)->Option (List (List AV))|[],es=>some es|(i,v)::rest,es => match v.cells with|some cs=>if cs.length=size/\i<es.length then Zn5 size rest (es.set i cs)else none|none=>none
def asN:AV->Option Nat|.p (.int _ n)=>if 0<=n then some n.toNat else none|_=>none
def pvEq:Nat->AV->AV->Option Bool|0,.p (.int k a),.p (.int k' b)=>if k=k' then some (a==b)else none|1,.p (.bool a),.p (.bool b)=>some (a==b)|2,.p (.str a),.p (.str b)=>some (a==b)|_,_,_=>none
def eqIx(xs ys:List AV):List (Nat×Nat)->Option Bool
 |[]=>some true|(i,kd)::is =>
  match xs[i]?,ys[i]? with
  |some x,some y => match pvEq kd x y,eqIx xs ys is with|some a,some b=>some (a&&b)|_,_=>none
  |_,_=>none
def binI(op:BinOp)(k:IntKind)(a b:Int):Option PV := match op with|.add=>some (.int k (k.wrap (a+b)))|.sub=>some (.int k (k.wrap (a-b)))|.mul=>some (.int k (k.wrap (a*b)))|.quo=>if b=0 then none else some (.int k (k.wrap (a.tdiv b)))|.rem=>if b=0 then none else some (.int k (a.tmod b))|.and|.or|.xor|.andNot=>some (.int k (bits op k a b))|.eql=>some (.bool (a==b))|.neq=>some (.bool (a != b))|.lss=>some (.bool (decide (a<b)))|.leq=>some (.bool (decide (a<=b)))|.gtr=>some (.bool (decide (a>b)))|.geq=>some (.bool (decide (a>=b)))|_=>none
def Z33(op:BinOp)(k:IntKind)(a b:Int):Option PV :=
 if b<0 then none else
 match op with|.shl=>some (.int k (k.wrap (a*2 ^ (min b.toNat k.bits))))|.shr=>some (.int k (a.fdiv (2 ^ (min b.toNat k.bits))))|_=>none
def binS(op:BinOp)(a b:List UInt8):Option PV := match op with|.add=>if a.length+b.length<=9223372036854775807 then some (.str (a++b))else none|.eql=>some (.bool (a==b))|.neq=>some (.bool (!(a==b)))|.lss=>some (.bool (Op.bytesLess a b))|.leq=>some (.bool (Op.bytesLess a b||a==b))|.gtr=>some (.bool (!(Op.bytesLess a b||a==b)))|.geq=>some (.bool (!(Op.bytesLess a b)))|_=>none
def Zur:BinOp->Bool|.shl|.shr=>true|_=>false
def binA(op:BinOp):AV->AV->Option PV|.p (.int k a),.p (.int k' b)=>if Zur op then Z33 op k a b else if k=k' then binI op k a b else none|.p (.str a),.p (.str b)=>binS op a b|_,_=>none
def unA(op:UnOp):AV->Option PV
 |.p (.int k n) => match op with|.neg=>some (.int k (k.wrap (0-n)))|.xor=>some (.int k (bits .xor k (if k.signed then -1 else k.max) n))|_=>none
 |.p (.bool b)=>match op with|.not=>some (.bool (!b))|_=>none
 |_=>none
def lowA(ρ:AOpd->AV):Option AOpd->Option Nat|none=>some 0|some x=>asN (ρ x)
def bndA(len:Nat)(ex:Bool)(ρ:AOpd->AV)(lo hi mx:Option AOpd):Option (Nat×Nat×Bool) :=
 let h:Option (Nat×Bool):=match hi,mx with
  |none,none=>some (len,ex)|some x,none=>(asN (ρ x)).map λn=>(n,ex&&n==len)|some x,some y=>match asN (ρ x),asN (ρ y)with
   |some n,some m=>if m=n then some (n,true)else none|_,_=>none
  |none,some _=>none
 match h with|none=>none|some (n,b) => match lowA ρ lo with|none=>none|some l=>if l<=n/\n<=len then some (l,n,b)else none
def Zbo(h:List AObj)(size:Nat)(ρ:AOpd->AV)(x:AV)(lo hi mx:Option AOpd):Option AV :=
 match x with
 |.nil=>match bndA 0 true ρ lo hi mx with|some _=>some .nil|none=>none
 |.p (.sl es) => match bndA es.length false ρ lo hi mx with|some (l,n,b)=>if l=n then some (if b then .e0 else .p (.sl []))else if Zn size (es.map (·.map AV.p))then some (if b then .xf ((es.take n).drop l)else .p (.sl ((es.take n).drop l)))else none|none=>none
 |.xf es => match bndA es.length true ρ lo hi mx with|some (l,n,b)=>if l=n then some (if b then .e0 else .p (.sl []))else if Zn size (es.map (·.map AV.p))then some (if b then .xf ((es.take n).drop l)else .p (.sl ((es.take n).drop l)))else none|none=>none
 |.row t ver =>
  match Zd h t ver with
  |some o=>if o.size=size then match bndA o.elems.length false ρ lo hi mx with
   |some (l,n,b)=>if lo.isNone&&mx.isNone then(if hi.isNone then some (.row t ver)else some (.sl t ver 0 n false))else if l=n then some (if b then .e0 else .p (.sl []))else some (.sl t ver l (n-l) b)|none=>none else none
  |none=>none
 |.sl t ver lo0 len0 ex =>
  match Zd h t ver with
  |some o=>if o.size=size then match bndA len0 ex ρ lo hi mx with
   |some (l,n,b)=>if ex && !b then none else if lo.isNone&&mx.isNone&&lo0==0 && !ex then some (.sl t ver 0 n false)else if l=n then some (if b then .e0 else .p (.sl []))else some (.sl t ver (lo0+l) (n-l) b)|none=>none else none
  |none=>none
 |_=>none
def lenA(h:List AObj):AV->Option Nat|.p (.sl es)=>some es.length|.xf es=>some es.length|.nil=>some 0|.ne=>some 0|.nl=>some 0|.e0=>some 0|.row t ver=>(Zd h t ver).map (·.elems.length)|.sl t ver _ len _=>(Zd h t ver).map λ_=>len|_=>none
def ixA(h:List AObj)(size:Nat)(x i:AV):Option AV :=
 match asN i with
 |none=>none|some n =>
  match x with
  |.p (.sl es)=>match es[n]? with|some e=>if e.length=size then some (.fptr e)else none|none=>none
  |.xf es=>match es[n]? with|some e=>if e.length=size then some (.fptr e)else none|none=>none
  |.row t ver=>match Zd h t ver with|some o=>if n<o.elems.length/\o.size=size then some (.ptr t ver n 0)else none|none=>none
  |.sl t ver lo len _=>match Zd h t ver with|some o=>if n<len/\o.size=size then some (.ptr t ver (lo+n) 0)else none|none=>none
  |_=>none
def nilA(h:List AObj):AV->Option Bool
 |.nil=>some true|.ne=>some false|.nl=>some true|.p (.sl (_::_))=>some false|.xf (_::_)=>some false|.row t ver=>match Zd h t ver with|some o=>if o.elems.isEmpty then none else some false|none=>none
 |.sl t ver _ len _=>match Zd h t ver with|some _=>if len=0 then none else some false|none=>none
 |_=>none
def Zpw(cs:List AV)(off:Nat):Option Nat->Option AV|some n=>if off+n<=cs.length then some (.agg ((cs.drop off).take n))else none|none=>cs[off]?
def Zx:Nat:=140737488355328
def Qh(h:List AObj)(T e size bytes:Nat)(s:AV)(es:List (List AV)):Option (AV×Eff) :=
 match s with
 |.nil=>if Zn size es/\es.length*bytes<=Zx/\es.length<=maxLen then some (.row T 1,.new ⟨1,e,size,es⟩)else none|.row t ver => match Zd h t ver with|some o=>if o.e=e/\o.size=size/\Zn size es/\(o.elems.length+es.length)*bytes<=Zx/\o.elems.length+es.length<=maxLen then some (.row t (ver+1),.upd t ⟨ver+1,e,size,o.elems++es⟩)else none|none=>none
 |.e0=>if es=[]then some (.e0,.none)else if Zn size es/\es.length*bytes<=Zx/\es.length<=maxLen then some (.row T 1,.new ⟨1,e,size,es⟩)else none|.xf es0 =>
  let old:=es0.map (·.map AV.p)
  if es.isEmpty then none else if Zn size old/\Zn size es/\(old.length+es.length)*bytes<=Zx/\old.length+es.length<=maxLen then some (.row T 1,.new ⟨1,e,size,old++es⟩)else none
 |.sl t ver lo len ex =>
  match Zd h t ver with
  |some o =>
   let old:=(o.elems.drop lo).take len
   if es.isEmpty/\o.size=size then some (.sl t ver lo len ex,.none)else if ex/\es.isEmpty=false/\o.size=size/\Zn size old/\Zn size es/\(old.length+es.length)*bytes<=Zx/\old.length+es.length<=maxLen then some (.row T 1,.new ⟨1,e,size,old++es⟩)
   else if ex=false/\lo=0/\es.isEmpty=false/\o.e=e/\o.size=size/\len<=o.elems.length/\Zn size es/\(len+es.length)*bytes<=Zx/\len+es.length<=maxLen then some (.row t (ver+1),.upd t ⟨ver+1,e,size,o.elems.take len++es⟩)else none
  |none=>none
 |_=>none
def Zpx(h:List AObj)(size:Nat)(d:AV)(es:List (List AV)):Option (AV×Eff) :=
 match d with
 |.nil=>some (.p (.int .i64 0),.none)|.row t ver =>
  match Zd h t ver with
  |some o =>
   let m:=min es.length o.elems.length
   if o.size=size/\Zn size es then some (.p (.int .i64 m),.upd t { o with elems:=es.take m++o.elems.drop m })else none
  |none=>none
 |.sl t ver lo len _ =>
  match Zd h t ver with
  |some o =>
   let m:=min es.length len
   if o.size=size/\Zn size es/\lo+len<=o.elems.length then some (.p (.int .i64 m),.upd t { o with elems:=o.elems.take lo++(es.take m++o.elems.drop (lo+m)) })else none
  |none=>none
 |_=>none
def Zkp:List (List AV)->Option (List UInt8)|[]=>some []|[.p (.int .u8 n)]::es=>(Zkp es).map (UInt8.ofNat n.toNat :: ·)|_=>none
def Zb(h:List AObj)(T:Nat)(ρ:AOpd->AV):AOp->Option (AV×Eff)
 |.mv x=>some (ρ x,.none)|.pick c a b=>match ρ c with|.p (.bool b')=>some (if b' then ρ a else ρ b,.none)|_=>none
 |.box e size x=>match (ρ x).cells with|some cs=>if cs.length=size/\0<size then some (.ptr T 1 0 0,.new ⟨1,e,size,[cs]⟩)else none|none=>none
 |.build zero parts=>match Zn4 (parts.map λq=>(q.1,q.2.1,ρ q.2.2)) zero with|some cs=>some (.agg cs,.none)|none=>none
 |.bslice e size len zero parts => match Zn5 size (parts.map λq=>(q.1,ρ q.2)) (List.replicate len zero)with|some es=>if 0<size/\zero.length=size then some (.row T 1,.new ⟨1,e,size,es⟩)else none|none=>none
 |.load n x =>
  match n with
  |some n=>match Xg h n (ρ x)with|some cs=>some (.agg cs,.none)|none=>none
  |none=>match Xg h 1 (ρ x)with|some [c]=>some (c,.none)|_=>none
 |.store n a x =>
  match (ρ x).cells,ρ a with
  |some cs,.ptr t ver i off =>
   match Zd h t ver with
   |some o => match o.elems[i]? with|some e=>if cs.length=n/\off+n<=e.length then some (.u,.upd t { o with elems:=o.elems.set i (spl e off cs) })else none|none=>none
   |none=>none
  |_,_=>none
 |.nilchk x=>match ρ x with
  |.ptr t ver i off=>match Zd h t ver with|some _=>some (.ptr t ver i off,.none)|none=>none
  |.fptr cs=>some (.fptr cs,.none)|.fn f cs=>some (.fn f cs,.none)|.gp g off=>some (.gp g off,.none)|.fb f cs=>some (.fb f cs,.none)|_=>none
 |.bin op x y=>match binA op (ρ x) (ρ y)with|some v=>some (.p v,.none)|none=>none
 |.beq neg x y=>match ρ x,ρ y with|.p (.bool a),.p (.bool b)=>some (.p (.bool (if neg then !(a==b)else a==b)),.none)|_,_=>none
 |.eqnil neg x=>match nilA h (ρ x)with|some b=>some (.p (.bool (if neg then !b else b)),.none)|none=>none
 |.eqi neg x=>match ρ x with|.ifc b=>some (.p (.bool (if neg then b else !b)),.none)|_=>none
 |.eqagg neg size ix x y=>match ρ x,ρ y with
  |.agg xs,.agg ys=>if xs.length=size/\ys.length=size then(match eqIx xs ys ix with|some b=>some (.p (.bool (if neg then !b else b)),.none)|none=>none)else none|_,_=>none
 |.un op x=>match unA op (ρ x)with|some v=>some (.p v,.none)|none=>none
 |.conv k x=>match ρ x with|.p (.int _ n)=>some (.p (.int k (k.wrap n)),.none)|_=>none
 |.convs x=>match ρ x with|.p (.str s)=>some (.p (.str s),.none)|_=>none
 |.bstr x=>match Ye h (ρ x)with|some es=>(match Zkp es with|some s=>some (.p (.str s),.none)|none=>none)|none=>none
 |.mksl e size bytes zero len cap => match asN (ρ len),asN (ρ cap)with|some n,some c=>if n<=c/\bytes*c<=2*Zx/\c<=maxLen/\0<size/\zero.length=size then some (.row T 1,.new ⟨1,e,size,List.replicate n zero⟩)else none|_,_=>none
 |.slice size x lo hi mx=>match Zbo h size ρ (ρ x) lo hi mx with|some v=>some (v,.none)|none=>none
 |.sstr x lo hi=>match ρ x with
  |.p (.str s)=>match bndA s.length true ρ lo hi none with|some (l,n,_)=>some (.p (.str ((s.take n).drop l)),.none)|none=>none
  |_=>none
 |.fld off x=>match ρ x with
  |.ptr t ver i o=>match Zd h t ver with|some _=>some (.ptr t ver i (o+off),.none)|none=>none
  |.fptr cs=>some (.fptr (cs.drop off),.none)|_=>none
 |.field off n x=>match ρ x with
  |.agg cs=>(match Zpw cs off n with|some v=>some (v,.none)|none=>none)|_=>none
 |.ixa size x i=>match ixA h size (ρ x) (ρ i)with|some v=>some (v,.none)|none=>none
 |.ixarr len size x i=>match asN (ρ i)with
  |none=>none|some n=>if n<len then match ρ x with
   |.ptr t ver i o=>match Zd h t ver with|some _=>some (.ptr t ver i (o+n*size),.none)|none=>none
   |.fptr cs=>some (.fptr (cs.drop (n*size)),.none)|.gp g o=>some (.gp g (o+n*size),.none)|_=>none else none
 |.ixv len size m x i=>match asN (ρ i)with
  |none=>none|some n=>if n<len then match ρ x with
   |.agg cs=>(match Zpw cs (n*size) m with|some v=>some (v,.none)|none=>none)|_=>none else none
 |.ixs x i=>match asN (ρ i),ρ x with
  |some n,.p (.str s)=>match s[n]? with|some b=>some (.p (.int .u8 b.toNat),.none)|none=>none
  |_,_=>none
 |.extract i x=>match ρ x with|.tuple vs=>(match vs[i]? with|some v=>some (v,.none)|none=>none)|_=>none
 |.len x=>match lenA h (ρ x)with|some n=>some (.p (.int .i64 n),.none)|none=>none
 |.lens x=>match ρ x with|.p (.str s)=>some (.p (.int .i64 s.length),.none)|_=>none
 |.append e size bytes s x=>match Ye h (ρ x)with|some es=>if 0<size then Qh h T e size bytes (ρ s) es else none|none=>none
 |.copy size d s=>match Ye h (ρ s)with|some es=>Zpx h size (ρ d) es|none=>none
 |.mm mx x y=>match ρ x,ρ y with
  |.p (.int k a),.p (.int k' b)=>some (.p (.int k (if mx then(if b>a then b else a)else(if b<a then b else a))),.none)|_,_=>none
 |.mkfn f caps=>some (.fn f (caps.map ρ),.none)|.mkfb f caps=>some (.fb f (caps.map ρ),.none)|.eqp neg x=>match nilP h (ρ x)with|some b=>some (.p (.bool (if neg then !b else b)),.none)|none=>none
 |.eqf neg x=>match nilF (ρ x)with|some b=>some (.p (.bool (if neg then !b else b)),.none)|none=>none
 |.sbytes x=>match ρ x with|.p (.str s)=>some (.p (.sl (s.map λb=>[.int .u8 b.toNat])),.grow)|_=>none
 |.capn x=>match ρ x with|.nil=>some (.p (.int .i64 0),.none)|_=>none
 |.appz e size bytes zero s n=>match ρ s,asN (ρ n)with
  |.nil,some n=>if 0<n/\n*bytes<=Zx/\n<=maxLen/\0<size/\zero.length=size then some (.row T 1,.new ⟨1,e,size,List.replicate n zero⟩)else none|_,_=>none
 |.bad=>none
def cav1:Value->Option AV|.bool b=>some (.p (.bool b))|.int k n=>some (.p (.int k n))|.string s=>some (.p (.str s.data.toList))|.slice none 0 0=>some .nil|.pointer none=>some .nptr|.nilFunc=>some .nilf|.nilIface=>some (.ifc false)|_=>none
def cav:Value->Option AV
 |.agg cs=>match cs.toList.mapM cav1 with|some l=>some (.agg l)|none=>none
 |v=>cav1 v
def opd:Operand->Option AOpd|.tmp t=>some (.t t)|.const v=>(cav v).map .c|.func f=>some (.c (.fn f []))|.global g=>some (.c (.gp g 0))
def Qm:TypeDesc->Bool|.struct _|.array _ _=>true|_=>false
def Zco(P:Program)(t:TypeId):Option (Option Nat) := match P.underlying t,P.info? t with|some d,some i=>some (if Qm d then some i.size else none)|_,_=>none
def zeroOf(P:Program)(t:TypeId):Option AV :=
 match P.info? t with
 |some i=>match i.zero with|some z=>cav z|none=>none
 |none=>none
def Z6(P:Program)(t:TypeId):Option Nat:=(P.info? t).map (·.size)
def Zir(P:Program)(t:TypeId):Option Nat:=(P.info? t).map (·.bytes)
def eqFs(size:Nat)(sz:TypeId->Option Nat)(rec:TypeId->Nat->Option (List (Nat×Nat)))(off:Nat):List Field->Option (List (Nat×Nat))
 | []=>some []|f::rest =>
  if f.name ≠ "_" then
   match sz f.type,rec f.type (off+f.offset),eqFs size sz rec off rest with|some s,some a,some b=>if f.offset+s<=size/\0<s then some (a++b)else none|_,_,_=>none
  else eqFs size sz rec off rest
def eqAs(rec:Nat->Option (List (Nat×Nat)))(off s:Nat):List Nat->Option (List (Nat×Nat))|[]=>some []|i::rest => match rec (off+i*s),eqAs rec off s rest with|some a,some b=>some (a++b)|_,_=>none
def Qu(P:Program):Nat->TypeId->Nat->Option (List (Nat×Nat))
 |0,_,_=>none|d+1,t,off =>
  match P.underlying t with
  |some (.int _)=>some [(off,0)]|some .bool=>some [(off,1)]|some .string=>some [(off,2)]|some (.struct fs)=>match Z6 P t with
   |some size=>if P.stoodInHeld t then none else eqFs size (Z6 P) (Qu P d) off fs.toList|none=>none
  |some (.array n e) => match Z6 P t,Z6 P e with|some size,some s=>if n*s<=size/\0<s then eqAs (Qu P d e) off s (List.range n)else none|_,_=>none
  |_=>none
def optO:Option Operand->Option (Option AOpd)|none=>some none|some x=>(opd x).map some
def Zh4(P:Program)(fields:Array Field):List (Nat×Operand)->Option (List (Nat×Nat×AOpd))
 |[]=>some []|(i,x)::rest =>
  match fields[i]?,opd x,Zh4 P fields rest with
  |some f,some y,some r=>match Z6 P f.type with|some s=>some ((f.offset,s,y)::r)|none=>none
  |_,_,_=>none
def Zf3(size:Nat):List (Nat×Operand)->Option (List (Nat×Nat×AOpd))|[]=>some []|(i,x)::rest => match opd x,Zf3 size rest with|some y,some r=>some ((i*size,size,y)::r)|_,_=>none
def Zf4:List (Nat×Operand)->Option (List (Nat×AOpd))|[]=>some []|(i,x)::rest => match opd x,Zf4 rest with|some y,some r=>some ((i,y)::r)|_,_=>none
def callable(P:Program)(f:FuncId):Bool :=
 match P.funcs[f]? with
 | some fn => fn.body.isSome && !(fn.name == "runtime.NumGoroutine")
 | none=>false
def Yjz(neg:Bool)(a:AOpd):AOpd->Option AOp|.c .nil=>some (.eqnil neg a)|_=>none
def Yj0(neg:Bool)(a:AOpd):AOpd->Option AOp|.c (.ifc false)=>some (.eqi neg a)|_=>none
def Yj1(neg:Bool)(a:AOpd):AOpd->Option AOp|.c .nptr=>some (.eqp neg a)|_=>none
def fnOp(neg:Bool)(a:AOpd):AOpd->Option AOp|.c .nilf=>some (.eqf neg a)|_=>none
def Zo(P:Program)(o:Oper):Option AOp :=
 match o.op with
 |.move x|.assign x=>do return .mv (<- opd x)|.pick c a b=>do return .pick (<- opd c) (<- opd a) (<- opd b)|.alloc e=>do return .box e (<- Z6 P e) (.c (<- zeroOf P e))|.box e x=>do return .box e (<- Z6 P e) (<- opd x)|.build t parts=>do
  let z <- zeroOf P t;let zc <- z.cells
  match <- P.underlying t with|.struct fs=>do if fs.toList.all (λf=>(P.info? f.type).isSome)then return .build zc (<- Zh4 P fs parts.toList)else none|.array _ e=>do return .build zc (<- Zf3 (<- Z6 P e) parts.toList)|_=>none
 |.buildSlice t n parts=>do
  match <- P.underlying t with
  |.slice e=>do
   let s <- Z6 P e
   if n*s>2 ^ 24 then none else
   let z <- zeroOf P e;let zc <- z.cells
   return .bslice e s n zc (<- Zf4 parts.toList)
  |_=>none
 |.load t x=>do return .load (<- Zco P t) (<- opd x)|.store t a x=>do return .store (<- Z6 P t) (<- opd a) (<- opd x)|.nilCheck x=>do return .nilchk (<- opd x)|.binOp op t x y _=>do
  let a <- opd x;let b <- opd y
  match op with
  |.eql|.neq =>
   match <- P.underlying t with
   |.int _|.string=>return .bin op a b|.bool=>return .beq (op == .neq) a b|.slice _=>Yjz (op == .neq) a b|.interface _=>Yj0 (op == .neq) a b|.pointer _=>Yj1 (op == .neq) a b|.func _ _ _=>fnOp (op == .neq) a b|.struct _|.array _ _=>do
    if P.eqGuardType P.depth t then none else
    return .eqagg (op == .neq) (<- Z6 P t) (<- Qu P 100 t 0) a b
   |_=>none
  |_=>return .bin op a b
 |.unOp op _ x=>do return .un op (<- opd x)|.convert s d x=>do
  let y <- opd x
  match <- P.underlying s,<- P.underlying d with
  |.int _,.int k=>return .conv k y|.string,.string=>return .convs y|.string,.slice e=>do match <- P.underlying e with|.int .u8=>return .sbytes y|_=>none
  |.slice e,.string=>do match <- P.underlying e with|.int .u8=>return .bstr y|_=>none
  |_,_=>none
 |.makeSlice t l c=>do
  match <- P.underlying t with
  |.slice e=>do
   let z <- zeroOf P e
   return .mksl e (<- Z6 P e) (<- Zir P e) (<- z.cells) (<- opd l) (<- opd c)
  |_=>none
 |.slice t x lo hi mx=>do
  match <- P.underlying t with
  |.slice e=>do return .slice (<- Z6 P e) (<- opd x) (<- optO lo) (<- optO hi) (<- optO mx)|.string=>match mx with
   |none=>do return .sstr (<- opd x) (<- optO lo) (<- optO hi)|some _=>none
  |_=>none
 |.fieldAddr t x f=>do
  match <- P.underlying t with
  |.struct fs=>do
   let f <- fs[f]?
   if (<- Z6 P f.type)=0 then none else return .fld f.offset (<- opd x)
  |_=>none
 |.field t x f=>do
  match <- P.underlying t with
  |.struct fs=>do
   let f <- fs[f]?
   return .field f.offset (<- Zco P f.type) (<- opd x)
  |_=>none
 |.indexAddr t x i=>do
  match <- P.underlying t with|.slice e=>do return .ixa (<- Z6 P e) (<- opd x) (<- opd i)|.array n e=>do return .ixarr n (<- Z6 P e) (<- opd x) (<- opd i)|_=>none
 |.index t x i=>do
  match <- P.underlying t with|.array n e=>do return .ixv n (<- Z6 P e) (<- Zco P e) (<- opd x) (<- opd i)|.string=>do return .ixs (<- opd x) (<- opd i)|_=>none
 |.extract x i=>do return .extract i (<- opd x)|.makeFunc (.func f) first caps=>do
  if first.size=0 then return .mkfn f (<- caps.toList.mapM opd)else if caps.size=0 then return .mkfb f (<- first.toList.mapM opd)else none
 |.call c =>
  match c.callee with
  |.builtin .len =>
   match c.argTypes.toList,c.args.toList with
   |[t],[x]=>do
    match <- P.underlying t with|.slice _=>return .len (<- opd x)|.string=>return .lens (<- opd x)|.array n _=>return .mv (.c (.p (.int .i64 n)))|_=>none
   |_,_=>none
  |.builtin .append =>
   match c.argTypes.toList,c.args.toList with
   |[t,t'],[s,x]=>do
    if t≠t' then(match P.underlying t',P.underlying t with
     |some (.int _),some (.slice e)=>do
      let z <- zeroOf P e
      return .appz e (<- Z6 P e) (<- Zir P e) (<- z.cells) (<- opd s) (<- opd x)
     |_,_=>none)else
    match <- P.underlying t with
    |.slice e=>do
     let z <- zeroOf P e;let zc <- z.cells;let n <- Z6 P e
     if zc.length≠n then none else
     return .append e n (<- Zir P e) (<- opd s) (<- opd x)
    |_=>none
   |_,_=>none
  |.builtin .cap =>
   match c.argTypes.toList,c.args.toList with
   |[t],[x]=>do
    match <- P.underlying t with|.slice _=>return .capn (<- opd x)|_=>none
   |_,_=>none
  |.builtin .copy =>
   match c.argTypes.toList,c.args.toList with
   |[t,t'],[d,s]=>do
    match <- P.underlying t,<- P.underlying t' with|.slice e,.slice _=>do return .copy (<- Z6 P e) (<- opd d) (<- opd s)|_,_=>none
   |_,_=>none
  |.builtin .max=>match c.args.toList with | [x,y]=>do return .mm true (<- opd x) (<- opd y)|_=>none
  |.builtin .min=>match c.args.toList with | [x,y]=>do return .mm false (<- opd x) (<- opd y)|_=>none
  |_=>none
 |_=>none
inductive SOp where
 |op (o:AOp)|call (f:FuncId) (args:List AOpd)|callv (x:AOpd) (args:List AOpd)
 deriving Inhabited
def Zbq(P:Program)(o:Oper):Option SOp :=
 match o.op with
 |.call c =>
  match c.callee with
  |.value (.func f)=>if callable P f then(c.args.toList.mapM opd).map (.call f)else none|.value x=>match opd x,c.args.toList.mapM opd with|some y,some ys=>some (.callv y ys)|_,_=>none
  |_=>none
 |_=>none
def Zn6(P:Program)(o:Oper):Option SOp := match Zbq P o with|some s=>some s|none=>some (.op ((Zo P o).getD .bad))
end Go.Abs
