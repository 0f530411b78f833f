import Derived.Test.YtlnihcefchoofaaGreatDoorDAbsLaw
set_option linter.all false
namespace Go.Abs
open Go.ChangeShapes Go.WideShapes Go.ChangeAt Go.RowKit
variable [GTab] [Glob]
inductive CT where
 |bool|int (k:IntKind)|str|sl (cts:List CT)
 deriving Inhabited
mutual
inductive POK:CT->PV->Prop where|bool (b:Bool):POK .bool (.bool b)|int (k:IntKind) (n:Int) (h:(Lit.int k n).wf=true):POK (.int k) (.int k n)|str (s:List UInt8) (h:s.length<=maxLen):POK .str (.str s)|sl (cts:List CT) (es:List (List PV)) (hl:es.length<=maxLen) (he:∀e,e∈es->POKs cts e):POK (.sl cts) (.sl es)
inductive POKs:List CT->List PV->Prop where|nil:POKs [] []|cons (c:CT) (cs:List CT) (x:PV) (xs:List PV) (h:POK c x) (hs:POKs cs xs):POKs (c::cs) (x::xs)
end
theorem POKs.length:∀{cts:List CT} {pvs:List PV},POKs cts pvs->pvs.length=cts.length|[],_,.nil=>rfl|_::cs,_::xs,.cons _ _ _ _ _ hs=>by simp[POKs.length hs]
theorem POKs.append:∀{a b:List CT} {x y:List PV},POKs a x->POKs b y->POKs (a++b) (x++y)|[],_,_,_,.nil,hb=>hb|_::cs,_,_::xs,_,.cons _ _ _ _ h hs,hb=>.cons _ _ _ _ h (POKs.append hs hb)
def Zqd(P:Program)(rec:TypeId->Option (List CT))(off:Nat):List Field->Option (List CT)|[]=>some []|f::fs => match rec f.type with|some l=>if f.offset=off/\l.length=P.cellsOf f.type then(match Zqd P rec (off+l.length) fs with|some r=>some (l++r)|none=>none)else none|none=>none
def repT(l:List CT):Nat->List CT|0=>[]|n+1=>l++repT l n
def Zfa(P:Program):Nat->TypeId->Option (List CT)
 |0,_=>none|d+1,t =>
  match P.underlying t with
  |some .bool=>some [.bool]|some (.int k)=>some [.int k]|some .string=>some [.str]|some (.slice e)=>match Zfa P d e with
   |some (c::cs)=>if (c::cs).length=P.cellsOf e then some [.sl (c::cs)]else none|_=>none
  |some (.struct fs)=>match Zqd P (Zfa P d) 0 fs.toList with
   |some l=>if l.length=P.cellsOf t then some l else none|none=>none
  |some (.array n e)=>match Zfa P d e with
   |some l=>if l.length=P.cellsOf e/\(repT l n).length=P.cellsOf t then some (repT l n)else none|none=>none
  |_=>none
def noO:Nat->Prop:=λ_=>False
def PRs(w:World)(pvs:List PV)(cs:List Value):Prop:=pvs.length=cs.length /\ ∀(i:Nat) (y:PV) (v:Value),pvs[i]? = some y->cs[i]? = some v->PRel w noO y v
theorem PRs.one{w:World}{y:PV}{v:Value}(h:PRel w noO y v):PRs w [y] [v]:=⟨rfl,λi y' v' h1 h2=>by grind⟩
theorem PRs.app{w:World}{a b:List PV}{x y:List Value}(h:PRs w a x)(k:PRs w b y):PRs w (a++b) (x++y):=by
 refine⟨by simp[h.1,k.1],λi p v hp hv=>?_⟩;by_cases hi:i<a.length;rw[List.getElem?_append_left hi]at hp;rw[List.getElem?_append_left (by rw[<- h.1];exact hi)]at hv;exact h.2 i p v hp hv;rw[J0o (by omega)]at hp;rw[J0o (by rw[<- h.1];omega),<- h.1]at hv;exact k.2 _ p v hp hv
theorem Ztk{α:Type}{p:Nat->α->Prop}:∀(n:Nat),(∀i,i<n -> ∃x,p i x) -> ∃l:List α,l.length=n /\ ∀(i:Nat) (x:α),l[i]? = some x->p i x|0,_=>⟨[],rfl,λi x h=>by simp at h⟩|n+1,h=>by obtain⟨l,h1,h2⟩:=Ztk n λi hi=>h i (by omega);obtain⟨x,hx⟩:=h n (by omega);refine⟨l++[x],by simp[h1],λi y hy=>?_⟩;grind
section
variable {H:Type} {enc:TypeId×Value->H} {P:Program} {w:World} {base:Nat} {sp:Nat->Bool} {held:Bool}
theorem Zwh{fuel d:Nat}(ih:∀(d:Nat) (t:TypeId) (cs:List Value) (x:DataW H×List MemPlace) (cts:List CT),DataW.trod enc P w base sp held fuel t cs=some x->Zfa P d t=some cts -> ∃pvs,POKs cts pvs/\PRs w pvs cs) :
    ∀(fs:List Field) (off:Nat) (cts:List CT) (cs:List Value),Zqd P (Zfa P d) off fs=some cts->(∀f∈fs,∃y,DataW.trod enc P w base sp held fuel f.type ((cs.drop f.offset).take (P.cellsOf f.type))=some y)->cs.length=off+cts.length ->
     ∃pvs,POKs cts pvs/\PRs w pvs (cs.drop off)
  |[],off,cts,cs,hf,hm,hl=>by simp only[Zqd,J0b]at hf;subst hf;refine⟨[],.nil,by grind,λi y v hy=>by grind⟩|f::fs,off,cts,cs,hf,hm,hl=>by
   simp only[Zqd]at hf;split at hf;rename_i l hlt;split at hf;rename_i hc;obtain⟨ho,hlc⟩:=hc;split at hf;rename_i r hr;obtain rfl:=J0a hf;obtain⟨y,hy⟩:=hm f (by simp);rw[J0s]at hl;obtain⟨p1,h1,h2⟩:=ih d f.type _ y l hy hlt;obtain⟨p2,h3,h4⟩:=Zwh ih fs (off+l.length) r cs hr (λg hg=>hm g (by simp[hg])) (by omega);refine⟨p1++p2,h1.append h3,?_⟩;have e:cs.drop off=((cs.drop f.offset).take (P.cellsOf f.type))++cs.drop (off+l.length):=by grind[List.drop_drop,List.take_append_drop]
   rw[e];exact h2.app h4;grind;grind;grind
theorem Yfx{fuel d:Nat}{e:TypeId}{l:List CT}(ih:∀(d:Nat) (t:TypeId) (cs:List Value) (x:DataW H×List MemPlace) (cts:List CT),DataW.trod enc P w base sp held fuel t cs=some x->Zfa P d t=some cts -> ∃pvs,POKs cts pvs/\PRs w pvs cs)(hl:Zfa P d e=some l)(hlc:l.length=P.cellsOf e) :
    ∀(n:Nat) (cs:List Value),cs.length=n*l.length->(∀i,i<n -> ∃x,DataW.trod enc P w base sp held fuel e ((cs.drop (i*P.cellsOf e)).take (P.cellsOf e))=some x) -> ∃pvs,POKs (repT l n) pvs/\PRs w pvs cs
  |0,cs,hc,_=>⟨[],.nil,by grind,λi y v hy=>by grind⟩|n+1,cs,hc,hx=>by
   obtain⟨x,h0⟩:=hx 0 (by omega);simp only[Nat.zero_mul,List.drop_zero]at h0;obtain⟨p1,h1,h2⟩:=ih d e _ x l h0 hl;rw[Nat.add_mul,Nat.one_mul]at hc;obtain⟨p2,h3,h4⟩:=Yfx ih hl hlc n (cs.drop (P.cellsOf e)) (by grind) λi hi=>by grind[List.drop_drop]
   refine⟨p1++p2,h1.append h3,?_⟩;have e:cs=cs.take (P.cellsOf e)++cs.drop (P.cellsOf e):=(List.take_append_drop _ _).symm;rw[e];exact h2.app h4
theorem Z71:∀(fuel d:Nat) (t:TypeId) (cs:List Value) (x:DataW H×List MemPlace) (cts:List CT),DataW.trod enc P w base sp held fuel t cs=some x->Zfa P d t=some cts -> ∃pvs,POKs cts pvs/\PRs w pvs cs:=by
 intro fuel
 induction fuel with
 |zero=>intro d t cs x cts h;simp[DataW.trod]at h|succ fuel ih =>
  intro d t cs x cts h hc;cases d with
  |zero=>simp[Zfa]at hc|succ d =>
   simp only[Zfa]at hc;split at hc;rename_i hu;obtain rfl:=J0a hc;obtain⟨b,rfl,_⟩:=DataW.trod_bool hu h;exact⟨[.bool b],.cons _ _ _ _ (.bool b) .nil,.one (.bool b)⟩;rename_i k hu;obtain rfl:=J0a hc;obtain⟨n,rfl,_,hwf⟩:=DataW.trod_int hu h;exact⟨[.int k n],.cons _ _ _ _ (.int k n hwf) .nil,.one (.int k n)⟩;rename_i hu;obtain rfl:=J0a hc;obtain⟨s,rfl,_,hsz⟩:=DataW.trod_string hu h;have hd:s.data.toList.length=s.size:=Array.length_toList;exact⟨[.str s.data.toList],.cons _ _ _ _ (.str _ (by grind)) .nil,.one (PRel.str (w:=w) (O:=noO) s.data.toList)⟩;rename_i e hu;split at hc;rename_i c cc hce;split at hc;rename_i hlen;obtain rfl:=J0a hc;rcases DataW.trod_slice hu h with⟨rfl,_⟩|⟨a,len,cap,elems,rest,n,hn,rfl,_,hb,hlc,hcm,hel,hget0,_⟩
   exact⟨[.sl []],.cons _ _ _ _ (.sl _ [] (Nat.zero_le _) (λe he=>by cases he)) .nil,.one (.nil _ _)⟩;obtain rfl:fuel=n:=by omega
   have each:∀i,i<len -> ∃pvs,POKs (c::cc) pvs /\ ∀(j:Nat) (y:PV),pvs[j]? = some y -> ∃v,w.cell? (a.add (i*(c::cc).length+j))=some v/\PRel w noO y v:=by
    intro i hi;have hy:=hget0 i hi;rw[J0c (by omega),J0n]at hy;obtain⟨cells,hcells,htr⟩:=hy;obtain⟨_,hcl,hcg⟩:=World.cells?_some hcells;obtain⟨pvs,g1,g2⟩:=ih d e cells _ _ htr hce;refine⟨pvs,g1,λj q hq=>?_⟩;have hj:j<cells.length:=by rw[<- g2.1];grind
    refine⟨cells[j],?_,g2.2 j q _ hq (J0c hj)⟩;grind[Zf2]
   obtain⟨es,hes,hget⟩:=Ztk len each;by_cases h0:len=0;subst h0;exact⟨[.sl []],.cons _ _ _ _ (.sl _ [] (Nat.zero_le _) (λe he=>by cases he)) .nil,.one (.nil _ _)⟩;refine⟨[.sl es],.cons _ _ _ _ (.sl _ es (by omega) (λe' he=>?_)) .nil,.one ?_⟩;obtain⟨i,hi,rfl⟩:=List.mem_iff_getElem.1 he;exact(hget i _ (J0c hi)).1;have hlt:a.block<w.heap.size:=by have h00:=hget 0 (es[0]'(by omega)) (J0c (by omega));have hl0:=h00.1.length;obtain⟨v,hv,_⟩:=h00.2 0 _ (J0c (by grind));have:=World.block_lt_of_cell? w _ hv;grind[Zc]
   refine .sl es a len cap (c::cc).length (λi j=>(w.cell? (a.add (i*(c::cc).length+j))).getD undef) (λh=>h) hlt hes.symm hlc (λi e' he=>(hget i e' he).1.length) (λi e' he j y hy=>?_) (λi e' he j y hy=>?_);grind;grind;grind;grind;rename_i fs hu;split at hc;rename_i l hl;split at hc;rename_i hlen;obtain rfl:=J0a hc;obtain⟨xs,n,hn,_,hcl,hxl,hget⟩:=DataW.trod_struct hu h;obtain rfl:fuel=n:=by omega
   have:=Zwh ih fs.toList 0 l cs hl (λf hf=>by
    obtain⟨i,hi,rfl⟩:=List.mem_iff_getElem.1 hf;have hi' : i<fs.size:=by grind
    have:=hget i fs[i] (Array.getElem?_eq_getElem hi');grind) (by omega)
   grind;grind;grind;rename_i n e hu;split at hc;rename_i l hl;split at hc;rename_i hlen;obtain rfl:=J0a hc;obtain⟨xs,m,hn,_,hcl,hxl,hget⟩:=DataW.trod_array hu h;obtain rfl:fuel=m:=by omega
   have hrep:∀n,(repT l n).length=n*l.length:=by
    intro n
    induction n with|zero=>simp[repT]|succ n ih=>grind[repT]
   refine Yfx ih hl hlen.1 n cs (by grind) λi hi=>?_;grind;grind;grind;grind
end
inductive AT where
 |c (x:CT)|a (cts:List CT)|q (cts:List CT)
 deriving Inhabited
inductive POKA:AT->PA->Prop where|c (x:CT) (y:PV) (h:POK x y):POKA (.c x) (.c y)|a (cts:List CT) (ys:List PV) (h:POKs cts ys):POKA (.a cts) (.a ys)
inductive POKAs:List AT->List PA->Prop where|nil:POKAs [] []|cons (a:AT) (as:List AT) (x:PA) (xs:List PA) (h:POKA a x) (hs:POKAs as xs):POKAs (a::as) (x::xs)
def argT(P:Program)(d:Nat)(t:TypeId):Option AT := match P.underlying t,Zfa P d t with|some (.struct _),some l=>some (.a l)|some (.array _ _),some l=>some (.a l)|some _,some [x]=>some (.c x)|_,_=>none
def Z72(P:Program)(d:Nat):List TypeId->Option (List AT)|[]=>some []|t::ts=>match argT P d t,Z72 P d ts with|some a,some r=>some (a::r)|_,_=>none
theorem Yrf{H:Type}{enc:TypeId×Value->H}{P:Program}{w:World}{base b0:Nat}{sp:Nat->Bool}{held:Bool}{d:Nat}{t:TypeId}{at_:AT}(ha:argT P d t=some at_){v:Value}(hval:Value.okWide P w .any b0 t v){x:DataW H}{ps:List MemPlace}(h:DataW.Trod enc P w base sp held t v x ps) :
    ∃pa,POKA at_ pa/\PARel w noO pa v:=by
  obtain⟨fuel,hf⟩:=h;unfold argT at ha;unfold Value.okWide at hval;have agg:∀(l:List CT),Zfa P d t=some l->(∃cs,v = .agg cs/\cs.size=P.cellsOf t/\Row.okWide P w .any b0 t cs) -> ∃pa,POKA (.a l) pa/\PARel w noO pa v:=by rintro l hl ⟨cs,rfl,_,_⟩;obtain⟨pvs,h1,h2⟩:=Z71 fuel d t _ _ l hf hl;refine⟨.a pvs,.a _ _ h1,.a _ _ (by have:=h2.1;grind[Value.cells]) λi y u hy hu=>h2.2 i y u hy (by grind[Value.cells])⟩
  split at ha;grind;grind
  . rename_i ty y hns hna hu hl;obtain rfl:=J0a ha;obtain⟨pvs,h1,h2⟩:=Z71 fuel d t _ _ _ hf hl;cases h1 with
    |cons _ _ p _ hp hn =>
     cases hn;refine⟨.c p,.c _ _ hp,.c _ _ ?_⟩;have hcell:v.cells.toList=[v]:=by
      cases v<;>try rfl
      case agg cs =>
       exfalso;rw[hu]at hval;revert hval;cases ty<;>first|(intro hval;simp[Cell.okWide,Cell.ok,hu]at hval;done)|skip
       grind;grind
     rw[hcell]at h2;exact h2.2 0 p v rfl rfl
  grind
theorem Z73{H:Type}{enc:TypeId×Value->H}{P:Program}{w:World}{base b0:Nat}{sp:Nat->Bool}{held:Bool}{d:Nat}:∀{ts:List TypeId} {as:List AT} {vs:List Value} {ds:List (DataW H)} {ps:List MemPlace},Z72 P d ts=some as->(∀(j:Nat) (t:TypeId) (v:Value),ts[j]? = some t->vs[j]? = some v->Value.okWide P w .any b0 t v) ->
    DataW.TrodAll enc P w base sp held ts vs ds ps -> ∃pas,POKAs as pas/\pas.length=vs.length /\ ∀(i:Nat) (x:PA) (v:Value),pas[i]? = some x->vs[i]? = some v->PARel w noO x v
  |[],as,vs,ds,ps,ha,hval,h=>by simp only[Z72,J0b]at ha;subst ha;obtain⟨rfl,rfl,rfl⟩:=trodAll_nil h;exact⟨[],.nil,rfl,λi x v hx=>by grind⟩|t::ts,as,vs,ds,ps,ha,hval,h=>by
   simp only[Z72]at ha;split at ha;rename_i a r h1 h2;obtain rfl:=J0a ha;obtain⟨v,vs',x,ds',p,q,rfl,rfl,rfl,hx,hr⟩:=trodAll_cons h;obtain⟨pa,g1,g2⟩:=Yrf h1 (hval 0 t v rfl rfl) hx;obtain⟨pas,g3,g4,g5⟩:=Z73 h2 (λj t v hj hv=>hval (j+1) t v (by grind) (by grind)) hr;refine⟨pa::pas,.cons _ _ _ _ g1 g3,by simp[g4],λi y u hy hu=>?_⟩;grind;grind
theorem Ztl{H:Type}{enc:TypeId×Value->H}{P:Program}{w:World}{base:Nat}{sp:Nat->Bool}{held:Bool}:∀{ts:List TypeId} {vs:List Value} {ds:List (DataW H)} {ps:List MemPlace},DataW.TrodAll enc P w base sp held ts vs ds ps->ds.length=ts.length|[],vs,ds,ps,h=>by obtain⟨rfl,rfl,rfl⟩:=trodAll_nil h;rfl|t::ts,vs,ds,ps,h=>by obtain⟨v,vs',x,ds',p,q,rfl,rfl,rfl,hx,hr⟩:=trodAll_cons h;simp[Ztl hr]
theorem Zoc{H:Type}{enc:TypeId×Value->H}{P:Program}{W W' : World}(hl:laidOutB P=true)(hb:Below W.heap.size W W'){sp:Nat->Bool}:∀{ts:List TypeId} {vs:List Value} {ds:List (DataW H)} {ps:List MemPlace},(ts.all λt=>P.readableRec t&&decide (t<P.types.size))=true ->
    DataW.TrodAll enc P W 0 (λ_=>true) true ts vs ds ps->(∀p∈ps,p.block<W.heap.size)->(∀p∈ps,sp p.block=true)->DataW.TrodAll enc P W' 0 sp true ts vs ds ps
  |[],vs,ds,ps,_,h,_,_=>by obtain⟨rfl,rfl,rfl⟩:=trodAll_nil h;rfl|t::ts,vs,ds,ps,ht,h,hlt,hsp=>by
   obtain⟨v,vs',x,ds',p,q,rfl,rfl,rfl,hx,hr⟩:=trodAll_cons h;simp only[List.all_cons,J0e,J0h]at ht;obtain⟨⟨h1,h2⟩,h3⟩:=ht;exact⟨p,q,WideElems.Trod_stays hl h1 h2 hx (λy hy=>hb.same (hlt y (by simp[hy]))) (λy hy=>hsp y (by simp[hy])),
    Zoc hl hb h3 hr (λy hy=>hlt y (by simp[hy])) (λy hy=>hsp y (by simp[hy])),rfl⟩
end Go.Abs
