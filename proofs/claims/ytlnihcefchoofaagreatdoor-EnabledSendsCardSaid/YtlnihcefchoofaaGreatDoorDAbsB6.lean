import Derived.Test.YtlnihcefchoofaaGreatDoorDAbsB5
import Derived.Test.YtlnihcefchoofaaGreatDoorDAbsClone
import Derived.Test.YtlnihcefchoofaaGreatDoorDAbsVM2
set_option linter.all false
namespace Go.Abs
def tabL:List (Nat×TCon)->Tab|[],_=>none|(g,c)::rest,f=>if g=f then some c else tabL rest f
variable [GTab] [Glob]
def Ygl(P:Program):List (Nat×TCon)->Prop|[]=>True|(g,c)::rest=>c.ok P g/\callable P g=true/\Ygl P rest
theorem Ygm{P:Program}:∀{l:List (Nat×TCon)},Ygl P l->(tabL l).ok P
 |[],_,f,c,h=>by cases h|(g,d)::rest,hl,f,c,h=>by
  simp only[tabL]at h;split at h;rename_i e;obtain rfl:=J0a h;subst e;exact hl.1;exact Ygm hl.2.2 f c h
theorem Ygn{P:Program}:∀{l:List (Nat×TCon)},Ygl P l -> ∀f c,tabL l f=some c->callable P f=true
 |[],_,f,c,h=>by cases h|(g,d)::rest,hl,f,c,h=>by
  simp only[tabL]at h;split at h;rename_i e;subst e;exact hl.2.1;exact Ygn hl.2.2 f c h
def afOf(P:Program)(f:FuncId):AFun:=(Z0 P f).getD default
def fuel:Nat:=1152921504606846976
abbrev JT(f:TFun):=(i:Nat)->denL (Zez (Zdu f.cuts i) [])->Option (Xj f.res)
end Go.Abs
namespace Go.Abs
variable [GTab] [Glob]
def Zj{α:Type}(bytes:Nat)(l:List α):Option (List α×Unit):=bif Ze l.length bytes then some (l,())else none
def Zbu(e size bytes:Nat)(ts:List CT):TCon:=⟨[.c (.sl ts)],[.c (.s e size ts)],λa=>Zj (α:=denL ts) bytes a.1⟩
theorem Qk{P:Program}{f:FuncId}{e size bytes:Nat}{zero:List AV}{ts:List CT}(hf:Z0 P f=some (Zp6 e size bytes zero))(hz:zero.length=size)(h0:0<size)(ht:ts.length=size):(Zbu e size bytes ts).ok P f:=λa r h=>by have h:Zj (α:=denL ts) bytes a.1=some r:=h;unfold Zj at h;obtain⟨h1,h2⟩:=Qo h;obtain rfl:=J0a h2;have hb:=Zg8 h1;exact Zv0 (es:=List.map (pvL ts) (show List (denL ts) from a.1)) hf hz h0 (Ybw ht _) (by grind) (by grind)
end Go.Abs
namespace Go.Abs
variable [GTab] [Glob]
end Go.Abs
namespace Go.Abs
variable [GTab] [Glob]
def RCT.posB:RCT->Bool|.p _=>true|.s _ size _=>decide (0<size)|.ifc=>true
def RT.posB:RT->Bool|.c x=>x.posB|.a xs=>xs.all RCT.posB
theorem RCT.pos{x:RCT}(h:x.posB=true)(v:x.den):(x.rc v).pos:=by
 cases x with|p t=>trivial|ifc=>trivial|s e size ts=>have h:0<size:=of_decide_eq_true h;exact h
theorem Ygo:∀{xs:List RCT} (h:xs.all RCT.posB=true) (e:Zha xs),∀y∈rcL xs e,y.pos
 |[],_,_,y,hy=>by cases hy|x::xs,h,e,y,hy=>by
  simp only[List.all_cons,J0e]at h;simp only[rcL,List.mem_cons]at hy;rcases hy with rfl|hy
  exact RCT.pos h.1 e.1;exact Ygo h.2 e.2 y hy
theorem Z46:∀{xs:List RT} (h:xs.all RT.posB=true) (e:Xj xs),∀y∈raL xs e,y.pos
 |[],_,_,y,hy=>by cases hy|.c x::xs,h,e,y,hy=>by
  simp only[List.all_cons,J0e]at h;simp only[raL,List.mem_cons]at hy;rcases hy with rfl|hy
  exact RCT.pos (x:=x) h.1 e.1;exact Z46 h.2 e.2 y hy
 |.a zs::xs,h,e,y,hy=>by
  simp only[List.all_cons,J0e]at h;simp only[raL,List.mem_cons]at hy;rcases hy with rfl|hy
  exact Ygo (xs:=zs) h.1 e.1;exact Z46 h.2 e.2 y hy
variable {P:Program}{f:FuncId}
theorem TCon.frz{c:TCon}(hc:c.ok P f)(hp:c.res.all RT.posB=true):∀a r,c.fn a=some r->Spec P f (pasL c.args a) ((raL c.res r).map RA.frz):=λa r h=>(hc a r h).frz (Z46 hp r)
mutual
def CT.wf:(t:CT)->t.den->Prop|.bool,_=>True|.int k,n=>(Lit.int k n).wf=true|.str,s=>List.length s<=maxLen|.sl ts,xs=>List.length xs<=maxLen /\ ∀e∈(show List (denL ts) from xs),wfL ts e
def wfL:(ts:List CT)->denL ts->Prop|[],_=>True|t::ts,e=>t.wf e.1/\wfL ts e.2
end
def AT.wf:(a:AT)->a.den->Prop|.q ts,e=>wfL ts e|.c t,v=>t.wf v|.a ts,e=>wfL ts e
def wfAs:(as:List AT)->Zg9 as->Prop|[],_=>True|a::as,e=>a.wf e.1/\wfAs as e.2
theorem Zw3{α β:Type}{f:α->β}{p:α->Prop}:∀(l:List β),(∀y∈l,∃x,y=f x/\p x) -> ∃xs:List α,l=xs.map f /\ ∀x∈xs,p x|[],_=>⟨[],rfl,λx hx=>by cases hx⟩|y::l,h=>by obtain⟨x,rfl,hx⟩:=h y (by simp);obtain⟨xs,rfl,hxs⟩:=Zw3 l λz hz=>h z (by simp[hz]);exact⟨x::xs,rfl,λz hz=>by grind⟩
mutual
theorem POK.den:∀{t:CT} {x:PV},POK t x -> ∃v:t.den,x=t.pv v/\t.wf v|_,_,.bool b=>⟨b,rfl,trivial⟩|_,_,.int k n h=>⟨n,rfl,h⟩|_,_,.str s h=>⟨s,rfl,h⟩|_,_,.sl cts es hl he=>by have each:∀y∈es,∃x:denL cts,y=pvL cts x/\wfL cts x:=λy hy=>POKs.den (he y hy);obtain⟨xs,h1,h2⟩:=Zw3 es each;subst h1;exact⟨xs,rfl,by grind,h2⟩
theorem POKs.den:∀{ts:List CT} {xs:List PV},POKs ts xs -> ∃v:denL ts,xs=pvL ts v/\wfL ts v|_,_,.nil=>⟨(),rfl,trivial⟩|_,_,.cons c cs x xs h hs=>by obtain⟨v,rfl,h1⟩:=POK.den h;obtain⟨vs,rfl,h2⟩:=POKs.den hs;exact⟨(v,vs),rfl,h1,h2⟩
end
theorem POKAs.den:∀{as:List AT} {xs:List PA},POKAs as xs -> ∃v:Zg9 as,xs=pasL as v/\wfAs as v
 |_,_,.nil=>⟨(),rfl,trivial⟩|_,_,.cons a as x xs h hs=>by
  obtain⟨vs,rfl,h2⟩:=POKAs.den hs;cases h with|c t y h=>obtain⟨v,rfl,h1⟩:=POK.den h;exact⟨(v,vs),rfl,h1,h2⟩|a ts ys h=>obtain⟨v,rfl,h1⟩:=POKs.den h;exact⟨(v,vs),rfl,h1,h2⟩
theorem Yvk{as:List AT}{fn:Zg9 as->Option (Xj [.c (.p .bool)])}(hc:(TCon.mk as [.c (.p .bool)] fn).ok P f)(h:∀a,wfAs as a->fn a=some (true,())) :
    ∀pas,POKAs as pas->Spec P f pas [.c (.c (.bool true))]:=λpas hp=>by
  obtain⟨a,rfl,hw⟩:=hp.den;exact hc a _ (h a hw)
end Go.Abs
