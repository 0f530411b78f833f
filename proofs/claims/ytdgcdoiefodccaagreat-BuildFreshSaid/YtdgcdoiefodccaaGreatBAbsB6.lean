/- The abstract machine and its soundness, part B6. -/
import Derived.Test.YtdgcdoiefodccaaGreatBAbsB5
import Derived.Test.YtdgcdoiefodccaaGreatBAbsClone
set_option linter.constructorNameAsVariable false
set_option linter.unusedVariables false
set_option linter.unusedSectionVars false
namespace Go.Abs

def tabL:List (Nat×TCon)→Tab
 | [],_=>none
 | (g,c)::rest,f=>if g=f then some c else tabL rest f
variable [Glob]
def Yby (P:Program):List (Nat×TCon)→Prop
 | []=>True
 | (g,c)::rest=>c.ok P g∧callable P g=true∧Yby P rest
theorem Ybz {P:Program}:∀ {l:List (Nat×TCon)},Yby P l→(tabL l).ok P
 | [],_,f,c,h=>by cases h
 | (g,d)::rest,hl,f,c,h=>by
  simp only [tabL] at h
  split at h
  · rename_i e
    obtain rfl:=Option.some.inj h
    subst e
    exact hl.1
  · exact Ybz hl.2.2 f c h
theorem Yb0 {P:Program}:∀ {l:List (Nat×TCon)},Yby P l → ∀ f c,tabL l f=some c→callable P f=true
 | [],_,f,c,h=>by cases h
 | (g,d)::rest,hl,f,c,h=>by
  simp only [tabL] at h
  split at h
  · rename_i e
    subst e
    exact hl.2.1
  · exact Yb0 hl.2.2 f c h
def afOf (P:Program)(f:FuncId):AFun:=(Yr P f).getD default
def fuel:Nat:=1152921504606846976
abbrev JT (f:TFun):=(i:Nat)→denL (Zd5 (Zdc f.cuts i) [])→Option (Xq f.res)
end Go.Abs

namespace Go.Abs
variable [Glob]

def Zj {α:Type}(bytes:Nat)(l:List α):Option (List α×Unit):=bif Zb l.length bytes then some (l,()) else none
def Zql (e size bytes:Nat)(ts:List CT):TCon:=⟨[.c (.sl ts)],[.c (.s e size ts)],fun a=>Zj (α:=denL ts) bytes a.1⟩
theorem Zln {P:Program}{f:FuncId}{e size bytes:Nat}{zero:List AV}{ts:List CT}(hf:Yr P f=some (Ztz e size bytes zero))(hz:zero.length=size)(h0:0<size)(ht:ts.length=size):(Zql e size bytes ts).ok P f:=fun a r h=>by
 have h:Zj (α:=denL ts) bytes a.1=some r:=h
 unfold Zj at h
 obtain⟨h1,h2⟩:=Xl h
 obtain rfl:=Option.some.inj h2
 have hb:=Zhm h1
 exact Z8b (es:=List.map (pvL ts) (show List (denL ts) from a.1)) hf hz h0 (Z8f ht _) (by grind) (by grind)
end Go.Abs

set_option linter.unusedSimpArgs false
namespace Go.Abs
variable [Glob]

def RC.frz:RC→RC
 | .c v=>.c v
 | .s _ _ es=>.c (.sl es)
 | .e b=>.e b
def RA.frz:RA→RA
 | .c x=>.c x.frz
 | .a xs=>.a (xs.map RC.frz)

theorem Ygm {h:List AObj}{x:RC}{T:Nat}(hs:match x with | .s _ size _=>0<size | _=>True)(hh:∀ (i:Nat) (o:AObj),(Y8 x)[i]? = some o→h[T+i]? = some o):rcOf h [] false (Zb6 T x)=some x.frz:=by
 cases x with
 | c v=>rfl
 | e b=>rfl
 | s e size es =>
  have h0:=hh 0 ⟨1,e,size,es.map (·.map .p)⟩ rfl
  have hs:0<size:=hs
  have:Zh h T 1=some ⟨1,e,size,es.map (·.map .p)⟩:=by
   unfold Zh
   grind
  have h6:Go.Abs.frz h [] 6 (.row T 1)=some (.sl es):=by
   show (if ([]:List Nat).contains T then none else match Zh h T 1 with | some o=>(match frzE (Go.Abs.frz h [] 5) o.elems with | some es=>some (PV.sl es) | none=>none) | none=>none)=_
   rw [this]
   simp [Zpb (g:=Go.Abs.frz h [] 5) (fun x=>rfl)]
  simp only [Zb6,rcOf,Bool.false_eq_true,if_false,h6,RC.frz]

def RC.pos:RC→Prop
 | .s _ size _=>0<size
 | _=>True
def RA.pos:RA→Prop
 | .c x=>x.pos
 | .a xs=>∀ x∈xs,x.pos

theorem Yb1 {h:List AObj}:∀ {xs:List RC} {T:Nat},(∀ x∈xs,x.pos)→(∀ (i:Nat) (o:AObj),(Xu xs)[i]? = some o→h[T+i]? = some o)→Zn6 h [] false (Zah T xs)=some (xs.map RC.frz)
 | [],_,_,_=>rfl
 | x::xs,T,hp,hh=>by
  have h1:=Ygm (h:=h) (x:=x) (T:=T) (by have:=hp x (by simp);cases x <;> exact this) (fun i o ho=>hh i o (by
   simp only [Xu]
   grind))
  have h2:=Yb1 (h:=h) (xs:=xs) (T:=T+(Y8 x).length) (fun y hy=>hp y (by simp [hy])) (fun i o ho=>by
   rw [Nat.add_assoc]
   exact hh _ o (by
    simp only [Xu]
    grind))
  simp only [Zah,Zn6,h1,h2,List.map_cons]
theorem Z5w {T:Nat}{x:RC}:∀ cs,Zb6 T x ≠ .agg cs:=by
 intro cs e
 cases x <;> cases e
theorem Ypc {h:List AObj}{x:RA}{T:Nat}(hp:x.pos)(hh:∀ (i:Nat) (o:AObj),(Zfq x)[i]? = some o→h[T+i]? = some o):raOf h [] false (Zfr T x)=some x.frz:=by
 cases x with
 | c x =>
  refine Qe Z5w (Ygm (by cases x <;> exact hp) hh)
 | a xs =>
  simp only [Zfr,raOf,Yb1 hp hh]
  rfl
theorem Yb2 {h:List AObj}:∀ {xs:List RA} {T:Nat},(∀ x∈xs,x.pos)→(∀ (i:Nat) (o:AObj),(Za xs)[i]? = some o→h[T+i]? = some o)→Zec h [] false (Zg T xs)=some (xs.map RA.frz)
 | [],_,_,_=>rfl
 | x::xs,T,hp,hh=>by
  have h1:=Ypc (h:=h) (x:=x) (T:=T) (hp x (by simp)) (fun i o ho=>hh i o (by
   simp only [Za]
   grind))
  have h2:=Yb2 (h:=h) (xs:=xs) (T:=T+(Zfq x).length) (fun y hy=>hp y (by simp [hy])) (fun i o ho=>by
   rw [Nat.add_assoc]
   exact hh _ o (by
    simp only [Za]
    grind))
  simp only [Zg,Zec,h1,h2,List.map_cons]

theorem Spec.frz {P:Program}{f:FuncId}{pas:List PA}{rs:List RA}(hp:∀ x∈rs,x.pos)(h:Spec P f pas rs):Spec P f pas (rs.map RA.frz):=fun O w cargs hO hgl ha =>
 (h O w cargs hO hgl ha).mono fun e w' ⟨v,ι,he,hι,hh,hv⟩=>by
  have hx:Zp3 (Za rs) false (Zg 0 rs)=some (rs.map RA.frz):=by
   simp only [Zp3,Bool.false_eq_true,if_false]
   exact Yb2 hp (fun i o ho=>by grind)
  have hvs:∃ vs:List Value,retC vs=v∧vs.length=(Zg 0 rs).length ∧ ∀ (i:Nat) (x:AV) (u:Value),(Zg 0 rs)[i]? = some x→vs[i]? = some u→VR (Za rs) ι w' x u:=by
   generalize Zg 0 rs=xs at hv
   have tup:xs.length≠1→VR (Za rs) ι w' (.tuple xs) v → ∃ vs:List Value,retC vs=v∧vs.length=xs.length ∧ ∀ (i:Nat) (x:AV) (u:Value),xs[i]? = some x→vs[i]? = some u→VR (Za rs) ι w' x u:=fun hl hv=>by
    cases hv with
    | tuple _ vs hl2 hr =>
     refine⟨vs.toList,?_,by grind,fun i x u hx hu=>hr i x u hx (by grind)⟩
     unfold retC
     split
     · rename_i a ha
       have:=congrArg List.length ha
       grind
     · simp
   match xs,hv,tup with
   | [],hv,tup=>exact tup (by simp) hv
   | [x],hv,_=>exact⟨[v],rfl,rfl,fun i y u hy hu=>by
       cases i with
       | zero=>simp at hy hu;subst hy;subst hu;exact hv
       | succ i=>grind⟩
   | x::y::xs,hv,tup=>exact tup (by simp) hv
  obtain⟨vs,rfl,hl,hr⟩:=hvs
  obtain⟨κ,q1,q2,q3⟩:=Z1v hh hx hl hr
  grind
end Go.Abs
namespace Go.Abs
variable [Glob]
def RCT.posB:RCT→Bool
 | .p _=>true
 | .s _ size _=>decide (0<size)
 | .ifc=>true
def RT.posB:RT→Bool
 | .c x=>x.posB
 | .a xs=>xs.all RCT.posB
theorem RCT.pos {x:RCT}(h:x.posB=true)(v:x.den):(x.rc v).pos:=by
 cases x with
 | p t=>trivial
 | ifc=>trivial
 | s e size ts =>
  have h:0<size:=of_decide_eq_true h
  exact h
theorem Yb3:∀ {xs:List RCT} (h:xs.all RCT.posB=true) (e:Zho xs),∀ y∈rcL xs e,y.pos
 | [],_,_,y,hy=>by cases hy
 | x::xs,h,e,y,hy=>by
  simp only [List.all_cons,Bool.and_eq_true] at h
  simp only [rcL,List.mem_cons] at hy
  rcases hy with rfl | hy
  · exact RCT.pos h.1 e.1
  · exact Yb3 h.2 e.2 y hy
theorem Z2n:∀ {xs:List RT} (h:xs.all RT.posB=true) (e:Xq xs),∀ y∈raL xs e,y.pos
 | [],_,_,y,hy=>by cases hy
 | .c x::xs,h,e,y,hy=>by
  simp only [List.all_cons,Bool.and_eq_true] at h
  simp only [raL,List.mem_cons] at hy
  rcases hy with rfl | hy
  · exact RCT.pos (x:=x) h.1 e.1
  · exact Z2n h.2 e.2 y hy
 | .a zs::xs,h,e,y,hy=>by
  simp only [List.all_cons,Bool.and_eq_true] at h
  simp only [raL,List.mem_cons] at hy
  rcases hy with rfl | hy
  · exact Yb3 (xs:=zs) h.1 e.1
  · exact Z2n h.2 e.2 y hy
theorem TCon.frz {P:Program}{f:FuncId}{c:TCon}(hc:c.ok P f)(hp:c.res.all RT.posB=true):∀ a r,c.fn a=some r→Spec P f (pasL c.args a) ((raL c.res r).map RA.frz) :=
 fun a r h=>(hc a r h).frz (Z2n hp r)

mutual
def CT.wf:(t:CT)→t.den→Prop
 | .bool,_=>True
 | .int k,n=>(Lit.int k n).wf=true
 | .str,s=>List.length s≤maxLen
 | .sl ts,xs=>List.length xs≤maxLen ∧ ∀ e∈(show List (denL ts) from xs),wfL ts e
def wfL:(ts:List CT)→denL ts→Prop
 | [],_=>True
 | t::ts,e=>t.wf e.1∧wfL ts e.2
end
def AT.wf:(a:AT)→a.den→Prop
 | .q ts,e=>wfL ts e
 | .c t,v=>t.wf v
 | .a ts,e=>wfL ts e
def wfAs:(as:List AT)→Zhn as→Prop
 | [],_=>True
 | a::as,e=>a.wf e.1∧wfAs as e.2

theorem Zvj {α β:Type}{f:α→β}{p:α→Prop}:∀ (l:List β),(∀ y∈l,∃ x,y=f x∧p x) → ∃ xs:List α,l=xs.map f ∧ ∀ x∈xs,p x
 | [],_=>⟨[],rfl,fun x hx=>by cases hx⟩
 | y::l,h=>by
  obtain⟨x,rfl,hx⟩:=h y (by simp)
  obtain⟨xs,rfl,hxs⟩:=Zvj l fun z hz=>h z (by simp [hz])
  exact⟨x::xs,rfl,fun z hz=>by
   grind⟩

mutual
theorem POK.den:∀ {t:CT} {x:PV},POK t x → ∃ v:t.den,x=t.pv v∧t.wf v
 | _,_,.bool b=>⟨b,rfl,trivial⟩
 | _,_,.int k n h=>⟨n,rfl,h⟩
 | _,_,.str s h=>⟨s,rfl,h⟩
 | _,_,.sl cts es hl he=>by
  have each:∀ y∈es,∃ x:denL cts,y=pvL cts x∧wfL cts x:=fun y hy=>POKs.den (he y hy)
  obtain⟨xs,h1,h2⟩:=Zvj es each
  subst h1
  exact⟨xs,rfl,by grind,h2⟩
theorem POKs.den:∀ {ts:List CT} {xs:List PV},POKs ts xs → ∃ v:denL ts,xs=pvL ts v∧wfL ts v
 | _,_,.nil=>⟨(),rfl,trivial⟩
 | _,_,.cons c cs x xs h hs=>by
  obtain⟨v,rfl,h1⟩:=POK.den h
  obtain⟨vs,rfl,h2⟩:=POKs.den hs
  exact⟨(v,vs),rfl,h1,h2⟩
end
theorem POKAs.den:∀ {as:List AT} {xs:List PA},POKAs as xs → ∃ v:Zhn as,xs=pasL as v∧wfAs as v
 | _,_,.nil=>⟨(),rfl,trivial⟩
 | _,_,.cons a as x xs h hs=>by
  obtain⟨vs,rfl,h2⟩:=POKAs.den hs
  cases h with
  | c t y h =>
   obtain⟨v,rfl,h1⟩:=POK.den h
   exact⟨(v,vs),rfl,h1,h2⟩
  | a ts ys h =>
   obtain⟨v,rfl,h1⟩:=POKs.den h
   exact⟨(v,vs),rfl,h1,h2⟩
theorem Ypd {P:Program}{f:FuncId}{as:List AT}{fn:Zhn as→Option (Xq [.c (.p .bool)])}(hc:(TCon.mk as [.c (.p .bool)] fn).ok P f)(h:∀ a,wfAs as a→fn a=some (true,())) :
    ∀ pas,POKAs as pas→Spec P f pas [.c (.c (.bool true))]:=fun pas hp=>by
  obtain⟨a,rfl,hw⟩:=hp.den
  exact hc a _ (h a hw)
end Go.Abs
