/- The abstract machine and its soundness, part B6. -/
import Derived.Test.YtfnhchmemplhaaaGreatBAbsB5
import Derived.Test.YtfnhchmemplhaaaGreatBAbsClone
set_option linter.constructorNameAsVariable false
set_option linter.unusedVariables false
set_option linter.unusedSectionVars false
namespace Go.Abs

def tabL:List (Nat×TCon)→Tab
 | [],_=>none
 | (g,c)::rest,f=>if g=f then some c else tabL rest f
variable [Glob]
def Z6t (P:Program):List (Nat×TCon)→Prop
 | []=>True
 | (g,c)::rest=>c.ok P g∧callable P g=true∧Z6t P rest
theorem Z6u {P:Program}:∀ {l:List (Nat×TCon)},Z6t P l→(tabL l).ok P
 | [],_,f,c,h=>by cases h
 | (g,d)::rest,hl,f,c,h=>by
  simp only [tabL] at h
  split at h
  · rename_i e
    obtain rfl:=Option.some.inj h
    subst e
    exact hl.1
  · exact Z6u hl.2.2 f c h
theorem Z6v {P:Program}:∀ {l:List (Nat×TCon)},Z6t P l → ∀ f c,tabL l f=some c→callable P f=true
 | [],_,f,c,h=>by cases h
 | (g,d)::rest,hl,f,c,h=>by
  simp only [tabL] at h
  split at h
  · rename_i e
    subst e
    exact hl.2.1
  · exact Z6v hl.2.2 f c h
def afOf (P:Program)(f:FuncId):AFun:=(Xh P f).getD default
def fuel:Nat:=1152921504606846976
abbrev JT (f:TFun):=(i:Nat)→denL (Zed (Zdi f.cuts i) [])→Option (Yw f.res)
end Go.Abs

namespace Go.Abs
variable [Glob]

def Zz {α:Type}(bytes:Nat)(l:List α):Option (List α×Unit):=bif Zg l.length bytes then some (l,()) else none
end Go.Abs

set_option linter.unusedSimpArgs false
namespace Go.Abs
variable [Glob]

def RC.frz:RC→RC
 | .c v=>.c v
 | .s _ _ es=>.c (.sl es)
 | .e b=>.e b
def RA.frz:RA→RA
 | .c x=>.c x.frz
 | .a xs=>.a (xs.map RC.frz)

theorem Yai {h:List AObj}{x:RC}{T:Nat}(hs:match x with | .s _ size _=>0<size | _=>True)(hh:∀ (i:Nat) (o:AObj),(Yk x)[i]? = some o→h[T+i]? = some o):rcOf h [] false (Zbm T x)=some x.frz:=by
 cases x with
 | c v=>rfl
 | e b=>rfl
 | s e size es =>
  have h0:=hh 0 ⟨1,e,size,es.map (·.map .p)⟩ rfl
  have hs:0<size:=hs
  have:getRow h T 1=some ⟨1,e,size,es.map (·.map .p)⟩:=by
   unfold getRow
   rw [show h[T]? = some ⟨1,e,size,es.map (·.map .p)⟩ from h0]
   simp;omega
  have h6:Go.Abs.frz h [] 6 (.row T 1)=some (.sl es):=by
   show (if ([]:List Nat).contains T then none else match getRow h T 1 with | some o=>(match frzE (Go.Abs.frz h [] 5) o.elems with | some es=>some (PV.sl es) | none=>none) | none=>none)=_
   rw [this]
   simp [Zng (g:=Go.Abs.frz h [] 5) (fun x=>rfl)]
  simp only [Zbm,rcOf,Bool.false_eq_true,if_false,h6,RC.frz]

def RC.pos:RC→Prop
 | .s _ size _=>0<size
 | _=>True
def RA.pos:RA→Prop
 | .c x=>x.pos
 | .a xs=>∀ x∈xs,x.pos

theorem Z6w {h:List AObj}:∀ {xs:List RC} {T:Nat},(∀ x∈xs,x.pos)→(∀ (i:Nat) (o:AObj),(Y9 xs)[i]? = some o→h[T+i]? = some o)→Zmf h [] false (Qq T xs)=some (xs.map RC.frz)
 | [],_,_,_=>rfl
 | x::xs,T,hp,hh=>by
  have h1:=Yai (h:=h) (x:=x) (T:=T) (by have:=hp x (by simp);cases x <;> exact this) (fun i o ho=>hh i o (by
   simp only [Y9]
   rw [List.getElem?_append_left (List.getElem?_eq_some_iff.1 ho).1]
   exact ho))
  have h2:=Z6w (h:=h) (xs:=xs) (T:=T+(Yk x).length) (fun y hy=>hp y (by simp [hy])) (fun i o ho=>by
   rw [Nat.add_assoc]
   exact hh _ o (by
    simp only [Y9]
    rw [List.getElem?_append_right (by omega),Nat.add_sub_cancel_left]
    exact ho))
  simp only [Qq,Zmf,h1,h2,List.map_cons]
theorem Z1w {T:Nat}{x:RC}:∀ cs,Zbm T x ≠ .agg cs:=by
 intro cs e
 cases x <;> cases e
theorem Yh3 {h:List AObj}{x:RA}{T:Nat}(hp:x.pos)(hh:∀ (i:Nat) (o:AObj),(Zeb x)[i]? = some o→h[T+i]? = some o):raOf h [] false (Zet T x)=some x.frz:=by
 cases x with
 | c x =>
  refine Xx Z1w (Yai (by cases x <;> exact hp) hh)
 | a xs =>
  simp only [Zet,raOf,Z6w hp hh]
  rfl
theorem Z6x {h:List AObj}:∀ {xs:List RA} {T:Nat},(∀ x∈xs,x.pos)→(∀ (i:Nat) (o:AObj),(Za xs)[i]? = some o→h[T+i]? = some o)→Zff h [] false (Zf T xs)=some (xs.map RA.frz)
 | [],_,_,_=>rfl
 | x::xs,T,hp,hh=>by
  have h1:=Yh3 (h:=h) (x:=x) (T:=T) (hp x (by simp)) (fun i o ho=>hh i o (by
   simp only [Za]
   rw [List.getElem?_append_left (List.getElem?_eq_some_iff.1 ho).1]
   exact ho))
  have h2:=Z6x (h:=h) (xs:=xs) (T:=T+(Zeb x).length) (fun y hy=>hp y (by simp [hy])) (fun i o ho=>by
   rw [Nat.add_assoc]
   exact hh _ o (by
    simp only [Za]
    rw [List.getElem?_append_right (by omega),Nat.add_sub_cancel_left]
    exact ho))
  simp only [Zf,Zff,h1,h2,List.map_cons]

theorem Spec.frz {P:Program}{f:FuncId}{pas:List PA}{rs:List RA}(hp:∀ x∈rs,x.pos)(h:Spec P f pas rs):Spec P f pas (rs.map RA.frz):=fun O w cargs hO hgl ha =>
 (h O w cargs hO hgl ha).mono fun e w' ⟨v,ι,he,hι,hh,hv⟩=>by
  have hx:Zsk (Za rs) false (Zf 0 rs)=some (rs.map RA.frz):=by
   simp only [Zsk,Bool.false_eq_true,if_false]
   exact Z6x hp (fun i o ho=>by simpa using ho)
  have hvs:∃ vs:List Value,retC vs=v∧vs.length=(Zf 0 rs).length ∧ ∀ (i:Nat) (x:AV) (u:Value),(Zf 0 rs)[i]? = some x→vs[i]? = some u→VR (Za rs) ι w' x u:=by
   generalize Zf 0 rs=xs at hv
   have tup:xs.length≠1→VR (Za rs) ι w' (.tuple xs) v → ∃ vs:List Value,retC vs=v∧vs.length=xs.length ∧ ∀ (i:Nat) (x:AV) (u:Value),xs[i]? = some x→vs[i]? = some u→VR (Za rs) ι w' x u:=fun hl hv=>by
    cases hv with
    | tuple _ vs hl2 hr =>
     refine⟨vs.toList,?_,by simp [hl2],fun i x u hx hu=>hr i x u hx (by simpa using hu)⟩
     unfold retC
     split
     · rename_i a ha
       have:=congrArg List.length ha
       simp at this
       omega
     · simp
   match xs,hv,tup with
   | [],hv,tup=>exact tup (by simp) hv
   | [x],hv,_=>exact⟨[v],rfl,rfl,fun i y u hy hu=>by
       cases i with
       | zero=>simp at hy hu;subst hy;subst hu;exact hv
       | succ i=>simp at hy⟩
   | x::y::xs,hv,tup=>exact tup (by simp) hv
  obtain⟨vs,rfl,hl,hr⟩:=hvs
  obtain⟨κ,q1,q2,q3⟩:=Z50 hh hx hl hr
  exact⟨_,κ,he,q1.trans hι,q2,q3⟩
end Go.Abs
namespace Go.Abs
variable [Glob]
def RCT.posB:RCT→Bool
 | .p _=>true
 | .s _ size _=>decide (0<size)
 | .ifc=>true
def RT.posB:RT→Bool
 | .c x=>x.posB
 | .a xs=>xs.all RCT.posB
theorem RCT.pos {x:RCT}(h:x.posB=true)(v:x.den):(x.rc v).pos:=by
 cases x with
 | p t=>trivial
 | ifc=>trivial
 | s e size ts =>
  have h:0<size:=of_decide_eq_true h
  exact h
theorem Z6y:∀ {xs:List RCT} (h:xs.all RCT.posB=true) (e:Zf8 xs),∀ y∈rcL xs e,y.pos
 | [],_,_,y,hy=>by cases hy
 | x::xs,h,e,y,hy=>by
  simp only [List.all_cons,Bool.and_eq_true] at h
  simp only [rcL,List.mem_cons] at hy
  rcases hy with rfl | hy
  · exact RCT.pos h.1 e.1
  · exact Z6y h.2 e.2 y hy
theorem Zzk:∀ {xs:List RT} (h:xs.all RT.posB=true) (e:Yw xs),∀ y∈raL xs e,y.pos
 | [],_,_,y,hy=>by cases hy
 | .c x::xs,h,e,y,hy=>by
  simp only [List.all_cons,Bool.and_eq_true] at h
  simp only [raL,List.mem_cons] at hy
  rcases hy with rfl | hy
  · exact RCT.pos (x:=x) h.1 e.1
  · exact Zzk h.2 e.2 y hy
 | .a zs::xs,h,e,y,hy=>by
  simp only [List.all_cons,Bool.and_eq_true] at h
  simp only [raL,List.mem_cons] at hy
  rcases hy with rfl | hy
  · exact Z6y (xs:=zs) h.1 e.1
  · exact Zzk h.2 e.2 y hy
theorem TCon.frz {P:Program}{f:FuncId}{c:TCon}(hc:c.ok P f)(hp:c.res.all RT.posB=true):∀ a r,c.fn a=some r→Spec P f (pasL c.args a) ((raL c.res r).map RA.frz) :=
 fun a r h=>(hc a r h).frz (Zzk hp r)

mutual
def CT.wf:(t:CT)→t.den→Prop
 | .bool,_=>True
 | .int k,n=>(Lit.int k n).wf=true
 | .str,s=>List.length s≤maxLen
 | .sl ts,xs=>List.length xs≤maxLen ∧ ∀ e∈(show List (denL ts) from xs),wfL ts e
def wfL:(ts:List CT)→denL ts→Prop
 | [],_=>True
 | t::ts,e=>t.wf e.1∧wfL ts e.2
end
def AT.wf:(a:AT)→a.den→Prop
 | .q ts,e=>wfL ts e
 | .c t,v=>t.wf v
 | .a ts,e=>wfL ts e
def wfAs:(as:List AT)→Zeu as→Prop
 | [],_=>True
 | a::as,e=>a.wf e.1∧wfAs as e.2

theorem Zth {α β:Type}{f:α→β}{p:α→Prop}:∀ (l:List β),(∀ y∈l,∃ x,y=f x∧p x) → ∃ xs:List α,l=xs.map f ∧ ∀ x∈xs,p x
 | [],_=>⟨[],rfl,fun x hx=>by cases hx⟩
 | y::l,h=>by
  obtain⟨x,rfl,hx⟩:=h y (by simp)
  obtain⟨xs,rfl,hxs⟩:=Zth l fun z hz=>h z (by simp [hz])
  exact⟨x::xs,rfl,fun z hz=>by
   rcases List.mem_cons.1 hz with rfl | hz
   · exact hx
   · exact hxs z hz⟩

mutual
theorem POK.den:∀ {t:CT} {x:PV},POK t x → ∃ v:t.den,x=t.pv v∧t.wf v
 | _,_,.bool b=>⟨b,rfl,trivial⟩
 | _,_,.int k n h=>⟨n,rfl,h⟩
 | _,_,.str s h=>⟨s,rfl,h⟩
 | _,_,.sl cts es hl he=>by
  have each:∀ y∈es,∃ x:denL cts,y=pvL cts x∧wfL cts x:=fun y hy=>POKs.den (he y hy)
  obtain⟨xs,h1,h2⟩:=Zth es each
  subst h1
  exact⟨xs,rfl,by rw [List.length_map] at hl;exact hl,h2⟩
theorem POKs.den:∀ {ts:List CT} {xs:List PV},POKs ts xs → ∃ v:denL ts,xs=pvL ts v∧wfL ts v
 | _,_,.nil=>⟨(),rfl,trivial⟩
 | _,_,.cons c cs x xs h hs=>by
  obtain⟨v,rfl,h1⟩:=POK.den h
  obtain⟨vs,rfl,h2⟩:=POKs.den hs
  exact⟨(v,vs),rfl,h1,h2⟩
end
theorem POKAs.den:∀ {as:List AT} {xs:List PA},POKAs as xs → ∃ v:Zeu as,xs=pasL as v∧wfAs as v
 | _,_,.nil=>⟨(),rfl,trivial⟩
 | _,_,.cons a as x xs h hs=>by
  obtain⟨vs,rfl,h2⟩:=POKAs.den hs
  cases h with
  | c t y h =>
   obtain⟨v,rfl,h1⟩:=POK.den h
   exact⟨(v,vs),rfl,h1,h2⟩
  | a ts ys h =>
   obtain⟨v,rfl,h1⟩:=POKs.den h
   exact⟨(v,vs),rfl,h1,h2⟩
theorem Yh4 {P:Program}{f:FuncId}{as:List AT}{fn:Zeu as→Option (Yw [.c (.p .bool)])}(hc:(TCon.mk as [.c (.p .bool)] fn).ok P f)(h:∀ a,wfAs as a→fn a=some (true,())) :
    ∀ pas,POKAs as pas→Spec P f pas [.c (.c (.bool true))]:=fun pas hp=>by
  obtain⟨a,rfl,hw⟩:=hp.den
  exact hc a _ (h a hw)
end Go.Abs
