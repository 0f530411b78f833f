import Derived.Test.YtdppkfgoiagepaaGreatDoorBAbsB6
import Derived.Test.YtdppkfgoiagepaaGreatDoorBAL
/- Shapes' short names. -/
namespace Tg
open Go.Abs
abbrev di:CT:=.int .i64
abbrev db:CT:=.bool
abbrev qi:List Sh:=[.c (.p (.int .i64))]
abbrev qb:List Sh:=[.c (.p (.bool))]
abbrev qn (n:Nat):List Sh:=List.replicate n (.c .any)
abbrev qc (l:List (List Sh)):List Sh:=l.flatten
end Tg

/- A function of the code told by what the machine makes of it. -/
set_option linter.unusedVariables false
set_option linter.unusedSimpArgs false
namespace Tg
open Go Go.Abs
noncomputable section
def hid {α:Type}(a:α):α:=Classical.choose (⟨a,rfl⟩:∃ x,x=a)
theorem Zl2 {α:Type}(a:α):hid a=a:=Classical.choose_spec (⟨a,rfl⟩:∃ x,x=a)
def fuel:Nat:=hid Go.Abs.fuel
theorem Zan:∃ n,fuel=n+1000000000000:=⟨1152920504606846976,Zl2 _⟩
abbrev Tb:=List (Nat×TCon)
def itr (tab:Tb)(P:Program)(g:FuncId)(f:TFun)(n:Nat):JT f:=hid (iter (tabL tab) P f (afOf P g)) n
theorem Zzp (tab:Tb)(P:Program)(g:FuncId)(f:TFun):itr tab P g f=iter (tabL tab) P f (afOf P g):=Zl2 _
def run9 (tab:Tb)(P:Program)(g:FuncId)(f:TFun)(a:Zeo f.args):Option (Y2 f.res):=seg0 (tabL tab) P f (afOf P g) (itr tab P g f fuel) a
def mkC (tab:Tb)(P:Program)(g:FuncId)(f:TFun):TCon:=⟨f.args,f.res,hid (run9 tab P g f)⟩
def TOK (P:Program):Tb→Prop
 | []=>True
 | (g,c)::rest=>c.ok P g∧TOK P rest
def chk9 (tab:Tb)(P:Program)(g:FuncId)(f:TFun):Bool:=(Z0 P g).isSome&&(nodupB ((posC (codeF P f (afOf P g)) []).map (·.1))&&tab.all fun x=>callable P x.1)
theorem tok9 {P:Program}:∀ {l:Tb},TOK P l→(l.all fun x=>callable P x.1)=true→Z1q P l
 | [],_,_=>trivial
 | (g,c)::rest,h,hc=>by
  simp only [List.all_cons,Bool.and_eq_true] at hc
  exact⟨h.1,hc.1,tok9 h.2 hc.2⟩
theorem mkO {tab:Tb}{P:Program}{g:FuncId}{f:TFun}(ht:TOK P tab)(hc:chk9 tab P g f=true):(mkC tab P g f).ok P g:=fun a r h=>by
 simp only [chk9,Bool.and_eq_true] at hc
 have t:=tok9 ht hc.2.2
 have e:Z0 P g=some (afOf P g):=by
  cases h:Z0 P g with
  | none=>rw [h] at hc;exact absurd hc.1 (by simp)
  | some x=>simp [afOf,h]
 have h:seg0 (tabL tab) P f (afOf P g) (itr tab P g f fuel) a=some r:=(congrFun (Zl2 (run9 tab P g f)) a).symm.trans h
 rw [Zzp] at h
 exact Z5g (f:=f) (Z1r t) (Z1s t) hc.2.1 e fuel (a:=a) h
theorem mkE {tab:Tb}{P:Program}{g:FuncId}{f:TFun}{a:Zeo f.args}{t:Option (Y2 f.res)}(h:run9 tab P g f a=t):(mkC tab P g f).fn a=t:=(congrFun (Zl2 (run9 tab P g f)) a).trans h
theorem mkI {tab:Tb}{P:Program}{g:FuncId}{f:TFun}{n i:Nat}{x:denL (Zbl (Za3 f.cuts i) [])}{t:Option (Y2 f.res)}(h:seg (tabL tab) P f (afOf P g) (itr tab P g f n) i x=t):itr tab P g f (n+1) i x=t:=by
 rw [Zzp] at h ⊢
 exact h
def ix {α β:Type}(l:List α)(x:Int)(k:α→Option β):Option β:=bif decide ((0:Int)≤x) then match l[x.toNat]? with | none=>none | some e=>k e else none
theorem ix_s {α β:Type}{l:List α}{i:Nat}{k:α→Option β}{e:α}(h:l[i]? = some e):ix l (i:Int) k=k e:=by
 simp [ix,h]
end
end Tg

/- What the plain laws share: loops, numbers, places in lists. -/
namespace Tg
open Go.Abs (Ze Zt tmm)
theorem Ze6 {n b:Nat}(hn:n≤1000000)(hb:b≤1000):Ze n b=true:=by
 have:n * b≤1000000 * 1000:=Nat.mul_le_mul hn hb
 simp only [Ze,Bool.and_eq_true,decide_eq_true_eq]
 exact⟨by show n * b≤140737488355328;omega,by show n≤9223372036854775807;omega⟩
theorem w64 {x:Int}(h1 : -9223372036854775808≤x)(h2:x≤9223372036854775807):Go.IntKind.wrap .i64 x=x:=Go.IntWalk.i64_in _ (by omega)
theorem dT {p:Prop}[Decidable p](h:p):decide p=true:=decide_eq_true h
theorem dF {p:Prop}[Decidable p](h:¬ p):decide p=false:=decide_eq_false h
theorem tmax (a b:Int):tmm true a b=max a b:=by
 unfold tmm
 simp only [if_true]
 split <;> omega
theorem tmin (a b:Int):tmm false a b=min a b:=by
 unfold tmm
 simp only [Bool.false_eq_true,if_false]
 split <;> omega
theorem Zbz:4000000000≤fuel:=by
 rw [fuel,Zl2]
 decide
theorem wS {i:Nat}(h:i<1000000000000):Go.IntKind.wrap .i64 ((i:Int)+1)=((i+1:Nat):Int):=by
 rw [w64 (by omega) (by omega)];omega
theorem ltL {α:Type}{l:List α}{i:Nat}{e:α}(h:l[i]? = some e):decide ((i:Int)<Int.ofNat l.length)=true:=by
 have:=(List.getElem?_eq_some_iff.1 h).1
 exact decide_eq_true (by simpa using this)
theorem geL {α:Type}{l:List α}:decide ((l.length:Int)<Int.ofNat l.length)=false:=decide_eq_false (by simp)
theorem lenI {α:Type}(l:List α):Int.ofNat l.length=(l.length:Int):=rfl
def runL {α β σ:Type}(step:σ→α→Sum σ (Option β))(fin:σ→Option β):List α→σ→Option β
 | [],s=>fin s
 | e::l,s=>match step s e with
  | .inl s' => runL step fin l s'
  | .inr b=>b
theorem Z9p {α β σ:Type}{f:Nat→σ→Int→Option β}{l:List α}{step:σ→α→Sum σ (Option β)}{fin:σ→Option β}{N:Nat}(P:Nat→σ→Prop)
    (hs:∀ n s (i:Nat) e,l[i]? = some e→P i s→(f (n+1) s (i:Int)=match step s e with | .inl s' => f n s' ((i+1:Nat):Int) | .inr b=>b) ∧ ∀ s',step s e = .inl s' → P (i+1) s')
    (he:∀ n s,N≤n→P l.length s→f (n+1) s (l.length:Int)=fin s) :
    ∀ (r:List α) (i n:Nat) s,l.drop i=r→i≤l.length→P i s→N+r.length+1≤n→f n s (i:Int)=runL step fin r s
  | [],i,n,s,h,hi,hp,hn=>by
   obtain⟨m,rfl⟩:∃ m,n=m+1:=⟨n - 1,by omega⟩
   have:i=l.length:=by
    have:=congrArg List.length h
    simp at this
    omega
   subst this
   rw [runL]
   exact he m s (by simp at hn;omega) hp
  | e::r,i,n,s,h,hi,hp,hn=>by
   obtain⟨m,rfl⟩:∃ m,n=m+1:=⟨n - 1,by omega⟩
   have h1:l[i]? = some e:=by
    have:=congrArg (·[0]?) h
    simpa [List.getElem?_drop] using this
   have hlt:=(List.getElem?_eq_some_iff.1 h1).1
   have h2:l.drop (i+1)=r:=by
    have:=congrArg (List.drop 1) h
    simpa [List.drop_drop] using this
   obtain⟨h3,h4⟩:=hs m s i e h1 hp
   rw [h3,runL]
   cases hst:step s e with
   | inl s' => exact Z9p P hs he r (i+1) m s' h2 (by omega) (h4 _ hst) (by simp at hn;omega)
   | inr b=>rfl
theorem Z1v {α β:Type}{f:Nat→Int→Option β}{l:List α}{p:α→Bool}{bad fin:Option β}{N:Nat}
    (hs:∀ n (i:Nat) e,l[i]? = some e→f (n+1) (i:Int)=bif p e then f n ((i+1:Nat):Int) else bad)
    (he:∀ n,N≤n→f (n+1) (l.length:Int)=fin) (n:Nat) (hn:N+l.length+1≤n):f n 0=bif l.all p then fin else bad:=by
  have:=Z9p (f:=fun n (_:Unit) i=>f n i) (l:=l) (step:=fun _ e=>bif p e then .inl () else .inr bad) (fin:=fun _=>fin) (N:=N) (fun _ _=>True)
   (fun n s i e h _=>⟨by rw [hs n i e h];cases p e <;> rfl,fun _ _=>trivial⟩) (fun n s h _=>he n h) l 0 n () rfl (by omega) trivial (by omega)
  refine this.trans ?_
  clear this hs he hn
  induction l with
  | nil=>rfl
  | cons e l ih =>
   rw [runL,List.all_cons]
   cases p e with
   | true=>simpa using ih
   | false=>rfl
theorem iL {i n:Nat}(h:i<n):decide ((i:Int)<(n:Int))=true:=by simpa using h
theorem iG {i n:Nat}(h:¬ i<n):decide ((i:Int)<(n:Int))=false:=by simpa using h
theorem iN (i:Nat):decide ((0:Int)≤(i:Int))=true:=by simp
theorem Qs {α:Type}{s rest:List α}{i:Nat}{b:α}(h:s.drop i=b::rest):i<s.length∧s[i]? = some b∧s.drop (i+1)=rest:=by
 have hl:i<s.length:=by
  rcases Nat.lt_or_ge i s.length with h' | h'
  · exact h'
  · rw [List.drop_eq_nil_of_le h'] at h;cases h
 rw [List.drop_eq_getElem_cons hl] at h
 obtain⟨h1,h2⟩:=List.cons.inj h
 exact⟨hl,by rw [List.getElem?_eq_getElem hl,h1],h2⟩
theorem Za4 {α:Type}{s:List α}{i:Nat}(h:s.drop i=[])(hi:i≤s.length):i=s.length:=by
 have:=congrArg List.length h
 rw [List.length_drop] at this
 simp at this
 omega
end Tg

/- Graphs in plain words. -/
namespace Tg
abbrev Op:=Int×Int×Unit
abbrev Cn:=Int×Int×Int×Int×Int×Unit
abbrev Gr:=List Op×List Cn×Unit
def inc (p c:Cn):Bool:=decide (p.1<c.1)||(decide (p.1=c.1)&&decide (p.2.1<c.2.1))
def apart (d c:Cn):Bool:=inc d c && !(decide (d.2.2.1=c.2.2.1)&&decide (d.2.2.2.1=c.2.2.2.1))
def cnt (b:Bool)(j:Int)(chs:List Cn):Nat:=(chs.filter fun c=>decide (cond b c.2.2.1 c.1=j)).length
def Ya2 (chs:List Cn)(c:Cn):Bool:=(decide (0≤c.2.1)&&decide (c.2.1<(cnt false c.1 chs:Int)))&&(decide (0≤c.2.2.2.1)&&decide (c.2.2.2.1<(cnt true c.2.2.1 chs:Int)))
def bnd (k:Int):Int×Int×Int×Int:=if k=1 then (0,0,1,1) else if k=2 then (1,1,1,2) else if k=3 then (1,1,1,3) else if k=4 then (1,4,1,1) else if k=5 then (2,2,1,1) else if k=6 then (1,3,0,0) else (1,4,0,0)
def Ycg (k:Int)(i o:Int):Bool:=(decide (1≤k)&&decide (k≤7))&&((decide ((bnd k).1≤i)&&decide (i≤(bnd k).2.1))&&(decide ((bnd k).2.2.1≤o)&&decide (o≤(bnd k).2.2.2)))
def rlx (f:Int)(R:List Bool)(c:Cn):List Bool:=bif c.1==f||(R[c.1.toNat]?).getD false then R.set c.2.2.1.toNat true else R
def rnd (f:Int)(chs:List Cn)(R:List Bool):List Bool:=chs.foldl (rlx f) R
def rnds (f:Int)(chs:List Cn):Nat→List Bool→List Bool
 | 0,R=>R
 | k+1,R=>rnds f chs k (rnd f chs R)
def v2 (chs:List Cn):List Cn→List Cn→Bool
 | _,[]=>true
 | p,c::l=>p.all (fun d=>apart d c)&&(Ya2 chs c&&v2 chs (p++[c]) l)
def v3 (n:Nat)(chs:List Cn):Nat→List Op→Bool
 | _,[]=>true
 | i,o::l=>(decide (0≤o.2.1)&&decide (o.2.1≤3))&&(Ycg o.1 (cnt true i chs) (cnt false i chs)&&(!((rnds i chs (n+1) (List.replicate n false))[i]?).getD false&&v3 n chs (i+1) l))
end Tg

/- Messages, queues, stores and tasks: which are right, in plain words. -/
namespace Tg
abbrev Rec3:=Int×Int×Int×Unit
abbrev Row5:=Int×Int×Int×Int×Int×Unit
abbrev Msg:=Int×Int×Int×Int×Int×Row5
abbrev Evt:=Bool×Int×Int×Int×Int×Unit
abbrev Acc:=Int×Int×Int×Int×Unit
abbrev Ent:=Int×Int×Int×Int×Int×Int×Int×Acc
abbrev Snd:=Int×Msg
abbrev Tsk:=Int×Int×Int×List Snd×List (Int×Unit)×List Ent×List Evt×List Row5×List Rec3×Unit
abbrev Que:=Int×List Msg×Unit
def Zpr (t:Int):Bool:=decide (-1099511627776≤t)&&decide (t≤1099511627776)
def Z1w (t:Int):Bool:=Zpr t||t==9223372036854775807
def evtB (e:Evt):Bool:=bif e.1 then Z1w e.2.1&&(e.2.2.1==0&&(e.2.2.2.1==0&&e.2.2.2.2.1==0)) else e.2.1==0&&Zpr e.2.2.2.1
end Tg

/- Machines as plain lists. -/
namespace Tg
open Go
abbrev Nd5:=Int×Int×Int×Int×Int×Unit
abbrev Mch:=Int×List Nd5×List (Int×Unit)×Bool×List Nd5×Int×Int×Int×Bool×Int×List Op×List Cn×List Tsk×List Que×Unit
def mT (m:Mch):List Tsk:=m.2.2.2.2.2.2.2.2.2.2.2.2.1
def mU (m:Mch):List Que:=m.2.2.2.2.2.2.2.2.2.2.2.2.2.1
structure TLen (t:Tsk):Prop where
 h1:t.2.2.2.1.length≤100000
 h2:t.2.2.2.2.1.length≤100000
 h3:t.2.2.2.2.2.1.length≤100000
 h4:t.2.2.2.2.2.2.1.length≤100000
 h5:t.2.2.2.2.2.2.2.1.length≤100000
 h6:t.2.2.2.2.2.2.2.2.1.length≤100000
end Tg

/- The chapter's example is right: a closed fact as a contract. -/
namespace Tg
open Go.Abs
def con4:TCon:=⟨[],[.c (.p .bool)],fun _=>some (true,())⟩
theorem ok4:con4.ok Go.Proofs.Tryz.prog 4:=by
 intro a r h
 obtain rfl:=Option.some.inj h
 exact Tn.Al.law
end Tg
