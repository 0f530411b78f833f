import Derived.Test.YtdgcdoiefodccaaGreatBAbsB6
/- Nothing is known of the package's variables; shapes' short names. -/
namespace Tg
instance globTriv:Go.Abs.Glob:=⟨0,fun _=>True,fun _ _ _ _=>trivial⟩
theorem Ype (B:Nat)(w:Go.World):Go.Abs.Zk1 B w:=⟨Nat.zero_le _,trivial⟩
open Go.Abs
abbrev di:CT:=.int .i64
abbrev db:CT:=.bool
abbrev qi:List Sh:=[.c (.p (.int .i64))]
abbrev qb:List Sh:=[.c (.p (.bool))]
abbrev qn (n:Nat):List Sh:=List.replicate n (.c .any)
abbrev qc (l:List (List Sh)):List Sh:=l.flatten
end Tg

/- A function of the code told by what the machine makes of it. -/
set_option linter.unusedVariables false
set_option linter.unusedSimpArgs false
namespace Tg
open Go Go.Abs
noncomputable section
def hid {α:Type}(a:α):α:=Classical.choose (⟨a,rfl⟩:∃ x,x=a)
theorem Zb8 {α:Type}(a:α):hid a=a:=Classical.choose_spec (⟨a,rfl⟩:∃ x,x=a)
def fuel:Nat:=hid Go.Abs.fuel
theorem Xc:∃ n,fuel=n+1000000000000:=⟨1152920504606846976,Zb8 _⟩
abbrev Tb:=List (Nat×TCon)
def itr (tab:Tb)(P:Program)(g:FuncId)(f:TFun)(n:Nat):JT f:=hid (iter (tabL tab) P f (afOf P g)) n
theorem Z8x (tab:Tb)(P:Program)(g:FuncId)(f:TFun):itr tab P g f=iter (tabL tab) P f (afOf P g):=Zb8 _
def run9 (tab:Tb)(P:Program)(g:FuncId)(f:TFun)(a:Zhn f.args):Option (Xq f.res):=seg0 (tabL tab) P f (afOf P g) (itr tab P g f fuel) a
def mkC (tab:Tb)(P:Program)(g:FuncId)(f:TFun):TCon:=⟨f.args,f.res,hid (run9 tab P g f)⟩
def TOK (P:Program):Tb→Prop
 | []=>True
 | (g,c)::rest=>c.ok P g∧TOK P rest
def chk9 (tab:Tb)(P:Program)(g:FuncId)(f:TFun):Bool:=(Yr P g).isSome&&(nodupB ((posC (codeF P f (afOf P g)) []).map (·.1))&&tab.all fun x=>callable P x.1)
theorem tok9 {P:Program}:∀ {l:Tb},TOK P l→(l.all fun x=>callable P x.1)=true→Yby P l
 | [],_,_=>trivial
 | (g,c)::rest,h,hc=>by
  simp only [List.all_cons,Bool.and_eq_true] at hc
  exact⟨h.1,hc.1,tok9 h.2 hc.2⟩
theorem mkO {tab:Tb}{P:Program}{g:FuncId}{f:TFun}(ht:TOK P tab)(hc:chk9 tab P g f=true):(mkC tab P g f).ok P g:=fun a r h=>by
 simp only [chk9,Bool.and_eq_true] at hc
 have t:=tok9 ht hc.2.2
 have e:Yr P g=some (afOf P g):=by
  cases h:Yr P g with
  | none=>rw [h] at hc;exact absurd hc.1 (by simp)
  | some x=>simp [afOf,h]
 have h:seg0 (tabL tab) P f (afOf P g) (itr tab P g f fuel) a=some r:=(congrFun (Zb8 (run9 tab P g f)) a).symm.trans h
 rw [Z8x] at h
 exact Ygl (f:=f) (Ybz t) (Yb0 t) hc.2.1 e fuel (a:=a) h
theorem mkE {tab:Tb}{P:Program}{g:FuncId}{f:TFun}{a:Zhn f.args}{t:Option (Xq f.res)}(h:run9 tab P g f a=t):(mkC tab P g f).fn a=t:=(congrFun (Zb8 (run9 tab P g f)) a).trans h
theorem mkI {tab:Tb}{P:Program}{g:FuncId}{f:TFun}{n i:Nat}{x:denL (Zd5 (Zdc f.cuts i) [])}{t:Option (Xq f.res)}(h:seg (tabL tab) P f (afOf P g) (itr tab P g f n) i x=t):itr tab P g f (n+1) i x=t:=by
 rw [Z8x] at h ⊢
 exact h
def ix {α β:Type}(l:List α)(x:Int)(k:α→Option β):Option β:=bif decide ((0:Int)≤x) then match l[x.toNat]? with | none=>none | some e=>k e else none
def ixb {α β:Type}(l:List α)(x:Int)(k:α→Option β):Option β:=bif decide ((0:Int)≤x) then bif decide (x.toNat<l.length) then match l[x.toNat]? with | none=>none | some e=>k e else none else none
theorem ix_s {α β:Type}{l:List α}{i:Nat}{k:α→Option β}{e:α}(h:l[i]? = some e):ix l (i:Int) k=k e:=by
 simp [ix,h]
theorem Yru {α β:Type}{l:List α}{i:Nat}{k:α→Option β}{e:α}(h:l[i]? = some e):ixb l (i:Int) k=k e:=by
 obtain⟨h1,h2⟩:=List.getElem?_eq_some_iff.1 h
 simp [ixb,h1,h2]
end
end Tg

/- What the plain laws share: loops, numbers, places in lists. -/
namespace Tg
open Go.Abs (Zb Zj tmm)
theorem Zay {n b:Nat}(hn:n≤1000000)(hb:b≤1000):Zb n b=true:=by
 have:n * b≤1000000 * 1000:=Nat.mul_le_mul hn hb
 simp only [Zb,Bool.and_eq_true,decide_eq_true_eq]
 exact⟨by show n * b≤140737488355328;omega,by show n≤9223372036854775807;omega⟩
theorem w64 {x:Int}(h1 : -9223372036854775808≤x)(h2:x≤9223372036854775807):Go.IntKind.wrap .i64 x=x:=Go.IntWalk.i64_in _ (by omega)
theorem dT {p:Prop}[Decidable p](h:p):decide p=true:=decide_eq_true h
theorem dF {p:Prop}[Decidable p](h:¬ p):decide p=false:=decide_eq_false h
theorem tmax (a b:Int):tmm true a b=max a b:=by
 unfold tmm
 simp only [if_true]
 split <;> omega
theorem tmin (a b:Int):tmm false a b=min a b:=by
 unfold tmm
 simp only [Bool.false_eq_true,if_false]
 split <;> omega
theorem Yn:4000000000≤fuel:=by
 rw [fuel,Zb8]
 decide
theorem wS {i:Nat}(h:i<1000000000000):Go.IntKind.wrap .i64 ((i:Int)+1)=((i+1:Nat):Int):=by
 rw [w64 (by omega) (by omega)];omega
theorem ltL {α:Type}{l:List α}{i:Nat}{e:α}(h:l[i]? = some e):decide ((i:Int)<Int.ofNat l.length)=true:=by
 have:=(List.getElem?_eq_some_iff.1 h).1
 exact decide_eq_true (by simpa using this)
theorem geL {α:Type}{l:List α}:decide ((l.length:Int)<Int.ofNat l.length)=false:=decide_eq_false (by simp)
def runL {α β σ:Type}(step:σ→α→Sum σ (Option β))(fin:σ→Option β):List α→σ→Option β
 | [],s=>fin s
 | e::l,s=>match step s e with
  | .inl s' => runL step fin l s'
  | .inr b=>b
theorem Ygn {α β σ:Type}{f:Nat→σ→Int→Option β}{l:List α}{step:σ→α→Sum σ (Option β)}{fin:σ→Option β}{N:Nat}(P:Nat→σ→Prop)
    (hs:∀ n s (i:Nat) e,l[i]? = some e→P i s→(f (n+1) s (i:Int)=match step s e with | .inl s' => f n s' ((i+1:Nat):Int) | .inr b=>b) ∧ ∀ s',step s e = .inl s' → P (i+1) s')
    (he:∀ n s,N≤n→P l.length s→f (n+1) s (l.length:Int)=fin s) :
    ∀ (r:List α) (i n:Nat) s,l.drop i=r→i≤l.length→P i s→N+r.length+1≤n→f n s (i:Int)=runL step fin r s
  | [],i,n,s,h,hi,hp,hn=>by
   obtain⟨m,rfl⟩:∃ m,n=m+1:=⟨n - 1,by omega⟩
   have:i=l.length:=by
    have:=congrArg List.length h
    simp at this
    omega
   subst this
   rw [runL]
   exact he m s (by simp at hn;omega) hp
  | e::r,i,n,s,h,hi,hp,hn=>by
   obtain⟨m,rfl⟩:∃ m,n=m+1:=⟨n - 1,by omega⟩
   have h1:l[i]? = some e:=by
    have:=congrArg (·[0]?) h
    simpa [List.getElem?_drop] using this
   have hlt:=(List.getElem?_eq_some_iff.1 h1).1
   have h2:l.drop (i+1)=r:=by
    have:=congrArg (List.drop 1) h
    simpa [List.drop_drop] using this
   obtain⟨h3,h4⟩:=hs m s i e h1 hp
   rw [h3,runL]
   cases hst:step s e with
   | inl s' => exact Ygn P hs he r (i+1) m s' h2 (by omega) (h4 _ hst) (by simp at hn;omega)
   | inr b=>rfl
theorem Ze9 {α β:Type}{f:Nat→Int→Option β}{l:List α}{p:α→Bool}{bad fin:Option β}{N:Nat}
    (hs:∀ n (i:Nat) e,l[i]? = some e→f (n+1) (i:Int)=bif p e then f n ((i+1:Nat):Int) else bad)
    (he:∀ n,N≤n→f (n+1) (l.length:Int)=fin) (n:Nat) (hn:N+l.length+1≤n):f n 0=bif l.all p then fin else bad:=by
  have:=Ygn (f:=fun n (_:Unit) i=>f n i) (l:=l) (step:=fun _ e=>bif p e then .inl () else .inr bad) (fin:=fun _=>fin) (N:=N) (fun _ _=>True)
   (fun n s i e h _=>⟨by rw [hs n i e h];cases p e <;> rfl,fun _ _=>trivial⟩) (fun n s h _=>he n h) l 0 n () rfl (by omega) trivial (by omega)
  refine this.trans ?_
  clear this hs he hn
  induction l with
  | nil=>rfl
  | cons e l ih =>
   rw [runL,List.all_cons]
   cases p e with
   | true=>simpa using ih
   | false=>rfl
theorem Yni {α β σ:Type}{f:Nat→σ→Int→Option β}{l:List α}{g:σ→α→σ}{fin:σ→Option β}{N:Nat}(P:Nat→σ→Prop)
    (hs:∀ n s (i:Nat) e,l[i]? = some e→P i s→f (n+1) s (i:Int)=f n (g s e) ((i+1:Nat):Int)∧P (i+1) (g s e))
    (he:∀ n s,N≤n→P l.length s→f (n+1) s (l.length:Int)=fin s) (n:Nat) (s:σ) (hp:P 0 s) (hn:N+l.length+1≤n):f n s 0=fin (l.foldl g s):=by
  have:=Ygn (f:=f) (l:=l) (step:=fun s e=>.inl (g s e)) (fin:=fin) (N:=N) P
   (fun n s i e h hp=>⟨(hs n s i e h hp).1,fun s' hs' => by obtain rfl:=Sum.inl.inj hs';exact (hs n s i e h hp).2⟩) he l 0 n s rfl (by omega) hp (by omega)
  refine this.trans ?_
  clear this hs he hn hp
  induction l generalizing s with
  | nil=>rfl
  | cons e l ih=>rw [runL,List.foldl_cons];exact ih _
theorem iL {i n:Nat}(h:i<n):decide ((i:Int)<(n:Int))=true:=by simpa using h
theorem iG {i n:Nat}(h:¬ i<n):decide ((i:Int)<(n:Int))=false:=by simpa using h
theorem iN (i:Nat):decide ((0:Int)≤(i:Int))=true:=by simp
theorem Yt {α:Type}{s rest:List α}{i:Nat}{b:α}(h:s.drop i=b::rest):i<s.length∧s[i]? = some b∧s.drop (i+1)=rest:=by
 have hl:i<s.length:=by
  rcases Nat.lt_or_ge i s.length with h' | h'
  · exact h'
  · rw [List.drop_eq_nil_of_le h'] at h;cases h
 rw [List.drop_eq_getElem_cons hl] at h
 obtain⟨h1,h2⟩:=List.cons.inj h
 exact⟨hl,by rw [List.getElem?_eq_getElem hl,h1],h2⟩
theorem Xg {α:Type}{s:List α}{i:Nat}(h:s.drop i=[])(hi:i≤s.length):i=s.length:=by
 have:=congrArg List.length h
 rw [List.length_drop] at this
 simp at this
 omega
theorem iN' {x:Int}(h:0≤x):decide ((0:Int)≤x)=true:=by simpa using h
end Tg

/- Graphs in plain words. -/
namespace Tg
abbrev Op:=Int×Int×Unit
abbrev Cn:=Int×Int×Int×Int×Int×Unit
abbrev Gr:=List Op×List Cn×Unit
def okC (n:Nat)(c:Cn):Bool:=decide (0≤min c.1 c.2.2.1)&&(decide (max c.1 c.2.2.1<n)&&(decide (1≤c.2.2.2.2.1)&&decide (c.2.2.2.2.1≤8)))
def inc (p c:Cn):Bool:=decide (p.1<c.1)||(decide (p.1=c.1)&&decide (p.2.1<c.2.1))
def apart (d c:Cn):Bool:=inc d c && !(decide (d.2.2.1=c.2.2.1)&&decide (d.2.2.2.1=c.2.2.2.1))
def cnt (b:Bool)(j:Int)(chs:List Cn):Nat:=(chs.filter fun c=>decide (cond b c.2.2.1 c.1=j)).length
def Zgw (chs:List Cn)(c:Cn):Bool:=(decide (0≤c.2.1)&&decide (c.2.1<(cnt false c.1 chs:Int)))&&(decide (0≤c.2.2.2.1)&&decide (c.2.2.2.1<(cnt true c.2.2.1 chs:Int)))
def bnd (k:Int):Int×Int×Int×Int:=if k=1 then (0,0,1,1) else if k=2 then (1,1,1,2) else if k=3 then (1,1,1,3) else if k=4 then (1,4,1,1) else if k=5 then (2,2,1,1) else if k=6 then (1,3,0,0) else (1,4,0,0)
def Zlo (k:Int)(i o:Int):Bool:=(decide (1≤k)&&decide (k≤7))&&((decide ((bnd k).1≤i)&&decide (i≤(bnd k).2.1))&&(decide ((bnd k).2.2.1≤o)&&decide (o≤(bnd k).2.2.2)))
def rlx (f:Int)(R:List Bool)(c:Cn):List Bool:=bif c.1==f||(R[c.1.toNat]?).getD false then R.set c.2.2.1.toNat true else R
def rnd (f:Int)(chs:List Cn)(R:List Bool):List Bool:=chs.foldl (rlx f) R
def rnds (f:Int)(chs:List Cn):Nat→List Bool→List Bool
 | 0,R=>R
 | k+1,R=>rnds f chs k (rnd f chs R)
def v2 (chs:List Cn):List Cn→List Cn→Bool
 | _,[]=>true
 | p,c::l=>p.all (fun d=>apart d c)&&(Zgw chs c&&v2 chs (p++[c]) l)
def v3 (n:Nat)(chs:List Cn):Nat→List Op→Bool
 | _,[]=>true
 | i,o::l=>(decide (0≤o.2.1)&&decide (o.2.1≤3))&&(Zlo o.1 (cnt true i chs) (cnt false i chs)&&(!((rnds i chs (n+1) (List.replicate n false))[i]?).getD false&&v3 n chs (i+1) l))
def gOkB (x:Gr):Bool:=x.2.1.all (okC x.1.length)&&(v2 x.2.1 [] x.2.1&&v3 x.1.length x.2.1 0 x.1)
def gChk (x:Gr):Int:=bif decide (20<x.1.length)||decide (100<x.2.1.length) then 4 else bif gOkB x then 0 else 8
end Tg

/- Messages, queues, stores and tasks: which are right, in plain words. -/
namespace Tg
abbrev Rec3:=Int×Int×Int×Unit
abbrev Row5:=Int×Int×Int×Int×Int×Unit
abbrev Msg:=Int×Int×Int×Int×Int×Row5
abbrev Evt:=Bool×Int×Int×Int×Int×Unit
abbrev Acc:=Int×Int×Int×Int×Unit
abbrev Ent:=Int×Int×Int×Int×Int×Int×Int×Acc
abbrev Snd:=Int×Msg
abbrev Tsk:=Int×Int×Int×List Snd×List (Int×Unit)×List Ent×List Evt×List Row5×List Rec3×Unit
abbrev Que:=Int×List Msg×Unit
def Xz (t:Int):Bool:=decide (-1099511627776≤t)&&decide (t≤1099511627776)
def Zlp (t:Int):Bool:=Xz t||t==9223372036854775807
def rowB (x:Row5):Bool:=decide (-2199023255552≤x.2.1)&&(decide (x.2.1<x.2.2.1)&&decide (x.2.2.1≤2199023255552))
def Z0w (m:Msg):Bool:=m.2.1==0&&(m.2.2.1==0&&m.2.2.2.1==0)
def Z0x (x:Row5):Bool:=x.1==0&&(x.2.1==0&&(x.2.2.1==0&&(x.2.2.2.1==0&&x.2.2.2.2.1==0)))
def msgB (m:Msg):Bool :=
 bif m.1==1||m.1==4 then Xz m.2.2.1&&(m.2.2.2.2.1==0&&Z0x m.2.2.2.2.2)
 else bif m.1==2 then Zlp m.2.2.2.2.1&&(Z0w m&&Z0x m.2.2.2.2.2)
 else bif m.1==3 then rowB m.2.2.2.2.2&&(Z0w m&&m.2.2.2.2.1==0) else false
def evtB (e:Evt):Bool:=bif e.1 then Zlp e.2.1&&(e.2.2.1==0&&(e.2.2.2.1==0&&e.2.2.2.2.1==0)) else e.2.1==0&&Xz e.2.2.2.1
def queB (q:Que):Bool:=decide (1≤q.1)&&(decide (q.1≤8)&&(decide ((q.2.1.length:Int)≤q.1)&&q.2.1.all msgB))
def accB (a:Acc):Bool:=bif a.1==0 then a.2.1==0&&(a.2.2.1==0&&a.2.2.2.1==0) else bif a.1==1 then a.2.1==a.2.2.1&&a.2.1==a.2.2.2.1 else decide (1<a.1)&&(decide (a.1≤1073741824)&&decide (a.2.2.1≤a.2.2.2.1))
def acc1 (x:Ent):Acc:=(x.2.2.2.1,x.2.2.2.2.1,x.2.2.2.2.2.1,x.2.2.2.2.2.2.1,())
def acc2 (x:Ent):Acc:=x.2.2.2.2.2.2.2
def entB (x:Ent):Bool:=(decide (-1100585369600≤x.2.1)&&(decide (x.2.1<x.2.2.1)&&decide (x.2.2.1≤1100585369600)))&&(accB (acc1 x)&&(accB (acc2 x) && !((acc1 x).1==0&&(acc2 x).1==0)))
def Z0y (x y:Ent):Bool:=decide (x.2.2.1<y.2.2.1)||(x.2.2.1==y.2.2.1&&(decide (x.2.1<y.2.1)||(x.2.1==y.2.1&&decide (x.1<y.1))))
def okP:Option Ent→Ent→Bool
 | none,_=>true
 | some y,x=>Z0y y x
def Z5x:Option Ent→List Ent→Bool
 | _,[]=>true
 | p,x::l=>entB x&&(okP p x&&Z5x (some x) l)
def Z0z (l:List Ent):Nat→Option Ent
 | 0=>none
 | j+1=>l[j]?
def stoE (l:List Ent):Int:=bif decide (4000<l.length) then 4 else bif Z5x none l then 0 else 8
def sndB (s:Snd):Bool:=decide (0≤s.1)&&(decide (s.1<3)&&msgB s.2)
def Zgx (t:Int):Bool:=t == -9223372036854775808||Zlp t
def Zvk (t:Tsk):Bool :=
 let n:=t.2.2.2.2.1.length
 let s:=t.2.2.2.2.2.1.length
 let e:=t.2.2.2.2.2.2.1.length
 let r:=t.2.2.2.2.2.2.2.1.length
 let l:=t.2.2.2.2.2.2.2.2.1.length
 bif t.1==1 then n==0&&(s==0&&(decide (e≤60)&&(r==0&&l==0)))
 else bif t.1==2 then n==1&&(s==0&&(e==0&&(r==0&&l==0)))
 else bif t.1==3 then n==0&&(s==0&&(e==0&&(r==0&&l==0)))
 else bif t.1==4 then decide (1≤n)&&(decide (n≤4)&&(e==0&&(r==0&&l==0)))
 else bif t.1==5 then n==2&&(e==0&&(r==0&&l==0))
 else bif t.1==6 then n==0&&(s==0&&(e==0&&(decide (r≤4000)&&l==0)))
 else t.1==7&&(n==0&&(s==0&&(e==0&&(r==0&&decide (l≤4000)))))
def Zog (t:Tsk):Bool :=
 (decide (0≤t.2.2.1)&&(decide (t.2.2.1<20)&&(decide (0≤t.2.1)&&decide (t.2.1<4))))&&(decide (t.2.2.2.1.length≤4000)&&(Zvk t&&(t.2.2.2.1.all sndB&&(stoE t.2.2.2.2.2.1==0 &&
  ((t.2.2.2.2.1.all fun x=>Zgx x.1)&&(t.2.2.2.2.2.2.1.all evtB&&(t.2.2.2.2.2.2.2.1.all rowB&&((t.2.2.2.2.2.2.2.2.1.all fun r=>Xz r.2.1)&&(t.2.2.2.2.2.1.all fun x=>t.1 != 4||(acc2 x).1==0)))))))))
theorem Z2o {f:Nat→Int→Option (Int×Unit)}{l:List Ent}
    (hs:∀ n (i:Nat) e,l[i]? = some e→f (n+1) (i:Int)=bif entB e&&okP (Z0z l i) e then f n ((i+1:Nat):Int) else some (8,()))
    (he:∀ n,f (n+1) (l.length:Int)=some (0,())):∀ (r:List Ent) (i n:Nat),l.drop i=r→i≤l.length→r.length+1≤n→f n (i:Int)=some (bif Z5x (Z0z l i) r then 0 else 8,())
  | [],i,n,h,hi,hn=>by
   obtain⟨m,rfl⟩:∃ m,n=m+1:=⟨n - 1,by omega⟩
   have:i=l.length:=by
    have:=congrArg List.length h
    simp at this
    omega
   subst this
   rw [Z5x]
   exact he m
  | e::r,i,n,h,hi,hn=>by
   obtain⟨m,rfl⟩:∃ m,n=m+1:=⟨n - 1,by omega⟩
   have h1:l[i]? = some e:=by
    have:=congrArg (·[0]?) h
    simpa [List.getElem?_drop] using this
   have hlt:=(List.getElem?_eq_some_iff.1 h1).1
   have h2:l.drop (i+1)=r:=by
    have:=congrArg (List.drop 1) h
    simpa [List.drop_drop] using this
   have ih:=Z2o hs he r (i+1) m h2 (by omega) (by simp at hn;omega)
   rw [hs m i e h1,Z5x,ih,show Z0z l (i+1)=some e from h1]
   cases entB e <;> cases okP (Z0z l i) e <;> simp
end Tg
