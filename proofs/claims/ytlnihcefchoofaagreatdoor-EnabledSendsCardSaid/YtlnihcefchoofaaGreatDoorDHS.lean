import Derived.Test.YtlnihcefchoofaaGreatDoorDAbsB6
import Derived.Test.YtlnihcefchoofaaGreatDoorDGT
import Derived.Test.YtlnihcefchoofaaGreatDoorRows
import Derived.Lib.Hide
set_option linter.all false
namespace Go.Abs
open Go.RowKit (Below)
variable [GTab] [Glob]
variable {P:Program}{f:FuncId}{pas:List PA}
theorem Spec.still{y:PV}{v:Value}(hy:∀w O,PRel w O y v)(h:∀(O:Nat->Prop) (w:World) (cargs:Array Value),Zv w.heap.size w->Zcb w O pas cargs->Calls P f cargs w λe w' => e = .returned v/\Below w.heap.size w w'):Spec P f pas [.c (.c y)]:=by intro O w cargs hO hgl hp;refine(h O w cargs hgl hp).mono λe w' he=>?_;obtain⟨rfl,hb⟩:=he;refine⟨v,⟨λ_=>undef,O,0,[]⟩,rfl,rfl,?_,.p _ _ (hy _ _)⟩;exact⟨hb,Nat.le_refl _,hO,hgl,λt o ho=>by grind[Za,Zbr,Yg],λt t' g h1=>by grind[Za,Zbr,Yg]⟩
theorem Spec.row1{e:TypeId}{α:Type}{l:List α}{pv:α->PV}{vv:α->Value}(hy:∀a w O,PRel w O (pv a) (vv a))(h:∀(O:Nat->Prop) (w:World) (cargs:Array Value),Zv w.heap.size w->Zcb w O pas cargs->Calls P f cargs w λx w' => ∃v,x = .returned v/\w'.ownsRow w.heap.size e 1 v l.length (l.map vv)/\Below w.heap.size w w') :
    Spec P f pas [.c (.s e 1 (l.map λn=>[pv n]))]:=by
  intro O w cargs hO hgl hp;refine(h O w cargs hgl hp).mono λx w' he=>?_;obtain⟨v,rfl,hrow,hb⟩:=he;have hone:v.oneCell' = true:=by rcases hrow.2 with⟨rfl,_⟩|⟨g,cap,cur,rfl,_⟩<;>rfl
  have hobj:Za [.c (.s e 1 (l.map λn=>[pv n]))]=[⟨1,e,1,l.map λn=>[AV.p (pv n)]⟩]:=by simp[Za,Zbr,Yg]
  rw[hobj];refine⟨v,⟨λ_=>v,O,0,[]⟩,rfl,rfl,⟨hb,Nat.le_refl _,hO,hgl,λt o ho=>?_,λt t' g h1 h2 _ _=>?_⟩,?_⟩;cases t with
  |zero => simp only[J0q,J0b]at ho;subst ho;refine .inr ⟨Nat.zero_lt_one,l.map vv,by grind,λi c hc=>?_⟩;simp only[J0m,J0f]at hc;obtain⟨n,hn,rfl⟩:=hc;refine⟨rfl,λj y hj=>?_⟩;cases j with|zero=>simp only[J0q,J0b]at hj;subst hj;exact⟨vv n,by simp[hn],.p _ _ (hy _ _ _)⟩|succ j=>grind
  |succ t=>grind
  grind;refine .row 0 1 v (by simp) hone λo ho=>?_;grind
end Go.Abs
namespace Go.Abs
open Go.RowKit (Below)
variable [GTab] [Glob]
variable {P:Program}
theorem Spec.rowI{f:FuncId}{pas:List PA}{e:TypeId}{k:IntKind}{l:List Int}(h:∀(O:Nat->Prop) (w:World) (cargs:Array Value),Zv w.heap.size w->Zcb w O pas cargs->Calls P f cargs w λx w' => ∃v,x = .returned v/\w'.ownsRow w.heap.size e 1 v l.length (l.map (.int k))/\Below w.heap.size w w') :
    Spec P f pas [.c (.s e 1 (l.map λn=>[.int k n]))]:=by
  intro O w cargs hO hgl hp;refine(h O w cargs hgl hp).mono λx w' he=>?_;obtain⟨v,rfl,hrow,hb⟩:=he;have hone:v.oneCell' = true:=by rcases hrow.2 with⟨rfl,_⟩|⟨g,cap,cur,rfl,_⟩<;>rfl
  have hobj:Za [.c (.s e 1 (l.map λn=>[PV.int k n]))]=[⟨1,e,1,l.map λn=>[AV.p (.int k n)]⟩]:=by simp[Za,Zbr,Yg]
  rw[hobj];refine⟨v,⟨λ_=>v,O,0,[]⟩,rfl,rfl,⟨hb,Nat.le_refl _,hO,hgl,λt o ho=>?_,λt t' g h1 h2 _ _=>?_⟩,?_⟩;cases t with
  |zero => simp only[J0q,J0b]at ho;subst ho;refine .inr ⟨Nat.zero_lt_one,l.map (.int k),by simpa using hrow,λi c hc=>?_⟩;simp only[J0m,J0f]at hc;obtain⟨n,hn,rfl⟩:=hc;refine⟨rfl,λj y hy=>?_⟩;cases j with|zero=>simp only[J0q,J0b]at hy;subst hy;exact⟨.int k n,by simp[hn],.p _ _ (.int _ _)⟩|succ j=>simp at hy
  |succ t=>simp at ho
  grind;refine .row 0 1 v (by simp) hone λo ho=>?_;grind
def TOK(P:Program):List (FuncId×List PA×List RA)->Prop|[]=>True|q::r=>Spec P q.1 q.2.1 q.2.2/\TOK P r
theorem TOK.mem:∀{l:List (FuncId×List PA×List RA)},TOK P l -> ∀q∈l,Spec P q.1 q.2.1 q.2.2
 |q::r,h,x,hx=>by
  rcases List.mem_cons.1 hx with rfl|hx
  exact h.1;exact TOK.mem h.2 x hx
theorem TOK.app:∀{l m:List (FuncId×List PA×List RA)},TOK P l->TOK P m->TOK P (l++m)|[],m,_,h=>h|q::r,m,h,h2=>⟨h.1,TOK.app h.2 h2⟩
end Go.Abs
namespace Go.Abs
mutual
def Ztt:PV->PV->Bool|.bool a,.bool b=>a==b|.int k a,.int k' b=>decide (k=k')&&decide (a=b)|.str a,.str b=>decide (a=b)|.sl a,.sl b=>Znu a b|_,_=>false
def Znu:List (List PV)->List (List PV)->Bool
 |[],[]=>true|a::xs,b::ys=>match Zlf a b with|true=>Znu xs ys|false=>false
 |_,_=>false
def Zlf:List PV->List PV->Bool
 |[],[]=>true|a::xs,b::ys=>match Ztt a b with|true=>Zlf xs ys|false=>false
 |_,_=>false
end
mutual
theorem Z8r:∀{a b:PV},Ztt a b=true->a=b
 |.bool a,b,h=>by cases b<;>simp[Ztt]at h;rw[h]|.int k a,b,h=>by cases b<;>simp[Ztt]at h;rw[h.1,h.2]|.str a,b,h=>by cases b<;>simp[Ztt]at h;rw[h]|.sl a,b,h=>by
  cases b with|sl b=>rw[Zw4 (a:=a) (b:=b) (by simpa[Ztt]using h)]|_=>simp[Ztt]at h
theorem Zw4:∀{a b:List (List PV)},Znu a b=true->a=b
 |[],b,h=>by grind[Znu]|x::a,b,h=>by
  cases b with|nil=>simp[Znu]at h|cons y b => simp only[Znu]at h;split at h;rename_i hx;rw[Zr4 hx,Zw4 h];cases h
theorem Zr4:∀{a b:List PV},Zlf a b=true->a=b
 |[],b,h=>by grind[Zlf]|x::a,b,h=>by
  cases b with|nil=>simp[Zlf]at h|cons y b => simp only[Zlf]at h;split at h;rename_i hx;rw[Z8r hx,Zr4 h];cases h
end
def Ylp:PA->PA->Bool|.c a,.c b=>Ztt a b|.a a,.a b=>Zlf a b|.q a,.q b=>Zlf a b|_,_=>false
theorem Ylq{a b:PA}(h:Ylp a b=true):a=b:=by cases a<;>cases b<;>simp only[Ylp]at h<;>first|(rw[Z8r h])|(rw[Zr4 h])|cases h
def Zr5:List PA->List PA->Bool
 |[],[]=>true|a::xs,b::ys=>match Ylp a b with|true=>Zr5 xs ys|false=>false
 |_,_=>false
theorem Z21:∀{a b:List PA},Zr5 a b=true->a=b
 |[],b,h=>by grind[Zr5]|x::a,b,h=>by
  cases b with|nil=>simp[Zr5]at h|cons y b => simp only[Zr5]at h;split at h;rename_i hx;rw[Ylq hx,Z21 h];cases h
def Z22(f:FuncId)(pas:List PA):List (FuncId×List PA×List RA)->Option (List RA)
 |[]=>none|q::r=>match Nat.beq q.1 f with
  |true=>match Zr5 q.2.1 pas with
   |true=>some q.2.2|false=>Z22 f pas r
  |false=>Z22 f pas r
theorem Zr6{f:FuncId}{pas:List PA}{rs:List RA}:∀{l:List (FuncId×List PA×List RA)},Z22 f pas l=some rs->(f,pas,rs)∈l
 |[],h=>by cases h|q::r,h=>by
  simp only[Z22]at h;split at h;rename_i h1;split at h;grind[Nat.eq_of_beq_eq_true,Z21];exact List.mem_cons_of_mem _ (Zr6 h);exact List.mem_cons_of_mem _ (Zr6 h)
end Go.Abs
namespace Tg
open Go.Abs
abbrev di:CT:=.int .i64
abbrev db:CT:=.bool
abbrev qi:List Sh:=[.c (.p (.int .i64))]
abbrev qb:List Sh:=[.c (.p (.bool))]
abbrev qn(n:Nat):List Sh:=List.replicate n (.c .any)
abbrev qc(l:List (List Sh)):List Sh:=l.flatten
end Tg
namespace Tg
open Go Go.Abs
noncomputable section
def hid{α:Type}(a:α):α:=Classical.choose (⟨a,rfl⟩:∃x,x=a)
variable {α:Type}
theorem Za2(a:α):hid a=a:=Classical.choose_spec (⟨a,rfl⟩:∃x,x=a)
def fuel:Nat:=hid Go.Abs.fuel
theorem Zat:∃n,fuel=n+1000000000000:=⟨1152920504606846976,Za2 _⟩
abbrev Tb:=List (Nat×TCon)
def itr(tab:Tb)(P:Program)(g:FuncId)(f:TFun)(n:Nat):JT f:=hid (iter (tabL tab) P f (afOf P g)) n
theorem Ylr(tab:Tb)(P:Program)(g:FuncId)(f:TFun):itr tab P g f=iter (tabL tab) P f (afOf P g):=Za2 _
def run9(tab:Tb)(P:Program)(g:FuncId)(f:TFun)(a:Zg9 f.args):Option (Xj f.res):=seg0 (tabL tab) P f (afOf P g) (itr tab P g f fuel) a
def mkC(tab:Tb)(P:Program)(g:FuncId)(f:TFun):TCon:=⟨f.args,f.res,hid (run9 tab P g f)⟩
def TOK(P:Program):Tb->Prop|[]=>True|(g,c)::rest=>c.ok P g/\TOK P rest
def chk9(tab:Tb)(P:Program)(g:FuncId)(f:TFun):Bool:=(Z0 P g).isSome&&(nodupB ((posC (codeF P f (afOf P g)) []).map (·.1))&&tab.all λx=>callable P x.1)
theorem tok9{P:Program}:∀{l:Tb},TOK P l->(l.all λx=>callable P x.1)=true->Ygl P l|[],_,_=>trivial|(g,c)::rest,h,hc=>by simp only[List.all_cons,J0e]at hc;exact⟨h.1,hc.1,tok9 h.2 hc.2⟩
variable {tab:Tb}{P:Program}{g:FuncId}{f:TFun}
theorem mkO(ht:TOK P tab)(hc:chk9 tab P g f=true:=by kernel_rfl):(mkC tab P g f).ok P g:=λa r h=>by
 simp only[chk9,J0e]at hc;have t:=tok9 ht hc.2.2;have e:Z0 P g=some (afOf P g):=by
  cases h:Z0 P g with|none=>rw[h]at hc;exact absurd hc.1 (by simp)|some x=>simp[afOf,h]
 have h:seg0 (tabL tab) P f (afOf P g) (itr tab P g f fuel) a=some r:=(congrFun (Za2 (run9 tab P g f)) a).symm.trans h;rw[Ylr]at h;exact Ylo (f:=f) (Ygm t) (Ygn t) hc.2.1 e fuel (a:=a) h
variable {t:Option (Xj f.res)}
theorem mkE{a:Zg9 f.args}(h:run9 tab P g f a=t:=by kernel_rfl):(mkC tab P g f).fn a=t:=(congrFun (Za2 (run9 tab P g f)) a).trans h
theorem mkI{n i:Nat}{x:denL (Zez (Zdu f.cuts i) [])}(h:seg (tabL tab) P f (afOf P g) (itr tab P g f n) i x=t:=by kernel_rfl):itr tab P g f (n+1) i x=t:=by rw[Ylr]at h ⊢;exact h
def ix{α β:Type}(l:List α)(x:Int)(k:α->Option β):Option β:=bif decide ((0:Int)<=x)then match l[x.toNat]? with|none=>none|some e=>k e else none
def ixb{α β:Type}(l:List α)(x:Int)(k:α->Option β):Option β:=bif decide ((0:Int)<=x)then bif decide (x.toNat<l.length)then match l[x.toNat]? with|none=>none|some e=>k e else none else none
variable {β:Type}
theorem ix_s{l:List α}{i:Nat}{k:α->Option β}{e:α}(h:l[i]? = some e):ix l (i:Int) k=k e:=by simp[ix,h]
theorem Ze2{l:List α}{i:Nat}{k:α->Option β}{e:α}(h:l[i]? = some e):ixb l (i:Int) k=k e:=by obtain⟨h1,h2⟩:=J0d.1 h;simp[ixb,h1,h2]
end
end Tg
namespace Tg
open Go.Abs (Ze Zj tmm)
variable {n:Nat}
theorem Xe{b: Nat}(hn:n<=1000000)(hb:b<=1000):Ze n b=true:=by have:n*b<=1000000*1000:=Nat.mul_le_mul hn hb;simp only[Ze,J0e,J0h];exact⟨by show n*b<=140737488355328;omega,by show n<=9223372036854775807;omega⟩
variable {x:Int}
theorem w64(h1 : -9223372036854775808<=x)(h2:x<=9223372036854775807):Go.IntKind.wrap .i64 x=x:=Go.IntWalk.i64_in _ (by omega)
variable {p:Prop}
theorem dT[Decidable p](h:p):decide p=true:=decide_eq_true h
theorem dF[Decidable p](h:¬p):decide p=false:=decide_eq_false h
theorem tmax(a b:Int):tmm true a b=max a b:=by unfold tmm;simp only[if_true];split<;>omega
theorem tmin(a b:Int):tmm false a b=min a b:=by unfold tmm;simp only[J0r,if_false];split<;>omega
theorem Zr:4000000000<=fuel:=by rw[fuel,Za2];decide
theorem wS{i:Nat}(h:i<1000000000000):Go.IntKind.wrap .i64 ((i:Int)+1)=((i+1:Nat):Int):=by rw[w64 (by omega) (by omega)];omega
variable {α:Type}
theorem ltL{l:List α}{i:Nat}{e:α}(h:l[i]? = some e):decide ((i:Int)<Int.ofNat l.length)=true:=by have:=(J0d.1 h).1;exact decide_eq_true (by simpa using this)
theorem geL{l:List α}:decide ((l.length:Int)<Int.ofNat l.length)=false:=decide_eq_false (by simp)
def runL{α β σ:Type}(step:σ->α->Sum σ (Option β))(fin:σ->Option β):List α->σ->Option β
 |[],s=>fin s|e::l,s=>match step s e with
  |.inl s' => runL step fin l s'|.inr b=>b
theorem Ygp{α β σ:Type}{f:Nat->σ->Int->Option β}{l:List α}{step:σ->α->Sum σ (Option β)}{fin:σ->Option β}{N:Nat}(P:Nat->σ->Prop)
    (hs:∀n s (i:Nat) e,l[i]? = some e->P i s->(f (n+1) s (i:Int)=match step s e with|.inl s' => f n s' ((i+1:Nat):Int)|.inr b=>b) /\ ∀s',step s e = .inl s' -> P (i+1) s')
    (he:∀n s,N<=n->P l.length s->f (n+1) s (l.length:Int)=fin s) :
    ∀(r:List α) (i n:Nat) s,l.drop i=r->i<=l.length->P i s->N+r.length+1<=n->f n s (i:Int)=runL step fin r s
  |[],i,n,s,h,hi,hp,hn=>by
   obtain⟨m,rfl⟩:∃m,n=m+1:=⟨n-1,by omega⟩;have:i=l.length:=by have:=congrArg List.length h;simp at this;omega
   subst this;rw[runL];exact he m s (by simp at hn;omega) hp
  |e::r,i,n,s,h,hi,hp,hn=>by
   obtain⟨m,rfl⟩:∃m,n=m+1:=⟨n-1,by omega⟩;have h1:l[i]? = some e:=by have:=congrArg (·[0]?) h;simpa[List.getElem?_drop]using this
   have hlt:=(J0d.1 h1).1;have h2:l.drop (i+1)=r:=by have:=congrArg (List.drop 1) h;simpa[List.drop_drop]using this
   obtain⟨h3,h4⟩:=hs m s i e h1 hp;rw[h3,runL];cases hst:step s e with|inl s' => exact Ygp P hs he r (i+1) m s' h2 (by omega) (h4 _ hst) (by simp at hn;omega)|inr b=>rfl
variable {β:Type}{N:Nat}
theorem Zcy{f:Nat->Int->Option β}{l:List α}{p:α->Bool}{bad fin:Option β}
    (hs:∀n (i:Nat) e,l[i]? = some e->f (n+1) (i:Int)=bif p e then f n ((i+1:Nat):Int)else bad)
    (he:∀n,N<=n->f (n+1) (l.length:Int)=fin) (n:Nat) (hn:N+l.length+1<=n):f n 0=bif l.all p then fin else bad:=by
  have:=Ygp (f:=λn (_:Unit) i=>f n i) (l:=l) (step:=λ_ e=>bif p e then .inl ()else .inr bad) (fin:=λ_=>fin) (N:=N) (λ_ _=>True)
   (λn s i e h _=>⟨by rw[hs n i e h];cases p e<;>rfl,λ_ _=>trivial⟩) (λn s h _=>he n h) l 0 n () rfl (by omega) trivial (by omega)
  refine this.trans ?_;clear this hs he hn
  induction l with|nil=>rfl|cons e l ih => rw[runL,List.all_cons];cases p e with|true=>simpa using ih|false=>rfl
theorem Zw5{σ: Type}{f:Nat->σ->Int->Option β}{l:List α}{g:σ->α->σ}{fin:σ->Option β}(P:Nat->σ->Prop)
    (hs:∀n s (i:Nat) e,l[i]? = some e->P i s->f (n+1) s (i:Int)=f n (g s e) ((i+1:Nat):Int)/\P (i+1) (g s e))
    (he:∀n s,N<=n->P l.length s->f (n+1) s (l.length:Int)=fin s) (n:Nat) (s:σ) (hp:P 0 s) (hn:N+l.length+1<=n):f n s 0=fin (l.foldl g s):=by
  have:=Ygp (f:=f) (l:=l) (step:=λs e=>.inl (g s e)) (fin:=fin) (N:=N) P
   (λn s i e h hp=>⟨(hs n s i e h hp).1,λs' hs' => by obtain rfl:=Sum.inl.inj hs';exact(hs n s i e h hp).2⟩) he l 0 n s rfl (by omega) hp (by omega)
  refine this.trans ?_;clear this hs he hn hp
  induction l generalizing s with|nil=>rfl|cons e l ih=>rw[runL,List.foldl_cons];exact ih _
theorem iL{i: Nat}(h:i<n):decide ((i:Int)<(n:Int))=true:=by simpa using h
theorem iG{i: Nat}(h:¬i<n):decide ((i:Int)<(n:Int))=false:=by simpa using h
theorem iN(i:Nat):decide ((0:Int)<=(i:Int))=true:=by simp
theorem Za3{s rest:List α}{i:Nat}{b:α}(h:s.drop i=b::rest):i<s.length/\s[i]? = some b/\s.drop (i+1)=rest:=by
 have hl:i<s.length:=by
  rcases Nat.lt_or_ge i s.length with h' | h'
  exact h';rw[List.drop_eq_nil_of_le h']at h;cases h
 rw[List.drop_eq_getElem_cons hl]at h;obtain⟨h1,h2⟩:=List.cons.inj h;exact⟨hl,by rw[J0c hl,h1],h2⟩
theorem Zqr{s:List α}{i:Nat}(h:s.drop i=[])(hi:i<=s.length):i=s.length:=by have:=congrArg List.length h;rw[List.length_drop]at this;simp at this;omega
theorem iN'(h:0<=x):decide ((0:Int)<=x)=true:=by simpa using h
end Tg
namespace Tg
abbrev Op:=Int×Int×Unit
abbrev Cn:=Int×Int×Int×Int×Int×Unit
abbrev Gr:=List Op×List Cn×Unit
def okC(n:Nat)(c:Cn):Bool:=decide (0<=min c.1 c.2.2.1)&&(decide (max c.1 c.2.2.1<n)&&(decide (1<=c.2.2.2.2.1)&&decide (c.2.2.2.2.1<=8)))
def inc(p c:Cn):Bool:=decide (p.1<c.1)||(decide (p.1=c.1)&&decide (p.2.1<c.2.1))
def apart(d c:Cn):Bool:=inc d c && !(decide (d.2.2.1=c.2.2.1)&&decide (d.2.2.2.1=c.2.2.2.1))
def cnt(b:Bool)(j:Int)(chs:List Cn):Nat:=(chs.filter λc=>decide (cond b c.2.2.1 c.1=j)).length
def Zhx(chs:List Cn)(c:Cn):Bool:=(decide (0<=c.2.1)&&decide (c.2.1<(cnt false c.1 chs:Int)))&&(decide (0<=c.2.2.2.1)&&decide (c.2.2.2.1<(cnt true c.2.2.1 chs:Int)))
def bnd(k:Int):Int×Int×Int×Int:=if k=1 then(0,0,1,1)else if k=2 then(1,1,1,2)else if k=3 then(1,1,1,3)else if k=4 then(1,4,1,1)else if k=5 then(2,2,1,1)else if k=6 then(1,3,0,0)else(1,4,0,0)
def Zib(k:Int)(i o:Int):Bool:=(decide (1<=k)&&decide (k<=7))&&((decide ((bnd k).1<=i)&&decide (i<=(bnd k).2.1))&&(decide ((bnd k).2.2.1<=o)&&decide (o<=(bnd k).2.2.2)))
def rlx(f:Int)(R:List Bool)(c:Cn):List Bool:=bif c.1==f||(R[c.1.toNat]?).getD false then R.set c.2.2.1.toNat true else R
def rnd(f:Int)(chs:List Cn)(R:List Bool):List Bool:=chs.foldl (rlx f) R
def rnds(f:Int)(chs:List Cn):Nat->List Bool->List Bool|0,R=>R|k+1,R=>rnds f chs k (rnd f chs R)
def v2(chs:List Cn):List Cn->List Cn->Bool|_,[]=>true|p,c::l=>p.all (λd=>apart d c)&&(Zhx chs c&&v2 chs (p++[c]) l)
def v3(n:Nat)(chs:List Cn):Nat->List Op->Bool|_,[]=>true|i,o::l=>(decide (0<=o.2.1)&&decide (o.2.1<=3))&&(Zib o.1 (cnt true i chs) (cnt false i chs)&&(!((rnds i chs (n+1) (List.replicate n false))[i]?).getD false&&v3 n chs (i+1) l))
def gOkB(x:Gr):Bool:=x.2.1.all (okC x.1.length)&&(v2 x.2.1 [] x.2.1&&v3 x.1.length x.2.1 0 x.1)
def gChk(x:Gr):Int:=bif decide (20<x.1.length)||decide (100<x.2.1.length)then 4 else bif gOkB x then 0 else 8
abbrev Rec3:=Int×Int×Int×Unit
abbrev Row5:=Int×Int×Int×Int×Int×Unit
abbrev Msg:=Int×Int×Int×Int×Int×Row5
abbrev Evt:=Bool×Int×Int×Int×Int×Unit
abbrev Acc:=Int×Int×Int×Int×Unit
abbrev Ent:=Int×Int×Int×Int×Int×Int×Int×Acc
abbrev Snd:=Int×Msg
abbrev Tsk:=Int×Int×Int×List Snd×List (Int×Unit)×List Ent×List Evt×List Row5×List Rec3×Unit
abbrev Que:=Int×List Msg×Unit
def Yy(t:Int):Bool:=decide (-1099511627776<=t)&&decide (t<=1099511627776)
def Zfi(t:Int):Bool:=Yy t||t==9223372036854775807
def rowB(x:Row5):Bool:=decide (-2199023255552<=x.2.1)&&(decide (x.2.1<x.2.2.1)&&decide (x.2.2.1<=2199023255552))
def Zw6(m:Msg):Bool:=m.2.1==0&&(m.2.2.1==0&&m.2.2.2.1==0)
def Zw7(x:Row5):Bool:=x.1==0&&(x.2.1==0&&(x.2.2.1==0&&(x.2.2.2.1==0&&x.2.2.2.2.1==0)))
def msgB(m:Msg):Bool :=
 bif m.1==1||m.1==4 then Yy m.2.2.1&&(m.2.2.2.2.1==0&&Zw7 m.2.2.2.2.2)
 else bif m.1==2 then Zfi m.2.2.2.2.1&&(Zw6 m&&Zw7 m.2.2.2.2.2)
 else bif m.1==3 then rowB m.2.2.2.2.2&&(Zw6 m&&m.2.2.2.2.1==0)else false
def evtB(e:Evt):Bool:=bif e.1 then Zfi e.2.1&&(e.2.2.1==0&&(e.2.2.2.1==0&&e.2.2.2.2.1==0))else e.2.1==0&&Yy e.2.2.2.1
def queB(q:Que):Bool:=decide (1<=q.1)&&(decide (q.1<=8)&&(decide ((q.2.1.length:Int)<=q.1)&&q.2.1.all msgB))
def accB(a:Acc):Bool:=bif a.1==0 then a.2.1==0&&(a.2.2.1==0&&a.2.2.2.1==0)else bif a.1==1 then a.2.1==a.2.2.1&&a.2.1==a.2.2.2.1 else decide (1<a.1)&&(decide (a.1<=1073741824)&&decide (a.2.2.1<=a.2.2.2.1))
def acc1(x:Ent):Acc:=(x.2.2.2.1,x.2.2.2.2.1,x.2.2.2.2.2.1,x.2.2.2.2.2.2.1,())
def acc2(x:Ent):Acc:=x.2.2.2.2.2.2.2
def entB(x:Ent):Bool:=(decide (-1100585369600<=x.2.1)&&(decide (x.2.1<x.2.2.1)&&decide (x.2.2.1<=1100585369600)))&&(accB (acc1 x)&&(accB (acc2 x) && !((acc1 x).1==0&&(acc2 x).1==0)))
def Z8s(x y:Ent):Bool:=decide (x.2.2.1<y.2.2.1)||(x.2.2.1==y.2.2.1&&(decide (x.2.1<y.2.1)||(x.2.1==y.2.1&&decide (x.1<y.1))))
def okP:Option Ent->Ent->Bool|none,_=>true|some y,x=>Z8s y x
def Z8t:Option Ent->List Ent->Bool|_,[]=>true|p,x::l=>entB x&&(okP p x&&Z8t (some x) l)
def Z8u(l:List Ent):Nat->Option Ent|0=>none|j+1=>l[j]?
def stoE(l:List Ent):Int:=bif decide (4000<l.length)then 4 else bif Z8t none l then 0 else 8
def sndB(s:Snd):Bool:=decide (0<=s.1)&&(decide (s.1<3)&&msgB s.2)
def Zch(t:Int):Bool:=t == -9223372036854775808||Zfi t
def Zic(t:Tsk):Bool :=
 let n:=t.2.2.2.2.1.length;let s:=t.2.2.2.2.2.1.length;let e:=t.2.2.2.2.2.2.1.length;let r:=t.2.2.2.2.2.2.2.1.length;let l:=t.2.2.2.2.2.2.2.2.1.length
 bif t.1==1 then n==0&&(s==0&&(decide (e<=60)&&(r==0&&l==0)))
 else bif t.1==2 then n==1&&(s==0&&(e==0&&(r==0&&l==0)))
 else bif t.1==3 then n==0&&(s==0&&(e==0&&(r==0&&l==0)))
 else bif t.1==4 then decide (1<=n)&&(decide (n<=4)&&(e==0&&(r==0&&l==0)))
 else bif t.1==5 then n==2&&(e==0&&(r==0&&l==0))
 else bif t.1==6 then n==0&&(s==0&&(e==0&&(decide (r<=4000)&&l==0)))
 else t.1==7&&(n==0&&(s==0&&(e==0&&(r==0&&decide (l<=4000)))))
def Zy(t:Tsk):Bool :=
 (decide (0<=t.2.2.1)&&(decide (t.2.2.1<20)&&(decide (0<=t.2.1)&&decide (t.2.1<4))))&&(decide (t.2.2.2.1.length<=4000)&&(Zic t&&(t.2.2.2.1.all sndB&&(stoE t.2.2.2.2.2.1==0 &&
  ((t.2.2.2.2.1.all λx=>Zch x.1)&&(t.2.2.2.2.2.2.1.all evtB&&(t.2.2.2.2.2.2.2.1.all rowB&&((t.2.2.2.2.2.2.2.2.1.all λr=>Yy r.2.1)&&(t.2.2.2.2.2.1.all λx=>t.1 != 4||(acc2 x).1==0)))))))))
theorem Z47{f:Nat->Int->Option (Int×Unit)}{l:List Ent}
    (hs:∀n (i:Nat) e,l[i]? = some e->f (n+1) (i:Int)=bif entB e&&okP (Z8u l i) e then f n ((i+1:Nat):Int)else some (8,()))
    (he:∀n,f (n+1) (l.length:Int)=some (0,())):∀(r:List Ent) (i n:Nat),l.drop i=r->i<=l.length->r.length+1<=n->f n (i:Int)=some (bif Z8t (Z8u l i) r then 0 else 8,())
  |[],i,n,h,hi,hn=>by obtain⟨m,rfl⟩:∃m,n=m+1:=⟨n-1,by omega⟩;grind[Z8t]|e::r,i,n,h,hi,hn=>by
   obtain⟨m,rfl⟩:∃m,n=m+1:=⟨n-1,by omega⟩;have h1:l[i]? = some e:=by have:=congrArg (·[0]?) h;grind
   have hlt:=(J0d.1 h1).1;have h2:l.drop (i+1)=r:=by have:=congrArg (List.drop 1) h;grind[List.drop_drop]
   have ih:=Z47 hs he r (i+1) m h2 (by omega) (by simp at hn;omega);grind[Z8t,Z8u]
def in64(x:Int):Bool:=decide (-9223372036854775808<=x)&&decide (x<=9223372036854775807)
def Zfc:List (Int×Unit)->List Int->List Int|[],acc=>acc|x::l,acc=>Zfc l (if acc.contains x.1 then acc else acc++[x.1])
def Z8(a0:List (Int×Unit)):Option (Int×Unit):=bif a0.all (λx=>in64 x.1)&&decide (a0.length<9223372036854775807)then some (Int.ofNat (Zfc a0 []).length,())else none
end Tg
namespace Go.Hand
open Go.RowKit Go.Maps Go.Proofs
def Ds(zs:List Int)(k:Nat):DataW Unit:=(zs.take k).foldl (λD x=>D.put (.int .i64 x) (.lit (.bool true))) (.map [])
theorem Yr2(zs:List Int){k:Nat}{x:Int}(hx:zs[k]? = some x):Ds zs (k+1)=(Ds zs k).put (.int .i64 x) (.lit (.bool true)):=by grind[Ds,List.take_add_one]
theorem law3:Keyed Tryz.prog 3:=int_keyed Tryz.underlying3
set_option maxRecDepth 100000 in
set_option maxHeartbeats 1000000 in
theorem distinct_none(a:Option Addr)(cap:Nat)(w:World) :
    Calls Tryz.prog 179 #[.slice a 0 cap] w λe w' => e = .returned (.int .i64 0)/\Below w.heap.size w w' := by
  have hmm:=@run_makeMap Tryz.prog;go_enter Tryz.func179,Tryz.ntmps179;go_wp2;refine wp_loop_rounds 1 ?_;rw[rounds_succ];go_wp2_with(first
   |(at_len;refine wpList_len_own (H:=Unit) _ rfl _ 315 rfl 3 4 Tryz.underlying315 (plainElem Tryz.prog 4) w.heap.size 0 (.map []) rfl (World.ownsMap_made _ _ _ _) ?_)|go_in)
  go_ret;exact⟨rfl,(Below.refl _ _).alloc (Nat.le_refl _) _⟩
set_option maxRecDepth 100000 in
set_option maxHeartbeats 1000000 in
theorem distinct_any(a:Addr)(len cap:Nat)(zs:List Int)(w:World)(hz:len=zs.length)(hm:len<9223372036854775807)(hb:a.block<w.heap.size)
    (hc:∀(j:Nat) (x:Int),zs[j]? = some x->w.cell? (a.add j)=some (.int .i64 x)) (hwz:∀n∈zs,(Lit.int .i64 n).wf=true) :
    Calls Tryz.prog 179 #[.slice (some a) len cap] w λe w' => e = .returned (.int .i64 (Maps.size (Ds zs len)))/\Below w.heap.size w w' := by
  have hmm:=@run_makeMap Tryz.prog;have hZ:=Lib.hid hz;clear hz;go_enter Tryz.func179,Tryz.ntmps179;go_wp2;go_loopw[9] (λi wr=>∃k:Nat,k<=len/\i = .int .i64 k/\wr.ownsMap Tryz.prog 3 (plainElem (H:=Unit) Tryz.prog 4) w.heap.size k (Ds zs k)/\Below w.heap.size w wr)
   (λi _=>len-(intOf i).toNat)
  case atStart=>exact⟨0,Nat.zero_le _,rfl,World.ownsMap_made _ _ _ _,(Below.refl _ _).alloc (Nat.le_refl _) _⟩
  case round =>
   obtain⟨k,hk,rfl,hown,hnx⟩:=hrel;obtain⟨x,hx⟩:∃x,x=zs.getD k 0:=⟨_,rfl⟩;have hget:k<len->zs[k]? = some x:=λhlt=>by rw[hx,List.getD,J0c (by rw[<- hZ.out];exact hlt)];rfl
   have hcx:k<len->wr.cell? (a.add k)=some (.int .i64 x):=λhlt=>by refine(hnx.cell ?_).trans (hc k x (hget hlt));grind[Addr.add]
   have hkey:k<len->keyOf Tryz.prog 3 (.int .i64 x)=some (.int .i64 x):=λhlt=>keyOf_int_mk Tryz.underlying3 (hwz x (J0j (hget hlt)));have hst:k<len->Ds zs (k+1)=(Ds zs k).put (.int .i64 x) (.lit (.bool true)):=λhlt=>Yr2 zs (hget hlt);have HX:=Lib.hid hx;have HG:=Lib.hid hget;have HS:=Lib.hid hst;clear hx hget hst;go_wp2_with(first
    |(at_mapUpdate;refine wpList_mapUpdate_own _ rfl _ _ _ 315 rfl 3 4 law3 Tryz.underlying315 _ w.heap.size k _ rfl hown (by unfold maxLen;omega) _ _ _ rfl rfl (hkey (by grind)) _ [] (plainElem_bool Tryz.underlying4 true) ?_;intro w1 hown1 hgrow1)|(at_len;refine wpList_len_own _ rfl _ 315 rfl 3 4 Tryz.underlying315 _ w.heap.size k _ rfl hown ?_)|go_in)
   . have hlt:k<len:=by grind
     go_roundw
     case rel=>exact⟨k+1,by omega,by go_num,by rw[HS.out hlt];grind,hnx.grown hgrow1 hnx.size (λj hj=>by grind)⟩
     grind[intOf]
   . have:k=len:=by omega
     subst this;go_ret;simp_all
end Go.Hand
namespace Tg
open Go Go.Abs Go.RowKit Go.Maps Go.Proofs
theorem Zw8:∀(l:List (Int×Unit)) (D:DataW Unit) (acc:List Int),Tidy D->(∀y,has D (.int .i64 y)=acc.contains y)->Maps.size D=acc.length ->
    Maps.size ((l.map (·.1)).foldl (λD x=>D.put (.int .i64 x) (.lit (.bool true))) D)=(Zfc l acc).length
  |[],D,acc,_,_,hs=>hs|x::l,D,acc,ht,hh,hs=>by
   have hk:WideAt.IsKeyLit (.int .i64 x.1):=trivial;simp only[List.map_cons,List.foldl_cons,Zfc];refine Zw8 l _ _ (ht.put hk _) (λy=>?_) ?_;by_cases e:y=x.1;subst e;rw[has_put_same ht.isMap hk];grind;grind[has_put_other];grind[size_put]
def Yls:TCon:=⟨[.c (.sl [.int .i64])],[.c (.p (.int .i64))],λa=>Z8 a.1⟩
theorem ends{w w' : World}{O:Nat->Prop}(hO:∀g,O g->g<w.heap.size)(hgl:Zv w.heap.size w)(hb:Below w.heap.size w w')(n:Int) :
    ∃v ι,Ending.returned (Value.int .i64 n) = .returned v/\Em.O ι=O/\HRel w.heap.size w (Za [.c (.c (.int .i64 n))]) ι w' /\ VR (Za [.c (.c (.int .i64 n))]) ι w' (retV (Zg 0 [.c (.c (.int .i64 n))])) v :=
  ⟨_,⟨λ_=>.bool true,O,0,[]⟩,rfl,rfl,⟨hb,Nat.le_refl _,hO,hgl,(λt o h=>nomatch (show(([]:List AObj)[t]? = some o) from h)),λt t' g h=>absurd h (Nat.not_lt_zero _)⟩,.p _ _ (.int _ _)⟩
def pvI(x:Int×Unit):List PV:=[.int .i64 x.1]
theorem Zoi(l:List (Int×Unit))(hall:l.all (λx=>in64 x.1)=true)(hbig:l.length<9223372036854775807)(O:Nat->Prop)(w:World)(v:Value)(hO:∀g,O g->g<w.heap.size)(hp:PRel w O (.sl (l.map pvI)) v) :
    Calls Tryz.prog 179 #[v] w λe w' => e = .returned (.int .i64 (Int.ofNat (Zfc l []).length))/\Below w.heap.size w w' := by
  have hwf:∀n∈l.map (·.1),(Lit.int .i64 n).wf=true:=λn hn=>by obtain⟨x,hx,rfl⟩:=List.mem_map.1 hn;have:=List.all_eq_true.1 hall x hx;simp only[in64,J0e,J0h]at this;have h1 : -9223372036854775808<=x.1:=this.1;have h2:x.1<=9223372036854775807:=this.2;show(decide (IntKind.min .i64<=x.1)&&decide (x.1<=IntKind.max .i64))=true;rw[show IntKind.min .i64 = -9223372036854775808 from by decide,show IntKind.max .i64=9223372036854775807 from by decide,J0e];grind
  generalize hes:l.map pvI=es at hp;cases hp with
  |nil a c =>
   have hl:l=[]:=by simp_all
   subst hl;exact Calls.mono (Hand.distinct_none a c w) λe w' he=>he
  |sl _ a n c size u hno hlt hn hc hsz' hcell hr =>
   subst hes;have hln:n=(l.map (·.1)).length:=by grind
   have hget:∀(j:Nat) (x:Int),(l.map (·.1))[j]? = some x->w.cell? (a.add j)=some (.int .i64 x):=λj x hj=>by
    rw[J0m,J0f]at hj;obtain⟨y,hy,rfl⟩:=hj;have he:(l.map pvI)[j]? = some [.int .i64 y.1]:=by rw[J0m,hy];rfl
    have hs1:size=1:=(hsz' j _ he).symm;subst hs1;have h3:=hcell j _ he 0 _ rfl;have h4:=hr j _ he 0 _ rfl;rw[Nat.mul_one,Nat.add_zero]at h3;rw[h3];generalize u j 0=z at h4;cases h4;rfl
   have hlen:(l.map (·.1)).length=l.length:=by simp
   refine Calls.mono (Hand.distinct_any a n c _ w hln (by omega) hlt hget hwf) λe w' he=>?_;have:=Zw8 l (.map []) [] tidy_empty (λy=>rfl) rfl;grind[Hand.Ds]
theorem Yyi:Yls.ok Go.Proofs.Tryz.prog 179:=by
 intro a r h O w cargs hO hgl hargs;obtain⟨l,_⟩:=a;have h:Z8 l=some r:=h;unfold Z8 at h;obtain⟨hall,h2⟩:=Qo h;obtain rfl:=J0a h2;rw[J0e]at hall;obtain⟨hsz,hrel⟩:=hargs;have h1:cargs.size=1:=hsz;obtain⟨v,rfl⟩:∃v,cargs=#[v]:=⟨cargs[0],by grind⟩;have hp:PRel w O (.sl (List.map pvI l)) v:=by have:=hrel 0 (.c (.sl (List.map pvI l))) v rfl rfl;cases this with|c _ _ h=>exact h
 refine Calls.mono (Zoi l hall.1 (of_decide_eq_true hall.2) O w v hO hp) λe w' he=>?_;obtain⟨rfl,hb⟩:=he;exact ends hO hgl hb _
end Tg
