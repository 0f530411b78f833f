import Derived.Test.YtlnihcefchoofaaGreatDoorDAbsVM1
set_option linter.all false
namespace Go.Abs
variable [GTab] [Glob]
namespace Tr
variable {α:Type}
theorem Z4f(v:α):∀(t:Tr α) (i j:Nat),(t.upd v i).get j=if i=j then(t.get j).map (λ_=>v)else t.get j
 |.nil,i,j=>by simp[upd,get]|.node l x r,i,j=>by
  cases i with
  |zero => cases j with|zero=>simp[upd,get]|succ j=>simp[upd,get]
  |succ i =>
   have hl:=Z4f v l (i / 2) (j.pred / 2);have hr:=Z4f v r (i / 2) (j.pred / 2);rcases hi:i % 2 with _|k
   have e1:(Tr.node l x r).upd v (i+1) = .node (l.upd v (i / 2)) x r:=by simp[upd,hi]
   rw[e1];cases j with|zero=>simp[get]|succ j=>grind[Nat.pred_succ,get]
   have e1:(Tr.node l x r).upd v (i+1) = .node l x (r.upd v (i / 2)):=by simp[upd,hi]
   rw[e1];cases j with|zero=>simp[get]|succ j=>grind[Nat.pred_succ,get]
theorem Zv7(v:α):∀(t:Tr α) (n:Nat),(∀i,i<n->(t.get i).isSome)->(∀i,n<=i->t.get i=none) -> ∀j,(t.push v n).get j=if j=n then some v else t.get j
 |.nil,n,h1,h2,j=>by
  have hn:n=0:=by
   rcases Nat.eq_zero_or_pos n with h|h
   exact h;grind[get]
  subst hn;cases j with|zero=>simp[push,get]|succ j=>grind[push,get]
 |.node l x r,n,h1,h2,j=>by
  cases n with
  |zero=>have:=h2 0 (Nat.le_refl _);simp[get]at this|succ n =>
   rcases hn:n % 2 with _|k
   have e1:(Tr.node l x r).push v (n+1) = .node (l.push v (n / 2)) x r:=by simp[push,hn]
   rw[e1];have ih:=Zv7 v l (n / 2) (λi hi=>by
    have:=h1 (2*i+1) (by omega);grind[get]) (λi hi=>by
    have:=h2 (2*i+1) (by omega);grind[get])
   cases j with|zero=>simp[get]|succ j=>grind[get]
   have e1:(Tr.node l x r).push v (n+1) = .node l x (r.push v (n / 2)):=by simp[push,hn]
   rw[e1];have ih:=Zv7 v r (n / 2) (λi hi=>by
    have:=h1 (2*i+2) (by omega);grind[get]) (λi hi=>by
    have:=h2 (2*i+2) (by omega);grind[get])
   cases j with|zero=>simp[get]|succ j=>grind[get]
theorem Z4g{p:α->Bool}:∀{t:Tr α},t.all p=true -> ∀{i:Nat} {x:α},t.get i=some x->p x=true
 |.nil,_,i,x,h=>by simp[get]at h|.node l y r,ha,i,x,h=>by
  simp only[all,J0e]at ha;cases i with|zero=>grind[get]|succ i => simp only[get]at h;split at h;exact Z4g ha.2.1 h;exact Z4g ha.2.2 h
def Rel(t:Tr α)(l:List α):Prop:=∀i,t.get i=l[i]?
theorem Rel.nil:Rel (.nil:Tr α) []:=λi=>by simp[get]
theorem Rel.upd{t:Tr α}{l:List α}(h:Rel t l)(v:α)(i:Nat):Rel (t.upd v i) (l.set i v):=λj=>by rw[Z4f,h j,List.getElem?_set];grind
theorem Rel.push{t:Tr α}{l:List α}(h:Rel t l)(v:α):Rel (t.push v l.length) (l++[v]):=λj=>by rw[Zv7 v t l.length (λi hi=>by rw[h i,J0c hi];rfl) (λi hi=>by rw[h i,List.getElem?_eq_none hi]),h j];grind
theorem Rel.ofList:∀{xs:List α} {t:Tr α} {l:List α},Rel t l->Rel (Tr.ofList xs l.length t) (l++xs)|[],t,l,h=>by simpa[Tr.ofList]using h|x::xs,t,l,h=>by have:=Rel.ofList (xs:=xs) (h.push x);simp only[J0s,J0p,List.length_nil,Nat.zero_add,List.append_assoc,List.cons_append,List.nil_append]at this;exact this
theorem Rel.all{p:α->Bool}{t:Tr α}{l:List α}(h:Rel t l)(ha:t.all p=true):l.all p=true:=by rw[List.all_eq_true];intro x hx;obtain⟨i,hi⟩:=List.getElem?_of_mem hx;exact Z4g ha ((h i).trans hi)
end Tr
section
variable (h:List AObj)
theorem Z7p(T:Nat)(ρ:AOpd->AV)(op:AOp):Ykl (Zd h) T ρ op=Zb h T ρ op:=by cases op<;>rfl
theorem Yfp(bad:List Nat):∀n x,frzG (Zd h) bad n x=frz h bad n x|0,x=>rfl|n+1,x=>by have ih:frzG (Zd h) bad n=frz h bad n:=funext (Yfp bad n);cases x<;>first|rfl|grind[frzG,frz]
theorem Zqa(bad:List Nat)(n:Nat):frzG (Zd h) bad n=frz h bad n:=funext (Yfp h bad n)
theorem Yfq:ptrG (Zd h)=ptrC h:=by funext x;cases x<;>first|rfl|(simp only[ptrG,ptrC,Zqa];rfl)
theorem Ykp(bad:List Nat)(own:Bool):rcG (Zd h) bad own=rcOf h bad own:=by funext x;cases x<;>(simp only[rcG,rcOf,Zqa];try rfl)
theorem Yfr(bad:List Nat)(own:Bool):∀xs,rcsG (Zd h) bad own xs=Zjz h bad own xs|[]=>rfl|x::xs=>by simp only[rcsG,Zjz,Ykp,Yfr bad own xs];rfl
theorem Yu1(bad:List Nat)(own:Bool):raG (Zd h) bad own=raOf h bad own:=by funext x;cases x<;>(simp only[raG,raOf,Ykp,Yfr];try rfl)
theorem Z7q(bad:List Nat)(own:Bool):∀xs,Z7n (Zd h) bad own xs=Zcc h bad own xs|[]=>rfl|x::xs=>by simp only[Z7n,Zcc,Yu1,Z7q bad own xs];rfl
theorem Yfs(own:Bool)(xs:List AV):rasG (Zd h) own xs=Zky h own xs:=by grind[rasG,Zky,Z7q]
theorem Z7r(tau:List Nat):Zds tau (Zd h)=Zd (Za0 tau 0 h):=by
 funext t ver;unfold Zds Zd;rw[Znp];simp only[Nat.zero_add];cases h[t]? with|none=>simp|some o => simp only[Option.map_some];split;rfl;rw[if_neg];rintro⟨_,h2⟩;exact h2 rfl
end
structure VS.Rel(st:VS) (s:St):Prop where
 slots:Tr.Rel st.slots s.slots
 heap:Tr.Rel st.heap s.heap
 n:st.n=s.heap.length
def LRels:List (Tr AV)->List (List AV)->Prop|[],[]=>True|t::ts,l::ls=>Tr.Rel t l/\LRels ts ls|_,_=>False
section
variable {st:VS} {s:St}
theorem Zg7{h:Tr AObj}{l:List AObj}(hr:Tr.Rel h l):getT h=Zd l:=by funext t ver;show(match h.get t with|some o=>if o.ver=ver/\o.size≠0 then some o else none|none=>none)=_;rw[hr t];rfl
variable {t:Tr AV}
theorem Yft{l:List AV}(hr:Tr.Rel t l)(n:Nat):slot t n=l.getD n .any:=by unfold slot;rw[hr n,List.getD];cases l[n]? <;> rfl
theorem Zga{l:List AV}(hr:Tr.Rel t l):Zam t=AOpd.eval l:=by
 funext x;cases x with|t n=>exact Yft hr n|c v=>rfl
theorem Zv8{l:List AV}(hr:Tr.Rel t l)(gd:Option (Nat×Bool)):Yfn t gd=Zk l gd:=by
 cases gd with|none=>rfl|some p=>obtain⟨d,b⟩:=p;show(match t.get d with|some (.p (.bool b'))=>some (b' == b)|some .u=>some false|_=>none)=_;rw[hr d];rfl
theorem X4{l:List AV}(hr:Tr.Rel t l)(d:Option Nat)(v:AV):Tr.Rel (setT t d v) (setD l d v):=by
 cases d with|none=>exact hr|some d=>exact hr.upd v d
theorem Ztg:∀{k:List AObj} {h:Tr AObj} {l:List AObj} {n:Nat},Tr.Rel h l->n=l.length->Tr.Rel (Zi0 h n k).1 (l++k)/\(Zi0 h n k).2=(l++k).length|[],h,l,n,hr,hn=>by grind[Zi0]|o::k,h,l,n,hr,hn=>by subst hn;have:=Ztg (k:=k) (hr.push o) (n:=l.length+1) (by simp);grind[Zi0]
theorem Zrv(nt:Nat)(args:List AV):Tr.Rel (Znq nt args) (start nt args):=by have:=Tr.Rel.ofList (xs:=start nt args) (Tr.Rel.nil (α:=AV));grind[Znq]
theorem LRels.get:∀{ts:List (Tr AV)} {ls:List (List AV)},LRels ts ls -> ∀{i:Nat} {t:Tr AV},ts[i]? = some t -> ∃l,ls[i]? = some l/\Tr.Rel t l|[],_,_,i,t,ht=>by simp at ht|t' :: ts,l' :: ls,⟨h1,h2⟩,0,t,ht=>by simp at ht;subst ht;exact⟨l',rfl,h1⟩|t' :: ts,l' :: ls,⟨h1,h2⟩,i+1,t,ht=>LRels.get h2 (i:=i) (by simpa using ht)
theorem LRels.set{l:List AV}(hr:Tr.Rel t l):∀{ts:List (Tr AV)} {ls:List (List AV)},LRels ts ls -> ∀i,LRels (ts.set i t) (ls.set i l)|[],[],_,i=>trivial|t' :: ts,l' :: ls,⟨h1,h2⟩,0=>⟨hr,h2⟩|t' :: ts,l' :: ls,⟨h1,h2⟩,i+1=>⟨h1,LRels.set hr h2 i⟩
theorem LRels.all{p:AV->Bool}:∀{ts:List (Tr AV)} {ls:List (List AV)},LRels ts ls->ts.all (Tr.all p)=true->ls.all (λl=>l.all p)=true|[],[],_,_=>rfl|t::ts,l::ls,⟨h1,h2⟩,h=>by simp only[List.all_cons,J0e]at h ⊢;exact⟨h1.all h.1,LRels.all h2 h.2⟩
theorem Zv9:∀(l:List AV),noYL l=l.all AV.noY|[]=>rfl|x::xs=>by simp only[noYL,List.all_cons,Zv9 xs]
theorem Znr(p:Nat):Tr.Rel (pend p) [.p (.int .u64 (Int.ofNat p))]:=λi=>by
 cases i with|zero=>rfl|succ i=>grind[pend,Tr.get]
theorem Zwa:∀{ps:List (Nat×AV)} {t:Tr AV} {l:List AV},Tr.Rel t l->Tr.Rel (Ybr t ps) (Zj0 l ps)|[],t,l,h=>h|(a,v)::ps,t,l,h=>Zwa (ps:=ps) (h.upd v a)
theorem Yrd{lows:List (Tr AV)}{ls:List (List AV)}(hs:st.Rel s)(hl:LRels lows ls)(h:noYT st lows=true):(noYL s.slots&&s.heap.all noYO&&ls.all noYL)=true:=by
 simp only[noYT,J0e]at h;obtain⟨h1,h2,h3⟩:=h;have e:noYL=λl=>l.all AV.noY:=funext Zv9;simp only[J0e];refine⟨⟨?_,hs.heap.all h2⟩,?_⟩;rw[Zv9];exact hs.slots.all h1;rw[e];exact hl.all h3
end
section
variable {P:Program} {callF:FuncId->List PA->Option (List RA)} {V:VP}
variable {st:VS}
theorem Z7s{s:St}(hs:st.Rel s)(args:List AOpd):args.map (Zam st.slots)=args.map (AOpd.eval s.slots):=by rw[Zga hs.slots]
theorem Zk1:∀(os:List AObj) (T:Nat),(tagged T os).map (·.1)=List.range' T os.length|[],_=>rfl|o::os,T=>by simp[tagged,Zk1 os,List.range'_succ]
theorem Zpa{s:St}(hs:st.Rel s)(dst:Option Nat)(rs:List RA):(Zv1 st dst rs).Rel ⟨setD s.slots dst (retV (Zg s.heap.length rs)),s.heap++Za rs⟩:=by obtain⟨h1,h2⟩:=Ztg (k:=Za rs) hs.heap hs.n;refine⟨?_,h1,h2⟩;show Tr.Rel (setT st.slots dst (retV (Zg st.n rs))) _;rw[hs.n];exact X4 hs.slots _ _
variable {a:AStep}{st1:VS}{wr tau:List Nat}
theorem Zk2(hF:∀f pas rs,callF f pas=some rs->Spec P f pas rs){f:FuncId}{avs:List AV}{s:St}(hs:st.Rel s)(hcd:Called P a.op s.slots f avs)(hw:Zk s.slots a.guard=some true){y:AV}
    (h:Zp7 callF f avs a.dst st=some (y,wr,tau,st1)):∃wr' h1,StepS P a tau s y wr' h1/\wr'.map (·.1)=wr/\st1.Rel ⟨setD s.slots a.dst y,h1⟩:=by
  unfold Zp7 at h;split at h;rename_i pas hp;split at h;rename_i rs hrs;simp only[J0b,J0i]at h;obtain⟨rfl,rfl,rfl,rfl⟩:=h;have hst:=StepS.call (tau:=List.range' st.n (Za rs).length) f avs true pas rs hcd hw (by grind[Yt]) (hF _ _ _ hrs) (.inl rfl);have:=Zpa hs a.dst rs;rw[hs.n]at hst ⊢;grind[Zk1];cases h;have e:Zds (avs.flatMap (Zht (λt=>st.heap.get t) 6)) (getT st.heap)=Zd (Za0 (avs.flatMap (Zht (λt=>st.heap.get t) 6)) 0 s.heap):=by rw[Zg7 hs.heap,Z7r]
  rw[e]at h;split at h;rename_i pas hp;rw[Zqa,Yfq]at hp;split at h;rename_i rs hrs;split at h;rename_i hfl;simp only[J0b,J0i]at h;obtain⟨rfl,rfl,rfl,rfl⟩:=h;have hst:=StepS.call (tau:=avs.flatMap (Zht (λt=>st.heap.get t) 6)++List.range' st.n (Za rs).length) f avs false pas rs hcd hw (by
   refine Zk0 (Zru λt ht=>by simp only[List.contains_iff_mem,List.mem_append]at ht ⊢;exact .inl ht) ?_;grind[Yt]) (hF _ _ _ hrs) (.inr hfl)
  have:=Zpa hs a.dst rs;rw[hs.n]at hst ⊢;grind[Zk1];cases h;cases h;cases h
theorem Zwb(hF:∀f pas rs,callF f pas=some rs->Spec P f pas rs)(hcb:∀f,V.cb f=true->callable P f=true){s:St}(hs:st.Rel s){y:AV}
    (h:Zv2 callF V a st=some (y,wr,tau,st1)):∃wr' h1,StepS P a tau s y wr' h1/\wr'.map (·.1)=wr/\st1.Rel ⟨setD s.slots a.dst y,h1⟩:=by
  unfold Zv2 at h;rw[Zv8 hs.slots]at h;split at h;rename_i hw;simp only[J0b,J0i]at h;obtain⟨rfl,rfl,rfl,rfl⟩:=h;exact⟨_,_,.skip hw,rfl,X4 hs.slots _ _,hs.heap,hs.n⟩;rename_i hw;split at h;rename_i ao ho;rw[Zg7 hs.heap,Zga hs.slots,Z7r,hs.n,Z7p]at h;split at h;rename_i y' eff he;split at h;simp only[J0b,J0i]at h;obtain⟨rfl,rfl,rfl,rfl⟩:=h;exact⟨_,_,.op ao _ .none ho hw he (λt o e=>by cases e),rfl,X4 hs.slots _ _,hs.heap,rfl⟩;simp only[J0b,J0i]at h;obtain⟨rfl,rfl,rfl,rfl⟩:=h;exact⟨_,_,.op ao _ .grow ho hw he (λt o e=>by cases e),rfl,X4 hs.slots _ _,hs.heap,rfl⟩;rename_i o;simp only[J0b,J0i]at h;obtain⟨rfl,rfl,rfl,rfl⟩:=h;refine⟨_,_,.op ao _ (.new o) ho hw (Ziz (Zru λt ht=>by grind) he) (λt o e=>by cases e),rfl,X4 hs.slots _ _,?_,?_⟩;exact hs.heap.push o;simp[effH];rename_i t o;split at h;rename_i hlt;simp only[J0b,J0i]at h;obtain⟨rfl,rfl,rfl,rfl⟩:=h;refine⟨_,_,.op ao _ (.upd t o) ho hw he (λt' o' e=>by cases e;exact Nat.blt_eq.mp hlt),rfl,X4 hs.slots _ _,?_,?_⟩;exact hs.heap.upd o t;simp[effH];cases h;cases h;rename_i f args ho;rw[Z7s hs]at h;exact Zk2 hF hs (.st args ho) hw h;rename_i x args ho;rw[Zga hs.slots]at h;split at h;rename_i f caps hx;split at h;rename_i hc;exact Zk2 hF hs (.vl x args caps ho hx (hcb f hc)) hw h;cases h;cases h;cases h
theorem Zqb(hF:∀f pas rs,callF f pas=some rs->Spec P f pas rs)(hcb:∀f,V.cb f=true->callable P f=true):∀{ss:List AStep} {st st1:VS} {s:St} {L:List (List Nat×List Nat)},st.Rel s->Zv3 callF V ss st=some (L,st1) ->
    ∃L' s1,TraceS P L' s s1/\L'.map (·.1)=ss/\L'.map evI=L/\st1.Rel s1
  |[],st,st1,s,L,hs,h=>by simp only[Zv3,J0b,J0i]at h;obtain⟨rfl,rfl⟩:=h;exact⟨[],s,.nil _,rfl,rfl,hs⟩|a::ss,st,st1,s,L,hs,h=>by
   simp only[Zv3]at h;split at h;rename_i y wr tau st2 h1;split at h;rename_i L2 st3 h2;simp only[J0b,J0i]at h;obtain⟨rfl,rfl⟩:=h;obtain⟨wr',h3,g1,g2,g3⟩:=Zwb hF hcb hs h1;obtain⟨L',s1,k1,k2,k3,k4⟩:=Zqb hF hcb g3 h2;exact⟨_,s1,.cons a y wr' tau h3 L' s s1 g1 k1,by grind,by rw[List.map_cons,k3,<- g2];rfl,k4⟩;cases h;cases h
theorem Zpb:∀{ss rest:List AStep} {st st1:VS} {s:St},st.Rel s->opsT ss st=(rest,st1) -> ∃pre s1,ss=pre++rest/\ASteps P pre s s1/\st1.Rel s1
 |[],rest,st,st1,s,hs,h=>by simp only[opsT,J0i]at h;obtain⟨rfl,rfl⟩:=h;exact⟨[],s,rfl,.nil _,hs⟩|a::ss,rest,st,st1,s,hs,h=>by
  have stop:((a::ss,st):List AStep×VS)=(rest,st1) -> ∃pre s1,a::ss=pre++rest/\ASteps P pre s s1/\st1.Rel s1:=λh=>by simp only[J0i]at h;obtain⟨rfl,rfl⟩:=h;exact⟨[],s,rfl,.nil _,hs⟩
  simp only[opsT]at h;rw[Zv8 hs.slots]at h;split at h;rename_i hw;obtain⟨pre,s1,rfl,k1,k2⟩:=Zpb (st:=⟨setT st.slots a.dst .u,st.heap,st.n⟩) (s:=⟨setD s.slots a.dst .u,s.heap⟩) ⟨X4 hs.slots _ _,hs.heap,hs.n⟩ h;exact⟨a::pre,s1,rfl,.skip _ _ _ _ hw k1,k2⟩;rename_i hw;split at h;rename_i ao ho;rw[Zg7 hs.heap,Zga hs.slots,hs.n,Z7p]at h;split at h;rename_i y eff he;have go:∀st2:VS,st2.Rel ⟨setD s.slots a.dst y,effH s.heap eff⟩->opsT ss st2=(rest,st1) -> ∃pre s1,a::ss=pre++rest/\ASteps P pre s s1/\st1.Rel s1:=λst2 h2 h3=>by obtain⟨pre,s1,rfl,k1,k2⟩:=Zpb h2 h3;exact⟨a::pre,s1,rfl,.op _ ao _ _ y eff _ ho hw he k1,k2⟩
  split at h;exact go ⟨setT st.slots a.dst y,st.heap,s.heap.length⟩ ⟨X4 hs.slots _ _,hs.heap,rfl⟩ h;exact go ⟨setT st.slots a.dst y,st.heap,s.heap.length⟩ ⟨X4 hs.slots _ _,hs.heap,rfl⟩ h;rename_i o;exact go ⟨setT st.slots a.dst y,st.heap.push o s.heap.length,s.heap.length+1⟩ ⟨X4 hs.slots _ _,hs.heap.push o,by simp[effH]⟩ h;rename_i t o;exact go ⟨setT st.slots a.dst y,st.heap.upd o t,s.heap.length⟩ ⟨X4 hs.slots _ _,hs.heap.upd o t,by simp[effH]⟩ h;exact stop h;exact stop h;exact stop h
end
def Zk3(P:Program)(frs:List Fr)(s:St)(ls:List (List AV)):VRes->Prop|.next frs' st' lows' => ∃s' ls',st'.Rel s' /\ LRels lows' ls' /\ ∀Q,KAW P frs' Q s' ls' -> KAW P frs Q s ls|.done e st' => ∃s',st'.Rel s' /\ (∀id,e ≠ .exit id) /\ ∀Q:Exit->St->Prop,Q e.to s' -> KAW P frs Q s ls|.stuck _=>True
section
variable {P:Program} {callF:FuncId->List PA->Option (List RA)} {V:VP} {frs:List Fr} {st:VS} {s:St} {lows:List (Tr AV)} {ls:List (List AV)}
theorem Z4h(hs:st.Rel s):∀res,resG (getT st.heap) (slot st.slots) res=resV s res
 |[]=>rfl|r::rs=>by
  have h1:Yti (getT st.heap) (slot st.slots) r=res1 s r:=by
   have e:slot st.slots=λn=>s.slots.getD n .any:=funext (Yft hs.slots);rw[Zg7 hs.heap,e];cases r with|tmp t=>rfl|cell t m=>cases m<;>rfl
  simp only[resG,resV,h1,Z4h hs rs];rfl
theorem Ytj{pd:Tr AV}{l:List AV}(h:Tr.Rel pd l){p:Int}(hp:pd.get 0=some (.p (.int .u64 p)))(h1:pd.get 1=none):l=[.p (.int .u64 p)]:=by
 rw[h 0]at hp;rw[h 1]at h1
 match l,hp,h1 with|[x],hp,_=>simp at hp;rw[hp]|x::y::l,_,h1=>simp at h1|[],hp,_=>simp at hp
theorem Zk4(hs:st.Rel s)(hl:LRels lows ls){frs0:List Fr}(hgo:∀Q,botF frs=[]->Q .ret s->KAW P frs0 Q s ls)(hret:∀Q,KRet P (botF frs) Q s ls->KAW P frs0 Q s ls):Zk3 P frs0 s ls (Z7o frs st lows):=by
 unfold Z7o;split;rename_i hb;exact⟨s,hs,(λid e=>by cases e),λQ hq=>hgo Q hb hq⟩;rename_i res dst fr2 hb;rw[hb]at hret;split;rename_i low lows';cases ls with|nil=>exact hl.elim|cons l ls => obtain⟨h1,h2⟩:=hl;rw[Z4h hs];split;rename_i xs hx;exact⟨⟨setD l dst (retV xs),s.heap⟩,ls,⟨X4 h1 _ _,hs.heap,hs.n⟩,h2,λQ hk=>hret Q (.fn hx hk)⟩;trivial
 trivial;rename_i ps ac bc fr2 hb;rw[hb]at hret;split;rename_i pd low lows'
 match ls,hl with
 |l0::l::ls,⟨h0,h1,h2⟩ =>
  split;rename_i hnr;have key:∀p:Int,l0=[.p (.int .u64 p)] -> ∀(frs' : List Fr),(∀Q,KAW P frs' Q ⟨l,s.heap⟩ ls->KRet P (.rf ps ac bc::fr2) Q s ([.p (.int .u64 p)]::l::ls))->Zk3 P frs0 s (l0::l::ls) (.next frs' ⟨low,st.heap,st.n⟩ lows'):=by intro p e frs' hk;subst e;exact⟨⟨l,s.heap⟩,ls,⟨h1,hs.heap,hs.n⟩,h2,λQ hq=>hret Q (hk Q hq)⟩
  split;rename_i p hp;split;rename_i hl1;have e:=Ytj h0 hp hl1;split;exact key _ e _ λQ hq=>.rf (λ_=>hq) (λe=>by cases e) (λid e=>absurd (show((0:Nat):Int)=(id:Int)+2 from e) (by omega)) hnr;exact key _ e _ λQ hq=>.rf (λe=>by cases e) (λ_=>hq) (λid e=>absurd (show((1:Nat):Int)=(id:Int)+2 from e) (by omega)) hnr;rename_i id;exact key _ e _ λQ hq=>.rf (λe=>absurd (show((id+2:Nat):Int)=0 from e) (by omega)) (λe=>absurd (show((id+2:Nat):Int)=1 from e) (by omega)) (λid' e=>by
   have:id' = id:=by have:((id+2:Nat):Int)=(id' : Int)+2:=e;omega
   subst this;exact hq) hnr
  trivial;trivial;trivial;trivial
 trivial;trivial
variable {f:FuncId}{a:AStep}{rest:List AStep}
theorem Zi1(hF:∀f af,V.F f=some af->Z0 P f=some af){avs:List AV}(hs:st.Rel s)(hl:LRels lows ls)
    (hk:∀af,Z0 P f=some af -> ∀Q,KAW P (.code af.body :: .fn af.res a.dst :: .steps rest::frs) Q ⟨start af.nt avs,s.heap⟩ (s.slots::ls)->KAW P (.steps (a::rest)::frs) Q s ls) :
    Zk3 P (.steps (a::rest)::frs) s ls (Zv4 V f avs a rest frs st lows):=by
  unfold Zv4;split;rename_i af haf;exact⟨⟨start af.nt avs,s.heap⟩,s.slots::ls,⟨Zrv _ _,hs.heap,hs.n⟩,⟨hs.slots,hl⟩,hk af (hF f af haf)⟩;trivial
theorem Zh7(F:List Nat)(fz:AV->Option PV):∀cs:List AV,subL F fz cs=cs.map (subV F fz)|[]=>rfl|x::xs=>by simp only[subL,List.map_cons,Zh7 F fz xs]
def fzL(h:List AObj)(F:List Nat):AV->Option PV:=frzG (Zds F (Zd h)) [] 6
def kapF(F:List Nat)(ι:Em):Em:=⟨λt=>if F.contains t then .bool true else ι t,ι.O,ι.Y,ι.D⟩
def frzH(h:List AObj)(F:List Nat):List AObj:=h.mapIdx (frzO F (fzL h F))
theorem Zct(h:List AObj)(F:List Nat):(frzH h F).length=h.length:=by simp[frzH]
theorem Zgb(h:List AObj)(F:List Nat)(t:Nat):(frzH h F)[t]? = (h[t]?).map (frzO F (fzL h F) t):=by simp[frzH]
variable {F:List Nat}{ι:Em}{t:Nat}
theorem Zwc(h:F.contains t=true):kapF F ι t = .bool true:=if_pos h
theorem Zfl(h:¬F.contains t=true):kapF F ι t=ι t:=if_neg h
variable {h:List AObj}
theorem Z4i{g:Nat}(ho:Own (frzH h F).length (kapF F ι) g):Own h.length ι g:=by
 rcases ho with ho|⟨t,ht,hb⟩
 exact .inl ho;by_cases hF:F.contains t=true;rw[Zwc hF]at hb;cases hb;rw[Zfl hF]at hb;exact .inr ⟨t,by grind[Zct],hb⟩
def badF(h:List AObj)(F:List Nat):List Nat:=(List.range h.length).filter λt=>!F.contains t
theorem Yre(hF:F.contains t=true):(badF h F).contains t=false:=by grind[badF]
theorem Ykq(ht:t<h.length)(hb:(badF h F).contains t=false):F.contains t=true:=by grind[badF]
theorem Z7t{h:List AObj}{F:List Nat}:∀(n:Nat) {x:AV} {y:PV},frzG (Zds F (Zd h)) [] n x=some y->frz h (badF h F) n x=some y
 |0,x,y,hf=>by simp[frzG]at hf|n+1,x,y,hf=>by
  have ih:∀x y,frzG (Zds F (Zd h)) [] n x=some y->frz h (badF h F) n x=some y:=λx y=>Z7t n;have key:∀(t ver:Nat) (sel:AObj->List (List AV)),(if ([]:List Nat).contains t then none else match Zds F (Zd h) t ver with|some o=>(match frzE (frzG (Zds F (Zd h)) [] n) (sel o)with|some es=>some (PV.sl es)|none=>none)|none=>none)=some y ->
      (if (badF h F).contains t then none else match Zd h t ver with|some o=>(match frzE (frz h (badF h F) n) (sel o)with|some es=>some (PV.sl es)|none=>none)|none=>none)=some y:=by
    intro t ver sel hf;simp only[List.contains_nil,J0r,if_false]at hf;unfold Zds at hf;split at hf;rename_i o ho;split at ho;rename_i hF;rw[Yre hF];simp only[J0r,if_false,ho];split at hf;rename_i es hes;rw[Zno (h:=h) (h' := h) (λ_ _ _ e=>e) ih hes];exact hf;cases hf;cases ho;cases hf
  cases x with|row t ver=>exact key t ver _ hf|sl t ver lo len ex=>exact key t ver (λo=>(o.elems.drop lo).take len) hf|_=>exact hf
section
variable {B:Nat} {w0 w:World} {h:List AObj} {ι:Em} {F:List Nat}
theorem Z7u(hr:HRel B w0 h ι w){x:AV}{v:Value}{y:PV}(hv:VR h ι w x v)(hf:fzL h F x=some y):PRel w (Own (frzH h F).length (kapF F ι)) y v:=by
 refine Zg4 hr (λg=>Z4i) (λt g ht hb hg ho=>?_) 6 hv (Z7t 6 hf);have hF:=Ykq ht hb;rcases ho with ho|⟨t',ht',hb'⟩
 have h1:=hr.old g ho;have h2:=(hr.own ht hg).1;omega;by_cases hF' : F.contains t' = true;rw[Zwc hF']at hb';cases hb';rw[Zfl hF']at hb';rw[Zct]at ht';have:=hr.inj t t' g ht ht' hg hb';subst this;exact hF' hF
theorem Z4j(hr:HRel B w0 h ι w){x:AV}{v:Value}(hv:VR h ι w x v):VR (frzH h F) (kapF F ι) w (subV F (fzL h F) x) v:=by
 have hfix:Fix w (Own h.length ι) w (Own (frzH h F).length (kapF F ι)):=⟨Nat.le_refl _,λ_ _ _=>rfl,λg _ hn ho=>hn (Z4i ho)⟩
 induction hv with|any v=>exact .any v|u=>exact .u|p x v hp=>exact .p x v (hp.fix hfix)|nil=>exact .nil|ne ad c=>exact .ne ad c|nl c=>exact .nl c|e0 ad=>exact .e0 ad|xf elems ad n hp=>exact .xf elems ad n (hp.fix hfix)|row t ver v ht hv ho => simp only[subV];by_cases hF:F.contains t=true;rw[if_pos hF];split;rename_i y hy;exact .p _ _ (Z7u hr (.row t ver v ht hv ho) hy);refine .row t ver v (by grind[Zct]) hv λo' ho' => ?_;grind[Zgb,frzO];rw[if_neg hF];refine .row t ver v (by grind[Zct]) hv λo' ho' => ?_;grind[Zgb,frzO,Zfl]|sl t ver lo len ex v ht hv ho => simp only[subV];by_cases hF:F.contains t=true;rw[if_pos hF];split;rename_i y hy;exact .p _ _ (Z7u hr (.sl t ver lo len ex v ht hv ho) hy);refine .sl t ver lo len ex v (by grind[Zct]) hv λo' ho' => ?_;grind[Zgb,frzO];rw[if_neg hF];refine .sl t ver lo len ex v (by grind[Zct]) hv λo' ho' => ?_;grind[Zgb,frzO,SubSl,Zfl]|ptr t ver i off v ht hv ho=>refine .ptr t ver i off v (by grind[Zct]) hv λo' ho' => ?_;grind[Zgb,frzO,PtrTo,Zfl]|nptr=>exact .nptr|fptr cells ad u hO hlt hcell hrel=>exact .fptr cells ad u (λh' => hO (Z4i h')) hlt hcell λj x hx=>(hrel j x hx).fix hfix|agg cs vs hl _ ih=>simp only[subV,Zh7];refine .agg _ vs (by simpa using hl) λi x v hx hv=>?_;grind|tuple cs vs hl _ ih=>simp only[subV,Zh7];refine .tuple _ vs (by simpa using hl) λi x v hx hv=>?_;grind|fn f cs vs hl _ ih=>simp only[subV,Zh7];refine .fn f _ vs (by simpa using hl) λi x v hx hv=>?_;grind|fb f cs vs hl _ ih=>simp only[subV,Zh7];refine .fb f _ vs (by simpa using hl) λi x v hx hv=>?_;grind|nilf=>exact .nilf|yl=>exact .yl|if0=>exact .if0|if1 t x=>exact .if1 t x|gp g off=>exact .gp g off
theorem Ykr(hr:HRel B w0 h ι w):HRel B w0 (frzH h F) (kapF F ι) w:=by
 refine⟨hr.below,hr.base,hr.old,hr.glob,λt o' ho' => ?_,λt t' g ht ht' h1 h2=>?_⟩;rw[Zgb,J0f]at ho';obtain⟨o,h0,rfl⟩:=ho';by_cases hF:F.contains t=true;exact .inl ⟨by grind[frzO],by rw[Zwc hF];rfl⟩;simp only[frzO,if_neg hF];rcases hr.objs t o h0 with⟨a,b⟩|⟨hs,xs,hx,hu⟩
 grind[Zfl];refine .inr ⟨hs,xs,by grind[Zfl],λi e he=>?_⟩;rw[J0m,J0f]at he;grind[Zh7,Z4j];rw[Zct]at ht ht';by_cases hF:F.contains t=true;rw[Zwc hF]at h1;cases h1;by_cases hF' : F.contains t' = true;rw[Zwc hF']at h2;cases h2;rw[Zfl hF]at h1;rw[Zfl hF']at h2;exact hr.inj t t' g ht ht' h1 h2
end
def frzS(F:List Nat)(s:St):St:=⟨s.slots.map (subV F (fzL s.heap F)),frzH s.heap F⟩
def Yks(F:List Nat)(s:St)(ls:List (List AV)):List (List AV):=ls.map (List.map (subV F (fzL s.heap F)))
theorem Z7v{F:List Nat}{h:List AObj}{ι:Em}{B:Nat}{w0 w:World}(hr:HRel B w0 h ι w):∀{ls:List (List AV)} {lt:List (List Value)},LRel h ι w ls lt->LRel (frzH h F) (kapF F ι) w (ls.map (List.map (subV F (fzL h F)))) lt|[],[],_=>trivial|x::xs,v::vs,⟨⟨h1,h2⟩,h3⟩=>by refine⟨⟨by simpa using h1,λi y u hy hu=>?_⟩,Z7v hr h3⟩;grind[Z4j]|[],_::_,h=>h.elim|_::_,[],h=>h.elim
theorem Z2e(F:List Nat)(s:St)(ls:List (List AV)):WeakL s ls (frzS F s) (Yks F s ls):=by intro B w0 ι a w lt hs hl;refine⟨kapF F ι,⟨Ykr hs.heap,by simpa[frzS]using hs.len,λi x v hx hv=>?_,hs.defers⟩,Z7v hs.heap hl,rfl,rfl⟩;simp only[frzS]at hx;rw[J0m,J0f]at hx;obtain⟨x0,h0,rfl⟩:=hx;exact Z4j hs.heap (hs.slot i x0 v h0 hv)
namespace Tr
variable {α:Type}
theorem get_mapIx(f:Nat->α->α):∀(t:Tr α) (g:Nat->Nat) (i:Nat),(mapIx f g t).get i=(t.get i).map (f (g i))
 |.nil,g,i=>rfl|.node l x r,g,i=>by
  cases i with
  |zero=>rfl|succ i =>
   rcases hi:i % 2 with _|k
   simp only[mapIx,get,hi,get_mapIx f l];rw[show 2*(i / 2)+1=i+1 by omega];simp only[mapIx,get,hi,get_mapIx f r];rw[show 2*(i / 2)+2=i+1 by omega]
theorem Yfu(f:α->α):∀(t:Tr α) (i:Nat),(map f t).get i=(t.get i).map f
 |.nil,i=>rfl|.node l x r,i=>by
  cases i with|zero=>rfl|succ i=>simp only[map,get];split<;>exact Yfu f _ _
theorem Rel.map{t:Tr α}{l:List α}(h:Rel t l)(f:α->α):Rel (Tr.map f t) (l.map f):=λi=>by rw[Yfu,h i,J0m]
end Tr
theorem Zth{st:VS}{s:St}(hs:st.Rel s)(F:List Nat):(Z4e F st).Rel (frzS F s):=by
 have e:frzG (Zds F (getT st.heap)) [] 6=fzL s.heap F:=by rw[Zg7 hs.heap];rfl
 refine⟨?_,λi=>?_,?_⟩;show Tr.Rel (Tr.map (subV F (frzG (Zds F (getT st.heap)) [] 6)) st.slots) _;rw[e];exact hs.slots.map _;show(Tr.mapIx (frzO F (frzG (Zds F (getT st.heap)) [] 6)) (λn=>n) st.heap).get i=(frzH s.heap F)[i]?;rw[e,Tr.get_mapIx,Zgb,hs.heap i];show st.n=(frzH s.heap F).length;rw[Zct];exact hs.n
theorem Zqc{st:VS}{s:St}(hs:st.Rel s)(F:List Nat):∀{lows:List (Tr AV)} {ls:List (List AV)},LRels lows ls->LRels (Zp9 F st lows) (Yks F s ls):=by
 have e:frzG (Zds F (getT st.heap)) [] 6=fzL s.heap F:=by rw[Zg7 hs.heap];rfl
 intro lows ls hl;simp only[Zp9,Yks,e]
 induction lows generalizing ls with
 |nil=>cases ls with
  |nil=>trivial|cons l ls=>exact hl.elim
 |cons t ts ih=>cases ls with
  |nil=>exact hl.elim|cons l ls=>exact⟨hl.1.map _,ih hl.2⟩
theorem Ybs{s:St}{gd:Option (Nat×Bool)}(h:Zk s.slots gd=some true):Zk (frzS F s).slots gd=some true:=by
 cases gd with|none=>rfl|some q => obtain⟨d,b⟩:=q;simp only[Zk,frzS,J0m]at h ⊢;split at h;rename_i b' hd;rw[hd];exact h;cases h;cases h
theorem Z7w(hC:∀f pas rs,callF f pas=some rs->Spec P f pas rs){args:List AOpd}(hs:st.Rel s)(hl:LRels lows ls)(ho:a.op = .call f args)(hw:Zk s.slots a.guard=some true) :
    Zk3 P (.steps (a::rest)::frs) s ls (Ykm callF f args a rest frs st lows):=by
  have key:∀{st:VS} {s:St} {lows:List (Tr AV)} {ls:List (List AV)},st.Rel s->LRels lows ls->Zk s.slots a.guard=some true -> ∀(mode:Bool) (pas:List PA) (rs:List RA),Yt s.heap mode (args.map (AOpd.eval s.slots))=some pas->callF f pas=some rs->(mode=true∨Yr rs=true)->Zk3 P (.steps (a::rest)::frs) s ls (.next (.steps rest::frs) (Zv1 st a.dst rs) lows):=λhs hl hw mode pas rs hp hr hm=>⟨_,_,Zpa hs a.dst rs,hl,λQ hq=>KAW.steps (s1:=[a]) (.call _ f args mode pas rs _ _ _ ho hw hp (hC _ _ _ hr) hm (.nil _)) hq⟩;unfold Ykm;dsimp only;split;rename_i pas hp;rw[Z7s hs]at hp;split;rename_i rs hr;exact key hs hl hw true pas rs (by grind[Yt]) hr (.inl rfl);trivial;have hs1:=Zth hs (Zv5 st (args.map (Zam st.slots)));have hl1:=Zqc hs (Zv5 st (args.map (Zam st.slots))) hl;generalize Zv5 st (args.map (Zam st.slots))=F at hs1 hl1;split;rename_i pas hp;rw[Z7s hs1]at hp;split;rename_i rs hr;obtain⟨s',ls',q1,q2,q3⟩:=key hs1 hl1 (Ybs hw) true pas rs (by grind[Yt]) hr (.inl rfl);exact⟨s',ls',q1,q2,λQ hq=>.weak (Z2e F s ls) (q3 Q hq)⟩;trivial;split;rename_i pas hp;rw[Z7s hs,Zg7 hs.heap,Zqa,Yfq]at hp;split;rename_i rs hr;split;rename_i hf;exact key hs hl hw false pas rs (by grind[Yt]) hr (.inr hf);trivial;trivial;trivial
theorem Zti(hC:∀f pas rs,callF f pas=some rs->Spec P f pas rs)(hcb:∀f,V.cb f=true->callable P f=true){pre:List Nat}{ss:List AStep}{st st' : VS}{s:St}(hs:st.Rel s)(h:Yfo callF V pre ss st=some st') :
    ∃s1,st'.Rel s1 /\ ∀{ls:List (List AV)} {frs:List Fr} (Q:Exit->St->Prop),KAW P frs Q s1 ls->KAW P (.code (.reg (some pre) ss)::frs) Q s ls:=by
  unfold Yfo at h;split at h;rename_i L st1 hd;split at h;rename_i ho;obtain rfl:=J0a h;obtain⟨L',s1,k1,k2,k3,k4⟩:=Zqb hC hcb hs hd;exact⟨s1,k4,λQ hq=>.drawn ⟨L',s1,k1,k2,by rw[k3];exact ho,hq⟩⟩;cases h;cases h
theorem Z7x(hC:∀f pas rs,callF f pas=some rs->Spec P f pas rs)(hF:∀f af,V.F f=some af->Z0 P f=some af)(hcb:∀f,V.cb f=true->callable P f=true)
    (hs:st.Rel s) (hl:LRels lows ls):Zk3 P frs s ls (Ykn callF V frs st lows):=by
  unfold Ykn;split;exact⟨s,hs,(λid e=>by cases e),λQ hq=>.here hq⟩;rename_i c frs;split;exact⟨s,ls,hs,hl,λQ hq=>.skip hq⟩;exact⟨s,ls,hs,hl,λQ hq=>.seq hq⟩;rename_i z a b;rw[Zga hs.slots];split;rename_i hz;exact⟨s,ls,hs,hl,λQ hq=>.cond hz hq⟩;rename_i hz;exact⟨s,ls,hs,hl,λQ hq=>.cond hz hq⟩;trivial;exact⟨s,ls,hs,hl,λQ hq=>.block hq⟩;exact⟨s,ls,hs,hl,λQ hq=>.scope hq⟩;exact⟨s,ls,hs,hl,λQ hq=>.loop hq⟩;exact⟨s,ls,hs,hl,λQ hq=>.reg hq⟩;rename_i pre ss;split;rename_i st' hd;obtain⟨s1,k4,k5⟩:=Zti hC hcb hs hd;exact⟨s1,ls,k4,hl,λQ hq=>k5 Q hq⟩;split;rename_i st' hd;obtain⟨s1,k4,k5⟩:=Zti hC hcb (Zth hs (Zp8 ss st)) hd;exact⟨s1,_,k4,Zqc hs (Zp8 ss st) hl,λQ hq=>.weak (Z2e (Zp8 ss st) s ls) (k5 Q hq)⟩;trivial;rename_i id;split;rename_i frs' hx;exact⟨s,ls,hs,hl,λQ hq=>.exit hx hq⟩;rename_i hx;split;rename_i hnb;split;rename_i dst pos frs0 hb;split;rename_i hnr;split;rename_i low lows';cases ls with|nil=>exact hl.elim|cons l ls=>obtain⟨h1,h2⟩:=hl;exact⟨⟨_,s.heap⟩,_,⟨X4 h1 _ _,hs.heap,hs.n⟩,h2.set (Znr (id+2)) pos,λQ hq=>.rndX hx hnb hb hnr hq⟩
  trivial;trivial;trivial;trivial;split;rename_i dst pos frs0 hb;split;rename_i hnr;split;rename_i low lows';cases ls with|nil=>exact hl.elim|cons l ls=>obtain⟨h1,h2⟩:=hl;exact⟨⟨_,s.heap⟩,_,⟨X4 h1 _ _,hs.heap,hs.n⟩,h2.set (Znr 1) pos,λQ hq=>.rndR hb hnr hq⟩
  trivial;trivial;split;rename_i hnb;exact Zk4 hs hl (λQ hb hq=>.retB hb hq) (λQ hk=>.retK rfl hnb hk);trivial;rename_i z ps ac bc;rw[Zga hs.slots];split;rename_i f caps hz;split;rename_i af h1 h2 h3;simp only[J0e]at h3;split;rename_i hres;exact⟨⟨start af.nt (.yl::caps),s.heap⟩,[.p (.int .u64 0)]::s.slots::ls,⟨Zrv _ _,hs.heap,hs.n⟩,⟨Znr 0,hs.slots,hl⟩,λQ hq=>.range hz (hF _ _ h2) (hcb _ h1) hres h3.1 (Yrd hs hl h3.2) hq⟩;trivial;trivial;trivial;trivial;exact⟨s,ls,hs,hl,λQ hq=>.unblk hq⟩;exact⟨s,ls,hs,hl,λQ hq=>.unscp hq⟩;exact⟨s,ls,hs,hl,λQ hq=>.again hq⟩;split;rename_i h1 h2;exact⟨s,ls,hs,hl,λQ hq=>.brd h2 h1 hq⟩;trivial;rename_i dst pos frs0;split;rename_i hnr;split;rename_i low lows';cases ls with|nil=>exact hl.elim|cons l ls=>obtain⟨h1,h2⟩:=hl;exact⟨⟨_,s.heap⟩,_,⟨X4 h1 _ _,hs.heap,hs.n⟩,h2.set (Znr 0) pos,λQ hq=>.rndN hnr hq⟩
  trivial;trivial;trivial;exact Zk4 hs hl (λQ hb hq=>by cases hb) (λQ hk=>.endK rfl hk);exact Zk4 hs hl (λQ hb hq=>by cases hb) (λQ hk=>.endK rfl hk)
  . rename_i ss frs;generalize hops:opsT ss st=r;obtain⟨rest,st1⟩:=r;obtain⟨pre,s1,rfl,k1,k2⟩:=Zpb hs hops;have lift:∀r:VRes,Zk3 P (.steps rest::frs) s1 ls r->Zk3 P (.steps (pre++rest)::frs) s ls r:=by
     intro r hr;cases r with|next frs' st' lows' => obtain⟨s',ls',a,b,c⟩:=hr;exact⟨s',ls',a,b,λQ hq=>.steps k1 (c Q hq)⟩|done e st' => obtain⟨s',a,b,c⟩:=hr;exact⟨s',a,b,λQ hq=>.steps k1 (c Q hq)⟩|stuck n=>trivial
    refine lift _ ?_;clear lift hops k1;split;rename_i heq;simp only[J0i]at heq;obtain⟨rfl,rfl⟩:=heq;exact⟨s1,ls,k2,hl,λQ hq=>.steps_nil hq⟩;rename_i a rest' st' heq;simp only[J0i]at heq;obtain⟨rfl,rfl⟩:=heq;rw[Zv8 k2.slots];split;rename_i hw;split;rename_i f args ho;split;grind[Z7w];rw[Z7s k2];exact Zi1 hF k2 hl λaf haf Q hq=>.callS haf hw ho hq;rename_i x args ho;rw[Zga k2.slots];split;rename_i f caps hx;split;rename_i hc;exact Zi1 hF k2 hl λaf haf Q hq=>.callV haf (hcb _ hc) hw ho hx hq;trivial;rename_i f firsts hx;split;rename_i hc;exact Zi1 hF k2 hl λaf haf Q hq=>.callB haf (hcb _ hc) hw ho hx hq;trivial;rename_i hx;split;rename_i pos ps ac bc hnr hrf;split;rename_i pd lsl hp1 hp2;split;rename_i hp;split;rename_i hlen hlen1;obtain⟨l0,g1,g2⟩:=hl.get hp1;obtain⟨l1,g3,g4⟩:=hl.get hp2;obtain rfl:=Ytj g2 hp hlen1;exact⟨⟨_,s1.heap⟩,s1.slots::ls,⟨Zwa g4,k2.heap,k2.n⟩,⟨k2.slots,hl⟩,λQ hq=>.yield hw ho hx hnr hrf g1 g3 (by grind[Nat.eq_of_beq_eq_true]) hq⟩;trivial;trivial;trivial;trivial;trivial;trivial;trivial
theorem Zwd(hC:∀f pas rs,callF f pas=some rs->Spec P f pas rs)(hF:∀f af,V.F f=some af->Z0 P f=some af)(hcb:∀f,V.cb f=true->callable P f=true) :
    ∀(n:Nat) {frs:List Fr} {st:VS} {s:St} {lows:List (Tr AV)} {ls:List (List AV)} {e:EX'} {st' : VS},st.Rel s->LRels lows ls->vrun callF V n frs st lows=some (e,st') ->
     ∃s',st'.Rel s' /\ (∀id,e ≠ .exit id) /\ ∀Q:Exit->St->Prop,Q e.to s' -> KAW P frs Q s ls
  |0,frs,st,s,lows,ls,e,st',hs,hl,h=>by simp[vrun]at h|n+1,frs,st,s,lows,ls,e,st',hs,hl,h=>by
   simp only[vrun]at h;have hstep:=Z7x (frs:=frs) hC hF hcb hs hl;split at h;rename_i frs1 st1 lows1 hv;rw[hv]at hstep;obtain⟨s1,ls1,k1,k2,k3⟩:=hstep;obtain⟨s',a,b,c⟩:=Zwd hC hF hcb n k1 k2 h;exact⟨s',a,b,λQ hq=>k3 Q (c Q hq)⟩;rename_i e1 st1 hv;rw[hv]at hstep;simp only[J0b,J0i]at h;obtain⟨rfl,rfl⟩:=h;exact hstep;cases h
theorem Zwe{g:AV->Option PV}(hg:∀x,g (.p x)=some x):∀(l:List PV),frzL g (l.map AV.p)=some l|[]=>rfl|x::l=>by rw[List.map_cons,frzL,hg,Zwe hg l]
theorem Zwf{g:AV->Option PV}(hg:∀x,g (.p x)=some x):∀(es:List (List PV)),frzE g (es.map (·.map AV.p))=some es|[]=>rfl|x::es=>by rw[List.map_cons,frzE,Zwe hg,Zwf hg es]
theorem Z7y{bad:List Nat}{own:Bool}{a:AV}{v:RC}(hn:∀cs,a ≠ .agg cs)(hf:rcOf h bad own a=some v):raOf h bad own a=some (.c v):=by
 unfold raOf;split;rename_i cs;exact absurd rfl (hn cs);rw[hf]
variable {x:RC}{T:Nat}
theorem Ykt(hs:match x with|.s _ size _=>0<size|_=>True)(hh:∀(i:Nat) (o:AObj),(Yg x)[i]? = some o->h[T+i]? = some o):rcOf h [] false (Zbm T x)=some x.frz:=by
 cases x with|c v=>rfl|e b=>rfl|s e size es=>have h0:=hh 0 ⟨1,e,size,es.map (·.map .p)⟩ rfl;grind[Zd,Go.Abs.frz,Zwf,Zbm,rcOf,RC.frz]
def RC.pos:RC->Prop|.s _ size _=>0<size|_=>True
def RA.pos:RA->Prop|.c x=>x.pos|.a xs=>∀x∈xs,x.pos
theorem Yfv{h:List AObj}:∀{xs:List RC} {T:Nat},(∀x∈xs,x.pos)->(∀(i:Nat) (o:AObj),(Xk xs)[i]? = some o->h[T+i]? = some o)->Zjz h [] false (Zag T xs)=some (xs.map RC.frz)
 |[],_,_,_=>rfl|x::xs,T,hp,hh=>by
  have h1:=Ykt (h:=h) (x:=x) (T:=T) (by have:=hp x (by simp);cases x<;>exact this) (λi o ho=>hh i o (by
   grind[Xk]))
  have h2:=Yfv (h:=h) (xs:=xs) (T:=T+(Yg x).length) (λy hy=>hp y (by simp[hy])) (λi o ho=>by
   rw[Nat.add_assoc];exact hh _ o (by
    grind[Xk]))
  grind[Zag,Zjz]
theorem Z7z:∀cs,Zbm T x ≠ .agg cs:=by intro cs e;cases x<;>cases e
theorem Yu2{x:RA}(hp:x.pos)(hh:∀(i:Nat) (o:AObj),(Zbr x)[i]? = some o->h[T+i]? = some o):raOf h [] false (Zfh T x)=some x.frz:=by
 cases x with|c x=>refine Z7y Z7z (Ykt (by cases x<;>exact hp) hh)|a xs=>simp only[Zfh,raOf,Yfv hp hh];rfl
theorem Yfw{h:List AObj}:∀{xs:List RA} {T:Nat},(∀x∈xs,x.pos)->(∀(i:Nat) (o:AObj),(Za xs)[i]? = some o->h[T+i]? = some o)->Zcc h [] false (Zg T xs)=some (xs.map RA.frz)
 |[],_,_,_=>rfl|x::xs,T,hp,hh=>by
  have h1:=Yu2 (h:=h) (x:=x) (T:=T) (hp x (by simp)) (λi o ho=>hh i o (by
   grind[Za]))
  have h2:=Yfw (h:=h) (xs:=xs) (T:=T+(Zbr x).length) (λy hy=>hp y (by simp[hy])) (λi o ho=>by
   rw[Nat.add_assoc];exact hh _ o (by
    grind[Za]))
  grind[Zg,Zcc]
variable {pas:List PA}
theorem Spec.frz{P:Program}{rs:List RA}(hp:∀x∈rs,x.pos)(h:Spec P f pas rs):Spec P f pas (rs.map RA.frz):=λO w cargs hO hgl ha =>
 (h O w cargs hO hgl ha).mono λe w' ⟨v,ι,he,hι,hh,hv⟩=>by
  have hx:Zky (Za rs) false (Zg 0 rs)=some (rs.map RA.frz):=by grind[Zky,Yfw]
  have hvs:∃vs:List Value,retC vs=v/\vs.length=(Zg 0 rs).length /\ ∀(i:Nat) (x:AV) (u:Value),(Zg 0 rs)[i]? = some x->vs[i]? = some u->VR (Za rs) ι w' x u:=by
   generalize Zg 0 rs=xs at hv;have tup:xs.length≠1->VR (Za rs) ι w' (.tuple xs) v -> ∃vs:List Value,retC vs=v/\vs.length=xs.length /\ ∀(i:Nat) (x:AV) (u:Value),xs[i]? = some x->vs[i]? = some u->VR (Za rs) ι w' x u:=λhl hv=>by
    cases hv with|tuple _ vs hl2 hr => refine⟨vs.toList,?_,by simp[hl2],λi x u hx hu=>hr i x u hx (by simpa using hu)⟩;unfold retC;split;rename_i a ha;have:=congrArg List.length ha;simp at this;omega;simp
   match xs,hv,tup with
   |[],hv,tup=>exact tup (by simp) hv|[x],hv,_=>exact⟨[v],rfl,rfl,λi y u hy hu=>by
       cases i with|zero=>simp at hy hu;subst hy;subst hu;exact hv|succ i=>simp at hy⟩
   |x::y::xs,hv,tup=>exact tup (by simp) hv
  grind[Z37]
theorem RC.pos_of(h:x.posB=true):x.pos:=by
 cases x with|s e size es=>simpa[RC.posB,RC.pos]using h|_=>trivial
theorem RA.pos_of{x:RA}(h:x.posB=true):x.pos:=by
 cases x with|c x=>exact RC.pos_of h|a xs=>exact λy hy=>RC.pos_of (List.all_eq_true.1 h y hy)
theorem Z70{P:Program}{b:Bool}{r:Option (List RA)}{rs:List RA}(hr:∀rs',r=some rs' -> Spec P f pas rs')(h:Yko b r=some rs):Spec P f pas rs:=by
 unfold Yko at h;split at h;exact hr _ h;split at h;rename_i rs';split at h;rename_i hp;obtain rfl:=J0a h;exact(hr _ rfl).frz λx hx=>RA.pos_of (List.all_eq_true.1 hp x hx);cases h;cases h
theorem Ztj(hK:∀f pas rs,V.K f pas=some rs->Spec P f pas rs)(hF:∀f af,V.F f=some af->Z0 P f=some af)(hcb:∀f,V.cb f=true->callable P f=true)(k:Nat) :
    ∀(d:Nat) (f:FuncId) (pas:List PA) (rs:List RA),Zv6 V k d f pas=some rs->Spec P f pas rs
  |0,f,pas,rs,h=>by simp[Zv6]at h|d+1,f,pas,rs,h=>by
   have ih:=Ztj hK hF hcb k d;simp only[Zv6]at h;split at h;grind;split at h;rename_i af haf;generalize hr:vrun (Zv6 V k d) V k [.code af.body] ⟨Znq af.nt (pas.map PA.av),.nil,0⟩ []=r at h;refine Z70 (r:=vfin af r) (λrs1 h1=>?_) h;clear h;revert h1;intro h;unfold vfin at h;split at h;rename_i e st;obtain⟨s',a,b,c⟩:=Zwd (s:=⟨start af.nt (pas.map PA.av),[]⟩) (lows:=[]) (ls:=[]) ih hF hcb k ⟨Zrv _ _,.nil,rfl⟩ trivial hr;rw[Z4h a]at h;have hee:e.to = .normal∨e.to = .ret:=by
    cases e with|normal=>exact .inl rfl|exit id=>grind|ret=>exact .inr rfl
   split at h;rename_i xs hxs;rw[Zg7 a.heap,Yfs,Yfs]at h;split at h;rename_i rs' hrs;obtain rfl:=J0a h;exact Zwg (own:=true) (hF f af haf) (c _ ⟨hee,xs,hxs,hrs⟩);exact Zwg (own:=false) (hF f af haf) (c _ ⟨hee,xs,hxs,h⟩);cases h;cases h;cases h
end
end Go.Abs
