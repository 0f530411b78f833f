/- The abstract machine and its soundness, part VM2. -/
import Derived.Test.YtenldcjkpgmpnaaGreatDoorTAbsVM1
set_option linter.constructorNameAsVariable false
set_option linter.unusedVariables false
set_option linter.unusedSectionVars false
set_option linter.unusedSimpArgs false
namespace Go.Abs
variable [GTab] [Glob]

namespace Tr
variable {α:Type}
theorem Z03 (v:α):∀ (t:Tr α) (i j:Nat),(t.upd v i).get j=if i=j then (t.get j).map (fun _=>v) else t.get j
 | .nil,i,j=>by simp [upd,get]
 | .node l x r,i,j=>by
  cases i with
  | zero =>
   cases j with
   | zero=>simp [upd,get]
   | succ j=>simp [upd,get]
  | succ i =>
   have hl:=Z03 v l (i / 2) (j.pred / 2);have hr:=Z03 v r (i / 2) (j.pred / 2);rcases hi:i % 2 with _ | k
   . have e1:(Tr.node l x r).upd v (i+1) = .node (l.upd v (i / 2)) x r:=by simp [upd,hi]
     rw [e1];cases j with
     | zero=>simp [get]
     | succ j =>
      simp only [Nat.pred_succ] at hl;rcases hj:j % 2 with _ | m
      . simp only [get,hj,hl,Nat.add_right_cancel_iff];by_cases h:i=j
        . subst h;simp
        . rw [if_neg h,if_neg (by omega)]
      . simp only [get,hj,Nat.add_right_cancel_iff];rw [if_neg (by omega)]
   . have e1:(Tr.node l x r).upd v (i+1) = .node l x (r.upd v (i / 2)):=by simp [upd,hi]
     rw [e1];cases j with
     | zero=>simp [get]
     | succ j =>
      simp only [Nat.pred_succ] at hr;rcases hj:j % 2 with _ | m
      . simp only [get,hj,Nat.add_right_cancel_iff];rw [if_neg (by omega)]
      . simp only [get,hj,hr,Nat.add_right_cancel_iff];by_cases h:i=j
        . subst h;simp
        . rw [if_neg h,if_neg (by omega)]

theorem Zt9 (v:α):∀ (t:Tr α) (n:Nat),(∀ i,i<n->(t.get i).isSome)->(∀ i,n<=i->t.get i=none) -> ∀ j,(t.push v n).get j=if j=n then some v else t.get j
 | .nil,n,h1,h2,j=>by
  have hn:n=0:=by
   rcases Nat.eq_zero_or_pos n with h | h
   . exact h
   . have:=h1 0 h;simp [get] at this
  subst hn;cases j with
  | zero=>simp [push,get]
  | succ j=>simp only [push,get];split <;> simp
 | .node l x r,n,h1,h2,j=>by
  cases n with
  | zero=>have:=h2 0 (Nat.le_refl _);simp [get] at this
  | succ n =>
   rcases hn:n % 2 with _ | k
   . have e1:(Tr.node l x r).push v (n+1) = .node (l.push v (n / 2)) x r:=by simp [push,hn]
     rw [e1];have ih:=Zt9 v l (n / 2) (fun i hi=>by
      have:=h1 (2 * i+1) (by omega);simpa [get,show 2 * i % 2=0 by omega,show 2 * i / 2=i by omega] using this) (fun i hi=>by
      have:=h2 (2 * i+1) (by omega);simpa [get,show 2 * i % 2=0 by omega,show 2 * i / 2=i by omega] using this)
     cases j with
     | zero=>simp [get]
     | succ j =>
      rcases hj:j % 2 with _ | m
      . simp only [get,hj,ih,Nat.add_right_cancel_iff];by_cases h:j=n
        . subst h;simp
        . rw [if_neg h,if_neg (by omega)]
      . simp only [get,hj,Nat.add_right_cancel_iff];rw [if_neg (by omega)]
   . have e1:(Tr.node l x r).push v (n+1) = .node l x (r.push v (n / 2)):=by simp [push,hn]
     rw [e1];have ih:=Zt9 v r (n / 2) (fun i hi=>by
      have:=h1 (2 * i+2) (by omega);simpa [get,show (2 * i+1) % 2=1 by omega,show (2 * i+1) / 2=i by omega] using this) (fun i hi=>by
      have:=h2 (2 * i+2) (by omega);simpa [get,show (2 * i+1) % 2=1 by omega,show (2 * i+1) / 2=i by omega] using this)
     cases j with
     | zero=>simp [get]
     | succ j =>
      rcases hj:j % 2 with _ | m
      . simp only [get,hj,Nat.add_right_cancel_iff];rw [if_neg (by omega)]
      . simp only [get,hj,ih,Nat.add_right_cancel_iff];by_cases h:j=n
        . subst h;simp
        . rw [if_neg h,if_neg (by omega)]

theorem Z04 {p:α->Bool}:∀ {t:Tr α},t.all p=true -> ∀ {i:Nat} {x:α},t.get i=some x->p x=true
 | .nil,_,i,x,h=>by simp [get] at h
 | .node l y r,ha,i,x,h=>by
  simp only [all,J0e] at ha;cases i with
  | zero=>simp only [get,J0b] at h;subst h;exact ha.1
  | succ i =>
   simp only [get] at h;split at h
   . exact Z04 ha.2.1 h
   . exact Z04 ha.2.2 h

def Rel (t:Tr α)(l:List α):Prop:=∀ i,t.get i=l[i]?
theorem Rel.nil:Rel (.nil:Tr α) []:=fun i=>by simp [get]
theorem Rel.upd {t:Tr α}{l:List α}(h:Rel t l)(v:α)(i:Nat):Rel (t.upd v i) (l.set i v):=fun j=>by
 rw [Z03,h j,List.getElem?_set];by_cases e:i=j
 . subst e;simp only [if_true];by_cases hl:i<l.length
   . rw [if_pos hl,J0c hl];rfl
   . rw [if_neg hl,List.getElem?_eq_none (by omega)];rfl
 . rw [if_neg e,if_neg e]
theorem Rel.push {t:Tr α}{l:List α}(h:Rel t l)(v:α):Rel (t.push v l.length) (l++[v]):=fun j=>by
 rw [Zt9 v t l.length (fun i hi=>by rw [h i,J0c hi];rfl) (fun i hi=>by rw [h i,List.getElem?_eq_none hi]),h j];by_cases e:j=l.length
 . subst e;simp
 . rw [if_neg e];by_cases hl:j<l.length
   . rw [List.getElem?_append_left hl]
   . rw [List.getElem?_eq_none (by omega),List.getElem?_eq_none (by simp;omega)]
theorem Rel.ofList:∀ {xs:List α} {t:Tr α} {l:List α},Rel t l->Rel (Tr.ofList xs l.length t) (l++xs)
 | [],t,l,h=>by simpa [Tr.ofList] using h
 | x::xs,t,l,h=>by have:=Rel.ofList (xs:=xs) (h.push x);simp only [J0s,J0p,List.length_nil,Nat.zero_add,List.append_assoc,List.cons_append,List.nil_append] at this;exact this
theorem Rel.all {p:α->Bool}{t:Tr α}{l:List α}(h:Rel t l)(ha:t.all p=true):l.all p=true:=by rw [List.all_eq_true];intro x hx;obtain⟨i,hi⟩:=List.getElem?_of_mem hx;exact Z04 ha ((h i).trans hi)
end Tr

/-! ### operations -/
section
variable (h:List AObj)
theorem Z4d (T:Nat)(ρ:AOpd->AV)(op:AOp):Ye1 (Zd h) T ρ op=Zc h T ρ op:=by cases op <;> rfl
theorem Yaq (bad:List Nat):∀ n x,frzG (Zd h) bad n x=frz h bad n x
 | 0,x=>rfl
 | n+1,x=>by have ih:frzG (Zd h) bad n=frz h bad n:=funext (Yaq bad n);cases x <;> first | rfl | (simp only [frzG,frz,ih];rfl)
theorem Zo6 (bad:List Nat)(n:Nat):frzG (Zd h) bad n=frz h bad n:=funext (Yaq h bad n)
theorem Yar:ptrG (Zd h)=ptrC h:=by funext x;cases x <;> first | rfl | (simp only [ptrG,ptrC,Zo6];rfl)
theorem Ye5 (bad:List Nat)(own:Bool):rcG (Zd h) bad own=rcOf h bad own:=by funext x;cases x <;> (simp only [rcG,rcOf,Zo6];try rfl)
theorem Yas (bad:List Nat)(own:Bool):∀ xs,rcsG (Zd h) bad own xs=Zjm h bad own xs
 | []=>rfl
 | x::xs=>by simp only [rcsG,Zjm,Ye5,Yas bad own xs];rfl
theorem Yog (bad:List Nat)(own:Bool):raG (Zd h) bad own=raOf h bad own:=by funext x;cases x <;> (simp only [raG,raOf,Ye5,Yas];try rfl)
theorem Z4e (bad:List Nat)(own:Bool):∀ xs,Z4b (Zd h) bad own xs=Zcg h bad own xs
 | []=>rfl
 | x::xs=>by simp only [Z4b,Zcg,Yog,Z4e bad own xs];rfl
theorem Yat (own:Bool)(xs:List AV):rasG (Zd h) own xs=Zj7 h own xs:=by simp only [rasG,Zj7,Z4e]
theorem Z4f (tau:List Nat):Zdr tau (Zd h)=Zd (Zbb tau 0 h):=by
 funext t ver;unfold Zdr Zd;rw [Zmq];simp only [Nat.zero_add];cases h[t]? with
 | none=>simp
 | some o =>
  simp only [Option.map_some];split
  . rfl
  . rw [if_neg];rintro⟨_,h2⟩;exact h2 rfl
end

structure VS.Rel (st:VS) (s:St):Prop where
 slots:Tr.Rel st.slots s.slots
 heap:Tr.Rel st.heap s.heap
 n:st.n=s.heap.length
def LRels:List (Tr AV)->List (List AV)->Prop
 | [],[]=>True
 | t::ts,l::ls=>Tr.Rel t l/\LRels ts ls
 | _,_=>False

section
variable {st:VS} {s:St}
theorem Zgv {h:Tr AObj}{l:List AObj}(hr:Tr.Rel h l):getT h=Zd l:=by funext t ver;show (match h.get t with | some o=>if o.ver=ver/\o.size≠0 then some o else none | none=>none)=_;rw [hr t];rfl
theorem Yau {t:Tr AV}{l:List AV}(hr:Tr.Rel t l)(n:Nat):slot t n=l.getD n .any:=by unfold slot;rw [hr n,List.getD];cases l[n]? <;> rfl
theorem Zf3 {t:Tr AV}{l:List AV}(hr:Tr.Rel t l):Zat t=AOpd.eval l:=by
 funext x;cases x with
 | t n=>exact Yau hr n
 | c v=>rfl
theorem Zua {t:Tr AV}{l:List AV}(hr:Tr.Rel t l)(gd:Option (Nat×Bool)):Yao t gd=Zk l gd:=by
 cases gd with
 | none=>rfl
 | some p=>obtain⟨d,b⟩:=p;show (match t.get d with | some (.p (.bool b'))=>some (b' == b) | some .u=>some false | _=>none)=_;rw [hr d];rfl
theorem Qa {t:Tr AV}{l:List AV}(hr:Tr.Rel t l)(d:Option Nat)(v:AV):Tr.Rel (setT t d v) (setD l d v):=by
 cases d with
 | none=>exact hr
 | some d=>exact hr.upd v d
theorem Zrv:∀ {k:List AObj} {h:Tr AObj} {l:List AObj} {n:Nat},Tr.Rel h l->n=l.length->Tr.Rel (Zid h n k).1 (l++k)/\(Zid h n k).2=(l++k).length
 | [],h,l,n,hr,hn=>by simp only [Zid,List.append_nil];exact⟨hr,hn⟩
 | o::k,h,l,n,hr,hn=>by subst hn;have:=Zrv (k:=k) (hr.push o) (n:=l.length+1) (by simp);simpa [Zid] using this
theorem Zqp (nt:Nat)(args:List AV):Tr.Rel (Zmr nt args) (start nt args):=by have:=Tr.Rel.ofList (xs:=start nt args) (Tr.Rel.nil (α:=AV));simpa [Zmr] using this
theorem LRels.get:∀ {ts:List (Tr AV)} {ls:List (List AV)},LRels ts ls -> ∀ {i:Nat} {t:Tr AV},ts[i]? = some t -> ∃ l,ls[i]? = some l/\Tr.Rel t l
 | [],_,_,i,t,ht=>by simp at ht
 | t' :: ts,l' :: ls,⟨h1,h2⟩,0,t,ht=>by simp at ht;subst ht;exact⟨l',rfl,h1⟩
 | t' :: ts,l' :: ls,⟨h1,h2⟩,i+1,t,ht=>LRels.get h2 (i:=i) (by simpa using ht)
theorem LRels.set {t:Tr AV}{l:List AV}(hr:Tr.Rel t l):∀ {ts:List (Tr AV)} {ls:List (List AV)},LRels ts ls -> ∀ i,LRels (ts.set i t) (ls.set i l)
 | [],[],_,i=>trivial
 | t' :: ts,l' :: ls,⟨h1,h2⟩,0=>⟨hr,h2⟩
 | t' :: ts,l' :: ls,⟨h1,h2⟩,i+1=>⟨h1,LRels.set hr h2 i⟩
theorem LRels.all {p:AV->Bool}:∀ {ts:List (Tr AV)} {ls:List (List AV)},LRels ts ls->ts.all (Tr.all p)=true->ls.all (fun l=>l.all p)=true
 | [],[],_,_=>rfl
 | t::ts,l::ls,⟨h1,h2⟩,h=>by simp only [List.all_cons,J0e] at h ⊢;exact⟨h1.all h.1,LRels.all h2 h.2⟩
theorem Zub:∀ (l:List AV),noYL l=l.all AV.noY
 | []=>rfl
 | x::xs=>by simp only [noYL,List.all_cons,Zub xs]
theorem Zms (p:Nat):Tr.Rel (pend p) [.p (.int .u64 (Int.ofNat p))]:=fun i=>by
 cases i with
 | zero=>rfl
 | succ i=>simp only [pend,Tr.get];split <;> simp
theorem Zuc:∀ {ps:List (Nat×AV)} {t:Tr AV} {l:List AV},Tr.Rel t l->Tr.Rel (Z7p t ps) (Zjn l ps)
 | [],t,l,h=>h
 | (a,v)::ps,t,l,h=>Zuc (ps:=ps) (h.upd v a)
theorem Yku {lows:List (Tr AV)}{ls:List (List AV)}(hs:st.Rel s)(hl:LRels lows ls)(h:noYT st lows=true):(noYL s.slots&&s.heap.all noYO&&ls.all noYL)=true:=by
 simp only [noYT,J0e] at h;obtain⟨h1,h2,h3⟩:=h;have e:noYL=fun l=>l.all AV.noY:=funext Zub;simp only [J0e];refine⟨⟨?_,hs.heap.all h2⟩,?_⟩
 . rw [Zub];exact hs.slots.all h1
 . rw [e];exact hl.all h3
end

section
variable {P:Program} {callF:FuncId->List PA->Option (List RA)} {V:VP}
theorem Z4g {st:VS}{s:St}(hs:st.Rel s)(args:List AOpd):args.map (Zat st.slots)=args.map (AOpd.eval s.slots):=by rw [Zf3 hs.slots]

theorem Zka:∀ (os:List AObj) (T:Nat),(tagged T os).map (·.1)=List.range' T os.length
 | [],_=>rfl
 | o::os,T=>by simp [tagged,Zka os,List.range'_succ]

theorem Zn7 {st:VS}{s:St}(hs:st.Rel s)(dst:Option Nat)(rs:List RA):(Zt3 st dst rs).Rel ⟨setD s.slots dst (retV (Zh s.heap.length rs)),s.heap++Za rs⟩:=by obtain⟨h1,h2⟩:=Zrv (k:=Za rs) hs.heap hs.n;refine⟨?_,h1,h2⟩;show Tr.Rel (setT st.slots dst (retV (Zh st.n rs))) _;rw [hs.n];exact Qa hs.slots _ _

theorem Zkb (hF:∀ f pas rs,callF f pas=some rs->Spec P f pas rs){a:AStep}{f:FuncId}{avs:List AV}{st st1:VS}{s:St}(hs:st.Rel s)(hcd:Called P a.op s.slots f avs)(hw:Zk s.slots a.guard=some true){y:AV}{wr tau:List Nat}
    (h:Zo3 callF f avs a.dst st=some (y,wr,tau,st1)):∃ wr' h1,StepS P a tau s y wr' h1/\wr'.map (·.1)=wr/\st1.Rel ⟨setD s.slots a.dst y,h1⟩:=by
  unfold Zo3 at h;split at h
  . rename_i pas hp;split at h
    . rename_i rs hrs;simp only [J0b,J0i] at h;obtain⟨rfl,rfl,rfl,rfl⟩:=h;have hst:=StepS.call (tau:=List.range' st.n (Za rs).length) f avs true pas rs hcd hw (by simp only [Yv,if_true];exact hp) (hF _ _ _ hrs) (.inl rfl);have:=Zn7 hs a.dst rs;rw [hs.n] at hst ⊢;exact⟨_,_,hst,Zka _ _,this⟩
    . cases h
  . have e:Zdr (avs.flatMap (Zhf (fun t=>st.heap.get t) 6)) (getT st.heap)=Zd (Zbb (avs.flatMap (Zhf (fun t=>st.heap.get t) 6)) 0 s.heap):=by rw [Zgv hs.heap,Z4f]
    rw [e] at h;split at h
    . rename_i pas hp;rw [Zo6,Yar] at hp;split at h
      . rename_i rs hrs;split at h
        . rename_i hfl;simp only [J0b,J0i] at h;obtain⟨rfl,rfl,rfl,rfl⟩:=h;have hst:=StepS.call (tau:=avs.flatMap (Zhf (fun t=>st.heap.get t) 6)++List.range' st.n (Za rs).length) f avs false pas rs hcd hw (by
           refine Zj9 (Zqo fun t ht=>by simp only [List.contains_iff_mem,List.mem_append] at ht ⊢;exact .inl ht) ?_;simp only [Yv,J0r,if_false];exact hp) (hF _ _ _ hrs) (.inr hfl)
          have:=Zn7 hs a.dst rs;rw [hs.n] at hst ⊢;exact⟨_,_,hst,Zka _ _,this⟩
        . cases h
      . cases h
    . cases h

theorem Zud (hF:∀ f pas rs,callF f pas=some rs->Spec P f pas rs)(hcb:∀ f,V.cb f=true->callable P f=true){a:AStep}{st st1:VS}{s:St}(hs:st.Rel s){y:AV}{wr tau:List Nat}
    (h:Zt4 callF V a st=some (y,wr,tau,st1)):∃ wr' h1,StepS P a tau s y wr' h1/\wr'.map (·.1)=wr/\st1.Rel ⟨setD s.slots a.dst y,h1⟩:=by
  unfold Zt4 at h;rw [Zua hs.slots] at h;split at h
  . rename_i hw;simp only [J0b,J0i] at h;obtain⟨rfl,rfl,rfl,rfl⟩:=h;exact⟨_,_,.skip hw,rfl,Qa hs.slots _ _,hs.heap,hs.n⟩
  . rename_i hw;split at h
    . rename_i ao ho;rw [Zgv hs.heap,Zf3 hs.slots,Z4f,hs.n,Z4d] at h;split at h
      . rename_i y' eff he;split at h
        . simp only [J0b,J0i] at h;obtain⟨rfl,rfl,rfl,rfl⟩:=h;exact⟨_,_,.op ao _ .none ho hw he (fun t o e=>by cases e),rfl,Qa hs.slots _ _,hs.heap,rfl⟩
        . simp only [J0b,J0i] at h;obtain⟨rfl,rfl,rfl,rfl⟩:=h;exact⟨_,_,.op ao _ .grow ho hw he (fun t o e=>by cases e),rfl,Qa hs.slots _ _,hs.heap,rfl⟩
        . rename_i o;simp only [J0b,J0i] at h;obtain⟨rfl,rfl,rfl,rfl⟩:=h;refine⟨_,_,.op ao _ (.new o) ho hw (Zic (Zqo fun t ht=>by simp only [List.contains_iff_mem,List.mem_cons] at ht ⊢;exact .inr ht) he) (fun t o e=>by cases e),rfl,Qa hs.slots _ _,?_,?_⟩
          . exact hs.heap.push o
          . simp [effH]
        . rename_i t o;split at h
          . rename_i hlt;simp only [J0b,J0i] at h;obtain⟨rfl,rfl,rfl,rfl⟩:=h;refine⟨_,_,.op ao _ (.upd t o) ho hw he (fun t' o' e=>by cases e;exact Nat.blt_eq.mp hlt),rfl,Qa hs.slots _ _,?_,?_⟩
            . exact hs.heap.upd o t
            . simp [effH]
          . cases h
      . cases h
    . rename_i f args ho;rw [Z4g hs] at h;exact Zkb hF hs (.st args ho) hw h
    . rename_i x args ho;rw [Zf3 hs.slots] at h;split at h
      . rename_i f caps hx;split at h
        . rename_i hc;exact Zkb hF hs (.vl x args caps ho hx (hcb f hc)) hw h
        . cases h
      . cases h
  . cases h

theorem Zo7 (hF:∀ f pas rs,callF f pas=some rs->Spec P f pas rs)(hcb:∀ f,V.cb f=true->callable P f=true):∀ {ss:List AStep} {st st1:VS} {s:St} {L:List (List Nat×List Nat)},st.Rel s->Zt5 callF V ss st=some (L,st1) ->
    ∃ L' s1,TraceS P L' s s1/\L'.map (·.1)=ss/\L'.map evI=L/\st1.Rel s1
  | [],st,st1,s,L,hs,h=>by simp only [Zt5,J0b,J0i] at h;obtain⟨rfl,rfl⟩:=h;exact⟨[],s,.nil _,rfl,rfl,hs⟩
  | a::ss,st,st1,s,L,hs,h=>by
   simp only [Zt5] at h;split at h
   . rename_i y wr tau st2 h1;split at h
     . rename_i L2 st3 h2;simp only [J0b,J0i] at h;obtain⟨rfl,rfl⟩:=h;obtain⟨wr',h3,g1,g2,g3⟩:=Zud hF hcb hs h1;obtain⟨L',s1,k1,k2,k3,k4⟩:=Zo7 hF hcb g3 h2;exact⟨_,s1,.cons a y wr' tau h3 L' s s1 g1 k1,by rw [List.map_cons,k2],by rw [List.map_cons,k3,<- g2];rfl,k4⟩
     . cases h
   . cases h

theorem Zn8:∀ {ss rest:List AStep} {st st1:VS} {s:St},st.Rel s->opsT ss st=(rest,st1) -> ∃ pre s1,ss=pre++rest/\ASteps P pre s s1/\st1.Rel s1
 | [],rest,st,st1,s,hs,h=>by simp only [opsT,J0i] at h;obtain⟨rfl,rfl⟩:=h;exact⟨[],s,rfl,.nil _,hs⟩
 | a::ss,rest,st,st1,s,hs,h=>by
  have stop:((a::ss,st):List AStep×VS)=(rest,st1) -> ∃ pre s1,a::ss=pre++rest/\ASteps P pre s s1/\st1.Rel s1:=fun h=>by simp only [J0i] at h;obtain⟨rfl,rfl⟩:=h;exact⟨[],s,rfl,.nil _,hs⟩
  simp only [opsT] at h;rw [Zua hs.slots] at h;split at h
  . rename_i hw;obtain⟨pre,s1,rfl,k1,k2⟩:=Zn8 (st:=⟨setT st.slots a.dst .u,st.heap,st.n⟩) (s:=⟨setD s.slots a.dst .u,s.heap⟩) ⟨Qa hs.slots _ _,hs.heap,hs.n⟩ h;exact⟨a::pre,s1,rfl,.skip _ _ _ _ hw k1,k2⟩
  . rename_i hw;split at h
    . rename_i ao ho;rw [Zgv hs.heap,Zf3 hs.slots,hs.n,Z4d] at h;split at h
      . rename_i y eff he;have go:∀ st2:VS,st2.Rel ⟨setD s.slots a.dst y,effH s.heap eff⟩->opsT ss st2=(rest,st1) -> ∃ pre s1,a::ss=pre++rest/\ASteps P pre s s1/\st1.Rel s1:=fun st2 h2 h3=>by obtain⟨pre,s1,rfl,k1,k2⟩:=Zn8 h2 h3;exact⟨a::pre,s1,rfl,.op _ ao _ _ y eff _ ho hw he k1,k2⟩
        split at h
        . exact go ⟨setT st.slots a.dst y,st.heap,s.heap.length⟩ ⟨Qa hs.slots _ _,hs.heap,rfl⟩ h
        . exact go ⟨setT st.slots a.dst y,st.heap,s.heap.length⟩ ⟨Qa hs.slots _ _,hs.heap,rfl⟩ h
        . rename_i o;exact go ⟨setT st.slots a.dst y,st.heap.push o s.heap.length,s.heap.length+1⟩ ⟨Qa hs.slots _ _,hs.heap.push o,by simp [effH]⟩ h
        . rename_i t o;exact go ⟨setT st.slots a.dst y,st.heap.upd o t,s.heap.length⟩ ⟨Qa hs.slots _ _,hs.heap.upd o t,by simp [effH]⟩ h
      . exact stop h
    . exact stop h
  . exact stop h
end

/-! ### one step -/
def Zkc (P:Program)(frs:List Fr)(s:St)(ls:List (List AV)):VRes->Prop
 | .next frs' st' lows' => ∃ s' ls',st'.Rel s' /\ LRels lows' ls' /\ ∀ Q,KAW P frs' Q s' ls' -> KAW P frs Q s ls
 | .done e st' => ∃ s',st'.Rel s' /\ (∀ id,e ≠ .exit id) /\ ∀ Q:Exit->St->Prop,Q e.to s' -> KAW P frs Q s ls
 | .stuck _=>True

section
variable {P:Program} {callF:FuncId->List PA->Option (List RA)} {V:VP} {frs:List Fr} {st:VS} {s:St} {lows:List (Tr AV)} {ls:List (List AV)}
theorem Z05 (hs:st.Rel s):∀ res,resG (getT st.heap) (slot st.slots) res=resV s res
 | []=>rfl
 | r::rs=>by
  have h1:Ymz (getT st.heap) (slot st.slots) r=res1 s r:=by
   have e:slot st.slots=fun n=>s.slots.getD n .any:=funext (Yau hs.slots);rw [Zgv hs.heap,e];cases r with
   | tmp t=>rfl
   | cell t m=>cases m <;> rfl
  simp only [resG,resV,h1,Z05 hs rs];rfl
theorem Ym0 {pd:Tr AV}{l:List AV}(h:Tr.Rel pd l){p:Int}(hp:pd.get 0=some (.p (.int .u64 p)))(h1:pd.get 1=none):l=[.p (.int .u64 p)]:=by
 rw [h 0] at hp;rw [h 1] at h1
 match l,hp,h1 with
 | [x],hp,_=>simp at hp;rw [hp]
 | x::y::l,_,h1=>simp at h1
 | [],hp,_=>simp at hp

theorem Zkd (hs:st.Rel s)(hl:LRels lows ls){frs0:List Fr}(hgo:∀ Q,botF frs=[]->Q .ret s->KAW P frs0 Q s ls)(hret:∀ Q,KRet P (botF frs) Q s ls->KAW P frs0 Q s ls):Zkc P frs0 s ls (Z4c frs st lows):=by
 unfold Z4c;split
 . rename_i hb;exact⟨s,hs,(fun id e=>by cases e),fun Q hq=>hgo Q hb hq⟩
 . rename_i res dst fr2 hb;rw [hb] at hret;split
   . rename_i low lows';cases ls with
     | nil=>exact hl.elim
     | cons l ls =>
      obtain⟨h1,h2⟩:=hl;rw [Z05 hs];split
      . rename_i xs hx;exact⟨⟨setD l dst (retV xs),s.heap⟩,ls,⟨Qa h1 _ _,hs.heap,hs.n⟩,h2,fun Q hk=>hret Q (.fn hx hk)⟩
      . trivial
   . trivial
 . rename_i ps ac bc fr2 hb;rw [hb] at hret;split
   . rename_i pd low lows'
     match ls,hl with
     | l0::l::ls,⟨h0,h1,h2⟩ =>
      split
      . rename_i hnr;have key:∀ p:Int,l0=[.p (.int .u64 p)] -> ∀ (frs' : List Fr),(∀ Q,KAW P frs' Q ⟨l,s.heap⟩ ls->KRet P (.rf ps ac bc::fr2) Q s ([.p (.int .u64 p)]::l::ls))->Zkc P frs0 s (l0::l::ls) (.next frs' ⟨low,st.heap,st.n⟩ lows'):=by intro p e frs' hk;subst e;exact⟨⟨l,s.heap⟩,ls,⟨h1,hs.heap,hs.n⟩,h2,fun Q hq=>hret Q (hk Q hq)⟩
        split
        . rename_i p hp;split
          . rename_i hl1;have e:=Ym0 h0 hp hl1;split
            . exact key _ e _ fun Q hq=>.rf (fun _=>hq) (fun e=>by cases e) (fun id e=>absurd (show ((0:Nat):Int)=(id:Int)+2 from e) (by omega)) hnr
            . exact key _ e _ fun Q hq=>.rf (fun e=>by cases e) (fun _=>hq) (fun id e=>absurd (show ((1:Nat):Int)=(id:Int)+2 from e) (by omega)) hnr
            . rename_i id;exact key _ e _ fun Q hq=>.rf (fun e=>absurd (show ((id+2:Nat):Int)=0 from e) (by omega)) (fun e=>absurd (show ((id+2:Nat):Int)=1 from e) (by omega)) (fun id' e=>by
               have:id' = id:=by have:((id+2:Nat):Int)=(id' : Int)+2:=e;omega
               subst this;exact hq) hnr
            . trivial
          . trivial
        . trivial
      . trivial
   . trivial
 . trivial

theorem Zie (hF:∀ f af,V.F f=some af->Z6 P f=some af){f:FuncId}{avs:List AV}{a:AStep}{rest:List AStep}(hs:st.Rel s)(hl:LRels lows ls)
    (hk:∀ af,Z6 P f=some af -> ∀ Q,KAW P (.code af.body :: .fn af.res a.dst :: .steps rest::frs) Q ⟨start af.nt avs,s.heap⟩ (s.slots::ls)->KAW P (.steps (a::rest)::frs) Q s ls) :
    Zkc P (.steps (a::rest)::frs) s ls (Zt6 V f avs a rest frs st lows):=by
  unfold Zt6;split
  . rename_i af haf;exact⟨⟨start af.nt avs,s.heap⟩,s.slots::ls,⟨Zqp _ _,hs.heap,hs.n⟩,⟨hs.slots,hl⟩,hk af (hF f af haf)⟩
  . trivial

/-! ### objects that become pure -/
theorem Zf4 (F:List Nat)(fz:AV->Option PV):∀ cs:List AV,subL F fz cs=cs.map (subV F fz)
 | []=>rfl
 | x::xs=>by simp only [subL,List.map_cons,Zf4 F fz xs]
def fzL (h:List AObj)(F:List Nat):AV->Option PV:=frzG (Zdr F (Zd h)) [] 6
def kapF (F:List Nat)(ι:Em):Em:=⟨fun t=>if F.contains t then .bool true else ι t,ι.O,ι.Y,ι.D⟩
def frzH (h:List AObj)(F:List Nat):List AObj:=h.mapIdx (frzO F (fzL h F))
theorem Zcy (h:List AObj)(F:List Nat):(frzH h F).length=h.length:=by simp [frzH]
theorem Zf5 (h:List AObj)(F:List Nat)(t:Nat):(frzH h F)[t]? = (h[t]?).map (frzO F (fzL h F) t):=by simp [frzH]
theorem Zue {F:List Nat}{ι:Em}{t:Nat}(h:F.contains t=true):kapF F ι t = .bool true:=if_pos h
theorem Zfe {F:List Nat}{ι:Em}{t:Nat}(h:¬ F.contains t=true):kapF F ι t=ι t:=if_neg h
theorem Z06 {h:List AObj}{F:List Nat}{ι:Em}{g:Nat}(ho:Own (frzH h F).length (kapF F ι) g):Own h.length ι g:=by
 rcases ho with ho | ⟨t,ht,hb⟩
 . exact .inl ho
 . by_cases hF:F.contains t=true
   . rw [Zue hF] at hb;cases hb
   . rw [Zfe hF] at hb;exact .inr ⟨t,by rw [Zcy] at ht;exact ht,hb⟩
def badF (h:List AObj)(F:List Nat):List Nat:=(List.range h.length).filter fun t=>!F.contains t
theorem Ykv {h:List AObj}{F:List Nat}{t:Nat}(hF:F.contains t=true):(badF h F).contains t=false:=by
 cases hb:(badF h F).contains t with
 | false=>rfl
 | true=>rw [List.contains_iff_mem] at hb;simp only [badF,List.mem_filter,hF,Bool.not_true,J0r,and_false] at hb
theorem Ye6 {h:List AObj}{F:List Nat}{t:Nat}(ht:t<h.length)(hb:(badF h F).contains t=false):F.contains t=true:=by
 cases hF:F.contains t with
 | true=>rfl
 | false =>
  have:(badF h F).contains t=true:=by rw [List.contains_iff_mem];simp [badF,ht,-List.contains_eq_mem,hF]
  rw [this] at hb;cases hb
theorem Z4h {h:List AObj}{F:List Nat}:∀ (n:Nat) {x:AV} {y:PV},frzG (Zdr F (Zd h)) [] n x=some y->frz h (badF h F) n x=some y
 | 0,x,y,hf=>by simp [frzG] at hf
 | n+1,x,y,hf=>by
  have ih:∀ x y,frzG (Zdr F (Zd h)) [] n x=some y->frz h (badF h F) n x=some y:=fun x y=>Z4h n;have key:∀ (t ver:Nat) (sel:AObj->List (List AV)),(if ([]:List Nat).contains t then none else match Zdr F (Zd h) t ver with | some o=>(match frzE (frzG (Zdr F (Zd h)) [] n) (sel o) with | some es=>some (PV.sl es) | none=>none) | none=>none)=some y ->
      (if (badF h F).contains t then none else match Zd h t ver with | some o=>(match frzE (frz h (badF h F) n) (sel o) with | some es=>some (PV.sl es) | none=>none) | none=>none)=some y:=by
    intro t ver sel hf;simp only [List.contains_nil,J0r,if_false] at hf;unfold Zdr at hf;split at hf
    . rename_i o ho;split at ho
      . rename_i hF;rw [Ykv hF];simp only [J0r,if_false,ho];split at hf
        . rename_i es hes;rw [Zmp (h:=h) (h' := h) (fun _ _ _ e=>e) ih hes];exact hf
        . cases hf
      . cases ho
    . cases hf
  cases x with
  | row t ver=>exact key t ver _ hf
  | sl t ver lo len ex=>exact key t ver (fun o=>(o.elems.drop lo).take len) hf
  | _=>exact hf

section
variable {B:Nat} {w0 w:World} {h:List AObj} {ι:Em} {F:List Nat}
theorem Z4i (hr:HRel B w0 h ι w){x:AV}{v:Value}{y:PV}(hv:VR h ι w x v)(hf:fzL h F x=some y):PRel w (Own (frzH h F).length (kapF F ι)) y v:=by
 refine Zgs hr (fun g=>Z06) (fun t g ht hb hg ho=>?_) 6 hv (Z4h 6 hf);have hF:=Ye6 ht hb;rcases ho with ho | ⟨t',ht',hb'⟩
 . have h1:=hr.old g ho;have h2:=(hr.own ht hg).1;omega
 . by_cases hF' : F.contains t' = true
   . rw [Zue hF'] at hb';cases hb'
   . rw [Zfe hF'] at hb';rw [Zcy] at ht';have:=hr.inj t t' g ht ht' hg hb';subst this;exact hF' hF
theorem Z07 (hr:HRel B w0 h ι w){x:AV}{v:Value}(hv:VR h ι w x v):VR (frzH h F) (kapF F ι) w (subV F (fzL h F) x) v:=by
 have hfix:Fix w (Own h.length ι) w (Own (frzH h F).length (kapF F ι)):=⟨Nat.le_refl _,fun _ _ _=>rfl,fun g _ hn ho=>hn (Z06 ho)⟩
 induction hv with
 | any v=>exact .any v
 | u=>exact .u
 | p x v hp=>exact .p x v (hp.fix hfix)
 | nil=>exact .nil
 | ne ad c=>exact .ne ad c
 | nl c=>exact .nl c
 | e0 ad=>exact .e0 ad
 | xf elems ad n hp=>exact .xf elems ad n (hp.fix hfix)
 | row t ver v ht hv ho =>
  simp only [subV];by_cases hF:F.contains t=true
  . rw [if_pos hF];split
    . rename_i y hy;exact .p _ _ (Z4i hr (.row t ver v ht hv ho) hy)
    . refine .row t ver v (by rw [Zcy];exact ht) hv fun o' ho' => ?_;rw [Zf5,J0f] at ho';obtain⟨o,h0,rfl⟩:=ho';have:=(ho o h0).1;simp only [frzO,if_pos hF];exact⟨by omega,fun e=>by omega⟩
  . rw [if_neg hF];refine .row t ver v (by rw [Zcy];exact ht) hv fun o' ho' => ?_;rw [Zf5,J0f] at ho';obtain⟨o,h0,rfl⟩:=ho';simp only [frzO,if_neg hF];exact⟨(ho o h0).1,fun e=>by rw [Zfe hF];exact (ho o h0).2 e⟩
 | sl t ver lo len ex v ht hv ho =>
  simp only [subV];by_cases hF:F.contains t=true
  . rw [if_pos hF];split
    . rename_i y hy;exact .p _ _ (Z4i hr (.sl t ver lo len ex v ht hv ho) hy)
    . refine .sl t ver lo len ex v (by rw [Zcy];exact ht) hv fun o' ho' => ?_;rw [Zf5,J0f] at ho';obtain⟨o,h0,rfl⟩:=ho';have:=(ho o h0).1;simp only [frzO,if_pos hF];exact⟨by omega,fun e=>by omega⟩
  . rw [if_neg hF];refine .sl t ver lo len ex v (by rw [Zcy];exact ht) hv fun o' ho' => ?_;rw [Zf5,J0f] at ho';obtain⟨o,h0,rfl⟩:=ho';simp only [frzO,if_neg hF];refine⟨(ho o h0).1,fun e=>?_⟩;have:=(ho o h0).2 e;unfold SubSl at this ⊢;rw [Zfe hF];simpa using this
 | ptr t ver i off v ht hv ho =>
  refine .ptr t ver i off v (by rw [Zcy];exact ht) hv fun o' ho' => ?_;rw [Zf5,J0f] at ho';obtain⟨o,h0,rfl⟩:=ho';by_cases hF:F.contains t=true
  . have:=(ho o h0).1;simp only [frzO,if_pos hF];exact⟨by omega,fun e=>by omega⟩
  . simp only [frzO,if_neg hF];refine⟨(ho o h0).1,fun e=>?_⟩;have:=(ho o h0).2 e;unfold PtrTo at this ⊢;rw [Zfe hF];simpa using this
 | nptr=>exact .nptr
 | fptr cells ad u hO hlt hcell hrel=>exact .fptr cells ad u (fun h' => hO (Z06 h')) hlt hcell fun j x hx=>(hrel j x hx).fix hfix
 | agg cs vs hl _ ih=>simp only [subV,Zf4];refine .agg _ vs (by simpa using hl) fun i x v hx hv=>?_;rw [J0m,J0f] at hx;obtain⟨x0,h0,rfl⟩:=hx;exact ih i x0 v h0 hv
 | tuple cs vs hl _ ih=>simp only [subV,Zf4];refine .tuple _ vs (by simpa using hl) fun i x v hx hv=>?_;rw [J0m,J0f] at hx;obtain⟨x0,h0,rfl⟩:=hx;exact ih i x0 v h0 hv
 | fn f cs vs hl _ ih=>simp only [subV,Zf4];refine .fn f _ vs (by simpa using hl) fun i x v hx hv=>?_;rw [J0m,J0f] at hx;obtain⟨x0,h0,rfl⟩:=hx;exact ih i x0 v h0 hv
 | fb f cs vs hl _ ih=>simp only [subV,Zf4];refine .fb f _ vs (by simpa using hl) fun i x v hx hv=>?_;rw [J0m,J0f] at hx;obtain⟨x0,h0,rfl⟩:=hx;exact ih i x0 v h0 hv
 | nilf=>exact .nilf
 | yl=>exact .yl
 | if0=>exact .if0
 | if1 t x=>exact .if1 t x
 | gp g off=>exact .gp g off

theorem Ye7 (hr:HRel B w0 h ι w):HRel B w0 (frzH h F) (kapF F ι) w:=by
 refine⟨hr.below,hr.base,hr.old,hr.glob,fun t o' ho' => ?_,fun t t' g ht ht' h1 h2=>?_⟩
 . rw [Zf5,J0f] at ho';obtain⟨o,h0,rfl⟩:=ho';by_cases hF:F.contains t=true
   . exact .inl ⟨by simp only [frzO,if_pos hF],by rw [Zue hF];rfl⟩
   . simp only [frzO,if_neg hF];rcases hr.objs t o h0 with ⟨a,b⟩ | ⟨hs,xs,hx,hu⟩
     . exact .inl ⟨a,by rw [Zfe hF];exact b⟩
     . refine .inr ⟨hs,xs,by rw [Zfe hF];simpa using hx,fun i e he=>?_⟩;rw [J0m,J0f] at he;obtain⟨e0,he0,rfl⟩:=he;obtain⟨k1,k2⟩:=hu i e0 he0;refine⟨by rw [Zf4];simpa using k1,fun j x hx=>?_⟩;rw [Zf4,J0m,J0f] at hx;obtain⟨x0,hx0,rfl⟩:=hx;obtain⟨v,hv,hvr⟩:=k2 j x0 hx0;exact⟨v,hv,Z07 hr hvr⟩
 . rw [Zcy] at ht ht';by_cases hF:F.contains t=true
   . rw [Zue hF] at h1;cases h1
   . by_cases hF' : F.contains t' = true
     . rw [Zue hF'] at h2;cases h2
     . rw [Zfe hF] at h1;rw [Zfe hF'] at h2;exact hr.inj t t' g ht ht' h1 h2
end
def frzS (F:List Nat)(s:St):St:=⟨s.slots.map (subV F (fzL s.heap F)),frzH s.heap F⟩
def Ye8 (F:List Nat)(s:St)(ls:List (List AV)):List (List AV):=ls.map (List.map (subV F (fzL s.heap F)))
theorem Z4j {F:List Nat}{h:List AObj}{ι:Em}{B:Nat}{w0 w:World}(hr:HRel B w0 h ι w):∀ {ls:List (List AV)} {lt:List (List Value)},LRel h ι w ls lt->LRel (frzH h F) (kapF F ι) w (ls.map (List.map (subV F (fzL h F)))) lt
 | [],[],_=>trivial
 | x::xs,v::vs,⟨⟨h1,h2⟩,h3⟩=>by refine⟨⟨by simpa using h1,fun i y u hy hu=>?_⟩,Z4j hr h3⟩;rw [J0m,J0f] at hy;obtain⟨y0,h0,rfl⟩:=hy;exact Z07 hr (h2 i y0 u h0 hu)
 | [],_::_,h=>h.elim
 | _::_,[],h=>h.elim
theorem Zy9 (F:List Nat)(s:St)(ls:List (List AV)):WeakL s ls (frzS F s) (Ye8 F s ls):=by intro B w0 ι a w lt hs hl;refine⟨kapF F ι,⟨Ye7 hs.heap,by simpa [frzS] using hs.len,fun i x v hx hv=>?_,hs.defers⟩,Z4j hs.heap hl,rfl,rfl⟩;simp only [frzS] at hx;rw [J0m,J0f] at hx;obtain⟨x0,h0,rfl⟩:=hx;exact Z07 hs.heap (hs.slot i x0 v h0 hv)

namespace Tr
variable {α:Type}
theorem get_mapIx (f:Nat->α->α):∀ (t:Tr α) (g:Nat->Nat) (i:Nat),(mapIx f g t).get i=(t.get i).map (f (g i))
 | .nil,g,i=>rfl
 | .node l x r,g,i=>by
  cases i with
  | zero=>rfl
  | succ i =>
   rcases hi:i % 2 with _ | k
   . simp only [mapIx,get,hi,get_mapIx f l];rw [show 2 * (i / 2)+1=i+1 by omega]
   . simp only [mapIx,get,hi,get_mapIx f r];rw [show 2 * (i / 2)+2=i+1 by omega]
theorem Yav (f:α->α):∀ (t:Tr α) (i:Nat),(map f t).get i=(t.get i).map f
 | .nil,i=>rfl
 | .node l x r,i=>by
  cases i with
  | zero=>rfl
  | succ i=>simp only [map,get];split <;> exact Yav f _ _
theorem Rel.map {t:Tr α}{l:List α}(h:Rel t l)(f:α->α):Rel (Tr.map f t) (l.map f):=fun i=>by rw [Yav,h i,J0m]
end Tr
theorem Zrw {st:VS}{s:St}(hs:st.Rel s)(F:List Nat):(Z02 F st).Rel (frzS F s):=by
 have e:frzG (Zdr F (getT st.heap)) [] 6=fzL s.heap F:=by rw [Zgv hs.heap];rfl
 refine⟨?_,fun i=>?_,?_⟩
 . show Tr.Rel (Tr.map (subV F (frzG (Zdr F (getT st.heap)) [] 6)) st.slots) _;rw [e];exact hs.slots.map _
 . show (Tr.mapIx (frzO F (frzG (Zdr F (getT st.heap)) [] 6)) (fun n=>n) st.heap).get i=(frzH s.heap F)[i]?;rw [e,Tr.get_mapIx,Zf5,hs.heap i]
 . show st.n=(frzH s.heap F).length;rw [Zcy];exact hs.n
theorem Zo8 {st:VS}{s:St}(hs:st.Rel s)(F:List Nat):∀ {lows:List (Tr AV)} {ls:List (List AV)},LRels lows ls->LRels (Zo5 F st lows) (Ye8 F s ls):=by
 have e:frzG (Zdr F (getT st.heap)) [] 6=fzL s.heap F:=by rw [Zgv hs.heap];rfl
 intro lows ls hl;simp only [Zo5,Ye8,e]
 induction lows generalizing ls with
 | nil=>cases ls with
  | nil=>trivial
  | cons l ls=>exact hl.elim
 | cons t ts ih=>cases ls with
  | nil=>exact hl.elim
  | cons l ls=>exact⟨hl.1.map _,ih hl.2⟩
theorem Z7q {F:List Nat}{s:St}{gd:Option (Nat×Bool)}(h:Zk s.slots gd=some true):Zk (frzS F s).slots gd=some true:=by
 cases gd with
 | none=>rfl
 | some q =>
  obtain⟨d,b⟩:=q;simp only [Zk,frzS,J0m] at h ⊢;split at h
  . rename_i b' hd;rw [hd];exact h
  . cases h
  . cases h

theorem Z4k (hC:∀ f pas rs,callF f pas=some rs->Spec P f pas rs){f:FuncId}{args:List AOpd}{a:AStep}{rest:List AStep}(hs:st.Rel s)(hl:LRels lows ls)(ho:a.op = .call f args)(hw:Zk s.slots a.guard=some true) :
    Zkc P (.steps (a::rest)::frs) s ls (Ye2 callF f args a rest frs st lows):=by
  have key:∀ {st:VS} {s:St} {lows:List (Tr AV)} {ls:List (List AV)},st.Rel s->LRels lows ls->Zk s.slots a.guard=some true -> ∀ (mode:Bool) (pas:List PA) (rs:List RA),Yv s.heap mode (args.map (AOpd.eval s.slots))=some pas->callF f pas=some rs->(mode=true∨Yu rs=true)->Zkc P (.steps (a::rest)::frs) s ls (.next (.steps rest::frs) (Zt3 st a.dst rs) lows):=fun hs hl hw mode pas rs hp hr hm=>⟨_,_,Zn7 hs a.dst rs,hl,fun Q hq=>KAW.steps (s1:=[a]) (.call _ f args mode pas rs _ _ _ ho hw hp (hC _ _ _ hr) hm (.nil _)) hq⟩;unfold Ye2;dsimp only;split
  . rename_i pas hp;rw [Z4g hs] at hp;split
    . rename_i rs hr;exact key hs hl hw true pas rs (by simp only [Yv,if_true];exact hp) hr (.inl rfl)
    . trivial
  . have hs1:=Zrw hs (Zt7 st (args.map (Zat st.slots)));have hl1:=Zo8 hs (Zt7 st (args.map (Zat st.slots))) hl;generalize Zt7 st (args.map (Zat st.slots))=F at hs1 hl1;split
    . rename_i pas hp;rw [Z4g hs1] at hp;split
      . rename_i rs hr;obtain⟨s',ls',q1,q2,q3⟩:=key hs1 hl1 (Z7q hw) true pas rs (by simp only [Yv,if_true];exact hp) hr (.inl rfl);exact⟨s',ls',q1,q2,fun Q hq=>.weak (Zy9 F s ls) (q3 Q hq)⟩
      . trivial
    . split
      . rename_i pas hp;rw [Z4g hs,Zgv hs.heap,Zo6,Yar] at hp;split
        . rename_i rs hr;split
          . rename_i hf;exact key hs hl hw false pas rs (by simp only [Yv,J0r,if_false];exact hp) hr (.inr hf)
          . trivial
        . trivial
      . trivial

theorem Zrx (hC:∀ f pas rs,callF f pas=some rs->Spec P f pas rs)(hcb:∀ f,V.cb f=true->callable P f=true){pre:List Nat}{ss:List AStep}{st st' : VS}{s:St}(hs:st.Rel s)(h:Yap callF V pre ss st=some st') :
    ∃ s1,st'.Rel s1 /\ ∀ {ls:List (List AV)} {frs:List Fr} (Q:Exit->St->Prop),KAW P frs Q s1 ls->KAW P (.code (.reg (some pre) ss)::frs) Q s ls:=by
  unfold Yap at h;split at h
  . rename_i L st1 hd;split at h
    . rename_i ho;obtain rfl:=J0a h;obtain⟨L',s1,k1,k2,k3,k4⟩:=Zo7 hC hcb hs hd;exact⟨s1,k4,fun Q hq=>.drawn ⟨L',s1,k1,k2,by rw [k3];exact ho,hq⟩⟩
    . cases h
  . cases h

theorem Z4l (hC:∀ f pas rs,callF f pas=some rs->Spec P f pas rs)(hF:∀ f af,V.F f=some af->Z6 P f=some af)(hcb:∀ f,V.cb f=true->callable P f=true)
    (hs:st.Rel s) (hl:LRels lows ls):Zkc P frs s ls (Ye3 callF V frs st lows):=by
  unfold Ye3;split
  . exact⟨s,hs,(fun id e=>by cases e),fun Q hq=>.here hq⟩
  . rename_i c frs;split
    . exact⟨s,ls,hs,hl,fun Q hq=>.skip hq⟩
    . exact⟨s,ls,hs,hl,fun Q hq=>.seq hq⟩
    . rename_i z a b;rw [Zf3 hs.slots];split
      . rename_i hz;exact⟨s,ls,hs,hl,fun Q hq=>.cond hz hq⟩
      . rename_i hz;exact⟨s,ls,hs,hl,fun Q hq=>.cond hz hq⟩
      . trivial
    . exact⟨s,ls,hs,hl,fun Q hq=>.block hq⟩
    . exact⟨s,ls,hs,hl,fun Q hq=>.scope hq⟩
    . exact⟨s,ls,hs,hl,fun Q hq=>.loop hq⟩
    . exact⟨s,ls,hs,hl,fun Q hq=>.reg hq⟩
    . rename_i pre ss;split
      . rename_i st' hd;obtain⟨s1,k4,k5⟩:=Zrx hC hcb hs hd;exact⟨s1,ls,k4,hl,fun Q hq=>k5 Q hq⟩
      . split
        . rename_i st' hd;obtain⟨s1,k4,k5⟩:=Zrx hC hcb (Zrw hs (Zo4 ss st)) hd;exact⟨s1,_,k4,Zo8 hs (Zo4 ss st) hl,fun Q hq=>.weak (Zy9 (Zo4 ss st) s ls) (k5 Q hq)⟩
        . trivial
    . rename_i id;split
      . rename_i frs' hx;exact⟨s,ls,hs,hl,fun Q hq=>.exit hx hq⟩
      . rename_i hx;split
        . rename_i hnb;split
          . rename_i dst pos frs0 hb;split
            . rename_i hnr;split
              . rename_i low lows';cases ls with
                | nil=>exact hl.elim
                | cons l ls=>obtain⟨h1,h2⟩:=hl;exact⟨⟨_,s.heap⟩,_,⟨Qa h1 _ _,hs.heap,hs.n⟩,h2.set (Zms (id+2)) pos,fun Q hq=>.rndX hx hnb hb hnr hq⟩
              . trivial
            . trivial
          . trivial
        . trivial
    . split
      . rename_i dst pos frs0 hb;split
        . rename_i hnr;split
          . rename_i low lows';cases ls with
            | nil=>exact hl.elim
            | cons l ls=>obtain⟨h1,h2⟩:=hl;exact⟨⟨_,s.heap⟩,_,⟨Qa h1 _ _,hs.heap,hs.n⟩,h2.set (Zms 1) pos,fun Q hq=>.rndR hb hnr hq⟩
          . trivial
        . trivial
      . split
        . rename_i hnb;exact Zkd hs hl (fun Q hb hq=>.retB hb hq) (fun Q hk=>.retK rfl hnb hk)
        . trivial
    . rename_i z ps ac bc;rw [Zf3 hs.slots];split
      . rename_i f caps hz;split
        . rename_i af h1 h2 h3;simp only [J0e] at h3;split
          . rename_i hres;exact⟨⟨start af.nt (.yl::caps),s.heap⟩,[.p (.int .u64 0)]::s.slots::ls,⟨Zqp _ _,hs.heap,hs.n⟩,⟨Zms 0,hs.slots,hl⟩,fun Q hq=>.range hz (hF _ _ h2) (hcb _ h1) hres h3.1 (Yku hs hl h3.2) hq⟩
          . trivial
        . trivial
      . trivial
    . trivial
  . exact⟨s,ls,hs,hl,fun Q hq=>.unblk hq⟩
  . exact⟨s,ls,hs,hl,fun Q hq=>.unscp hq⟩
  . exact⟨s,ls,hs,hl,fun Q hq=>.again hq⟩
  . split
    . rename_i h1 h2;exact⟨s,ls,hs,hl,fun Q hq=>.brd h2 h1 hq⟩
    . trivial
  . rename_i dst pos frs0;split
    . rename_i hnr;split
      . rename_i low lows';cases ls with
        | nil=>exact hl.elim
        | cons l ls=>obtain⟨h1,h2⟩:=hl;exact⟨⟨_,s.heap⟩,_,⟨Qa h1 _ _,hs.heap,hs.n⟩,h2.set (Zms 0) pos,fun Q hq=>.rndN hnr hq⟩
      . trivial
    . trivial
  . trivial
  . exact Zkd hs hl (fun Q hb hq=>by cases hb) (fun Q hk=>.endK rfl hk)
  . exact Zkd hs hl (fun Q hb hq=>by cases hb) (fun Q hk=>.endK rfl hk)
  . rename_i ss frs;generalize hops:opsT ss st=r;obtain⟨rest,st1⟩:=r;obtain⟨pre,s1,rfl,k1,k2⟩:=Zn8 hs hops;have lift:∀ r:VRes,Zkc P (.steps rest::frs) s1 ls r->Zkc P (.steps (pre++rest)::frs) s ls r:=by
     intro r hr;cases r with
     | next frs' st' lows' => obtain⟨s',ls',a,b,c⟩:=hr;exact⟨s',ls',a,b,fun Q hq=>.steps k1 (c Q hq)⟩
     | done e st' => obtain⟨s',a,b,c⟩:=hr;exact⟨s',a,b,fun Q hq=>.steps k1 (c Q hq)⟩
     | stuck n=>trivial
    refine lift _ ?_;clear lift hops k1;split
    . rename_i heq;simp only [J0i] at heq;obtain⟨rfl,rfl⟩:=heq;exact⟨s1,ls,k2,hl,fun Q hq=>.steps_nil hq⟩
    . rename_i a rest' st' heq;simp only [J0i] at heq;obtain⟨rfl,rfl⟩:=heq;rw [Zua k2.slots];split
      . rename_i hw;split
        . rename_i f args ho;split
          . exact Z4k hC k2 hl ho hw
          . rw [Z4g k2];exact Zie hF k2 hl fun af haf Q hq=>.callS haf hw ho hq
        . rename_i x args ho;rw [Zf3 k2.slots];split
          . rename_i f caps hx;split
            . rename_i hc;exact Zie hF k2 hl fun af haf Q hq=>.callV haf (hcb _ hc) hw ho hx hq
            . trivial
          . rename_i f firsts hx;split
            . rename_i hc;exact Zie hF k2 hl fun af haf Q hq=>.callB haf (hcb _ hc) hw ho hx hq
            . trivial
          . rename_i hx;split
            . rename_i pos ps ac bc hnr hrf;split
              . rename_i pd lsl hp1 hp2;split
                . rename_i hp;split
                  . rename_i hlen hlen1;obtain⟨l0,g1,g2⟩:=hl.get hp1;obtain⟨l1,g3,g4⟩:=hl.get hp2;obtain rfl:=Ym0 g2 hp hlen1;exact⟨⟨_,s1.heap⟩,s1.slots::ls,⟨Zuc g4,k2.heap,k2.n⟩,⟨k2.slots,hl⟩,fun Q hq=>.yield hw ho hx hnr hrf g1 g3 (by simpa using Nat.eq_of_beq_eq_true hlen) hq⟩
                  . trivial
                . trivial
              . trivial
            . trivial
          . trivial
        . trivial
      . trivial

theorem Zuf (hC:∀ f pas rs,callF f pas=some rs->Spec P f pas rs)(hF:∀ f af,V.F f=some af->Z6 P f=some af)(hcb:∀ f,V.cb f=true->callable P f=true) :
    ∀ (n:Nat) {frs:List Fr} {st:VS} {s:St} {lows:List (Tr AV)} {ls:List (List AV)} {e:EX'} {st' : VS},st.Rel s->LRels lows ls->vrun callF V n frs st lows=some (e,st') ->
     ∃ s',st'.Rel s' /\ (∀ id,e ≠ .exit id) /\ ∀ Q:Exit->St->Prop,Q e.to s' -> KAW P frs Q s ls
  | 0,frs,st,s,lows,ls,e,st',hs,hl,h=>by simp [vrun] at h
  | n+1,frs,st,s,lows,ls,e,st',hs,hl,h=>by
   simp only [vrun] at h;have hstep:=Z4l (frs:=frs) hC hF hcb hs hl;split at h
   . rename_i frs1 st1 lows1 hv;rw [hv] at hstep;obtain⟨s1,ls1,k1,k2,k3⟩:=hstep;obtain⟨s',a,b,c⟩:=Zuf hC hF hcb n k1 k2 h;exact⟨s',a,b,fun Q hq=>k3 Q (c Q hq)⟩
   . rename_i e1 st1 hv;rw [hv] at hstep;simp only [J0b,J0i] at h;obtain⟨rfl,rfl⟩:=h;exact hstep
   . cases h

theorem Zug {g:AV->Option PV}(hg:∀ x,g (.p x)=some x):∀ (l:List PV),frzL g (l.map AV.p)=some l
 | []=>rfl
 | x::l=>by rw [List.map_cons,frzL,hg,Zug hg l]
theorem Zuh {g:AV->Option PV}(hg:∀ x,g (.p x)=some x):∀ (es:List (List PV)),frzE g (es.map (·.map AV.p))=some es
 | []=>rfl
 | x::es=>by rw [List.map_cons,frzE,Zug hg,Zuh hg es]
theorem Xu {h:List AObj}{bad:List Nat}{own:Bool}{a:AV}{v:RC}(hn:∀ cs,a ≠ .agg cs)(hf:rcOf h bad own a=some v):raOf h bad own a=some (.c v):=by
 unfold raOf;split
 . rename_i cs;exact absurd rfl (hn cs)
 . rw [hf]
theorem Ye9 {h:List AObj}{x:RC}{T:Nat}(hs:match x with | .s _ size _=>0<size | _=>True)(hh:∀ (i:Nat) (o:AObj),(Yt x)[i]? = some o->h[T+i]? = some o):rcOf h [] false (Zby T x)=some x.frz:=by
 cases x with
 | c v=>rfl
 | e b=>rfl
 | s e size es =>
  have h0:=hh 0 ⟨1,e,size,es.map (·.map .p)⟩ rfl;have hs:0<size:=hs;have:Zd h T 1=some ⟨1,e,size,es.map (·.map .p)⟩:=by unfold Zd;rw [show h[T]? = some ⟨1,e,size,es.map (·.map .p)⟩ from h0];simp;omega
  have h6:Go.Abs.frz h [] 6 (.row T 1)=some (.sl es):=by show (if ([]:List Nat).contains T then none else match Zd h T 1 with | some o=>(match frzE (Go.Abs.frz h [] 5) o.elems with | some es=>some (PV.sl es) | none=>none) | none=>none)=_;rw [this];simp [Zuh (g:=Go.Abs.frz h [] 5) (fun x=>rfl)]
  simp only [Zby,rcOf,J0r,if_false,h6,RC.frz]

def RC.pos:RC->Prop
 | .s _ size _=>0<size
 | _=>True
def RA.pos:RA->Prop
 | .c x=>x.pos
 | .a xs=>∀ x∈xs,x.pos

theorem Yaw {h:List AObj}:∀ {xs:List RC} {T:Nat},(∀ x∈xs,x.pos)->(∀ (i:Nat) (o:AObj),(Xt xs)[i]? = some o->h[T+i]? = some o)->Zjm h [] false (Zaa T xs)=some (xs.map RC.frz)
 | [],_,_,_=>rfl
 | x::xs,T,hp,hh=>by
  have h1:=Ye9 (h:=h) (x:=x) (T:=T) (by have:=hp x (by simp);cases x <;> exact this) (fun i o ho=>hh i o (by
   simp only [Xt];rw [List.getElem?_append_left (J0d.1 ho).1];exact ho))
  have h2:=Yaw (h:=h) (xs:=xs) (T:=T+(Yt x).length) (fun y hy=>hp y (by simp [hy])) (fun i o ho=>by
   rw [Nat.add_assoc];exact hh _ o (by
    simp only [Xt];rw [J0o (by omega),Nat.add_sub_cancel_left];exact ho))
  simp only [Zaa,Zjm,h1,h2,List.map_cons]
theorem Z4m {T:Nat}{x:RC}:∀ cs,Zby T x ≠ .agg cs:=by intro cs e;cases x <;> cases e
theorem Yoh {h:List AObj}{x:RA}{T:Nat}(hp:x.pos)(hh:∀ (i:Nat) (o:AObj),(Zcv x)[i]? = some o->h[T+i]? = some o):raOf h [] false (Zfb T x)=some x.frz:=by
 cases x with
 | c x=>refine Xu Z4m (Ye9 (by cases x <;> exact hp) hh)
 | a xs=>simp only [Zfb,raOf,Yaw hp hh];rfl
theorem Yax {h:List AObj}:∀ {xs:List RA} {T:Nat},(∀ x∈xs,x.pos)->(∀ (i:Nat) (o:AObj),(Za xs)[i]? = some o->h[T+i]? = some o)->Zcg h [] false (Zh T xs)=some (xs.map RA.frz)
 | [],_,_,_=>rfl
 | x::xs,T,hp,hh=>by
  have h1:=Yoh (h:=h) (x:=x) (T:=T) (hp x (by simp)) (fun i o ho=>hh i o (by
   simp only [Za];rw [List.getElem?_append_left (J0d.1 ho).1];exact ho))
  have h2:=Yax (h:=h) (xs:=xs) (T:=T+(Zcv x).length) (fun y hy=>hp y (by simp [hy])) (fun i o ho=>by
   rw [Nat.add_assoc];exact hh _ o (by
    simp only [Za];rw [J0o (by omega),Nat.add_sub_cancel_left];exact ho))
  simp only [Zh,Zcg,h1,h2,List.map_cons]

theorem Spec.frz {P:Program}{f:FuncId}{pas:List PA}{rs:List RA}(hp:∀ x∈rs,x.pos)(h:Spec P f pas rs):Spec P f pas (rs.map RA.frz):=fun O w cargs hO hgl ha =>
 (h O w cargs hO hgl ha).mono fun e w' ⟨v,ι,he,hι,hh,hv⟩=>by
  have hx:Zj7 (Za rs) false (Zh 0 rs)=some (rs.map RA.frz):=by simp only [Zj7,J0r,if_false];exact Yax hp (fun i o ho=>by simpa using ho)
  have hvs:∃ vs:List Value,retC vs=v/\vs.length=(Zh 0 rs).length /\ ∀ (i:Nat) (x:AV) (u:Value),(Zh 0 rs)[i]? = some x->vs[i]? = some u->VR (Za rs) ι w' x u:=by
   generalize Zh 0 rs=xs at hv;have tup:xs.length≠1->VR (Za rs) ι w' (.tuple xs) v -> ∃ vs:List Value,retC vs=v/\vs.length=xs.length /\ ∀ (i:Nat) (x:AV) (u:Value),xs[i]? = some x->vs[i]? = some u->VR (Za rs) ι w' x u:=fun hl hv=>by
    cases hv with
    | tuple _ vs hl2 hr =>
     refine⟨vs.toList,?_,by simp [hl2],fun i x u hx hu=>hr i x u hx (by simpa using hu)⟩;unfold retC;split
     . rename_i a ha;have:=congrArg List.length ha;simp at this;omega
     . simp
   match xs,hv,tup with
   | [],hv,tup=>exact tup (by simp) hv
   | [x],hv,_=>exact⟨[v],rfl,rfl,fun i y u hy hu=>by
       cases i with
       | zero=>simp at hy hu;subst hy;subst hu;exact hv
       | succ i=>simp at hy⟩
   | x::y::xs,hv,tup=>exact tup (by simp) hv
  obtain⟨vs,rfl,hl,hr⟩:=hvs;obtain⟨κ,q1,q2,q3⟩:=Z0v hh hx hl hr;exact⟨_,κ,he,q1.trans hι,q2,q3⟩

theorem RC.pos_of {x:RC}(h:x.posB=true):x.pos:=by
 cases x with
 | s e size es=>simpa [RC.posB,RC.pos] using h
 | _=>trivial
theorem RA.pos_of {x:RA}(h:x.posB=true):x.pos:=by
 cases x with
 | c x=>exact RC.pos_of h
 | a xs=>exact fun y hy=>RC.pos_of (List.all_eq_true.1 h y hy)
theorem Z4n {P:Program}{f:FuncId}{pas:List PA}{b:Bool}{r:Option (List RA)}{rs:List RA}(hr:∀ rs',r=some rs' -> Spec P f pas rs')(h:Ye4 b r=some rs):Spec P f pas rs:=by
 unfold Ye4 at h;split at h
 . exact hr _ h
 . split at h
   . rename_i rs';split at h
     . rename_i hp;obtain rfl:=J0a h;exact (hr _ rfl).frz fun x hx=>RA.pos_of (List.all_eq_true.1 hp x hx)
     . cases h
   . cases h

theorem Zry (hK:∀ f pas rs,V.K f pas=some rs->Spec P f pas rs)(hF:∀ f af,V.F f=some af->Z6 P f=some af)(hcb:∀ f,V.cb f=true->callable P f=true)(k:Nat) :
    ∀ (d:Nat) (f:FuncId) (pas:List PA) (rs:List RA),Zt8 V k d f pas=some rs->Spec P f pas rs
  | 0,f,pas,rs,h=>by simp [Zt8] at h
  | d+1,f,pas,rs,h=>by
   have ih:=Zry hK hF hcb k d;simp only [Zt8] at h;split at h
   . rename_i rs' hk;obtain rfl:=J0a h;exact hK _ _ _ hk
   . split at h
     . rename_i af haf;generalize hr:vrun (Zt8 V k d) V k [.code af.body] ⟨Zmr af.nt (pas.map PA.av),.nil,0⟩ []=r at h;refine Z4n (r:=vfin af r) (fun rs1 h1=>?_) h;clear h;revert h1;intro h;unfold vfin at h;split at h
       . rename_i e st;obtain⟨s',a,b,c⟩:=Zuf (s:=⟨start af.nt (pas.map PA.av),[]⟩) (lows:=[]) (ls:=[]) ih hF hcb k ⟨Zqp _ _,.nil,rfl⟩ trivial hr;rw [Z05 a] at h;have hee:e.to = .normal∨e.to = .ret:=by
          cases e with
          | normal=>exact .inl rfl
          | exit id=>exact absurd rfl (b id)
          | ret=>exact .inr rfl
         split at h
         . rename_i xs hxs;rw [Zgv a.heap,Yat,Yat] at h;split at h
           . rename_i rs' hrs;obtain rfl:=J0a h;exact Zui (own:=true) (hF f af haf) (c _ ⟨hee,xs,hxs,hrs⟩)
           . exact Zui (own:=false) (hF f af haf) (c _ ⟨hee,xs,hxs,h⟩)
         . cases h
       . cases h
     . cases h
end
end Go.Abs
