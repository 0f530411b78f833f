import Derived.Test.YtenldcjkpgmpnaaGreatDoorRows
import Derived.WalkKit
import Derived.Lib.Hide
import Derived.Deep.RegionHeld3
import Derived.Deep.AppendLies
import Derived.Deep.OwnRows
import Derived.Deep.DrawnRows
/- Small laws for the walks of graph.joined. -/
set_option linter.unusedVariables false
set_option linter.unusedSimpArgs false
namespace Tj
open Go Go.RowKit Go.Proofs
theorem Qb {w:World}{b:Nat}{x:Option Obj}(o:Obj)(h:w.heap[b]? = x)(hb:b<w.heap.size):(w.alloc o).heap[b]? = x:=by rw [Below.heap_alloc _ _ _ hb,h]
theorem Z5j (w:World)(o o' : Obj):((w.alloc o).alloc o').drew.heap[w.heap.size+1]? = some o' := by have:=heap_alloc_new (w.alloc o) o';rw [World.size_alloc] at this;exact this
theorem Zim (w:World)(o o' : Obj):((w.alloc o).alloc o').heap[w.heap.size+1]? = some o' := Z5j w o o'
theorem Zin {w:World}{b:Nat}{x:Obj}(h:w.heap[b]? = some x):b<w.heap.size:=by grind
theorem Ze (a:Addr)(n:Nat):(a.add n).block=a.block:=by unfold Addr.add;grind
theorem Zio (a:Addr)(m i:Nat):a.add (m+(i+1))=⟨(a.add m).block,(a.add m).off+(i+1),none⟩:=by unfold Addr.add;grind
theorem Q5 {w:World}{b j:Nat}{cs:Array Value}{t:TypeId}{z:Nat×Nat}{x:Value}(h:w.heap[b]? = some (.cells cs t z))(hx:cs[j]? = some x) :
    w.cell? ⟨b,j,none⟩=some x/\(∀ o,(w.alloc o).cell? ⟨b,j,none⟩=some x) /\ ∀ o o',((w.alloc o).alloc o').cell? ⟨b,j,none⟩=some x:=by
  have hb:=Zin h;have key:∀ w' : World,w'.heap[b]? = some (.cells cs t z)->w'.cell? ⟨b,j,none⟩=some x:=fun w' h' => by simp only [World.cell?,h'];exact hx
  exact⟨key _ h,fun o=>key _ (Qb o h hb),fun o o' => key _ (Qb o' (Qb o h hb) (by simp;omega))⟩

def SlAt {α:Type}(w:World)(sz:Nat)(f:α->List Value)(a:Option Addr)(n:Nat)(xs:List α):Prop:=n=xs.length /\ ∀ (j:Nat) (x:α),xs[j]? = some x -> ∃ b,a=some b/\b.block<w.heap.size /\ ∀ (i:Nat) (v:Value),(f x)[i]? = some v->w.cell? (b.add (j * sz+i))=some v
abbrev Chn:=Int×Int×Int×Int×Int×Unit
abbrev Opr:=Int×Int×Unit
def chC (r:Chn):List Value:=[.int .i64 r.1,.int .i64 r.2.1,.int .i64 r.2.2.1,.int .i64 r.2.2.2.1,.int .i64 r.2.2.2.2.1]
def opC (r:Opr):List Value:=[.int .u8 r.1,.int .i64 r.2.1]
theorem Ylj:(Tryz.prog.info? 23).map (fun i=>(i.zero,i.size,i.bytes))=some (some (.slice none 0 0),1,24):=by kernel_rfl
theorem info3:(Tryz.prog.info? 3).map (fun i=>(i.zero,i.size,i.bytes))=some (some (.int .i64 0),1,8):=by kernel_rfl
end Tj

/- graph.bounds, graph.ends, graph.joined: the walks. -/
namespace Tj
open Go Go.RowKit Go.Proofs
def bnd (k:Int):Int×Int×Int×Int:=if k=1 then (0,0,1,1) else if k=2 then (1,1,1,2) else if k=3 then (1,1,1,3) else if k=4 then (1,4,1,1) else if k=5 then (2,2,1,1) else if k=6 then (1,3,0,0) else (1,4,0,0)
theorem Ybr:(Tryz.prog.info? 221).map (·.size)=some 2:=by kernel_rfl
theorem Zu8 (w:World)(tmps:Array Value)(x1 x2 x3 x4:Int)(h2:tmps.getD 2 undef = .pointer (some ⟨w.heap.size,0,none⟩))(h3:tmps.getD 3 undef = .pointer (some ⟨w.heap.size+1,0,none⟩)) :
    (results Tryz.f134 tmps).run Tryz.prog ((w.alloc (.cells #[.int .i64 x1,.int .i64 x2] 221)).alloc (.cells #[.int .i64 x3,.int .i64 x4] 221)) = .ok (.tuple #[.agg #[.int .i64 x1,.int .i64 x2],.agg #[.int .i64 x3,.int .i64 x4]]) ((w.alloc (.cells #[.int .i64 x1,.int .i64 x2] 221)).alloc (.cells #[.int .i64 x3,.int .i64 x4] 221)):=by
  have h:Tryz.f134.results=#[.cell 2 221,.cell 3 221]:=rfl;have hp' : tmps[2]?.getD undef = .pointer (some ⟨w.heap.size,0,none⟩):=by simp_all
  have hq' : tmps[3]?.getD undef = .pointer (some ⟨w.heap.size+1,0,none⟩):=by simp_all
  have e1:=run_loadVar_row (P:=Tryz.prog) ((w.alloc (.cells #[.int .i64 x1,.int .i64 x2] 221)).alloc (.cells #[.int .i64 x3,.int .i64 x4] 221)) w.heap.size 221 221 #[.int .i64 x1,.int .i64 x2] (0,0) _ (Qb _ (heap_alloc_new w _) (by simp)) Tryz.underlying221 rfl Ybr;have e2:=run_loadVar_row (P:=Tryz.prog) ((w.alloc (.cells #[.int .i64 x1,.int .i64 x2] 221)).alloc (.cells #[.int .i64 x3,.int .i64 x4] 221)) (w.heap.size+1) 221 221 #[.int .i64 x3,.int .i64 x4] (0,0) _ (Zim w _ _) Tryz.underlying221 rfl Ybr;simp [results,h,hp',hq',asAddr,e1,e2]
set_option maxRecDepth 100000 in
set_option maxHeartbeats 2000000 in
theorem Z8d (k:Int)(w:World):Calls Tryz.prog 134 #[.int .u8 k] w fun e w' => e = .returned (.tuple #[.agg #[.int .i64 (bnd k).1,.int .i64 (bnd k).2.1],.agg #[.int .i64 (bnd k).2.2.1,.int .i64 (bnd k).2.2.2]])/\Below w.heap.size w w' := by
 have key:∀ x1 x2 x3 x4:Int,bnd k=(x1,x2,x3,x4)->(∀ e w',e=Ending.returned (.tuple #[.agg #[.int .i64 x1,.int .i64 x2],.agg #[.int .i64 x3,.int .i64 x4]])/\Below w.heap.size w w' -> e = .returned (.tuple #[.agg #[.int .i64 (bnd k).1,.int .i64 (bnd k).2.1],.agg #[.int .i64 (bnd k).2.2.1,.int .i64 (bnd k).2.2.2]])/\Below w.heap.size w w'):=fun x1 x2 x3 x4 h e w' he=>by grind
 by_cases k1:k=1
 . refine (?_:Calls Tryz.prog 134 #[.int .u8 k] w _).mono (key 0 0 1 1 (by simp [bnd,k1]));clear key;subst k1;go_enter Tryz.func134,Tryz.ntmps134;go_wp2;refine bodyPost_ret (Zu8 w _ 0 0 1 1 rfl rfl) rfl ?_;exact⟨rfl,((Below.refl _ _).alloc (Nat.le_refl _) _).alloc (by simp) _⟩
 by_cases k2:k=2
 . refine (?_:Calls Tryz.prog 134 #[.int .u8 k] w _).mono (key 1 1 1 2 (by simp [bnd,k2]));clear key;subst k2;go_enter Tryz.func134,Tryz.ntmps134;go_wp2;refine bodyPost_ret (Zu8 w _ 1 1 1 2 rfl rfl) rfl ?_;exact⟨rfl,((Below.refl _ _).alloc (Nat.le_refl _) _).alloc (by simp) _⟩
 by_cases k3:k=3
 . refine (?_:Calls Tryz.prog 134 #[.int .u8 k] w _).mono (key 1 1 1 3 (by simp [bnd,k3]));clear key;subst k3;go_enter Tryz.func134,Tryz.ntmps134;go_wp2;refine bodyPost_ret (Zu8 w _ 1 1 1 3 rfl rfl) rfl ?_;exact⟨rfl,((Below.refl _ _).alloc (Nat.le_refl _) _).alloc (by simp) _⟩
 by_cases k4:k=4
 . refine (?_:Calls Tryz.prog 134 #[.int .u8 k] w _).mono (key 1 4 1 1 (by simp [bnd,k4]));clear key;subst k4;go_enter Tryz.func134,Tryz.ntmps134;go_wp2;refine bodyPost_ret (Zu8 w _ 1 4 1 1 rfl rfl) rfl ?_;exact⟨rfl,((Below.refl _ _).alloc (Nat.le_refl _) _).alloc (by simp) _⟩
 by_cases k5:k=5
 . refine (?_:Calls Tryz.prog 134 #[.int .u8 k] w _).mono (key 2 2 1 1 (by simp [bnd,k5]));clear key;subst k5;go_enter Tryz.func134,Tryz.ntmps134;go_wp2;refine bodyPost_ret (Zu8 w _ 2 2 1 1 rfl rfl) rfl ?_;exact⟨rfl,((Below.refl _ _).alloc (Nat.le_refl _) _).alloc (by simp) _⟩
 by_cases k6:k=6
 . refine (?_:Calls Tryz.prog 134 #[.int .u8 k] w _).mono (key 1 3 0 0 (by simp [bnd,k6]));clear key;subst k6;go_enter Tryz.func134,Tryz.ntmps134;go_wp2;refine bodyPost_ret (Zu8 w _ 1 3 0 0 rfl rfl) rfl ?_;exact⟨rfl,((Below.refl _ _).alloc (Nat.le_refl _) _).alloc (by simp) _⟩
 refine (?_:Calls Tryz.prog 134 #[.int .u8 k] w _).mono (key 1 4 0 0 (by simp [bnd,k1,k2,k3,k4,k5,k6]));clear key;have e1:(k==1)=false:=by grind
 have e2:(k==2)=false:=by grind
 have e3:(k==3)=false:=by grind
 have e4:(k==4)=false:=by grind
 have e5:(k==5)=false:=by grind
 have e6:(k==6)=false:=by grind
 go_enter Tryz.func134,Tryz.ntmps134;go_wp2;refine bodyPost_ret (Zu8 w _ 1 4 0 0 rfl rfl) rfl ?_;exact⟨rfl,((Below.refl _ _).alloc (Nat.le_refl _) _).alloc (by simp) _⟩
end Tj

/- A drawn region whose last operations (from number k on) wait for all that read what they write: two conditions on the world, one till k comes up, one from there on. -/
namespace Tj
open Go Go.RowKit Go.Proofs
section
variable {P:Program} {ops:Array Oper} {Q:Exit->Act->World->Prop} {md:Region.Mode} {S:Bool->World->Prop} {k:Nat}
def Zab (P:Program)(md:Region.Mode)(ops:Array Oper)(Q:Exit->Act->World->Prop)(S:Bool->World->Prop)(k:Nat):Nat->Array Bool->Act->World->Prop
 | 0,listed,a,w=>Region.ready md ops listed=[]/\Q .normal a w
 | fuel+1,listed,a,w =>
  (Region.ready md ops listed=[]->Q .normal a w) /\
  ∀ i∈Region.ready md ops listed,wpOp P ops Q i (fun a' w' => S ((listed.setIfInBounds i true).getD k true) w' /\ Zab P md ops Q S k fuel (listed.setIfInBounds i true) a' w') a w
theorem Z5k:∀ (fuel:Nat) (listed:Array Bool) (a:Act) (w:World),Zab P md ops Q S k fuel listed a w->wpAny P md ops Q fuel listed a w
 | 0,_,_,_,h=>h
 | fuel+1,_,_,_,h=>⟨h.1,fun i hi=>wpOp_mono (fun a' w' h' => Z5k fuel _ a' w' h'.2) (h.2 i hi)⟩
theorem Zgh {id:Nat}{a:Act}{w:World}(k n:Nat)(S:Bool->World->Prop)(hn:ops.size=n)(hm:P.follows .mixedOrders=true)(hS:S false w.drew)
    (h:S false w.drew->Zab P .any ops Q S k n (Array.replicate n false) a w.drew):(Code.region id ops true).wp P Q a w:=by
  subst hn;exact wp_region_any hm (Z5k _ _ _ _ (h hS))
def Zks (md:Region.Mode)(ops:Array Oper)(k i:Nat):Bool:=match ops[k]? with
 | some o=>o.after.any fun e=>Region.binds md e&&e.on==i
 | none=>false
theorem Z8e {i:Nat}(h:Zks md ops k i=true):∃ o,ops[k]? = some o /\ ∃ e∈o.after,Region.binds md e=true/\e.on=i:=by unfold Zks at h;grind
theorem Ylk {i:Nat}{oi:Oper}{v:Value}(st:Bool)(hmo:∀ w,S false w->S true w)(hi:ops[i]? = some oi)(hsel:∀ (j:Nat) (o:Oper) cs b,ops[j]? = some o->o.op ≠ .select cs b)
    (hQ:∀ c a w,Q (.panic c) (a.put oi.dst v) w->Q (.panic c) a w) (hki:k≠i) (hk:st=true->Zks md ops k i=true) :
    ∀ (fuel:Nat) (listed:Array Bool) (a:Act) (w:World),
     (∀ j oj,ops[j]? = some oj->j≠i->listed.getD j true=false->(∀ e∈oj.after,Region.binds md e=true->e.on≠i)->oi.apart ops oj=true) ->
     i∈Region.ready md ops listed->(st=true->listed.getD k true=false)->YieldsIf P ops (S (!st)) oi v a->S (listed.getD k true) w ->
     Zab P md ops Q S k fuel (listed.setIfInBounds i true) (a.put oi.dst v) w->Zab P md ops Q S k (fuel+1) listed a w:=by
  have hSS:∀ (l:Array Bool) (w:World),(st=true->l.getD k true=false)->S (l.getD k true) w->S (!st) w:=fun l w h1 h2=>by
   cases st with
   | true=>grind
   | false =>
    cases hl:l.getD k true with
    | true=>grind
    | false=>grind
  intro fuel
  induction fuel with
  | zero =>
   intro listed a w _ hr hf hy hS H;refine⟨fun h=>(by grind),fun j hj=>?_⟩;by_cases hji:j=i
   . subst hji;exact hy.wpOp hi (hSS listed w hf hS) ⟨by rw [getD_set_ne true (fun e=>hki e.symm)];exact hS,H⟩
   . have:=ready_mono hj hji;rw [H.1] at this;grind
  | succ fuel ih =>
   intro listed a w hfree hr hf hy hS H;refine⟨fun h=>(by grind),fun j hj=>?_⟩;by_cases hji:j=i
   . subst hji;exact hy.wpOp hi (hSS listed w hf hS) ⟨by rw [getD_set_ne true (fun e=>hki e.symm)];exact hS,H⟩
   . have h1:=H.2 j (ready_mono hj hji);obtain⟨hjun,oj,hoj,hall⟩:=mem_ready.1 hj;have hnot:∀ e∈oj.after,Region.binds md e=true->e.on≠i:=fun e he hb heq=>by have h1:=hall e he hb;have h0:=(mem_ready.1 hr).1;grind
     have hf' : st=true->(listed.setIfInBounds j true).getD k true=false:=fun hs=>by
      by_cases hjk:j=k
      . subst hjk;obtain⟨o,ho,e,he,hb,hon⟩:=Z8e (hk hs);grind
      simp_all
     have h2:=wpOp_putIf hoj (hfree j oj hoj hji hjun hnot) (fun cs b=>hsel i oi cs b hi) (fun cs b=>hsel j oj cs b hoj) hQ hy h1;have hfree' : ∀ q oq,ops[q]? = some oq->q≠i->(listed.setIfInBounds j true).getD q true=false ->
         (∀ e∈oq.after,Region.binds md e=true->e.on≠i)->oi.apart ops oq=true:=fun q oq hq hqi hun hno=>by
       refine hfree q oq hq hqi ?_ hno;by_cases hjq:j=q
       . grind
       simp_all
     refine wpOp_mono (fun a' w' h3=>?_) h2;obtain⟨hy',hS',hT⟩:=h3;rw [Array.setIfInBounds_comm _ _ (Ne.symm hji)] at hS' hT;rw [getD_set_ne true (fun e=>hki e.symm)] at hS';exact⟨hS',ih (listed.setIfInBounds j true) a' w' hfree' (ready_mono hr (Ne.symm hji)) hf' hy' hS' hT⟩
theorem Ygb {i:Nat}{oi:Oper}{v:Value}{fuel:Nat}{listed:Array Bool}{a:Act}{w:World}(st fl:Bool)(hmo:∀ w,S false w->S true w)(hi:ops[i]? = some oi)
    (hs:Region.noSelect ops=true) (hf:Region.free md ops listed i=true) (hr:(Region.ready md ops listed).contains i=true) (hki:(k==i)=false)
    (hk:(!st||Zks md ops k i)=true) (hfl:listed.getD k true=fl) (hsf:(!st || !fl)=true)
    (hQ:∀ c a w,Q (.panic c) (a.put oi.dst v) w->Q (.panic c) a w) (hS:S fl w) (hy:YieldsIf P ops (S (!st)) oi v a)
    (h:Zab P md ops Q S k fuel (listed.setIfInBounds i true) (a.put oi.dst v) w):Zab P md ops Q S k (fuel+1) listed a w:=by
  subst hfl;refine Ylk st hmo hi (Region.noSelect_spec hs) hQ (by grind) (fun e=>by grind) fuel listed a w (Region.free_spec hi hf) (by grind) (fun e=>by grind) hy hS h
def nth {α:Type}:List α->Nat->Option α
 | [],_=>none
 | x::_,0=>some x
 | _::l,n+1=>nth l n
theorem Ygc {α:Type}:∀ (l:List α) (n:Nat),nth l n=l[n]?
 | [],_=>by simp [nth]
 | x::_,0=>rfl
 | _::l,n+1=>by rw [nth,Ygc l n];rfl
theorem Z8f {α:Type}{l:List α}{n:Nat}{x:α}(h:nth l n=some x):l.toArray[n]? = some x:=by rw [Ygc] at h;grind
theorem Yq {l:List Oper}{i:Nat}{oi:Oper}{d:Option Tmp}{v:Value}{fuel:Nat}{listed:Array Bool}{a:Act}{w:World}(st fl:Bool)(hmo:∀ w,S false w->S true w)(hi:nth l i=some oi)(hd:oi.dst=d)
    (hs:Region.noSelect l.toArray=true) (hf:Region.free md l.toArray listed i=true) (hr:(Region.ready md l.toArray listed).contains i=true) (hki:(k==i)=false)
    (hk:(!st||Zks md l.toArray k i)=true) (hfl:listed.getD k true=fl) (hsf:(!st || !fl)=true)
    (hQ:∀ c a w,Q (.panic c) (a.put d v) w->Q (.panic c) a w) (hS:S fl w) (hw:Region.wanted oi (yielded l.toArray a.tmps)=true) (hy:∀ w,S (!st) w->(execOp a.eval oi).run P w = .ok (.value v) w)
    (h:Zab P md l.toArray Q S k fuel (listed.setIfInBounds i true) (a.put d v) w):Zab P md l.toArray Q S k (fuel+1) listed a w:=by
  subst hd;exact Ygb st fl hmo (Z8f hi) hs hf hr hki hk hfl hsf hQ hS (Or.inl ⟨hw,hy⟩) h
theorem Zg0 {l:List Oper}{i:Nat}{oi:Oper}{d:Option Tmp}{fuel:Nat}{listed:Array Bool}{a:Act}{w:World}(st fl:Bool)(hmo:∀ w,S false w->S true w)(hi:nth l i=some oi)(hd:oi.dst=d)
    (hs:Region.noSelect l.toArray=true) (hf:Region.free md l.toArray listed i=true) (hr:(Region.ready md l.toArray listed).contains i=true) (hki:(k==i)=false)
    (hk:(!st||Zks md l.toArray k i)=true) (hfl:listed.getD k true=fl) (hsf:(!st || !fl)=true)
    (hQ:∀ c a w,Q (.panic c) (a.put d undef) w->Q (.panic c) a w) (hS:S fl w) (hw:Region.wanted oi (yielded l.toArray a.tmps)=false)
    (h:Zab P md l.toArray Q S k fuel (listed.setIfInBounds i true) (a.put d undef) w):Zab P md l.toArray Q S k (fuel+1) listed a w:=by
  subst hd;exact Ygb st fl hmo (Z8f hi) hs hf hr hki hk hfl hsf hQ hS (Or.inr ⟨hw,rfl⟩) h
def AllT (P:Program)(md:Region.Mode)(ops:Array Oper)(Q:Exit->Act->World->Prop)(S:Bool->World->Prop)(k fuel:Nat)(listed:Array Bool)(a:Act)(w:World)(rs:List Nat):Prop:=∀ i∈rs,wpOp P ops Q i (fun a' w' => S ((listed.setIfInBounds i true).getD k true) w' /\ Zab P md ops Q S k fuel (listed.setIfInBounds i true) a' w') a w
theorem AllT.nil {fuel:Nat}{listed:Array Bool}{a:Act}{w:World}:AllT P md ops Q S k fuel listed a w []:=fun _ h=>by cases h
theorem AllT.cons {fuel:Nat}{listed:Array Bool}{a:Act}{w:World}{i:Nat}{o:Oper}{rs:List Nat}(fl:Bool)(hfl:(listed.setIfInBounds i true).getD k true=fl)(ho:ops[i]? = some o)
    (h:∀ K' : Act->World->Prop,Shut (∀ a w,S fl w->(S fl w->Zab P md ops Q S k fuel (listed.setIfInBounds i true) a w)->K' a w)->if Region.wanted o (yielded ops a.tmps)=true then Oper.wp P o a w K' Q else K' (a.put o.dst undef) w)
    (hs:AllT P md ops Q S k fuel listed a w rs):AllT P md ops Q S k fuel listed a w (i::rs):=fun j hj=>by
  subst hfl;rcases List.mem_cons.1 hj with rfl | hj
  . exact wpOp_step ho (fun K' hK=>h K' (fun a w hS hW=>hK a w ⟨hS,hW hS⟩))
  . exact hs j hj
theorem AllT.cons' {l:List Oper}{fuel:Nat}{listed:Array Bool}{a:Act}{w:World}{i:Nat}{o:Oper}{rs:List Nat}(fl:Bool)(hfl:(listed.setIfInBounds i true).getD k true=fl)(ho:nth l i=some o)
    (h:∀ K' : Act->World->Prop,Shut (∀ a w,S fl w->(S fl w->Zab P md l.toArray Q S k fuel (listed.setIfInBounds i true) a w)->K' a w)->if Region.wanted o (yielded l.toArray a.tmps)=true then Oper.wp P o a w K' Q else K' (a.put o.dst undef) w)
    (hs:AllT P md l.toArray Q S k fuel listed a w rs):AllT P md l.toArray Q S k fuel listed a w (i::rs):=AllT.cons fl hfl (Z8f ho) h hs
theorem Z7 {rs:List Nat}{fuel:Nat}{listed:Array Bool}{a:Act}{w:World}(hr:Region.ready md ops listed=rs)(hne:rs≠[])
    (h:AllT P md ops Q S k fuel listed a w rs):Zab P md ops Q S k (fuel+1) listed a w:=⟨fun h0=>absurd (hr ▸ h0) hne,hr ▸ h⟩
theorem Zip {listed:Array Bool}{a:Act}{w:World}(hr:Region.ready md ops listed=[])(h:Q .normal a w):∀ fuel,Zab P md ops Q S k fuel listed a w
 | 0=>⟨hr,h⟩
 | _+1=>⟨fun _=>h,by grind⟩
theorem T_t {l:List Oper}{oi:Oper}{v:Value}{fuel:Nat}{listed:Array Bool}{a:Act}{w:World}(st fl:Bool)(hmo:∀ w,S false w->S true w)(i:Nat)(d:Tmp)(hi:nth l i=some oi)(hd:oi.dst=some d)(hS:S fl w)(hy:∀ w,S (!st) w->(execOp a.eval oi).run P w = .ok (.value v) w)
    (h:Zab P md l.toArray Q S k fuel (listed.setIfInBounds i true) (a.put (some d) v) w) (hs:Region.noSelect l.toArray=true:=by kernel_rfl) (hf:Region.free md l.toArray listed i=true:=by kernel_rfl) (hr:(Region.ready md l.toArray listed).contains i=true:=by kernel_rfl) (hki:(k==i)=false:=by kernel_rfl)
    (hk:(!st||Zks md l.toArray k i)=true:=by kernel_rfl) (hfl:listed.getD k true=fl:=by kernel_rfl) (hsf:(!st || !fl)=true:=by kernel_rfl) (hQ:∀ c a' w,Q (.panic c) (a'.put (some d) v) w->Q (.panic c) a' w:=by exact fun _ _ _ h=>h) (hw:Region.wanted oi (yielded l.toArray a.tmps)=true:=by rfl):Zab P md l.toArray Q S k (fuel+1) listed a w :=
  Yq st fl hmo hi hd hs hf hr hki hk hfl hsf hQ hS hw hy h
theorem T_s {l:List Oper}{oi:Oper}{fuel:Nat}{listed:Array Bool}{a:Act}{w:World}(st fl:Bool)(hmo:∀ w,S false w->S true w)(i:Nat)(d:Tmp)(hi:nth l i=some oi)(hd:oi.dst=some d)(hS:S fl w)
    (h:Zab P md l.toArray Q S k fuel (listed.setIfInBounds i true) (a.put (some d) undef) w) (hs:Region.noSelect l.toArray=true:=by kernel_rfl) (hf:Region.free md l.toArray listed i=true:=by kernel_rfl) (hr:(Region.ready md l.toArray listed).contains i=true:=by kernel_rfl) (hki:(k==i)=false:=by kernel_rfl)
    (hk:(!st||Zks md l.toArray k i)=true:=by kernel_rfl) (hfl:listed.getD k true=fl:=by kernel_rfl) (hsf:(!st || !fl)=true:=by kernel_rfl) (hQ:∀ c a' w,Q (.panic c) (a'.put (some d) undef) w->Q (.panic c) a' w:=by exact fun _ _ _ h=>h) (hw:Region.wanted oi (yielded l.toArray a.tmps)=false:=by rfl):Zab P md l.toArray Q S k (fuel+1) listed a w :=
  Zg0 st fl hmo hi hd hs hf hr hki hk hfl hsf hQ hS hw h
end
theorem aS {α:Type}(l:List α)(i:Nat)(a:α):l.toArray.setIfInBounds i a=(l.set i a).toArray:=List.setIfInBounds_toArray ..
theorem a0 {α:Type}(x y:α)(l:List α):(x::l).set 0 y=y::l:=rfl
theorem aN {α:Type}(x y:α)(l:List α)(n:Nat):(x::l).set (n+1) y=x::l.set n y:=rfl
end Tj
