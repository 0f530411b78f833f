import Derived.Test.YtlnihcefchoofaaGreatDoorRows
import Derived.WalkKit
import Derived.Lib.Hide
import Derived.Deep.RegionHeld3
import Derived.Deep.AppendLies
import Derived.Deep.OwnRows
import Derived.Deep.DrawnRows
set_option linter.all false
namespace Tj
open Go Go.RowKit Go.Proofs
variable {b:Nat}
theorem Xn{w:World}{x:Option Obj}(o:Obj)(h:w.heap[b]? = x)(hb:b<w.heap.size):(w.alloc o).heap[b]? = x:=by rw[Below.heap_alloc _ _ _ hb,h]
theorem Z8v(w:World)(o o' : Obj):((w.alloc o).alloc o').drew.heap[w.heap.size+1]? = some o' := by have:=heap_alloc_new (w.alloc o) o';rw[World.size_alloc]at this;exact this
theorem Zbh(w:World)(o o' : Obj):((w.alloc o).alloc o').heap[w.heap.size+1]? = some o' := Z8v w o o'
theorem Zeg{w:World}{x:Obj}(h:w.heap[b]? = some x):b<w.heap.size:=by grind
theorem Zc(a:Addr)(n:Nat):(a.add n).block=a.block:=by unfold Addr.add;grind
theorem Zi9(a:Addr)(m i:Nat):a.add (m+(i+1))=⟨(a.add m).block,(a.add m).off+(i+1),none⟩:=by unfold Addr.add;grind
theorem Yc{w:World}{j: Nat}{cs:Array Value}{t:TypeId}{z:Nat×Nat}{x:Value}(h:w.heap[b]? = some (.cells cs t z))(hx:cs[j]? = some x) :
    w.cell? ⟨b,j,none⟩=some x/\(∀o,(w.alloc o).cell? ⟨b,j,none⟩=some x) /\ ∀o o',((w.alloc o).alloc o').cell? ⟨b,j,none⟩=some x:=by
  have hb:=Zeg h;have key:∀w' : World,w'.heap[b]? = some (.cells cs t z)->w'.cell? ⟨b,j,none⟩=some x:=λw' h' => by simp only[World.cell?,h'];exact hx
  exact⟨key _ h,λo=>key _ (Xn o h hb),λo o' => key _ (Xn o' (Xn o h hb) (by simp;omega))⟩
def SlAt{α:Type}(w:World)(sz:Nat)(f:α->List Value)(a:Option Addr)(n:Nat)(xs:List α):Prop:=n=xs.length /\ ∀(j:Nat) (x:α),xs[j]? = some x -> ∃b,a=some b/\b.block<w.heap.size /\ ∀(i:Nat) (v:Value),(f x)[i]? = some v->w.cell? (b.add (j*sz+i))=some v
abbrev Chn:=Int×Int×Int×Int×Int×Unit
abbrev Opr:=Int×Int×Unit
def chC(r:Chn):List Value:=[.int .i64 r.1,.int .i64 r.2.1,.int .i64 r.2.2.1,.int .i64 r.2.2.2.1,.int .i64 r.2.2.2.2.1]
def opC(r:Opr):List Value:=[.int .u8 r.1,.int .i64 r.2.1]
theorem Yr3:(Tryz.prog.info? 23).map (λi=>(i.zero,i.size,i.bytes))=some (some (.slice none 0 0),1,24):=by kernel_rfl
theorem info3:(Tryz.prog.info? 3).map (λi=>(i.zero,i.size,i.bytes))=some (some (.int .i64 0),1,8):=by kernel_rfl
end Tj
namespace Tj
open Go Go.RowKit Go.Proofs
def bnd(k:Int):Int×Int×Int×Int:=if k=1 then(0,0,1,1)else if k=2 then(1,1,1,2)else if k=3 then(1,1,1,3)else if k=4 then(1,4,1,1)else if k=5 then(2,2,1,1)else if k=6 then(1,3,0,0)else(1,4,0,0)
theorem Ygq:(Tryz.prog.info? 199).map (·.size)=some 2:=by kernel_rfl
theorem Zw9(w:World)(tmps:Array Value)(x1 x2 x3 x4:Int)(h2:tmps.getD 2 undef = .pointer (some ⟨w.heap.size,0,none⟩))(h3:tmps.getD 3 undef = .pointer (some ⟨w.heap.size+1,0,none⟩)) :
    (results Tryz.f123 tmps).run Tryz.prog ((w.alloc (.cells #[.int .i64 x1,.int .i64 x2] 199)).alloc (.cells #[.int .i64 x3,.int .i64 x4] 199)) = .ok (.tuple #[.agg #[.int .i64 x1,.int .i64 x2],.agg #[.int .i64 x3,.int .i64 x4]]) ((w.alloc (.cells #[.int .i64 x1,.int .i64 x2] 199)).alloc (.cells #[.int .i64 x3,.int .i64 x4] 199)):=by
  have h:Tryz.f123.results=#[.cell 2 199,.cell 3 199]:=rfl;have hp' : tmps[2]?.getD undef = .pointer (some ⟨w.heap.size,0,none⟩):=by simp_all
  have hq' : tmps[3]?.getD undef = .pointer (some ⟨w.heap.size+1,0,none⟩):=by simp_all
  have e1:=run_loadVar_row (P:=Tryz.prog) ((w.alloc (.cells #[.int .i64 x1,.int .i64 x2] 199)).alloc (.cells #[.int .i64 x3,.int .i64 x4] 199)) w.heap.size 199 199 #[.int .i64 x1,.int .i64 x2] (0,0) _ (Xn _ (heap_alloc_new w _) (by simp)) Tryz.underlying199 rfl Ygq;have e2:=run_loadVar_row (P:=Tryz.prog) ((w.alloc (.cells #[.int .i64 x1,.int .i64 x2] 199)).alloc (.cells #[.int .i64 x3,.int .i64 x4] 199)) (w.heap.size+1) 199 199 #[.int .i64 x3,.int .i64 x4] (0,0) _ (Zbh w _ _) Tryz.underlying199 rfl Ygq;simp[results,h,hp',hq',asAddr,e1,e2]
set_option maxRecDepth 100000 in
set_option maxHeartbeats 2000000 in
theorem Yce(k:Int)(w:World):Calls Tryz.prog 123 #[.int .u8 k] w λe w' => e = .returned (.tuple #[.agg #[.int .i64 (bnd k).1,.int .i64 (bnd k).2.1],.agg #[.int .i64 (bnd k).2.2.1,.int .i64 (bnd k).2.2.2]])/\Below w.heap.size w w' := by
 have key:∀x1 x2 x3 x4:Int,bnd k=(x1,x2,x3,x4)->(∀e w',e=Ending.returned (.tuple #[.agg #[.int .i64 x1,.int .i64 x2],.agg #[.int .i64 x3,.int .i64 x4]])/\Below w.heap.size w w' -> e = .returned (.tuple #[.agg #[.int .i64 (bnd k).1,.int .i64 (bnd k).2.1],.agg #[.int .i64 (bnd k).2.2.1,.int .i64 (bnd k).2.2.2]])/\Below w.heap.size w w'):=λx1 x2 x3 x4 h e w' he=>by grind
 by_cases k1:k=1
 . refine(?_:Calls Tryz.prog 123 #[.int .u8 k] w _).mono (key 0 0 1 1 (by simp[bnd,k1]));clear key;subst k1;go_enter Tryz.func123,Tryz.ntmps123;go_wp2;refine bodyPost_ret (Zw9 w _ 0 0 1 1 rfl rfl) rfl ?_;exact⟨rfl,((Below.refl _ _).alloc (Nat.le_refl _) _).alloc (by simp) _⟩
 by_cases k2:k=2
 . refine(?_:Calls Tryz.prog 123 #[.int .u8 k] w _).mono (key 1 1 1 2 (by simp[bnd,k2]));clear key;subst k2;go_enter Tryz.func123,Tryz.ntmps123;go_wp2;refine bodyPost_ret (Zw9 w _ 1 1 1 2 rfl rfl) rfl ?_;exact⟨rfl,((Below.refl _ _).alloc (Nat.le_refl _) _).alloc (by simp) _⟩
 by_cases k3:k=3
 . refine(?_:Calls Tryz.prog 123 #[.int .u8 k] w _).mono (key 1 1 1 3 (by simp[bnd,k3]));clear key;subst k3;go_enter Tryz.func123,Tryz.ntmps123;go_wp2;refine bodyPost_ret (Zw9 w _ 1 1 1 3 rfl rfl) rfl ?_;exact⟨rfl,((Below.refl _ _).alloc (Nat.le_refl _) _).alloc (by simp) _⟩
 by_cases k4:k=4
 . refine(?_:Calls Tryz.prog 123 #[.int .u8 k] w _).mono (key 1 4 1 1 (by simp[bnd,k4]));clear key;subst k4;go_enter Tryz.func123,Tryz.ntmps123;go_wp2;refine bodyPost_ret (Zw9 w _ 1 4 1 1 rfl rfl) rfl ?_;exact⟨rfl,((Below.refl _ _).alloc (Nat.le_refl _) _).alloc (by simp) _⟩
 by_cases k5:k=5
 . refine(?_:Calls Tryz.prog 123 #[.int .u8 k] w _).mono (key 2 2 1 1 (by simp[bnd,k5]));clear key;subst k5;go_enter Tryz.func123,Tryz.ntmps123;go_wp2;refine bodyPost_ret (Zw9 w _ 2 2 1 1 rfl rfl) rfl ?_;exact⟨rfl,((Below.refl _ _).alloc (Nat.le_refl _) _).alloc (by simp) _⟩
 by_cases k6:k=6
 . refine(?_:Calls Tryz.prog 123 #[.int .u8 k] w _).mono (key 1 3 0 0 (by simp[bnd,k6]));clear key;subst k6;go_enter Tryz.func123,Tryz.ntmps123;go_wp2;refine bodyPost_ret (Zw9 w _ 1 3 0 0 rfl rfl) rfl ?_;exact⟨rfl,((Below.refl _ _).alloc (Nat.le_refl _) _).alloc (by simp) _⟩
 refine(?_:Calls Tryz.prog 123 #[.int .u8 k] w _).mono (key 1 4 0 0 (by simp[bnd,k1,k2,k3,k4,k5,k6]));clear key;have e1:(k==1)=false:=by grind
 have e2:(k==2)=false:=by grind
 have e3:(k==3)=false:=by grind
 have e4:(k==4)=false:=by grind
 have e5:(k==5)=false:=by grind
 have e6:(k==6)=false:=by grind
 go_enter Tryz.func123,Tryz.ntmps123;go_wp2;refine bodyPost_ret (Zw9 w _ 1 4 0 0 rfl rfl) rfl ?_;exact⟨rfl,((Below.refl _ _).alloc (Nat.le_refl _) _).alloc (by simp) _⟩
section
variable {P:Program} {ops:Array Oper} {Q:Exit->Act->World->Prop} {md:Region.Mode} {S:Bool->World->Prop} {k:Nat}
def Zau(P:Program)(md:Region.Mode)(ops:Array Oper)(Q:Exit->Act->World->Prop)(S:Bool->World->Prop)(k:Nat):Nat->Array Bool->Act->World->Prop
 |0,listed,a,w=>Region.ready md ops listed=[]/\Q .normal a w|fuel+1,listed,a,w =>
  (Region.ready md ops listed=[]->Q .normal a w) /\
  ∀i∈Region.ready md ops listed,wpOp P ops Q i (λa' w' => S ((listed.setIfInBounds i true).getD k true) w' /\ Zau P md ops Q S k fuel (listed.setIfInBounds i true) a' w') a w
theorem Z8w:∀(fuel:Nat) (listed:Array Bool) (a:Act) (w:World),Zau P md ops Q S k fuel listed a w->wpAny P md ops Q fuel listed a w|0,_,_,_,h=>h|fuel+1,_,_,_,h=>⟨h.1,λi hi=>wpOp_mono (λa' w' h' => Z8w fuel _ a' w' h'.2) (h.2 i hi)⟩
variable {a:Act}
theorem Ylt{id:Nat}{w:World}(k n:Nat)(S:Bool->World->Prop)(hn:ops.size=n)(hm:P.follows .mixedOrders=true)(hS:S false w.drew)
    (h:S false w.drew->Zau P .any ops Q S k n (Array.replicate n false) a w.drew):(Code.region id ops true).wp P Q a w:=by
  subst hn;exact wp_region_any hm (Z8w _ _ _ _ (h hS))
def Zpg(md:Region.Mode)(ops:Array Oper)(k i:Nat):Bool:=match ops[k]? with|some o=>o.after.any λe=>Region.binds md e&&e.on==i|none=>false
theorem Ycf{i:Nat}(h:Zpg md ops k i=true):∃o,ops[k]? = some o /\ ∃e∈o.after,Region.binds md e=true/\e.on=i:=by
 unfold Zpg at h;split at h;rename_i o ho;rw[Array.any_eq_true']at h;obtain⟨e,he,hb⟩:=h;rw[Bool.and_eq_true]at hb;exact⟨o,ho,e,he,hb.1,by simpa using hb.2⟩;cases h
variable {oi:Oper}
theorem Yr4{i:Nat}{v:Value}(st:Bool)(hmo:∀w,S false w->S true w)(hi:ops[i]? = some oi)(hsel:∀(j:Nat) (o:Oper) cs b,ops[j]? = some o->o.op ≠ .select cs b)
    (hQ:∀c a w,Q (.panic c) (a.put oi.dst v) w->Q (.panic c) a w) (hki:k≠i) (hk:st=true->Zpg md ops k i=true) :
    ∀(fuel:Nat) (listed:Array Bool) (a:Act) (w:World),
     (∀j oj,ops[j]? = some oj->j≠i->listed.getD j true=false->(∀e∈oj.after,Region.binds md e=true->e.on≠i)->oi.apart ops oj=true) ->
     i∈Region.ready md ops listed->(st=true->listed.getD k true=false)->YieldsIf P ops (S (!st)) oi v a->S (listed.getD k true) w ->
     Zau P md ops Q S k fuel (listed.setIfInBounds i true) (a.put oi.dst v) w->Zau P md ops Q S k (fuel+1) listed a w:=by
  have hSS:∀(l:Array Bool) (w:World),(st=true->l.getD k true=false)->S (l.getD k true) w->S (!st) w:=λl w h1 h2=>by
   cases st with|true=>rw[h1 rfl]at h2;exact h2|false => cases hl:l.getD k true with|true=>rw[hl]at h2;exact h2|false=>rw[hl]at h2;exact hmo w h2
  intro fuel
  induction fuel with
  |zero => intro listed a w _ hr hf hy hS H;refine⟨λh=>(by rw[h]at hr;cases hr),λj hj=>?_⟩;by_cases hji:j=i;subst hji;exact hy.wpOp hi (hSS listed w hf hS) ⟨by rw[getD_set_ne true (λe=>hki e.symm)];exact hS,H⟩;have:=ready_mono hj hji;rw[H.1]at this;cases this|succ fuel ih =>
   intro listed a w hfree hr hf hy hS H;refine⟨λh=>(by rw[h]at hr;cases hr),λj hj=>?_⟩;by_cases hji:j=i;subst hji;exact hy.wpOp hi (hSS listed w hf hS) ⟨by rw[getD_set_ne true (λe=>hki e.symm)];exact hS,H⟩;have h1:=H.2 j (ready_mono hj hji);obtain⟨hjun,oj,hoj,hall⟩:=mem_ready.1 hj;have hnot:∀e∈oj.after,Region.binds md e=true->e.on≠i:=λe he hb heq=>by
    have h1:=hall e he hb;have h0:=(mem_ready.1 hr).1;rw[heq]at h1;rcases Nat.lt_or_ge i listed.size with h' | h'
    simp[h']at h0 h1;rw[h0]at h1;cases h1;simp[Array.getElem?_eq_none h']at h1
   have hf' : st=true->(listed.setIfInBounds j true).getD k true=false:=λhs=>by
    by_cases hjk:j=k;subst hjk;obtain⟨o,ho,e,he,hb,hon⟩:=Ycf (hk hs);rw[hoj]at ho;obtain rfl:=Option.some.inj ho;exact absurd hon (hnot e he hb);rw[getD_set_ne true hjk];exact hf hs
   have h2:=wpOp_putIf hoj (hfree j oj hoj hji hjun hnot) (λcs b=>hsel i oi cs b hi) (λcs b=>hsel j oj cs b hoj) hQ hy h1;have hfree' : ∀q oq,ops[q]? = some oq->q≠i->(listed.setIfInBounds j true).getD q true=false ->
       (∀e∈oq.after,Region.binds md e=true->e.on≠i)->oi.apart ops oq=true:=λq oq hq hqi hun hno=>by
     refine hfree q oq hq hqi ?_ hno;by_cases hjq:j=q;subst hjq;exact hjun;rw[getD_set_ne true hjq]at hun;exact hun
   refine wpOp_mono (λa' w' h3=>?_) h2;obtain⟨hy',hS',hT⟩:=h3;rw[Array.setIfInBounds_comm _ _ (Ne.symm hji)]at hS' hT;rw[getD_set_ne true (λe=>hki e.symm)]at hS';exact⟨hS',ih (listed.setIfInBounds j true) a' w' hfree' (ready_mono hr (Ne.symm hji)) hf' hy' hS' hT⟩
variable {listed:Array Bool}
theorem Ylu{i:Nat}{v:Value}{fuel:Nat}{w:World}(st fl:Bool)(hmo:∀w,S false w->S true w)(hi:ops[i]? = some oi)
    (hs:Region.noSelect ops=true) (hf:Region.free md ops listed i=true) (hr:(Region.ready md ops listed).contains i=true) (hki:(k==i)=false)
    (hk:(!st||Zpg md ops k i)=true) (hfl:listed.getD k true=fl) (hsf:(!st || !fl)=true)
    (hQ:∀c a w,Q (.panic c) (a.put oi.dst v) w->Q (.panic c) a w) (hS:S fl w) (hy:YieldsIf P ops (S (!st)) oi v a)
    (h:Zau P md ops Q S k fuel (listed.setIfInBounds i true) (a.put oi.dst v) w):Zau P md ops Q S k (fuel+1) listed a w:=by
  subst hfl;refine Yr4 st hmo hi (Region.noSelect_spec hs) hQ (by simpa using hki) (λe=>by subst e;simpa using hk) fuel listed a w (Region.free_spec hi hf) (by simpa using hr) (λe=>by subst e;simpa using hsf) hy hS h
def nth{α:Type}:List α->Nat->Option α|[],_=>none|x::_,0=>some x|_::l,n+1=>nth l n
theorem Ylv{α:Type}:∀(l:List α) (n:Nat),nth l n=l[n]?|[],_=>by simp[nth]|x::_,0=>rfl|_::l,n+1=>by rw[nth,Ylv l n];rfl
variable {α:Type}
theorem Ycg{l:List α}{n:Nat}{x:α}(h:nth l n=some x):l.toArray[n]? = some x:=by rw[Ylv]at h;simpa using h
variable {d:Option Tmp}
theorem Yr5{l:List Oper}{i:Nat}{v:Value}{fuel:Nat}{w:World}(st fl:Bool)(hmo:∀w,S false w->S true w)(hi:nth l i=some oi)(hd:oi.dst=d)
    (hs:Region.noSelect l.toArray=true) (hf:Region.free md l.toArray listed i=true) (hr:(Region.ready md l.toArray listed).contains i=true) (hki:(k==i)=false)
    (hk:(!st||Zpg md l.toArray k i)=true) (hfl:listed.getD k true=fl) (hsf:(!st || !fl)=true)
    (hQ:∀c a w,Q (.panic c) (a.put d v) w->Q (.panic c) a w) (hS:S fl w) (hw:Region.wanted oi (yielded l.toArray a.tmps)=true) (hy:∀w,S (!st) w->(execOp a.eval oi).run P w = .ok (.value v) w)
    (h:Zau P md l.toArray Q S k fuel (listed.setIfInBounds i true) (a.put d v) w):Zau P md l.toArray Q S k (fuel+1) listed a w:=by
  subst hd;exact Ylu st fl hmo (Ycg hi) hs hf hr hki hk hfl hsf hQ hS (Or.inl ⟨hw,hy⟩) h
theorem Yr6{l:List Oper}{i:Nat}{fuel:Nat}{w:World}(st fl:Bool)(hmo:∀w,S false w->S true w)(hi:nth l i=some oi)(hd:oi.dst=d)
    (hs:Region.noSelect l.toArray=true) (hf:Region.free md l.toArray listed i=true) (hr:(Region.ready md l.toArray listed).contains i=true) (hki:(k==i)=false)
    (hk:(!st||Zpg md l.toArray k i)=true) (hfl:listed.getD k true=fl) (hsf:(!st || !fl)=true)
    (hQ:∀c a w,Q (.panic c) (a.put d undef) w->Q (.panic c) a w) (hS:S fl w) (hw:Region.wanted oi (yielded l.toArray a.tmps)=false)
    (h:Zau P md l.toArray Q S k fuel (listed.setIfInBounds i true) (a.put d undef) w):Zau P md l.toArray Q S k (fuel+1) listed a w:=by
  subst hd;exact Ylu st fl hmo (Ycg hi) hs hf hr hki hk hfl hsf hQ hS (Or.inr ⟨hw,rfl⟩) h
def AllT(P:Program)(md:Region.Mode)(ops:Array Oper)(Q:Exit->Act->World->Prop)(S:Bool->World->Prop)(k fuel:Nat)(listed:Array Bool)(a:Act)(w:World)(rs:List Nat):Prop:=∀i∈rs,wpOp P ops Q i (λa' w' => S ((listed.setIfInBounds i true).getD k true) w' /\ Zau P md ops Q S k fuel (listed.setIfInBounds i true) a' w') a w
theorem AllT.nil{fuel:Nat}{w:World}:AllT P md ops Q S k fuel listed a w []:=λ_ h=>by cases h
variable {o:Oper}
theorem AllT.cons{fuel:Nat}{w:World}{i:Nat}{rs:List Nat}(fl:Bool)(hfl:(listed.setIfInBounds i true).getD k true=fl)(ho:ops[i]? = some o)
    (h:∀K' : Act->World->Prop,Shut (∀a w,S fl w->(S fl w->Zau P md ops Q S k fuel (listed.setIfInBounds i true) a w)->K' a w)->if Region.wanted o (yielded ops a.tmps)=true then Oper.wp P o a w K' Q else K' (a.put o.dst undef) w)
    (hs:AllT P md ops Q S k fuel listed a w rs):AllT P md ops Q S k fuel listed a w (i::rs):=λj hj=>by
  subst hfl;rcases List.mem_cons.1 hj with rfl|hj
  exact wpOp_step ho (λK' hK=>h K' (λa w hS hW=>hK a w ⟨hS,hW hS⟩));exact hs j hj
theorem AllT.cons'{l:List Oper}{fuel:Nat}{w:World}{i:Nat}{rs:List Nat}(fl:Bool)(hfl:(listed.setIfInBounds i true).getD k true=fl)(ho:nth l i=some o)
    (h:∀K' : Act->World->Prop,Shut (∀a w,S fl w->(S fl w->Zau P md l.toArray Q S k fuel (listed.setIfInBounds i true) a w)->K' a w)->if Region.wanted o (yielded l.toArray a.tmps)=true then Oper.wp P o a w K' Q else K' (a.put o.dst undef) w)
    (hs:AllT P md l.toArray Q S k fuel listed a w rs):AllT P md l.toArray Q S k fuel listed a w (i::rs):=AllT.cons fl hfl (Ycg ho) h hs
theorem Zeh{rs:List Nat}{fuel:Nat}{w:World}(hr:Region.ready md ops listed=rs)(hne:rs≠[])
    (h:AllT P md ops Q S k fuel listed a w rs):Zau P md ops Q S k (fuel+1) listed a w:=⟨λh0=>absurd (hr▸h0) hne,hr▸h⟩
theorem Yvl{w:World}(hr:Region.ready md ops listed=[])(h:Q .normal a w):∀fuel,Zau P md ops Q S k fuel listed a w|0=>⟨hr,h⟩|_+1=>⟨λ_=>h,by rw[hr];simp⟩
theorem pA(l:List α)(i:Nat)(a:α):l.toArray.setIfInBounds i a=(l.set i a).toArray:=List.setIfInBounds_toArray ..
theorem pB(x a:α)(l:List α):(x::l).set 0 a=a::l:=rfl
theorem pC(x a:α)(l:List α)(n:Nat):(x::l).set (n+1) a=x::l.set n a:=rfl
def lsd(N n:Nat)(sk:List Nat×List Nat):Array Bool:=((List.range N).map λj=>Nat.blt j n && !sk.1.contains j||sk.2.contains j).toArray
def wpN(P:Program)(md:Region.Mode)(l:List Oper)(Q:Exit->Act->World->Prop)(S:Bool->World->Prop)(k:Nat)(sk:List Nat×List Nat)(f n:Nat)(a:Act)(w:World):Prop:=Zau P md l.toArray Q S k f (lsd l.length n sk) a w
def Z23(l:List Oper)(sk:List Nat×List Nat)(n:Nat):Bool:=((lsd l.length n sk).setIfInBounds n true).toList==(lsd l.length (n+1) sk).toList
def okN(md:Region.Mode)(l:List Oper)(k:Nat)(sk:List Nat×List Nat)(st fl:Bool)(n:Nat):Bool:=Region.noSelect l.toArray&&(Region.free md l.toArray (lsd l.length n sk) n&&((Region.ready md l.toArray (lsd l.length n sk)).contains n&&(!(k==n)&&((!st||Zpg md l.toArray k n)&&((lsd l.length n sk).getD k true==fl&&((!st || !fl)&&Z23 l sk n))))))
section
variable {l:List Oper} {sk:List Nat×List Nat} {f n:Nat} {a:Act} {w:World}
theorem Z48(h:Z23 l sk n=true):(lsd l.length n sk).setIfInBounds n true=lsd l.length (n+1) sk:=Array.toList_inj.1 (by simpa[Z23]using h)
variable {ps:String}{af:Array Edge}{gd:Option (Nat×Bool)}
theorem N_go{d:Option Tmp}{op:Op}{ty:TypeId}{v:Value}(st fl:Bool)(hmo:∀w,S false w->S true w)(hS:S fl w)(hi:nth l n=some ⟨d,op,ty,ps,af,gd⟩)(hQ:∀c a w,Q (.panic c) (a.put d v) w->Q (.panic c) a w)
    (hw:Region.wanted ⟨d,op,ty,ps,af,gd⟩ (yielded l.toArray a.tmps)=true) (hy:∀w,S (!st) w->(execOp a.eval ⟨d,op,ty,ps,af,gd⟩).run P w = .ok (.value v) w) (h:wpN P md l Q S k sk f (n+1) (a.put d v) w) (hc:okN md l k sk st fl n=true:=by kernel_rfl):wpN P md l Q S k sk (f+1) n a w:=by
  simp only[okN,Bool.and_eq_true,Bool.not_eq_true',beq_iff_eq]at hc;obtain⟨h1,h2,h3,h4,h5,h6,h7,h8⟩:=hc;exact Yr5 st fl hmo hi rfl h1 h2 h3 h4 h5 h6 h7 hQ hS hw hy (Z48 h8▸h)
theorem Z8x{d:Option Tmp}{op:Op}{ty:TypeId}(st fl:Bool)(hmo:∀w,S false w->S true w)(hS:S fl w)(hi:nth l n=some ⟨d,op,ty,ps,af,gd⟩)(hQ:∀c a w,Q (.panic c) (a.put d undef) w->Q (.panic c) a w)
    (hw:Region.wanted ⟨d,op,ty,ps,af,gd⟩ (yielded l.toArray a.tmps)=false) (h:wpN P md l Q S k sk f (n+1) (a.put d undef) w) (hc:okN md l k sk st fl n=true:=by kernel_rfl):wpN P md l Q S k sk (f+1) n a w:=by
  simp only[okN,Bool.and_eq_true,Bool.not_eq_true',beq_iff_eq]at hc;obtain⟨h1,h2,h3,h4,h5,h6,h7,h8⟩:=hc;exact Yr6 st fl hmo hi rfl h1 h2 h3 h4 h5 h6 h7 hQ hS hw (Z48 h8▸h)
theorem N_sk(h:wpN P md l Q S k sk f (n+1) a w)(hc:(Nat.blt n l.length&&(lsd l.length n sk).toList==(lsd l.length (n+1) sk).toList)=true:=by kernel_rfl):wpN P md l Q S k sk f n a w:=by have:lsd l.length n sk=lsd l.length (n+1) sk:=Array.toList_inj.1 (by simp only[Bool.and_eq_true,beq_iff_eq]at hc;exact hc.2);unfold wpN at h ⊢;rwa [this]
theorem N_in{listed:Array Bool}(sk:List Nat×List Nat)(n:Nat)(h:wpN P md l Q S k sk f n a w)(hc:(listed.toList==(lsd l.length n sk).toList)=true:=by kernel_rfl):Zau P md l.toArray Q S k f listed a w:=by have:listed=lsd l.length n sk:=Array.toList_inj.1 (by simpa using hc);rwa [this]
theorem Zhy{o:Oper}(fl:Bool)(ho:nth l n=some o)
    (h:∀K' : Act->World->Prop,Shut (∀a w,S fl w->(S fl w->wpN P md l Q S k sk f (n+1) a w)->K' a w)->if Region.wanted o (yielded l.toArray a.tmps)=true then Oper.wp P o a w K' Q else K' (a.put o.dst undef) w)
    (hc:(decide (Region.ready md l.toArray (lsd l.length n sk)=[n])&&(((lsd l.length n sk).setIfInBounds n true).getD k true==fl&&Z23 l sk n))=true:=by kernel_rfl):wpN P md l Q S k sk (f+1) n a w:=by
  simp only[Bool.and_eq_true,decide_eq_true_eq,beq_iff_eq]at hc;obtain⟨h1,h2,h3⟩:=hc;refine Zeh h1 (by simp) (AllT.cons' fl h2 ho (λK hK=>h K ?_) AllT.nil);rw[Z48 h3]at hK;exact hK
theorem Zci(h:Q .normal a w)(hc:(Region.ready md l.toArray (lsd l.length n sk)).isEmpty=true:=by kernel_rfl):wpN P md l Q S k sk f n a w:=Yvl (List.isEmpty_iff.1 hc) h f
theorem Z24{id:Nat}(k n:Nat)(sk:List Nat×List Nat)(S:Bool->World->Prop)(hS:S false w.drew)(h:S false w.drew->wpN P .any l Q S k sk n 0 a w.drew)(hn:l.toArray.size=n:=by kernel_rfl)(hm:P.follows .mixedOrders=true:=by kernel_rfl)
    (hc:((Array.replicate n false).toList==(lsd l.length 0 sk).toList)=true:=by kernel_rfl):(Code.region id l.toArray true).wp P Q a w:=Ylt k n S hn hm hS (λh0=>N_in sk 0 (h h0) hc)
end
end
end Tj
