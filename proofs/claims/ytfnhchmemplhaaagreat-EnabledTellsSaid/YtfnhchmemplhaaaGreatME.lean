import Derived.Test.YtfnhchmemplhaaaGreatMW
import Derived.Test.YtfnhchmemplhaaaGreatYb10
/- Which operators can do a step: the program and the reference say the same. -/
set_option linter.unusedVariables false
set_option linter.unusedSimpArgs false
namespace Tg
open Go
open Go.Abs (bigOk cloned tmm)
def firstI:Nat→List Que→Int
 | _,[]=>-1
 | i,q::l=>bif decide (0<q.2.1.length) then (i:Int) else firstI (i+1) l
theorem tmod_small {i n:Nat}(h:i<n):Int.tmod (i:Int) (n:Int)=(i:Int):=by
 rw [Int.tmod_eq_emod_of_nonneg (by omega)]
 exact Int.emod_eq_of_lt (by omega) (by omega)
theorem first0 (l:List Que)(hl:l.length≤100000):task_first 0 l=some (firstI 0 l,())∧ref27_first 0 l=some (firstI 0 l,()):=by
 have hf:=fuel_ge
 have key:∀ (f:Nat→Int→Option (Int×Unit)),(∀ n (i:Nat) q,l[i]? = some q→f (n+1) (i:Int)=bif decide (0<q.2.1.length) then some ((i:Int),()) else f n ((i+1:Nat):Int))→(∀ n,f (n+1) (l.length:Int)=some (-1,())) →
     ∀ (r:List Que) (i n:Nat),l.drop i=r→i≤l.length→r.length+1≤n→f n (i:Int)=some (firstI i r,()):=by
   intro f h1 h2 r
   induction r with
   | nil =>
    intro i n h hi hn
    obtain⟨m,rfl⟩:∃ m,n=m+1:=⟨n - 1,by omega⟩
    have:=drop_end h hi
    subst this
    exact h2 m
   | cons q r ih =>
    intro i n h hi hn
    obtain⟨m,rfl⟩:∃ m,n=m+1:=⟨n - 1,by omega⟩
    obtain⟨g1,g2,g3⟩:=drop_get h
    rw [h1 m i q g2,firstI,ih (i+1) m g3 (by omega) (by simp at hn;omega)]
    cases decide (0<q.2.1.length) <;> rfl
 have hd:∀ q:Que,decide (Int.ofNat q.2.1.length>0)=decide (0<q.2.1.length):=fun q=>by rw [Bool.eq_iff_iff];simp
 have ha:∀ (i:Nat) (q:Que),l[i]? = some q→Int.tmod (Go.IntKind.wrap .i64 ((0:Int)+(i:Int))) (Int.ofNat l.length)=(i:Int):=fun i q h=>by
  have hi:=(List.getElem?_eq_some_iff.1 h).1
  rw [Int.zero_add,w64 (by omega) (by omega)]
  exact tmod_small hi
 have hz:∀ (i:Nat) (q:Que),l[i]? = some q→decide (Int.ofNat l.length=0)=false:=fun i q h=>by
  have hi:=(List.getElem?_eq_some_iff.1 h).1
  exact decide_eq_false (by simp only [Int.ofNat_eq_natCast];omega)
 obtain⟨m,hm⟩:∃ m,fuel=m+1:=⟨fuel - 1,by omega⟩
 constructor
 · have h5:=key (fun n k=>task_first_i5 n 0 l (Int.ofNat l.length) k) (fun n i q h=>by
    have hi:=(List.getElem?_eq_some_iff.1 h).1
    rw [task_first_c5]
    simp only [ltL h,cond_true,hz i q h,cond_false,ha i q h,ix_s h,hd,wS (show i<1000000000000 by omega)]) (fun n=>by rw [task_first_c5];simp only [geL,cond_false]) l 0 m rfl (by omega) (by omega)
   rw [task_first_c,hm]
   have:(bif decide ((0:Int)≥Int.ofNat l.length) then task_first_i1 (m+1) 0 l else task_first_i1 (m+1) 0 l)=task_first_i1 (m+1) 0 l:=by cases decide ((0:Int)≥Int.ofNat l.length) <;> rfl
   rw [this,task_first_c1]
   exact h5
 · have h5:=key (fun n k=>ref27_first_i5 n 0 l k) (fun n i q h=>by
    have hi:=(List.getElem?_eq_some_iff.1 h).1
    rw [ref27_first_c5]
    simp only [ltL h,cond_true,hz i q h,cond_false,ha i q h,ix_s h,hd,wS (show i<1000000000000 by omega)]) (fun n=>by rw [ref27_first_c5];simp only [geL,cond_false]) l 0 m rfl (by omega) (by omega)
   rw [ref27_first_c,hm]
   have:(bif decide ((0:Int)≥Int.ofNat l.length) then ref27_first_i1 (m+1) 0 l else ref27_first_i1 (m+1) 0 l)=ref27_first_i1 (m+1) 0 l:=by cases decide ((0:Int)≥Int.ofNat l.length) <;> rfl
   rw [this,ref27_first_c1]
   exact h5
def qsAt (u:List Que)(l:List (Int×Unit)):List Que:=l.filterMap fun y=>u[y.1.toNat]?
theorem qsAt_len {u:List Que}:∀ {l:List (Int×Unit)},(∀ y∈l,∃ i:Nat,i<u.length∧y=((i:Int),()))→(qsAt u l).length=l.length
 | [],_=>rfl
 | y::l,h=>by
  obtain⟨i,hi,rfl⟩:=h y (by simp)
  have ih:=qsAt_len (l:=l) (fun z hz=>h z (by simp [hz]))
  unfold qsAt at ih ⊢
  simp [List.filterMap_cons,hi,ih]
theorem queues_w (m:Mch)(l:List (Int×Unit))(hl:l.length≤1000)(hu:∀ y∈l,∃ i:Nat,i<(mU m).length∧y=((i:Int),())):step_queues m l=some (qsAt (mU m) l,())∧ref35_Queues m l=some (qsAt (mU m) l,()):=by
 have hf:=fuel_ge
 have fold:∀ (l:List (Int×Unit)) (a:List Que),l.foldl (fun s e=>s++((mU m)[e.1.toNat]?).toList) a=a++qsAt (mU m) l:=by
  intro l
  induction l with
  | nil=>intro a;simp [qsAt]
  | cons y l ih =>
   intro a
   rw [List.foldl_cons,ih]
   unfold qsAt
   rw [List.filterMap_cons]
   cases (mU m)[y.1.toNat]? <;> simp
 have step:∀ (i:Nat) (e:Int×Unit),l[i]? = some e → ∃ (k:Nat) (q:Que),e=((k:Int),())∧(mU m)[k]? = some q:=fun i e h=>by
  obtain⟨k,hk,rfl⟩:=hu e (List.mem_of_getElem? h)
  exact⟨k,_,rfl,List.getElem?_eq_getElem hk⟩
 constructor
 · have:=loopF (f:=fun n s k=>step_queues_i4 n (mU m) s l (Int.ofNat l.length) k) (l:=l) (g:=fun s e=>s++((mU m)[e.1.toNat]?).toList) (fin:=fun s=>some (s,())) (N:=0) (fun i s=>s.length≤i)
    (fun n s i e h hp=>by
     have hi:=(List.getElem?_eq_some_iff.1 h).1
     obtain⟨k,q,rfl,hq⟩:=step i e h
     have hb:bigOk (s.length+[q].length) 32=true:=big_ok (by simp;omega) (by omega)
     constructor
     · rw [step_queues_c4]
       simp only [ltL h,cond_true,ix_s h,ix_s hq,hb,wS (show i<1000000000000 by omega),Int.toNat_natCast,hq,Option.toList_some]
     · simp only [Int.toNat_natCast,hq,Option.toList_some,List.length_append,List.length_singleton]
       omega)
    (fun n s _ _=>by rw [step_queues_c4];simp only [geL,cond_false]) fuel [] (Nat.le_refl _) (by omega)
   rw [step_queues_c]
   rw [fold,List.nil_append] at this
   exact this
 · have:=loopF (f:=fun n s k=>ref35_Queues_i4 n l (mU m) s k) (l:=l) (g:=fun s e=>s++((mU m)[e.1.toNat]?).toList) (fin:=fun s=>some (s,())) (N:=0) (fun i s=>s.length≤i)
    (fun n s i e h hp=>by
     have hi:=(List.getElem?_eq_some_iff.1 h).1
     obtain⟨k,q,rfl,hq⟩:=step i e h
     have hb:bigOk (s.length+[q].length) 32=true:=big_ok (by simp;omega) (by omega)
     constructor
     · rw [ref35_Queues_c4]
       simp only [ltL h,cond_true,ix_s h,ix_s hq,hb,wS (show i<1000000000000 by omega),Int.toNat_natCast,hq,Option.toList_some]
     · simp only [Int.toNat_natCast,hq,Option.toList_some,List.length_append,List.length_singleton]
       omega)
    (fun n s _ _=>by rw [ref35_Queues_c4];simp only [geL,cond_false]) fuel [] (Nat.le_refl _) (by omega)
   rw [ref35_Queues_c]
   rw [fold,List.nil_append] at this
   exact this
end Tg

/- An operator of a right machine can do a step: the program and the reference say the same. -/
namespace Tg
open Go
open Go.Abs (bigOk cloned tmm)
def ableB (t:Tsk)(ins outs:List Que):Bool:=match t.2.2.2.1 with
 | []=>bif t.1==1 then decide (0<t.2.2.2.2.2.2.1.length) else decide (0≤firstI 0 ins)
 | s::_=>match outs[s.1.toNat]? with
  | none=>false
  | some q=>decide ((q.2.1.length:Int)<q.1)
theorem able_w {t:Tsk}{ins outs:List Que}(h1:taskB t=true)(h2:ins.length≤4)(h3:outs.length≤3)(h4:ins.all queB=true)(h5:outs.all queB=true)(h6:t.2.2.2.1.all (fun s=>decide (s.1<(outs.length:Int)))=true) :
    task_Enabled t ins outs=some (ableB t ins outs,0,())∧ref27_Able t ins outs=some (ableB t ins outs,()):=by
  have hf:=fuel_ge
  have hl:=(task_lens h1).1
  have hf0:=first0 ins (by omega)
  have hsn:∀ s∈t.2.2.2.1,0≤s.1∧s.1<(outs.length:Int):=fun s hs=>by
   have a:=List.all_eq_true.1 h6 s hs
   unfold taskB at h1
   simp only [Bool.and_eq_true] at h1
   have b:=List.all_eq_true.1 h1.2.2.2.1 s hs
   unfold sndB at b
   simp only [Bool.and_eq_true,decide_eq_true_eq] at a b
   omega
  have hq:∀ q∈outs,channel_Left q=some (q.1 - (q.2.1.length:Int),0,()):=fun q hq=>by
   have hb:=List.all_eq_true.1 h5 q hq
   rw [channel_Left_c,queB_check hb]
   unfold queB at hb
   simp only [Bool.and_eq_true,decide_eq_true_eq] at hb
   simp only [Option.bind_some,Int.ofNat_eq_natCast,bne_self_eq_false,cond_false]
   rw [w64 (by omega) (by omega)]
  have i6:∀ n,task_Enabled_i6 (n+1) ins outs t.1 t.2.2.2.1 t.2.2.2.2.2.2.1=some (ableB t ins outs,0,()):=fun n=>by
   rw [task_Enabled_c6]
   unfold ableB
   cases hp:t.2.2.2.1 with
   | nil =>
    simp only [List.length_nil,hf0.1,Option.bind_some]
    have:decide (Int.ofNat t.2.2.2.2.2.2.1.length>0)=decide (0<t.2.2.2.2.2.2.1.length):=by rw [Bool.eq_iff_iff];simp
    rw [this]
    cases t.1==1 <;> rfl
   | cons s r =>
    have hs:=hsn s (by rw [hp];simp)
    obtain⟨k,hk⟩:∃ k:Nat,s.1=(k:Int):=⟨s.1.toNat,by omega⟩
    obtain⟨q,hqk⟩:∃ q,outs[k]? = some q:=⟨_,List.getElem?_eq_getElem (by omega)⟩
    have:decide (Int.ofNat (s::r).length>0)=true:=decide_eq_true (by simp)
    simp only [this,cond_true,List.getElem?_cons_zero,Option.bind_some,hk,ix_s hqk,hq q (List.mem_of_getElem? hqk),Int.toNat_natCast,hqk]
    have e:decide (q.1 - (q.2.1.length:Int)>0)=decide ((q.2.1.length:Int)<q.1):=by rw [Bool.eq_iff_iff];simp
    rw [e]
  constructor
  · rw [task_Enabled_c,task_asked_w h1 h2 h3 h4 h5]
    simp only [Option.bind_some,bne_self_eq_false,cond_false]
    have:=loopA (f:=fun n k=>task_Enabled_i8 n ins outs t.1 t.2.2.2.1 t.2.2.2.2.2.2.1 t.2.2.2.1 (Int.ofNat t.2.2.2.1.length) k) (l:=t.2.2.2.1) (p:=fun s=>decide (s.1<(outs.length:Int))) (bad:=some (false,2,())) (fin:=some (ableB t ins outs,0,())) (N:=1)
     (fun n k e he=>by
      have hk:=(List.getElem?_eq_some_iff.1 he).1
      have hd:decide (e.1≥Int.ofNat outs.length) = !decide (e.1<(outs.length:Int)):=by rw [Bool.eq_iff_iff];simp
      rw [task_Enabled_c8]
      simp only [ltL he,ix_s he,cond_true,wS (show k<1000000000000 by omega),hd]
      cases decide (e.1<(outs.length:Int)) <;> rfl)
     (fun n hn=>by
      obtain⟨q,rfl⟩:∃ q,n=q+1:=⟨n - 1,by omega⟩
      rw [task_Enabled_c8]
      simp only [geL,cond_false]
      exact i6 q) fuel (by omega)
    rw [h6] at this
    exact this
  · rw [ref27_Able_c]
    unfold ableB
    cases hp:t.2.2.2.1 with
    | nil =>
     simp only [List.length_nil,hf0.2,Option.bind_some]
     have:decide (Int.ofNat t.2.2.2.2.2.2.1.length>0)=decide (0<t.2.2.2.2.2.2.1.length):=by rw [Bool.eq_iff_iff];simp
     rw [this]
     cases t.1==1 <;> rfl
    | cons s r =>
     have hs:=hsn s (by rw [hp];simp)
     obtain⟨k,hk⟩:∃ k:Nat,s.1=(k:Int):=⟨s.1.toNat,by omega⟩
     obtain⟨q,hqk⟩:∃ q,outs[k]? = some q:=⟨_,List.getElem?_eq_getElem (by omega)⟩
     have:decide (Int.ofNat (s::r).length>0)=true:=decide_eq_true (by simp)
     simp only [this,cond_true,List.getElem?_cons_zero,Option.bind_some,hk,ix_s hqk,Int.toNat_natCast,hqk]
     try simp only [Int.ofNat_eq_natCast]
def ableM (m:Mch)(i:Nat):Bool:=match (mT m)[i]? with
 | none=>false
 | some t=>ableB t (qsAt (mU m) (joinL true (mG m) (i:Int))) (qsAt (mU m) (joinL false (mG m) (i:Int)))
theorem mch_parts {b:Bool}{m:Mch}(h:mchB b m=true):b=true∧Tj.refOk (mG m).1 (mG m).2.1∧(mG m).1.length≤20∧(mG m).2.1.length≤100∧(mT m).length=(mG m).1.length∧(mU m).length=(mG m).2.1.length∧(∀ q∈mU m,queB q=true)∧(∀ (i:Nat) t,(mT m)[i]? = some t→fitB m.2.2.2.1 m.2.2.2.2.2.2.2.2.2.1 (mG m) i t=true):=by
 unfold mchB at h
 simp only [Bool.and_eq_true,beq_iff_eq] at h
 obtain⟨h1,h2,h3,h4,h5,h6⟩:=h
 obtain⟨g1,g2,g3⟩:=gchk_z h2
 refine⟨h1,ref_of g3,g1,g2,h3,h4,fun q hq=>?_,fun i t ht=>?_⟩
 · obtain⟨i,hi⟩:=List.getElem?_of_mem hq
   have:=allI_at h5 hi
   unfold queI at this
   split at this
   · cases this
   · rw [Bool.and_eq_true] at this
     exact this.2
 · have:=allI_at h6 ht
   rwa [Nat.zero_add] at this
theorem enabled_w {b:Bool}{m:Mch}(h:mchB b m=true){i:Nat}(hi:i<(mT m).length):step_enabled m (i:Int)=some (ableM m i,())∧ref35_Able m (i:Int)=some (ableM m i,()):=by
 obtain⟨_,hr,g1,g2,ht,hu,hqs,hts⟩:=mch_parts h
 obtain⟨t,htt⟩:∃ t,(mT m)[i]? = some t:=⟨_,List.getElem?_eq_getElem hi⟩
 have hfit:=hts i t htt
 unfold fitB at hfit
 obtain⟨o,ho⟩:∃ o,(mG m).1[i]? = some o:=⟨_,List.getElem?_eq_getElem (by omega)⟩
 rw [ho] at hfit
 simp only [Bool.and_eq_true] at hfit
 obtain⟨_,htask,hpend,_⟩:=hfit
 have hc:=cnt_lim hr (i:=i) (by omega)
 have hj:∀ b,∀ y∈joinL b (mG m) (i:Int),∃ k:Nat,k<(mU m).length∧y=((k:Int),()):=fun b y hy=>by rw [hu];exact joinL_mem hr hy
 have n1:=qsAt_len (hj true)
 have n2:=qsAt_len (hj false)
 have j1:=joinL_len hr true (i:Int)
 have j2:=joinL_len hr false (i:Int)
 have qall:∀ l:List (Int×Unit),(qsAt (mU m) l).all queB=true:=fun l=>by
  rw [List.all_eq_true]
  intro q hq
  unfold qsAt at hq
  rw [List.mem_filterMap] at hq
  obtain⟨y,_,hy⟩:=hq
  exact hqs q (List.mem_of_getElem? hy)
 have hab:=able_w (t:=t) (ins:=qsAt (mU m) (joinL true (mG m) (i:Int))) (outs:=qsAt (mU m) (joinL false (mG m) (i:Int))) htask (by omega) (by omega) (qall _) (qall _) (by rw [n2,j2];exact hpend)
 have q1:=queues_w m (joinL true (mG m) (i:Int)) (by omega) (hj true)
 have q2:=queues_w m (joinL false (mG m) (i:Int)) (by omega) (hj false)
 have htt' : m.2.2.2.2.2.2.2.2.2.2.2.2.1[i]? = some t:=htt
 have hm:ableM m i=ableB t (qsAt (mU m) (joinL true (mG m) (i:Int))) (qsAt (mU m) (joinL false (mG m) (i:Int))):=by
  unfold ableM
  rw [htt]
 constructor
 · rw [step_enabled_c,ix_s htt',show step_inputs (m.2.2.2.2.2.2.2.2.2.2.1,m.2.2.2.2.2.2.2.2.2.2.2.1,()) (i:Int)=some (joinL true (mG m) (i:Int),()) from inputs_w hr g2 (by omega),show step_outputs (m.2.2.2.2.2.2.2.2.2.2.1,m.2.2.2.2.2.2.2.2.2.2.2.1,()) (i:Int)=some (joinL false (mG m) (i:Int),()) from outputs_w hr g2 (by omega)]
   simp only [Option.bind_some,q1.1,q2.1,hab.1,hm]
 · have a2:ref35_Outs m (i:Int)=some (joinL false (mG m) (i:Int),()):=by
    rw [ref35_Outs_c,show ref35_joined (m.2.2.2.2.2.2.2.2.2.2.1,m.2.2.2.2.2.2.2.2.2.2.2.1,()) (i:Int) false=some (joinL false (mG m) (i:Int),()) from joined_w (mG m) (i:Int) false (by omega)]
    rfl
   have a1:ref35_Ins m (i:Int)=some (joinL true (mG m) (i:Int),()):=by
    rw [ref35_Ins_c,show ref35_joined (m.2.2.2.2.2.2.2.2.2.2.1,m.2.2.2.2.2.2.2.2.2.2.2.1,()) (i:Int) true=some (joinL true (mG m) (i:Int),()) from joined_w (mG m) (i:Int) true (by omega)]
    rfl
   rw [ref35_Able_c,ix_s htt',a1,a2]
   simp only [Option.bind_some,q1.2,q2.2,hab.2,hm]
end Tg

/- enabled.All, Left and First against the reference. -/
namespace Tg
open Go
open Go.Abs (bigOk cloned tmm)
theorem loopX {α β:Type}{f:Nat→Int→Option β}{l:List α}{p:α→Bool}{hit:α→Option β}{fin:Option β}{N:Nat}
    (hs:∀ n (i:Nat) e,l[i]? = some e→f (n+1) (i:Int)=bif p e then hit e else f n ((i+1:Nat):Int))
    (he:∀ n,N≤n→f (n+1) (l.length:Int)=fin) (n:Nat) (hn:N+l.length+1≤n):f n 0=match l.find? p with | some e=>hit e | none=>fin:=by
  have:=loopE (f:=fun n (_:Unit) i=>f n i) (l:=l) (step:=fun _ e=>bif p e then .inr (hit e) else .inl ()) (fin:=fun _=>fin) (N:=N) (fun _ _=>True)
   (fun n s i e h _=>⟨by rw [hs n i e h];cases p e <;> rfl,fun _ _=>trivial⟩) (fun n s h _=>he n h) l 0 n () rfl (by omega) trivial (by omega)
  refine this.trans ?_
  clear this hs he hn
  induction l with
  | nil=>rfl
  | cons e l ih =>
   rw [runL,List.find?_cons]
   cases p e with
   | true=>rfl
   | false=>simpa using ih
def ablesG (m:Mch)(s:List (Int×Unit)×Nat):List (Int×Unit)×Nat:=(bif ableM m s.2 then s.1++[((s.2:Int),())] else s.1,s.2+1)
def ablesL (m:Mch):List (Int×Unit):=((mT m).foldl (fun s _=>ablesG m s) ([],0)).1
theorem ablesG_nn (m:Mch)(s:List (Int×Unit)×Nat)(h:∀ e∈s.1,0≤e.1):∀ e∈(ablesG m s).1,0≤e.1:=by
 have e0:(ablesG m s).1=bif ableM m s.2 then s.1++[((s.2:Int),())] else s.1:=rfl
 rw [e0]
 cases ableM m s.2 with
 | false=>exact h
 | true =>
  intro e he
  rw [cond_true] at he
  rcases List.mem_append.1 he with he | he
  · exact h e he
  · obtain rfl:=List.mem_singleton.1 he
    exact Int.natCast_nonneg _
theorem ablesF_nn (m:Mch)(l:List Tsk):∀ s:List (Int×Unit)×Nat,(∀ e∈s.1,0≤e.1) → ∀ e∈(l.foldl (fun s _=>ablesG m s) s).1,0≤e.1:=by
 induction l with
 | nil=>exact fun s h=>h
 | cons t l ih=>exact fun s h=>ih _ (ablesG_nn m s h)
theorem ables_nn (m:Mch):∀ e∈ablesL m,0≤e.1:=ablesF_nn m _ _ (fun e he=>by cases he)
theorem Enabled_w {b:Bool}{m:Mch}(hq:QOk (mQ m) b)(hm:MLen m)(h:mchB b m=true){i:Nat}(hi:i<(mT m).length):step_Enabled m (i:Int)=some (ableM m i,0,()):=by
 rw [step_Enabled_c,step_asked_c,check_w m b hq hm,(enabled_w h hi).1,h]
 have e1:decide ((i:Int)<0)=false:=decide_eq_false (by omega)
 have e2:decide ((i:Int)≥Int.ofNat m.2.2.2.2.2.2.2.2.2.2.2.2.1.length)=false:=decide_eq_false (by
  have:i<m.2.2.2.2.2.2.2.2.2.2.2.2.1.length:=hi
  simp only [Int.ofNat_eq_natCast]
  omega)
 simp only [cond_true,Option.bind_some,bne_self_eq_false,cond_false,e1,e2]
theorem All_w {b:Bool}{m:Mch}(hq:QOk (mQ m) b)(hm:MLen m):enabled_All m=some (bif mchB b m then ablesL m else [],bif mchB b m then 0 else 8,()):=by
 rw [enabled_All_c,check_w m b hq hm]
 cases h:mchB b m with
 | false=>rfl
 | true =>
  have hf:=fuel_ge
  have hl:=hm.tl
  simp only [cond_true,Option.bind_some,bne_self_eq_false,cond_false]
  have:=loopF (f:=fun n (s:List (Int×Unit)×Nat) k=>enabled_All_i9 n m.1 m.2.1 m.2.2.1 m.2.2.2.1 m.2.2.2.2.1 m.2.2.2.2.2.1 m.2.2.2.2.2.2.1 m.2.2.2.2.2.2.2.1 m.2.2.2.2.2.2.2.2.1 m.2.2.2.2.2.2.2.2.2.1 m.2.2.2.2.2.2.2.2.2.2.1 m.2.2.2.2.2.2.2.2.2.2.2.1 m.2.2.2.2.2.2.2.2.2.2.2.2.1 m.2.2.2.2.2.2.2.2.2.2.2.2.2.1 s.1 (Int.ofNat m.2.2.2.2.2.2.2.2.2.2.2.2.1.length) k)
   (l:=mT m) (g:=fun s _=>ablesG m s) (fin:=fun s=>some (s.1,0,())) (N:=1) (fun i s=>s.2=i∧s.1.length≤i)
   (fun n s i e he hp=>by
    have hk:=(List.getElem?_eq_some_iff.1 he).1
    obtain⟨hp1,hp2⟩:=hp
    subst hp1
    have e0:step_Enabled (m.1,m.2.1,m.2.2.1,m.2.2.2.1,m.2.2.2.2.1,m.2.2.2.2.2.1,m.2.2.2.2.2.2.1,m.2.2.2.2.2.2.2.1,m.2.2.2.2.2.2.2.2.1,m.2.2.2.2.2.2.2.2.2.1,m.2.2.2.2.2.2.2.2.2.2.1,m.2.2.2.2.2.2.2.2.2.2.2.1,m.2.2.2.2.2.2.2.2.2.2.2.2.1,m.2.2.2.2.2.2.2.2.2.2.2.2.2.1,()) (s.2:Int)=some (ableM m s.2,0,()):=Enabled_w hq hm h hk
    have e1:decide ((s.2:Int)<Int.ofNat m.2.2.2.2.2.2.2.2.2.2.2.2.1.length)=true:=ltL he
    have e2:bigOk (s.1.length+List.length [((s.2:Int),())]) 8=true:=big_ok (by simp;omega) (by omega)
    refine⟨?_,rfl,?_⟩
    · rw [enabled_All_c9,e1,e0,wS (show s.2<1000000000000 by omega)]
      simp only [cond_true,Option.bind_some,bne_self_eq_false,cond_false,e2]
      unfold ablesG
      cases ableM m s.2 <;> rfl
    · unfold ablesG
      cases ableM m s.2 with
      | false=>exact Nat.le_succ_of_le hp2
      | true =>
       simp only [cond_true,List.length_append,List.length_singleton]
       omega)
   (fun n s hn hp=>by
    have:decide (((mT m).length:Int)<Int.ofNat m.2.2.2.2.2.2.2.2.2.2.2.2.1.length)=false:=geL
    rw [enabled_All_c9,this]
    rfl) fuel ([],0) ⟨rfl,Nat.le_refl _⟩ (by omega)
  exact this
theorem rAble_w {b:Bool}{m:Mch}(hm:MLen m)(h:mchB b m=true):ref38_Able m=some (ablesL m,()):=by
 rw [ref38_Able_c]
 have hf:=fuel_ge
 have hl:=hm.tl
 exact loopF (f:=fun n (s:List (Int×Unit)×Nat) k=>ref38_Able_i4 n m.1 m.2.1 m.2.2.1 m.2.2.2.1 m.2.2.2.2.1 m.2.2.2.2.2.1 m.2.2.2.2.2.2.1 m.2.2.2.2.2.2.2.1 m.2.2.2.2.2.2.2.2.1 m.2.2.2.2.2.2.2.2.2.1 m.2.2.2.2.2.2.2.2.2.2.1 m.2.2.2.2.2.2.2.2.2.2.2.1 m.2.2.2.2.2.2.2.2.2.2.2.2.1 m.2.2.2.2.2.2.2.2.2.2.2.2.2.1 s.1 k)
     (l:=mT m) (g:=fun s _=>ablesG m s) (fin:=fun s=>some (s.1,())) (N:=1) (fun i s=>s.2=i∧s.1.length≤i)
     (fun n s i e he hp=>by
      have hk:=(List.getElem?_eq_some_iff.1 he).1
      obtain⟨hp1,hp2⟩:=hp
      subst hp1
      have e0:ref35_Able (m.1,m.2.1,m.2.2.1,m.2.2.2.1,m.2.2.2.2.1,m.2.2.2.2.2.1,m.2.2.2.2.2.2.1,m.2.2.2.2.2.2.2.1,m.2.2.2.2.2.2.2.2.1,m.2.2.2.2.2.2.2.2.2.1,m.2.2.2.2.2.2.2.2.2.2.1,m.2.2.2.2.2.2.2.2.2.2.2.1,m.2.2.2.2.2.2.2.2.2.2.2.2.1,m.2.2.2.2.2.2.2.2.2.2.2.2.2.1,()) (s.2:Int)=some (ableM m s.2,()):=(enabled_w h hk).2
      have e1:decide ((s.2:Int)<Int.ofNat m.2.2.2.2.2.2.2.2.2.2.2.2.1.length)=true:=ltL he
      have e2:bigOk (s.1.length+List.length [((s.2:Int),())]) 8=true:=big_ok (by simp;omega) (by omega)
      refine⟨?_,rfl,?_⟩
      · rw [ref38_Able_c4,e1,e0,wS (show s.2<1000000000000 by omega)]
        simp only [cond_true,Option.bind_some,e2]
        unfold ablesG
        cases ableM m s.2 <;> rfl
      · unfold ablesG
        cases ableM m s.2 with
        | false=>exact Nat.le_succ_of_le hp2
        | true =>
         simp only [cond_true,List.length_append,List.length_singleton]
         omega)
     (fun n s hn hp=>by
      have:decide (((mT m).length:Int)<Int.ofNat m.2.2.2.2.2.2.2.2.2.2.2.2.1.length)=false:=geL
      rw [ref38_Able_c4,this]
      rfl) fuel ([],0) ⟨rfl,Nat.le_refl _⟩ (by omega)
theorem rAll_w {b:Bool}{m:Mch}(hr:ref35_Check m=some (bif mchB b m then 0 else 8,()))(hm:MLen m):ref38_All m=some (bif mchB b m then ablesL m else [],bif mchB b m then 0 else 8,()):=by
 rw [ref38_All_c,hr]
 cases h:mchB b m with
 | false=>rfl
 | true=>rw [rAble_w hm h];rfl
theorem rNext_w {b:Bool}{m:Mch}(hm:MLen m)(h:mchB b m=true)(hl:(ablesL m).length≤1000000)(from_:Int):ref38_Next m from_=some ((match (ablesL m).find? (fun e=>decide (e.1≥from_)) with | some e=>e.1 | none=>match ablesL m with | []=>-1 | e::_=>e.1),()):=by
 rw [ref38_Next_c,rAble_w hm h]
 have hf:=fuel_ge
 have:=loopX (f:=fun n k=>ref38_Next_i5 n from_ (ablesL m) k) (l:=ablesL m) (p:=fun e=>decide (e.1≥from_)) (hit:=fun e=>some (e.1,())) (fin:=some ((match ablesL m with | []=>-1 | e::_=>e.1),())) (N:=1)
  (fun n i e he=>by
   have hk:=(List.getElem?_eq_some_iff.1 he).1
   rw [ref38_Next_c5,ltL he,ix_s he,ix_s he,wS (show i<1000000000000 by omega)]
   rfl)
  (fun n hn=>by
   rw [ref38_Next_c5,geL]
   cases ablesL m with
   | nil=>rfl
   | cons e l =>
    have:decide (Int.ofNat (e::l).length>0)=true:=decide_eq_true (by simp)
    simp only [this,cond_true,cond_false,List.getElem?_cons_zero,Option.bind_some]) fuel (by omega)
 refine Eq.trans this ?_
 cases (ablesL m).find? (fun e=>decide (e.1≥from_)) <;> rfl
end Tg

/- enabled.First and Left against the reference. -/
namespace Tg
open Go
open Go.Abs (bigOk cloned tmm)
theorem ables_len {m:Mch}:(ablesL m).length≤(mT m).length:=by
 have:∀ (l:List Tsk) (s:List (Int×Unit)×Nat),(l.foldl (fun s _=>ablesG m s) s).1.length≤s.1.length+l.length:=by
  intro l
  induction l with
  | nil=>exact fun s=>Nat.le_refl _
  | cons t l ih =>
   intro s
   refine Nat.le_trans (ih _) ?_
   have e0:(ablesG m s).1=bif ableM m s.2 then s.1++[((s.2:Int),())] else s.1:=rfl
   rw [e0]
   cases ableM m s.2 <;> simp <;> omega
 have:=this (mT m) ([],0)
 simpa [ablesL] using this
theorem First_w {b:Bool}{m:Mch}(hq:QOk (mQ m) b)(hr:ref35_Check m=some (bif mchB b m then 0 else 8,()))(hm:MLen m)(from_:Int):∃ x,enabled_First m from_=some x∧ref38_First m from_=some x:=by
 rw [enabled_First_c,ref38_First_c,All_w hq hm,hr]
 cases h:mchB b m with
 | false=>exact⟨_,rfl,rfl⟩
 | true =>
  have hf:=fuel_ge
  have hl:=hm.tl
  have ha:=ables_len (m:=m)
  have hal:(ablesL m).length≤1000000:=by omega
  simp only [cond_true,Option.bind_some,bne_self_eq_false,cond_false,rNext_w hm h hal]
  cases decide (from_<0) with
  | true=>exact⟨_,rfl,rfl⟩
  | false =>
  cases decide (from_>Int.ofNat m.2.2.2.2.2.2.2.2.2.2.2.2.1.length) with
  | true=>exact⟨_,rfl,rfl⟩
  | false =>
  simp only [cond_false]
  have hnn:=ables_nn m
  cases hL:ablesL m with
  | nil=>exact⟨_,rfl,rfl⟩
  | cons e l =>
   rw [hL] at hal hnn
   have e1:(Int.ofNat (e::l).length==0)=false:=by
    rw [beq_eq_false_iff_ne]
    simp only [List.length_cons,Int.ofNat_eq_natCast]
    omega
   have:=loopX (f:=fun n k=>enabled_First_i16 n from_ e.1 (e::l) (Int.ofNat (e::l).length) k) (l:=e::l) (p:=fun e=>decide (e.1≥from_)) (hit:=fun e=>some (e.1,0,())) (fin:=some (e.1,0,())) (N:=1)
    (fun n i x hx=>by
     have hk:=(List.getElem?_eq_some_iff.1 hx).1
     rw [enabled_First_c16,ltL hx,ix_s hx,wS (show i<1000000000000 by omega)]
     rfl)
    (fun n hn=>by
     rw [enabled_First_c16,geL]
     rfl) fuel (by omega)
   simp only [e1,cond_false,List.getElem?_cons_zero,Option.bind_some]
   rw [this]
   cases hfd:(e::l).find? (fun e=>decide (e.1≥from_)) with
   | none =>
    have:decide (e.1<0)=false:=decide_eq_false (by have:=hnn e (List.mem_cons_self);omega)
    exact⟨_,rfl,by simp only [this,cond_false]⟩
   | some x =>
    have:decide (x.1<0)=false:=decide_eq_false (by have:=hnn x (List.mem_of_find?_eq_some hfd);omega)
    exact⟨_,rfl,by simp only [this,cond_false]⟩
def leftG (s:Int×Int)(t:Tsk):Int×Int:=(Go.IntKind.wrap .i64 (s.1+Int.ofNat t.2.2.2.2.2.2.1.length),Go.IntKind.wrap .i64 (s.2+Int.ofNat t.2.2.2.1.length))
def leftQ (s:Int)(q:Que):Int:=Go.IntKind.wrap .i64 (s+Int.ofNat q.2.1.length)
def leftL (m:Mch):Int×Int×Int×Unit:=(((mT m).foldl leftG (0,0)).1,((mT m).foldl leftG (0,0)).2,(mU m).foldl leftQ 0,())
theorem Left_w {b:Bool}{m:Mch}(hq:QOk (mQ m) b)(hr:ref35_Check m=some (bif mchB b m then 0 else 8,()))(hm:MLen m):∃ x,enabled_Left m=some x∧ref38_Left m=some x:=by
 rw [enabled_Left_c,ref38_Left_c,check_w m b hq hm,hr]
 cases h:mchB b m with
 | false=>exact⟨_,rfl,rfl⟩
 | true =>
  have hf:=fuel_ge
  have hl:=hm.tl
  have hu:=hm.ul
  simp only [cond_true,Option.bind_some,bne_self_eq_false,cond_false]
  have hQ:∀ (n:Nat) (x y:Int),(mU m).length+2≤n→enabled_Left_i7 (n+1) (mU m) x y 0=some ((x,y,(mU m).foldl leftQ 0,()),0,()):=by
   intro n x y hn
   rw [enabled_Left_c7]
   exact loopF (f:=fun n s k=>enabled_Left_i17 n x y s (mU m) (Int.ofNat (mU m).length) k) (l:=mU m) (g:=leftQ) (fin:=fun s=>some ((x,y,s,()),0,())) (N:=1) (fun _ _=>True)
    (fun n s i e he _=>⟨by
     have hk:=(List.getElem?_eq_some_iff.1 he).1
     rw [enabled_Left_c17,ltL he,ix_s he,wS (show i<1000000000000 by omega)]
     rfl,trivial⟩)
    (fun n s hn _=>by
     rw [enabled_Left_c17,geL]
     rfl) n 0 trivial (by omega)
  have hR:∀ (n:Nat) (x y:Int),(mU m).length+2≤n→ref38_Rest_i2 (n+1) (mU m) x y 0=some ((x,y,(mU m).foldl leftQ 0,()),()):=by
   intro n x y hn
   rw [ref38_Rest_c2]
   exact loopF (f:=fun n s k=>ref38_Rest_i11 n (mU m) x y s k) (l:=mU m) (g:=leftQ) (fin:=fun s=>some ((x,y,s,()),())) (N:=1) (fun _ _=>True)
    (fun n s i e he _=>⟨by
     have hk:=(List.getElem?_eq_some_iff.1 he).1
     rw [ref38_Rest_c11,ltL he,ix_s he,wS (show i<1000000000000 by omega)]
     rfl,trivial⟩)
    (fun n s hn _=>by
     rw [ref38_Rest_c11,geL]
     rfl) n 0 trivial (by omega)
  have a1:enabled_Left_i9 fuel (mU m) 0 0 0 (mT m) (Int.ofNat (mT m).length) 0=some (leftL m,0,()) :=
   loopF (f:=fun n (s:Int×Int) k=>enabled_Left_i9 n (mU m) s.1 s.2 0 (mT m) (Int.ofNat (mT m).length) k) (l:=mT m) (g:=leftG) (fin:=fun s=>some ((s.1,s.2,(mU m).foldl leftQ 0,()),0,())) (N:=(mU m).length+3) (fun _ _=>True)
    (fun n s i e he _=>⟨by
     have hk:=(List.getElem?_eq_some_iff.1 he).1
     rw [enabled_Left_c9,ltL he,ix_s he,wS (show i<1000000000000 by omega)]
     rfl,trivial⟩)
    (fun n s hn _=>by
     obtain⟨k,rfl⟩:∃ k,n=k+1:=⟨n - 1,by omega⟩
     rw [enabled_Left_c9,geL,cond_false]
     exact hQ k s.1 s.2 (by omega)) fuel (0,0) trivial (by omega)
  have a2:ref38_Rest m=some (leftL m,()):=by
   rw [ref38_Rest_c]
   exact loopF (f:=fun n (s:Int×Int) k=>ref38_Rest_i4 n (mT m) (mU m) s.1 s.2 0 k) (l:=mT m) (g:=leftG) (fin:=fun s=>some ((s.1,s.2,(mU m).foldl leftQ 0,()),())) (N:=(mU m).length+3) (fun _ _=>True)
    (fun n s i e he _=>⟨by
     have hk:=(List.getElem?_eq_some_iff.1 he).1
     rw [ref38_Rest_c4,ltL he,ix_s he,ix_s he,wS (show i<1000000000000 by omega)]
     rfl,trivial⟩)
    (fun n s hn _=>by
     obtain⟨k,rfl⟩:∃ k,n=k+1:=⟨n - 1,by omega⟩
     rw [ref38_Rest_c4,geL,cond_false]
     exact hR k s.1 s.2 (by omega)) fuel (0,0) trivial (by omega)
  exact⟨(leftL m,0,()),a1,by rw [a2];rfl⟩
end Tg
