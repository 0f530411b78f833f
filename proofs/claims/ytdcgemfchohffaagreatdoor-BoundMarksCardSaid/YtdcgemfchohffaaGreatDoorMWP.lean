import Derived.Test.YtdcgemfchohffaaGreatDoorMVb3
import Derived.Test.YtdcgemfchohffaaGreatDoorMVb5
/- The program's checks of messages, queues, stores and tasks are the plain ones. -/
set_option linter.unusedVariables false
set_option linter.unusedSimpArgs false
namespace Tg
open Go.Abs (Zl Zy tmm)
theorem Ymn:∃ n,fuel=n+3:=by obtain⟨n,h⟩:=Zat;simp_all
theorem Zuc (t:Int):Za6 t=some (Qj t,()):=by rw [Zpi];grind [Qj]
theorem Z22 (t:Int):Zcl t=some (Zmf t,()):=by rw [Zpj,Zuc];grind [Zmf]
theorem Zkw (m:Msg):Qs m=some (bif msgB m then 0 else 8,()):=by obtain⟨n,hn⟩:=Ymn;rw [Zqy,hn];simp only [Zpl,Zpk,Zuc,Z22,Option.bind_some];grind [msgB,rowB,Zx3,Zx4]
theorem Ydd (q:Que)(h:q.2.1.length≤1000000000):Zgl q=some (bif queB q then 0 else 8,()):=by
 rw [Zqz];have hf:=X5;have:=Zfz (f:=fun n i=>Zbf n q.2.1 (Int.ofNat q.2.1.length) i) (l:=q.2.1) (p:=msgB) (bad:=some (8,())) (fin:=some (0,())) (N:=0)
  (fun n i e he=>by have hi:=(List.getElem?_eq_some_iff.1 he).1;simp only [Zgx,ltL he,ix_s he,Zkw,Option.bind_some,wS (show i<1000000000000 by omega)];grind)
  (fun n _=>by simp only [Zgx,geL,cond_false]) fuel (by omega)
 rw [this];grind [queB]
theorem Ygz (e:Evt):Zgm e=some (bif evtB e then 0 else 8,()):=by rw [Zq0,Zz6];simp only [Zuc,Z22,Option.bind_some];grind [evtB]
theorem Yg0 (l:List Snd)(h:l.length≤1000000000):Zm6 l=some (l.all sndB,()):=by
 rw [Zz7];have hf:=X5;have:=Zfz (f:=fun n i=>Zdk n l (Int.ofNat l.length) i) (l:=l) (p:=sndB) (bad:=some (false,())) (fin:=some (true,())) (N:=0)
  (fun n i e he=>by have hi:=(List.getElem?_eq_some_iff.1 he).1;simp only [Zmh,ltL he,ix_s he,Zkw,Option.bind_some,wS (show i<1000000000000 by omega)];grind [sndB])
  (fun n _=>by simp only [Zmh,geL,cond_false]) fuel (by omega)
 grind
theorem Yg1 (t:Int):Zjx t=some (Zff t,()):=by
 rw [Zvn];have:msgB (2,0,0,0,t,0,0,0,0,0,())=Zmf t:=by simp [msgB,Zx3,Zx4]
 simp only [Zkw,Option.bind_some,this];unfold Zff;cases t == -9223372036854775808 <;> cases Zmf t <;> rfl
theorem Yde (a:Acc):Zel a=some (bif accB a then 0 else 8,()):=by rw [Ztz];grind [accB]
theorem Ydf {a:Acc}(h:accB a=true):0≤a.1∧a.1≤1073741824:=by grind [accB]
theorem Yg2 (x:Ent):Zjy x=some (entB x,()):=by
 rw [Zvo];simp only [Yde,Option.bind_some];cases h1:accB (acc1 x)
 · grind [entB,acc1,acc2]
 cases h2:accB (acc2 x)
 · grind [entB,acc1,acc2]
 have b1:=Ydf h1;have b2:=Ydf h2;have e1:accB (x.2.2.2.1,x.2.2.2.2.1,x.2.2.2.2.2.1,x.2.2.2.2.2.2.1,())=true:=h1;have e2:accB x.2.2.2.2.2.2.2=true:=h2;simp only [acc1,acc2] at b1 b2;rw [e1,e2,w64 (by omega) (by omega)];have:decide (x.2.2.2.1+x.2.2.2.2.2.2.2.1>0) = !(x.2.2.2.1==0&&x.2.2.2.2.2.2.2.1==0):=by grind
 rw [this];unfold entB;rw [h1,h2];simp only [acc1,acc2];grind
theorem Ymo (a b:Int):X3 a b=some (bif decide (a<b) then -1 else bif decide (b<a) then 1 else 0,()):=by rw [Zjz];simp only [Zm7,Option.bind_some];grind
theorem or_w (a b c:Int):Zj0 [(a,()),(b,()),(c,())]=some (bif a != 0 then a else bif b != 0 then b else c,()):=by
 obtain⟨n,hn⟩:=Zat;rw [Zvp,hn];have e:∀ m,Zcm (m+4) 0 [(a,()),(b,()),(c,())] 3 0=some (bif a != 0 then a else bif b != 0 then b else c,()):=fun m=>by have w1:=wS (i:=0) (by omega);have w2:=wS (i:=1) (by omega);have w3:=wS (i:=2) (by omega);simp only [Int.natCast_zero,Int.zero_add,Nat.zero_add,Int.ofNat_one,Nat.reduceAdd] at w1 w2 w3;simp only [Zt0,ix];grind
 grind
theorem Yg3 (x y:Ent):∃ k,Zj1 x y=some (k,())∧decide (k≥0) = !Zx5 x y:=by rw [Zvq];simp only [Ymo,or_w,Option.bind_some];refine⟨_,rfl,?_⟩;grind [Zx5]
theorem Yg4 (l:List Ent)(h:l.length≤1000000000):Zj2 l=some (stoE l,()):=by
 rw [Zvr];unfold stoE;by_cases hb:4000<l.length
 · grind
 rw [show decide (Int.ofNat l.length>4000)=false from decide_eq_false (by grind),decide_eq_false hb,cond_false,cond_false];have hf:=X5;exact Zzz (f:=fun n i=>Zcn n l l (Int.ofNat l.length) i) (l:=l)
  (fun n i e he=>by
   have hi:=(List.getElem?_eq_some_iff.1 he).1;simp only [Zj3,ltL he,ix_s he,Yg2,Option.bind_some,wS (show i<1000000000000 by omega),cond_true];cases entB e with
   | false=>rfl
   | true =>
    cases i with
    | zero=>rfl
    | succ j =>
     obtain⟨d,hd⟩:∃ d,l[j]? = some d:=⟨_,List.getElem?_eq_getElem (by omega)⟩;obtain⟨k,hk,hk2⟩:=Yg3 d e;have e1:Go.IntKind.wrap .i64 (((j+1:Nat):Int) - 1)=(j:Int):=by rw [w64 (by omega) (by omega)];omega
     have e2:decide (((j+1:Nat):Int)>0)=true:=decide_eq_true (by omega);simp only [e1,e2,ix_s hd,hk,Option.bind_some,hk2,Zx6,hd,okP];grind)
  (fun n=>by simp only [Zj3,geL,cond_false]) l 0 fuel rfl (by omega) (by omega)
end Tg

/- The program's check of a task is the plain one. -/
namespace Tg
open Go.Abs (Zl Zy tmm)
theorem Z72 {α:Type}(p:α→Bool):∀ (l:List α) (s:Bool),l.foldl (fun s e=>s&&p e) s=(s&&l.all p)
 | [],s=>by simp
 | e::l,s=>by rw [List.foldl_cons,Z72 p l,List.all_cons,Bool.and_assoc]
theorem Z23 {α β:Type}{f:Nat→Bool→Int→Option β}{l:List α}{p:α→Bool}{fin:Bool→Option β}{N:Nat}
    (hs:∀ n s (i:Nat) e,l[i]? = some e→f (n+1) s (i:Int)=f n (s&&p e) ((i+1:Nat):Int))
    (he:∀ n s,N≤n→f (n+1) s (l.length:Int)=fin s) (n:Nat) (s:Bool) (hn:N+l.length+1≤n):f n s 0=fin (s&&l.all p):=by
  have:=Zx2 (f:=f) (l:=l) (g:=fun s e=>s&&p e) (fin:=fin) (N:=N) (fun _ _=>True) (fun n s i e h _=>⟨hs n s i e h,trivial⟩) (fun n s h _=>he n s h) n s trivial hn;rw [this,Z72]
section
variable (k:Int) (marks:List (Int×Unit)) (store:List Ent) (evs:List Evt) (rows:List Row5) (late:List Rec3)
def res8 (b:Bool):Option (Int×Unit):=some (bif b then 0 else 8,())
theorem t45 (h:store.length≤1000000000)(n:Nat)(ok:Bool)(hn:store.length+3≤n):X4 n k ok store (Int.ofNat store.length) 0=res8 (ok&&store.all fun x=>k != 4||(acc2 x).1==0) :=
 Z23 (f:=fun n s i=>X4 n k s store (Int.ofNat store.length) i) (l:=store) (N:=1)
  (fun n s i e he=>by have hi:=(List.getElem?_eq_some_iff.1 he).1;simp only [Zj9,ltL he,ix_s he,wS (show i<1000000000000 by omega),cond_true,acc2];grind)
  (fun n s h=>by obtain⟨m,rfl⟩:∃ m,n=m+1:=⟨n - 1,by omega⟩;simp only [Zj9,geL,cond_false,Zt1,res8];grind) n ok (by omega)
theorem t37 (h:store.length≤1000000000)(h2:late.length≤1000000000)(n:Nat)(ok:Bool)(hn:store.length+late.length+5≤n) :
    Q6 n k store ok late (Int.ofNat late.length) 0=res8 ((ok&&late.all fun r=>Qj r.2.1)&&store.all fun x=>k != 4||(acc2 x).1==0) :=
  Z23 (f:=fun n s i=>Q6 n k store s late (Int.ofNat late.length) i) (l:=late) (N:=store.length+3) (fin:=fun ok=>res8 (ok&&store.all fun x=>k != 4||(acc2 x).1==0))
   (fun n s i e he=>by
    have hi:=(List.getElem?_eq_some_iff.1 he).1;have em:msgB (4,e.1,e.2.1,e.2.2.1,0,0,0,0,0,0,())=Qj e.2.1:=by simp [msgB,Zx4]
    simp only [Zj8,ltL he,ix_s he,wS (show i<1000000000000 by omega),cond_true,Zkw,Option.bind_some,em];cases s <;> cases Qj e.2.1 <;> rfl)
   (fun n s hn=>by simp only [Zj8,geL,cond_false];exact t45 k store h n s hn) n ok (by omega)
theorem t29 (h:store.length≤1000000000)(h2:late.length≤1000000000)(h3:rows.length≤1000000000)(n:Nat)(ok:Bool)(hn:store.length+late.length+rows.length+7≤n) :
    Q5 n k store late ok rows (Int.ofNat rows.length) 0=res8 (((ok&&rows.all rowB)&&late.all fun r=>Qj r.2.1)&&store.all fun x=>k != 4||(acc2 x).1==0) :=
  Z23 (f:=fun n s i=>Q5 n k store late s rows (Int.ofNat rows.length) i) (l:=rows) (N:=store.length+late.length+5) (fin:=fun ok=>res8 ((ok&&late.all fun r=>Qj r.2.1)&&store.all fun x=>k != 4||(acc2 x).1==0))
   (fun n s i e he=>by
    have hi:=(List.getElem?_eq_some_iff.1 he).1;have em:msgB (3,0,0,0,0,e)=rowB e:=by simp [msgB,Zx3]
    simp only [Zj7,ltL he,ix_s he,wS (show i<1000000000000 by omega),cond_true,Zkw,Option.bind_some,em];cases s <;> cases rowB e <;> rfl)
   (fun n s hn=>by simp only [Zj7,geL,cond_false];exact t37 k store late h h2 n s (by omega)) n ok (by omega)
theorem t21 (h:store.length≤1000000000)(h2:late.length≤1000000000)(h3:rows.length≤1000000000)(h4:evs.length≤1000000000)(n:Nat)(ok:Bool)(hn:store.length+late.length+rows.length+evs.length+9≤n) :
    Q4 n k store rows late ok evs (Int.ofNat evs.length) 0=res8 ((((ok&&evs.all evtB)&&rows.all rowB)&&late.all fun r=>Qj r.2.1)&&store.all fun x=>k != 4||(acc2 x).1==0) :=
  Z23 (f:=fun n s i=>Q4 n k store rows late s evs (Int.ofNat evs.length) i) (l:=evs) (N:=store.length+late.length+rows.length+7) (fin:=fun ok=>res8 (((ok&&rows.all rowB)&&late.all fun r=>Qj r.2.1)&&store.all fun x=>k != 4||(acc2 x).1==0))
   (fun n s i e he=>by have hi:=(List.getElem?_eq_some_iff.1 he).1;simp only [Zj6,ltL he,ix_s he,wS (show i<1000000000000 by omega),cond_true,Ygz,Option.bind_some];cases s <;> cases evtB e <;> rfl)
   (fun n s hn=>by simp only [Zj6,geL,cond_false];exact t29 k store rows late h h2 h3 n s (by omega)) n ok (by omega)
theorem t13 (h:store.length≤1000000000)(h2:late.length≤1000000000)(h3:rows.length≤1000000000)(h4:evs.length≤1000000000)(h5:marks.length≤1000000000)(n:Nat)(ok:Bool)(hn:store.length+late.length+rows.length+evs.length+marks.length+11≤n) :
    Q3 n k store evs rows late ok marks (Int.ofNat marks.length) 0=res8 (((((ok&&marks.all fun x=>Zff x.1)&&evs.all evtB)&&rows.all rowB)&&late.all fun r=>Qj r.2.1)&&store.all fun x=>k != 4||(acc2 x).1==0) :=
  Z23 (f:=fun n s i=>Q3 n k store evs rows late s marks (Int.ofNat marks.length) i) (l:=marks) (N:=store.length+late.length+rows.length+evs.length+9) (fin:=fun ok=>res8 ((((ok&&evs.all evtB)&&rows.all rowB)&&late.all fun r=>Qj r.2.1)&&store.all fun x=>k != 4||(acc2 x).1==0))
   (fun n s i e he=>by have hi:=(List.getElem?_eq_some_iff.1 he).1;simp only [Zj5,ltL he,ix_s he,wS (show i<1000000000000 by omega),cond_true,Yg1,Option.bind_some];grind)
   (fun n s hn=>by simp only [Zj5,geL,cond_false];exact t21 k store evs rows late h h2 h3 h4 n s (by omega)) n ok (by omega)
end
theorem Ydg (t:Tsk):∃ a b c d e f,Zjw t.1=some (a,b,c,d,e,f,())∧Zql t=(decide (a≤(t.2.2.2.2.1.length:Int))&&(decide ((t.2.2.2.2.1.length:Int)≤b)&&((c||t.2.2.2.2.2.1.length==0)&&((bif d then decide (t.2.2.2.2.2.2.1.length≤60) else t.2.2.2.2.2.2.1.length==0)&&((bif e then decide (t.2.2.2.2.2.2.2.1.length≤4000) else t.2.2.2.2.2.2.2.1.length==0)&&(bif f then decide (t.2.2.2.2.2.2.2.2.1.length≤4000) else t.2.2.2.2.2.2.2.2.1.length==0)))))):=by
 rw [Zvm];unfold Zql;generalize t.2.2.2.2.1.length=n;generalize t.2.2.2.2.2.1.length=s;generalize t.2.2.2.2.2.2.1.length=e;generalize t.2.2.2.2.2.2.2.1.length=r;generalize t.2.2.2.2.2.2.2.2.1.length=l;by_cases h1:t.1=1
 · simp only [h1];grind
 by_cases h2:t.1=2
 · simp only [h2];grind
 by_cases h3:t.1=3
 · simp only [h3];grind
 by_cases h4:t.1=4
 · simp only [h4];grind
 by_cases h5:t.1=5
 · simp only [h5];grind
 by_cases h6:t.1=6
 · simp only [h6];grind
 by_cases h7:t.1=7
 · simp only [h7];grind
 · simp only [h1,h2,h3,h4,h5,h6,h7,beq_iff_eq,beq_false_of_ne,ne_eq,not_false_eq_true,cond_false,Bool.false_and];grind
theorem Ydh (t:Tsk)(h1:t.2.2.2.1.length≤1000000000)(h2:t.2.2.2.2.1.length≤1000000000)(h3:t.2.2.2.2.2.1.length≤1000000000)(h4:t.2.2.2.2.2.2.1.length≤1000000000)(h5:t.2.2.2.2.2.2.2.1.length≤1000000000)(h6:t.2.2.2.2.2.2.2.2.1.length≤1000000000) :
    Zhr t=some (bif Zjo t then 0 else 8,()):=by
  have hf:8000000000≤fuel:=by rw [fuel,Zb5];decide
  obtain⟨a,b,c,d,e,f,hl,hk⟩:=Ydg t;rw [Zz8,hl];simp only [Option.bind_some];obtain⟨m,hm⟩:∃ m,fuel=m+5:=⟨fuel - 5,by omega⟩;have loops:=t13 t.1 t.2.2.2.2.1 t.2.2.2.2.2.1 t.2.2.2.2.2.2.1 t.2.2.2.2.2.2.2.1 t.2.2.2.2.2.2.2.2.1 h3 h6 h5 h4 h2 m true (by omega);rw [hm];unfold Zjo;rw [hk];generalize hR:(t.2.2.2.2.1.all fun x=>Zff x.1)=R1 at loops ⊢;generalize t.2.2.2.2.2.2.1.all evtB=R2 at loops ⊢;generalize t.2.2.2.2.2.2.2.1.all rowB=R3 at loops ⊢;generalize (t.2.2.2.2.2.2.2.2.1.all fun r=>Qj r.2.1)=R4 at loops ⊢;generalize (t.2.2.2.2.2.1.all fun x=>t.1 != 4||(acc2 x).1==0)=R5 at loops ⊢;have c6:∀ bad,Zdn (m+2) t.1 t.2.2.2.2.1 t.2.2.2.2.2.1 t.2.2.2.2.2.2.1 t.2.2.2.2.2.2.2.1 t.2.2.2.2.2.2.2.2.1 bad=res8 (!bad&&(R1&&(R2&&(R3&&(R4&&R5))))):=fun bad=>by rw [Zvw,Zvv,loops];cases bad <;> simp [res8,Bool.and_assoc]
  have c4:∀ x y,Zdm (m+3) t.1 t.2.2.2.1 t.2.2.2.2.1 t.2.2.2.2.2.1 t.2.2.2.2.2.2.1 t.2.2.2.2.2.2.2.1 t.2.2.2.2.2.2.2.2.1 x y=res8 (x&&(y&&(t.2.2.2.1.all sndB&&(stoE t.2.2.2.2.2.1==0&&(R1&&(R2&&(R3&&(R4&&R5)))))))):=fun x y=>by simp only [Zvu,Yg0 _ h1,Yg4 _ h3,Option.bind_some,c6];grind
  have c3:∀ x,Zdl (m+4) t.1 t.2.2.2.1 t.2.2.2.2.1 t.2.2.2.2.2.1 t.2.2.2.2.2.2.1 t.2.2.2.2.2.2.2.1 t.2.2.2.2.2.2.2.2.1 a b c d e f x=res8 (x&&((decide (t.2.2.2.1.length≤4000)&&(decide (a≤(t.2.2.2.2.1.length:Int))&&(decide ((t.2.2.2.2.1.length:Int)≤b)&&((bif c then decide (t.2.2.2.2.2.1.length≤4000) else t.2.2.2.2.2.1.length==0)&&((bif d then decide (t.2.2.2.2.2.2.1.length≤60) else t.2.2.2.2.2.2.1.length==0)&&((bif e then decide (t.2.2.2.2.2.2.2.1.length≤4000) else t.2.2.2.2.2.2.2.1.length==0)&&(bif f then decide (t.2.2.2.2.2.2.2.2.1.length≤4000) else t.2.2.2.2.2.2.2.2.1.length==0)))))))&&(t.2.2.2.1.all sndB&&(stoE t.2.2.2.2.2.1==0&&(R1&&(R2&&(R3&&(R4&&R5)))))))):=fun x=>by
   have q1:∀ k:Nat,∀ l:Nat,decide (Int.ofNat l≤(k:Int))=decide (l≤k):=fun k l=>by grind
   have q2:∀ l:Nat,decide (Int.ofNat l≤0)=(l==0):=fun l=>by grind
   have r1:∀ b:Bool,Zde b 4000=some (bif b then 4000 else 0,()):=fun b=>by rw [Zqn];grind
   have r2:Zde d 60=some (bif d then 60 else 0,()):=by rw [Zqn];grind
   simp only [Zvt,r1,r2,Option.bind_some,c4];have z:∀ (y:Bool) (l k:Nat),decide (Int.ofNat l≤bif y then (k:Int) else 0)=bif y then decide (l≤k) else l==0:=fun y l k=>by grind
   have z4:=fun y l=>z y l 4000;have z6:=fun y l=>z y l 60;simp only [Int.cast_ofNat_Int] at z4 z6;simp only [z4,z6];grind
  rw [Zvs];simp only [c3];have sto:(stoE t.2.2.2.2.2.1==0)=true→decide (t.2.2.2.2.2.1.length≤4000)=true:=fun h=>by unfold stoE at h;grind
  generalize (bif d then decide (t.2.2.2.2.2.2.1.length≤60) else t.2.2.2.2.2.2.1.length==0)=Y5;generalize (bif e then decide (t.2.2.2.2.2.2.2.1.length≤4000) else t.2.2.2.2.2.2.2.1.length==0)=Y6;generalize (bif f then decide (t.2.2.2.2.2.2.2.2.1.length≤4000) else t.2.2.2.2.2.2.2.2.1.length==0)=Y7;generalize decide (t.2.2.2.1.length≤4000)=Y1;generalize decide (a≤(t.2.2.2.2.1.length:Int))=Y2;generalize decide ((t.2.2.2.2.1.length:Int)≤b)=Y3;generalize (t.2.2.2.2.2.1.length==0)=Z;generalize t.2.2.2.1.all sndB=S1;revert sto;generalize (stoE t.2.2.2.2.2.1==0)=S2;generalize decide (t.2.2.2.2.2.1.length≤4000)=Y4;intro sto;have g1:decide (t.2.2.1≥0)=decide (0≤t.2.2.1):=rfl;have g2:decide (t.2.1≥0)=decide (0≤t.2.1):=rfl;rw [g1,g2];generalize decide (0≤t.2.2.1)=G1;generalize decide (0≤t.2.1)=G2;generalize decide (t.2.2.1<20)=G3;generalize decide (t.2.1<4)=G4;unfold res8;grind
end Tg

/- The reference's checks of messages, queues, stores and tasks are the plain ones. -/
namespace Tg
open Go.Abs (Zl Zy tmm)
theorem Zud (r:Rec3):Zb6 r=some (Qj r.2.1,()):=by rw [Zv9];grind [Qj]
theorem Z0j (t:Int):Zfj t=some (Zmf t,()):=by rw [Z0g];grind [Zmf,Qj]
theorem Ydi (x:Row5):Zlw x=some (rowB x,()):=by rw [Z21];grind [rowB]
theorem Z24 (m:Msg):Zf6 m=some (msgB m,()):=by obtain⟨n,hn⟩:=Zat;rw [Zwa,hn];simp only [Zt9,Zud,Z0j,Ydi,Option.bind_some];grind [msgB,Zx3,Zx4]
theorem Ydj (q:Que)(h:q.2.1.length≤1000000000):Zkl q=some (bif queB q then 0 else 8,()):=by
 rw [Zwb];have hf:=X5;have:=Zfz (f:=fun n i=>Zcs n q.2.1 i) (l:=q.2.1) (p:=msgB) (bad:=some (8,())) (fin:=some (0,())) (N:=0)
  (fun n i e he=>by have hi:=(List.getElem?_eq_some_iff.1 he).1;simp only [Zkm,ltL he,ix_s he,Z24,Option.bind_some,wS (show i<1000000000000 by omega)];cases msgB e <;> rfl)
  (fun n _=>by simp only [Zkm,geL,cond_false]) fuel (by omega)
 rw [this];grind [queB]
theorem Ydk (a:Acc):Xr a=some (bif accB a then 0 else 8,()):=by obtain⟨n,hn⟩:=Zat;rw [Zwc,hn];simp only [Zua];grind [accB]
theorem Yg5 (x y:Ent):Zfm x y=some (Zx5 x y,()):=by rw [Z0h];grind [Zx5]
theorem Ydl (l:List Ent)(h:l.length≤1000000000):Zkn l=some (stoE l,()):=by
 rw [Zwd];unfold stoE;by_cases hb:4000<l.length
 · rw [show decide (Int.ofNat l.length>4000)=true from decide_eq_true (by simp;omega),decide_eq_true hb];rfl
 rw [show decide (Int.ofNat l.length>4000)=false from decide_eq_false (by simp;omega),decide_eq_false hb,cond_false,cond_false];have hf:=X5;exact Zzz (f:=fun n i=>Yj n l i) (l:=l)
  (fun n i e he=>by
   have hi:=(List.getElem?_eq_some_iff.1 he).1;have key:∀ k:Option (Int×Unit),Yj (n+1) l (i:Int)=bif entB e then (bif decide ((i:Int)>0) then ix l (Go.IntKind.wrap .i64 ((i:Int) - 1)) fun e3=>(Zfm e3 e).bind fun e4=>bif !e4.1 then some (8,()) else Yj n l ((i+1:Nat):Int) else Yj n l ((i+1:Nat):Int)) else some (8,()):=fun k=>by have e1:Xr (e.2.2.2.1,e.2.2.2.2.1,e.2.2.2.2.2.1,e.2.2.2.2.2.2.1,())=some (bif accB (acc1 e) then 0 else 8,()):=Ydk (acc1 e);have e2:Xr e.2.2.2.2.2.2.2=some (bif accB (acc2 e) then 0 else 8,()):=Ydk (acc2 e);simp only [Zko,ltL he,ix_s he,e1,e2,Option.bind_some,wS (show i<1000000000000 by omega),cond_true];generalize (bif decide ((i:Int)>0) then ix l (Go.IntKind.wrap .i64 ((i:Int) - 1)) fun e3=>(Zfm e3 e).bind fun e4=>bif !e4.1 then some (8,()) else Yj n l ((i+1:Nat):Int) else Yj n l ((i+1:Nat):Int))=Z;grind [entB,acc1,acc2]
   rw [key none];cases entB e with
   | false=>rfl
   | true =>
    cases i with
    | zero=>rfl
    | succ j =>
     obtain⟨d,hd⟩:∃ d,l[j]? = some d:=⟨_,List.getElem?_eq_getElem (by omega)⟩;have e1:Go.IntKind.wrap .i64 (((j+1:Nat):Int) - 1)=(j:Int):=by rw [w64 (by omega) (by omega)];omega
     have e2:decide (((j+1:Nat):Int)>0)=true:=decide_eq_true (by omega);simp only [e1,e2,ix_s hd,Yg5,Option.bind_some,Zx6,hd,okP];cases Zx5 d e <;> rfl)
  (fun n=>by simp only [Zko,geL,cond_false]) l 0 fuel rfl (by omega) (by omega)
theorem Ydm (t:Int):Zkp t=some (Zff t,()):=by rw [Zwe];simp only [Z0j,Option.bind_some];unfold Zff;cases t == -9223372036854775808 <;> cases Zmf t <;> rfl
theorem Ydn (e:Evt):Zkq e=some (bif evtB e then 0 else 8,()):=by rw [Zwf];simp only [Z0j,Zud,Option.bind_some];grind [evtB]
theorem Ydo (l:List Snd)(h:l.length≤1000000000):Zku l=some (l.all sndB,()):=by
 rw [Zwh];have hf:=X5;have:=Zfz (f:=fun n i=>Zct n l i) (l:=l) (p:=sndB) (bad:=some (false,())) (fin:=some (true,())) (N:=0)
  (fun n i e he=>by have hi:=(List.getElem?_eq_some_iff.1 he).1;simp only [Zkv,ltL he,ix_s he,Z24,Option.bind_some,wS (show i<1000000000000 by omega)];grind [sndB])
  (fun n _=>by simp only [Zkv,geL,cond_false]) fuel (by omega)
 rw [this];cases l.all sndB <;> rfl
end Tg

/- The reference's check of a task is the plain one. -/
namespace Tg
open Go.Abs (Zl Zy tmm)
section
variable (marks:List (Int×Unit)) (evs:List Evt) (rows:List Row5) (late:List Rec3)
theorem l30 (h:late.length≤1000000000)(n:Nat)(hn:late.length+1≤n):Zao n late 0=some (late.all fun r=>Qj r.2.1,()):=by
 have:=Zfz (f:=fun n i=>Zao n late i) (l:=late) (p:=fun r=>Qj r.2.1) (bad:=some (false,())) (fin:=some (true,())) (N:=0)
  (fun n i e he=>by have hi:=(List.getElem?_eq_some_iff.1 he).1;simp only [Zid,ltL he,ix_s he,Zud,Option.bind_some,wS (show i<1000000000000 by omega)];grind)
  (fun n _=>by simp only [Zid,geL,cond_false]) n (by omega)
 grind
theorem l21 (h:late.length≤1000000000)(h2:rows.length≤1000000000)(n:Nat)(hn:late.length+rows.length+3≤n):Zan n rows late 0=some (rows.all rowB&&late.all fun r=>Qj r.2.1,()):=by
 have:=Zfz (f:=fun n i=>Zan n rows late i) (l:=rows) (p:=rowB) (bad:=some (false,())) (fin:=some (late.all fun r=>Qj r.2.1,())) (N:=late.length+2)
  (fun n i e he=>by have hi:=(List.getElem?_eq_some_iff.1 he).1;simp only [Zic,ltL he,ix_s he,Ydi,Option.bind_some,wS (show i<1000000000000 by omega)];grind)
  (fun n hn=>by obtain⟨m,rfl⟩:∃ m,n=m+1:=⟨n - 1,by omega⟩;simp only [Zic,geL,cond_false,Zq8];exact l30 late h m (by omega)) n (by omega)
 grind
theorem l12 (h:late.length≤1000000000)(h2:rows.length≤1000000000)(h3:evs.length≤1000000000)(n:Nat)(hn:late.length+rows.length+evs.length+5≤n):Zam n evs rows late 0=some (evs.all evtB&&(rows.all rowB&&late.all fun r=>Qj r.2.1),()):=by
 have:=Zfz (f:=fun n i=>Zam n evs rows late i) (l:=evs) (p:=evtB) (bad:=some (false,())) (fin:=some (rows.all rowB&&late.all fun r=>Qj r.2.1,())) (N:=late.length+rows.length+4)
  (fun n i e he=>by have hi:=(List.getElem?_eq_some_iff.1 he).1;simp only [Zib,ltL he,ix_s he,Ydn,Option.bind_some,wS (show i<1000000000000 by omega)];grind)
  (fun n hn=>by obtain⟨m,rfl⟩:∃ m,n=m+1:=⟨n - 1,by omega⟩;simp only [Zib,geL,cond_false,Zq7];exact l21 rows late h h2 m (by omega)) n (by omega)
 grind
theorem l3 (h:late.length≤1000000000)(h2:rows.length≤1000000000)(h3:evs.length≤1000000000)(h4:marks.length≤1000000000)(n:Nat)(hn:late.length+rows.length+evs.length+marks.length+7≤n):Za8 n marks evs rows late 0=some ((marks.all fun x=>Zff x.1)&&(evs.all evtB&&(rows.all rowB&&late.all fun r=>Qj r.2.1)),()):=by
 have:=Zfz (f:=fun n i=>Za8 n marks evs rows late i) (l:=marks) (p:=fun x=>Zff x.1) (bad:=some (false,())) (fin:=some (evs.all evtB&&(rows.all rowB&&late.all fun r=>Qj r.2.1),())) (N:=late.length+rows.length+evs.length+6)
  (fun n i e he=>by have hi:=(List.getElem?_eq_some_iff.1 he).1;simp only [Zkt,ltL he,ix_s he,Ydm,Option.bind_some,wS (show i<1000000000000 by omega)];grind)
  (fun n hn=>by obtain⟨m,rfl⟩:∃ m,n=m+1:=⟨n - 1,by omega⟩;simp only [Zkt,geL,cond_false,Zub];exact l12 evs rows late h h2 h3 m (by omega)) n (by omega)
 grind
end
theorem Yg6 (t:Tsk):Zna t=some (Zql t,()):=by
 obtain⟨m,hn⟩:=Zat;rw [Z0i,hn];simp only [Zwi,tmax,tmin];unfold Zql;generalize t.2.2.2.2.1.length=n;generalize t.2.2.2.2.2.1.length=s;generalize t.2.2.2.2.2.2.1.length=e;generalize t.2.2.2.2.2.2.2.1.length=r;generalize t.2.2.2.2.2.2.2.2.1.length=l;have z0:∀ l:Nat,decide (Int.ofNat l≤0)=(l==0):=fun l=>by grind
 have z6:∀ l:Nat,decide (Int.ofNat l≤60)=decide (l≤60):=fun l=>by grind
 have z4:∀ l:Nat,decide (Int.ofNat l≤4000)=decide (l≤4000):=fun l=>by grind
 have y0:(Int.ofNat n==0)=(n==0):=by grind
 have y1:(Int.ofNat n==1)=(n==1):=by grind
 have y2:(Int.ofNat n==2)=(n==2):=by grind
 have y3:(Int.ofNat n==min 4 (max 1 (Int.ofNat n)))=(decide (1≤n)&&decide (n≤4)):=by grind
 grind
theorem Yg7 (t:Tsk)(h1:t.2.2.2.1.length≤1000000000)(h2:t.2.2.2.2.1.length≤1000000000)(h3:t.2.2.2.2.2.1.length≤1000000000)(h4:t.2.2.2.2.2.2.1.length≤1000000000)(h5:t.2.2.2.2.2.2.2.1.length≤1000000000)(h6:t.2.2.2.2.2.2.2.2.1.length≤1000000000) :
    Zf7 t=some (bif Zjo t then 0 else 8,()):=by
  have hf:8000000000≤fuel:=by rw [fuel,Zb5];decide
  have hl:Zkr t=some ((t.2.2.2.2.1.all fun x=>Zff x.1)&&(t.2.2.2.2.2.2.1.all evtB&&(t.2.2.2.2.2.2.2.1.all rowB&&t.2.2.2.2.2.2.2.2.1.all fun r=>Qj r.2.1)),()):=by rw [Zwg];exact l3 _ _ _ _ h6 h5 h4 h2 fuel (by omega)
  have h13:=Zfz (f:=fun n i=>Zbw n t.1 t.2.2.2.2.2.1 i) (l:=t.2.2.2.2.2.1) (p:=fun x=>t.1 != 4||(acc2 x).1==0) (bad:=some (8,())) (fin:=some (0,())) (N:=0)
   (fun n i e he=>by have hi:=(List.getElem?_eq_some_iff.1 he).1;simp only [Zie,ltL he,ix_s he,Option.bind_some,wS (show i<1000000000000 by omega),acc2];grind)
   (fun n _=>by simp only [Zie,geL,cond_false]) fuel (by omega)
  rw [Zwj];simp only [Yg6,Ydo _ h1,hl,Ydl _ h3,h13,Option.bind_some];unfold Zjo;have y1:decide (Int.ofNat t.2.2.2.1.length>4000) = !decide (t.2.2.2.1.length≤4000):=by grind
  have y2:decide (t.2.2.1<0) = !decide (0≤t.2.2.1):=by grind
  have y3:decide (t.2.2.1≥20) = !decide (t.2.2.1<20):=by grind
  have y4:decide (t.2.1<0) = !decide (0≤t.2.1):=by grind
  have y5:decide (t.2.1≥4) = !decide (t.2.1<4):=by grind
  rw [y1,y2,y3,y4,y5];generalize decide (t.2.2.2.1.length≤4000)=A1;generalize decide (0≤t.2.2.1)=A2;generalize decide (t.2.2.1<20)=A3;generalize decide (0≤t.2.1)=A4;generalize decide (t.2.1<4)=A5;generalize Zql t=A6;generalize t.2.2.2.1.all sndB=A7;generalize (t.2.2.2.2.1.all fun x=>Zff x.1)=A8;generalize t.2.2.2.2.2.2.1.all evtB=A9;generalize t.2.2.2.2.2.2.2.1.all rowB=A10;generalize (t.2.2.2.2.2.2.2.2.1.all fun r=>Qj r.2.1)=A11;generalize (t.2.2.2.2.2.1.all fun x=>t.1 != 4||(acc2 x).1==0)=A12;have e:(stoE t.2.2.2.2.2.1 != 0) = !(stoE t.2.2.2.2.2.1==0):=rfl;rw [e];generalize (stoE t.2.2.2.2.2.1==0)=A13;cases A1 <;> cases A2 <;> cases A3 <;> cases A4 <;> cases A5 <;> simp;grind
end Tg
