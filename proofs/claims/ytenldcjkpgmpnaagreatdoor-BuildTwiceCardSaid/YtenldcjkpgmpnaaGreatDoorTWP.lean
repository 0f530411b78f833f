import Derived.Test.YtenldcjkpgmpnaaGreatDoorTVb3
/- The program's checks of messages, queues, stores and tasks are the plain ones. -/
set_option linter.unusedVariables false
set_option linter.unusedSimpArgs false
namespace Tg
open Go.Abs (Zb Zf tmm)
theorem Ysk:∃ n,fuel=n+3:=by obtain⟨n,h⟩:=Zb0;simp_all
theorem Zpr (t:Int):Zbd t=some (Zcm t,()):=by rw [Zq3];grind [Zcm]
theorem Zvr (t:Int):Zc7 t=some (Zpn t,()):=by rw [Zq4,Zpr];grind [Zpn]
theorem Zln (m:Msg):Q3 m=some (bif msgB m then 0 else 8,()):=by obtain⟨n,hn⟩:=Ysk;rw [Zsl,hn];simp only [Zq6,Zq5,Zpr,Zvr,J0k];grind [msgB,rowB,Z5f,Z5g]
theorem Z5x (q:Que)(h:q.2.1.length<=1000000000):X4 q=some (bif queB q then 0 else 8,()):=by
 rw [Zsm];have hf:=Yp;have:=Zkp (f:=fun n i=>Zbu n q.2.1 (Int.ofNat q.2.1.length) i) (l:=q.2.1) (p:=msgB) (bad:=some (8,())) (fin:=some (0,())) (N:=0)
  (fun n i e he=>by have hi:=(J0d.1 he).1;simp only [Zhw,ltL he,ix_s he,Zln,J0k,wS (show i<1000000000000 by omega)];grind)
  (fun n _=>by simp only [Zhw,geL,cond_false]) fuel (by omega)
 rw [this];grind [queB]
theorem Yb0 (e:Evt):Zb3 e=some (bif evtB e then 0 else 8,()):=by rw [Zsn,Zpp];simp only [Zpr,Zvr,J0k];grind [evtB]
theorem Yb1 (l:List Snd)(h:l.length<=1000000000):Zir l=some (l.all sndB,()):=by
 rw [Z13];have hf:=Yp;have:=Zkp (f:=fun n i=>Zec n l (Int.ofNat l.length) i) (l:=l) (p:=sndB) (bad:=some (false,())) (fin:=some (true,())) (N:=0)
  (fun n i e he=>by have hi:=(J0d.1 he).1;simp only [Zni,ltL he,ix_s he,Zln,J0k,wS (show i<1000000000000 by omega)];grind [sndB])
  (fun n _=>by simp only [Zni,geL,cond_false]) fuel (by omega)
 grind
theorem Ylq (t:Int):Zkx t=some (Zu6 t,()):=by
 rw [Zw9];have:msgB (2,0,0,0,t,0,0,0,0,0,())=Zpn t:=by simp [msgB,Z5f,Z5g]
 simp only [Zln,J0k,this];unfold Zu6;cases t == -9223372036854775808 <;> cases Zpn t <;> rfl
theorem Yg3 (a:Acc):Zfh a=some (bif accB a then 0 else 8,()):=by rw [Zvg];grind [accB]
theorem Yg4 {a:Acc}(h:accB a=true):0<=a.1/\a.1<=1073741824:=by grind [accB]
theorem Ylr (x:Ent):Zky x=some (entB x,()):=by
 rw [Zxa];simp only [Yg3,J0k];cases h1:accB (acc1 x)
 . grind [entB,acc1,acc2]
 cases h2:accB (acc2 x)
 . grind [entB,acc1,acc2]
 have b1:=Yg4 h1;have b2:=Yg4 h2;have e1:accB (x.2.2.2.1,x.2.2.2.2.1,x.2.2.2.2.2.1,x.2.2.2.2.2.2.1,())=true:=h1;have e2:accB x.2.2.2.2.2.2.2=true:=h2;simp only [acc1,acc2] at b1 b2;rw [e1,e2,w64 (by omega) (by omega)];have:decide (x.2.2.2.1+x.2.2.2.2.2.2.2.1>0) = !(x.2.2.2.1==0&&x.2.2.2.2.2.2.2.1==0):=by grind
 rw [this];unfold entB;rw [h1,h2];simp only [acc1,acc2];grind
theorem Ysl (a b:Int):Qc a b=some (bif decide (a<b) then -1 else bif decide (b<a) then 1 else 0,()):=by rw [Zkz];simp only [Zof,J0k];grind
theorem or_w (a b c:Int):Zk0 [(a,()),(b,()),(c,())]=some (bif a != 0 then a else bif b != 0 then b else c,()):=by
 obtain⟨n,hn⟩:=Zb0;rw [Zxb,hn];have e:∀ m,Zc8 (m+4) 0 [(a,()),(b,()),(c,())] 3 0=some (bif a != 0 then a else bif b != 0 then b else c,()):=fun m=>by have w1:=wS (i:=0) (by omega);have w2:=wS (i:=1) (by omega);have w3:=wS (i:=2) (by omega);simp only [Int.natCast_zero,Int.zero_add,Nat.zero_add,Int.ofNat_one,Nat.reduceAdd] at w1 w2 w3;simp only [Zvh,ix];grind
 grind
theorem Yls (x y:Ent):∃ k,Zk1 x y=some (k,())/\decide (k>=0) = !Yf9 x y:=by rw [Zxc];simp only [Ysl,or_w,J0k];refine⟨_,rfl,?_⟩;grind [Yf9]
theorem Ylt (l:List Ent)(h:l.length<=1000000000):Zk2 l=some (stoE l,()):=by
 rw [Zxd];unfold stoE;by_cases hb:4000<l.length
 . grind
 rw [show decide (Int.ofNat l.length>4000)=false from decide_eq_false (by grind),decide_eq_false hb,cond_false,cond_false];have hf:=Yp;exact Ybq (f:=fun n i=>Zc9 n l l (Int.ofNat l.length) i) (l:=l)
  (fun n i e he=>by
   have hi:=(J0d.1 he).1;simp only [Zk3,ltL he,ix_s he,Ylr,J0k,wS (show i<1000000000000 by omega),cond_true];cases entB e with
   | false=>rfl
   | true =>
    cases i with
    | zero=>rfl
    | succ j =>
     obtain⟨d,hd⟩:∃ d,l[j]? = some d:=⟨_,J0c (by omega)⟩;obtain⟨k,hk,hk2⟩:=Yls d e;have e1:Go.IntKind.wrap .i64 (((j+1:Nat):Int) - 1)=(j:Int):=by rw [w64 (by omega) (by omega)];omega
     have e2:decide (((j+1:Nat):Int)>0)=true:=decide_eq_true (by omega);simp only [e1,e2,ix_s hd,hk,J0k,hk2,Z5i,hd,okP];grind)
  (fun n=>by simp only [Zk3,geL,cond_false]) l 0 fuel rfl (by omega) (by omega)
end Tg

/- The program's check of a task is the plain one. -/
namespace Tg
open Go.Abs (Zb Zf tmm)
theorem Yb2 {α:Type}(p:α->Bool):∀ (l:List α) (s:Bool),l.foldl (fun s e=>s&&p e) s=(s&&l.all p)
 | [],s=>by simp
 | e::l,s=>by rw [List.foldl_cons,Yb2 p l,List.all_cons,Bool.and_assoc]
theorem Z5y {α β:Type}{f:Nat->Bool->Int->Option β}{l:List α}{p:α->Bool}{fin:Bool->Option β}{N:Nat}
    (hs:∀ n s (i:Nat) e,l[i]? = some e->f (n+1) s (i:Int)=f n (s&&p e) ((i+1:Nat):Int))
    (he:∀ n s,N<=n->f (n+1) s (l.length:Int)=fin s) (n:Nat) (s:Bool) (hn:N+l.length+1<=n):f n s 0=fin (s&&l.all p):=by
  have:=Yf8 (f:=f) (l:=l) (g:=fun s e=>s&&p e) (fin:=fin) (N:=N) (fun _ _=>True) (fun n s i e h _=>⟨hs n s i e h,trivial⟩) (fun n s h _=>he n s h) n s trivial hn;rw [this,Yb2]
section
variable (k:Int) (marks:List (Int×Unit)) (store:List Ent) (evs:List Evt) (rows:List Row5) (late:List Rec3)
def res8 (b:Bool):Option (Int×Unit):=some (bif b then 0 else 8,())
theorem t45 (h:store.length<=1000000000)(n:Nat)(ok:Bool)(hn:store.length+3<=n):Qd n k ok store (Int.ofNat store.length) 0=res8 (ok&&store.all fun x=>k != 4||(acc2 x).1==0) :=
 Z5y (f:=fun n s i=>Qd n k s store (Int.ofNat store.length) i) (l:=store) (N:=1)
  (fun n s i e he=>by have hi:=(J0d.1 he).1;simp only [Zk9,ltL he,ix_s he,wS (show i<1000000000000 by omega),cond_true,acc2];grind)
  (fun n s h=>by obtain⟨m,rfl⟩:∃ m,n=m+1:=⟨n - 1,by omega⟩;simp only [Zk9,geL,cond_false,Zvi,res8];grind) n ok (by omega)
theorem t37 (h:store.length<=1000000000)(h2:late.length<=1000000000)(n:Nat)(ok:Bool)(hn:store.length+late.length+5<=n) :
    Zah n k store ok late (Int.ofNat late.length) 0=res8 ((ok&&late.all fun r=>Zcm r.2.1)&&store.all fun x=>k != 4||(acc2 x).1==0) :=
  Z5y (f:=fun n s i=>Zah n k store s late (Int.ofNat late.length) i) (l:=late) (N:=store.length+3) (fin:=fun ok=>res8 (ok&&store.all fun x=>k != 4||(acc2 x).1==0))
   (fun n s i e he=>by
    have hi:=(J0d.1 he).1;have em:msgB (4,e.1,e.2.1,e.2.2.1,0,0,0,0,0,0,())=Zcm e.2.1:=by simp [msgB,Z5g]
    simp only [Zk8,ltL he,ix_s he,wS (show i<1000000000000 by omega),cond_true,Zln,J0k,em];cases s <;> cases Zcm e.2.1 <;> rfl)
   (fun n s hn=>by simp only [Zk8,geL,cond_false];exact t45 k store h n s hn) n ok (by omega)
theorem t29 (h:store.length<=1000000000)(h2:late.length<=1000000000)(h3:rows.length<=1000000000)(n:Nat)(ok:Bool)(hn:store.length+late.length+rows.length+7<=n) :
    Zag n k store late ok rows (Int.ofNat rows.length) 0=res8 (((ok&&rows.all rowB)&&late.all fun r=>Zcm r.2.1)&&store.all fun x=>k != 4||(acc2 x).1==0) :=
  Z5y (f:=fun n s i=>Zag n k store late s rows (Int.ofNat rows.length) i) (l:=rows) (N:=store.length+late.length+5) (fin:=fun ok=>res8 ((ok&&late.all fun r=>Zcm r.2.1)&&store.all fun x=>k != 4||(acc2 x).1==0))
   (fun n s i e he=>by
    have hi:=(J0d.1 he).1;have em:msgB (3,0,0,0,0,e)=rowB e:=by simp [msgB,Z5f]
    simp only [Zk7,ltL he,ix_s he,wS (show i<1000000000000 by omega),cond_true,Zln,J0k,em];cases s <;> cases rowB e <;> rfl)
   (fun n s hn=>by simp only [Zk7,geL,cond_false];exact t37 k store late h h2 n s (by omega)) n ok (by omega)
theorem t21 (h:store.length<=1000000000)(h2:late.length<=1000000000)(h3:rows.length<=1000000000)(h4:evs.length<=1000000000)(n:Nat)(ok:Bool)(hn:store.length+late.length+rows.length+evs.length+9<=n) :
    Zaf n k store rows late ok evs (Int.ofNat evs.length) 0=res8 ((((ok&&evs.all evtB)&&rows.all rowB)&&late.all fun r=>Zcm r.2.1)&&store.all fun x=>k != 4||(acc2 x).1==0) :=
  Z5y (f:=fun n s i=>Zaf n k store rows late s evs (Int.ofNat evs.length) i) (l:=evs) (N:=store.length+late.length+rows.length+7) (fin:=fun ok=>res8 (((ok&&rows.all rowB)&&late.all fun r=>Zcm r.2.1)&&store.all fun x=>k != 4||(acc2 x).1==0))
   (fun n s i e he=>by have hi:=(J0d.1 he).1;simp only [Zk6,ltL he,ix_s he,wS (show i<1000000000000 by omega),cond_true,Yb0,J0k];cases s <;> cases evtB e <;> rfl)
   (fun n s hn=>by simp only [Zk6,geL,cond_false];exact t29 k store rows late h h2 h3 n s (by omega)) n ok (by omega)
theorem t13 (h:store.length<=1000000000)(h2:late.length<=1000000000)(h3:rows.length<=1000000000)(h4:evs.length<=1000000000)(h5:marks.length<=1000000000)(n:Nat)(ok:Bool)(hn:store.length+late.length+rows.length+evs.length+marks.length+11<=n) :
    Zae n k store evs rows late ok marks (Int.ofNat marks.length) 0=res8 (((((ok&&marks.all fun x=>Zu6 x.1)&&evs.all evtB)&&rows.all rowB)&&late.all fun r=>Zcm r.2.1)&&store.all fun x=>k != 4||(acc2 x).1==0) :=
  Z5y (f:=fun n s i=>Zae n k store evs rows late s marks (Int.ofNat marks.length) i) (l:=marks) (N:=store.length+late.length+rows.length+evs.length+9) (fin:=fun ok=>res8 ((((ok&&evs.all evtB)&&rows.all rowB)&&late.all fun r=>Zcm r.2.1)&&store.all fun x=>k != 4||(acc2 x).1==0))
   (fun n s i e he=>by have hi:=(J0d.1 he).1;simp only [Zk5,ltL he,ix_s he,wS (show i<1000000000000 by omega),cond_true,Ylq,J0k];grind)
   (fun n s hn=>by simp only [Zk5,geL,cond_false];exact t21 k store evs rows late h h2 h3 h4 n s (by omega)) n ok (by omega)
end
theorem Yg5 (t:Tsk):∃ a b c d e f,Zkw t.1=some (a,b,c,d,e,f,())/\Zu7 t=(decide (a<=(t.2.2.2.2.1.length:Int))&&(decide ((t.2.2.2.2.1.length:Int)<=b)&&((c||t.2.2.2.2.2.1.length==0)&&((bif d then decide (t.2.2.2.2.2.2.1.length<=60) else t.2.2.2.2.2.2.1.length==0)&&((bif e then decide (t.2.2.2.2.2.2.2.1.length<=4000) else t.2.2.2.2.2.2.2.1.length==0)&&(bif f then decide (t.2.2.2.2.2.2.2.2.1.length<=4000) else t.2.2.2.2.2.2.2.2.1.length==0)))))):=by
 rw [Zw8];unfold Zu7;generalize t.2.2.2.2.1.length=n;generalize t.2.2.2.2.2.1.length=s;generalize t.2.2.2.2.2.2.1.length=e;generalize t.2.2.2.2.2.2.2.1.length=r;generalize t.2.2.2.2.2.2.2.2.1.length=l;by_cases h1:t.1=1
 . simp only [h1];grind
 by_cases h2:t.1=2
 . simp only [h2];grind
 by_cases h3:t.1=3
 . simp only [h3];grind
 by_cases h4:t.1=4
 . simp only [h4];grind
 by_cases h5:t.1=5
 . simp only [h5];grind
 by_cases h6:t.1=6
 . simp only [h6];grind
 by_cases h7:t.1=7
 . simp only [h7];grind
 . simp only [h1,h2,h3,h4,h5,h6,h7,beq_iff_eq,beq_false_of_ne,ne_eq,not_false_eq_true,cond_false,Bool.false_and];grind
theorem Z5z (t:Tsk)(h1:t.2.2.2.1.length<=1000000000)(h2:t.2.2.2.2.1.length<=1000000000)(h3:t.2.2.2.2.2.1.length<=1000000000)(h4:t.2.2.2.2.2.2.1.length<=1000000000)(h5:t.2.2.2.2.2.2.2.1.length<=1000000000)(h6:t.2.2.2.2.2.2.2.2.1.length<=1000000000) :
    Zar t=some (bif X3 t then 0 else 8,()):=by
  have hf:8000000000<=fuel:=by rw [fuel,Zcl];decide
  obtain⟨a,b,c,d,e,f,hl,hk⟩:=Yg5 t;rw [Z14,hl];simp only [J0k];obtain⟨m,hm⟩:∃ m,fuel=m+5:=⟨fuel - 5,by omega⟩;have loops:=t13 t.1 t.2.2.2.2.1 t.2.2.2.2.2.1 t.2.2.2.2.2.2.1 t.2.2.2.2.2.2.2.1 t.2.2.2.2.2.2.2.2.1 h3 h6 h5 h4 h2 m true (by omega);rw [hm];unfold X3;rw [hk];generalize hR:(t.2.2.2.2.1.all fun x=>Zu6 x.1)=R1 at loops ⊢;generalize t.2.2.2.2.2.2.1.all evtB=R2 at loops ⊢;generalize t.2.2.2.2.2.2.2.1.all rowB=R3 at loops ⊢;generalize (t.2.2.2.2.2.2.2.2.1.all fun r=>Zcm r.2.1)=R4 at loops ⊢;generalize (t.2.2.2.2.2.1.all fun x=>t.1 != 4||(acc2 x).1==0)=R5 at loops ⊢;have c6:∀ bad,Zef (m+2) t.1 t.2.2.2.2.1 t.2.2.2.2.2.1 t.2.2.2.2.2.2.1 t.2.2.2.2.2.2.2.1 t.2.2.2.2.2.2.2.2.1 bad=res8 (!bad&&(R1&&(R2&&(R3&&(R4&&R5))))):=fun bad=>by rw [Zxi,Zxh,loops];cases bad <;> simp [res8,Bool.and_assoc]
  have c4:∀ x y,Zee (m+3) t.1 t.2.2.2.1 t.2.2.2.2.1 t.2.2.2.2.2.1 t.2.2.2.2.2.2.1 t.2.2.2.2.2.2.2.1 t.2.2.2.2.2.2.2.2.1 x y=res8 (x&&(y&&(t.2.2.2.1.all sndB&&(stoE t.2.2.2.2.2.1==0&&(R1&&(R2&&(R3&&(R4&&R5)))))))):=fun x y=>by simp only [Zxg,Yb1 _ h1,Ylt _ h3,J0k,c6];grind
  have c3:∀ x,Zed (m+4) t.1 t.2.2.2.1 t.2.2.2.2.1 t.2.2.2.2.2.1 t.2.2.2.2.2.2.1 t.2.2.2.2.2.2.2.1 t.2.2.2.2.2.2.2.2.1 a b c d e f x=res8 (x&&((decide (t.2.2.2.1.length<=4000)&&(decide (a<=(t.2.2.2.2.1.length:Int))&&(decide ((t.2.2.2.2.1.length:Int)<=b)&&((bif c then decide (t.2.2.2.2.2.1.length<=4000) else t.2.2.2.2.2.1.length==0)&&((bif d then decide (t.2.2.2.2.2.2.1.length<=60) else t.2.2.2.2.2.2.1.length==0)&&((bif e then decide (t.2.2.2.2.2.2.2.1.length<=4000) else t.2.2.2.2.2.2.2.1.length==0)&&(bif f then decide (t.2.2.2.2.2.2.2.2.1.length<=4000) else t.2.2.2.2.2.2.2.2.1.length==0)))))))&&(t.2.2.2.1.all sndB&&(stoE t.2.2.2.2.2.1==0&&(R1&&(R2&&(R3&&(R4&&R5)))))))):=fun x=>by
   have q1:∀ k:Nat,∀ l:Nat,decide (Int.ofNat l<=(k:Int))=decide (l<=k):=fun k l=>by grind
   have q2:∀ l:Nat,decide (Int.ofNat l<=0)=(l==0):=fun l=>by grind
   have r1:∀ b:Bool,Zd4 b 4000=some (bif b then 4000 else 0,()):=fun b=>by rw [Zsa];grind
   have r2:Zd4 d 60=some (bif d then 60 else 0,()):=by rw [Zsa];grind
   simp only [Zxf,r1,r2,J0k,c4];have z:∀ (y:Bool) (l k:Nat),decide (Int.ofNat l<=bif y then (k:Int) else 0)=bif y then decide (l<=k) else l==0:=fun y l k=>by grind
   have z4:=fun y l=>z y l 4000;have z6:=fun y l=>z y l 60;simp only [Int.cast_ofNat_Int] at z4 z6;simp only [z4,z6];grind
  rw [Zxe];simp only [c3];have sto:(stoE t.2.2.2.2.2.1==0)=true->decide (t.2.2.2.2.2.1.length<=4000)=true:=fun h=>by unfold stoE at h;grind
  generalize (bif d then decide (t.2.2.2.2.2.2.1.length<=60) else t.2.2.2.2.2.2.1.length==0)=Y5;generalize (bif e then decide (t.2.2.2.2.2.2.2.1.length<=4000) else t.2.2.2.2.2.2.2.1.length==0)=Y6;generalize (bif f then decide (t.2.2.2.2.2.2.2.2.1.length<=4000) else t.2.2.2.2.2.2.2.2.1.length==0)=Y7;generalize decide (t.2.2.2.1.length<=4000)=Y1;generalize decide (a<=(t.2.2.2.2.1.length:Int))=Y2;generalize decide ((t.2.2.2.2.1.length:Int)<=b)=Y3;generalize (t.2.2.2.2.2.1.length==0)=Z;generalize t.2.2.2.1.all sndB=S1;revert sto;generalize (stoE t.2.2.2.2.2.1==0)=S2;generalize decide (t.2.2.2.2.2.1.length<=4000)=Y4;intro sto;have g1:decide (t.2.2.1>=0)=decide (0<=t.2.2.1):=rfl;have g2:decide (t.2.1>=0)=decide (0<=t.2.1):=rfl;rw [g1,g2];generalize decide (0<=t.2.2.1)=G1;generalize decide (0<=t.2.1)=G2;generalize decide (t.2.2.1<20)=G3;generalize decide (t.2.1<4)=G4;unfold res8;grind
end Tg

/- The reference's checks of messages, queues, stores and tasks are the plain ones. -/
namespace Tg
open Go.Abs (Zb Zf tmm)
end Tg

/- The reference's check of a task is the plain one. -/
namespace Tg
open Go.Abs (Zb Zf tmm)
section
variable (marks:List (Int×Unit)) (evs:List Evt) (rows:List Row5) (late:List Rec3)
end
end Tg
