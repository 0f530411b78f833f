import Derived.Test.YtmkkpgcecpnejaaGreatDoorEVb3
/- The program's checks of messages, queues, stores and tasks are the plain ones. -/
set_option linter.unusedVariables false
set_option linter.unusedSimpArgs false
namespace Tg
open Go.Abs (Zc Zh tmm)
theorem Ymj:∃ n,fuel=n+3:=by obtain⟨n,h⟩:=Zbx;simp_all
theorem Ztj (t:Int):Za2 t=some (Zcc t,()):=by rw [Zo0];grind [Zcc]
theorem Z2z (t:Int):Zcd t=some (Zp4 t,()):=by rw [Zo1,Ztj];grind [Zp4]
theorem Zj8 (m:Msg):Qy m=some (bif msgB m then 0 else 8,()):=by obtain⟨n,hn⟩:=Ymj;rw [Zqk,hn];simp only [Zo3,Zo2,Ztj,Z2z,J0k];grind [msgB,rowB,Z2f,Z2g]
theorem Ydd (q:Que)(h:q.2.1.length<=1000000000):Zgk q=some (bif queB q then 0 else 8,()):=by
 rw [Zql];have hf:=Zdf;have:=Z2e (f:=fun n i=>Zbb n q.2.1 (Int.ofNat q.2.1.length) i) (l:=q.2.1) (p:=msgB) (bad:=some (8,())) (fin:=some (0,())) (N:=0)
  (fun n i e he=>by have hi:=(J0d.1 he).1;simp only [Zgz,ltL he,ix_s he,Zj8,J0k,wS (show i<1000000000000 by omega)];grind)
  (fun n _=>by simp only [Zgz,geL,cond_false]) fuel (by omega)
 rw [this];grind [queB]
theorem Z8e (e:Evt):Zbh e=some (bif evtB e then 0 else 8,()):=by rw [Zqm,Zzh];simp only [Ztj,Z2z,J0k];grind [evtB]
theorem Yha (l:List Snd)(h:l.length<=1000000000):Zmj l=some (l.all sndB,()):=by
 rw [Zzi];have hf:=Zdf;have:=Z2e (f:=fun n i=>Zdg n l (Int.ofNat l.length) i) (l:=l) (p:=sndB) (bad:=some (false,())) (fin:=some (true,())) (N:=0)
  (fun n i e he=>by have hi:=(J0d.1 he).1;simp only [Zlu,ltL he,ix_s he,Zj8,J0k,wS (show i<1000000000000 by omega)];grind [sndB])
  (fun n _=>by simp only [Zlu,geL,cond_false]) fuel (by omega)
 grind
theorem Yhb (t:Int):Zjp t=some (Zs5 t,()):=by
 rw [Zu1];have:msgB (2,0,0,0,t,0,0,0,0,0,())=Zp4 t:=by simp [msgB,Z2f,Z2g]
 simp only [Zj8,J0k,this];unfold Zs5;cases t == -9223372036854775808 <;> cases Zp4 t <;> rfl
theorem Yde (a:Acc):Zej a=some (bif accB a then 0 else 8,()):=by rw [Ztd];grind [accB]
theorem Ydf {a:Acc}(h:accB a=true):0<=a.1/\a.1<=1073741824:=by grind [accB]
theorem Yhc (x:Ent):Zjq x=some (entB x,()):=by
 rw [Zu2];simp only [Yde,J0k];cases h1:accB (acc1 x)
 . grind [entB,acc1,acc2]
 cases h2:accB (acc2 x)
 . grind [entB,acc1,acc2]
 have b1:=Ydf h1;have b2:=Ydf h2;have e1:accB (x.2.2.2.1,x.2.2.2.2.1,x.2.2.2.2.2.1,x.2.2.2.2.2.2.1,())=true:=h1;have e2:accB x.2.2.2.2.2.2.2=true:=h2;simp only [acc1,acc2] at b1 b2;rw [e1,e2,w64 (by omega) (by omega)];have:decide (x.2.2.2.1+x.2.2.2.2.2.2.2.1>0) = !(x.2.2.2.1==0&&x.2.2.2.2.2.2.2.1==0):=by grind
 rw [this];unfold entB;rw [h1,h2];simp only [acc1,acc2];grind
theorem Ymk (a b:Int):X7 a b=some (bif decide (a<b) then -1 else bif decide (b<a) then 1 else 0,()):=by rw [Zjr];simp only [Zmk,J0k];grind
theorem or_w (a b c:Int):Zjs [(a,()),(b,()),(c,())]=some (bif a != 0 then a else bif b != 0 then b else c,()):=by
 obtain⟨n,hn⟩:=Zbx;rw [Zu3,hn];have e:∀ m,Zce (m+4) 0 [(a,()),(b,()),(c,())] 3 0=some (bif a != 0 then a else bif b != 0 then b else c,()):=fun m=>by have w1:=wS (i:=0) (by omega);have w2:=wS (i:=1) (by omega);have w3:=wS (i:=2) (by omega);simp only [Int.natCast_zero,Int.zero_add,Nat.zero_add,Int.ofNat_one,Nat.reduceAdd] at w1 w2 w3;simp only [Zte,ix];grind
 grind
theorem Yhd (x y:Ent):∃ k,Zjt x y=some (k,())/\decide (k>=0) = !Ycg x y:=by rw [Zu4];simp only [Ymk,or_w,J0k];refine⟨_,rfl,?_⟩;grind [Ycg]
theorem Yhe (l:List Ent)(h:l.length<=1000000000):Zju l=some (stoE l,()):=by
 rw [Zu5];unfold stoE;by_cases hb:4000<l.length
 . grind
 rw [show decide (Int.ofNat l.length>4000)=false from decide_eq_false (by grind),decide_eq_false hb,cond_false,cond_false];have hf:=Zdf;exact Z73 (f:=fun n i=>Zcf n l l (Int.ofNat l.length) i) (l:=l)
  (fun n i e he=>by
   have hi:=(J0d.1 he).1;simp only [Zjv,ltL he,ix_s he,Yhc,J0k,wS (show i<1000000000000 by omega),cond_true];cases entB e with
   | false=>rfl
   | true =>
    cases i with
    | zero=>rfl
    | succ j =>
     obtain⟨d,hd⟩:∃ d,l[j]? = some d:=⟨_,J0c (by omega)⟩;obtain⟨k,hk,hk2⟩:=Yhd d e;have e1:Go.IntKind.wrap .i64 (((j+1:Nat):Int) - 1)=(j:Int):=by rw [w64 (by omega) (by omega)];omega
     have e2:decide (((j+1:Nat):Int)>0)=true:=decide_eq_true (by omega);simp only [e1,e2,ix_s hd,hk,J0k,hk2,Z2i,hd,okP];grind)
  (fun n=>by simp only [Zjv,geL,cond_false]) l 0 fuel rfl (by omega) (by omega)
end Tg

/- The program's check of a task is the plain one. -/
namespace Tg
open Go.Abs (Zc Zh tmm)
theorem Z8f {α:Type}(p:α->Bool):∀ (l:List α) (s:Bool),l.foldl (fun s e=>s&&p e) s=(s&&l.all p)
 | [],s=>by simp
 | e::l,s=>by rw [List.foldl_cons,Z8f p l,List.all_cons,Bool.and_assoc]
theorem Z20 {α β:Type}{f:Nat->Bool->Int->Option β}{l:List α}{p:α->Bool}{fin:Bool->Option β}{N:Nat}
    (hs:∀ n s (i:Nat) e,l[i]? = some e->f (n+1) s (i:Int)=f n (s&&p e) ((i+1:Nat):Int))
    (he:∀ n s,N<=n->f (n+1) s (l.length:Int)=fin s) (n:Nat) (s:Bool) (hn:N+l.length+1<=n):f n s 0=fin (s&&l.all p):=by
  have:=Ycf (f:=f) (l:=l) (g:=fun s e=>s&&p e) (fin:=fin) (N:=N) (fun _ _=>True) (fun n s i e h _=>⟨hs n s i e h,trivial⟩) (fun n s h _=>he n s h) n s trivial hn;rw [this,Z8f]
section
variable (k:Int) (marks:List (Int×Unit)) (store:List Ent) (evs:List Evt) (rows:List Row5) (late:List Rec3)
def res8 (b:Bool):Option (Int×Unit):=some (bif b then 0 else 8,())
theorem t45 (h:store.length<=1000000000)(n:Nat)(ok:Bool)(hn:store.length+3<=n):X8 n k ok store (Int.ofNat store.length) 0=res8 (ok&&store.all fun x=>k != 4||(acc2 x).1==0) :=
 Z20 (f:=fun n s i=>X8 n k s store (Int.ofNat store.length) i) (l:=store) (N:=1)
  (fun n s i e he=>by have hi:=(J0d.1 he).1;simp only [Zj1,ltL he,ix_s he,wS (show i<1000000000000 by omega),cond_true,acc2];grind)
  (fun n s h=>by obtain⟨m,rfl⟩:∃ m,n=m+1:=⟨n - 1,by omega⟩;simp only [Zj1,geL,cond_false,Ztf,res8];grind) n ok (by omega)
theorem t37 (h:store.length<=1000000000)(h2:late.length<=1000000000)(n:Nat)(ok:Bool)(hn:store.length+late.length+5<=n) :
    Zac n k store ok late (Int.ofNat late.length) 0=res8 ((ok&&late.all fun r=>Zcc r.2.1)&&store.all fun x=>k != 4||(acc2 x).1==0) :=
  Z20 (f:=fun n s i=>Zac n k store s late (Int.ofNat late.length) i) (l:=late) (N:=store.length+3) (fin:=fun ok=>res8 (ok&&store.all fun x=>k != 4||(acc2 x).1==0))
   (fun n s i e he=>by
    have hi:=(J0d.1 he).1;have em:msgB (4,e.1,e.2.1,e.2.2.1,0,0,0,0,0,0,())=Zcc e.2.1:=by simp [msgB,Z2g]
    simp only [Zj0,ltL he,ix_s he,wS (show i<1000000000000 by omega),cond_true,Zj8,J0k,em];cases s <;> cases Zcc e.2.1 <;> rfl)
   (fun n s hn=>by simp only [Zj0,geL,cond_false];exact t45 k store h n s hn) n ok (by omega)
theorem t29 (h:store.length<=1000000000)(h2:late.length<=1000000000)(h3:rows.length<=1000000000)(n:Nat)(ok:Bool)(hn:store.length+late.length+rows.length+7<=n) :
    Zab n k store late ok rows (Int.ofNat rows.length) 0=res8 (((ok&&rows.all rowB)&&late.all fun r=>Zcc r.2.1)&&store.all fun x=>k != 4||(acc2 x).1==0) :=
  Z20 (f:=fun n s i=>Zab n k store late s rows (Int.ofNat rows.length) i) (l:=rows) (N:=store.length+late.length+5) (fin:=fun ok=>res8 ((ok&&late.all fun r=>Zcc r.2.1)&&store.all fun x=>k != 4||(acc2 x).1==0))
   (fun n s i e he=>by
    have hi:=(J0d.1 he).1;have em:msgB (3,0,0,0,0,e)=rowB e:=by simp [msgB,Z2f]
    simp only [Zjz,ltL he,ix_s he,wS (show i<1000000000000 by omega),cond_true,Zj8,J0k,em];cases s <;> cases rowB e <;> rfl)
   (fun n s hn=>by simp only [Zjz,geL,cond_false];exact t37 k store late h h2 n s (by omega)) n ok (by omega)
theorem t21 (h:store.length<=1000000000)(h2:late.length<=1000000000)(h3:rows.length<=1000000000)(h4:evs.length<=1000000000)(n:Nat)(ok:Bool)(hn:store.length+late.length+rows.length+evs.length+9<=n) :
    Zaa n k store rows late ok evs (Int.ofNat evs.length) 0=res8 ((((ok&&evs.all evtB)&&rows.all rowB)&&late.all fun r=>Zcc r.2.1)&&store.all fun x=>k != 4||(acc2 x).1==0) :=
  Z20 (f:=fun n s i=>Zaa n k store rows late s evs (Int.ofNat evs.length) i) (l:=evs) (N:=store.length+late.length+rows.length+7) (fin:=fun ok=>res8 (((ok&&rows.all rowB)&&late.all fun r=>Zcc r.2.1)&&store.all fun x=>k != 4||(acc2 x).1==0))
   (fun n s i e he=>by have hi:=(J0d.1 he).1;simp only [Zjy,ltL he,ix_s he,wS (show i<1000000000000 by omega),cond_true,Z8e,J0k];cases s <;> cases evtB e <;> rfl)
   (fun n s hn=>by simp only [Zjy,geL,cond_false];exact t29 k store rows late h h2 h3 n s (by omega)) n ok (by omega)
theorem t13 (h:store.length<=1000000000)(h2:late.length<=1000000000)(h3:rows.length<=1000000000)(h4:evs.length<=1000000000)(h5:marks.length<=1000000000)(n:Nat)(ok:Bool)(hn:store.length+late.length+rows.length+evs.length+marks.length+11<=n) :
    Q9 n k store evs rows late ok marks (Int.ofNat marks.length) 0=res8 (((((ok&&marks.all fun x=>Zs5 x.1)&&evs.all evtB)&&rows.all rowB)&&late.all fun r=>Zcc r.2.1)&&store.all fun x=>k != 4||(acc2 x).1==0) :=
  Z20 (f:=fun n s i=>Q9 n k store evs rows late s marks (Int.ofNat marks.length) i) (l:=marks) (N:=store.length+late.length+rows.length+evs.length+9) (fin:=fun ok=>res8 ((((ok&&evs.all evtB)&&rows.all rowB)&&late.all fun r=>Zcc r.2.1)&&store.all fun x=>k != 4||(acc2 x).1==0))
   (fun n s i e he=>by have hi:=(J0d.1 he).1;simp only [Zjx,ltL he,ix_s he,wS (show i<1000000000000 by omega),cond_true,Yhb,J0k];grind)
   (fun n s hn=>by simp only [Zjx,geL,cond_false];exact t21 k store evs rows late h h2 h3 h4 n s (by omega)) n ok (by omega)
end
theorem Ydg (t:Tsk):∃ a b c d e f,Zjo t.1=some (a,b,c,d,e,f,())/\Z72 t=(decide (a<=(t.2.2.2.2.1.length:Int))&&(decide ((t.2.2.2.2.1.length:Int)<=b)&&((c||t.2.2.2.2.2.1.length==0)&&((bif d then decide (t.2.2.2.2.2.2.1.length<=60) else t.2.2.2.2.2.2.1.length==0)&&((bif e then decide (t.2.2.2.2.2.2.2.1.length<=4000) else t.2.2.2.2.2.2.2.1.length==0)&&(bif f then decide (t.2.2.2.2.2.2.2.2.1.length<=4000) else t.2.2.2.2.2.2.2.2.1.length==0)))))):=by
 rw [Zu0];unfold Z72;generalize t.2.2.2.2.1.length=n;generalize t.2.2.2.2.2.1.length=s;generalize t.2.2.2.2.2.2.1.length=e;generalize t.2.2.2.2.2.2.2.1.length=r;generalize t.2.2.2.2.2.2.2.2.1.length=l;by_cases h1:t.1=1
 . simp only [h1];grind
 by_cases h2:t.1=2
 . simp only [h2];grind
 by_cases h3:t.1=3
 . simp only [h3];grind
 by_cases h4:t.1=4
 . simp only [h4];grind
 by_cases h5:t.1=5
 . simp only [h5];grind
 by_cases h6:t.1=6
 . simp only [h6];grind
 by_cases h7:t.1=7
 . simp only [h7];grind
 . simp only [h1,h2,h3,h4,h5,h6,h7,beq_iff_eq,beq_false_of_ne,ne_eq,not_false_eq_true,cond_false,Bool.false_and];grind
theorem Ydh (t:Tsk)(h1:t.2.2.2.1.length<=1000000000)(h2:t.2.2.2.2.1.length<=1000000000)(h3:t.2.2.2.2.2.1.length<=1000000000)(h4:t.2.2.2.2.2.2.1.length<=1000000000)(h5:t.2.2.2.2.2.2.2.1.length<=1000000000)(h6:t.2.2.2.2.2.2.2.2.1.length<=1000000000) :
    Zhm t=some (bif Zp5 t then 0 else 8,()):=by
  have hf:8000000000<=fuel:=by rw [fuel,Zbw];decide
  obtain⟨a,b,c,d,e,f,hl,hk⟩:=Ydg t;rw [Zzj,hl];simp only [J0k];obtain⟨m,hm⟩:∃ m,fuel=m+5:=⟨fuel - 5,by omega⟩;have loops:=t13 t.1 t.2.2.2.2.1 t.2.2.2.2.2.1 t.2.2.2.2.2.2.1 t.2.2.2.2.2.2.2.1 t.2.2.2.2.2.2.2.2.1 h3 h6 h5 h4 h2 m true (by omega);rw [hm];unfold Zp5;rw [hk];generalize hR:(t.2.2.2.2.1.all fun x=>Zs5 x.1)=R1 at loops ⊢;generalize t.2.2.2.2.2.2.1.all evtB=R2 at loops ⊢;generalize t.2.2.2.2.2.2.2.1.all rowB=R3 at loops ⊢;generalize (t.2.2.2.2.2.2.2.2.1.all fun r=>Zcc r.2.1)=R4 at loops ⊢;generalize (t.2.2.2.2.2.1.all fun x=>t.1 != 4||(acc2 x).1==0)=R5 at loops ⊢;have c6:∀ bad,Zdj (m+2) t.1 t.2.2.2.2.1 t.2.2.2.2.2.1 t.2.2.2.2.2.2.1 t.2.2.2.2.2.2.2.1 t.2.2.2.2.2.2.2.2.1 bad=res8 (!bad&&(R1&&(R2&&(R3&&(R4&&R5))))):=fun bad=>by rw [Zva,Zu9,loops];cases bad <;> simp [res8,Bool.and_assoc]
  have c4:∀ x y,Zdi (m+3) t.1 t.2.2.2.1 t.2.2.2.2.1 t.2.2.2.2.2.1 t.2.2.2.2.2.2.1 t.2.2.2.2.2.2.2.1 t.2.2.2.2.2.2.2.2.1 x y=res8 (x&&(y&&(t.2.2.2.1.all sndB&&(stoE t.2.2.2.2.2.1==0&&(R1&&(R2&&(R3&&(R4&&R5)))))))):=fun x y=>by simp only [Zu8,Yha _ h1,Yhe _ h3,J0k,c6];grind
  have c3:∀ x,Zdh (m+4) t.1 t.2.2.2.1 t.2.2.2.2.1 t.2.2.2.2.2.1 t.2.2.2.2.2.2.1 t.2.2.2.2.2.2.2.1 t.2.2.2.2.2.2.2.2.1 a b c d e f x=res8 (x&&((decide (t.2.2.2.1.length<=4000)&&(decide (a<=(t.2.2.2.2.1.length:Int))&&(decide ((t.2.2.2.2.1.length:Int)<=b)&&((bif c then decide (t.2.2.2.2.2.1.length<=4000) else t.2.2.2.2.2.1.length==0)&&((bif d then decide (t.2.2.2.2.2.2.1.length<=60) else t.2.2.2.2.2.2.1.length==0)&&((bif e then decide (t.2.2.2.2.2.2.2.1.length<=4000) else t.2.2.2.2.2.2.2.1.length==0)&&(bif f then decide (t.2.2.2.2.2.2.2.2.1.length<=4000) else t.2.2.2.2.2.2.2.2.1.length==0)))))))&&(t.2.2.2.1.all sndB&&(stoE t.2.2.2.2.2.1==0&&(R1&&(R2&&(R3&&(R4&&R5)))))))):=fun x=>by
   have q1:∀ k:Nat,∀ l:Nat,decide (Int.ofNat l<=(k:Int))=decide (l<=k):=fun k l=>by grind
   have q2:∀ l:Nat,decide (Int.ofNat l<=0)=(l==0):=fun l=>by grind
   have r1:∀ b:Bool,Zc6 b 4000=some (bif b then 4000 else 0,()):=fun b=>by rw [Zp6];grind
   have r2:Zc6 d 60=some (bif d then 60 else 0,()):=by rw [Zp6];grind
   simp only [Zu7,r1,r2,J0k,c4];have z:∀ (y:Bool) (l k:Nat),decide (Int.ofNat l<=bif y then (k:Int) else 0)=bif y then decide (l<=k) else l==0:=fun y l k=>by grind
   have z4:=fun y l=>z y l 4000;have z6:=fun y l=>z y l 60;simp only [Int.cast_ofNat_Int] at z4 z6;simp only [z4,z6];grind
  rw [Zu6];simp only [c3];have sto:(stoE t.2.2.2.2.2.1==0)=true->decide (t.2.2.2.2.2.1.length<=4000)=true:=fun h=>by unfold stoE at h;grind
  generalize (bif d then decide (t.2.2.2.2.2.2.1.length<=60) else t.2.2.2.2.2.2.1.length==0)=Y5;generalize (bif e then decide (t.2.2.2.2.2.2.2.1.length<=4000) else t.2.2.2.2.2.2.2.1.length==0)=Y6;generalize (bif f then decide (t.2.2.2.2.2.2.2.2.1.length<=4000) else t.2.2.2.2.2.2.2.2.1.length==0)=Y7;generalize decide (t.2.2.2.1.length<=4000)=Y1;generalize decide (a<=(t.2.2.2.2.1.length:Int))=Y2;generalize decide ((t.2.2.2.2.1.length:Int)<=b)=Y3;generalize (t.2.2.2.2.2.1.length==0)=Z;generalize t.2.2.2.1.all sndB=S1;revert sto;generalize (stoE t.2.2.2.2.2.1==0)=S2;generalize decide (t.2.2.2.2.2.1.length<=4000)=Y4;intro sto;have g1:decide (t.2.2.1>=0)=decide (0<=t.2.2.1):=rfl;have g2:decide (t.2.1>=0)=decide (0<=t.2.1):=rfl;rw [g1,g2];generalize decide (0<=t.2.2.1)=G1;generalize decide (0<=t.2.1)=G2;generalize decide (t.2.2.1<20)=G3;generalize decide (t.2.1<4)=G4;unfold res8;grind
end Tg
