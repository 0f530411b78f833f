import Derived.Test.YtmkhomfchbmkfaaGreatDoorVVb3
import Derived.Test.YtmkhomfchbmkfaaGreatDoorVVb5
/- The program's checks of messages, queues, stores and tasks are the plain ones. -/
set_option linter.unusedVariables false
set_option linter.unusedSimpArgs false
namespace Tg
open Go.Abs (Zb Zf tmm)
theorem Yu9:∃ n,fuel=n+3:=by obtain⟨n,h⟩:=Xz;simp_all
theorem Zww (t:Int):Zbp t=some (X8 t,()):=by rw [Zr1];grind [X8]
theorem Z7k (t:Int):Zdl t=some (Zlt t,()):=by rw [Zr2,Zww];grind [Zlt]
theorem Zmy (m:Msg):Zac m=some (bif msgB m then 0 else 8,()):=by obtain⟨n,hn⟩:=Yu9;rw [Zti,hn];simp only [Zr4,Zr3,Zww,Z7k,J0k];grind [msgB,rowB,Z1o,Z1p]
theorem Z7l (q:Que)(h:q.2.1.length<=1000000000):X9 q=some (bif queB q then 0 else 8,()):=by
 rw [Ztj];have hf:=Yu;have:=Zeb (f:=fun n i=>Zb2 n q.2.1 (Int.ofNat q.2.1.length) i) (l:=q.2.1) (p:=msgB) (bad:=some (8,())) (fin:=some (0,())) (N:=0)
  (fun n i e he=>by have hi:=(J0d.1 he).1;simp only [Zip,ltL he,ix_s he,Zmy,J0k,wS (show i<1000000000000 by omega)];grind)
  (fun n _=>by simp only [Zip,geL,cond_false]) fuel (by omega)
 rw [this];grind [queB]
theorem Yd2 (e:Evt):Zcb e=some (bif evtB e then 0 else 8,()):=by rw [Ztk,Z3v];simp only [Zww,Z7k,J0k];grind [evtB]
theorem Yn8 (l:List Snd)(h:l.length<=1000000000):Zpk l=some (l.all sndB,()):=by
 rw [Z3w];have hf:=Yu;have:=Zeb (f:=fun n i=>Zet n l (Int.ofNat l.length) i) (l:=l) (p:=sndB) (bad:=some (false,())) (fin:=some (true,())) (N:=0)
  (fun n i e he=>by have hi:=(J0d.1 he).1;simp only [Zov,ltL he,ix_s he,Zmy,J0k,wS (show i<1000000000000 by omega)];grind [sndB])
  (fun n _=>by simp only [Zov,geL,cond_false]) fuel (by omega)
 grind
theorem Yn9 (t:Int):Zlz t=some (Zg0 t,()):=by
 rw [Zyo];have:msgB (2,0,0,0,t,0,0,0,0,0,())=Zlt t:=by simp [msgB,Z1o,Z1p]
 simp only [Zmy,J0k,this];unfold Zg0;cases t == -9223372036854775808 <;> cases Zlt t <;> rfl
theorem Yjl (a:Acc):Zfy a=some (bif accB a then 0 else 8,()):=by rw [Zwg];grind [accB]
theorem Yjm {a:Acc}(h:accB a=true):0<=a.1/\a.1<=1073741824:=by grind [accB]
theorem Yoa (x:Ent):Zl0 x=some (entB x,()):=by
 rw [Zyp];simp only [Yjl,J0k];cases h1:accB (acc1 x)
 . grind [entB,acc1,acc2]
 cases h2:accB (acc2 x)
 . grind [entB,acc1,acc2]
 have b1:=Yjm h1;have b2:=Yjm h2;have e1:accB (x.2.2.2.1,x.2.2.2.2.1,x.2.2.2.2.2.1,x.2.2.2.2.2.2.1,())=true:=h1;have e2:accB x.2.2.2.2.2.2.2=true:=h2;simp only [acc1,acc2] at b1 b2;rw [e1,e2,w64 (by omega) (by omega)];have:decide (x.2.2.2.1+x.2.2.2.2.2.2.2.1>0) = !(x.2.2.2.1==0&&x.2.2.2.2.2.2.2.1==0):=by grind
 rw [this];unfold entB;rw [h1,h2];simp only [acc1,acc2];grind
theorem Yva (a b:Int):Ql a b=some (bif decide (a<b) then -1 else bif decide (b<a) then 1 else 0,()):=by rw [Zl1];simp only [Zpl,J0k];grind
theorem or_w (a b c:Int):Zl2 [(a,()),(b,()),(c,())]=some (bif a != 0 then a else bif b != 0 then b else c,()):=by
 obtain⟨n,hn⟩:=Xz;rw [Zyq,hn];have e:∀ m,Zdm (m+4) 0 [(a,()),(b,()),(c,())] 3 0=some (bif a != 0 then a else bif b != 0 then b else c,()):=fun m=>by have w1:=wS (i:=0) (by omega);have w2:=wS (i:=1) (by omega);have w3:=wS (i:=2) (by omega);simp only [Int.natCast_zero,Int.zero_add,Nat.zero_add,Int.ofNat_one,Nat.reduceAdd] at w1 w2 w3;simp only [Zwh,ix];grind
 grind
theorem Yob (x y:Ent):∃ k,Zl3 x y=some (k,())/\decide (k>=0) = !Z1q x y:=by rw [Zyr];simp only [Yva,or_w,J0k];refine⟨_,rfl,?_⟩;grind [Z1q]
theorem Yoc (l:List Ent)(h:l.length<=1000000000):Zl4 l=some (stoE l,()):=by
 rw [Zys];unfold stoE;by_cases hb:4000<l.length
 . grind
 rw [show decide (Int.ofNat l.length>4000)=false from decide_eq_false (by grind),decide_eq_false hb,cond_false,cond_false];have hf:=Yu;exact Z3o (f:=fun n i=>Zdn n l l (Int.ofNat l.length) i) (l:=l)
  (fun n i e he=>by
   have hi:=(J0d.1 he).1;simp only [Zl5,ltL he,ix_s he,Yoa,J0k,wS (show i<1000000000000 by omega),cond_true];cases entB e with
   | false=>rfl
   | true =>
    cases i with
    | zero=>rfl
    | succ j =>
     obtain⟨d,hd⟩:∃ d,l[j]? = some d:=⟨_,J0c (by omega)⟩;obtain⟨k,hk,hk2⟩:=Yob d e;have e1:Go.IntKind.wrap .i64 (((j+1:Nat):Int) - 1)=(j:Int):=by rw [w64 (by omega) (by omega)];omega
     have e2:decide (((j+1:Nat):Int)>0)=true:=decide_eq_true (by omega);simp only [e1,e2,ix_s hd,hk,J0k,hk2,Z1r,hd,okP];grind)
  (fun n=>by simp only [Zl5,geL,cond_false]) l 0 fuel rfl (by omega) (by omega)
end Tg

/- The program's check of a task is the plain one. -/
namespace Tg
open Go.Abs (Zb Zf tmm)
theorem Yd3 {α:Type}(p:α->Bool):∀ (l:List α) (s:Bool),l.foldl (fun s e=>s&&p e) s=(s&&l.all p)
 | [],s=>by simp
 | e::l,s=>by rw [List.foldl_cons,Yd3 p l,List.all_cons,Bool.and_assoc]
theorem Z7m {α β:Type}{f:Nat->Bool->Int->Option β}{l:List α}{p:α->Bool}{fin:Bool->Option β}{N:Nat}
    (hs:∀ n s (i:Nat) e,l[i]? = some e->f (n+1) s (i:Int)=f n (s&&p e) ((i+1:Nat):Int))
    (he:∀ n s,N<=n->f (n+1) s (l.length:Int)=fin s) (n:Nat) (s:Bool) (hn:N+l.length+1<=n):f n s 0=fin (s&&l.all p):=by
  have:=Yih (f:=f) (l:=l) (g:=fun s e=>s&&p e) (fin:=fin) (N:=N) (fun _ _=>True) (fun n s i e h _=>⟨hs n s i e h,trivial⟩) (fun n s h _=>he n s h) n s trivial hn;rw [this,Yd3]
section
variable (k:Int) (marks:List (Int×Unit)) (store:List Ent) (evs:List Evt) (rows:List Row5) (late:List Rec3)
def res8 (b:Bool):Option (Int×Unit):=some (bif b then 0 else 8,())
theorem t45 (h:store.length<=1000000000)(n:Nat)(ok:Bool)(hn:store.length+3<=n):Qm n k ok store (Int.ofNat store.length) 0=res8 (ok&&store.all fun x=>k != 4||(acc2 x).1==0) :=
 Z7m (f:=fun n s i=>Qm n k s store (Int.ofNat store.length) i) (l:=store) (N:=1)
  (fun n s i e he=>by have hi:=(J0d.1 he).1;simp only [Zmb,ltL he,ix_s he,wS (show i<1000000000000 by omega),cond_true,acc2];grind)
  (fun n s h=>by obtain⟨m,rfl⟩:∃ m,n=m+1:=⟨n - 1,by omega⟩;simp only [Zmb,geL,cond_false,Zwi,res8];grind) n ok (by omega)
theorem t37 (h:store.length<=1000000000)(h2:late.length<=1000000000)(n:Nat)(ok:Bool)(hn:store.length+late.length+5<=n) :
    Zas n k store ok late (Int.ofNat late.length) 0=res8 ((ok&&late.all fun r=>X8 r.2.1)&&store.all fun x=>k != 4||(acc2 x).1==0) :=
  Z7m (f:=fun n s i=>Zas n k store s late (Int.ofNat late.length) i) (l:=late) (N:=store.length+3) (fin:=fun ok=>res8 (ok&&store.all fun x=>k != 4||(acc2 x).1==0))
   (fun n s i e he=>by
    have hi:=(J0d.1 he).1;have em:msgB (4,e.1,e.2.1,e.2.2.1,0,0,0,0,0,0,())=X8 e.2.1:=by simp [msgB,Z1p]
    simp only [Zma,ltL he,ix_s he,wS (show i<1000000000000 by omega),cond_true,Zmy,J0k,em];cases s <;> cases X8 e.2.1 <;> rfl)
   (fun n s hn=>by simp only [Zma,geL,cond_false];exact t45 k store h n s hn) n ok (by omega)
theorem t29 (h:store.length<=1000000000)(h2:late.length<=1000000000)(h3:rows.length<=1000000000)(n:Nat)(ok:Bool)(hn:store.length+late.length+rows.length+7<=n) :
    Zar n k store late ok rows (Int.ofNat rows.length) 0=res8 (((ok&&rows.all rowB)&&late.all fun r=>X8 r.2.1)&&store.all fun x=>k != 4||(acc2 x).1==0) :=
  Z7m (f:=fun n s i=>Zar n k store late s rows (Int.ofNat rows.length) i) (l:=rows) (N:=store.length+late.length+5) (fin:=fun ok=>res8 ((ok&&late.all fun r=>X8 r.2.1)&&store.all fun x=>k != 4||(acc2 x).1==0))
   (fun n s i e he=>by
    have hi:=(J0d.1 he).1;have em:msgB (3,0,0,0,0,e)=rowB e:=by simp [msgB,Z1o]
    simp only [Zl9,ltL he,ix_s he,wS (show i<1000000000000 by omega),cond_true,Zmy,J0k,em];cases s <;> cases rowB e <;> rfl)
   (fun n s hn=>by simp only [Zl9,geL,cond_false];exact t37 k store late h h2 n s (by omega)) n ok (by omega)
theorem t21 (h:store.length<=1000000000)(h2:late.length<=1000000000)(h3:rows.length<=1000000000)(h4:evs.length<=1000000000)(n:Nat)(ok:Bool)(hn:store.length+late.length+rows.length+evs.length+9<=n) :
    Zaq n k store rows late ok evs (Int.ofNat evs.length) 0=res8 ((((ok&&evs.all evtB)&&rows.all rowB)&&late.all fun r=>X8 r.2.1)&&store.all fun x=>k != 4||(acc2 x).1==0) :=
  Z7m (f:=fun n s i=>Zaq n k store rows late s evs (Int.ofNat evs.length) i) (l:=evs) (N:=store.length+late.length+rows.length+7) (fin:=fun ok=>res8 (((ok&&rows.all rowB)&&late.all fun r=>X8 r.2.1)&&store.all fun x=>k != 4||(acc2 x).1==0))
   (fun n s i e he=>by have hi:=(J0d.1 he).1;simp only [Zl8,ltL he,ix_s he,wS (show i<1000000000000 by omega),cond_true,Yd2,J0k];cases s <;> cases evtB e <;> rfl)
   (fun n s hn=>by simp only [Zl8,geL,cond_false];exact t29 k store rows late h h2 h3 n s (by omega)) n ok (by omega)
theorem t13 (h:store.length<=1000000000)(h2:late.length<=1000000000)(h3:rows.length<=1000000000)(h4:evs.length<=1000000000)(h5:marks.length<=1000000000)(n:Nat)(ok:Bool)(hn:store.length+late.length+rows.length+evs.length+marks.length+11<=n) :
    Zap n k store evs rows late ok marks (Int.ofNat marks.length) 0=res8 (((((ok&&marks.all fun x=>Zg0 x.1)&&evs.all evtB)&&rows.all rowB)&&late.all fun r=>X8 r.2.1)&&store.all fun x=>k != 4||(acc2 x).1==0) :=
  Z7m (f:=fun n s i=>Zap n k store evs rows late s marks (Int.ofNat marks.length) i) (l:=marks) (N:=store.length+late.length+rows.length+evs.length+9) (fin:=fun ok=>res8 ((((ok&&evs.all evtB)&&rows.all rowB)&&late.all fun r=>X8 r.2.1)&&store.all fun x=>k != 4||(acc2 x).1==0))
   (fun n s i e he=>by have hi:=(J0d.1 he).1;simp only [Zl7,ltL he,ix_s he,wS (show i<1000000000000 by omega),cond_true,Yn9,J0k];grind)
   (fun n s hn=>by simp only [Zl7,geL,cond_false];exact t21 k store evs rows late h h2 h3 h4 n s (by omega)) n ok (by omega)
end
theorem Yjn (t:Tsk):∃ a b c d e f,Zly t.1=some (a,b,c,d,e,f,())/\Zqs t=(decide (a<=(t.2.2.2.2.1.length:Int))&&(decide ((t.2.2.2.2.1.length:Int)<=b)&&((c||t.2.2.2.2.2.1.length==0)&&((bif d then decide (t.2.2.2.2.2.2.1.length<=60) else t.2.2.2.2.2.2.1.length==0)&&((bif e then decide (t.2.2.2.2.2.2.2.1.length<=4000) else t.2.2.2.2.2.2.2.1.length==0)&&(bif f then decide (t.2.2.2.2.2.2.2.2.1.length<=4000) else t.2.2.2.2.2.2.2.2.1.length==0)))))):=by
 rw [Zyn];unfold Zqs;generalize t.2.2.2.2.1.length=n;generalize t.2.2.2.2.2.1.length=s;generalize t.2.2.2.2.2.2.1.length=e;generalize t.2.2.2.2.2.2.2.1.length=r;generalize t.2.2.2.2.2.2.2.2.1.length=l;by_cases h1:t.1=1
 . simp only [h1];grind
 by_cases h2:t.1=2
 . simp only [h2];grind
 by_cases h3:t.1=3
 . simp only [h3];grind
 by_cases h4:t.1=4
 . simp only [h4];grind
 by_cases h5:t.1=5
 . simp only [h5];grind
 by_cases h6:t.1=6
 . simp only [h6];grind
 by_cases h7:t.1=7
 . simp only [h7];grind
 . simp only [h1,h2,h3,h4,h5,h6,h7,beq_iff_eq,beq_false_of_ne,ne_eq,not_false_eq_true,cond_false,Bool.false_and];grind
theorem Z7n (t:Tsk)(h1:t.2.2.2.1.length<=1000000000)(h2:t.2.2.2.2.1.length<=1000000000)(h3:t.2.2.2.2.2.1.length<=1000000000)(h4:t.2.2.2.2.2.2.1.length<=1000000000)(h5:t.2.2.2.2.2.2.2.1.length<=1000000000)(h6:t.2.2.2.2.2.2.2.2.1.length<=1000000000) :
    Zcy t=some (bif Zc1 t then 0 else 8,()):=by
  have hf:8000000000<=fuel:=by rw [fuel,Zb8];decide
  obtain⟨a,b,c,d,e,f,hl,hk⟩:=Yjn t;rw [Z3x,hl];simp only [J0k];obtain⟨m,hm⟩:∃ m,fuel=m+5:=⟨fuel - 5,by omega⟩;have loops:=t13 t.1 t.2.2.2.2.1 t.2.2.2.2.2.1 t.2.2.2.2.2.2.1 t.2.2.2.2.2.2.2.1 t.2.2.2.2.2.2.2.2.1 h3 h6 h5 h4 h2 m true (by omega);rw [hm];unfold Zc1;rw [hk];generalize hR:(t.2.2.2.2.1.all fun x=>Zg0 x.1)=R1 at loops ⊢;generalize t.2.2.2.2.2.2.1.all evtB=R2 at loops ⊢;generalize t.2.2.2.2.2.2.2.1.all rowB=R3 at loops ⊢;generalize (t.2.2.2.2.2.2.2.2.1.all fun r=>X8 r.2.1)=R4 at loops ⊢;generalize (t.2.2.2.2.2.1.all fun x=>t.1 != 4||(acc2 x).1==0)=R5 at loops ⊢;have c6:∀ bad,Zew (m+2) t.1 t.2.2.2.2.1 t.2.2.2.2.2.1 t.2.2.2.2.2.2.1 t.2.2.2.2.2.2.2.1 t.2.2.2.2.2.2.2.2.1 bad=res8 (!bad&&(R1&&(R2&&(R3&&(R4&&R5))))):=fun bad=>by rw [Zyx,Zyw,loops];cases bad <;> simp [res8,Bool.and_assoc]
  have c4:∀ x y,Zev (m+3) t.1 t.2.2.2.1 t.2.2.2.2.1 t.2.2.2.2.2.1 t.2.2.2.2.2.2.1 t.2.2.2.2.2.2.2.1 t.2.2.2.2.2.2.2.2.1 x y=res8 (x&&(y&&(t.2.2.2.1.all sndB&&(stoE t.2.2.2.2.2.1==0&&(R1&&(R2&&(R3&&(R4&&R5)))))))):=fun x y=>by simp only [Zyv,Yn8 _ h1,Yoc _ h3,J0k,c6];grind
  have c3:∀ x,Zeu (m+4) t.1 t.2.2.2.1 t.2.2.2.2.1 t.2.2.2.2.2.1 t.2.2.2.2.2.2.1 t.2.2.2.2.2.2.2.1 t.2.2.2.2.2.2.2.2.1 a b c d e f x=res8 (x&&((decide (t.2.2.2.1.length<=4000)&&(decide (a<=(t.2.2.2.2.1.length:Int))&&(decide ((t.2.2.2.2.1.length:Int)<=b)&&((bif c then decide (t.2.2.2.2.2.1.length<=4000) else t.2.2.2.2.2.1.length==0)&&((bif d then decide (t.2.2.2.2.2.2.1.length<=60) else t.2.2.2.2.2.2.1.length==0)&&((bif e then decide (t.2.2.2.2.2.2.2.1.length<=4000) else t.2.2.2.2.2.2.2.1.length==0)&&(bif f then decide (t.2.2.2.2.2.2.2.2.1.length<=4000) else t.2.2.2.2.2.2.2.2.1.length==0)))))))&&(t.2.2.2.1.all sndB&&(stoE t.2.2.2.2.2.1==0&&(R1&&(R2&&(R3&&(R4&&R5)))))))):=fun x=>by
   have q1:∀ k:Nat,∀ l:Nat,decide (Int.ofNat l<=(k:Int))=decide (l<=k):=fun k l=>by grind
   have q2:∀ l:Nat,decide (Int.ofNat l<=0)=(l==0):=fun l=>by grind
   have r1:∀ b:Bool,Zen b 4000=some (bif b then 4000 else 0,()):=fun b=>by rw [Zs8];grind
   have r2:Zen d 60=some (bif d then 60 else 0,()):=by rw [Zs8];grind
   simp only [Zyu,r1,r2,J0k,c4];have z:∀ (y:Bool) (l k:Nat),decide (Int.ofNat l<=bif y then (k:Int) else 0)=bif y then decide (l<=k) else l==0:=fun y l k=>by grind
   have z4:=fun y l=>z y l 4000;have z6:=fun y l=>z y l 60;simp only [Int.cast_ofNat_Int] at z4 z6;simp only [z4,z6];grind
  rw [Zyt];simp only [c3];have sto:(stoE t.2.2.2.2.2.1==0)=true->decide (t.2.2.2.2.2.1.length<=4000)=true:=fun h=>by unfold stoE at h;grind
  generalize (bif d then decide (t.2.2.2.2.2.2.1.length<=60) else t.2.2.2.2.2.2.1.length==0)=Y5;generalize (bif e then decide (t.2.2.2.2.2.2.2.1.length<=4000) else t.2.2.2.2.2.2.2.1.length==0)=Y6;generalize (bif f then decide (t.2.2.2.2.2.2.2.2.1.length<=4000) else t.2.2.2.2.2.2.2.2.1.length==0)=Y7;generalize decide (t.2.2.2.1.length<=4000)=Y1;generalize decide (a<=(t.2.2.2.2.1.length:Int))=Y2;generalize decide ((t.2.2.2.2.1.length:Int)<=b)=Y3;generalize (t.2.2.2.2.2.1.length==0)=Z;generalize t.2.2.2.1.all sndB=S1;revert sto;generalize (stoE t.2.2.2.2.2.1==0)=S2;generalize decide (t.2.2.2.2.2.1.length<=4000)=Y4;intro sto;have g1:decide (t.2.2.1>=0)=decide (0<=t.2.2.1):=rfl;have g2:decide (t.2.1>=0)=decide (0<=t.2.1):=rfl;rw [g1,g2];generalize decide (0<=t.2.2.1)=G1;generalize decide (0<=t.2.1)=G2;generalize decide (t.2.2.1<20)=G3;generalize decide (t.2.1<4)=G4;unfold res8;grind
end Tg

/- The reference's checks of messages, queues, stores and tasks are the plain ones. -/
namespace Tg
open Go.Abs (Zb Zf tmm)
theorem Zwx (r:Rec3):Zc3 r=some (X8 r.2.1,()):=by rw [Zza];grind [X8]
theorem Z39 (t:Int):Zg4 t=some (Zlt t,()):=by rw [Z35];grind [Zlt,X8]
theorem Yjo (x:Row5):Zoa x=some (rowB x,()):=by rw [Z7j];grind [rowB]
theorem Z7o (m:Msg):Zhv m=some (msgB m,()):=by obtain⟨n,hn⟩:=Xz;rw [Zzb,hn];simp only [Zwt,Zwx,Z39,Yjo,J0k];grind [msgB,Z1o,Z1p]
theorem Yjp (q:Que)(h:q.2.1.length<=1000000000):Zmm q=some (bif queB q then 0 else 8,()):=by
 rw [Zzc];have hf:=Yu;have:=Zeb (f:=fun n i=>Zdr n q.2.1 i) (l:=q.2.1) (p:=msgB) (bad:=some (8,())) (fin:=some (0,())) (N:=0)
  (fun n i e he=>by have hi:=(J0d.1 he).1;simp only [Zmn,ltL he,ix_s he,Z7o,J0k,wS (show i<1000000000000 by omega)];cases msgB e <;> rfl)
  (fun n _=>by simp only [Zmn,geL,cond_false]) fuel (by omega)
 rw [this];grind [queB]
theorem Yjq (a:Acc):Qc a=some (bif accB a then 0 else 8,()):=by obtain⟨n,hn⟩:=Xz;rw [Zzd,hn];simp only [Zwu];grind [accB]
theorem Yod (x y:Ent):Zg7 x y=some (Z1q x y,()):=by rw [Z37];grind [Z1q]
theorem Yjr (l:List Ent)(h:l.length<=1000000000):Zmo l=some (stoE l,()):=by
 rw [Zze];unfold stoE;by_cases hb:4000<l.length
 . rw [show decide (Int.ofNat l.length>4000)=true from decide_eq_true (by simp;omega),decide_eq_true hb];rfl
 rw [show decide (Int.ofNat l.length>4000)=false from decide_eq_false (by simp;omega),decide_eq_false hb,cond_false,cond_false];have hf:=Yu;exact Z3o (f:=fun n i=>Yx n l i) (l:=l)
  (fun n i e he=>by
   have hi:=(J0d.1 he).1;have key:∀ k:Option (Int×Unit),Yx (n+1) l (i:Int)=bif entB e then (bif decide ((i:Int)>0) then ix l (Go.IntKind.wrap .i64 ((i:Int) - 1)) fun e3=>(Zg7 e3 e).bind fun e4=>bif !e4.1 then some (8,()) else Yx n l ((i+1:Nat):Int) else Yx n l ((i+1:Nat):Int)) else some (8,()):=fun k=>by have e1:Qc (e.2.2.2.1,e.2.2.2.2.1,e.2.2.2.2.2.1,e.2.2.2.2.2.2.1,())=some (bif accB (acc1 e) then 0 else 8,()):=Yjq (acc1 e);have e2:Qc e.2.2.2.2.2.2.2=some (bif accB (acc2 e) then 0 else 8,()):=Yjq (acc2 e);simp only [Zmp,ltL he,ix_s he,e1,e2,J0k,wS (show i<1000000000000 by omega),cond_true];generalize (bif decide ((i:Int)>0) then ix l (Go.IntKind.wrap .i64 ((i:Int) - 1)) fun e3=>(Zg7 e3 e).bind fun e4=>bif !e4.1 then some (8,()) else Yx n l ((i+1:Nat):Int) else Yx n l ((i+1:Nat):Int))=Z;grind [entB,acc1,acc2]
   rw [key none];cases entB e with
   | false=>rfl
   | true =>
    cases i with
    | zero=>rfl
    | succ j =>
     obtain⟨d,hd⟩:∃ d,l[j]? = some d:=⟨_,J0c (by omega)⟩;have e1:Go.IntKind.wrap .i64 (((j+1:Nat):Int) - 1)=(j:Int):=by rw [w64 (by omega) (by omega)];omega
     have e2:decide (((j+1:Nat):Int)>0)=true:=decide_eq_true (by omega);simp only [e1,e2,ix_s hd,Yod,J0k,Z1r,hd,okP];cases Z1q d e <;> rfl)
  (fun n=>by simp only [Zmp,geL,cond_false]) l 0 fuel rfl (by omega) (by omega)
theorem Yjs (t:Int):Zmq t=some (Zg0 t,()):=by rw [Zzf];simp only [Z39,J0k];unfold Zg0;cases t == -9223372036854775808 <;> cases Zlt t <;> rfl
theorem Yjt (e:Evt):Zmr e=some (bif evtB e then 0 else 8,()):=by rw [Zzg];simp only [Z39,Zwx,J0k];grind [evtB]
theorem Yju (l:List Snd)(h:l.length<=1000000000):Zmw l=some (l.all sndB,()):=by
 rw [Zzi];have hf:=Yu;have:=Zeb (f:=fun n i=>Zds n l i) (l:=l) (p:=sndB) (bad:=some (false,())) (fin:=some (true,())) (N:=0)
  (fun n i e he=>by have hi:=(J0d.1 he).1;simp only [Zmx,ltL he,ix_s he,Z7o,J0k,wS (show i<1000000000000 by omega)];grind [sndB])
  (fun n _=>by simp only [Zmx,geL,cond_false]) fuel (by omega)
 rw [this];cases l.all sndB <;> rfl
end Tg

/- The reference's check of a task is the plain one. -/
namespace Tg
open Go.Abs (Zb Zf tmm)
section
variable (marks:List (Int×Unit)) (evs:List Evt) (rows:List Row5) (late:List Rec3)
theorem l30 (h:late.length<=1000000000)(n:Nat)(hn:late.length+1<=n):Za7 n late 0=some (late.all fun r=>X8 r.2.1,()):=by
 have:=Zeb (f:=fun n i=>Za7 n late i) (l:=late) (p:=fun r=>X8 r.2.1) (bad:=some (false,())) (fin:=some (true,())) (N:=0)
  (fun n i e he=>by have hi:=(J0d.1 he).1;simp only [Zkm,ltL he,ix_s he,Zwx,J0k,wS (show i<1000000000000 by omega)];grind)
  (fun n _=>by simp only [Zkm,geL,cond_false]) n (by omega)
 grind
theorem l21 (h:late.length<=1000000000)(h2:rows.length<=1000000000)(n:Nat)(hn:late.length+rows.length+3<=n):Za6 n rows late 0=some (rows.all rowB&&late.all fun r=>X8 r.2.1,()):=by
 have:=Zeb (f:=fun n i=>Za6 n rows late i) (l:=rows) (p:=rowB) (bad:=some (false,())) (fin:=some (late.all fun r=>X8 r.2.1,())) (N:=late.length+2)
  (fun n i e he=>by have hi:=(J0d.1 he).1;simp only [Zkl,ltL he,ix_s he,Yjo,J0k,wS (show i<1000000000000 by omega)];grind)
  (fun n hn=>by obtain⟨m,rfl⟩:∃ m,n=m+1:=⟨n - 1,by omega⟩;simp only [Zkl,geL,cond_false,Zts];exact l30 late h m (by omega)) n (by omega)
 grind
theorem l12 (h:late.length<=1000000000)(h2:rows.length<=1000000000)(h3:evs.length<=1000000000)(n:Nat)(hn:late.length+rows.length+evs.length+5<=n):Za5 n evs rows late 0=some (evs.all evtB&&(rows.all rowB&&late.all fun r=>X8 r.2.1),()):=by
 have:=Zeb (f:=fun n i=>Za5 n evs rows late i) (l:=evs) (p:=evtB) (bad:=some (false,())) (fin:=some (rows.all rowB&&late.all fun r=>X8 r.2.1,())) (N:=late.length+rows.length+4)
  (fun n i e he=>by have hi:=(J0d.1 he).1;simp only [Zkk,ltL he,ix_s he,Yjt,J0k,wS (show i<1000000000000 by omega)];grind)
  (fun n hn=>by obtain⟨m,rfl⟩:∃ m,n=m+1:=⟨n - 1,by omega⟩;simp only [Zkk,geL,cond_false,Ztr];exact l21 rows late h h2 m (by omega)) n (by omega)
 grind
theorem l3 (h:late.length<=1000000000)(h2:rows.length<=1000000000)(h3:evs.length<=1000000000)(h4:marks.length<=1000000000)(n:Nat)(hn:late.length+rows.length+evs.length+marks.length+7<=n):Zbs n marks evs rows late 0=some ((marks.all fun x=>Zg0 x.1)&&(evs.all evtB&&(rows.all rowB&&late.all fun r=>X8 r.2.1)),()):=by
 have:=Zeb (f:=fun n i=>Zbs n marks evs rows late i) (l:=marks) (p:=fun x=>Zg0 x.1) (bad:=some (false,())) (fin:=some (evs.all evtB&&(rows.all rowB&&late.all fun r=>X8 r.2.1),())) (N:=late.length+rows.length+evs.length+6)
  (fun n i e he=>by have hi:=(J0d.1 he).1;simp only [Zmv,ltL he,ix_s he,Yjs,J0k,wS (show i<1000000000000 by omega)];grind)
  (fun n hn=>by obtain⟨m,rfl⟩:∃ m,n=m+1:=⟨n - 1,by omega⟩;simp only [Zmv,geL,cond_false,Zwv];exact l12 evs rows late h h2 h3 m (by omega)) n (by omega)
 grind
end
theorem Yoe (t:Tsk):Zpo t=some (Zqs t,()):=by
 obtain⟨m,hn⟩:=Xz;rw [Z38,hn];simp only [Zzj,tmax,tmin];unfold Zqs;generalize t.2.2.2.2.1.length=n;generalize t.2.2.2.2.2.1.length=s;generalize t.2.2.2.2.2.2.1.length=e;generalize t.2.2.2.2.2.2.2.1.length=r;generalize t.2.2.2.2.2.2.2.2.1.length=l;have z0:∀ l:Nat,decide (Int.ofNat l<=0)=(l==0):=fun l=>by grind
 have z6:∀ l:Nat,decide (Int.ofNat l<=60)=decide (l<=60):=fun l=>by grind
 have z4:∀ l:Nat,decide (Int.ofNat l<=4000)=decide (l<=4000):=fun l=>by grind
 have y0:(Int.ofNat n==0)=(n==0):=by grind
 have y1:(Int.ofNat n==1)=(n==1):=by grind
 have y2:(Int.ofNat n==2)=(n==2):=by grind
 have y3:(Int.ofNat n==min 4 (max 1 (Int.ofNat n)))=(decide (1<=n)&&decide (n<=4)):=by grind
 grind
theorem Yof (t:Tsk)(h1:t.2.2.2.1.length<=1000000000)(h2:t.2.2.2.2.1.length<=1000000000)(h3:t.2.2.2.2.2.1.length<=1000000000)(h4:t.2.2.2.2.2.2.1.length<=1000000000)(h5:t.2.2.2.2.2.2.2.1.length<=1000000000)(h6:t.2.2.2.2.2.2.2.2.1.length<=1000000000) :
    Zhw t=some (bif Zc1 t then 0 else 8,()):=by
  have hf:8000000000<=fuel:=by rw [fuel,Zb8];decide
  have hl:Zmt t=some ((t.2.2.2.2.1.all fun x=>Zg0 x.1)&&(t.2.2.2.2.2.2.1.all evtB&&(t.2.2.2.2.2.2.2.1.all rowB&&t.2.2.2.2.2.2.2.2.1.all fun r=>X8 r.2.1)),()):=by rw [Zzh];exact l3 _ _ _ _ h6 h5 h4 h2 fuel (by omega)
  have h13:=Zeb (f:=fun n i=>Zck n t.1 t.2.2.2.2.2.1 i) (l:=t.2.2.2.2.2.1) (p:=fun x=>t.1 != 4||(acc2 x).1==0) (bad:=some (8,())) (fin:=some (0,())) (N:=0)
   (fun n i e he=>by have hi:=(J0d.1 he).1;simp only [Zkn,ltL he,ix_s he,J0k,wS (show i<1000000000000 by omega),acc2];grind)
   (fun n _=>by simp only [Zkn,geL,cond_false]) fuel (by omega)
  rw [Zzk];simp only [Yoe,Yju _ h1,hl,Yjr _ h3,h13,J0k];unfold Zc1;have y1:decide (Int.ofNat t.2.2.2.1.length>4000) = !decide (t.2.2.2.1.length<=4000):=by grind
  have y2:decide (t.2.2.1<0) = !decide (0<=t.2.2.1):=by grind
  have y3:decide (t.2.2.1>=20) = !decide (t.2.2.1<20):=by grind
  have y4:decide (t.2.1<0) = !decide (0<=t.2.1):=by grind
  have y5:decide (t.2.1>=4) = !decide (t.2.1<4):=by grind
  rw [y1,y2,y3,y4,y5];generalize decide (t.2.2.2.1.length<=4000)=A1;generalize decide (0<=t.2.2.1)=A2;generalize decide (t.2.2.1<20)=A3;generalize decide (0<=t.2.1)=A4;generalize decide (t.2.1<4)=A5;generalize Zqs t=A6;generalize t.2.2.2.1.all sndB=A7;generalize (t.2.2.2.2.1.all fun x=>Zg0 x.1)=A8;generalize t.2.2.2.2.2.2.1.all evtB=A9;generalize t.2.2.2.2.2.2.2.1.all rowB=A10;generalize (t.2.2.2.2.2.2.2.2.1.all fun r=>X8 r.2.1)=A11;generalize (t.2.2.2.2.2.1.all fun x=>t.1 != 4||(acc2 x).1==0)=A12;have e:(stoE t.2.2.2.2.2.1 != 0) = !(stoE t.2.2.2.2.2.1==0):=rfl;rw [e];generalize (stoE t.2.2.2.2.2.1==0)=A13;cases A1 <;> cases A2 <;> cases A3 <;> cases A4 <;> cases A5 <;> simp;grind
end Tg
