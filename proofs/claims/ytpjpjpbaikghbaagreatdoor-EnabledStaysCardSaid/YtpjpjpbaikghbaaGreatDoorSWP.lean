import Derived.Test.YtpjpjpbaikghbaaGreatDoorSVb3
import Derived.Test.YtpjpjpbaikghbaaGreatDoorSVb5
set_option linter.all false
/- The program's checks of messages, queues, stores and tasks are the plain ones. -/
namespace Tg
open Go.Abs (Ze Zj tmm)
theorem Yy8:∃n,fuel=n+3:=by obtain⟨n,h⟩:=Zau;simp_all
theorem Zqk(t:Int):Za6 t=some (Yx t,()):=by grind[Zry,Yx]
theorem Zxl(t:Int):Zcw t=some (Ze8 t,()):=by grind[Zrz,Zqk,Ze8]
theorem Q8(m:Msg):Zr m=some (bif msgB m then 0 else 8,()):=by obtain⟨n,hn⟩:=Yy8;rw[Ztu,hn];simp only[Zr1,Zr0,Zqk,Zxl,J0k];grind[msgB,rowB,Zwq,Zwr]
theorem Z8t(q:Que)(h:q.2.1.length<=1000000000):Yo q=some (bif queB q then 0 else 8,()):=by
 rw[Ztv];have hf:=Zu;have:=Zcv (f:=λn i=>Zbj n q.2.1 (Int.ofNat q.2.1.length) i) (l:=q.2.1) (p:=msgB) (bad:=some (8,())) (fin:=some (0,())) (N:=0)
  (λn i e he=>by grind[Zh5,ix_s,Q8,wS])
  (λn _=>by grind[Zh5]) fuel (by omega)
 grind[queB]
theorem Yrq(e:Evt):Zhq e=some (bif evtB e then 0 else 8,()):=by grind[Ztw,Zqj,Zqk,Zxl,evtB]
theorem Ygj(l:List Snd)(h:l.length<=1000000000):Zi1 l=some (l.all sndB,()):=by
 rw[Z4y];have hf:=Zu;have:=Zcv (f:=λn i=>Zea n l (Int.ofNat l.length) i) (l:=l) (p:=sndB) (bad:=some (false,())) (fin:=some (true,())) (N:=0)
  (λn i e he=>by grind[Zn9,ix_s,Q8,wS,sndB])
  (λn _=>by grind[Zn9]) fuel (by omega)
 grind
theorem Yrr(t:Int):Zk6 t=some (Zcf t,()):=by
 rw[Zzq];have:msgB (2,0,0,0,t,0,0,0,0,0,())=Ze8 t:=by simp[msgB,Zwq,Zwr]
 simp only[Q8,J0k,this];unfold Zcf;cases t == -9223372036854775808<;>cases Ze8 t<;>rfl
theorem Zql(a:Acc):Zak a=some (bif accB a then 0 else 8,()):=by grind[Zw3,accB]
theorem Yrs(x:Ent):Zk7 x=some (entB x,()):=by rw[Zzr];simp only[Zql,J0k];grind[accB,acc1,entB,acc2,w64,decide]
theorem Yy9(a b:Int):X5 a b=some (bif decide (a<b)then -1 else bif decide (b<a)then 1 else 0,()):=by grind[Zk8,Zo8]
theorem or_w(a b c:Int):Zk9 [(a,()),(b,()),(c,())]=some (bif a != 0 then a else bif b != 0 then b else c,()):=by
 obtain⟨n,hn⟩:=Zau;rw[Zzs,hn];have e:∀m,Zcx (m+4) 0 [(a,()),(b,()),(c,())] 3 0=some (bif a != 0 then a else bif b != 0 then b else c,()):=λm=>by have w1:=wS (i:=0) (by omega);have w2:=wS (i:=1) (by omega);have w3:=wS (i:=2) (by omega);simp only[Int.natCast_zero,Int.zero_add,Nat.zero_add,Int.ofNat_one,Nat.reduceAdd]at w1 w2 w3;simp only[Zw4,ix];grind
 grind
theorem Z5c(x y:Ent):∃k,Zg2 x y=some (k,())/\decide (k>=0) = !Z8b x y:=by rw[Zzt];simp only[Yy9,or_w,J0k];grind[Z8b]
theorem Z5d(l:List Ent)(h:l.length<=1000000000):Zci l=some (stoE l,()):=by
 rw[Zzu];unfold stoE;by_cases hb:4000<l.length
 . grind
 rw[show decide (Int.ofNat l.length>4000)=false from decide_eq_false (by grind),decide_eq_false hb,cond_false,cond_false];have hf:=Zu;exact Z4q (f:=λn i=>Zcy n l l (Int.ofNat l.length) i) (l:=l)
  (λn i e he=>by
   have hi:=(J0d.1 he).1;simp only[Zla,ltL he,ix_s he,Yrs,J0k,wS (show i<1000000000000 by omega),cond_true];cases entB e with
   | false=>rfl
   | true =>
    cases i with
    | zero=>rfl
    | succ j=>obtain⟨d,hd⟩:∃d,l[j]? = some d:=⟨_,J0c (by omega)⟩;obtain⟨k,hk,hk2⟩:=Z5c d e;grind[w64,ix_s,Z8d,okP])
  (λn=>by grind[Zla]) l 0 fuel rfl (by omega) (by omega)
end Tg

/- The program's check of a task is the plain one. -/
namespace Tg
open Go.Abs (Ze Zj tmm)
theorem Ygk{α:Type}(p:α->Bool):∀(l:List α) (s:Bool),l.foldl (λs e=>s&&p e) s=(s&&l.all p)
 | [],s=>by simp
 | e::l,s=>by rw[List.foldl_cons,Ygk p l,List.all_cons,Bool.and_assoc]
theorem Z8u{α β:Type}{f:Nat->Bool->Int->Option β}{l:List α}{p:α->Bool}{fin:Bool->Option β}{N:Nat}
    (hs:∀n s (i:Nat) e,l[i]? = some e->f (n+1) s (i:Int)=f n (s&&p e) ((i+1:Nat):Int))
    (he:∀n s,N<=n->f (n+1) s (l.length:Int)=fin s) (n:Nat) (s:Bool) (hn:N+l.length+1<=n):f n s 0=fin (s&&l.all p):=by
  have:=Z8a (f:=f) (l:=l) (g:=λs e=>s&&p e) (fin:=fin) (N:=N) (λ_ _=>True) (λn s i e h _=>⟨hs n s i e h,trivial⟩) (λn s h _=>he n s h) n s trivial hn;rw[this,Ygk]
section
variable (k:Int) (marks:List (Int×Unit)) (store:List Ent) (evs:List Evt) (rows:List Row5) (late:List Rec3)
def res8(b:Bool):Option (Int×Unit):=some (bif b then 0 else 8,())
theorem t45(h:store.length<=1000000000)(n:Nat)(ok:Bool)(hn:store.length+3<=n):X6 n k ok store (Int.ofNat store.length) 0=res8 (ok&&store.all λx=>k != 4||(acc2 x).1==0) :=
 Z8u (f:=λn s i=>X6 n k s store (Int.ofNat store.length) i) (l:=store) (N:=1)
  (λn s i e he=>by grind[Zlg,ix_s,wS,acc2])
  (λn s h=>by obtain⟨m,rfl⟩:∃m,n=m+1:=⟨n-1,by omega⟩;grind[Zlg,Zw5,res8]) n ok (by omega)
theorem t37(h:store.length<=1000000000)(h2:late.length<=1000000000)(n:Nat)(ok:Bool)(hn:store.length+late.length+5<=n) :
    Q3 n k store ok late (Int.ofNat late.length) 0=res8 ((ok&&late.all λr=>Yx r.2.1)&&store.all λx=>k != 4||(acc2 x).1==0) :=
  Z8u (f:=λn s i=>Q3 n k store s late (Int.ofNat late.length) i) (l:=late) (N:=store.length+3) (fin:=λok=>res8 (ok&&store.all λx=>k != 4||(acc2 x).1==0))
   (λn s i e he=>by
    have hi:=(J0d.1 he).1;have em:msgB (4,e.1,e.2.1,e.2.2.1,0,0,0,0,0,0,())=Yx e.2.1:=by simp[msgB,Zwr]
    simp only[Zlf,ltL he,ix_s he,wS (show i<1000000000000 by omega),cond_true,Q8,J0k,em];cases s<;>cases Yx e.2.1<;>rfl)
   (λn s hn=>by grind[Zlf,t45]) n ok (by omega)
theorem t29(h:store.length<=1000000000)(h2:late.length<=1000000000)(h3:rows.length<=1000000000)(n:Nat)(ok:Bool)(hn:store.length+late.length+rows.length+7<=n) :
    Q0 n k store late ok rows (Int.ofNat rows.length) 0=res8 (((ok&&rows.all rowB)&&late.all λr=>Yx r.2.1)&&store.all λx=>k != 4||(acc2 x).1==0) :=
  Z8u (f:=λn s i=>Q0 n k store late s rows (Int.ofNat rows.length) i) (l:=rows) (N:=store.length+late.length+5) (fin:=λok=>res8 ((ok&&late.all λr=>Yx r.2.1)&&store.all λx=>k != 4||(acc2 x).1==0))
   (λn s i e he=>by
    have hi:=(J0d.1 he).1;have em:msgB (3,0,0,0,0,e)=rowB e:=by simp[msgB,Zwq]
    simp only[Zle,ltL he,ix_s he,wS (show i<1000000000000 by omega),cond_true,Q8,J0k,em];cases s<;>cases rowB e<;>rfl)
   (λn s hn=>by grind[Zle,t37]) n ok (by omega)
theorem t21(h:store.length<=1000000000)(h2:late.length<=1000000000)(h3:rows.length<=1000000000)(h4:evs.length<=1000000000)(n:Nat)(ok:Bool)(hn:store.length+late.length+rows.length+evs.length+9<=n) :
    Qz n k store rows late ok evs (Int.ofNat evs.length) 0=res8 ((((ok&&evs.all evtB)&&rows.all rowB)&&late.all λr=>Yx r.2.1)&&store.all λx=>k != 4||(acc2 x).1==0) :=
  Z8u (f:=λn s i=>Qz n k store rows late s evs (Int.ofNat evs.length) i) (l:=evs) (N:=store.length+late.length+rows.length+7) (fin:=λok=>res8 (((ok&&rows.all rowB)&&late.all λr=>Yx r.2.1)&&store.all λx=>k != 4||(acc2 x).1==0))
   (λn s i e he=>by have hi:=(J0d.1 he).1;simp only[Zld,ltL he,ix_s he,wS (show i<1000000000000 by omega),cond_true,Yrq,J0k];cases s<;>cases evtB e<;>rfl)
   (λn s hn=>by grind[Zld,t29]) n ok (by omega)
theorem t13(h:store.length<=1000000000)(h2:late.length<=1000000000)(h3:rows.length<=1000000000)(h4:evs.length<=1000000000)(h5:marks.length<=1000000000)(n:Nat)(ok:Bool)(hn:store.length+late.length+rows.length+evs.length+marks.length+11<=n) :
    Qy n k store evs rows late ok marks (Int.ofNat marks.length) 0=res8 (((((ok&&marks.all λx=>Zcf x.1)&&evs.all evtB)&&rows.all rowB)&&late.all λr=>Yx r.2.1)&&store.all λx=>k != 4||(acc2 x).1==0) :=
  Z8u (f:=λn s i=>Qy n k store evs rows late s marks (Int.ofNat marks.length) i) (l:=marks) (N:=store.length+late.length+rows.length+evs.length+9) (fin:=λok=>res8 ((((ok&&evs.all evtB)&&rows.all rowB)&&late.all λr=>Yx r.2.1)&&store.all λx=>k != 4||(acc2 x).1==0))
   (λn s i e he=>by grind[Zlc,ix_s,wS,Yrr])
   (λn s hn=>by grind[Zlc,t21]) n ok (by omega)
end
theorem Ymo(t:Tsk):∃a b c d e f,Zk5 t.1=some (a,b,c,d,e,f,())/\Zh3 t=(decide (a<=(t.2.2.2.2.1.length:Int))&&(decide ((t.2.2.2.2.1.length:Int)<=b)&&((c||t.2.2.2.2.2.1.length==0)&&((bif d then decide (t.2.2.2.2.2.2.1.length<=60)else t.2.2.2.2.2.2.1.length==0)&&((bif e then decide (t.2.2.2.2.2.2.2.1.length<=4000)else t.2.2.2.2.2.2.2.1.length==0)&&(bif f then decide (t.2.2.2.2.2.2.2.2.1.length<=4000)else t.2.2.2.2.2.2.2.2.1.length==0)))))):=by
 rw[Zzp];unfold Zh3;generalize t.2.2.2.2.1.length=n;generalize t.2.2.2.2.2.1.length=s;generalize t.2.2.2.2.2.2.1.length=e;generalize t.2.2.2.2.2.2.2.1.length=r;generalize t.2.2.2.2.2.2.2.2.1.length=l;by_cases h1:t.1=1
 . simp only[h1];grind
 by_cases h2:t.1=2
 . simp only[h2];grind
 by_cases h3:t.1=3
 . simp only[h3];grind
 by_cases h4:t.1=4
 . simp only[h4];grind
 by_cases h5:t.1=5
 . simp only[h5];grind
 by_cases h6:t.1=6
 . simp only[h6];grind
 by_cases h7:t.1=7
 . simp only[h7];grind
 . simp only[h1,h2,h3,h4,h5,h6,h7,beq_iff_eq,beq_false_of_ne,ne_eq,not_false_eq_true,cond_false,Bool.false_and];grind
theorem Z8v(t:Tsk)(h1:t.2.2.2.1.length<=1000000000)(h2:t.2.2.2.2.1.length<=1000000000)(h3:t.2.2.2.2.2.1.length<=1000000000)(h4:t.2.2.2.2.2.2.1.length<=1000000000)(h5:t.2.2.2.2.2.2.2.1.length<=1000000000)(h6:t.2.2.2.2.2.2.2.2.1.length<=1000000000) :
    Yt t=some (bif Zy t then 0 else 8,()):=by
  have hf:8000000000<=fuel:=by rw[fuel,Za3];decide
  obtain⟨a,b,c,d,e,f,hl,hk⟩:=Ymo t;rw[Z40,hl];simp only[J0k];obtain⟨m,hm⟩:∃m,fuel=m+5:=⟨fuel-5,by omega⟩;have loops:=t13 t.1 t.2.2.2.2.1 t.2.2.2.2.2.1 t.2.2.2.2.2.2.1 t.2.2.2.2.2.2.2.1 t.2.2.2.2.2.2.2.2.1 h3 h6 h5 h4 h2 m true (by omega);rw[hm];unfold Zy;rw[hk];generalize hR:(t.2.2.2.2.1.all λx=>Zcf x.1)=R1 at loops ⊢;generalize t.2.2.2.2.2.2.1.all evtB=R2 at loops ⊢;generalize t.2.2.2.2.2.2.2.1.all rowB=R3 at loops ⊢;generalize (t.2.2.2.2.2.2.2.2.1.all λr=>Yx r.2.1)=R4 at loops ⊢;generalize (t.2.2.2.2.2.1.all λx=>t.1 != 4||(acc2 x).1==0)=R5 at loops ⊢;have c6:∀bad,Zed (m+2) t.1 t.2.2.2.2.1 t.2.2.2.2.2.1 t.2.2.2.2.2.2.1 t.2.2.2.2.2.2.2.1 t.2.2.2.2.2.2.2.2.1 bad=res8 (!bad&&(R1&&(R2&&(R3&&(R4&&R5))))):=λbad=>by rw[Zzz,Zzy,loops];grind[res8]
  have c4:∀x y,Zec (m+3) t.1 t.2.2.2.1 t.2.2.2.2.1 t.2.2.2.2.2.1 t.2.2.2.2.2.2.1 t.2.2.2.2.2.2.2.1 t.2.2.2.2.2.2.2.2.1 x y=res8 (x&&(y&&(t.2.2.2.1.all sndB&&(stoE t.2.2.2.2.2.1==0&&(R1&&(R2&&(R3&&(R4&&R5)))))))):=λx y=>by simp only[Zzx,Ygj _ h1,Z5d _ h3,J0k,c6];grind
  have c3:∀x,Zeb (m+4) t.1 t.2.2.2.1 t.2.2.2.2.1 t.2.2.2.2.2.1 t.2.2.2.2.2.2.1 t.2.2.2.2.2.2.2.1 t.2.2.2.2.2.2.2.2.1 a b c d e f x=res8 (x&&((decide (t.2.2.2.1.length<=4000)&&(decide (a<=(t.2.2.2.2.1.length:Int))&&(decide ((t.2.2.2.2.1.length:Int)<=b)&&((bif c then decide (t.2.2.2.2.2.1.length<=4000)else t.2.2.2.2.2.1.length==0)&&((bif d then decide (t.2.2.2.2.2.2.1.length<=60)else t.2.2.2.2.2.2.1.length==0)&&((bif e then decide (t.2.2.2.2.2.2.2.1.length<=4000)else t.2.2.2.2.2.2.2.1.length==0)&&(bif f then decide (t.2.2.2.2.2.2.2.2.1.length<=4000)else t.2.2.2.2.2.2.2.2.1.length==0)))))))&&(t.2.2.2.1.all sndB&&(stoE t.2.2.2.2.2.1==0&&(R1&&(R2&&(R3&&(R4&&R5)))))))):=λx=>by
   have q1:∀k:Nat,∀l:Nat,decide (Int.ofNat l<=(k:Int))=decide (l<=k):=λk l=>by grind
   have q2:∀l:Nat,decide (Int.ofNat l<=0)=(l==0):=λl=>by grind
   have r1:∀b:Bool,Zdu b 4000=some (bif b then 4000 else 0,()):=λb=>by grind[Zth]
   have r2:Zdu d 60=some (bif d then 60 else 0,()):=by grind[Zth]
   simp only[Zzw,r1,r2,J0k,c4];have z:∀(y:Bool) (l k:Nat),decide (Int.ofNat l<=bif y then(k:Int)else 0)=bif y then decide (l<=k)else l==0:=λy l k=>by grind
   have z4:=λy l=>z y l 4000;have z6:=λy l=>z y l 60;simp only[Int.cast_ofNat_Int]at z4 z6;simp only[z4,z6];grind
  rw[Zzv];simp only[c3];have sto:(stoE t.2.2.2.2.2.1==0)=true->decide (t.2.2.2.2.2.1.length<=4000)=true:=λh=>by grind[stoE]
  generalize (bif d then decide (t.2.2.2.2.2.2.1.length<=60)else t.2.2.2.2.2.2.1.length==0)=Y5;generalize (bif e then decide (t.2.2.2.2.2.2.2.1.length<=4000)else t.2.2.2.2.2.2.2.1.length==0)=Y6;generalize (bif f then decide (t.2.2.2.2.2.2.2.2.1.length<=4000)else t.2.2.2.2.2.2.2.2.1.length==0)=Y7;generalize decide (t.2.2.2.1.length<=4000)=Y1;generalize decide (a<=(t.2.2.2.2.1.length:Int))=Y2;generalize decide ((t.2.2.2.2.1.length:Int)<=b)=Y3;generalize (t.2.2.2.2.2.1.length==0)=Z;generalize t.2.2.2.1.all sndB=S1;revert sto;generalize (stoE t.2.2.2.2.2.1==0)=S2;generalize decide (t.2.2.2.2.2.1.length<=4000)=Y4;intro sto;have g1:decide (t.2.2.1>=0)=decide (0<=t.2.2.1):=rfl;have g2:decide (t.2.1>=0)=decide (0<=t.2.1):=rfl;rw[g1,g2];generalize decide (0<=t.2.2.1)=G1;generalize decide (0<=t.2.1)=G2;generalize decide (t.2.2.1<20)=G3;generalize decide (t.2.1<4)=G4;unfold res8;grind
end Tg

/- The reference's checks of messages, queues, stores and tasks are the plain ones. -/
namespace Tg
open Go.Abs (Ze Zj tmm)
theorem Zxm(r:Rec3):Zcj r=some (Yx r.2.1,()):=by grind[Z0f,Yx]
theorem Z5e(t:Int):Zgd t=some (Ze8 t,()):=by grind[Z48,Ze8,Yx]
theorem Ymp(x:Row5):Znk x=some (rowB x,()):=by grind[Z8s,rowB]
theorem Z8w(m:Msg):Zg9 m=some (msgB m,()):=by obtain⟨n,hn⟩:=Zau;rw[Z0g,hn];grind[Zxi,Zxm,Z5e,Ymp,msgB,Zwq,Zwr]
theorem Ymq(q:Que)(h:q.2.1.length<=1000000000):Zlx q=some (bif queB q then 0 else 8,()):=by
 rw[Z0h];have hf:=Zu;have:=Zcv (f:=λn i=>Zc6 n q.2.1 i) (l:=q.2.1) (p:=msgB) (bad:=some (8,())) (fin:=some (0,())) (N:=0)
  (λn i e he=>by grind[Zly,ix_s,Z8w,wS])
  (λn _=>by grind[Zly]) fuel (by omega)
 grind[queB]
theorem Ymr(a:Acc):Xu a=some (bif accB a then 0 else 8,()):=by grind[Zau,Z0i,Zxj,accB]
theorem Yrt(x y:Ent):Zi3 x y=some (Z8b x y,()):=by grind[Z5a,Z8b]
theorem Yms(l:List Ent)(h:l.length<=1000000000):Zlz l=some (stoE l,()):=by
 rw[Z0j];unfold stoE;by_cases hb:4000<l.length
 . grind
 rw[show decide (Int.ofNat l.length>4000)=false from decide_eq_false (by simp;omega),decide_eq_false hb,cond_false,cond_false];have hf:=Zu;exact Z4q (f:=λn i=>X7 n l i) (l:=l)
  (λn i e he=>by
   have hi:=(J0d.1 he).1;have key:∀k:Option (Int×Unit),X7 (n+1) l (i:Int)=bif entB e then(bif decide ((i:Int)>0)then ix l (Go.IntKind.wrap .i64 ((i:Int)-1)) λe3=>(Zi3 e3 e).bind λe4=>bif !e4.1 then some (8,())else X7 n l ((i+1:Nat):Int)else X7 n l ((i+1:Nat):Int))else some (8,()):=λk=>by have e1:Xu (e.2.2.2.1,e.2.2.2.2.1,e.2.2.2.2.2.1,e.2.2.2.2.2.2.1,())=some (bif accB (acc1 e)then 0 else 8,()):=Ymr (acc1 e);have e2:Xu e.2.2.2.2.2.2.2=some (bif accB (acc2 e)then 0 else 8,()):=Ymr (acc2 e);simp only[Zl0,ltL he,ix_s he,e1,e2,J0k,wS (show i<1000000000000 by omega),cond_true];grind[entB,acc1,acc2]
   rw[key none];cases entB e with
   | false=>rfl
   | true =>
    cases i with
    | zero=>rfl
    | succ j=>grind[w64,ix_s,Yrt,Z8d,okP])
  (λn=>by grind[Zl0]) l 0 fuel rfl (by omega) (by omega)
theorem Ymt(t:Int):Zl1 t=some (Zcf t,()):=by grind[Z0k,Z5e,Zcf]
theorem Ymu(e:Evt):Zl2 e=some (bif evtB e then 0 else 8,()):=by grind[Z0l,Z5e,Zxm,evtB]
theorem Ymv(l:List Snd)(h:l.length<=1000000000):Zl7 l=some (l.all sndB,()):=by
 rw[Z0n];have hf:=Zu;have:=Zcv (f:=λn i=>Zc7 n l i) (l:=l) (p:=sndB) (bad:=some (false,())) (fin:=some (true,())) (N:=0)
  (λn i e he=>by grind[Zl8,ix_s,Z8w,wS,sndB])
  (λn _=>by grind[Zl8]) fuel (by omega)
 grind
end Tg

/- The reference's check of a task is the plain one. -/
namespace Tg
open Go.Abs (Ze Zj tmm)
section
variable (marks:List (Int×Unit)) (evs:List Evt) (rows:List Row5) (late:List Rec3)
theorem l30(h:late.length<=1000000000)(n:Nat)(hn:late.length+1<=n):Zar n late 0=some (late.all λr=>Yx r.2.1,()):=by
 have:=Zcv (f:=λn i=>Zar n late i) (l:=late) (p:=λr=>Yx r.2.1) (bad:=some (false,())) (fin:=some (true,())) (N:=0)
  (λn i e he=>by grind[Zj0,ix_s,Zxm,wS])
  (λn _=>by grind[Zj0]) n (by omega)
 grind
theorem l21(h:late.length<=1000000000)(h2:rows.length<=1000000000)(n:Nat)(hn:late.length+rows.length+3<=n):Zaq n rows late 0=some (rows.all rowB&&late.all λr=>Yx r.2.1,()):=by
 have:=Zcv (f:=λn i=>Zaq n rows late i) (l:=rows) (p:=rowB) (bad:=some (false,())) (fin:=some (late.all λr=>Yx r.2.1,())) (N:=late.length+2)
  (λn i e he=>by grind[Zjz,ix_s,Ymp,wS])
  (λn hn=>by obtain⟨m,rfl⟩:∃m,n=m+1:=⟨n-1,by omega⟩;grind[Zjz,Zt4,l30]) n (by omega)
 grind
theorem l12(h:late.length<=1000000000)(h2:rows.length<=1000000000)(h3:evs.length<=1000000000)(n:Nat)(hn:late.length+rows.length+evs.length+5<=n):Zap n evs rows late 0=some (evs.all evtB&&(rows.all rowB&&late.all λr=>Yx r.2.1),()):=by
 have:=Zcv (f:=λn i=>Zap n evs rows late i) (l:=evs) (p:=evtB) (bad:=some (false,())) (fin:=some (rows.all rowB&&late.all λr=>Yx r.2.1,())) (N:=late.length+rows.length+4)
  (λn i e he=>by grind[Zjy,ix_s,Ymu,wS])
  (λn hn=>by obtain⟨m,rfl⟩:∃m,n=m+1:=⟨n-1,by omega⟩;grind[Zjy,Zt3,l21]) n (by omega)
 grind
theorem l3(h:late.length<=1000000000)(h2:rows.length<=1000000000)(h3:evs.length<=1000000000)(h4:marks.length<=1000000000)(n:Nat)(hn:late.length+rows.length+evs.length+marks.length+7<=n):Za7 n marks evs rows late 0=some ((marks.all λx=>Zcf x.1)&&(evs.all evtB&&(rows.all rowB&&late.all λr=>Yx r.2.1)),()):=by
 have:=Zcv (f:=λn i=>Za7 n marks evs rows late i) (l:=marks) (p:=λx=>Zcf x.1) (bad:=some (false,())) (fin:=some (evs.all evtB&&(rows.all rowB&&late.all λr=>Yx r.2.1),())) (N:=late.length+rows.length+evs.length+6)
  (λn i e he=>by grind[Zl6,ix_s,Ymt,wS])
  (λn hn=>by obtain⟨m,rfl⟩:∃m,n=m+1:=⟨n-1,by omega⟩;grind[Zl6,Zxk,l12]) n (by omega)
 grind
end
theorem Yru(t:Tsk):Zpc t=some (Zh3 t,()):=by
 obtain⟨m,hn⟩:=Zau;rw[Z5b,hn];simp only[Z0o,tmax,tmin];unfold Zh3;generalize t.2.2.2.2.1.length=n;generalize t.2.2.2.2.2.1.length=s;generalize t.2.2.2.2.2.2.1.length=e;generalize t.2.2.2.2.2.2.2.1.length=r;generalize t.2.2.2.2.2.2.2.2.1.length=l;have z0:∀l:Nat,decide (Int.ofNat l<=0)=(l==0):=λl=>by grind
 grind[decide]
theorem Yrv(t:Tsk)(h1:t.2.2.2.1.length<=1000000000)(h2:t.2.2.2.2.1.length<=1000000000)(h3:t.2.2.2.2.2.1.length<=1000000000)(h4:t.2.2.2.2.2.2.1.length<=1000000000)(h5:t.2.2.2.2.2.2.2.1.length<=1000000000)(h6:t.2.2.2.2.2.2.2.2.1.length<=1000000000) :
    Zha t=some (bif Zy t then 0 else 8,()):=by
  have hf:8000000000<=fuel:=by rw[fuel,Za3];decide
  have hl:Zl4 t=some ((t.2.2.2.2.1.all λx=>Zcf x.1)&&(t.2.2.2.2.2.2.1.all evtB&&(t.2.2.2.2.2.2.2.1.all rowB&&t.2.2.2.2.2.2.2.2.1.all λr=>Yx r.2.1)),()):=by grind[Z0m,l3]
  have h13:=Zcv (f:=λn i=>Zb3 n t.1 t.2.2.2.2.2.1 i) (l:=t.2.2.2.2.2.1) (p:=λx=>t.1 != 4||(acc2 x).1==0) (bad:=some (8,())) (fin:=some (0,())) (N:=0)
   (λn i e he=>by have hi:=(J0d.1 he).1;simp only[Zj1,ltL he,ix_s he,J0k,wS (show i<1000000000000 by omega),acc2];grind)
   (λn _=>by grind[Zj1]) fuel (by omega)
  rw[Z0p];simp only[Yru,Ymv _ h1,hl,Yms _ h3,h13,J0k];unfold Zy;have y1:decide (Int.ofNat t.2.2.2.1.length>4000) = !decide (t.2.2.2.1.length<=4000):=by grind
  have y2:decide (t.2.2.1<0) = !decide (0<=t.2.2.1):=by grind
  have y3:decide (t.2.2.1>=20) = !decide (t.2.2.1<20):=by grind
  have y4:decide (t.2.1<0) = !decide (0<=t.2.1):=by grind
  have y5:decide (t.2.1>=4) = !decide (t.2.1<4):=by grind
  rw[y1,y2,y3,y4,y5];generalize decide (t.2.2.2.1.length<=4000)=A1;generalize decide (0<=t.2.2.1)=A2;generalize decide (t.2.2.1<20)=A3;generalize decide (0<=t.2.1)=A4;generalize decide (t.2.1<4)=A5;generalize Zh3 t=A6;generalize t.2.2.2.1.all sndB=A7;generalize (t.2.2.2.2.1.all λx=>Zcf x.1)=A8;generalize t.2.2.2.2.2.2.1.all evtB=A9;generalize t.2.2.2.2.2.2.2.1.all rowB=A10;generalize (t.2.2.2.2.2.2.2.2.1.all λr=>Yx r.2.1)=A11;generalize (t.2.2.2.2.2.1.all λx=>t.1 != 4||(acc2 x).1==0)=A12;have e:(stoE t.2.2.2.2.2.1 != 0) = !(stoE t.2.2.2.2.2.1==0):=rfl;rw[e];generalize (stoE t.2.2.2.2.2.1==0)=A13;cases A1<;>cases A2<;>cases A3<;>cases A4<;>cases A5<;>simp;grind
end Tg
