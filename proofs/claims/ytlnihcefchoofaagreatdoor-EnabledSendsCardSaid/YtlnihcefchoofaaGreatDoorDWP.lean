import Derived.Test.YtlnihcefchoofaaGreatDoorDVb3
import Derived.Test.YtlnihcefchoofaaGreatDoorDVb5
set_option linter.all false
namespace Tg
open Go.Abs (Ze Zj tmm)
theorem Yzv:∃n,fuel=n+3:=by obtain⟨n,h⟩:=Zat;simp_all
theorem Zqv(t:Int):Za5 t=some (Yy t,()):=by grind[Zsa,Yy]
theorem Zx1(t:Int):Zcz t=some (Zfi t,()):=by grind[Zsb,Zqv,Zfi]
theorem Q9(m:Msg):Zt m=some (bif msgB m then 0 else 8,()):=by obtain⟨n,hn⟩:=Yzv;rw[Zt8,hn];simp only[Zsd,Zsc,Zqv,Zx1,J0k];grind[msgB,rowB,Zw6,Zw7]
theorem Z9a(q:Que)(h:q.2.1.length<=1000000000):Yp q=some (bif queB q then 0 else 8,()):=by
 rw[Zt9];have hf:=Zr;have:=Zcy (f:=λn i=>Zbi n q.2.1 (Int.ofNat q.2.1.length) i) (l:=q.2.1) (p:=msgB) (bad:=some (8,())) (fin:=some (0,())) (N:=0)
  (λn i e he=>by grind[Zie,ix_s,Q9,wS])
  (λn _=>by grind[Zie]) fuel (by omega)
 grind[queB]
theorem Ysc(e:Evt):Zhz e=some (bif evtB e then 0 else 8,()):=by grind[Zua,Zqu,Zqv,Zx1,evtB]
theorem Yg1(l:List Snd)(h:l.length<=1000000000):Zjb l=some (l.all sndB,()):=by
 rw[Z5f];have hf:=Zr;have:=Zcy (f:=λn i=>Zei n l (Int.ofNat l.length) i) (l:=l) (p:=sndB) (bad:=some (false,())) (fin:=some (true,())) (N:=0)
  (λn i e he=>by grind[Zok,ix_s,Q9,wS,sndB])
  (λn _=>by grind[Zok]) fuel (by omega)
 grind
theorem Ysd(t:Int):Zlj t=some (Zch t,()):=by
 rw[Zz9];have:msgB (2,0,0,0,t,0,0,0,0,0,())=Zfi t:=by simp[msgB,Zw6,Zw7]
 simp only[Q9,J0k,this];unfold Zch;cases t == -9223372036854775808<;>cases Zfi t<;>rfl
theorem Zqw(a:Acc):Zaj a=some (bif accB a then 0 else 8,()):=by grind[Zxj,accB]
theorem Yse(x:Ent):Zlk x=some (entB x,()):=by rw[Z0a];simp only[Zqw,J0k];grind[accB,acc1,entB,acc2,w64,decide]
theorem Yzw(a b:Int):X5 a b=some (bif decide (a<b)then -1 else bif decide (b<a)then 1 else 0,()):=by grind[Zll,Zpj]
theorem or_w(a b c:Int):Zlm [(a,()),(b,()),(c,())]=some (bif a != 0 then a else bif b != 0 then b else c,()):=by
 obtain⟨n,hn⟩:=Zat;rw[Z0b,hn];have e:∀m,Zc0 (m+4) 0 [(a,()),(b,()),(c,())] 3 0=some (bif a != 0 then a else bif b != 0 then b else c,()):=λm=>by have w1:=wS (i:=0) (by omega);have w2:=wS (i:=1) (by omega);have w3:=wS (i:=2) (by omega);simp only[Int.natCast_zero,Int.zero_add,Nat.zero_add,Int.ofNat_one,Nat.reduceAdd]at w1 w2 w3;simp only[Zxk,ix];grind
 grind
theorem Z5t(x y:Ent):∃k,Zhd x y=some (k,())/\decide (k>=0) = !Z8s x y:=by rw[Z0c];simp only[Yzw,or_w,J0k];grind[Z8s]
theorem Z5u(l:List Ent)(h:l.length<=1000000000):Zck l=some (stoE l,()):=by
 rw[Z0d];unfold stoE;by_cases hb:4000<l.length;grind;rw[show decide (Int.ofNat l.length>4000)=false from decide_eq_false (by grind),decide_eq_false hb,cond_false,cond_false];have hf:=Zr;exact Z47 (f:=λn i=>Zc1 n l l (Int.ofNat l.length) i) (l:=l)
  (λn i e he=>by
   have hi:=(J0d.1 he).1;simp only[Zln,ltL he,ix_s he,Yse,J0k,wS (show i<1000000000000 by omega),cond_true];cases entB e with|false=>rfl|true => cases i with|zero=>rfl|succ j=>obtain⟨d,hd⟩:∃d,l[j]? = some d:=⟨_,J0c (by omega)⟩;obtain⟨k,hk,hk2⟩:=Z5t d e;grind[w64,ix_s,Z8u,okP])
  (λn=>by grind[Zln]) l 0 fuel rfl (by omega) (by omega)
theorem Yg2{α:Type}(p:α->Bool):∀(l:List α) (s:Bool),l.foldl (λs e=>s&&p e) s=(s&&l.all p)|[],s=>by simp|e::l,s=>by rw[List.foldl_cons,Yg2 p l,List.all_cons,Bool.and_assoc]
theorem Z9b{α β:Type}{f:Nat->Bool->Int->Option β}{l:List α}{p:α->Bool}{fin:Bool->Option β}{N:Nat}
    (hs:∀n s (i:Nat) e,l[i]? = some e->f (n+1) s (i:Int)=f n (s&&p e) ((i+1:Nat):Int))
    (he:∀n s,N<=n->f (n+1) s (l.length:Int)=fin s) (n:Nat) (s:Bool) (hn:N+l.length+1<=n):f n s 0=fin (s&&l.all p):=by
  have:=Zw5 (f:=f) (l:=l) (g:=λs e=>s&&p e) (fin:=fin) (N:=N) (λ_ _=>True) (λn s i e h _=>⟨hs n s i e h,trivial⟩) (λn s h _=>he n s h) n s trivial hn;rw[this,Yg2]
section
variable (k:Int) (marks:List (Int×Unit)) (store:List Ent) (evs:List Evt) (rows:List Row5) (late:List Rec3)
def res8(b:Bool):Option (Int×Unit):=some (bif b then 0 else 8,())
theorem t45(h:store.length<=1000000000)(n:Nat)(ok:Bool)(hn:store.length+3<=n):X6 n k ok store (Int.ofNat store.length) 0=res8 (ok&&store.all λx=>k != 4||(acc2 x).1==0) :=
 Z9b (f:=λn s i=>X6 n k s store (Int.ofNat store.length) i) (l:=store) (N:=1)
  (λn s i e he=>by grind[Zlt,ix_s,wS,acc2])
  (λn s h=>by obtain⟨m,rfl⟩:∃m,n=m+1:=⟨n-1,by omega⟩;grind[Zlt,Zxl,res8]) n ok (by omega)
theorem t37(h:store.length<=1000000000)(h2:late.length<=1000000000)(n:Nat)(ok:Bool)(hn:store.length+late.length+5<=n) :
    Q4 n k store ok late (Int.ofNat late.length) 0=res8 ((ok&&late.all λr=>Yy r.2.1)&&store.all λx=>k != 4||(acc2 x).1==0) :=
  Z9b (f:=λn s i=>Q4 n k store s late (Int.ofNat late.length) i) (l:=late) (N:=store.length+3) (fin:=λok=>res8 (ok&&store.all λx=>k != 4||(acc2 x).1==0))
   (λn s i e he=>by
    have hi:=(J0d.1 he).1;have em:msgB (4,e.1,e.2.1,e.2.2.1,0,0,0,0,0,0,())=Yy e.2.1:=by simp[msgB,Zw7]
    simp only[Zls,ltL he,ix_s he,wS (show i<1000000000000 by omega),cond_true,Q9,J0k,em];cases s<;>cases Yy e.2.1<;>rfl)
   (λn s hn=>by grind[Zls,t45]) n ok (by omega)
theorem t29(h:store.length<=1000000000)(h2:late.length<=1000000000)(h3:rows.length<=1000000000)(n:Nat)(ok:Bool)(hn:store.length+late.length+rows.length+7<=n) :
    Q3 n k store late ok rows (Int.ofNat rows.length) 0=res8 (((ok&&rows.all rowB)&&late.all λr=>Yy r.2.1)&&store.all λx=>k != 4||(acc2 x).1==0) :=
  Z9b (f:=λn s i=>Q3 n k store late s rows (Int.ofNat rows.length) i) (l:=rows) (N:=store.length+late.length+5) (fin:=λok=>res8 ((ok&&late.all λr=>Yy r.2.1)&&store.all λx=>k != 4||(acc2 x).1==0))
   (λn s i e he=>by
    have hi:=(J0d.1 he).1;have em:msgB (3,0,0,0,0,e)=rowB e:=by simp[msgB,Zw6]
    simp only[Zlr,ltL he,ix_s he,wS (show i<1000000000000 by omega),cond_true,Q9,J0k,em];cases s<;>cases rowB e<;>rfl)
   (λn s hn=>by grind[Zlr,t37]) n ok (by omega)
theorem t21(h:store.length<=1000000000)(h2:late.length<=1000000000)(h3:rows.length<=1000000000)(h4:evs.length<=1000000000)(n:Nat)(ok:Bool)(hn:store.length+late.length+rows.length+evs.length+9<=n) :
    Q0 n k store rows late ok evs (Int.ofNat evs.length) 0=res8 ((((ok&&evs.all evtB)&&rows.all rowB)&&late.all λr=>Yy r.2.1)&&store.all λx=>k != 4||(acc2 x).1==0) :=
  Z9b (f:=λn s i=>Q0 n k store rows late s evs (Int.ofNat evs.length) i) (l:=evs) (N:=store.length+late.length+rows.length+7) (fin:=λok=>res8 (((ok&&rows.all rowB)&&late.all λr=>Yy r.2.1)&&store.all λx=>k != 4||(acc2 x).1==0))
   (λn s i e he=>by have hi:=(J0d.1 he).1;simp only[Zlq,ltL he,ix_s he,wS (show i<1000000000000 by omega),cond_true,Ysc,J0k];cases s<;>cases evtB e<;>rfl)
   (λn s hn=>by grind[Zlq,t29]) n ok (by omega)
theorem t13(h:store.length<=1000000000)(h2:late.length<=1000000000)(h3:rows.length<=1000000000)(h4:evs.length<=1000000000)(h5:marks.length<=1000000000)(n:Nat)(ok:Bool)(hn:store.length+late.length+rows.length+evs.length+marks.length+11<=n) :
    Qz n k store evs rows late ok marks (Int.ofNat marks.length) 0=res8 (((((ok&&marks.all λx=>Zch x.1)&&evs.all evtB)&&rows.all rowB)&&late.all λr=>Yy r.2.1)&&store.all λx=>k != 4||(acc2 x).1==0) :=
  Z9b (f:=λn s i=>Qz n k store evs rows late s marks (Int.ofNat marks.length) i) (l:=marks) (N:=store.length+late.length+rows.length+evs.length+9) (fin:=λok=>res8 ((((ok&&evs.all evtB)&&rows.all rowB)&&late.all λr=>Yy r.2.1)&&store.all λx=>k != 4||(acc2 x).1==0))
   (λn s i e he=>by grind[Zlp,ix_s,wS,Ysd])
   (λn s hn=>by grind[Zlp,t21]) n ok (by omega)
end
theorem Ym6(t:Tsk):∃a b c d e f,Zli t.1=some (a,b,c,d,e,f,())/\Zic t=(decide (a<=(t.2.2.2.2.1.length:Int))&&(decide ((t.2.2.2.2.1.length:Int)<=b)&&((c||t.2.2.2.2.2.1.length==0)&&((bif d then decide (t.2.2.2.2.2.2.1.length<=60)else t.2.2.2.2.2.2.1.length==0)&&((bif e then decide (t.2.2.2.2.2.2.2.1.length<=4000)else t.2.2.2.2.2.2.2.1.length==0)&&(bif f then decide (t.2.2.2.2.2.2.2.2.1.length<=4000)else t.2.2.2.2.2.2.2.2.1.length==0)))))):=by
 rw[Zz8];unfold Zic;generalize t.2.2.2.2.1.length=n;generalize t.2.2.2.2.2.1.length=s;generalize t.2.2.2.2.2.2.1.length=e;generalize t.2.2.2.2.2.2.2.1.length=r;generalize t.2.2.2.2.2.2.2.2.1.length=l;by_cases h1:t.1=1;simp only[h1];grind;by_cases h2:t.1=2;simp only[h2];grind;by_cases h3:t.1=3;simp only[h3];grind;by_cases h4:t.1=4;simp only[h4];grind;by_cases h5:t.1=5;simp only[h5];grind;by_cases h6:t.1=6;simp only[h6];grind;by_cases h7:t.1=7;simp only[h7];grind;simp only[h1,h2,h3,h4,h5,h6,h7,beq_iff_eq,beq_false_of_ne,ne_eq,not_false_eq_true,cond_false,Bool.false_and];grind
theorem Z9c(t:Tsk)(h1:t.2.2.2.1.length<=1000000000)(h2:t.2.2.2.2.1.length<=1000000000)(h3:t.2.2.2.2.2.1.length<=1000000000)(h4:t.2.2.2.2.2.2.1.length<=1000000000)(h5:t.2.2.2.2.2.2.2.1.length<=1000000000)(h6:t.2.2.2.2.2.2.2.2.1.length<=1000000000) :
    Yu t=some (bif Zy t then 0 else 8,()):=by
  have hf:8000000000<=fuel:=by rw[fuel,Za2];decide
  obtain⟨a,b,c,d,e,f,hl,hk⟩:=Ym6 t;rw[Z5h,hl];simp only[J0k];obtain⟨m,hm⟩:∃m,fuel=m+5:=⟨fuel-5,by omega⟩;have loops:=t13 t.1 t.2.2.2.2.1 t.2.2.2.2.2.1 t.2.2.2.2.2.2.1 t.2.2.2.2.2.2.2.1 t.2.2.2.2.2.2.2.2.1 h3 h6 h5 h4 h2 m true (by omega);rw[hm];unfold Zy;rw[hk];generalize hR:(t.2.2.2.2.1.all λx=>Zch x.1)=R1 at loops ⊢;generalize t.2.2.2.2.2.2.1.all evtB=R2 at loops ⊢;generalize t.2.2.2.2.2.2.2.1.all rowB=R3 at loops ⊢;generalize (t.2.2.2.2.2.2.2.2.1.all λr=>Yy r.2.1)=R4 at loops ⊢;generalize (t.2.2.2.2.2.1.all λx=>t.1 != 4||(acc2 x).1==0)=R5 at loops ⊢;have c6:∀bad,Zel (m+2) t.1 t.2.2.2.2.1 t.2.2.2.2.2.1 t.2.2.2.2.2.2.1 t.2.2.2.2.2.2.2.1 t.2.2.2.2.2.2.2.2.1 bad=res8 (!bad&&(R1&&(R2&&(R3&&(R4&&R5))))):=λbad=>by rw[Z0i,Z0h,loops];grind[res8]
  have c4:∀x y,Zek (m+3) t.1 t.2.2.2.1 t.2.2.2.2.1 t.2.2.2.2.2.1 t.2.2.2.2.2.2.1 t.2.2.2.2.2.2.2.1 t.2.2.2.2.2.2.2.2.1 x y=res8 (x&&(y&&(t.2.2.2.1.all sndB&&(stoE t.2.2.2.2.2.1==0&&(R1&&(R2&&(R3&&(R4&&R5)))))))):=λx y=>by simp only[Z0g,Yg1 _ h1,Z5u _ h3,J0k,c6];grind
  have c3:∀x,Zej (m+4) t.1 t.2.2.2.1 t.2.2.2.2.1 t.2.2.2.2.2.1 t.2.2.2.2.2.2.1 t.2.2.2.2.2.2.2.1 t.2.2.2.2.2.2.2.2.1 a b c d e f x=res8 (x&&((decide (t.2.2.2.1.length<=4000)&&(decide (a<=(t.2.2.2.2.1.length:Int))&&(decide ((t.2.2.2.2.1.length:Int)<=b)&&((bif c then decide (t.2.2.2.2.2.1.length<=4000)else t.2.2.2.2.2.1.length==0)&&((bif d then decide (t.2.2.2.2.2.2.1.length<=60)else t.2.2.2.2.2.2.1.length==0)&&((bif e then decide (t.2.2.2.2.2.2.2.1.length<=4000)else t.2.2.2.2.2.2.2.1.length==0)&&(bif f then decide (t.2.2.2.2.2.2.2.2.1.length<=4000)else t.2.2.2.2.2.2.2.2.1.length==0)))))))&&(t.2.2.2.1.all sndB&&(stoE t.2.2.2.2.2.1==0&&(R1&&(R2&&(R3&&(R4&&R5)))))))):=λx=>by
   have q1:∀k:Nat,∀l:Nat,decide (Int.ofNat l<=(k:Int))=decide (l<=k):=λk l=>by grind
   have q2:∀l:Nat,decide (Int.ofNat l<=0)=(l==0):=λl=>by grind
   have r1:∀b:Bool,Zd3 b 4000=some (bif b then 4000 else 0,()):=λb=>by grind[Ztu]
   have r2:Zd3 d 60=some (bif d then 60 else 0,()):=by grind[Ztu]
   simp only[Z0f,r1,r2,J0k,c4];have z:∀(y:Bool) (l k:Nat),decide (Int.ofNat l<=bif y then(k:Int)else 0)=bif y then decide (l<=k)else l==0:=λy l k=>by grind
   have z4:=λy l=>z y l 4000;have z6:=λy l=>z y l 60;simp only[Int.cast_ofNat_Int]at z4 z6;simp only[z4,z6];grind
  rw[Z0e];simp only[c3];have sto:(stoE t.2.2.2.2.2.1==0)=true->decide (t.2.2.2.2.2.1.length<=4000)=true:=λh=>by grind[stoE]
  generalize (bif d then decide (t.2.2.2.2.2.2.1.length<=60)else t.2.2.2.2.2.2.1.length==0)=Y5;generalize (bif e then decide (t.2.2.2.2.2.2.2.1.length<=4000)else t.2.2.2.2.2.2.2.1.length==0)=Y6;generalize (bif f then decide (t.2.2.2.2.2.2.2.2.1.length<=4000)else t.2.2.2.2.2.2.2.2.1.length==0)=Y7;generalize decide (t.2.2.2.1.length<=4000)=Y1;generalize decide (a<=(t.2.2.2.2.1.length:Int))=Y2;generalize decide ((t.2.2.2.2.1.length:Int)<=b)=Y3;generalize (t.2.2.2.2.2.1.length==0)=Z;generalize t.2.2.2.1.all sndB=S1;revert sto;generalize (stoE t.2.2.2.2.2.1==0)=S2;generalize decide (t.2.2.2.2.2.1.length<=4000)=Y4;intro sto;have g1:decide (t.2.2.1>=0)=decide (0<=t.2.2.1):=rfl;have g2:decide (t.2.1>=0)=decide (0<=t.2.1):=rfl;rw[g1,g2];generalize decide (0<=t.2.2.1)=G1;generalize decide (0<=t.2.1)=G2;generalize decide (t.2.2.1<20)=G3;generalize decide (t.2.1<4)=G4;unfold res8;grind
theorem Zx2(r:Rec3):Zcl r=some (Yy r.2.1,()):=by grind[Z0y,Yy]
theorem Z5v(t:Int):Zgo t=some (Zfi t,()):=by grind[Z5p,Zfi,Yy]
theorem Ym7(x:Row5):Znx x=some (rowB x,()):=by grind[Z89,rowB]
theorem Z9d(m:Msg):Zhk m=some (msgB m,()):=by obtain⟨n,hn⟩:=Zat;rw[Z0z,hn];grind[Zxy,Zx2,Z5v,Ym7,msgB,Zw6,Zw7]
theorem Ym8(q:Que)(h:q.2.1.length<=1000000000):Zma q=some (bif queB q then 0 else 8,()):=by
 rw[Z00];have hf:=Zr;have:=Zcy (f:=λn i=>Zc9 n q.2.1 i) (l:=q.2.1) (p:=msgB) (bad:=some (8,())) (fin:=some (0,())) (N:=0)
  (λn i e he=>by grind[Zmb,ix_s,Z9d,wS])
  (λn _=>by grind[Zmb]) fuel (by omega)
 grind[queB]
theorem Ym9(a:Acc):Xt a=some (bif accB a then 0 else 8,()):=by grind[Zat,Z01,Zxz,accB]
theorem Ysf(x y:Ent):Zjd x y=some (Z8s x y,()):=by grind[Z5r,Z8s]
theorem Yna(l:List Ent)(h:l.length<=1000000000):Zmc l=some (stoE l,()):=by
 rw[Z02];unfold stoE;by_cases hb:4000<l.length;grind;rw[show decide (Int.ofNat l.length>4000)=false from decide_eq_false (by simp;omega),decide_eq_false hb,cond_false,cond_false];have hf:=Zr;exact Z47 (f:=λn i=>X7 n l i) (l:=l)
  (λn i e he=>by
   have hi:=(J0d.1 he).1;have key:∀k:Option (Int×Unit),X7 (n+1) l (i:Int)=bif entB e then(bif decide ((i:Int)>0)then ix l (Go.IntKind.wrap .i64 ((i:Int)-1)) λe3=>(Zjd e3 e).bind λe4=>bif !e4.1 then some (8,())else X7 n l ((i+1:Nat):Int)else X7 n l ((i+1:Nat):Int))else some (8,()):=λk=>by have e1:Xt (e.2.2.2.1,e.2.2.2.2.1,e.2.2.2.2.2.1,e.2.2.2.2.2.2.1,())=some (bif accB (acc1 e)then 0 else 8,()):=Ym9 (acc1 e);have e2:Xt e.2.2.2.2.2.2.2=some (bif accB (acc2 e)then 0 else 8,()):=Ym9 (acc2 e);simp only[Zmd,ltL he,ix_s he,e1,e2,J0k,wS (show i<1000000000000 by omega),cond_true];grind[entB,acc1,acc2]
   rw[key none];cases entB e with|false=>rfl|true => cases i with|zero=>rfl|succ j=>grind[w64,ix_s,Ysf,Z8u,okP])
  (λn=>by grind[Zmd]) l 0 fuel rfl (by omega) (by omega)
theorem Ynb(t:Int):Zme t=some (Zch t,()):=by grind[Z03,Z5v,Zch]
theorem Ync(e:Evt):Zmf e=some (bif evtB e then 0 else 8,()):=by grind[Z04,Z5v,Zx2,evtB]
theorem Ynd(l:List Snd)(h:l.length<=1000000000):Zmk l=some (l.all sndB,()):=by
 rw[Z06];have hf:=Zr;have:=Zcy (f:=λn i=>Zda n l i) (l:=l) (p:=sndB) (bad:=some (false,())) (fin:=some (true,())) (N:=0)
  (λn i e he=>by grind[Zml,ix_s,Z9d,wS,sndB])
  (λn _=>by grind[Zml]) fuel (by omega)
 grind
section
variable (marks:List (Int×Unit)) (evs:List Evt) (rows:List Row5) (late:List Rec3)
theorem l30(h:late.length<=1000000000)(n:Nat)(hn:late.length+1<=n):Zaq n late 0=some (late.all λr=>Yy r.2.1,()):=by
 have:=Zcy (f:=λn i=>Zaq n late i) (l:=late) (p:=λr=>Yy r.2.1) (bad:=some (false,())) (fin:=some (true,())) (N:=0)
  (λn i e he=>by grind[Zkc,ix_s,Zx2,wS])
  (λn _=>by grind[Zkc]) n (by omega)
 grind
theorem l21(h:late.length<=1000000000)(h2:rows.length<=1000000000)(n:Nat)(hn:late.length+rows.length+3<=n):Zap n rows late 0=some (rows.all rowB&&late.all λr=>Yy r.2.1,()):=by
 have:=Zcy (f:=λn i=>Zap n rows late i) (l:=rows) (p:=rowB) (bad:=some (false,())) (fin:=some (late.all λr=>Yy r.2.1,())) (N:=late.length+2)
  (λn i e he=>by grind[Zkb,ix_s,Ym7,wS])
  (λn hn=>by obtain⟨m,rfl⟩:∃m,n=m+1:=⟨n-1,by omega⟩;grind[Zkb,Zui,l30]) n (by omega)
 grind
theorem l12(h:late.length<=1000000000)(h2:rows.length<=1000000000)(h3:evs.length<=1000000000)(n:Nat)(hn:late.length+rows.length+evs.length+5<=n):Zao n evs rows late 0=some (evs.all evtB&&(rows.all rowB&&late.all λr=>Yy r.2.1),()):=by
 have:=Zcy (f:=λn i=>Zao n evs rows late i) (l:=evs) (p:=evtB) (bad:=some (false,())) (fin:=some (rows.all rowB&&late.all λr=>Yy r.2.1,())) (N:=late.length+rows.length+4)
  (λn i e he=>by grind[Zka,ix_s,Ync,wS])
  (λn hn=>by obtain⟨m,rfl⟩:∃m,n=m+1:=⟨n-1,by omega⟩;grind[Zka,Zuh,l21]) n (by omega)
 grind
theorem l3(h:late.length<=1000000000)(h2:rows.length<=1000000000)(h3:evs.length<=1000000000)(h4:marks.length<=1000000000)(n:Nat)(hn:late.length+rows.length+evs.length+marks.length+7<=n):Za6 n marks evs rows late 0=some ((marks.all λx=>Zch x.1)&&(evs.all evtB&&(rows.all rowB&&late.all λr=>Yy r.2.1)),()):=by
 have:=Zcy (f:=λn i=>Za6 n marks evs rows late i) (l:=marks) (p:=λx=>Zch x.1) (bad:=some (false,())) (fin:=some (evs.all evtB&&(rows.all rowB&&late.all λr=>Yy r.2.1),())) (N:=late.length+rows.length+evs.length+6)
  (λn i e he=>by grind[Zmj,ix_s,Ynb,wS])
  (λn hn=>by obtain⟨m,rfl⟩:∃m,n=m+1:=⟨n-1,by omega⟩;grind[Zmj,Zx0,l12]) n (by omega)
 grind
end
theorem Ysg(t:Tsk):Zpn t=some (Zic t,()):=by
 obtain⟨m,hn⟩:=Zat;rw[Z5s,hn];simp only[Z07,tmax,tmin];unfold Zic;generalize t.2.2.2.2.1.length=n;generalize t.2.2.2.2.2.1.length=s;generalize t.2.2.2.2.2.2.1.length=e;generalize t.2.2.2.2.2.2.2.1.length=r;generalize t.2.2.2.2.2.2.2.2.1.length=l;have z0:∀l:Nat,decide (Int.ofNat l<=0)=(l==0):=λl=>by grind
 grind[decide]
theorem Ysh(t:Tsk)(h1:t.2.2.2.1.length<=1000000000)(h2:t.2.2.2.2.1.length<=1000000000)(h3:t.2.2.2.2.2.1.length<=1000000000)(h4:t.2.2.2.2.2.2.1.length<=1000000000)(h5:t.2.2.2.2.2.2.2.1.length<=1000000000)(h6:t.2.2.2.2.2.2.2.2.1.length<=1000000000) :
    Zhl t=some (bif Zy t then 0 else 8,()):=by
  have hf:8000000000<=fuel:=by rw[fuel,Za2];decide
  have hl:Zmh t=some ((t.2.2.2.2.1.all λx=>Zch x.1)&&(t.2.2.2.2.2.2.1.all evtB&&(t.2.2.2.2.2.2.2.1.all rowB&&t.2.2.2.2.2.2.2.2.1.all λr=>Yy r.2.1)),()):=by grind[Z05,l3]
  have h13:=Zcy (f:=λn i=>Zb4 n t.1 t.2.2.2.2.2.1 i) (l:=t.2.2.2.2.2.1) (p:=λx=>t.1 != 4||(acc2 x).1==0) (bad:=some (8,())) (fin:=some (0,())) (N:=0)
   (λn i e he=>by have hi:=(J0d.1 he).1;simp only[Zkd,ltL he,ix_s he,J0k,wS (show i<1000000000000 by omega),acc2];grind)
   (λn _=>by grind[Zkd]) fuel (by omega)
  rw[Z08];simp only[Ysg,Ynd _ h1,hl,Yna _ h3,h13,J0k];unfold Zy;have y1:decide (Int.ofNat t.2.2.2.1.length>4000) = !decide (t.2.2.2.1.length<=4000):=by grind
  have y2:decide (t.2.2.1<0) = !decide (0<=t.2.2.1):=by grind
  have y3:decide (t.2.2.1>=20) = !decide (t.2.2.1<20):=by grind
  have y4:decide (t.2.1<0) = !decide (0<=t.2.1):=by grind
  have y5:decide (t.2.1>=4) = !decide (t.2.1<4):=by grind
  rw[y1,y2,y3,y4,y5];generalize decide (t.2.2.2.1.length<=4000)=A1;generalize decide (0<=t.2.2.1)=A2;generalize decide (t.2.2.1<20)=A3;generalize decide (0<=t.2.1)=A4;generalize decide (t.2.1<4)=A5;generalize Zic t=A6;generalize t.2.2.2.1.all sndB=A7;generalize (t.2.2.2.2.1.all λx=>Zch x.1)=A8;generalize t.2.2.2.2.2.2.1.all evtB=A9;generalize t.2.2.2.2.2.2.2.1.all rowB=A10;generalize (t.2.2.2.2.2.2.2.2.1.all λr=>Yy r.2.1)=A11;generalize (t.2.2.2.2.2.1.all λx=>t.1 != 4||(acc2 x).1==0)=A12;have e:(stoE t.2.2.2.2.2.1 != 0) = !(stoE t.2.2.2.2.2.1==0):=rfl;rw[e];generalize (stoE t.2.2.2.2.2.1==0)=A13;cases A1<;>cases A2<;>cases A3<;>cases A4<;>cases A5<;>simp;grind
end Tg
