import Derived.Test.YtfnhchmemplhaaaGreatBVb3
import Derived.Test.YtfnhchmemplhaaaGreatBVb5
/- The program's checks of messages, queues, stores and tasks are the plain ones. -/
set_option linter.unusedVariables false
set_option linter.unusedSimpArgs false
namespace Tg
open Go.Abs (Zg Zz tmm)
theorem Yld:∃ n,fuel=n+3:=by
 obtain⟨n,h⟩:=Zau
 exact⟨n+999999999997,by omega⟩
theorem Zt7 (t:Int):Za8 t=some (Xy t,()):=by
 rw [Zpu]
 grind [Xy]
theorem Z14 (t:Int):Zcw t=some (Zmp t,()):=by
 rw [Zpv,Zt7]
 grind [Zmp]
theorem Zlb (m:Msg):Qs m=some (bif msgB m then 0 else 8,()):=by
 obtain⟨n,hn⟩:=Yld
 rw [Zrb,hn]
 simp only [Zpx,Zpw,Zt7,Z14,Option.bind_some]
 grind [msgB,rowB,Zx1,noRow]
theorem Ybq (q:Que)(h:q.2.1.length≤1000000000):Zg0 q=some (bif queB q then 0 else 8,()):=by
 rw [Zrc]
 have hf:=Ya
 have:=loopA (f:=fun n i=>Zbk n q.2.1 (Int.ofNat q.2.1.length) i) (l:=q.2.1) (p:=msgB) (bad:=some (8,())) (fin:=some (0,())) (N:=0)
  (fun n i e he=>by
   have hi:=(List.getElem?_eq_some_iff.1 he).1
   simp only [Zhd,ltL he,ix_s he,Zlb,Option.bind_some,wS (show i<1000000000000 by omega)]
   cases msgB e <;> rfl)
  (fun n _=>by simp only [Zhd,geL,cond_false]) fuel (by omega)
 rw [this]
 grind [queB]
theorem Ye1 (e:Evt):Zg1 e=some (bif evtB e then 0 else 8,()):=by
 rw [Zrd,Zzs]
 simp only [Zt7,Z14,Option.bind_some]
 grind [evtB]
theorem Ye2 (l:List Snd)(h:l.length≤1000000000):Znp l=some (l.all sndB,()):=by
 rw [Zzt]
 have hf:=Ya
 have:=loopA (f:=fun n i=>Zd2 n l (Int.ofNat l.length) i) (l:=l) (p:=sndB) (bad:=some (false,())) (fin:=some (true,())) (N:=0)
  (fun n i e he=>by
   have hi:=(List.getElem?_eq_some_iff.1 he).1
   simp only [Zmv,ltL he,ix_s he,Zlb,Option.bind_some,wS (show i<1000000000000 by omega)]
   grind [sndB])
  (fun n _=>by simp only [Zmv,geL,cond_false]) fuel (by omega)
 rw [this]
 cases l.all sndB <;> rfl
theorem Ye3 (t:Int):Zkb t=some (Zct t,()):=by
 rw [Zvq]
 have:msgB (2,0,0,0,t,0,0,0,0,0,())=Zmp t:=by simp [msgB,Zx1,noRow]
 simp only [Zlb,Option.bind_some,this]
 unfold Zct
 cases t == -9223372036854775808 <;> cases Zmp t <;> rfl
theorem Ybr (a:Acc):Ze0 a=some (bif accB a then 0 else 8,()):=by
 rw [Ztr]
 grind [accB]
theorem Ybs {a:Acc}(h:accB a=true):0≤a.1∧a.1≤1073741824:=by
 grind [accB]
theorem Ye4 (x:Ent):Zkc x=some (entB x,()):=by
 rw [Zvr]
 simp only [Ybr,Option.bind_some]
 cases h1:accB (acc1 x)
 · grind [entB,acc1,acc2]
 cases h2:accB (acc2 x)
 · grind [entB,acc1,acc2]
 have b1:=Ybs h1
 have b2:=Ybs h2
 have e1:accB (x.2.2.2.1,x.2.2.2.2.1,x.2.2.2.2.2.1,x.2.2.2.2.2.2.1,())=true:=h1
 have e2:accB x.2.2.2.2.2.2.2=true:=h2
 simp only [acc1,acc2] at b1 b2
 rw [e1,e2,w64 (by omega) (by omega)]
 have:decide (x.2.2.2.1+x.2.2.2.2.2.2.2.1>0) = !(x.2.2.2.1==0&&x.2.2.2.2.2.2.2.1==0):=by
  rw [Bool.eq_iff_iff]
  simp
  omega
 rw [this]
 unfold entB
 rw [h1,h2]
 simp only [acc1,acc2]
 grind
theorem Yle (a b:Int):Xz a b=some (bif decide (a<b) then -1 else bif decide (b<a) then 1 else 0,()):=by
 rw [Zkd]
 simp only [Znq,Option.bind_some]
 grind
theorem or_w (a b c:Int):Zke [(a,()),(b,()),(c,())]=some (bif a != 0 then a else bif b != 0 then b else c,()):=by
 obtain⟨n,hn⟩:=Zau
 rw [Zvs,hn]
 have e:∀ m,Zcx (m+4) 0 [(a,()),(b,()),(c,())] 3 0=some (bif a != 0 then a else bif b != 0 then b else c,()):=fun m=>by
  have w1:=wS (i:=0) (by omega)
  have w2:=wS (i:=1) (by omega)
  have w3:=wS (i:=2) (by omega)
  simp only [Int.natCast_zero,Int.zero_add,Nat.zero_add,Int.ofNat_one,Nat.reduceAdd] at w1 w2 w3
  simp only [Zts,ix]
  grind
 exact e (n+999999999996)
theorem Ye5 (x y:Ent):∃ k,Zkf x y=some (k,())∧decide (k≥0) = !Zti x y:=by
 rw [Zvt]
 simp only [Yle,or_w,Option.bind_some]
 refine⟨_,rfl,?_⟩
 grind [Zti]
theorem Ye6 (l:List Ent)(h:l.length≤1000000000):Zkg l=some (stoE l,()):=by
 rw [Zvu]
 unfold stoE
 by_cases hb:4000<l.length
 · rw [show decide (Int.ofNat l.length>4000)=true from decide_eq_true (by simp;omega),decide_eq_true hb]
   rfl
 rw [show decide (Int.ofNat l.length>4000)=false from decide_eq_false (by simp;omega),decide_eq_false hb,cond_false,cond_false]
 have hf:=Ya
 exact Zzl (f:=fun n i=>Zcy n l l (Int.ofNat l.length) i) (l:=l)
  (fun n i e he=>by
   have hi:=(List.getElem?_eq_some_iff.1 he).1
   simp only [Zkh,ltL he,ix_s he,Ye4,Option.bind_some,wS (show i<1000000000000 by omega),cond_true]
   cases entB e with
   | false=>rfl
   | true =>
    cases i with
    | zero=>rfl
    | succ j =>
     obtain⟨d,hd⟩:∃ d,l[j]? = some d:=⟨_,List.getElem?_eq_getElem (by omega)⟩
     obtain⟨k,hk,hk2⟩:=Ye5 d e
     have e1:Go.IntKind.wrap .i64 (((j+1:Nat):Int) - 1)=(j:Int):=by rw [w64 (by omega) (by omega)];omega
     have e2:decide (((j+1:Nat):Int)>0)=true:=decide_eq_true (by omega)
     simp only [e1,e2,ix_s hd,hk,Option.bind_some,hk2,Zx2,hd,okP]
     cases Zti d e <;> rfl)
  (fun n=>by simp only [Zkh,geL,cond_false]) l 0 fuel rfl (by omega) (by omega)
end Tg

/- The program's check of a task is the plain one. -/
namespace Tg
open Go.Abs (Zg Zz tmm)
theorem Z64 {α:Type}(p:α→Bool):∀ (l:List α) (s:Bool),l.foldl (fun s e=>s&&p e) s=(s&&l.all p)
 | [],s=>by simp
 | e::l,s=>by rw [List.foldl_cons,Z64 p l,List.all_cons,Bool.and_assoc]
theorem Z15 {α β:Type}{f:Nat→Bool→Int→Option β}{l:List α}{p:α→Bool}{fin:Bool→Option β}{N:Nat}
    (hs:∀ n s (i:Nat) e,l[i]? = some e→f (n+1) s (i:Int)=f n (s&&p e) ((i+1:Nat):Int))
    (he:∀ n s,N≤n→f (n+1) s (l.length:Int)=fin s) (n:Nat) (s:Bool) (hn:N+l.length+1≤n):f n s 0=fin (s&&l.all p):=by
  have:=Zx0 (f:=f) (l:=l) (g:=fun s e=>s&&p e) (fin:=fin) (N:=N) (fun _ _=>True) (fun n s i e h _=>⟨hs n s i e h,trivial⟩) (fun n s h _=>he n s h) n s trivial hn
  rw [this,Z64]
section
variable (k:Int) (marks:List (Int×Unit)) (store:List Ent) (evs:List Evt) (rows:List Row5) (late:List Rec3)
def res8 (b:Bool):Option (Int×Unit):=some (bif b then 0 else 8,())
theorem t45 (h:store.length≤1000000000)(n:Nat)(ok:Bool)(hn:store.length+3≤n):X3 n k ok store (Int.ofNat store.length) 0=res8 (ok&&store.all fun x=>k != 4||(acc2 x).1==0) :=
 Z15 (f:=fun n s i=>X3 n k s store (Int.ofNat store.length) i) (l:=store) (N:=1)
  (fun n s i e he=>by
   have hi:=(List.getElem?_eq_some_iff.1 he).1
   simp only [Zkn,ltL he,ix_s he,wS (show i<1000000000000 by omega),cond_true,acc2]
   cases s <;> cases h1:(k != 4) <;> simp)
  (fun n s h=>by
   obtain⟨m,rfl⟩:∃ m,n=m+1:=⟨n - 1,by omega⟩
   simp only [Zkn,geL,cond_false,Ztt,res8]
   cases s <;> rfl) n ok (by omega)
theorem t37 (h:store.length≤1000000000)(h2:late.length≤1000000000)(n:Nat)(ok:Bool)(hn:store.length+late.length+5≤n) :
    Q8 n k store ok late (Int.ofNat late.length) 0=res8 ((ok&&late.all fun r=>Xy r.2.1)&&store.all fun x=>k != 4||(acc2 x).1==0) :=
  Z15 (f:=fun n s i=>Q8 n k store s late (Int.ofNat late.length) i) (l:=late) (N:=store.length+3) (fin:=fun ok=>res8 (ok&&store.all fun x=>k != 4||(acc2 x).1==0))
   (fun n s i e he=>by
    have hi:=(List.getElem?_eq_some_iff.1 he).1
    have em:msgB (4,e.1,e.2.1,e.2.2.1,0,0,0,0,0,0,())=Xy e.2.1:=by simp [msgB,noRow]
    simp only [Zkm,ltL he,ix_s he,wS (show i<1000000000000 by omega),cond_true,Zlb,Option.bind_some,em]
    cases s <;> cases Xy e.2.1 <;> rfl)
   (fun n s hn=>by simp only [Zkm,geL,cond_false];exact t45 k store h n s hn) n ok (by omega)
theorem t29 (h:store.length≤1000000000)(h2:late.length≤1000000000)(h3:rows.length≤1000000000)(n:Nat)(ok:Bool)(hn:store.length+late.length+rows.length+7≤n) :
    Q7 n k store late ok rows (Int.ofNat rows.length) 0=res8 (((ok&&rows.all rowB)&&late.all fun r=>Xy r.2.1)&&store.all fun x=>k != 4||(acc2 x).1==0) :=
  Z15 (f:=fun n s i=>Q7 n k store late s rows (Int.ofNat rows.length) i) (l:=rows) (N:=store.length+late.length+5) (fin:=fun ok=>res8 ((ok&&late.all fun r=>Xy r.2.1)&&store.all fun x=>k != 4||(acc2 x).1==0))
   (fun n s i e he=>by
    have hi:=(List.getElem?_eq_some_iff.1 he).1
    have em:msgB (3,0,0,0,0,e)=rowB e:=by simp [msgB,Zx1]
    simp only [Zkl,ltL he,ix_s he,wS (show i<1000000000000 by omega),cond_true,Zlb,Option.bind_some,em]
    cases s <;> cases rowB e <;> rfl)
   (fun n s hn=>by simp only [Zkl,geL,cond_false];exact t37 k store late h h2 n s (by omega)) n ok (by omega)
theorem t21 (h:store.length≤1000000000)(h2:late.length≤1000000000)(h3:rows.length≤1000000000)(h4:evs.length≤1000000000)(n:Nat)(ok:Bool)(hn:store.length+late.length+rows.length+evs.length+9≤n) :
    Q5 n k store rows late ok evs (Int.ofNat evs.length) 0=res8 ((((ok&&evs.all evtB)&&rows.all rowB)&&late.all fun r=>Xy r.2.1)&&store.all fun x=>k != 4||(acc2 x).1==0) :=
  Z15 (f:=fun n s i=>Q5 n k store rows late s evs (Int.ofNat evs.length) i) (l:=evs) (N:=store.length+late.length+rows.length+7) (fin:=fun ok=>res8 (((ok&&rows.all rowB)&&late.all fun r=>Xy r.2.1)&&store.all fun x=>k != 4||(acc2 x).1==0))
   (fun n s i e he=>by
    have hi:=(List.getElem?_eq_some_iff.1 he).1
    simp only [Zkk,ltL he,ix_s he,wS (show i<1000000000000 by omega),cond_true,Ye1,Option.bind_some]
    cases s <;> cases evtB e <;> rfl)
   (fun n s hn=>by simp only [Zkk,geL,cond_false];exact t29 k store rows late h h2 h3 n s (by omega)) n ok (by omega)
theorem t13 (h:store.length≤1000000000)(h2:late.length≤1000000000)(h3:rows.length≤1000000000)(h4:evs.length≤1000000000)(h5:marks.length≤1000000000)(n:Nat)(ok:Bool)(hn:store.length+late.length+rows.length+evs.length+marks.length+11≤n) :
    Q4 n k store evs rows late ok marks (Int.ofNat marks.length) 0=res8 (((((ok&&marks.all fun x=>Zct x.1)&&evs.all evtB)&&rows.all rowB)&&late.all fun r=>Xy r.2.1)&&store.all fun x=>k != 4||(acc2 x).1==0) :=
  Z15 (f:=fun n s i=>Q4 n k store evs rows late s marks (Int.ofNat marks.length) i) (l:=marks) (N:=store.length+late.length+rows.length+evs.length+9) (fin:=fun ok=>res8 ((((ok&&evs.all evtB)&&rows.all rowB)&&late.all fun r=>Xy r.2.1)&&store.all fun x=>k != 4||(acc2 x).1==0))
   (fun n s i e he=>by
    have hi:=(List.getElem?_eq_some_iff.1 he).1
    simp only [Zkj,ltL he,ix_s he,wS (show i<1000000000000 by omega),cond_true,Ye3,Option.bind_some]
    cases s <;> cases Zct e.1 <;> rfl)
   (fun n s hn=>by simp only [Zkj,geL,cond_false];exact t21 k store evs rows late h h2 h3 h4 n s (by omega)) n ok (by omega)
end
theorem Ybt (t:Tsk):∃ a b c d e f,Zka t.1=some (a,b,c,d,e,f,())∧Ztj t=(decide (a≤(t.2.2.2.2.1.length:Int))&&(decide ((t.2.2.2.2.1.length:Int)≤b)&&((c||t.2.2.2.2.2.1.length==0)&&((bif d then decide (t.2.2.2.2.2.2.1.length≤60) else t.2.2.2.2.2.2.1.length==0)&&((bif e then decide (t.2.2.2.2.2.2.2.1.length≤4000) else t.2.2.2.2.2.2.2.1.length==0)&&(bif f then decide (t.2.2.2.2.2.2.2.2.1.length≤4000) else t.2.2.2.2.2.2.2.2.1.length==0)))))):=by
 rw [Zvp]
 unfold Ztj
 generalize t.2.2.2.2.1.length=n
 generalize t.2.2.2.2.2.1.length=s
 generalize t.2.2.2.2.2.2.1.length=e
 generalize t.2.2.2.2.2.2.2.1.length=r
 generalize t.2.2.2.2.2.2.2.2.1.length=l
 by_cases h1:t.1=1
 · simp only [h1]
   refine⟨_,_,_,_,_,_,rfl,?_⟩
   grind
 by_cases h2:t.1=2
 · simp only [h2]
   refine⟨_,_,_,_,_,_,rfl,?_⟩
   grind
 by_cases h3:t.1=3
 · simp only [h3]
   refine⟨_,_,_,_,_,_,rfl,?_⟩
   grind
 by_cases h4:t.1=4
 · simp only [h4]
   refine⟨_,_,_,_,_,_,rfl,?_⟩
   grind
 by_cases h5:t.1=5
 · simp only [h5]
   refine⟨_,_,_,_,_,_,rfl,?_⟩
   grind
 by_cases h6:t.1=6
 · simp only [h6]
   refine⟨_,_,_,_,_,_,rfl,?_⟩
   grind
 by_cases h7:t.1=7
 · simp only [h7]
   refine⟨_,_,_,_,_,_,rfl,?_⟩
   grind
 · simp only [h1,h2,h3,h4,h5,h6,h7,beq_iff_eq,beq_false_of_ne,ne_eq,not_false_eq_true,cond_false,Bool.false_and]
   refine⟨1,0,false,false,false,false,rfl,?_⟩
   grind
theorem Ybu (t:Tsk)(h1:t.2.2.2.1.length≤1000000000)(h2:t.2.2.2.2.1.length≤1000000000)(h3:t.2.2.2.2.2.1.length≤1000000000)(h4:t.2.2.2.2.2.2.1.length≤1000000000)(h5:t.2.2.2.2.2.2.2.1.length≤1000000000)(h6:t.2.2.2.2.2.2.2.2.1.length≤1000000000) :
    Zh5 t=some (bif Zig t then 0 else 8,()):=by
  have hf:8000000000≤fuel:=by rw [fuel,Zca];decide
  obtain⟨a,b,c,d,e,f,hl,hk⟩:=Ybt t
  rw [Zzu,hl]
  simp only [Option.bind_some]
  obtain⟨m,hm⟩:∃ m,fuel=m+5:=⟨fuel - 5,by omega⟩
  have loops:=t13 t.1 t.2.2.2.2.1 t.2.2.2.2.2.1 t.2.2.2.2.2.2.1 t.2.2.2.2.2.2.2.1 t.2.2.2.2.2.2.2.2.1 h3 h6 h5 h4 h2 m true (by omega)
  rw [hm]
  unfold Zig
  rw [hk]
  generalize hR:(t.2.2.2.2.1.all fun x=>Zct x.1)=R1 at loops ⊢
  generalize t.2.2.2.2.2.2.1.all evtB=R2 at loops ⊢
  generalize t.2.2.2.2.2.2.2.1.all rowB=R3 at loops ⊢
  generalize (t.2.2.2.2.2.2.2.2.1.all fun r=>Xy r.2.1)=R4 at loops ⊢
  generalize (t.2.2.2.2.2.1.all fun x=>t.1 != 4||(acc2 x).1==0)=R5 at loops ⊢
  have c6:∀ bad,Zd5 (m+2) t.1 t.2.2.2.2.1 t.2.2.2.2.2.1 t.2.2.2.2.2.2.1 t.2.2.2.2.2.2.2.1 t.2.2.2.2.2.2.2.2.1 bad=res8 (!bad&&(R1&&(R2&&(R3&&(R4&&R5))))):=fun bad=>by
   rw [Zvz,Zvy,loops]
   cases bad <;> simp [res8,Bool.and_assoc]
  have c4:∀ x y,Zd4 (m+3) t.1 t.2.2.2.1 t.2.2.2.2.1 t.2.2.2.2.2.1 t.2.2.2.2.2.2.1 t.2.2.2.2.2.2.2.1 t.2.2.2.2.2.2.2.2.1 x y=res8 (x&&(y&&(t.2.2.2.1.all sndB&&(stoE t.2.2.2.2.2.1==0&&(R1&&(R2&&(R3&&(R4&&R5)))))))):=fun x y=>by
   simp only [Zvx,Ye2 _ h1,Ye6 _ h3,Option.bind_some,c6]
   cases x <;> cases y <;> cases t.2.2.2.1.all sndB <;> simp [res8,bne]
  have c3:∀ x,Zd3 (m+4) t.1 t.2.2.2.1 t.2.2.2.2.1 t.2.2.2.2.2.1 t.2.2.2.2.2.2.1 t.2.2.2.2.2.2.2.1 t.2.2.2.2.2.2.2.2.1 a b c d e f x=res8 (x&&((decide (t.2.2.2.1.length≤4000)&&(decide (a≤(t.2.2.2.2.1.length:Int))&&(decide ((t.2.2.2.2.1.length:Int)≤b)&&((bif c then decide (t.2.2.2.2.2.1.length≤4000) else t.2.2.2.2.2.1.length==0)&&((bif d then decide (t.2.2.2.2.2.2.1.length≤60) else t.2.2.2.2.2.2.1.length==0)&&((bif e then decide (t.2.2.2.2.2.2.2.1.length≤4000) else t.2.2.2.2.2.2.2.1.length==0)&&(bif f then decide (t.2.2.2.2.2.2.2.2.1.length≤4000) else t.2.2.2.2.2.2.2.2.1.length==0)))))))&&(t.2.2.2.1.all sndB&&(stoE t.2.2.2.2.2.1==0&&(R1&&(R2&&(R3&&(R4&&R5)))))))):=fun x=>by
   have q1:∀ k:Nat,∀ l:Nat,decide (Int.ofNat l≤(k:Int))=decide (l≤k):=fun k l=>by rw [Bool.eq_iff_iff];simp
   have q2:∀ l:Nat,decide (Int.ofNat l≤0)=(l==0):=fun l=>by rw [Bool.eq_iff_iff];simp
   have r1:∀ b:Bool,Zdt b 4000=some (bif b then 4000 else 0,()):=fun b=>by rw [Zqz];cases b <;> rfl
   have r2:Zdt d 60=some (bif d then 60 else 0,()):=by rw [Zqz];cases d <;> rfl
   simp only [Zvw,r1,r2,Option.bind_some,c4]
   have z:∀ (y:Bool) (l k:Nat),decide (Int.ofNat l≤bif y then (k:Int) else 0)=bif y then decide (l≤k) else l==0:=fun y l k=>by cases y;exact q2 l;exact q1 k l
   have z4:=fun y l=>z y l 4000
   have z6:=fun y l=>z y l 60
   simp only [Int.cast_ofNat_Int] at z4 z6
   simp only [z4,z6]
   have y1:decide (Int.ofNat t.2.2.2.1.length≤4000)=decide (t.2.2.2.1.length≤4000):=q1 4000 _
   have y2:decide (Int.ofNat t.2.2.2.2.1.length≥a)=decide (a≤(t.2.2.2.2.1.length:Int)):=rfl
   have y3:decide (Int.ofNat t.2.2.2.2.1.length≤b)=decide ((t.2.2.2.2.1.length:Int)≤b):=rfl
   rw [y1,y2,y3]
   generalize decide (t.2.2.2.1.length≤4000)=Y1
   generalize decide (a≤(t.2.2.2.2.1.length:Int))=Y2
   generalize decide ((t.2.2.2.2.1.length:Int)≤b)=Y3
   generalize (bif c then decide (t.2.2.2.2.2.1.length≤4000) else t.2.2.2.2.2.1.length==0)=Y4
   generalize (bif d then decide (t.2.2.2.2.2.2.1.length≤60) else t.2.2.2.2.2.2.1.length==0)=Y5
   generalize (bif e then decide (t.2.2.2.2.2.2.2.1.length≤4000) else t.2.2.2.2.2.2.2.1.length==0)=Y6
   generalize (bif f then decide (t.2.2.2.2.2.2.2.2.1.length≤4000) else t.2.2.2.2.2.2.2.2.1.length==0)=Y7
   cases x <;> cases Y1 <;> cases Y2 <;> cases Y3 <;> cases Y4 <;> cases Y5 <;> cases Y6 <;> simp
  rw [Zvv]
  simp only [c3]
  have sto:(stoE t.2.2.2.2.2.1==0)=true→decide (t.2.2.2.2.2.1.length≤4000)=true:=fun h=>by
   unfold stoE at h
   by_cases hb:4000<t.2.2.2.2.2.1.length
   · rw [decide_eq_true hb] at h
     cases h
   · exact decide_eq_true (by omega)
  generalize (bif d then decide (t.2.2.2.2.2.2.1.length≤60) else t.2.2.2.2.2.2.1.length==0)=Y5
  generalize (bif e then decide (t.2.2.2.2.2.2.2.1.length≤4000) else t.2.2.2.2.2.2.2.1.length==0)=Y6
  generalize (bif f then decide (t.2.2.2.2.2.2.2.2.1.length≤4000) else t.2.2.2.2.2.2.2.2.1.length==0)=Y7
  generalize decide (t.2.2.2.1.length≤4000)=Y1
  generalize decide (a≤(t.2.2.2.2.1.length:Int))=Y2
  generalize decide ((t.2.2.2.2.1.length:Int)≤b)=Y3
  generalize (t.2.2.2.2.2.1.length==0)=Z
  generalize t.2.2.2.1.all sndB=S1
  revert sto
  generalize (stoE t.2.2.2.2.2.1==0)=S2
  generalize decide (t.2.2.2.2.2.1.length≤4000)=Y4
  intro sto
  have g1:decide (t.2.2.1≥0)=decide (0≤t.2.2.1):=rfl
  have g2:decide (t.2.1≥0)=decide (0≤t.2.1):=rfl
  rw [g1,g2]
  generalize decide (0≤t.2.2.1)=G1
  generalize decide (0≤t.2.1)=G2
  generalize decide (t.2.2.1<20)=G3
  generalize decide (t.2.1<4)=G4
  unfold res8
  cases G1 <;> cases G2 <;> cases G3 <;> cases G4 <;> simp
  cases Y1 <;> simp
  cases Y2 <;> simp
  cases Y3 <;> simp
  cases S2
  · simp
  · rw [sto rfl]
    cases c <;> simp
end Tg

/- The reference's checks of messages, queues, stores and tasks are the plain ones. -/
namespace Tg
open Go.Abs (Zg Zz tmm)
theorem Zt8 (r:Rec3):Zcc r=some (Xy r.2.1,()):=by
 rw [Zwc]
 grind [Xy]
theorem Zz6 (t:Int):Zfv t=some (Zmp t,()):=by
 rw [Zz2]
 grind [Zmp,Xy]
theorem Ybv (x:Row5):Zl1 x=some (rowB x,()):=by
 rw [Z13]
 grind [rowB]
theorem Z16 (m:Msg):Zgj m=some (msgB m,()):=by
 obtain⟨n,hn⟩:=Zau
 rw [Zwd,hn]
 simp only [Zt4,Zt8,Zz6,Ybv,Option.bind_some]
 grind [msgB,Zx1,noRow]
theorem Ybw (q:Que)(h:q.2.1.length≤1000000000):Zkz q=some (bif queB q then 0 else 8,()):=by
 rw [Zwe]
 have hf:=Ya
 have:=loopA (f:=fun n i=>Zc3 n q.2.1 i) (l:=q.2.1) (p:=msgB) (bad:=some (8,())) (fin:=some (0,())) (N:=0)
  (fun n i e he=>by
   have hi:=(List.getElem?_eq_some_iff.1 he).1
   simp only [Zk0,ltL he,ix_s he,Z16,Option.bind_some,wS (show i<1000000000000 by omega)]
   cases msgB e <;> rfl)
  (fun n _=>by simp only [Zk0,geL,cond_false]) fuel (by omega)
 rw [this]
 grind [queB]
theorem Ybx (a:Acc):Xl a=some (bif accB a then 0 else 8,()):=by
 obtain⟨n,hn⟩:=Zau
 rw [Zwf,hn]
 simp only [Zt5]
 grind [accB]
theorem Ye7 (x y:Ent):Zfy x y=some (Zti x y,()):=by
 rw [Zz4]
 grind [Zti]
theorem Yby (l:List Ent)(h:l.length≤1000000000):Zk1 l=some (stoE l,()):=by
 rw [Zwg]
 unfold stoE
 by_cases hb:4000<l.length
 · rw [show decide (Int.ofNat l.length>4000)=true from decide_eq_true (by simp;omega),decide_eq_true hb]
   rfl
 rw [show decide (Int.ofNat l.length>4000)=false from decide_eq_false (by simp;omega),decide_eq_false hb,cond_false,cond_false]
 have hf:=Ya
 exact Zzl (f:=fun n i=>Ye n l i) (l:=l)
  (fun n i e he=>by
   have hi:=(List.getElem?_eq_some_iff.1 he).1
   have key:∀ k:Option (Int×Unit),Ye (n+1) l (i:Int)=bif entB e then (bif decide ((i:Int)>0) then ix l (Go.IntKind.wrap .i64 ((i:Int) - 1)) fun e3=>(Zfy e3 e).bind fun e4=>bif !e4.1 then some (8,()) else Ye n l ((i+1:Nat):Int) else Ye n l ((i+1:Nat):Int)) else some (8,()):=fun k=>by
    have e1:Xl (e.2.2.2.1,e.2.2.2.2.1,e.2.2.2.2.2.1,e.2.2.2.2.2.2.1,())=some (bif accB (acc1 e) then 0 else 8,()):=Ybx (acc1 e)
    have e2:Xl e.2.2.2.2.2.2.2=some (bif accB (acc2 e) then 0 else 8,()):=Ybx (acc2 e)
    simp only [Zk2,ltL he,ix_s he,e1,e2,Option.bind_some,wS (show i<1000000000000 by omega),cond_true]
    generalize (bif decide ((i:Int)>0) then ix l (Go.IntKind.wrap .i64 ((i:Int) - 1)) fun e3=>(Zfy e3 e).bind fun e4=>bif !e4.1 then some (8,()) else Ye n l ((i+1:Nat):Int) else Ye n l ((i+1:Nat):Int))=Z
    grind [entB,acc1,acc2]
   rw [key none]
   cases entB e with
   | false=>rfl
   | true =>
    cases i with
    | zero=>rfl
    | succ j =>
     obtain⟨d,hd⟩:∃ d,l[j]? = some d:=⟨_,List.getElem?_eq_getElem (by omega)⟩
     have e1:Go.IntKind.wrap .i64 (((j+1:Nat):Int) - 1)=(j:Int):=by rw [w64 (by omega) (by omega)];omega
     have e2:decide (((j+1:Nat):Int)>0)=true:=decide_eq_true (by omega)
     simp only [e1,e2,ix_s hd,Ye7,Option.bind_some,Zx2,hd,okP]
     cases Zti d e <;> rfl)
  (fun n=>by simp only [Zk2,geL,cond_false]) l 0 fuel rfl (by omega) (by omega)
theorem Ybz (t:Int):Zk3 t=some (Zct t,()):=by
 rw [Zwh]
 simp only [Zz6,Option.bind_some]
 unfold Zct
 cases t == -9223372036854775808 <;> cases Zmp t <;> rfl
theorem Yb0 (e:Evt):Zk4 e=some (bif evtB e then 0 else 8,()):=by
 rw [Zwi]
 simp only [Zz6,Zt8,Option.bind_some]
 grind [evtB]
theorem Yb1 (l:List Snd)(h:l.length≤1000000000):Zk9 l=some (l.all sndB,()):=by
 rw [Zwk]
 have hf:=Ya
 have:=loopA (f:=fun n i=>Zc4 n l i) (l:=l) (p:=sndB) (bad:=some (false,())) (fin:=some (true,())) (N:=0)
  (fun n i e he=>by
   have hi:=(List.getElem?_eq_some_iff.1 he).1
   simp only [Zla,ltL he,ix_s he,Z16,Option.bind_some,wS (show i<1000000000000 by omega)]
   grind [sndB])
  (fun n _=>by simp only [Zla,geL,cond_false]) fuel (by omega)
 rw [this]
 cases l.all sndB <;> rfl
end Tg

/- The reference's check of a task is the plain one. -/
namespace Tg
open Go.Abs (Zg Zz tmm)
section
variable (marks:List (Int×Unit)) (evs:List Evt) (rows:List Row5) (late:List Rec3)
theorem l30 (h:late.length≤1000000000)(n:Nat)(hn:late.length+1≤n):Zao n late 0=some (late.all fun r=>Xy r.2.1,()):=by
 have:=loopA (f:=fun n i=>Zao n late i) (l:=late) (p:=fun r=>Xy r.2.1) (bad:=some (false,())) (fin:=some (true,())) (N:=0)
  (fun n i e he=>by
   have hi:=(List.getElem?_eq_some_iff.1 he).1
   simp only [Zir,ltL he,ix_s he,Zt8,Option.bind_some,wS (show i<1000000000000 by omega)]
   cases Xy e.2.1 <;> rfl)
  (fun n _=>by simp only [Zir,geL,cond_false]) n (by omega)
 rw [this]
 cases late.all fun r=>Xy r.2.1 <;> rfl
theorem l21 (h:late.length≤1000000000)(h2:rows.length≤1000000000)(n:Nat)(hn:late.length+rows.length+3≤n):Zan n rows late 0=some (rows.all rowB&&late.all fun r=>Xy r.2.1,()):=by
 have:=loopA (f:=fun n i=>Zan n rows late i) (l:=rows) (p:=rowB) (bad:=some (false,())) (fin:=some (late.all fun r=>Xy r.2.1,())) (N:=late.length+2)
  (fun n i e he=>by
   have hi:=(List.getElem?_eq_some_iff.1 he).1
   simp only [Ziq,ltL he,ix_s he,Ybv,Option.bind_some,wS (show i<1000000000000 by omega)]
   cases rowB e <;> rfl)
  (fun n hn=>by
   obtain⟨m,rfl⟩:∃ m,n=m+1:=⟨n - 1,by omega⟩
   simp only [Ziq,geL,cond_false,Zrl]
   exact l30 late h m (by omega)) n (by omega)
 rw [this]
 cases rows.all rowB <;> simp
theorem l12 (h:late.length≤1000000000)(h2:rows.length≤1000000000)(h3:evs.length≤1000000000)(n:Nat)(hn:late.length+rows.length+evs.length+5≤n):Zam n evs rows late 0=some (evs.all evtB&&(rows.all rowB&&late.all fun r=>Xy r.2.1),()):=by
 have:=loopA (f:=fun n i=>Zam n evs rows late i) (l:=evs) (p:=evtB) (bad:=some (false,())) (fin:=some (rows.all rowB&&late.all fun r=>Xy r.2.1,())) (N:=late.length+rows.length+4)
  (fun n i e he=>by
   have hi:=(List.getElem?_eq_some_iff.1 he).1
   simp only [Zip,ltL he,ix_s he,Yb0,Option.bind_some,wS (show i<1000000000000 by omega)]
   cases evtB e <;> rfl)
  (fun n hn=>by
   obtain⟨m,rfl⟩:∃ m,n=m+1:=⟨n - 1,by omega⟩
   simp only [Zip,geL,cond_false,Zrk]
   exact l21 rows late h h2 m (by omega)) n (by omega)
 rw [this]
 cases evs.all evtB <;> simp
theorem l3 (h:late.length≤1000000000)(h2:rows.length≤1000000000)(h3:evs.length≤1000000000)(h4:marks.length≤1000000000)(n:Nat)(hn:late.length+rows.length+evs.length+marks.length+7≤n):Zba n marks evs rows late 0=some ((marks.all fun x=>Zct x.1)&&(evs.all evtB&&(rows.all rowB&&late.all fun r=>Xy r.2.1)),()):=by
 have:=loopA (f:=fun n i=>Zba n marks evs rows late i) (l:=marks) (p:=fun x=>Zct x.1) (bad:=some (false,())) (fin:=some (evs.all evtB&&(rows.all rowB&&late.all fun r=>Xy r.2.1),())) (N:=late.length+rows.length+evs.length+6)
  (fun n i e he=>by
   have hi:=(List.getElem?_eq_some_iff.1 he).1
   simp only [Zk8,ltL he,ix_s he,Ybz,Option.bind_some,wS (show i<1000000000000 by omega)]
   cases Zct e.1 <;> rfl)
  (fun n hn=>by
   obtain⟨m,rfl⟩:∃ m,n=m+1:=⟨n - 1,by omega⟩
   simp only [Zk8,geL,cond_false,Zt6]
   exact l12 evs rows late h h2 h3 m (by omega)) n (by omega)
 rw [this]
 cases marks.all fun x=>Zct x.1 <;> simp
end
theorem Ye8 (t:Tsk):Znt t=some (Ztj t,()):=by
 obtain⟨m,hn⟩:=Zau
 rw [Zz5,hn]
 simp only [Zwl,tmax,tmin]
 unfold Ztj
 generalize t.2.2.2.2.1.length=n
 generalize t.2.2.2.2.2.1.length=s
 generalize t.2.2.2.2.2.2.1.length=e
 generalize t.2.2.2.2.2.2.2.1.length=r
 generalize t.2.2.2.2.2.2.2.2.1.length=l
 have z0:∀ l:Nat,decide (Int.ofNat l≤0)=(l==0):=fun l=>by rw [Bool.eq_iff_iff];simp
 have z6:∀ l:Nat,decide (Int.ofNat l≤60)=decide (l≤60):=fun l=>by rw [Bool.eq_iff_iff];simp;omega
 have z4:∀ l:Nat,decide (Int.ofNat l≤4000)=decide (l≤4000):=fun l=>by rw [Bool.eq_iff_iff];simp;omega
 have y0:(Int.ofNat n==0)=(n==0):=by rw [Bool.eq_iff_iff];simp
 have y1:(Int.ofNat n==1)=(n==1):=by rw [Bool.eq_iff_iff];simp;omega
 have y2:(Int.ofNat n==2)=(n==2):=by rw [Bool.eq_iff_iff];simp;omega
 have y3:(Int.ofNat n==min 4 (max 1 (Int.ofNat n)))=(decide (1≤n)&&decide (n≤4)):=by rw [Bool.eq_iff_iff];simp;omega
 have y4:decide (Int.ofNat s≤Int.ofNat s)=true:=by simp
 simp only [z0,z6,z4,y0,y1,y2,y3,y4]
 generalize (n==0)=N0
 generalize (n==1)=N1
 generalize (n==2)=N2
 generalize (s==0)=S0
 generalize (e==0)=E0
 generalize (r==0)=R0
 generalize (l==0)=L0
 generalize decide (e≤60)=E1
 generalize decide (r≤4000)=R1
 generalize decide (l≤4000)=L1
 generalize decide (1≤n)=M1
 generalize decide (n≤4)=M2
 cases (t.1==1) <;> simp only [cond_true,cond_false]
 · cases (t.1==2) <;> simp only [cond_true,cond_false]
   · cases (t.1==3) <;> simp only [cond_true,cond_false]
     · cases (t.1==4) <;> simp only [cond_true,cond_false]
       · cases (t.1==5) <;> simp only [cond_true,cond_false]
         · cases (t.1==6) <;> simp only [cond_true,cond_false]
           · cases (t.1==7) <;> cases N0 <;> cases S0 <;> cases E0 <;> cases R0 <;> rfl
           · cases N0 <;> cases S0 <;> cases E0 <;> cases R1 <;> rfl
         · cases N2 <;> cases E0 <;> cases R0 <;> rfl
       · cases M1 <;> cases M2 <;> cases E0 <;> cases R0 <;> rfl
     · cases N0 <;> cases S0 <;> cases E0 <;> cases R0 <;> rfl
   · cases N1 <;> cases S0 <;> cases E0 <;> cases R0 <;> rfl
 · cases N0 <;> cases S0 <;> cases E1 <;> cases R0 <;> rfl
theorem Ye9 (t:Tsk)(h1:t.2.2.2.1.length≤1000000000)(h2:t.2.2.2.2.1.length≤1000000000)(h3:t.2.2.2.2.2.1.length≤1000000000)(h4:t.2.2.2.2.2.2.1.length≤1000000000)(h5:t.2.2.2.2.2.2.2.1.length≤1000000000)(h6:t.2.2.2.2.2.2.2.2.1.length≤1000000000) :
    Zgk t=some (bif Zig t then 0 else 8,()):=by
  have hf:8000000000≤fuel:=by rw [fuel,Zca];decide
  have hl:Zk6 t=some ((t.2.2.2.2.1.all fun x=>Zct x.1)&&(t.2.2.2.2.2.2.1.all evtB&&(t.2.2.2.2.2.2.2.1.all rowB&&t.2.2.2.2.2.2.2.2.1.all fun r=>Xy r.2.1)),()):=by
   rw [Zwj]
   exact l3 _ _ _ _ h6 h5 h4 h2 fuel (by omega)
  have h13:=loopA (f:=fun n i=>Zb2 n t.1 t.2.2.2.2.2.1 i) (l:=t.2.2.2.2.2.1) (p:=fun x=>t.1 != 4||(acc2 x).1==0) (bad:=some (8,())) (fin:=some (0,())) (N:=0)
   (fun n i e he=>by
    have hi:=(List.getElem?_eq_some_iff.1 he).1
    simp only [Zis,ltL he,ix_s he,Option.bind_some,wS (show i<1000000000000 by omega),acc2]
    cases h:t.1==4 <;> cases h2:e.2.2.2.2.2.2.2.1==0 <;> simp [bne,h,h2])
   (fun n _=>by simp only [Zis,geL,cond_false]) fuel (by omega)
  rw [Zwm]
  simp only [Ye8,Yb1 _ h1,hl,Yby _ h3,h13,Option.bind_some]
  unfold Zig
  have y1:decide (Int.ofNat t.2.2.2.1.length>4000) = !decide (t.2.2.2.1.length≤4000):=by rw [Bool.eq_iff_iff];simp;omega
  have y2:decide (t.2.2.1<0) = !decide (0≤t.2.2.1):=by rw [Bool.eq_iff_iff];simp
  have y3:decide (t.2.2.1≥20) = !decide (t.2.2.1<20):=by rw [Bool.eq_iff_iff];simp
  have y4:decide (t.2.1<0) = !decide (0≤t.2.1):=by rw [Bool.eq_iff_iff];simp
  have y5:decide (t.2.1≥4) = !decide (t.2.1<4):=by rw [Bool.eq_iff_iff];simp
  rw [y1,y2,y3,y4,y5]
  generalize decide (t.2.2.2.1.length≤4000)=A1
  generalize decide (0≤t.2.2.1)=A2
  generalize decide (t.2.2.1<20)=A3
  generalize decide (0≤t.2.1)=A4
  generalize decide (t.2.1<4)=A5
  generalize Ztj t=A6
  generalize t.2.2.2.1.all sndB=A7
  generalize (t.2.2.2.2.1.all fun x=>Zct x.1)=A8
  generalize t.2.2.2.2.2.2.1.all evtB=A9
  generalize t.2.2.2.2.2.2.2.1.all rowB=A10
  generalize (t.2.2.2.2.2.2.2.2.1.all fun r=>Xy r.2.1)=A11
  generalize (t.2.2.2.2.2.1.all fun x=>t.1 != 4||(acc2 x).1==0)=A12
  have e:(stoE t.2.2.2.2.2.1 != 0) = !(stoE t.2.2.2.2.2.1==0):=rfl
  rw [e]
  generalize (stoE t.2.2.2.2.2.1==0)=A13
  cases A1 <;> cases A2 <;> cases A3 <;> cases A4 <;> cases A5 <;> simp
  cases A6 <;> cases A7 <;> cases A8 <;> cases A9 <;> cases A10 <;> cases A11 <;> cases A13 <;> simp
  cases A12 <;> rfl
end Tg
