import Derived.Test.YtdgcdoiefodccaaGreatBVb3
import Derived.Test.YtdgcdoiefodccaaGreatBVb5
/- The program's checks of messages, queues, stores and tasks are the plain ones. -/
set_option linter.unusedVariables false
set_option linter.unusedSimpArgs false
namespace Tg
open Go.Abs (Zb Zj tmm)
theorem Ys2:∃ n,fuel=n+3:=by
 obtain⟨n,h⟩:=Xc
 simp_all
theorem Zwc (t:Int):Zbk t=some (Xz t,()):=by
 rw [Zrt]
 grind [Xz]
theorem Z5z (t:Int):Zdg t=some (Zlp t,()):=by
 rw [Zru,Zwc]
 grind [Zlp]
theorem Zmx (m:Msg):Q8 m=some (bif msgB m then 0 else 8,()):=by
 obtain⟨n,hn⟩:=Ys2
 rw [Zte,hn]
 simp only [Zrw,Zrv,Zwc,Z5z,Option.bind_some]
 grind [msgB,rowB,Z0w,Z0x]
theorem Yhk (q:Que)(h:q.2.1.length≤1000000000):Zid q=some (bif queB q then 0 else 8,()):=by
 rw [Ztf]
 have hf:=Yn
 have:=Ze9 (f:=fun n i=>Zb2 n q.2.1 (Int.ofNat q.2.1.length) i) (l:=q.2.1) (p:=msgB) (bad:=some (8,())) (fin:=some (0,())) (N:=0)
  (fun n i e he=>by
   have hi:=(List.getElem?_eq_some_iff.1 he).1
   simp only [Zit,ltL he,ix_s he,Zmx,Option.bind_some,wS (show i<1000000000000 by omega)]
   grind)
  (fun n _=>by simp only [Zit,geL,cond_false]) fuel (by omega)
 rw [this]
 grind [queB]
theorem Yb9 (e:Evt):Zcc e=some (bif evtB e then 0 else 8,()):=by
 rw [Ztg,Z2t]
 simp only [Zwc,Z5z,Option.bind_some]
 grind [evtB]
theorem Yl3 (l:List Snd)(h:l.length≤1000000000):Zph l=some (l.all sndB,()):=by
 rw [Z2u]
 have hf:=Yn
 have:=Ze9 (f:=fun n i=>Zer n l (Int.ofNat l.length) i) (l:=l) (p:=sndB) (bad:=some (false,())) (fin:=some (true,())) (N:=0)
  (fun n i e he=>by
   have hi:=(List.getElem?_eq_some_iff.1 he).1
   simp only [Zol,ltL he,ix_s he,Zmx,Option.bind_some,wS (show i<1000000000000 by omega)]
   grind [sndB])
  (fun n _=>by simp only [Zol,geL,cond_false]) fuel (by omega)
 grind
theorem Yl4 (t:Int):Zlz t=some (Zgx t,()):=by
 rw [Zx4]
 have:msgB (2,0,0,0,t,0,0,0,0,0,())=Zlp t:=by simp [msgB,Z0w,Z0x]
 simp only [Zmx,Option.bind_some,this]
 unfold Zgx
 cases t == -9223372036854775808 <;> cases Zlp t <;> rfl
theorem Yhl (a:Acc):Zfx a=some (bif accB a then 0 else 8,()):=by
 rw [Zvw]
 grind [accB]
theorem Yhm {a:Acc}(h:accB a=true):0≤a.1∧a.1≤1073741824:=by
 grind [accB]
theorem Yl5 (x:Ent):Zl0 x=some (entB x,()):=by
 rw [Zx5]
 simp only [Yhl,Option.bind_some]
 cases h1:accB (acc1 x)
 · grind [entB,acc1,acc2]
 cases h2:accB (acc2 x)
 · grind [entB,acc1,acc2]
 have b1:=Yhm h1
 have b2:=Yhm h2
 have e1:accB (x.2.2.2.1,x.2.2.2.2.1,x.2.2.2.2.2.1,x.2.2.2.2.2.2.1,())=true:=h1
 have e2:accB x.2.2.2.2.2.2.2=true:=h2
 simp only [acc1,acc2] at b1 b2
 rw [e1,e2,w64 (by omega) (by omega)]
 have:decide (x.2.2.2.1+x.2.2.2.2.2.2.2.1>0) = !(x.2.2.2.1==0&&x.2.2.2.2.2.2.2.1==0):=by
  grind
 rw [this]
 unfold entB
 rw [h1,h2]
 simp only [acc1,acc2]
 grind
theorem Ys3 (a b:Int):Qf a b=some (bif decide (a<b) then -1 else bif decide (b<a) then 1 else 0,()):=by
 rw [Zl1]
 simp only [Zpi,Option.bind_some]
 grind
theorem or_w (a b c:Int):Zl2 [(a,()),(b,()),(c,())]=some (bif a != 0 then a else bif b != 0 then b else c,()):=by
 obtain⟨n,hn⟩:=Xc
 rw [Zx6,hn]
 have e:∀ m,Zdh (m+4) 0 [(a,()),(b,()),(c,())] 3 0=some (bif a != 0 then a else bif b != 0 then b else c,()):=fun m=>by
  have w1:=wS (i:=0) (by omega)
  have w2:=wS (i:=1) (by omega)
  have w3:=wS (i:=2) (by omega)
  simp only [Int.natCast_zero,Int.zero_add,Nat.zero_add,Int.ofNat_one,Nat.reduceAdd] at w1 w2 w3
  simp only [Zvx,ix]
  grind
 grind
theorem Yl6 (x y:Ent):∃ k,Zl3 x y=some (k,())∧decide (k≥0) = !Z0y x y:=by
 rw [Zx7]
 simp only [Ys3,or_w,Option.bind_some]
 refine⟨_,rfl,?_⟩
 grind [Z0y]
theorem Yl7 (l:List Ent)(h:l.length≤1000000000):Zl4 l=some (stoE l,()):=by
 rw [Zx8]
 unfold stoE
 by_cases hb:4000<l.length
 · grind
 rw [show decide (Int.ofNat l.length>4000)=false from decide_eq_false (by grind),decide_eq_false hb,cond_false,cond_false]
 have hf:=Yn
 exact Z2o (f:=fun n i=>Zdi n l l (Int.ofNat l.length) i) (l:=l)
  (fun n i e he=>by
   have hi:=(List.getElem?_eq_some_iff.1 he).1
   simp only [Zl5,ltL he,ix_s he,Yl5,Option.bind_some,wS (show i<1000000000000 by omega),cond_true]
   cases entB e with
   | false=>rfl
   | true =>
    cases i with
    | zero=>rfl
    | succ j =>
     obtain⟨d,hd⟩:∃ d,l[j]? = some d:=⟨_,List.getElem?_eq_getElem (by omega)⟩
     obtain⟨k,hk,hk2⟩:=Yl6 d e
     have e1:Go.IntKind.wrap .i64 (((j+1:Nat):Int) - 1)=(j:Int):=by rw [w64 (by omega) (by omega)];omega
     have e2:decide (((j+1:Nat):Int)>0)=true:=decide_eq_true (by omega)
     simp only [e1,e2,ix_s hd,hk,Option.bind_some,hk2,Z0z,hd,okP]
     grind)
  (fun n=>by simp only [Zl5,geL,cond_false]) l 0 fuel rfl (by omega) (by omega)
end Tg

/- The program's check of a task is the plain one. -/
namespace Tg
open Go.Abs (Zb Zj tmm)
theorem Yca {α:Type}(p:α→Bool):∀ (l:List α) (s:Bool),l.foldl (fun s e=>s&&p e) s=(s&&l.all p)
 | [],s=>by simp
 | e::l,s=>by rw [List.foldl_cons,Yca p l,List.all_cons,Bool.and_assoc]
theorem Z50 {α β:Type}{f:Nat→Bool→Int→Option β}{l:List α}{p:α→Bool}{fin:Bool→Option β}{N:Nat}
    (hs:∀ n s (i:Nat) e,l[i]? = some e→f (n+1) s (i:Int)=f n (s&&p e) ((i+1:Nat):Int))
    (he:∀ n s,N≤n→f (n+1) s (l.length:Int)=fin s) (n:Nat) (s:Bool) (hn:N+l.length+1≤n):f n s 0=fin (s&&l.all p):=by
  have:=Yni (f:=f) (l:=l) (g:=fun s e=>s&&p e) (fin:=fin) (N:=N) (fun _ _=>True) (fun n s i e h _=>⟨hs n s i e h,trivial⟩) (fun n s h _=>he n s h) n s trivial hn
  rw [this,Yca]
section
variable (k:Int) (marks:List (Int×Unit)) (store:List Ent) (evs:List Evt) (rows:List Row5) (late:List Rec3)
def res8 (b:Bool):Option (Int×Unit):=some (bif b then 0 else 8,())
theorem t45 (h:store.length≤1000000000)(n:Nat)(ok:Bool)(hn:store.length+3≤n):Qg n k ok store (Int.ofNat store.length) 0=res8 (ok&&store.all fun x=>k != 4||(acc2 x).1==0) :=
 Z50 (f:=fun n s i=>Qg n k s store (Int.ofNat store.length) i) (l:=store) (N:=1)
  (fun n s i e he=>by
   have hi:=(List.getElem?_eq_some_iff.1 he).1
   simp only [Zmb,ltL he,ix_s he,wS (show i<1000000000000 by omega),cond_true,acc2]
   grind)
  (fun n s h=>by
   obtain⟨m,rfl⟩:∃ m,n=m+1:=⟨n - 1,by omega⟩
   simp only [Zmb,geL,cond_false,Zvy,res8]
   grind) n ok (by omega)
theorem t37 (h:store.length≤1000000000)(h2:late.length≤1000000000)(n:Nat)(ok:Bool)(hn:store.length+late.length+5≤n) :
    Zal n k store ok late (Int.ofNat late.length) 0=res8 ((ok&&late.all fun r=>Xz r.2.1)&&store.all fun x=>k != 4||(acc2 x).1==0) :=
  Z50 (f:=fun n s i=>Zal n k store s late (Int.ofNat late.length) i) (l:=late) (N:=store.length+3) (fin:=fun ok=>res8 (ok&&store.all fun x=>k != 4||(acc2 x).1==0))
   (fun n s i e he=>by
    have hi:=(List.getElem?_eq_some_iff.1 he).1
    have em:msgB (4,e.1,e.2.1,e.2.2.1,0,0,0,0,0,0,())=Xz e.2.1:=by simp [msgB,Z0x]
    simp only [Zma,ltL he,ix_s he,wS (show i<1000000000000 by omega),cond_true,Zmx,Option.bind_some,em]
    cases s <;> cases Xz e.2.1 <;> rfl)
   (fun n s hn=>by simp only [Zma,geL,cond_false];exact t45 k store h n s hn) n ok (by omega)
theorem t29 (h:store.length≤1000000000)(h2:late.length≤1000000000)(h3:rows.length≤1000000000)(n:Nat)(ok:Bool)(hn:store.length+late.length+rows.length+7≤n) :
    Zak n k store late ok rows (Int.ofNat rows.length) 0=res8 (((ok&&rows.all rowB)&&late.all fun r=>Xz r.2.1)&&store.all fun x=>k != 4||(acc2 x).1==0) :=
  Z50 (f:=fun n s i=>Zak n k store late s rows (Int.ofNat rows.length) i) (l:=rows) (N:=store.length+late.length+5) (fin:=fun ok=>res8 ((ok&&late.all fun r=>Xz r.2.1)&&store.all fun x=>k != 4||(acc2 x).1==0))
   (fun n s i e he=>by
    have hi:=(List.getElem?_eq_some_iff.1 he).1
    have em:msgB (3,0,0,0,0,e)=rowB e:=by simp [msgB,Z0w]
    simp only [Zl9,ltL he,ix_s he,wS (show i<1000000000000 by omega),cond_true,Zmx,Option.bind_some,em]
    cases s <;> cases rowB e <;> rfl)
   (fun n s hn=>by simp only [Zl9,geL,cond_false];exact t37 k store late h h2 n s (by omega)) n ok (by omega)
theorem t21 (h:store.length≤1000000000)(h2:late.length≤1000000000)(h3:rows.length≤1000000000)(h4:evs.length≤1000000000)(n:Nat)(ok:Bool)(hn:store.length+late.length+rows.length+evs.length+9≤n) :
    Zaj n k store rows late ok evs (Int.ofNat evs.length) 0=res8 ((((ok&&evs.all evtB)&&rows.all rowB)&&late.all fun r=>Xz r.2.1)&&store.all fun x=>k != 4||(acc2 x).1==0) :=
  Z50 (f:=fun n s i=>Zaj n k store rows late s evs (Int.ofNat evs.length) i) (l:=evs) (N:=store.length+late.length+rows.length+7) (fin:=fun ok=>res8 (((ok&&rows.all rowB)&&late.all fun r=>Xz r.2.1)&&store.all fun x=>k != 4||(acc2 x).1==0))
   (fun n s i e he=>by
    have hi:=(List.getElem?_eq_some_iff.1 he).1
    simp only [Zl8,ltL he,ix_s he,wS (show i<1000000000000 by omega),cond_true,Yb9,Option.bind_some]
    cases s <;> cases evtB e <;> rfl)
   (fun n s hn=>by simp only [Zl8,geL,cond_false];exact t29 k store rows late h h2 h3 n s (by omega)) n ok (by omega)
theorem t13 (h:store.length≤1000000000)(h2:late.length≤1000000000)(h3:rows.length≤1000000000)(h4:evs.length≤1000000000)(h5:marks.length≤1000000000)(n:Nat)(ok:Bool)(hn:store.length+late.length+rows.length+evs.length+marks.length+11≤n) :
    Zai n k store evs rows late ok marks (Int.ofNat marks.length) 0=res8 (((((ok&&marks.all fun x=>Zgx x.1)&&evs.all evtB)&&rows.all rowB)&&late.all fun r=>Xz r.2.1)&&store.all fun x=>k != 4||(acc2 x).1==0) :=
  Z50 (f:=fun n s i=>Zai n k store evs rows late s marks (Int.ofNat marks.length) i) (l:=marks) (N:=store.length+late.length+rows.length+evs.length+9) (fin:=fun ok=>res8 ((((ok&&evs.all evtB)&&rows.all rowB)&&late.all fun r=>Xz r.2.1)&&store.all fun x=>k != 4||(acc2 x).1==0))
   (fun n s i e he=>by
    have hi:=(List.getElem?_eq_some_iff.1 he).1
    simp only [Zl7,ltL he,ix_s he,wS (show i<1000000000000 by omega),cond_true,Yl4,Option.bind_some]
    grind)
   (fun n s hn=>by simp only [Zl7,geL,cond_false];exact t21 k store evs rows late h h2 h3 h4 n s (by omega)) n ok (by omega)
end
theorem Yhn (t:Tsk):∃ a b c d e f,Zly t.1=some (a,b,c,d,e,f,())∧Zvk t=(decide (a≤(t.2.2.2.2.1.length:Int))&&(decide ((t.2.2.2.2.1.length:Int)≤b)&&((c||t.2.2.2.2.2.1.length==0)&&((bif d then decide (t.2.2.2.2.2.2.1.length≤60) else t.2.2.2.2.2.2.1.length==0)&&((bif e then decide (t.2.2.2.2.2.2.2.1.length≤4000) else t.2.2.2.2.2.2.2.1.length==0)&&(bif f then decide (t.2.2.2.2.2.2.2.2.1.length≤4000) else t.2.2.2.2.2.2.2.2.1.length==0)))))):=by
 rw [Zx3]
 unfold Zvk
 generalize t.2.2.2.2.1.length=n
 generalize t.2.2.2.2.2.1.length=s
 generalize t.2.2.2.2.2.2.1.length=e
 generalize t.2.2.2.2.2.2.2.1.length=r
 generalize t.2.2.2.2.2.2.2.2.1.length=l
 by_cases h1:t.1=1
 · simp only [h1]
   grind
 by_cases h2:t.1=2
 · simp only [h2]
   grind
 by_cases h3:t.1=3
 · simp only [h3]
   grind
 by_cases h4:t.1=4
 · simp only [h4]
   grind
 by_cases h5:t.1=5
 · simp only [h5]
   grind
 by_cases h6:t.1=6
 · simp only [h6]
   grind
 by_cases h7:t.1=7
 · simp only [h7]
   grind
 · simp only [h1,h2,h3,h4,h5,h6,h7,beq_iff_eq,beq_false_of_ne,ne_eq,not_false_eq_true,cond_false,Bool.false_and]
   grind
theorem Yho (t:Tsk)(h1:t.2.2.2.1.length≤1000000000)(h2:t.2.2.2.2.1.length≤1000000000)(h3:t.2.2.2.2.2.1.length≤1000000000)(h4:t.2.2.2.2.2.2.1.length≤1000000000)(h5:t.2.2.2.2.2.2.2.1.length≤1000000000)(h6:t.2.2.2.2.2.2.2.2.1.length≤1000000000) :
    Zji t=some (bif Zog t then 0 else 8,()):=by
  have hf:8000000000≤fuel:=by rw [fuel,Zb8];decide
  obtain⟨a,b,c,d,e,f,hl,hk⟩:=Yhn t
  rw [Z2v,hl]
  simp only [Option.bind_some]
  obtain⟨m,hm⟩:∃ m,fuel=m+5:=⟨fuel - 5,by omega⟩
  have loops:=t13 t.1 t.2.2.2.2.1 t.2.2.2.2.2.1 t.2.2.2.2.2.2.1 t.2.2.2.2.2.2.2.1 t.2.2.2.2.2.2.2.2.1 h3 h6 h5 h4 h2 m true (by omega)
  rw [hm]
  unfold Zog
  rw [hk]
  generalize hR:(t.2.2.2.2.1.all fun x=>Zgx x.1)=R1 at loops ⊢
  generalize t.2.2.2.2.2.2.1.all evtB=R2 at loops ⊢
  generalize t.2.2.2.2.2.2.2.1.all rowB=R3 at loops ⊢
  generalize (t.2.2.2.2.2.2.2.2.1.all fun r=>Xz r.2.1)=R4 at loops ⊢
  generalize (t.2.2.2.2.2.1.all fun x=>t.1 != 4||(acc2 x).1==0)=R5 at loops ⊢
  have c6:∀ bad,Zeu (m+2) t.1 t.2.2.2.2.1 t.2.2.2.2.2.1 t.2.2.2.2.2.2.1 t.2.2.2.2.2.2.2.1 t.2.2.2.2.2.2.2.2.1 bad=res8 (!bad&&(R1&&(R2&&(R3&&(R4&&R5))))):=fun bad=>by
   rw [Zyd,Zyc,loops]
   cases bad <;> simp [res8,Bool.and_assoc]
  have c4:∀ x y,Zet (m+3) t.1 t.2.2.2.1 t.2.2.2.2.1 t.2.2.2.2.2.1 t.2.2.2.2.2.2.1 t.2.2.2.2.2.2.2.1 t.2.2.2.2.2.2.2.2.1 x y=res8 (x&&(y&&(t.2.2.2.1.all sndB&&(stoE t.2.2.2.2.2.1==0&&(R1&&(R2&&(R3&&(R4&&R5)))))))):=fun x y=>by
   simp only [Zyb,Yl3 _ h1,Yl7 _ h3,Option.bind_some,c6]
   grind
  have c3:∀ x,Zes (m+4) t.1 t.2.2.2.1 t.2.2.2.2.1 t.2.2.2.2.2.1 t.2.2.2.2.2.2.1 t.2.2.2.2.2.2.2.1 t.2.2.2.2.2.2.2.2.1 a b c d e f x=res8 (x&&((decide (t.2.2.2.1.length≤4000)&&(decide (a≤(t.2.2.2.2.1.length:Int))&&(decide ((t.2.2.2.2.1.length:Int)≤b)&&((bif c then decide (t.2.2.2.2.2.1.length≤4000) else t.2.2.2.2.2.1.length==0)&&((bif d then decide (t.2.2.2.2.2.2.1.length≤60) else t.2.2.2.2.2.2.1.length==0)&&((bif e then decide (t.2.2.2.2.2.2.2.1.length≤4000) else t.2.2.2.2.2.2.2.1.length==0)&&(bif f then decide (t.2.2.2.2.2.2.2.2.1.length≤4000) else t.2.2.2.2.2.2.2.2.1.length==0)))))))&&(t.2.2.2.1.all sndB&&(stoE t.2.2.2.2.2.1==0&&(R1&&(R2&&(R3&&(R4&&R5)))))))):=fun x=>by
   have q1:∀ k:Nat,∀ l:Nat,decide (Int.ofNat l≤(k:Int))=decide (l≤k):=fun k l=>by grind
   have q2:∀ l:Nat,decide (Int.ofNat l≤0)=(l==0):=fun l=>by grind
   have r1:∀ b:Bool,Zei b 4000=some (bif b then 4000 else 0,()):=fun b=>by rw [Zs3];grind
   have r2:Zei d 60=some (bif d then 60 else 0,()):=by rw [Zs3];grind
   simp only [Zya,r1,r2,Option.bind_some,c4]
   have z:∀ (y:Bool) (l k:Nat),decide (Int.ofNat l≤bif y then (k:Int) else 0)=bif y then decide (l≤k) else l==0:=fun y l k=>by grind
   have z4:=fun y l=>z y l 4000
   have z6:=fun y l=>z y l 60
   simp only [Int.cast_ofNat_Int] at z4 z6
   simp only [z4,z6]
   grind
  rw [Zx9]
  simp only [c3]
  have sto:(stoE t.2.2.2.2.2.1==0)=true→decide (t.2.2.2.2.2.1.length≤4000)=true:=fun h=>by
   unfold stoE at h
   grind
  generalize (bif d then decide (t.2.2.2.2.2.2.1.length≤60) else t.2.2.2.2.2.2.1.length==0)=Y5
  generalize (bif e then decide (t.2.2.2.2.2.2.2.1.length≤4000) else t.2.2.2.2.2.2.2.1.length==0)=Y6
  generalize (bif f then decide (t.2.2.2.2.2.2.2.2.1.length≤4000) else t.2.2.2.2.2.2.2.2.1.length==0)=Y7
  generalize decide (t.2.2.2.1.length≤4000)=Y1
  generalize decide (a≤(t.2.2.2.2.1.length:Int))=Y2
  generalize decide ((t.2.2.2.2.1.length:Int)≤b)=Y3
  generalize (t.2.2.2.2.2.1.length==0)=Z
  generalize t.2.2.2.1.all sndB=S1
  revert sto
  generalize (stoE t.2.2.2.2.2.1==0)=S2
  generalize decide (t.2.2.2.2.2.1.length≤4000)=Y4
  intro sto
  have g1:decide (t.2.2.1≥0)=decide (0≤t.2.2.1):=rfl
  have g2:decide (t.2.1≥0)=decide (0≤t.2.1):=rfl
  rw [g1,g2]
  generalize decide (0≤t.2.2.1)=G1
  generalize decide (0≤t.2.1)=G2
  generalize decide (t.2.2.1<20)=G3
  generalize decide (t.2.1<4)=G4
  unfold res8
  grind
end Tg

/- The reference's checks of messages, queues, stores and tasks are the plain ones. -/
namespace Tg
open Go.Abs (Zb Zj tmm)
theorem Zwd (r:Rec3):Zcv r=some (Xz r.2.1,()):=by
 rw [Zyq]
 grind [Xz]
theorem Z28 (t:Int):Zg4 t=some (Zlp t,()):=by
 rw [Z23]
 grind [Zlp,Xz]
theorem Yhp (x:Row5):Znv x=some (rowB x,()):=by
 rw [Z5y]
 grind [rowB]
theorem Z51 (m:Msg):Zhx m=some (msgB m,()):=by
 obtain⟨n,hn⟩:=Xc
 rw [Zyr,hn]
 simp only [Zv9,Zwd,Z28,Yhp,Option.bind_some]
 grind [msgB,Z0w,Z0x]
theorem Yhq (q:Que)(h:q.2.1.length≤1000000000):Zmm q=some (bif queB q then 0 else 8,()):=by
 rw [Zys]
 have hf:=Yn
 have:=Ze9 (f:=fun n i=>Zdn n q.2.1 i) (l:=q.2.1) (p:=msgB) (bad:=some (8,())) (fin:=some (0,())) (N:=0)
  (fun n i e he=>by
   have hi:=(List.getElem?_eq_some_iff.1 he).1
   simp only [Zmn,ltL he,ix_s he,Z51,Option.bind_some,wS (show i<1000000000000 by omega)]
   cases msgB e <;> rfl)
  (fun n _=>by simp only [Zmn,geL,cond_false]) fuel (by omega)
 rw [this]
 grind [queB]
theorem Yhr (a:Acc):X5 a=some (bif accB a then 0 else 8,()):=by
 obtain⟨n,hn⟩:=Xc
 rw [Zyt,hn]
 simp only [Zwa]
 grind [accB]
theorem Yl8 (x y:Ent):Zg7 x y=some (Z0y x y,()):=by
 rw [Z25]
 grind [Z0y]
theorem Yhs (l:List Ent)(h:l.length≤1000000000):Zmo l=some (stoE l,()):=by
 rw [Zyu]
 unfold stoE
 by_cases hb:4000<l.length
 · rw [show decide (Int.ofNat l.length>4000)=true from decide_eq_true (by simp;omega),decide_eq_true hb]
   rfl
 rw [show decide (Int.ofNat l.length>4000)=false from decide_eq_false (by simp;omega),decide_eq_false hb,cond_false,cond_false]
 have hf:=Yn
 exact Z2o (f:=fun n i=>Yu n l i) (l:=l)
  (fun n i e he=>by
   have hi:=(List.getElem?_eq_some_iff.1 he).1
   have key:∀ k:Option (Int×Unit),Yu (n+1) l (i:Int)=bif entB e then (bif decide ((i:Int)>0) then ix l (Go.IntKind.wrap .i64 ((i:Int) - 1)) fun e3=>(Zg7 e3 e).bind fun e4=>bif !e4.1 then some (8,()) else Yu n l ((i+1:Nat):Int) else Yu n l ((i+1:Nat):Int)) else some (8,()):=fun k=>by
    have e1:X5 (e.2.2.2.1,e.2.2.2.2.1,e.2.2.2.2.2.1,e.2.2.2.2.2.2.1,())=some (bif accB (acc1 e) then 0 else 8,()):=Yhr (acc1 e)
    have e2:X5 e.2.2.2.2.2.2.2=some (bif accB (acc2 e) then 0 else 8,()):=Yhr (acc2 e)
    simp only [Zmp,ltL he,ix_s he,e1,e2,Option.bind_some,wS (show i<1000000000000 by omega),cond_true]
    generalize (bif decide ((i:Int)>0) then ix l (Go.IntKind.wrap .i64 ((i:Int) - 1)) fun e3=>(Zg7 e3 e).bind fun e4=>bif !e4.1 then some (8,()) else Yu n l ((i+1:Nat):Int) else Yu n l ((i+1:Nat):Int))=Z
    grind [entB,acc1,acc2]
   rw [key none]
   cases entB e with
   | false=>rfl
   | true =>
    cases i with
    | zero=>rfl
    | succ j =>
     obtain⟨d,hd⟩:∃ d,l[j]? = some d:=⟨_,List.getElem?_eq_getElem (by omega)⟩
     have e1:Go.IntKind.wrap .i64 (((j+1:Nat):Int) - 1)=(j:Int):=by rw [w64 (by omega) (by omega)];omega
     have e2:decide (((j+1:Nat):Int)>0)=true:=decide_eq_true (by omega)
     simp only [e1,e2,ix_s hd,Yl8,Option.bind_some,Z0z,hd,okP]
     cases Z0y d e <;> rfl)
  (fun n=>by simp only [Zmp,geL,cond_false]) l 0 fuel rfl (by omega) (by omega)
theorem Yht (t:Int):Zmq t=some (Zgx t,()):=by
 rw [Zyv]
 simp only [Z28,Option.bind_some]
 unfold Zgx
 cases t == -9223372036854775808 <;> cases Zlp t <;> rfl
theorem Z52 (e:Evt):Zfb e=some (bif evtB e then 0 else 8,()):=by
 rw [Zyw]
 simp only [Z28,Zwd,Option.bind_some]
 grind [evtB]
theorem Yhu (l:List Snd)(h:l.length≤1000000000):Zmv l=some (l.all sndB,()):=by
 rw [Zyy]
 have hf:=Yn
 have:=Ze9 (f:=fun n i=>Zdo n l i) (l:=l) (p:=sndB) (bad:=some (false,())) (fin:=some (true,())) (N:=0)
  (fun n i e he=>by
   have hi:=(List.getElem?_eq_some_iff.1 he).1
   simp only [Zmw,ltL he,ix_s he,Z51,Option.bind_some,wS (show i<1000000000000 by omega)]
   grind [sndB])
  (fun n _=>by simp only [Zmw,geL,cond_false]) fuel (by omega)
 rw [this]
 cases l.all sndB <;> rfl
end Tg

/- The reference's check of a task is the plain one. -/
namespace Tg
open Go.Abs (Zb Zj tmm)
section
variable (marks:List (Int×Unit)) (evs:List Evt) (rows:List Row5) (late:List Rec3)
theorem l30 (h:late.length≤1000000000)(n:Nat)(hn:late.length+1≤n):Za3 n late 0=some (late.all fun r=>Xz r.2.1,()):=by
 have:=Ze9 (f:=fun n i=>Za3 n late i) (l:=late) (p:=fun r=>Xz r.2.1) (bad:=some (false,())) (fin:=some (true,())) (N:=0)
  (fun n i e he=>by
   have hi:=(List.getElem?_eq_some_iff.1 he).1
   simp only [Zko,ltL he,ix_s he,Zwd,Option.bind_some,wS (show i<1000000000000 by omega)]
   grind)
  (fun n _=>by simp only [Zko,geL,cond_false]) n (by omega)
 grind
theorem l21 (h:late.length≤1000000000)(h2:rows.length≤1000000000)(n:Nat)(hn:late.length+rows.length+3≤n):Za2 n rows late 0=some (rows.all rowB&&late.all fun r=>Xz r.2.1,()):=by
 have:=Ze9 (f:=fun n i=>Za2 n rows late i) (l:=rows) (p:=rowB) (bad:=some (false,())) (fin:=some (late.all fun r=>Xz r.2.1,())) (N:=late.length+2)
  (fun n i e he=>by
   have hi:=(List.getElem?_eq_some_iff.1 he).1
   simp only [Zkn,ltL he,ix_s he,Yhp,Option.bind_some,wS (show i<1000000000000 by omega)]
   grind)
  (fun n hn=>by
   obtain⟨m,rfl⟩:∃ m,n=m+1:=⟨n - 1,by omega⟩
   simp only [Zkn,geL,cond_false,Zto]
   exact l30 late h m (by omega)) n (by omega)
 grind
theorem l12 (h:late.length≤1000000000)(h2:rows.length≤1000000000)(h3:evs.length≤1000000000)(n:Nat)(hn:late.length+rows.length+evs.length+5≤n):Za1 n evs rows late 0=some (evs.all evtB&&(rows.all rowB&&late.all fun r=>Xz r.2.1),()):=by
 have:=Ze9 (f:=fun n i=>Za1 n evs rows late i) (l:=evs) (p:=evtB) (bad:=some (false,())) (fin:=some (rows.all rowB&&late.all fun r=>Xz r.2.1,())) (N:=late.length+rows.length+4)
  (fun n i e he=>by
   have hi:=(List.getElem?_eq_some_iff.1 he).1
   simp only [Zkm,ltL he,ix_s he,Z52,Option.bind_some,wS (show i<1000000000000 by omega)]
   grind)
  (fun n hn=>by
   obtain⟨m,rfl⟩:∃ m,n=m+1:=⟨n - 1,by omega⟩
   simp only [Zkm,geL,cond_false,Ztn]
   exact l21 rows late h h2 m (by omega)) n (by omega)
 grind
theorem l3 (h:late.length≤1000000000)(h2:rows.length≤1000000000)(h3:evs.length≤1000000000)(h4:marks.length≤1000000000)(n:Nat)(hn:late.length+rows.length+evs.length+marks.length+7≤n):Zbm n marks evs rows late 0=some ((marks.all fun x=>Zgx x.1)&&(evs.all evtB&&(rows.all rowB&&late.all fun r=>Xz r.2.1)),()):=by
 have:=Ze9 (f:=fun n i=>Zbm n marks evs rows late i) (l:=marks) (p:=fun x=>Zgx x.1) (bad:=some (false,())) (fin:=some (evs.all evtB&&(rows.all rowB&&late.all fun r=>Xz r.2.1),())) (N:=late.length+rows.length+evs.length+6)
  (fun n i e he=>by
   have hi:=(List.getElem?_eq_some_iff.1 he).1
   simp only [Zmu,ltL he,ix_s he,Yht,Option.bind_some,wS (show i<1000000000000 by omega)]
   grind)
  (fun n hn=>by
   obtain⟨m,rfl⟩:∃ m,n=m+1:=⟨n - 1,by omega⟩
   simp only [Zmu,geL,cond_false,Zwb]
   exact l12 evs rows late h h2 h3 m (by omega)) n (by omega)
 grind
end
theorem Yl9 (t:Tsk):Zpl t=some (Zvk t,()):=by
 obtain⟨m,hn⟩:=Xc
 rw [Z27,hn]
 simp only [Zyz,tmax,tmin]
 unfold Zvk
 generalize t.2.2.2.2.1.length=n
 generalize t.2.2.2.2.2.1.length=s
 generalize t.2.2.2.2.2.2.1.length=e
 generalize t.2.2.2.2.2.2.2.1.length=r
 generalize t.2.2.2.2.2.2.2.2.1.length=l
 have z0:∀ l:Nat,decide (Int.ofNat l≤0)=(l==0):=fun l=>by grind
 have z6:∀ l:Nat,decide (Int.ofNat l≤60)=decide (l≤60):=fun l=>by grind
 have z4:∀ l:Nat,decide (Int.ofNat l≤4000)=decide (l≤4000):=fun l=>by grind
 have y0:(Int.ofNat n==0)=(n==0):=by grind
 have y1:(Int.ofNat n==1)=(n==1):=by grind
 have y2:(Int.ofNat n==2)=(n==2):=by grind
 have y3:(Int.ofNat n==min 4 (max 1 (Int.ofNat n)))=(decide (1≤n)&&decide (n≤4)):=by grind
 grind
theorem Yma (t:Tsk)(h1:t.2.2.2.1.length≤1000000000)(h2:t.2.2.2.2.1.length≤1000000000)(h3:t.2.2.2.2.2.1.length≤1000000000)(h4:t.2.2.2.2.2.2.1.length≤1000000000)(h5:t.2.2.2.2.2.2.2.1.length≤1000000000)(h6:t.2.2.2.2.2.2.2.2.1.length≤1000000000) :
    Zhy t=some (bif Zog t then 0 else 8,()):=by
  have hf:8000000000≤fuel:=by rw [fuel,Zb8];decide
  have hl:Zms t=some ((t.2.2.2.2.1.all fun x=>Zgx x.1)&&(t.2.2.2.2.2.2.1.all evtB&&(t.2.2.2.2.2.2.2.1.all rowB&&t.2.2.2.2.2.2.2.2.1.all fun r=>Xz r.2.1)),()):=by
   rw [Zyx]
   exact l3 _ _ _ _ h6 h5 h4 h2 fuel (by omega)
  have h13:=Ze9 (f:=fun n i=>Zck n t.1 t.2.2.2.2.2.1 i) (l:=t.2.2.2.2.2.1) (p:=fun x=>t.1 != 4||(acc2 x).1==0) (bad:=some (8,())) (fin:=some (0,())) (N:=0)
   (fun n i e he=>by
    have hi:=(List.getElem?_eq_some_iff.1 he).1
    simp only [Zkp,ltL he,ix_s he,Option.bind_some,wS (show i<1000000000000 by omega),acc2]
    grind)
   (fun n _=>by simp only [Zkp,geL,cond_false]) fuel (by omega)
  rw [Zy0]
  simp only [Yl9,Yhu _ h1,hl,Yhs _ h3,h13,Option.bind_some]
  unfold Zog
  have y1:decide (Int.ofNat t.2.2.2.1.length>4000) = !decide (t.2.2.2.1.length≤4000):=by grind
  have y2:decide (t.2.2.1<0) = !decide (0≤t.2.2.1):=by grind
  have y3:decide (t.2.2.1≥20) = !decide (t.2.2.1<20):=by grind
  have y4:decide (t.2.1<0) = !decide (0≤t.2.1):=by grind
  have y5:decide (t.2.1≥4) = !decide (t.2.1<4):=by grind
  rw [y1,y2,y3,y4,y5]
  generalize decide (t.2.2.2.1.length≤4000)=A1
  generalize decide (0≤t.2.2.1)=A2
  generalize decide (t.2.2.1<20)=A3
  generalize decide (0≤t.2.1)=A4
  generalize decide (t.2.1<4)=A5
  generalize Zvk t=A6
  generalize t.2.2.2.1.all sndB=A7
  generalize (t.2.2.2.2.1.all fun x=>Zgx x.1)=A8
  generalize t.2.2.2.2.2.2.1.all evtB=A9
  generalize t.2.2.2.2.2.2.2.1.all rowB=A10
  generalize (t.2.2.2.2.2.2.2.2.1.all fun r=>Xz r.2.1)=A11
  generalize (t.2.2.2.2.2.1.all fun x=>t.1 != 4||(acc2 x).1==0)=A12
  have e:(stoE t.2.2.2.2.2.1 != 0) = !(stoE t.2.2.2.2.2.1==0):=rfl
  rw [e]
  generalize (stoE t.2.2.2.2.2.1==0)=A13
  cases A1 <;> cases A2 <;> cases A3 <;> cases A4 <;> cases A5 <;> simp
  grind
end Tg
