import Derived.Test.YtdgcdoiefodccaaGreatBNn1
import Derived.Test.YtdgcdoiefodccaaGreatBMJ
import Derived.Test.YtdgcdoiefodccaaGreatBQ9
/- Fresh tasks: what the program and the reference say of two tasks. -/
set_option linter.unusedVariables false
set_option linter.unusedSimpArgs false
namespace Tg
open Go
open Go.Abs (Zb Zj tmm)
def zipB {α:Type}(p:α→α→Bool)(l l' : List α):Bool:=(l.zip l').all fun x=>p x.1 x.2
theorem Zo0 {α β:Type}{f:Nat→Int→Option β}{l l' : List α}{p:α→α→Bool}{bad fin:Option β}{N:Nat}(hl:l.length=l'.length)
    (hs:∀ n (i:Nat) e e',l[i]? = some e→l'[i]? = some e' → f (n+1) (i:Int)=bif p e e' then f n ((i+1:Nat):Int) else bad)
    (he:∀ n,N≤n→f (n+1) (l.length:Int)=fin) (n:Nat) (hn:N+l.length+1≤n):f n 0=bif zipB p l l' then fin else bad:=by
  have hz:(l.zip l').length=l.length:=by rw [List.length_zip];omega
  exact Ze9 (f:=f) (l:=l.zip l') (p:=fun x=>p x.1 x.2) (bad:=bad) (fin:=fin) (N:=N)
   (fun n i x hx=>by
    obtain⟨a,b⟩:=x
    obtain⟨h1,h2⟩:=List.getElem?_zip_eq_some.1 hx
    exact hs n i a b h1 h2)
   (fun n hn=>by rw [hz];exact he n hn) n (by omega)
def eqL {α:Type}(p:α→α→Bool)(l l' : List α):Bool:=l.length==l'.length&&zipB p l l'
def opQ (e e' : Op):Bool:=e.1==e'.1&&(e.2.1==e'.2.1&&true)
def chQ (e e' : Cn):Bool:=e.1==e'.1&&(e.2.1==e'.2.1&&(e.2.2.1==e'.2.2.1&&(e.2.2.2.1==e'.2.2.2.1&&(e.2.2.2.2.1==e'.2.2.2.2.1&&true))))
def evQ (e e' : Evt):Bool:=e.1==e'.1&&(e.2.1==e'.2.1&&(e.2.2.1==e'.2.2.1&&(e.2.2.2.1==e'.2.2.2.1&&(e.2.2.2.2.1==e'.2.2.2.2.1&&true))))
def ivQ (e e' : Int×Unit):Bool:=e.1==e'.1
theorem Zbw (a b:Nat):(Int.ofNat a != Int.ofNat b) = !(a==b):=by
 rw [bne,Bool.eq_iff_iff]
 simp
 omega
theorem notB {β:Type}(b:Bool)(x y:β):(bif !b then x else y)=bif b then y else x:=by cases b <;> rfl
theorem Ym8 (l l' : List Op)(h:l.length≤100000):Yh l l' = some (eqL opQ l l',()):=by
 have hf:=Yn
 rw [Zd4,Zbw,notB,eqL]
 by_cases e:l.length=l'.length
 · rw [show (l.length==l'.length)=true by simpa using e,cond_true,Bool.true_and]
   rw [Zo0 (f:=fun n k=>Ya n l l' (Int.ofNat l.length) k) (l:=l) (l' := l') (p:=opQ) (bad:=some (false,())) (fin:=some (true,())) (N:=0) e
    (fun n i a b ha hb=>by
     have hi:=(List.getElem?_eq_some_iff.1 ha).1
     rw [Q5,ltL ha,cond_true,ix_s ha,ix_s hb,wS (show i<1000000000000 by omega),notB]
     rfl)
    (fun n hn=>by rw [Q5,geL,cond_false]) fuel (by omega)]
   cases zipB opQ l l' <;> rfl
 · rw [show (l.length==l'.length)=false by simpa using e]
   rfl
theorem Ym9 (l l' : List Cn)(h:l.length≤100000):Zn l l' = some (eqL chQ l l',()):=by
 have hf:=Yn
 rw [Za6,Zbw,notB,eqL]
 by_cases e:l.length=l'.length
 · rw [show (l.length==l'.length)=true by simpa using e,cond_true,Bool.true_and]
   rw [Zo0 (f:=fun n k=>Zm n l l' (Int.ofNat l.length) k) (l:=l) (l' := l') (p:=chQ) (bad:=some (false,())) (fin:=some (true,())) (N:=0) e
    (fun n i a b ha hb=>by
     have hi:=(List.getElem?_eq_some_iff.1 ha).1
     rw [Yy,ltL ha,cond_true,ix_s ha,ix_s hb,wS (show i<1000000000000 by omega),notB]
     rfl)
    (fun n hn=>by rw [Yy,geL,cond_false]) fuel (by omega)]
   cases zipB chQ l l' <;> rfl
 · rw [show (l.length==l'.length)=false by simpa using e]
   rfl
theorem Yna (l l' : List Evt)(h:l.length≤100000):Yl l l' = some (eqL evQ l l',()):=by
 have hf:=Yn
 rw [Zb4,Zbw,notB,eqL]
 by_cases e:l.length=l'.length
 · rw [show (l.length==l'.length)=true by simpa using e,cond_true,Bool.true_and]
   rw [Zo0 (f:=fun n k=>Zt n l l' (Int.ofNat l.length) k) (l:=l) (l' := l') (p:=evQ) (bad:=some (false,())) (fin:=some (true,())) (N:=0) e
    (fun n i a b ha hb=>by
     have hi:=(List.getElem?_eq_some_iff.1 ha).1
     rw [Xn,ltL ha,cond_true,ix_s ha,ix_s hb,wS (show i<1000000000000 by omega),notB]
     rfl)
    (fun n hn=>by rw [Xn,geL,cond_false]) fuel (by omega)]
   cases zipB evQ l l' <;> rfl
 · rw [show (l.length==l'.length)=false by simpa using e]
   rfl
theorem Ynb (l l' : List (Int×Unit))(h:l.length≤100000):Xx l l' = some (eqL ivQ l l',()):=by
 have hf:=Yn
 rw [Zff,Zbw,notB,eqL]
 by_cases e:l.length=l'.length
 · rw [show (l.length==l'.length)=true by simpa using e,cond_true,Bool.true_and]
   rw [Zo0 (f:=fun n k=>Yd n l l' (Int.ofNat l.length) k) (l:=l) (l' := l') (p:=ivQ) (bad:=some (false,())) (fin:=some (true,())) (N:=0) e
    (fun n i a b ha hb=>by
     have hi:=(List.getElem?_eq_some_iff.1 ha).1
     rw [Zat,ltL ha,cond_true,ix_s ha,ix_s hb,wS (show i<1000000000000 by omega),bne,notB]
     rfl)
    (fun n hn=>by rw [Zat,geL,cond_false]) fuel (by omega)]
   cases zipB ivQ l l' <;> rfl
 · rw [show (l.length==l'.length)=false by simpa using e]
   rfl
def Zhg (t t' : Tsk):Bool:=(t.1==t'.1&&(t.2.1==t'.2.1&&true))&&(t.2.2.1==t'.2.2.1&&((t.2.2.2.1.length==0&&(t.2.2.2.2.2.1.length==0&&(t.2.2.2.2.2.2.2.1.length==0&&t.2.2.2.2.2.2.2.2.1.length==0)))&&(eqL ivQ t.2.2.2.2.1 t'.2.2.2.2.1&&eqL evQ t.2.2.2.2.2.2.1 t'.2.2.2.2.2.2.1)))
theorem Ync {t t' : Tsk}(h:TLen t):Znk t t' = some (Zhg t t',()):=by
 have h1:=h.h1;have h2:=h.h2;have h3:=h.h3;have h4:=h.h4;have h5:=h.h5;have h6:=h.h6
 rw [Zzr,Ynb _ _ h2,Yna _ _ h4]
 have e:(Go.IntKind.wrap .i64 (Go.IntKind.wrap .i64 (Go.IntKind.wrap .i64 (Int.ofNat t.2.2.2.1.length+Int.ofNat t.2.2.2.2.2.1.length)+Int.ofNat t.2.2.2.2.2.2.2.1.length)+Int.ofNat t.2.2.2.2.2.2.2.2.1.length)==0) =
     (t.2.2.2.1.length==0&&(t.2.2.2.2.2.1.length==0&&(t.2.2.2.2.2.2.2.1.length==0&&t.2.2.2.2.2.2.2.2.1.length==0))):=by
   simp only [Int.ofNat_eq_natCast]
   rw [w64 (x:=(t.2.2.2.1.length:Int)+(t.2.2.2.2.2.1.length:Int)) (by omega) (by omega),w64 (x:=(t.2.2.2.1.length:Int)+(t.2.2.2.2.2.1.length:Int)+(t.2.2.2.2.2.2.2.1.length:Int)) (by omega) (by omega),w64 (by omega) (by omega)]
   rw [Bool.eq_iff_iff]
   simp only [beq_iff_eq,Bool.and_eq_true]
   omega
 rw [e]
 unfold Zhg
 dsimp only
 cases (t.1==t'.1&&(t.2.1==t'.2.1&&true)) with
 | false=>rfl
 | true =>
  cases (t.2.2.1==t'.2.2.1) with
  | false=>rfl
  | true =>
   cases (t.2.2.2.1.length==0&&(t.2.2.2.2.2.1.length==0&&(t.2.2.2.2.2.2.2.1.length==0&&t.2.2.2.2.2.2.2.2.1.length==0))) with
   | false=>rfl
   | true =>
    cases eqL ivQ t.2.2.2.2.1 t'.2.2.2.2.1 <;> cases eqL evQ t.2.2.2.2.2.2.1 t'.2.2.2.2.2.2.1 <;> rfl
end Tg

/- The reference's Same against a new task, and the events that are left. -/
namespace Tg
open Go
open Go.Abs (Zb Zj tmm)
theorem Yez (l:List Snd):Zfl l []=some (l.length==0,()):=by
 have hf:=Yn
 obtain⟨n,hn⟩:∃ n,fuel=n+1:=⟨fuel - 1,by omega⟩
 rw [Zqm,Zbw,notB]
 cases l with
 | nil =>
  rw [hn,Zpe]
  rfl
 | cons a l=>rfl
theorem Yk1 (n:Nat)(hn:20≤n):Zgz n [] [] [] []=some (true,()):=by
 obtain⟨k,rfl⟩:∃ k,n=k+1+1+1+1:=⟨n - 4,by omega⟩
 rw [Zvp,Zvr,show decide ((0:Int)<Int.ofNat ([]:List Row5).length)=false from rfl,cond_false,Zvq,Zvs,show decide ((0:Int)<Int.ofNat ([]:List Rec3).length)=false from rfl,cond_false]
theorem Yri {t:Tsk}(h:TLen t)(k N u:Int)(mk:List (Int×Unit))(ev:List Evt):Zpf t (k,N,u,[],mk,[],ev,[],[],())=some (Zhg t (k,N,u,[],mk,[],ev,[],[],()),()):=by
 have hf:=Yn
 have h1:=h.h1;have h2:=h.h2;have h3:=h.h3;have h4:=h.h4;have h5:=h.h5;have h6:=h.h6
 obtain⟨a,b,c,p,m,s,e,r,l,z⟩:=t
 dsimp only at h1 h2 h3 h4 h5 h6
 rw [Z2p]
 dsimp only
 rw [Yez,Option.bind_some,Zbw,Zbw,Zbw,Zbw,Zbw]
 unfold Zhg
 dsimp only
 rw [notB]
 cases (a==k&&(b==N&&true)) with
 | false=>rfl
 | true =>
 rw [cond_true,Bool.true_and,bne,notB]
 cases (c==u) with
 | false=>rfl
 | true =>
 rw [cond_true,Bool.true_and,notB]
 cases hp:(p.length==0) with
 | false=>simp [hp]
 | true =>
 rw [cond_true,notB]
 cases hm:(m.length==mk.length) with
 | false=>simp [eqL,hm]
 | true =>
 rw [cond_true,notB]
 rw [show (s.length==([]:List Ent).length)=(s.length==0) from rfl]
 cases hs:(s.length==0) with
 | false=>simp [hs]
 | true =>
 rw [cond_true,notB]
 cases he:(e.length==ev.length) with
 | false=>simp [eqL,he]
 | true =>
 rw [cond_true,notB]
 rw [show (r.length==([]:List Row5).length)=(r.length==0) from rfl]
 cases hr:(r.length==0) with
 | false=>simp [hr]
 | true =>
 rw [cond_true,notB]
 rw [show (l.length==([]:List Rec3).length)=(l.length==0) from rfl]
 cases hl:(l.length==0) with
 | false=>simp [hl]
 | true =>
 rw [cond_true]
 obtain rfl:s=[]:=List.length_eq_zero_iff.1 (by simpa using hs)
 obtain rfl:r=[]:=List.length_eq_zero_iff.1 (by simpa using hr)
 obtain rfl:l=[]:=List.length_eq_zero_iff.1 (by simpa using hl)
 have hm2:m.length=mk.length:=by simpa using hm
 have he2:e.length=ev.length:=by simpa using he
 have e23:∀ n,e.length+30≤n→Zbj n e [] [] ev [] [] 0=some (zipB evQ e ev,()):=fun n hn=>by
  rw [Zo0 (f:=fun n k=>Zbj n e [] [] ev [] [] k) (l:=e) (l' := ev) (p:=evQ) (bad:=some (false,())) (fin:=some (true,())) (N:=21) he2
   (fun n i a b ha hb=>by
    have hi:=(List.getElem?_eq_some_iff.1 ha).1
    rw [Zlx,ltL ha,cond_true,ix_s ha,ix_s hb,wS (show i<1000000000000 by omega),notB]
    rfl)
   (fun n hn=>by
    rw [Zlx,geL,cond_false]
    exact Yk1 n (by omega)) n (by omega)]
  cases zipB evQ e ev <;> rfl
 rw [Zo0 (f:=fun n k=>Zeo n m [] e [] [] mk [] ev [] [] k) (l:=m) (l' := mk) (p:=ivQ) (bad:=some (false,())) (fin:=some (zipB evQ e ev,())) (N:=e.length+100) hm2
  (fun n i a b ha hb=>by
   have hi:=(List.getElem?_eq_some_iff.1 ha).1
   rw [Zoj,ltL ha,cond_true,ix_s ha,ix_s hb,wS (show i<1000000000000 by omega),bne,notB]
   rfl)
  (fun n hn=>by
   obtain⟨k,rfl⟩:∃ k,n=k+1+1+1:=⟨n - 3,by omega⟩
   rw [Zoj,geL,cond_false,Zx2,Zvo,show decide ((0:Int)<Int.ofNat ([]:List Ent).length)=false from rfl,cond_false,Zvn]
   exact e23 k (by omega)) fuel (by omega)]
 simp only [eqL,hm,he]
 cases zipB ivQ m mk <;> cases zipB evQ e ev <;> rfl
theorem Yk2 {m:Mch}(hm:MLen m)(h1:(mT m).length≤1000):Zfg m=some (givL (mT m),()):=by
 have hf:=Yn
 have fold:∀ (l:List Tsk) (s:List (List Evt×Unit)),l.foldl (fun s t=>bif t.1==1 then s++[(t.2.2.2.2.2.2.1,())] else s) s=s++givL l:=by
  intro l
  induction l with
  | nil=>intro s;simp [givL]
  | cons t l ih =>
   intro s
   rw [List.foldl_cons,ih]
   unfold givL
   cases h:(t.1==1) <;> simp [h]
 have:=Yni (f:=fun n s k=>Zbu n s (mT m) (Int.ofNat (mT m).length) k) (l:=mT m) (g:=fun s (t:Tsk)=>bif t.1==1 then s++[(t.2.2.2.2.2.2.1,())] else s) (fin:=fun s=>some (s,())) (N:=0) (fun i s=>s.length≤i)
  (fun n s i t ht hp=>by
   have hi:=(List.getElem?_eq_some_iff.1 ht).1
   have hl:=(hm.t t (List.mem_of_getElem? ht)).h4
   have b:Zb (s.length+List.length [(t.2.2.2.2.2.2.1,())]) 24=true:=Zay (by simp;omega) (by omega)
   refine⟨?_,?_⟩
   · rw [Znl,ltL ht,cond_true,ix_s ht,wS (show i<1000000000000 by omega),Zcy (show t.2.2.2.2.2.2.1.length≤1000000 by omega) (show 40≤1000 by omega),Option.bind_some,b,cond_true]
     cases (t.1==1) <;> rfl
   · cases (t.1==1) with
     | false=>show s.length≤i+1;omega
     | true=>show (s++[(t.2.2.2.2.2.2.1,())]).length≤i+1;simp;omega)
  (fun n s hn hp=>by
   rw [Znl,geL]
   rfl) fuel [] (Nat.le_refl _) (by omega)
 rw [Zzs]
 refine this.trans ?_
 rw [fold]
 rfl
end Tg

/- The numbers of a graph: the program and the reference take the same. -/
namespace Tg
open Go
open Go.Abs (Zb Zj tmm)
def prs:List (Int×Int):=[(1,1),(1,2),(1,3),(1,4),(1,5),(1,6),(1,7),(1,8),(2,1),(2,2),(2,3),(2,4),(2,5),(2,6),(2,7),(2,8),(3,1),(3,2),(3,3),(3,4),(3,5),(3,6),(3,7),(3,8)]
def Zo1 {β:Type}(hit:Int×Int→Bool)(no:β)(res:Int×Int→β):List (Int×Int)→β
 | []=>no
 | x::l=>bif hit x then res x else Zo1 hit no res l
theorem Zkb (hit:Int×Int→Bool):∀ (l:List (Int×Int)),(∃ x∈l,hit x=true ∧ ∀ {β:Type} (no:β) (res:Int×Int→β),Zo1 hit no res l=res x)∨(∀ {β:Type} (no:β) (res:Int×Int→β),Zo1 hit no res l=no)
 | []=>.inr fun _ _=>rfl
 | x::l=>by
  cases h:hit x with
  | true=>exact .inl ⟨x,by simp,h,fun no res=>by rw [Zo1,h,cond_true]⟩
  | false =>
   rcases Zkb hit l with ⟨y,h1,h2,h3⟩ | h3
   · exact .inl ⟨y,by simp [h1],h2,fun no res=>by rw [Zo1,h,cond_false,h3]⟩
   · exact .inr fun no res=>by rw [Zo1,h,cond_false,h3]
theorem Yk3 {β:Type}{f8:Nat→Int→β}{f13:Nat→Int→Int→β}{hit:Int×Int→Bool}{no:β}{res:Int×Int→β}
    (h8:∀ n p,f8 (n+1) p=bif decide (p≤3) then f13 n p 1 else no)
    (h13:∀ n p r,1000≤n→1≤p→p≤3→1≤r→r≤8→f13 (n+1) p r=bif hit (p,r) then res (p,r) else f13 n p (Go.IntKind.wrap .i64 (r+1)))
    (h14:∀ n p,f13 (n+1) p 9=f8 n (Go.IntKind.wrap .i64 (p+1))) (n:Nat) (hn:2000≤n):f8 n 1=Zo1 hit no res prs:=by
  have row:∀ k p,1000≤k→1≤p→p≤3→f13 (k+9) p 1=Zo1 hit (f8 k (Go.IntKind.wrap .i64 (p+1))) res [(p,1),(p,2),(p,3),(p,4),(p,5),(p,6),(p,7),(p,8)]:=by
   intro k p hk h1 h3
   rw [h13 (k+8) p 1 (by omega) h1 h3 (by omega) (by omega),show Go.IntKind.wrap .i64 ((1:Int)+1)=2 from rfl]
   rw [h13 (k+7) p 2 (by omega) h1 h3 (by omega) (by omega),show Go.IntKind.wrap .i64 ((2:Int)+1)=3 from rfl]
   rw [h13 (k+6) p 3 (by omega) h1 h3 (by omega) (by omega),show Go.IntKind.wrap .i64 ((3:Int)+1)=4 from rfl]
   rw [h13 (k+5) p 4 (by omega) h1 h3 (by omega) (by omega),show Go.IntKind.wrap .i64 ((4:Int)+1)=5 from rfl]
   rw [h13 (k+4) p 5 (by omega) h1 h3 (by omega) (by omega),show Go.IntKind.wrap .i64 ((5:Int)+1)=6 from rfl]
   rw [h13 (k+3) p 6 (by omega) h1 h3 (by omega) (by omega),show Go.IntKind.wrap .i64 ((6:Int)+1)=7 from rfl]
   rw [h13 (k+2) p 7 (by omega) h1 h3 (by omega) (by omega),show Go.IntKind.wrap .i64 ((7:Int)+1)=8 from rfl]
   rw [h13 (k+1) p 8 (by omega) h1 h3 (by omega) (by omega),show Go.IntKind.wrap .i64 ((8:Int)+1)=9 from rfl,h14]
   rfl
  obtain⟨k,rfl⟩:∃ k,n=k+1+9+1+9+1+9+1:=⟨n - 31,by omega⟩
  rw [h8,show decide ((1:Int)≤3)=true from rfl,cond_true,row _ 1 (by omega) (by omega) (by omega),show Go.IntKind.wrap .i64 ((1:Int)+1)=2 from rfl]
  rw [h8,show decide ((2:Int)≤3)=true from rfl,cond_true,row _ 2 (by omega) (by omega) (by omega),show Go.IntKind.wrap .i64 ((2:Int)+1)=3 from rfl]
  rw [h8,show decide ((3:Int)≤3)=true from rfl,cond_true,row _ 3 (by omega) (by omega) (by omega),show Go.IntKind.wrap .i64 ((3:Int)+1)=4 from rfl]
  rw [h8,show decide ((4:Int)≤3)=false from rfl,cond_false]
  rfl
theorem Yrj (g g' : Gr)(h1:g.1.length≤100000)(h2:g.2.1.length≤100000):Zpt g g' = some (eqL opQ g.1 g'.1&&eqL chQ g.2.1 g'.2.1,()):=by
 obtain⟨n,hn⟩:=Xc
 rw [Z4i,Zbw,Zbw,notB,notB,eqL,eqL]
 cases e1:(g.1.length==g'.1.length) with
 | false=>rfl
 | true =>
  cases e2:(g.2.1.length==g'.2.1.length) with
  | false=>rw [cond_true,cond_false,Bool.false_and,Bool.and_false]
  | true =>
   have e1:g.1.length=g'.1.length:=by simpa using e1
   have e2:g.2.1.length=g'.2.1.length:=by simpa using e2
   have e14:∀ n,g.2.1.length+2≤n→Zbs n g.2.1 g'.2.1 0=bif zipB chQ g.2.1 g'.2.1 then some (true,()) else some (false,()):=fun n hn =>
    Zo0 (f:=fun n k=>Zbs n g.2.1 g'.2.1 k) (l:=g.2.1) (l' := g'.2.1) (p:=chQ) (N:=0) e2
     (fun n i a b ha hb=>by
      have hi:=(List.getElem?_eq_some_iff.1 ha).1
      simp only [Zni,ltL ha,cond_true,iN,Int.toNat_natCast,ha,hb,wS (show i<1000000000000 by omega)]
      rw [notB]
      rfl)
     (fun n hn=>by rw [Zni,geL,cond_false]) n (by omega)
   have:=Zo0 (f:=fun n k=>Ze4 n g.1 g.2.1 g'.1 g'.2.1 k) (l:=g.1) (l' := g'.1) (p:=opQ) (N:=g.2.1.length+10) (bad:=some (false,())) (fin:=bif zipB chQ g.2.1 g'.2.1 then some (true,()) else some (false,())) e1
    (fun n i a b ha hb=>by
     have hi:=(List.getElem?_eq_some_iff.1 ha).1
     simp only [Zov,ltL ha,cond_true,iN,Int.toNat_natCast,ha,hb,wS (show i<1000000000000 by omega)]
     rw [notB]
     rfl)
    (fun n hn=>by
     obtain⟨k,rfl⟩:∃ k,n=k+1:=⟨n - 1,by omega⟩
     rw [Zov,geL,cond_false,Zzp]
     exact e14 k (by omega)) fuel (by omega)
   simp only [cond_true,this,Bool.true_and]
   cases zipB opQ g.1 g'.1 <;> cases zipB chQ g.2.1 g'.2.1 <;> rfl
def hitR (m:Mch)(x:Int×Int):Bool :=
 let q:=mQ m
 eqL opQ (opsG q.2.2.1.length (partsOf q x.1) q.2.2.2.2.2.2.2.2.1 q.2.2.2.1 (q.2.2.2.2.2.2.2.2.2.1==2)) (mG m).1&&eqL chQ (chG q.2.2.1.length (partsOf q x.1) q.2.2.2.2.2.2.2.2.1 (q.2.2.2.2.2.2.2.2.2.1==2) x.2) (mG m).2.1
structure QS (q:Qr):Prop where
 ok:(chkQ q).2.1=0
 h1:q.2.1.length≤1000
 h2:q.2.2.1.length≤1000
 h3:q.2.2.2.2.1.length≤1000
 n:1≤q.2.2.1.length∧q.2.2.1.length≤4
theorem Ydh {l:List Nd}(h:errN l=0):l.length≤1000:=by
 unfold errN at h
 by_cases h1:60<l.length
 · rw [if_pos h1] at h;cases h
 · omega
theorem qs {q:Qr}(h:(chkQ q).2.1=0):QS q:=by
 have hc:=Z7r h
 obtain⟨a,b,_⟩:=Yjk hc
 have n:=Zq9 (Zn2 hc)
 refine⟨h,?_,by omega,?_,n⟩
 · by_cases z:q.2.1.length=0
   · omega
   · exact Ydh (a z)
 · by_cases z:q.2.2.2.2.1.length=0
   · omega
   · exact Ydh (b z)
theorem Ye0 {m:Mch}(hq:QS (mQ m))(hl:(mG m).1.length≤100000):Zil m=some (Zo1 (hitR m) (0,0,false,()) (fun x=>(x.1,x.2,true,())) prs):=by
 obtain⟨s,hs⟩:=Yda hq.ok hq.h1 hq.h2 hq.h3
 have hs' : Zng (m.1,m.2.1,m.2.2.1,m.2.2.2.1,m.2.2.2.2.1,m.2.2.2.2.2.1,m.2.2.2.2.2.2.1,m.2.2.2.2.2.2.2.1,m.2.2.2.2.2.2.2.2.1,m.2.2.2.2.2.2.2.2.2.1,())=some ((s,mQ m),0,()):=hs
 have hf:=Yn
 rw [Ztu,hs',Option.bind_some]
 refine (Yk3 (hit:=hitR m) (no:=some (0,0,false,())) (res:=fun x=>some (x.1,x.2,true,()))
  (f8:=fun n p=>Zb5 n m.2.2.2.2.2.2.2.2.2.2.1 m.2.2.2.2.2.2.2.2.2.2.2.1 s (mQ m).1 (mQ m).2.1 (mQ m).2.2.1 (mQ m).2.2.2.1 (mQ m).2.2.2.2.1 (mQ m).2.2.2.2.2.1 (mQ m).2.2.2.2.2.2.1 (mQ m).2.2.2.2.2.2.2.1 (mQ m).2.2.2.2.2.2.2.2.1 (mQ m).2.2.2.2.2.2.2.2.2.1 p)
  (f13:=fun n p r=>Zbe n m.2.2.2.2.2.2.2.2.2.2.1 m.2.2.2.2.2.2.2.2.2.2.2.1 s (mQ m).1 (mQ m).2.1 (mQ m).2.2.1 (mQ m).2.2.2.1 (mQ m).2.2.2.2.1 (mQ m).2.2.2.2.2.1 (mQ m).2.2.2.2.2.2.1 (mQ m).2.2.2.2.2.2.2.1 (mQ m).2.2.2.2.2.2.2.2.1 (mQ m).2.2.2.2.2.2.2.2.2.1 p r)
  (fun n p=>by rw [Zsh]) (fun n p r hn p1 p3 r1 r8=>?_) (fun n p=>?_) fuel (by omega)).trans ?_
 · have hm:=Yko (q:=mQ m) (inp:=List.replicate (mQ m).2.2.1.length ([],())) s (by simp) (by simp;exact hq.n.1) (by simp;exact hq.n.2) p1 p3 r
   rw [List.length_replicate] at hm
   have hP:=Zka (mQ m) ⟨p1,p3⟩
   have o1:=(Zuc (mQ m).2.2.1.length (partsOf (mQ m) p) hq.n hP (mQ m).2.2.2.2.2.2.2.2.1 (mQ m).2.2.2.1 ((mQ m).2.2.2.2.2.2.2.2.2.1==2)).1
   have c1:=(Z4m (mQ m).2.2.1.length (partsOf (mQ m) p) hq.n hP (mQ m).2.2.2.2.2.2.2.2.1 ((mQ m).2.2.2.2.2.2.2.2.2.1==2) r).1
   rw [Zh7,show decide (r≤8)=true from decide_eq_true r8,cond_true]
   rw [show (s,(mQ m).1,(mQ m).2.1,(mQ m).2.2.1,(mQ m).2.2.2.1,(mQ m).2.2.2.2.1,(mQ m).2.2.2.2.2.1,(mQ m).2.2.2.2.2.2.1,(mQ m).2.2.2.2.2.2.2.1,(mQ m).2.2.2.2.2.2.2.2.1,(mQ m).2.2.2.2.2.2.2.2.2.1,())=(s,mQ m) from rfl,hm,Option.bind_some]
   rw [Yrj _ (m.2.2.2.2.2.2.2.2.2.2.1,m.2.2.2.2.2.2.2.2.2.2.2.1,()) (by dsimp only;omega) (by dsimp only;omega),Option.bind_some]
   rfl
 · rw [Zh7]
   rfl
 · rcases Zkb (hitR m) prs with ⟨x,_,_,h⟩ | h <;> rw [h,h]
end Tg

/- Fresh machines: what the program and the reference say. -/
namespace Tg
open Go
open Go.Abs (Zb Zj tmm)
theorem Z7v {α:Type}(p:α→α→Bool):∀ (l l' : List α),zipB p l l' = zipB (fun a b=>p b a) l' l
 | [],[]=>rfl
 | [],_::_=>rfl
 | _::_,[]=>rfl
 | a::l,b::l' => by
  have:=Z7v p l l'
  unfold zipB at this ⊢
  rw [List.zip_cons_cons,List.zip_cons_cons,List.all_cons,List.all_cons,this]
theorem Yrk {α:Type}{p:α→α→Bool}{l l' : List α}(h:zipB p l l' = true){i:Nat}{e e' : α}(h1:l[i]? = some e)(h2:l'[i]? = some e'):p e e' = true:=by
 have hz:(l.zip l')[i]? = some (e,e'):=List.getElem?_zip_eq_some.2 ⟨h1,h2⟩
 unfold zipB at h
 exact List.all_eq_true.1 h _ (List.mem_of_getElem? hz)
theorem Yu3 {α γ β:Type}{f:Nat→Int→Option β}{l:List α}{l' : List γ}{p:α→γ→Bool}{bad fin:Option β}{N:Nat}(hl:l.length=l'.length)
    (hs:∀ n (i:Nat) e e',l[i]? = some e→l'[i]? = some e' → f (n+1) (i:Int)=bif p e e' then f n ((i+1:Nat):Int) else bad)
    (he:∀ n,N≤n→f (n+1) (l.length:Int)=fin) (n:Nat) (hn:N+l.length+1≤n):f n 0=bif (l.zip l').all (fun x=>p x.1 x.2) then fin else bad:=by
  have hz:(l.zip l').length=l.length:=by rw [List.length_zip];omega
  exact Ze9 (f:=f) (l:=l.zip l') (p:=fun x=>p x.1 x.2) (bad:=bad) (fin:=fin) (N:=N)
   (fun n i x hx=>by
    obtain⟨a,b⟩:=x
    obtain⟨h1,h2⟩:=List.getElem?_zip_eq_some.1 hx
    exact hs n i a b h1 h2)
   (fun n hn=>by rw [hz];exact he n hn) n (by omega)
theorem Ydi {α γ:Type}{p:α→γ→Bool}{g:α→Bool}:∀ {l:List α} {l' : List γ},l.length=l'.length→(∀ (i:Nat) e e',l[i]? = some e→l'[i]? = some e' → p e e' = g e)→(l.zip l').all (fun x=>p x.1 x.2)=l.all g
 | [],[],_,_=>rfl
 | [],_::_,h,_=>by simp at h
 | _::_,[],h,_=>by simp at h
 | a::l,b::l',h,hp=>by
  rw [List.zip_cons_cons,List.all_cons,List.all_cons,Ydi (by simpa using h) (fun i e e' h1 h2=>hp (i+1) e e' (by simpa using h1) (by simpa using h2))]
  rw [show p (a,b).1 (a,b).2=g a from hp 0 a b rfl rfl]
theorem Ye1 (l:List Msg):Zg2 l []=some (l.length==0,()):=by
 obtain⟨n,hn⟩:∃ n,fuel=n+1:=⟨fuel - 1,by have:=Yn;omega⟩
 rw [Zrs,Zbw,notB]
 cases l with
 | nil =>
  rw [hn,Zqn]
  rfl
 | cons a l=>rfl
def Zd1 (u:Que):Bool:=u.2.1.length==0
theorem Ye2 {us:List Que}{cs:List Cn}(h:us.length≤100000)(hl:us.length=cs.length)(hr:∀ (i:Nat) u c,us[i]? = some u→cs[i]? = some c→u.1=c.2.2.2.2.1):Zep us (cs.map qOf)=some (us.all Zd1,()):=by
 have hf:=Yn
 rw [Ztd,Zbw,notB,List.length_map,show (us.length==cs.length)=true by simpa using hl,cond_true]
 rw [Yu3 (f:=fun n k=>Zb1 n us (cs.map qOf) k) (l:=us) (l' := cs) (p:=fun u c=>u.1==c.2.2.2.2.1&&Zd1 u) (bad:=some (false,())) (fin:=some (true,())) (N:=0) hl
  (fun n i a b ha hb=>by
   have hi:=(List.getElem?_eq_some_iff.1 ha).1
   rw [Zis,ltL ha,cond_true,ix_s ha,ix_s (show (cs.map qOf)[i]? = some (qOf b) by rw [List.getElem?_map,hb];rfl),Z2q,wS (show i<1000000000000 by omega)]
   unfold qOf Zd1
   dsimp only
   rw [Ye1]
   cases (a.1==b.2.2.2.2.1) <;> cases (a.2.1.length==0) <;> rfl)
  (fun n hn=>by rw [Zis,geL,cond_false]) fuel (by omega)]
 rw [show ((us.zip cs).all fun x=>x.1.1==x.2.2.2.2.2.1&&Zd1 x.1)=us.all Zd1 from Ydi (p:=fun u c=>u.1==c.2.2.2.2.1&&Zd1 u) hl (fun i e e' h1 h2=>by
  show (e.1==e'.2.2.2.2.1&&Zd1 e)=Zd1 e
  rw [hr i e e' h1 h2,beq_self_eq_true,Bool.true_and])]
 cases us.all Zd1 <;> rfl
theorem Ye3 (n:Nat)(inp:Inp)(o:Op2):∃ k N u mk ev,Xi n inp o=(k,N,u,[],mk,[],ev,[],[],()):=by
 unfold Xi
 cases (o.1==1)
 · cases (o.1==2)
   · cases (o.1==3)
     · cases (o.1==4)
       · cases (o.1==5)
         · cases (o.1==7)
           · exact⟨_,_,_,_,_,rfl⟩
           · exact⟨_,_,_,_,_,rfl⟩
         · exact⟨_,_,_,_,_,rfl⟩
       · exact⟨_,_,_,_,_,rfl⟩
     · exact⟨_,_,_,_,_,rfl⟩
   · exact⟨_,_,_,_,_,rfl⟩
 · exact⟨_,_,_,_,_,rfl⟩
theorem Ydj:∀ {l:Inp},(∀ x∈l,Zd7 x.1=0)→Zbc l=0
 | [],_=>rfl
 | a::l,h=>by
  rw [Zbc,h a (by simp),Q4,cond_false]
  exact Ydj fun x hx=>h x (by simp [hx])
structure Fine (m:Mch):Prop where
 l:MLen m
 q:QS (mQ m)
 ops:(mG m).1.length≤20
 chs:(mG m).2.1.length≤100
 tl:(mT m).length=(mG m).1.length
 ul:(mU m).length=(mG m).2.1.length
 room:∀ (i:Nat) u c,(mU m)[i]? = some u→(mG m).2.1[i]? = some c→u.1=c.2.2.2.2.1
 ev:∀ t∈mT m,t.1=1→Zd7 t.2.2.2.2.2.2.1=0
theorem fine {m:Mch}(hm:MLen m)(h:mchB ((chkQ (mQ m)).2.1==0) m=true):Fine m:=by
 unfold mchB at h
 rw [Bool.and_eq_true,Bool.and_eq_true,Bool.and_eq_true,Bool.and_eq_true,Bool.and_eq_true,beq_iff_eq,beq_iff_eq,beq_iff_eq,beq_iff_eq] at h
 obtain⟨h1,h2,h3,h4,h5,h6⟩:=h
 obtain⟨g1,g2,_⟩:=Yag h2
 refine⟨hm,qs h1,g1,g2,h3,h4,fun i u c hu hc=>?_,fun t ht hk=>?_⟩
 · have:=Z3n h5 hu
   rw [Nat.zero_add] at this
   unfold queI at this
   rw [hc] at this
   simp only [Bool.and_eq_true,beq_iff_eq] at this
   exact this.1
 · obtain⟨i,hi⟩:=List.getElem?_of_mem ht
   have:=Z3n h6 hi
   rw [Nat.zero_add] at this
   unfold fitB at this
   split at this
   · cases this
   · rw [Bool.and_eq_true] at this
     have ht:=(Bool.and_eq_true _ _ ▸ this.2).1
     unfold Zog at ht
     simp only [Bool.and_eq_true] at ht
     obtain⟨_,_,hk',_,_,_,he,_⟩:=ht
     unfold Zvk at hk'
     simp only [hk,beq_self_eq_true,cond_true,Bool.and_eq_true,decide_eq_true_eq] at hk'
     unfold Zd7
     rw [show decide ((t.2.2.2.2.2.2.1.length:Int)>60)=false from decide_eq_false (by omega),cond_false,show evOk=evtB from funext Z4k,he]
     rfl
theorem Fine.given {m:Mch}(h:Fine m):Zbc (givL (mT m))=0:=by
 refine Ydj fun x hx=>?_
 unfold givL at hx
 obtain⟨t,ht,rfl⟩:=List.mem_map.1 hx
 obtain⟨h1,h2⟩:=List.mem_filter.1 ht
 exact h.ev t h1 (by simpa using h2)
theorem Ydk (l:List Tsk):(givL l).length≤l.length:=by
 unfold givL
 rw [List.length_map]
 exact List.length_filter_le _ _
abbrev mkM (m:Mch)(x:Int×Int):Mch:=mOf (mQ m) (givL (mT m)) x.1 x.2
def Z4n (m:Mch)(x:Int×Int):Bool:=(mU m).all Zd1&&zipB Zhg (mT m) (mT (mkM m x))
def Zxs (m:Mch):Bool:=bif (givL (mT m)).length==(mQ m).2.2.1.length then Zo1 (hitR m) false (Z4n m) prs else false
theorem Yor {m:Mch}(he:(givL (mT m)).length=(mQ m).2.2.1.length){x:Int×Int}:hitR m x=(eqL opQ (mG (mkM m x)).1 (mG m).1&&eqL chQ (mG (mkM m x)).2.1 (mG m).2.1):=by
 unfold hitR mkM mOf mG
 dsimp only
 rw [he]
theorem Yk4 {m:Mch}(h:Fine m)(he:(givL (mT m)).length=(mQ m).2.2.1.length){x:Int×Int}(hx:hitR m x=true):Zpg m (mkM m x)=some (Z4n m x,()):=by
 have hf:=Yn
 rw [Yor he,Bool.and_eq_true] at hx
 obtain⟨e1,e2⟩:=hx
 unfold eqL at e1 e2
 rw [Bool.and_eq_true,beq_iff_eq] at e1 e2
 have t1:(mT (mkM m x)).length=(mT m).length:=by
  rw [h.tl,← e1.1]
  show (List.map _ _).length=_
  rw [List.length_map]
  rfl
 have hs:=Ye2 (us:=mU m) (cs:=(mG (mkM m x)).2.1) (by have:=h.ul;have:=h.chs;omega) (by rw [h.ul,e2.1]) (fun i u c hu hc=>by
  obtain⟨c',hc'⟩:∃ c',(mG m).2.1[i]? = some c' := ⟨_,List.getElem?_eq_getElem (by rw [← e2.1];exact (List.getElem?_eq_some_iff.1 hc).1)⟩
  have:=Yrk e2.2 hc hc'
  unfold chQ at this
  simp only [Bool.and_eq_true,beq_iff_eq] at this
  rw [h.room i u c' hu hc',this.2.2.2.2.1])
 rw [Z2r,Zbw,notB,show (m.2.2.2.2.2.2.2.2.2.2.2.2.1.length==(mkM m x).2.2.2.2.2.2.2.2.2.2.2.2.1.length)=true from by rw [beq_iff_eq];exact t1.symm,cond_true]
 rw [show Zep m.2.2.2.2.2.2.2.2.2.2.2.2.2.1 (mkM m x).2.2.2.2.2.2.2.2.2.2.2.2.2.1=some ((mU m).all Zd1,()) from hs,Option.bind_some,notB]
 unfold Z4n
 cases (mU m).all Zd1 with
 | false=>rfl
 | true =>
  rw [cond_true,Bool.true_and]
  refine (Zo0 (f:=fun n k=>Zeq n (mT m) (mT (mkM m x)) k) (l:=mT m) (l' := mT (mkM m x)) (p:=Zhg) (bad:=some (false,())) (fin:=some (true,())) (N:=0) t1.symm
   (fun n i a b ha hb=>?_)
   (fun n hn=>by rw [Zok,geL,cond_false]) fuel (by have:=h.tl;have:=h.ops;omega)).trans ?_
  · have hi:=(List.getElem?_eq_some_iff.1 ha).1
    have hb' := hb
    rw [show mT (mkM m x)=List.map (Xi (givL (mT m)).length (givL (mT m))) _ from rfl,List.getElem?_map,Option.map_eq_some_iff] at hb'
    obtain⟨o,_,ho⟩:=hb'
    obtain⟨k,N,u,mk,ev,hform⟩:=Ye3 (givL (mT m)).length (givL (mT m)) o
    rw [ho] at hform
    rw [Zok,ltL ha,cond_true,ix_s ha,ix_s hb,wS (show i<1000000000000 by have:=h.tl;have:=h.ops;omega),hform,Yri (h.l.t a (List.mem_of_getElem? ha)),Option.bind_some,notB]
  · cases zipB Zhg (mT m) (mT (mkM m x)) <;> rfl
end Tg

/- The law of BuildFresh in plain words. -/
namespace Tg
open Go
open Go.Abs (Zb Zj tmm)
theorem Yos {m:Mch}(h:Fine m)(he:(givL (mT m)).length=(mQ m).2.2.1.length){p r:Int}(p1:1≤p)(p3:p≤3)(r1:1≤r)(r8:r≤8):askE (mQ m) (givL (mT m)) p r=0:=by
 unfold askE
 rw [h.q.ok,he,h.given,Q4,Q4,cond_false,cond_false,cond_false]
 unfold prE
 rw [show decide (p<1)=false from decide_eq_false (by omega),show decide (p>3)=false from decide_eq_false (by omega),show decide (r<1)=false from decide_eq_false (by omega),show decide (r>8)=false from decide_eq_false (by omega)]
 rfl
theorem Yu4 {m:Mch}(h:Fine m)(he:(givL (mT m)).length≠(mQ m).2.2.1.length)(p r:Int):askE (mQ m) (givL (mT m)) p r=2:=by
 unfold askE
 rw [h.q.ok,Q4,cond_false,show (((givL (mT m)).length:Int) != ((mQ m).2.2.1.length:Int))=true from by simp;omega]
 rfl
theorem Yk5 (us:List Que)(n:Nat)(hn:200≤n)(hl:us.length≤100):Zfp n us=some (us.all Zd1,0,()):=by
 obtain⟨k,rfl⟩:∃ k,n=k+1:=⟨n - 1,by omega⟩
 rw [Ztv]
 refine (Ze9 (f:=fun n k=>Zcp n us (Int.ofNat us.length) k) (l:=us) (p:=Zd1) (bad:=some (false,0,())) (fin:=some (true,0,())) (N:=0)
  (fun n i u hu=>?_) (fun n hn=>by rw [Zk0,geL,cond_false]) k (by omega)).trans ?_
 · have hi:=(List.getElem?_eq_some_iff.1 hu).1
   rw [Zk0,ltL hu,cond_true,ix_s hu,wS (show i<1000000000000 by omega),show decide ((i:Int)≥0)=true from decide_eq_true (by omega)]
   unfold Zd1
   cases h:u.2.1 with
   | nil=>rfl
   | cons a l =>
    rw [show decide (Int.ofNat (a::l).length>0)=true from decide_eq_true (by simp)]
    rfl
 · cases us.all Zd1 <;> rfl
theorem Ynd (m:Mch)(h:Fine m)(ts:List Tsk)(hl:ts.length=(mT m).length)(n:Nat)(hn:1000≤n):Za8 n (mT m) ts (Int.ofNat ts.length) 0 (mU m)=some ((mU m).all Zd1&&zipB Zhg (mT m) ts,0,()):=by
 have l1:=h.tl
 have l2:=h.ops
 have l3:=h.ul
 have l4:=h.chs
 refine (Zo0 (f:=fun n k=>Za8 n (mT m) ts (Int.ofNat ts.length) k (mU m)) (l:=ts) (l' := mT m) (p:=fun a b=>Zhg b a) (bad:=some (false,0,())) (fin:=some ((mU m).all Zd1,0,())) (N:=400) hl
  (fun n i a b ha hb=>?_)
  (fun n hn=>by
   rw [Zkz,geL,cond_false]
   exact Yk5 _ _ (by omega) (by omega)) n (by omega)).trans ?_
 · have hi:=(List.getElem?_eq_some_iff.1 ha).1
   rw [Zkz,ltL ha,cond_true,ix_s ha,ix_s hb,wS (show i<1000000000000 by omega),Ync (h.l.t b (List.mem_of_getElem? hb)),Option.bind_some,notB]
 · rw [Z7v Zhg (mT m) ts]
   cases zipB (fun a b=>Zhg b a) ts (mT m) <;> cases (mU m).all Zd1 <;> rfl
theorem Yrl {m:Mch}(h:Fine m)(hc:Zhb m=some (0,())):Zh9 m=some (Zxs m,0,()):=by
 have hf:=Yn
 have l1:=h.tl
 have l2:=h.ops
 have l4:=h.chs
 have l5:=Ydk (mT m)
 have hg:Zfg (m.1,m.2.1,m.2.2.1,m.2.2.2.1,m.2.2.2.2.1,m.2.2.2.2.2.1,m.2.2.2.2.2.2.1,m.2.2.2.2.2.2.2.1,m.2.2.2.2.2.2.2.2.1,m.2.2.2.2.2.2.2.2.2.1,m.2.2.2.2.2.2.2.2.2.2.1,m.2.2.2.2.2.2.2.2.2.2.2.1,m.2.2.2.2.2.2.2.2.2.2.2.2.1,m.2.2.2.2.2.2.2.2.2.2.2.2.2.1,())=some (givL (mT m),()):=Yk2 (m:=m) h.l (by omega)
 have hb:∀ p r,Zh4 (m.1,m.2.1,m.2.2.1,m.2.2.2.1,m.2.2.2.2.1,m.2.2.2.2.2.1,m.2.2.2.2.2.2.1,m.2.2.2.2.2.2.2.1,m.2.2.2.2.2.2.2.2.1,m.2.2.2.2.2.2.2.2.2.1,()) (givL (mT m)) p r=some (bif askE (mQ m) (givL (mT m)) p r != 0 then zM else mkM m (p,r),askE (mQ m) (givL (mT m)) p r,()):=fun p r=>Ykq (mQ m) (givL (mT m)) p r (by omega) h.q.h1 h.q.h2 h.q.h3
 rw [Zoz,hc,Option.bind_some,Q4,cond_false]
 by_cases he:(givL (mT m)).length=(mQ m).2.2.1.length
 · unfold Zxs
   rw [show ((givL (mT m)).length==(mQ m).2.2.1.length)=true from by simpa using he,cond_true]
   refine (Yk3 (hit:=hitR m) (no:=some (false,0,())) (res:=fun x=>some (Z4n m x,0,()))
    (f8:=fun n p=>Zbv n m.1 m.2.1 m.2.2.1 m.2.2.2.1 m.2.2.2.2.1 m.2.2.2.2.2.1 m.2.2.2.2.2.2.1 m.2.2.2.2.2.2.2.1 m.2.2.2.2.2.2.2.2.1 m.2.2.2.2.2.2.2.2.2.1 m.2.2.2.2.2.2.2.2.2.2.1 m.2.2.2.2.2.2.2.2.2.2.2.1 m.2.2.2.2.2.2.2.2.2.2.2.2.1 m.2.2.2.2.2.2.2.2.2.2.2.2.2.1 p)
    (f13:=fun n p r=>Za7 n m.1 m.2.1 m.2.2.1 m.2.2.2.1 m.2.2.2.2.1 m.2.2.2.2.2.1 m.2.2.2.2.2.2.1 m.2.2.2.2.2.2.2.1 m.2.2.2.2.2.2.2.2.1 m.2.2.2.2.2.2.2.2.2.1 m.2.2.2.2.2.2.2.2.2.2.1 m.2.2.2.2.2.2.2.2.2.2.2.1 m.2.2.2.2.2.2.2.2.2.2.2.2.1 m.2.2.2.2.2.2.2.2.2.2.2.2.2.1 p r)
    (fun n p=>by rw [Znm]) (fun n p r hn p1 p3 r1 r8=>?_) (fun n p=>by rw [Zcq];rfl) fuel (by omega)).trans ?_
   · have a0:=Yos h he p1 p3 r1 r8
     have hP:=Zka (mQ m) ⟨p1,p3⟩
     have o1:=(Zuc (mQ m).2.2.1.length (partsOf (mQ m) p) h.q.n hP (mQ m).2.2.2.2.2.2.2.2.1 (mQ m).2.2.2.1 ((mQ m).2.2.2.2.2.2.2.2.2.1==2)).1
     have c1:=(Z4m (mQ m).2.2.1.length (partsOf (mQ m) p) h.q.n hP (mQ m).2.2.2.2.2.2.2.2.1 ((mQ m).2.2.2.2.2.2.2.2.2.1==2) r).1
     rw [← he] at o1 c1
     have q1:=Ym8 (mG (mkM m (p,r))).1 (mG m).1 (Nat.le_trans o1 (Nat.le_of_ble_eq_true rfl))
     have q2:=Ym9 (mG (mkM m (p,r))).2.1 (mG m).2.1 (Nat.le_trans c1 (Nat.le_of_ble_eq_true rfl))
     have t1:(mT (mkM m (p,r))).length=(mG (mkM m (p,r))).1.length:=by
      show (List.map _ _).length=_
      rw [List.length_map]
      rfl
     rw [Yor he,Zcq,show decide (r≤8)=true from decide_eq_true r8,cond_true,hg,Option.bind_some,hb,a0,Option.bind_some]
     dsimp only
     rw [Q4,cond_false,cond_false]
     rw [show Yh (mkM m (p,r)).2.2.2.2.2.2.2.2.2.2.1 m.2.2.2.2.2.2.2.2.2.2.1=some (eqL opQ (mG (mkM m (p,r))).1 (mG m).1,()) from q1,Option.bind_some,notB]
     cases h1:eqL opQ (mG (mkM m (p,r))).1 (mG m).1 with
     | false=>rfl
     | true =>
      rw [cond_true,show Zn (mkM m (p,r)).2.2.2.2.2.2.2.2.2.2.2.1 m.2.2.2.2.2.2.2.2.2.2.2.1=some (eqL chQ (mG (mkM m (p,r))).2.1 (mG m).2.1,()) from q2,Option.bind_some,notB]
      cases h2:eqL chQ (mG (mkM m (p,r))).2.1 (mG m).2.1 with
      | false=>rfl
      | true =>
       have e1:(mG (mkM m (p,r))).1.length=(mG m).1.length:=by
        unfold eqL at h1
        rw [Bool.and_eq_true,beq_iff_eq] at h1
        exact h1.1
       have t2:(mT (mkM m (p,r))).length=(mT m).length:=by rw [t1,e1,l1]
       rw [cond_true,Zbw,notB,show ((mkM m (p,r)).2.2.2.2.2.2.2.2.2.2.2.2.1.length==m.2.2.2.2.2.2.2.2.2.2.2.2.1.length)=true from by rw [beq_iff_eq];exact t2,cond_true,Bool.and_true,cond_true]
       exact Ynd m h (mT (mkM m (p,r))) t2 n hn
   · rcases Zkb (hitR m) prs with ⟨x,_,_,k⟩ | k <;> rw [k,k]
 · unfold Zxs
   rw [show ((givL (mT m)).length==(mQ m).2.2.1.length)=false from by simpa using he,cond_false]
   refine (Yk3 (hit:=fun _=>false) (no:=some (false,0,())) (res:=fun x=>some (false,0,()))
    (f8:=fun n p=>Zbv n m.1 m.2.1 m.2.2.1 m.2.2.2.1 m.2.2.2.2.1 m.2.2.2.2.2.1 m.2.2.2.2.2.2.1 m.2.2.2.2.2.2.2.1 m.2.2.2.2.2.2.2.2.1 m.2.2.2.2.2.2.2.2.2.1 m.2.2.2.2.2.2.2.2.2.2.1 m.2.2.2.2.2.2.2.2.2.2.2.1 m.2.2.2.2.2.2.2.2.2.2.2.2.1 m.2.2.2.2.2.2.2.2.2.2.2.2.2.1 p)
    (f13:=fun n p r=>Za7 n m.1 m.2.1 m.2.2.1 m.2.2.2.1 m.2.2.2.2.1 m.2.2.2.2.2.1 m.2.2.2.2.2.2.1 m.2.2.2.2.2.2.2.1 m.2.2.2.2.2.2.2.2.1 m.2.2.2.2.2.2.2.2.2.1 m.2.2.2.2.2.2.2.2.2.2.1 m.2.2.2.2.2.2.2.2.2.2.2.1 m.2.2.2.2.2.2.2.2.2.2.2.2.1 m.2.2.2.2.2.2.2.2.2.2.2.2.2.1 p r)
    (fun n p=>by rw [Znm]) (fun n p r hn p1 p3 r1 r8=>?_) (fun n p=>by rw [Zcq];rfl) fuel (by omega)).trans ?_
   · rw [Zcq,show decide (r≤8)=true from decide_eq_true r8,cond_true,hg,Option.bind_some,hb,Yu4 h he,Option.bind_some]
     rfl
   · rfl
theorem Yrm {m:Mch}(h:Fine m)(hc:Zfd m=some (0,())):Zh8 m=some (Zxs m,0,()):=by
 have l1:=h.tl
 have l2:=h.ops
 have l3:=h.chs
 have hg:=Ydg m (by omega) (fun t ht=>(h.l.t t ht).h4)
 rw [Zoy,hc,Option.bind_some,Q4,cond_false,Ye0 h.q (by omega),Option.bind_some,hg,Option.bind_some,Zbw,notB]
 unfold Zxs
 rw [show ((givL (mT m)).length==m.2.2.1.length)=((givL (mT m)).length==(mQ m).2.2.1.length) from rfl]
 rcases Zkb (hitR m) prs with ⟨x,hx,hh,k⟩ | k
 · rw [k,k]
   dsimp only
   rw [cond_true,notB]
   cases he:((givL (mT m)).length==(mQ m).2.2.1.length) with
   | false=>rfl
   | true =>
    have he:(givL (mT m)).length=(mQ m).2.2.1.length:=by simpa using he
    have hb:1≤x.1∧x.1≤3∧1≤x.2∧x.2≤8:=by
     have:∀ x∈prs,1≤x.1∧x.1≤3∧1≤x.2∧x.2≤8:=by decide
     exact this x hx
    have hm:=Ym5 (Yos h he hb.1 hb.2.1 hb.2.2.1 hb.2.2.2) h.q.h1 h.q.h2 h.q.h3
    rw [cond_true,cond_true,show Zj4 (m.1,m.2.1,m.2.2.1,m.2.2.2.1,m.2.2.2.2.1,m.2.2.2.2.2.1,m.2.2.2.2.2.2.1,m.2.2.2.2.2.2.2.1,m.2.2.2.2.2.2.2.2.1,m.2.2.2.2.2.2.2.2.2.1,()) (givL (mT m)) x.1 x.2=some (mkM m x,()) from hm,Option.bind_some,Yk4 h he hh]
    rfl
 · rw [k,k]
   cases ((givL (mT m)).length==(mQ m).2.2.1.length) <;> rfl
theorem Ydl:∀ {l:List (List Evt×Unit)},l.length≤100000→(∀ x∈l,x.1.length≤100000)→Zco l l=some (true,()):=by
 intro l hl hx
 have inner:∀ (i:Nat) (x:List Evt×Unit),l[i]? = some x → ∀ (d j n:Nat),j+d=x.1.length → ∃ n',n≤n' + d∧Zag (n+d+1) l l (i:Int) (j:Int)=Qi n l l ((i+1:Nat):Int):=by
  intro i x hi d
  have li:=(List.getElem?_eq_some_iff.1 hi).1
  have lx:=hx x (List.mem_of_getElem? hi)
  induction d with
  | zero =>
   intro j n hj
   refine⟨n,by omega,?_⟩
   obtain rfl:j=x.1.length:=by omega
   rw [Zft,ix_s hi,geL,cond_false,wS (show i<1000000000000 by omega),Nat.add_zero]
  | succ d ih =>
   intro j n hj
   obtain⟨n',h1,h2⟩:=ih (j+1) n (by omega)
   refine⟨n',by omega,?_⟩
   obtain⟨e,he⟩:∃ e,x.1[j]? = some e:=⟨_,List.getElem?_eq_getElem (by omega)⟩
   rw [Zft,ix_s hi,ltL he,cond_true,ix_s hi,ix_s he,ix_s hi,ix_s he,wS (show j<1000000000000 by omega)]
   simp only [beq_self_eq_true,Bool.and_true,Bool.not_true,cond_false]
   exact h2
 have outer:∀ (d i n:Nat),i+d=l.length→Qi (n+d * 100002+1) l l (i:Int)=some (true,()):=by
  intro d
  induction d with
  | zero =>
   intro i n hi
   obtain rfl:i=l.length:=by omega
   rw [Zhf,geL,cond_false]
  | succ d ih =>
   intro i n hi
   obtain⟨x,hx'⟩:∃ x,l[i]? = some x:=⟨_,List.getElem?_eq_getElem (by omega)⟩
   have lx:=hx x (List.mem_of_getElem? hx')
   rw [Zhf,ltL hx',cond_true,ix_s hx',ix_s hx',Q4,cond_false]
   obtain⟨_,_,h2⟩:=inner i x hx' x.1.length 0 (n+(100000 - x.1.length)+d * 100002+1) (by omega)
   rw [show n+(d+1) * 100002=n+(100000 - x.1.length)+d * 100002+1+x.1.length+1 by omega,show (0:Int)=((0:Nat):Int) from rfl,h2]
   exact ih (i+1) _ (by omega)
 obtain⟨n,hn⟩:=Xc
 rw [Zrb,Q4,cond_false,hn]
 have:=outer l.length 0 (n+999999999999 - l.length * 100002) (by omega)
 rw [show n+999999999999 - l.length * 100002+l.length * 100002+1=n+1000000000000 by omega] at this
 exact this
theorem Ye4 (m:Mch):Zi2 m=some (true,()):=by
 obtain⟨g,hg,hb⟩:=Yms m
 rw [Zpu,hg]
 cases g with
 | true=>rfl
 | false =>
  have hm:=hb rfl
  have hq:QOk (mQ m) ((chkQ (mQ m)).2.1==0):=by
   refine⟨⟨(chkQ (mQ m)).1,(chkQ (mQ m)).2.1,Zn1 (mQ m),rfl⟩,?_⟩
   rw [Zry,Zxb]
  have hr:=Yi9 m _ hq hm
  have hc:=Ymr m _ hq hm
  rw [Option.bind_some]
  cases h:mchB ((chkQ (mQ m)).2.1==0) m with
  | false =>
   rw [h] at hr hc
   have p1:Zh9 m=some (false,8,()):=by rw [Zoz,hc];rfl
   have p2:Zh8 m=some (false,8,()):=by rw [Zoy,hr];rfl
   have p3:Zh5 m=some ([],8,()):=by rw [Zow,hc];rfl
   have p4:Zh6 m=some ([],8,()):=by rw [Zox,hr];rfl
   rw [p1,p2,p3,p4]
   simp only [Option.bind_some,Ydl (l:=[]) (by simp) (by simp),beq_self_eq_true,cond_true,cond_false]
  | true =>
   rw [h,cond_true] at hr hc
   have hv:=fine hm h
   have l1:=hv.tl
   have l2:=hv.ops
   have l5:=Ydk (mT m)
   have p3:Zh5 m=some (givL (mT m),0,()):=by rw [Zow,hc,Option.bind_some,Q4,cond_false,Yk2 hm (by omega)];rfl
   have p4:Zh6 m=some (givL (mT m),0,()):=by rw [Zox,hr,Option.bind_some,Q4,cond_false,Ydg m (by omega) (fun t ht=>(hm.t t ht).h4)];rfl
   have hs:Zco (givL (mT m)) (givL (mT m))=some (true,()):=Ydl (by omega) (fun x hx=>by
    unfold givL at hx
    obtain⟨t,ht,rfl⟩:=List.mem_map.1 hx
    exact (hm.t t (List.mem_filter.1 ht).1).h4)
   rw [Yrl hv hc,Yrm hv hr,p3,p4]
   simp only [Option.bind_some,hs,beq_self_eq_true,cond_true,cond_false]
end Tg

/- The law BuildFresh from the contracts of its functions. -/
namespace Tg
open Go.Abs
theorem Yrn:∀ pas,POKAs con3.args pas→Spec Go.Proofs.Tryz.prog 3 pas [.c (.c (.bool true))]:=Ypd ok3 fun a _=>Ye4 a.1
end Tg
