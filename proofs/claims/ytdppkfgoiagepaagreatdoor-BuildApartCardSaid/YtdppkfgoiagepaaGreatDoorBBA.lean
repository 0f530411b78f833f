import Derived.Test.YtdppkfgoiagepaaGreatDoorBQ9
import Derived.Test.YtdppkfgoiagepaaGreatDoorBNq1
/- When two machines are the same. -/
set_option linter.unusedVariables false
set_option linter.unusedSimpArgs false
namespace Tg
open Go
open Go.Abs (Ze Zt tmm)
def zipB {α:Type}(p:α→α→Bool)(l l' : List α):Bool:=(l.zip l').all fun x=>p x.1 x.2
theorem Zqu {α β:Type}{f:Nat→Int→Option β}{l l' : List α}{p:α→α→Bool}{bad fin:Option β}{N:Nat}(hl:l.length=l'.length)
    (hs:∀ n (i:Nat) e e',l[i]? = some e→l'[i]? = some e' → f (n+1) (i:Int)=bif p e e' then f n ((i+1:Nat):Int) else bad)
    (he:∀ n,N≤n→f (n+1) (l.length:Int)=fin) (n:Nat) (hn:N+l.length+1≤n):f n 0=bif zipB p l l' then fin else bad:=by
  have hz:(l.zip l').length=l.length:=by rw [List.length_zip];omega
  exact Z1v (f:=f) (l:=l.zip l') (p:=fun x=>p x.1 x.2) (bad:=bad) (fin:=fin) (N:=N)
   (fun n i x hx=>by
    obtain⟨a,b⟩:=x
    obtain⟨h1,h2⟩:=List.getElem?_zip_eq_some.1 hx
    exact hs n i a b h1 h2)
   (fun n hn=>by rw [hz];exact he n hn) n (by omega)
def eqL {α:Type}(p:α→α→Bool)(l l' : List α):Bool:=l.length==l'.length&&zipB p l l'
def opQ (e e' : Op):Bool:=e.1==e'.1&&(e.2.1==e'.2.1&&true)
def chQ (e e' : Cn):Bool:=e.1==e'.1&&(e.2.1==e'.2.1&&(e.2.2.1==e'.2.2.1&&(e.2.2.2.1==e'.2.2.2.1&&(e.2.2.2.2.1==e'.2.2.2.2.1&&true))))
def evQ (e e' : Evt):Bool:=e.1==e'.1&&(e.2.1==e'.2.1&&(e.2.2.1==e'.2.2.1&&(e.2.2.2.1==e'.2.2.2.1&&(e.2.2.2.2.1==e'.2.2.2.2.1&&true))))
def ivQ (e e' : Int×Unit):Bool:=e.1==e'.1
theorem Zaq (a b:Nat):(Int.ofNat a != Int.ofNat b) = !(a==b):=by
 rw [bne,Bool.eq_iff_iff]
 simp
 omega
theorem notB {β:Type}(b:Bool)(x y:β):(bif !b then x else y)=bif b then y else x:=by cases b <;> rfl
def Zcr (t t' : Tsk):Bool:=(t.1==t'.1&&(t.2.1==t'.2.1&&true))&&(t.2.2.1==t'.2.2.1&&((t.2.2.2.1.length==0&&(t.2.2.2.2.2.1.length==0&&(t.2.2.2.2.2.2.2.1.length==0&&t.2.2.2.2.2.2.2.2.1.length==0)))&&(eqL ivQ t.2.2.2.2.1 t'.2.2.2.2.1&&eqL evQ t.2.2.2.2.2.2.1 t'.2.2.2.2.2.2.1)))
theorem Z3l (l:List Snd):Zcp l []=some (l.length==0,()):=by
 have hf:=Zbz
 obtain⟨n,hn⟩:∃ n,fuel=n+1:=⟨fuel - 1,by omega⟩
 rw [Zk4,Zaq,notB]
 cases l with
 | nil =>
  rw [hn,Zjz]
  rfl
 | cons a l=>rfl
theorem Z7m (n:Nat)(hn:20≤n):Zd4 n [] [] [] []=some (true,()):=by
 obtain⟨k,rfl⟩:∃ k,n=k+1+1+1+1:=⟨n - 4,by omega⟩
 rw [Zpu,Zpw,show decide ((0:Int)<Int.ofNat ([]:List Row5).length)=false from rfl,cond_false,Zpv,Zpx,show decide ((0:Int)<Int.ofNat ([]:List Rec3).length)=false from rfl,cond_false]
theorem Ybr {t:Tsk}(h:TLen t)(k N u:Int)(mk:List (Int×Unit))(ev:List Evt):Zj0 t (k,N,u,[],mk,[],ev,[],[],())=some (Zcr t (k,N,u,[],mk,[],ev,[],[],()),()):=by
 have hf:=Zbz
 have h1:=h.h1;have h2:=h.h2;have h3:=h.h3;have h4:=h.h4;have h5:=h.h5;have h6:=h.h6
 obtain⟨a,b,c,p,m,s,e,r,l,z⟩:=t
 dsimp only at h1 h2 h3 h4 h5 h6
 rw [Zuw]
 dsimp only
 rw [Z3l,Option.bind_some,Zaq,Zaq,Zaq,Zaq,Zaq]
 unfold Zcr
 dsimp only
 rw [notB]
 cases (a==k&&(b==N&&true)) with
 | false=>rfl
 | true =>
 rw [cond_true,Bool.true_and,bne,notB]
 cases (c==u) with
 | false=>rfl
 | true =>
 rw [cond_true,Bool.true_and,notB]
 cases hp:(p.length==0) with
 | false=>simp [hp]
 | true =>
 rw [cond_true,notB]
 cases hm:(m.length==mk.length) with
 | false=>simp [eqL,hm]
 | true =>
 rw [cond_true,notB]
 rw [show (s.length==([]:List Ent).length)=(s.length==0) from rfl]
 cases hs:(s.length==0) with
 | false=>simp [hs]
 | true =>
 rw [cond_true,notB]
 cases he:(e.length==ev.length) with
 | false=>simp [eqL,he]
 | true =>
 rw [cond_true,notB]
 rw [show (r.length==([]:List Row5).length)=(r.length==0) from rfl]
 cases hr:(r.length==0) with
 | false=>simp [hr]
 | true =>
 rw [cond_true,notB]
 rw [show (l.length==([]:List Rec3).length)=(l.length==0) from rfl]
 cases hl:(l.length==0) with
 | false=>simp [hl]
 | true =>
 rw [cond_true]
 obtain rfl:s=[]:=List.length_eq_zero_iff.1 (by simpa using hs)
 obtain rfl:r=[]:=List.length_eq_zero_iff.1 (by simpa using hr)
 obtain rfl:l=[]:=List.length_eq_zero_iff.1 (by simpa using hl)
 have hm2:m.length=mk.length:=by simpa using hm
 have he2:e.length=ev.length:=by simpa using he
 have e23:∀ n,e.length+30≤n→Qt n e [] [] ev [] [] 0=some (zipB evQ e ev,()):=fun n hn=>by
  rw [Zqu (f:=fun n k=>Qt n e [] [] ev [] [] k) (l:=e) (l' := ev) (p:=evQ) (bad:=some (false,())) (fin:=some (true,())) (N:=21) he2
   (fun n i a b ha hb=>by
    have hi:=(List.getElem?_eq_some_iff.1 ha).1
    rw [Zhu,ltL ha,cond_true,ix_s ha,ix_s hb,wS (show i<1000000000000 by omega),notB]
    rfl)
   (fun n hn=>by
    rw [Zhu,geL,cond_false]
    exact Z7m n (by omega)) n (by omega)]
  cases zipB evQ e ev <;> rfl
 rw [Zqu (f:=fun n k=>Zb0 n m [] e [] [] mk [] ev [] [] k) (l:=m) (l' := mk) (p:=ivQ) (bad:=some (false,())) (fin:=some (zipB evQ e ev,())) (N:=e.length+100) hm2
  (fun n i a b ha hb=>by
   have hi:=(List.getElem?_eq_some_iff.1 ha).1
   rw [Zjg,ltL ha,cond_true,ix_s ha,ix_s hb,wS (show i<1000000000000 by omega),bne,notB]
   rfl)
  (fun n hn=>by
   obtain⟨k,rfl⟩:∃ k,n=k+1+1+1:=⟨n - 3,by omega⟩
   rw [Zjg,geL,cond_false,Zq4,Zpt,show decide ((0:Int)<Int.ofNat ([]:List Ent).length)=false from rfl,cond_false,Zps]
   exact e23 k (by omega)) fuel (by omega)]
 simp only [eqL,hm,he]
 cases zipB ivQ m mk <;> cases zipB evQ e ev <;> rfl
theorem Ybs (g g' : Gr)(h1:g.1.length≤100000)(h2:g.2.1.length≤100000):Zj7 g g' = some (eqL opQ g.1 g'.1&&eqL chQ g.2.1 g'.2.1,()):=by
 obtain⟨n,hn⟩:=Zan
 rw [Zvv,Zaq,Zaq,notB,notB,eqL,eqL]
 cases e1:(g.1.length==g'.1.length) with
 | false=>rfl
 | true =>
  cases e2:(g.2.1.length==g'.2.1.length) with
  | false=>rw [cond_true,cond_false,Bool.false_and,Bool.and_false]
  | true =>
   have e1:g.1.length=g'.1.length:=by simpa using e1
   have e2:g.2.1.length=g'.2.1.length:=by simpa using e2
   have e14:∀ n,g.2.1.length+2≤n→Qy n g.2.1 g'.2.1 0=bif zipB chQ g.2.1 g'.2.1 then some (true,()) else some (false,()):=fun n hn =>
    Zqu (f:=fun n k=>Qy n g.2.1 g'.2.1 k) (l:=g.2.1) (l' := g'.2.1) (p:=chQ) (N:=0) e2
     (fun n i a b ha hb=>by
      have hi:=(List.getElem?_eq_some_iff.1 ha).1
      simp only [Zh9,ltL ha,cond_true,iN,Int.toNat_natCast,ha,hb,wS (show i<1000000000000 by omega)]
      rw [notB]
      rfl)
     (fun n hn=>by rw [Zh9,geL,cond_false]) n (by omega)
   have:=Zqu (f:=fun n k=>Zb9 n g.1 g.2.1 g'.1 g'.2.1 k) (l:=g.1) (l' := g'.1) (p:=opQ) (N:=g.2.1.length+10) (bad:=some (false,())) (fin:=bif zipB chQ g.2.1 g'.2.1 then some (true,()) else some (false,())) e1
    (fun n i a b ha hb=>by
     have hi:=(List.getElem?_eq_some_iff.1 ha).1
     simp only [Zjm,ltL ha,cond_true,iN,Int.toNat_natCast,ha,hb,wS (show i<1000000000000 by omega)]
     rw [notB]
     rfl)
    (fun n hn=>by
     obtain⟨k,rfl⟩:∃ k,n=k+1:=⟨n - 1,by omega⟩
     rw [Zjm,geL,cond_false,Zrt]
     exact e14 k (by omega)) fuel (by omega)
   simp only [cond_true,this,Bool.true_and]
   cases zipB opQ g.1 g'.1 <;> cases zipB chQ g.2.1 g'.2.1 <;> rfl
theorem Ybt {α:Type}{p:α→α→Bool}{l l' : List α}(h:zipB p l l' = true){i:Nat}{e e' : α}(h1:l[i]? = some e)(h2:l'[i]? = some e'):p e e' = true:=by
 have hz:(l.zip l')[i]? = some (e,e'):=List.getElem?_zip_eq_some.2 ⟨h1,h2⟩
 unfold zipB at h
 exact List.all_eq_true.1 h _ (List.mem_of_getElem? hz)
theorem Yd5 {α γ β:Type}{f:Nat→Int→Option β}{l:List α}{l' : List γ}{p:α→γ→Bool}{bad fin:Option β}{N:Nat}(hl:l.length=l'.length)
    (hs:∀ n (i:Nat) e e',l[i]? = some e→l'[i]? = some e' → f (n+1) (i:Int)=bif p e e' then f n ((i+1:Nat):Int) else bad)
    (he:∀ n,N≤n→f (n+1) (l.length:Int)=fin) (n:Nat) (hn:N+l.length+1≤n):f n 0=bif (l.zip l').all (fun x=>p x.1 x.2) then fin else bad:=by
  have hz:(l.zip l').length=l.length:=by rw [List.length_zip];omega
  exact Z1v (f:=f) (l:=l.zip l') (p:=fun x=>p x.1 x.2) (bad:=bad) (fin:=fin) (N:=N)
   (fun n i x hx=>by
    obtain⟨a,b⟩:=x
    obtain⟨h1,h2⟩:=List.getElem?_zip_eq_some.1 hx
    exact hs n i a b h1 h2)
   (fun n hn=>by rw [hz];exact he n hn) n (by omega)
theorem Z2f {α γ:Type}{p:α→γ→Bool}{g:α→Bool}:∀ {l:List α} {l' : List γ},l.length=l'.length→(∀ (i:Nat) e e',l[i]? = some e→l'[i]? = some e' → p e e' = g e)→(l.zip l').all (fun x=>p x.1 x.2)=l.all g
 | [],[],_,_=>rfl
 | [],_::_,h,_=>by simp at h
 | _::_,[],h,_=>by simp at h
 | a::l,b::l',h,hp=>by
  rw [List.zip_cons_cons,List.all_cons,List.all_cons,Z2f (by simpa using h) (fun i e e' h1 h2=>hp (i+1) e e' (by simpa using h1) (by simpa using h2))]
  rw [show p (a,b).1 (a,b).2=g a from hp 0 a b rfl rfl]
theorem Z3m (l:List Msg):Zd7 l []=some (l.length==0,()):=by
 obtain⟨n,hn⟩:∃ n,fuel=n+1:=⟨fuel - 1,by have:=Zbz;omega⟩
 rw [Zl3,Zaq,notB]
 cases l with
 | nil =>
  rw [hn,Zk5]
  rfl
 | cons a l=>rfl
def Zjn (u:Que):Bool:=u.2.1.length==0
theorem Z3n {us:List Que}{cs:List Cn}(h:us.length≤100000)(hl:us.length=cs.length)(hr:∀ (i:Nat) u c,us[i]? = some u→cs[i]? = some c→u.1=c.2.2.2.2.1):Zb1 us (cs.map qOf)=some (us.all Zjn,()):=by
 have hf:=Zbz
 rw [Znd,Zaq,notB,List.length_map,show (us.length==cs.length)=true by simpa using hl,cond_true]
 rw [Yd5 (f:=fun n k=>Q5 n us (cs.map qOf) k) (l:=us) (l' := cs) (p:=fun u c=>u.1==c.2.2.2.2.1&&Zjn u) (bad:=some (false,())) (fin:=some (true,())) (N:=0) hl
  (fun n i a b ha hb=>by
   have hi:=(List.getElem?_eq_some_iff.1 ha).1
   rw [Zfk,ltL ha,cond_true,ix_s ha,ix_s (show (cs.map qOf)[i]? = some (qOf b) by rw [List.getElem?_map,hb];rfl),Zux,wS (show i<1000000000000 by omega)]
   unfold qOf Zjn
   dsimp only
   rw [Z3m]
   cases (a.1==b.2.2.2.2.1) <;> cases (a.2.1.length==0) <;> rfl)
  (fun n hn=>by rw [Zfk,geL,cond_false]) fuel (by omega)]
 rw [show ((us.zip cs).all fun x=>x.1.1==x.2.2.2.2.2.1&&Zjn x.1)=us.all Zjn from Z2f (p:=fun u c=>u.1==c.2.2.2.2.1&&Zjn u) hl (fun i e e' h1 h2=>by
  show (e.1==e'.2.2.2.2.1&&Zjn e)=Zjn e
  rw [hr i e e' h1 h2,beq_self_eq_true,Bool.true_and])]
 cases us.all Zjn <;> rfl
theorem Ztm (n:Nat)(inp:Inp)(o:Op2):∃ k N u mk ev,Z5 n inp o=(k,N,u,[],mk,[],ev,[],[],()):=by
 unfold Z5
 cases (o.1==1)
 · cases (o.1==2)
   · cases (o.1==3)
     · cases (o.1==4)
       · cases (o.1==5)
         · cases (o.1==7)
           · exact⟨_,_,_,_,_,rfl⟩
           · exact⟨_,_,_,_,_,rfl⟩
         · exact⟨_,_,_,_,_,rfl⟩
       · exact⟨_,_,_,_,_,rfl⟩
     · exact⟨_,_,_,_,_,rfl⟩
   · exact⟨_,_,_,_,_,rfl⟩
 · exact⟨_,_,_,_,_,rfl⟩
end Tg

/- The parts of the law BuildApart: what a question's check says, and when two machines are the same. -/
namespace Tg
open Go
open Go.Abs (Ze Zt tmm)
theorem r13 (t:Int):Zey t 1=some (bif tmB t then 0 else 16,()):=by
 rw [Zrx]
 unfold tmB
 rw [show decide ((1:Int)<1)=false from rfl,show decide ((1:Int)>1073741824)=false from rfl,cond_false,cond_false,Ybk,Ybl]
 cases decide (t ≥ -1099511627776) <;> cases decide (t≤1099511627776) <;> rfl
theorem r20v (e:Ev):Zie e=some (evOk e,()):=by
 rw [Zry,r13,r13]
 unfold evOk zR
 cases e.1 <;> cases (e.2.2.1==0&&(e.2.2.2.1==0&&(e.2.2.2.2.1==0&&true))) <;> cases (e.2.1==0) <;> cases (e.2.1==9223372036854775807) <;> cases tmB e.2.1 <;> cases tmB e.2.2.2.1 <;> rfl
theorem Ybu (l:List Ev):Zif l=some (Zcj l,()):=by
 have hf:=Zbz
 rw [Zrz]
 unfold Zcj
 by_cases h:(l.length:Int)>60
 · rw [lenI,dT h,cond_true,cond_true]
 · rw [lenI,dF h,cond_false,cond_false,Z1v (f:=fun n k=>Zbf n l k) (l:=l) (p:=evOk) (bad:=some (8,())) (fin:=some (0,())) (N:=0)
    (fun n i e he=>by
     have hi:=(List.getElem?_eq_some_iff.1 he).1
     rw [Zig,ltL he,cond_true,ix_s he,r20v,Option.bind_some,wS (show i<1000000000000 by omega),notB])
    (fun n hn=>by rw [Zig,geL,cond_false]) fuel (by omega)]
   cases l.all evOk <;> rfl
theorem pr9 (p r:Int)(n:Nat):Zee (n+1) p r=some (prE p r,()):=by
 rw [Zqt]
 unfold prE
 cases decide (p<1) <;> cases decide (p>3) <;> cases decide (r<1) <;> cases decide (r>8) <;> rfl
theorem Zqv (inp:Inp)(hl:inp.length≤1000)(p r:Int):∀ (rest:Inp) (i n:Nat),inp.drop i=rest→i≤inp.length→rest.length+2≤n→Zah n inp p r (i:Int)=some (bif Qj rest != 0 then Qj rest else prE p r,())
 | [],i,n,h,hi,hn=>by
  obtain⟨m,rfl⟩:∃ m,n=m+1+1:=⟨n - 2,by simp at hn;omega⟩
  obtain rfl:=Za4 h hi
  rw [Zgw,geL,cond_false,pr9]
  rfl
 | l::rest,i,n,h,hi,hn=>by
  obtain⟨m,rfl⟩:∃ m,n=m+1:=⟨n - 1,by simp at hn;omega⟩
  obtain⟨h1,h2,h3⟩:=Qs h
  have ih:=Zqv inp hl p r rest (i+1) m h3 (by omega) (by simp at hn;omega)
  rw [Zgw,ltL h2,cond_true,ix_s h2,Ybu,Option.bind_some,wS (show i<1000000000000 by omega),ih,Qj]
  cases h:(Zcj l.1 != 0) with
  | true=>rw [cond_true,cond_true,h];rfl
  | false=>rw [cond_false,cond_false]
theorem Z7n (q:Qr)(inp:Inp)(hl:inp.length≤1000)(p r:Int):Zih q inp p r=some (askE q inp p r,()):=by
 have hf:=Zbz
 rw [Zr0,Zz8,Option.bind_some]
 unfold askE
 have:=Zqv inp hl p r inp 0 fuel rfl (by omega) (by omega)
 cases h:((chkQ q).2.1 != 0) with
 | true=>rfl
 | false =>
  rw [cond_false,cond_false,lenI,lenI,show (0:Int)=((0:Nat):Int) from rfl,this]
  cases ((inp.length:Int) != (q.2.2.1.length:Int)) <;> rfl
theorem Z7o (q:Qr)(inp:Inp):∃ b,Zic q inp=some (b,())∧(b=false→inp.length≤6∧q.2.1.length≤70∧q.2.2.1.length≤10∧q.2.2.2.2.1.length≤70):=by
 have hf:=Zbz
 have h8:∃ b,Zib q=some (b,())∧(b=false→q.2.1.length≤70∧q.2.2.1.length≤10∧q.2.2.2.2.1.length≤70):=by
  rw [Zrv]
  by_cases h1:Int.ofNat q.2.1.length>70
  · exact⟨true,by rw [Zad,dT h1];rfl,fun h=>by cases h⟩
  · by_cases h2:Int.ofNat q.2.2.2.2.1.length>70
    · exact⟨true,by rw [Zad,Zad,dF h1,dT h2];rfl,fun h=>by cases h⟩
    · refine⟨decide (Int.ofNat q.2.2.1.length>10),by rw [Zad,Zad,dF h1,dF h2];rfl,fun h=>?_⟩
      have h3:=of_decide_eq_false h
      simp only [Int.ofNat_eq_natCast] at h1 h2 h3
      omega
 obtain⟨b,h1,h2⟩:=h8
 rw [Zrw,h1,Option.bind_some]
 cases b with
 | true=>exact⟨true,rfl,fun h=>by cases h⟩
 | false =>
  by_cases h3:Int.ofNat inp.length>6
  · exact⟨true,by rw [dT h3];rfl,fun h=>by cases h⟩
  · have h4:inp.length≤6:=by simp only [Int.ofNat_eq_natCast] at h3;omega
    rw [dF h3,cond_false,cond_false,Z1v (f:=fun n k=>Zbe n inp k) (l:=inp) (p:=fun e=>!decide (Int.ofNat e.1.length>70)) (bad:=some (true,())) (fin:=some (false,())) (N:=0)
     (fun n i e he=>by
      have hi:=(List.getElem?_eq_some_iff.1 he).1
      rw [Zid,ltL he,cond_true,ix_s he,wS (show i<1000000000000 by omega),notB])
     (fun n hn=>by rw [Zid,geL,cond_false]) fuel (by omega)]
    cases inp.all fun e=>!decide (Int.ofNat e.1.length>70)
    · exact⟨true,rfl,fun h=>by cases h⟩
    · exact⟨false,rfl,fun _=>⟨h4,h2 rfl⟩⟩
theorem Zyf {α:Type}{p:α→α→Bool}(h:∀ e,p e e=true):∀ l,zipB p l l=true
 | []=>rfl
 | a::l=>by
  have:=Zyf h l
  unfold zipB at this ⊢
  rw [List.zip_cons_cons,List.all_cons,this,Bool.and_true]
  exact h a
theorem Zeg {α:Type}{p:α→α→Bool}(h:∀ e,p e e=true)(l:List α):eqL p l l=true:=by rw [eqL,Zyf h,beq_self_eq_true];rfl
def ndQ (e e' : Nd5):Bool:=e.1==e'.1&&(e.2.1==e'.2.1&&(e.2.2.1==e'.2.2.1&&(e.2.2.2.1==e'.2.2.2.1&&true)))
theorem Z2g (l l' : List Nd5)(h:l.length≤100000):Zez l l' = some (eqL ndQ l l',()):=by
 have hf:=Zbz
 rw [Zr1,Zaq,notB,eqL]
 by_cases e:l.length=l'.length
 · rw [show (l.length==l'.length)=true by simpa using e,cond_true,Bool.true_and]
   rw [Zqu (f:=fun n k=>Zbg n l l' k) (l:=l) (l' := l') (p:=ndQ) (bad:=some (false,())) (fin:=some (true,())) (N:=0) e
    (fun n i a b ha hb=>by
     have hi:=(List.getElem?_eq_some_iff.1 ha).1
     rw [Zii,ltL ha,cond_true,ix_s ha,ix_s hb,wS (show i<1000000000000 by omega),notB]
     rfl)
    (fun n hn=>by rw [Zii,geL,cond_false]) fuel (by omega)]
   cases zipB ndQ l l' <;> rfl
 · rw [show (l.length==l'.length)=false by simpa using e]
   rfl
theorem Yd6 (l l' : List (Int×Unit))(h:l.length≤100000):Zbh l l' = some (eqL ivQ l l',()):=by
 have hf:=Zbz
 rw [Ziy,Zaq,notB,eqL]
 by_cases e:l.length=l'.length
 · rw [show (l.length==l'.length)=true by simpa using e,cond_true,Bool.true_and]
   rw [Zqu (f:=fun n k=>X0 n l l' k) (l:=l) (l' := l') (p:=ivQ) (bad:=some (false,())) (fin:=some (true,())) (N:=0) e
    (fun n i a b ha hb=>by
     have hi:=(List.getElem?_eq_some_iff.1 ha).1
     rw [Zcl,ltL ha,cond_true,ix_s ha,ix_s hb,wS (show i<1000000000000 by omega),bne,notB]
     rfl)
    (fun n hn=>by rw [Zcl,geL,cond_false]) fuel (by omega)]
   cases zipB ivQ l l' <;> rfl
 · rw [show (l.length==l'.length)=false by simpa using e]
   rfl
theorem Z9e {q:Qr}(h1:q.2.1.length≤100000)(h2:q.2.2.1.length≤100000)(h3:q.2.2.2.2.1.length≤100000):Ze0 q q=some (true,()):=by
 rw [Zr2,Z2g _ _ h1,Z2g _ _ h3,Yd6 _ _ h2,Zeg (fun e=>by simp [ndQ]),Zeg (fun e=>by simp [ivQ]),Zeg (fun e=>by simp [ndQ])]
 simp
def inQ (x y:List Evt×Unit):Bool:=eqL evQ x.1 y.1
theorem Yd7 (a b:List (List Evt×Unit))(hl:a.length≤100000)(hx:∀ x∈a,x.1.length≤100000):Zag a b=some (eqL inQ a b,()):=by
 have inner:∀ (i:Nat) (x y:List Evt×Unit),a[i]? = some x→b[i]? = some y → ∀ (r r' : List Evt) (j n:Nat),x.1.drop j=r→y.1.drop j=r' → j≤x.1.length→r.length=r'.length →
     X9 (n+r.length+1) a b (i:Int) (j:Int)=bif zipB evQ r r' then Xk n a b ((i+1:Nat):Int) else some (false,()):=by
   intro i x y hi hi' r
   have li:=(List.getElem?_eq_some_iff.1 hi).1
   have lx:=hx x (List.mem_of_getElem? hi)
   induction r with
   | nil =>
    intro r' j n h h' hj hr
    obtain rfl:=Za4 h hj
    cases r' with
    | nil =>
     rw [Zcv,ix_s hi,geL,cond_false,wS (show i<1000000000000 by omega)]
     rfl
    | cons e r' => simp at hr
   | cons e r ih =>
    intro r' j n h h' hj hr
    cases r' with
    | nil=>simp at hr
    | cons e' r' =>
     obtain⟨h1,h2,h3⟩:=Qs h
     obtain⟨h1',h2',h3'⟩:=Qs h'
     have:=ih r' (j+1) n h3 h3' (by omega) (by simpa using hr)
     rw [List.length_cons,show n+(r.length+1)+1=(n+r.length+1)+1 by omega,Zcv,ix_s hi,ltL h2,cond_true,ix_s hi,ix_s h2,ix_s hi',ix_s h2',wS (show j<1000000000000 by omega),this,notB]
     show (bif evQ e e' then _ else _)=bif evQ e e' && zipB evQ r r' then _ else _
     cases evQ e e' <;> rfl
 have outer:∀ (r r' : List (List Evt×Unit)) (i n:Nat),a.drop i=r→b.drop i=r' → i≤a.length→r.length=r'.length →
     Xk (n+r.length * 100002+1) a b (i:Int)=some (zipB inQ r r',()):=by
   intro r
   induction r with
   | nil =>
    intro r' i n h h' hi hr
    obtain rfl:=Za4 h hi
    cases r' with
    | nil =>
     rw [Zed,geL,cond_false]
     rfl
    | cons e r' => simp at hr
   | cons x r ih =>
    intro r' i n h h' hi hr
    cases r' with
    | nil=>simp at hr
    | cons y r' =>
     obtain⟨h1,h2,h3⟩:=Qs h
     obtain⟨h1',h2',h3'⟩:=Qs h'
     have lx:=hx x (List.mem_of_getElem? h2)
     rw [List.length_cons,Zed,ltL h2,cond_true,ix_s h2,ix_s h2',Zaq,notB]
     show _=some (eqL evQ x.1 y.1&&zipB inQ r r',())
     rw [eqL]
     cases e:(x.1.length==y.1.length) with
     | false=>rfl
     | true =>
      have e:x.1.length=y.1.length:=by simpa using e
      rw [cond_true,show n+(r.length+1) * 100002=(n+(100000 - x.1.length)+r.length * 100002+1)+x.1.length+1 by omega]
      have hi:=inner i x y h2 h2' x.1 y.1 0 (n+(100000 - x.1.length)+r.length * 100002+1) rfl rfl (by omega) e
      rw [show (0:Int)=((0:Nat):Int) from rfl,hi,ih r' (i+1) _ h3 h3' (by omega) (by simpa using hr)]
      cases zipB evQ x.1 y.1 <;> rfl
 rw [Zlh,Zaq,notB,eqL]
 cases e:(a.length==b.length) with
 | false=>rfl
 | true =>
  have e:a.length=b.length:=by simpa using e
  obtain⟨n,hn⟩:=Zan
  have:=outer a b 0 (n+999999999999 - a.length * 100002) rfl rfl (by omega) e
  rw [show n+999999999999 - a.length * 100002+a.length * 100002+1=fuel by omega] at this
  rw [cond_true,Bool.true_and]
  exact this
end Tg

/- When the machines of two questions are the same. -/
namespace Tg
open Go
open Go.Abs (Ze Zt tmm)
theorem Z2h (n P:Nat)(key join side:Bool):(opsG n P key join side).length=2 * n+(bif key then n else 0)+P+1+(bif side then 1 else 0):=by
 unfold opsG nums
 cases key <;> cases side <;> simp <;> omega
theorem Ybv {n P P' : Nat}(hn:1≤n∧n≤4)(hP:1≤P∧P≤3)(hP' : 1≤P' ∧ P' ≤ 3)(r r' : Int)(key join side:Bool) :
    (eqL opQ (opsG n P key join side) (opsG n P' key join side)&&eqL chQ (chG n P key side r) (chG n P' key side r'))=(P==P' && r==r'):=by
  by_cases h:P=P'
  · subst h
    rw [Zeg (fun e=>by simp [opQ]),beq_self_eq_true,Bool.true_and,Bool.true_and]
    by_cases h:r=r'
    · subst h
      rw [Zeg (fun e=>by simp [chQ]),beq_self_eq_true]
    · rw [show (r==r')=false by simpa using h,Bool.eq_false_iff]
      intro e
      unfold eqL at e
      rw [Bool.and_eq_true] at e
      have h1:0<(chG n P key side r).length:=by unfold chG;simp;omega
      have h2:0<(chG n P key side r').length:=by unfold chG;simp;omega
      have:=Ybt e.2 (List.getElem?_eq_getElem h1) (List.getElem?_eq_getElem h2)
      have c1:=(Zqr n P hn hP key side r).2 _ (List.getElem_mem h1)
      have c2:=(Zqr n P hn hP key side r').2 _ (List.getElem_mem h2)
      unfold chQ at this
      rw [c1,c2] at this
      simp only [Bool.and_eq_true,beq_iff_eq] at this
      exact h this.2.2.2.2.1
  · rw [show (P==P')=false by simpa using h,eqL,Z2h,Z2h,show (2 * n+(bif key then n else 0)+P+1+(bif side then 1 else 0)==2 * n+(bif key then n else 0)+P' + 1+(bif side then 1 else 0))=false by simp;omega]
    rfl
theorem Zyg (k N u:Int)(mk:List (Int×Unit))(ev:List Evt):Zcr (k,N,u,[],mk,[],ev,[],[],()) (k,N,u,[],mk,[],ev,[],[],())=true:=by
 unfold Zcr
 dsimp only
 rw [Zeg (fun e=>by simp [ivQ]),Zeg (fun e=>by simp [evQ])]
 simp
theorem Z0i {n:Nat}{a b:Inp}{o:Op2}(h:(o.1==1)=false):Zcr (Z5 n a o) (Z5 n b o)=true:=by
 have e:Z5 n a o=Z5 n b o:=by
  unfold Z5
  rw [h,cond_false,cond_false]
 rw [e]
 obtain⟨k,N,u,mk,ev,h⟩:=Ztm n b o
 rw [h]
 exact Zyg _ _ _ _ _
theorem Ybw (n:Nat)(a b:Inp)(i:Nat):Zcr (Z5 n a (1,(i:Int),())) (Z5 n b (1,(i:Int),()))=inQ (a.getD i ([],())) (b.getD i ([],())):=by
 show (((1:Int)==1&&((i:Int)==(i:Int)&&true))&&((0:Int)==0&&(true&&(true&&eqL evQ (a.getD i ([],())).1 (b.getD i ([],())).1))))=_
 rw [beq_self_eq_true,beq_self_eq_true,beq_self_eq_true]
 rfl
theorem Zyh (m:Nat)(k:Int)(f:Op2→Bool):(nums m k).all f=(List.range m).all fun i=>f (k,(i:Int),()):=by
 unfold nums
 rw [List.all_map]
 rfl
theorem Z0j {n:Nat}{a b:Inp}(m:Nat){k:Int}(h:(k==1)=false):(nums m k).all (fun o=>Zcr (Z5 n a o) (Z5 n b o))=true:=by
 rw [Zyh,List.all_eq_true]
 exact fun i _=>Z0i h
theorem Z3o (n P:Nat)(a b:Inp)(key join side:Bool):(opsG n P key join side).all (fun o=>Zcr (Z5 n a o) (Z5 n b o))=(List.range n).all fun i=>inQ (a.getD i ([],())) (b.getD i ([],())):=by
 unfold opsG
 rw [List.all_append,List.all_append,List.all_append,List.all_append,List.all_append,Zyh n 1,Z0j n (show ((2:Int)==1)=false from rfl),Z0j P (k:=bif join then 5 else 4) (by cases join <;> rfl)]
 have e3:(bif key then nums n 3 else []).all (fun o=>Zcr (Z5 n a o) (Z5 n b o))=true:=by
  cases key with
  | false=>rfl
  | true=>exact Z0j n rfl
 have e6:([(6,0,())]:List Op2).all (fun o=>Zcr (Z5 n a o) (Z5 n b o))=true:=by
  rw [List.all_cons,Z0i rfl]
  rfl
 have e7:(bif side then [((7:Int),(0:Int),())] else []).all (fun o=>Zcr (Z5 n a o) (Z5 n b o))=true:=by
  cases side with
  | false=>rfl
  | true =>
   rw [cond_true,List.all_cons,Z0i rfl]
   rfl
 rw [e3,e6,e7]
 simp only [Bool.and_true]
 exact congrArg _ (funext fun i=>Ybw n a b i)
theorem Ztn {α:Type}{p:α→α→Bool}{d:α}:∀ {a b:List α},a.length=b.length→zipB p a b=(List.range a.length).all fun i=>p (a.getD i d) (b.getD i d)
 | [],[],_=>rfl
 | [],_::_,h=>by simp at h
 | _::_,[],h=>by simp at h
 | x::a,y::b,h=>by
  have:=Ztn (p:=p) (d:=d) (a:=a) (b:=b) (by simpa using h)
  rw [List.length_cons,List.range_succ_eq_map,List.all_cons,List.all_map]
  unfold zipB at this ⊢
  rw [List.zip_cons_cons,List.all_cons,this]
  rfl
theorem Z9f {α β:Type}{p:β→β→Bool}{f g:α→β}(l:List α):zipB p (l.map f) (l.map g)=l.all fun o=>p (f o) (g o):=by
 unfold zipB
 rw [List.zip_map',List.all_map]
 rfl
theorem Z7p {n:Nat}{a:Inp}(hn:n≤4)(ha:Zlg a)(o:Op2):TLen (Z5 n a o):=by
 have he:(a.getD o.2.1.toNat ([],())).1.length≤60:=by
  rw [List.getD_eq_getElem?_getD]
  cases h:a[o.2.1.toNat]? with
  | none=>simp
  | some x=>exact (Z0h (ha x (List.mem_of_getElem? h))).1
 unfold Z5
 cases (o.1==1)
 · cases (o.1==2)
   · cases (o.1==3)
     · cases (o.1==4)
       · cases (o.1==5)
         · cases (o.1==7) <;> constructor <;> simp
         · constructor <;> simp
       · constructor <;> simp;omega
     · constructor <;> simp
   · constructor <;> simp
 · constructor <;> simp only [cond_true,List.length_nil] <;> omega
theorem Z7q {q:Qr}{a b:Inp}{p p' r:Int}(hn:1≤a.length∧a.length≤4)(hl:a.length=b.length)(ha:Zlg a)(hp:1≤p∧p≤3)(e:partsOf q p=partsOf q p') :
    Zj1 (mOf q a p r) (mOf q b p' r)=some (zipB inQ a b,()):=by
  have hf:=Zbz
  have hP:=Zgo q hp
  have o1:=(Zvx a.length (partsOf q p) hn hP q.2.2.2.2.2.2.2.2.1 q.2.2.2.1 (q.2.2.2.2.2.2.2.2.2.1==2)).1
  have c1:=(Zqr a.length (partsOf q p) hn hP q.2.2.2.2.2.2.2.2.1 (q.2.2.2.2.2.2.2.2.2.1==2) r).1
  have hA:mT (mOf q a p r)=(opsG a.length (partsOf q p) q.2.2.2.2.2.2.2.2.1 q.2.2.2.1 (q.2.2.2.2.2.2.2.2.2.1==2)).map (Z5 a.length a):=rfl
  have hB:mT (mOf q b p' r)=(opsG a.length (partsOf q p) q.2.2.2.2.2.2.2.2.1 q.2.2.2.1 (q.2.2.2.2.2.2.2.2.2.1==2)).map (Z5 a.length b):=by rw [hl,e];rfl
  have uA:mU (mOf q a p r)=(chG a.length (partsOf q p) q.2.2.2.2.2.2.2.2.1 (q.2.2.2.2.2.2.2.2.2.1==2) r).map qOf:=rfl
  have uB:mU (mOf q b p' r)=(chG a.length (partsOf q p) q.2.2.2.2.2.2.2.2.1 (q.2.2.2.2.2.2.2.2.2.1==2) r).map qOf:=by rw [hl,e];rfl
  have hs:=Z3n (us:=mU (mOf q a p r)) (cs:=chG a.length (partsOf q p) q.2.2.2.2.2.2.2.2.1 (q.2.2.2.2.2.2.2.2.2.1==2) r) (by rw [uA,List.length_map];omega) (by rw [uA,List.length_map]) (fun i u c hu hc=>by
   rw [uA,List.getElem?_map,hc] at hu
   obtain rfl:=Option.some.inj hu
   rfl)
  have hz:(mU (mOf q a p r)).all Zjn=true:=by
   rw [uA,List.all_map,List.all_eq_true]
   exact fun _ _=>rfl
  rw [hz,← uB] at hs
  have t1:(mT (mOf q a p r)).length=(mT (mOf q b p' r)).length:=by rw [hA,hB,List.length_map,List.length_map]
  rw [Zuy,Zaq,notB]
  rw [show ((mOf q a p r).2.2.2.2.2.2.2.2.2.2.2.2.1.length==(mOf q b p' r).2.2.2.2.2.2.2.2.2.2.2.2.1.length)=true by rw [beq_iff_eq];exact t1,cond_true]
  rw [show Zb1 (mOf q a p r).2.2.2.2.2.2.2.2.2.2.2.2.2.1 (mOf q b p' r).2.2.2.2.2.2.2.2.2.2.2.2.2.1=some (true,()) from hs,Option.bind_some,notB,cond_true]
  refine (Zqu (f:=fun n k=>Zb2 n (mT (mOf q a p r)) (mT (mOf q b p' r)) k) (l:=mT (mOf q a p r)) (l' := mT (mOf q b p' r)) (p:=Zcr) (bad:=some (false,())) (fin:=some (true,())) (N:=0) t1
   (fun n i x y hx hy=>?_)
   (fun n hn=>by rw [Zjh,geL,cond_false]) fuel (by rw [hA,List.length_map];omega)).trans ?_
  · have hi:i<1000000000000:=by
     have:=(List.getElem?_eq_some_iff.1 hx).1
     rw [hA,List.length_map] at this
     omega
    rw [Zjh,ltL hx,cond_true,ix_s hx,ix_s hy,wS hi]
    rw [hA,List.getElem?_map,Option.map_eq_some_iff] at hx
    rw [hB,List.getElem?_map,Option.map_eq_some_iff] at hy
    obtain⟨o,_,rfl⟩:=hx
    obtain⟨o',_,rfl⟩:=hy
    obtain⟨k,N,u,mk,ev,hform⟩:=Ztm a.length b o'
    rw [hform,Ybr (Z7p hn.2 ha o),Option.bind_some,notB]
  · rw [hA,hB,Z9f,Z3o,← Ztn hl]
    cases zipB inQ a b <;> rfl
theorem Z7r {q:Qr}{a b:Inp}{p p' r r' : Int}(h1:askE q a p r=0)(h2:askE q b p' r' = 0)(l1:q.2.1.length≤70)(l2:q.2.2.1.length≤10)(l3:q.2.2.2.2.1.length≤70) :
    Zef (mOf q a p r) (mOf q b p' r')=some ((partsOf q p==partsOf q p' && r==r')&&zipB inQ a b,()):=by
  obtain⟨_,a1,a2,_,⟨a3,a4,_,_⟩,a5,a6⟩:=Z2d h1
  obtain⟨_,b1,b2,_,⟨b3,b4,_,_⟩,_,_⟩:=Z2d h2
  have hl:a.length=b.length:=by omega
  have hP:=Zgo q ⟨a3,a4⟩
  have hP' := Zgo q ⟨b3,b4⟩
  have o1:=(Zvx a.length (partsOf q p) ⟨a5,a6⟩ hP q.2.2.2.2.2.2.2.2.1 q.2.2.2.1 (q.2.2.2.2.2.2.2.2.2.1==2)).1
  have c1:=(Zqr a.length (partsOf q p) ⟨a5,a6⟩ hP q.2.2.2.2.2.2.2.2.1 (q.2.2.2.2.2.2.2.2.2.1==2) r).1
  rw [Zvy]
  rw [show Ze0 ((mOf q a p r).1,(mOf q a p r).2.1,(mOf q a p r).2.2.1,(mOf q a p r).2.2.2.1,(mOf q a p r).2.2.2.2.1,(mOf q a p r).2.2.2.2.2.1,(mOf q a p r).2.2.2.2.2.2.1,(mOf q a p r).2.2.2.2.2.2.2.1,(mOf q a p r).2.2.2.2.2.2.2.2.1,(mOf q a p r).2.2.2.2.2.2.2.2.2.1,()) ((mOf q b p' r').1,(mOf q b p' r').2.1,(mOf q b p' r').2.2.1,(mOf q b p' r').2.2.2.1,(mOf q b p' r').2.2.2.2.1,(mOf q b p' r').2.2.2.2.2.1,(mOf q b p' r').2.2.2.2.2.2.1,(mOf q b p' r').2.2.2.2.2.2.2.1,(mOf q b p' r').2.2.2.2.2.2.2.2.1,(mOf q b p' r').2.2.2.2.2.2.2.2.2.1,())=some (true,()) from Z9e (q:=q) (by omega) (by omega) (by omega),Option.bind_some,cond_true]
  rw [Ybs _ _ (by show (opsG _ _ _ _ _).length≤_;omega) (by show (chG _ _ _ _ _).length≤_;omega)]
  rw [show (eqL opQ ((mOf q a p r).2.2.2.2.2.2.2.2.2.2.1,(mOf q a p r).2.2.2.2.2.2.2.2.2.2.2.1,()).1 ((mOf q b p' r').2.2.2.2.2.2.2.2.2.2.1,(mOf q b p' r').2.2.2.2.2.2.2.2.2.2.2.1,()).1&&eqL chQ ((mOf q a p r).2.2.2.2.2.2.2.2.2.2.1,(mOf q a p r).2.2.2.2.2.2.2.2.2.2.2.1,()).2.1 ((mOf q b p' r').2.2.2.2.2.2.2.2.2.2.1,(mOf q b p' r').2.2.2.2.2.2.2.2.2.2.2.1,()).2.1)=(partsOf q p==partsOf q p' && r==r') by
   show (eqL opQ (opsG a.length (partsOf q p) _ _ _) (opsG b.length (partsOf q p') _ _ _)&&eqL chQ (chG a.length (partsOf q p) _ _ r) (chG b.length (partsOf q p') _ _ r'))=_
   rw [← hl]
   exact Ybv ⟨a5,a6⟩ hP hP' r r' _ _ _,Option.bind_some]
  by_cases e:(partsOf q p==partsOf q p' && r==r')=true
  · rw [e]
    rw [Bool.and_eq_true,beq_iff_eq,beq_iff_eq] at e
    obtain⟨e1,rfl⟩:=e
    rw [Z7q ⟨a5,a6⟩ hl a2 ⟨a3,a4⟩ e1]
    rfl
  · rw [Bool.not_eq_true] at e
    rw [e]
    rfl
end Tg

/- The law BuildApart in plain words. -/
namespace Tg
open Go
open Go.Abs (Ze Zt tmm)
theorem Z7s (q:Qr)(inp:Inp)(p r:Int):∃ b,Zix q inp p r=some (b,())∧(b=true→askE q inp p r=0∧inp.length≤6∧q.2.1.length≤70∧q.2.2.1.length≤10∧q.2.2.2.2.1.length≤70):=by
 obtain⟨g,h1,h2⟩:=Z7o q inp
 rw [Zye,h1,Option.bind_some]
 cases g with
 | true=>exact⟨false,rfl,fun h=>by cases h⟩
 | false =>
  obtain⟨l,hl⟩:=h2 rfl
  refine⟨askE q inp p r==0,?_,fun h=>⟨by simpa using h,l,hl⟩⟩
  rw [Z7n q inp (by omega) p r]
  rfl
theorem Z9g (q:Qr){p p' : Int}(h:1≤p)(h' : 1≤p'):(partsOf q p==partsOf q p')=(p==p' || !q.2.2.2.2.2.2.2.2.1):=by
 unfold partsOf
 cases q.2.2.2.2.2.2.2.2.1 with
 | false=>simp
 | true =>
  rw [cond_true,cond_true,Bool.eq_iff_iff]
  simp
  omega
theorem Z3p (q:Qr)(a b:Inp)(p p' r r' : Int):Zfo q a b p p' r r' = some (true,()):=by
 obtain⟨g,h1,h2⟩:=Z7s q a p r
 obtain⟨g',h3,h4⟩:=Z7s q b p' r'
 rw [Zj8,h1,Option.bind_some]
 cases g with
 | false=>rfl
 | true =>
  rw [h3]
  cases g' with
  | false=>rfl
  | true =>
   obtain⟨a0,l1,l2,l3,l4⟩:=h2 rfl
   obtain⟨b0,l5,_⟩:=h4 rfl
   obtain⟨_,a1,a2,_,⟨a3,a4,_,_⟩,a5,a6⟩:=Z2d a0
   obtain⟨_,b1,_,_,⟨b3,b4,_,_⟩,_,_⟩:=Z2d b0
   have e1:Zar q a p r=some (mOf q a p r,0,()):=by
    rw [Zyd q a p r (by omega) (by omega) (by omega) (by omega),a0]
    rfl
   have e2:Zar q b p' r' = some (mOf q b p' r',0,()):=by
    rw [Zyd q b p' r' (by omega) (by omega) (by omega) (by omega),b0]
    rfl
   have e3:Zag a b=some (zipB inQ a b,()):=by
    rw [Yd7 a b (by omega) (fun x hx=>by have:=(Z0h (a2 x hx)).1;omega),eqL,show (a.length==b.length)=true by simp;omega,Bool.true_and]
   have e4:=Z7r a0 b0 l2 l3 l4
   rw [Z9g q a3 b3] at e4
   rw [Option.bind_some,e1,e2,e3]
   simp only [Option.bind_some,e4]
   generalize q.2.2.2.2.2.2.2.2.1=k
   generalize (p==p')=x
   generalize (r==r')=y
   generalize zipB inQ a b=z
   cases k <;> cases x <;> cases y <;> cases z <;> rfl
end Tg

/- The law BuildApart from the contracts of its functions. -/
namespace Tg
open Go.Abs
theorem Ybx:∀ pas,POKAs con3.args pas→Spec Go.Proofs.Tryz.prog 3 pas [.c (.c (.bool true))]:=Ya0 ok3 fun a _=>Z3p a.1 a.2.1 a.2.2.1 a.2.2.2.1 a.2.2.2.2.1 a.2.2.2.2.2.1 a.2.2.2.2.2.2.1
end Tg
