import Derived.Test.YtfnhchmemplhaaaGreatBPK
import Derived.Test.YtfnhchmemplhaaaGreatBUb15
import Derived.Test.YtfnhchmemplhaaaGreatBME
/- Sums that wrap; loops in loops; sums over places. -/
set_option linter.unusedVariables false
set_option linter.unusedSimpArgs false
namespace Tg
abbrev Wr (x:Int):Int:=Go.IntKind.wrap .i64 x
theorem wrL (a b:Int):Wr (Wr a+b)=Wr (a+b):=by simp only [Wr,Go.IntKind.wrap_i64];omega
theorem wrR (a b:Int):Wr (a+Wr b)=Wr (a+b):=by simp only [Wr,Go.IntKind.wrap_i64];omega
theorem wr0:Wr 0=0:=w64 (by omega) (by omega)
theorem wr1:Wr 1=1:=w64 (by omega) (by omega)
def sumI {α:Type}(v:Nat→α→Int):Nat→List α→Int
 | _,[]=>0
 | i,e::r=>v i e+sumI v (i+1) r
theorem drop_at {α:Type}{l:List α}{i:Nat}{e:α}{r:List α}(h:l.drop i=e::r):i<l.length∧l[i]? = some e∧l.drop (i+1)=r:=by
 have h1:i<l.length:=by
  have:=congrArg List.length h
  simp at this
  omega
 rw [List.drop_eq_getElem_cons h1] at h
 injection h with a b
 exact⟨h1,by rw [List.getElem?_eq_getElem h1,a],b⟩
theorem Yl9 {α β:Type}{f:Nat→Int→Int→Option β}{l:List α}{v:Nat→α→Int}{fin:Int→Option β}{C N:Nat}
    (hs:∀ (i:Nat) (e:α) (M:Nat) (S:Int) (R:Option β),l[i]? = some e→(∀ n,M≤n→f n (Wr (S+v i e)) ((i+1:Nat):Int)=R) → ∀ n,M+C≤n→f n (Wr S) (i:Int)=R)
    (he:∀ n S,N≤n→f n (Wr S) (l.length:Int)=fin S) (n:Nat) (S:Int) (hn:N+C * l.length≤n):f n (Wr S) 0=fin (S+sumI v 0 l):=by
  have key:∀ (r:List α) (i:Nat),l.drop i=r→i≤l.length → ∀ n S,N+C * r.length≤n→f n (Wr S) (i:Int)=fin (S+sumI v i r):=by
   intro r
   induction r with
   | nil =>
    intro i hd hi n S hn
    have:i=l.length:=by
     have:=congrArg List.length hd
     simp at this
     omega
    subst this
    rw [sumI,Int.add_zero]
    exact he n S (by simpa using hn)
   | cons e r ih =>
    intro i hd hi n S hn
    obtain⟨h1,h2,h3⟩:=drop_at hd
    have hm:C * (e::r).length=C * r.length+C:=by rw [List.length_cons,Nat.mul_add,Nat.mul_one]
    refine hs i e (N+C * r.length) S _ h2 (fun n' hn' => ?_) n (by omega)
    rw [ih (i+1) h3 (by omega) n' (S+v i e) hn',sumI,Int.add_assoc]
  exact key l 0 rfl (Nat.zero_le _) n S hn
def sR:Nat→(Nat→Int)→Int
 | 0,_=>0
 | n+1,f=>sR n f+f n
theorem Z3a (f:Nat→Int):∀ n,sR (n+1) f=f 0+sR n (fun k=>f (k+1))
 | 0=>by simp [sR]
 | n+1=>by
  have:=Z3a f n
  rw [sR,this,sR]
  omega
theorem Zdf {f g:Nat→Int}:∀ {n:Nat},(∀ k,k<n→f k=g k)→sR n f=sR n g
 | 0,_=>rfl
 | n+1,h=>by rw [sR,sR,Zdf (fun k hk=>h k (by omega)),h n (by omega)]
theorem Z0j (f g:Nat→Int):∀ n,sR n (fun k=>f k+g k)=sR n f+sR n g
 | 0=>rfl
 | n+1=>by
  have:=Z0j f g n
  rw [sR,sR,sR,this]
  omega
theorem Zpb {f:Nat→Int}:∀ {n:Nat},(∀ k,k<n→f k=0)→sR n f=0
 | 0,_=>rfl
 | n+1,h=>by rw [sR,Zpb (fun k hk=>h k (by omega)),h n (by omega)];rfl
theorem Z0k (f:Nat→Nat→Int)(m:Nat):∀ n,sR n (fun i=>sR m fun k=>f i k)=sR m fun k=>sR n fun i=>f i k
 | 0=>(Zpb fun _ _=>rfl).symm
 | n+1=>by
  rw [sR,Z0k f m n,← Z0j]
  exact Zdf fun k _=>rfl
theorem Z0l {f:Nat→Int}{k0:Nat}:∀ {n:Nat},k0<n→(∀ k,k<n→k≠k0→f k=0)→sR n f=f k0
 | 0,h,_=>by omega
 | n+1,h,h0=>by
  rw [sR]
  by_cases e:k0=n
  · subst e
    rw [Zpb (fun k hk=>h0 k (by omega) (by omega)),Int.zero_add]
  · rw [Z0l (by omega) (fun k hk=>h0 k (by omega)),h0 n (by omega) (fun h=>e h.symm),Int.add_zero]
theorem Zmb {α:Type}(v:Nat→α→Int):∀ (l:List α) (i:Nat),sumI v i l=sR l.length fun k=>(l[k]?).elim 0 (v (i+k))
 | [],i=>rfl
 | e::r,i=>by
  rw [sumI,Zmb v r (i+1),List.length_cons,Z3a]
  congr 1
  exact Zdf fun k hk=>by rw [List.getElem?_cons_succ,show i+1+k=i+(k+1) by omega]
theorem Zvc {α:Type}{v w:Nat→α→Int}:∀ {l:List α} {i:Nat},(∀ k e,l[k]? = some e→v (i+k) e=w (i+k) e)→sumI v i l=sumI w i l
 | [],i,_=>rfl
 | e::r,i,h=>by
  have a:=Zvc (v:=v) (w:=w) (l:=r) (i:=i+1) (fun k x hk=>by
   have:=h (k+1) x (by simpa using hk)
   rwa [show i+1+k=i+(k+1) by omega])
  rw [sumI,sumI,a,show v i e=w i e from h 0 e rfl]
end Tg

/- How many windows a record may have: the program and the reference. -/
namespace Tg
theorem Z3b (x:Int)(h1 : -1000000000000000≤x)(h2:x≤1000000000000000):Go.IntKind.wrap .i64 x=x:=w64 (by omega) (by omega)
def winN (S E:Int):Int:=bif decide (S % E>0) then S / E+1 else S / E
theorem Z7r {S E:Int}(hE:1≤E)(hS:1≤S)(hS2:S≤1073741824):0≤S / E∧S / E≤S:=by
 exact⟨Int.ediv_nonneg (by omega) (by omega),Int.ediv_le_self E (by omega)⟩
theorem Yf9 {S E:Int}(hE:1≤E):(S+E - 1) / E=winN S E:=by
 have h1:=Int.mul_ediv_add_emod S E
 have h2:=Int.emod_nonneg S (show E≠0 by omega)
 have h3:=Int.emod_lt_of_pos S (show 0<E by omega)
 unfold winN
 by_cases h:S % E>0
 · rw [dT h,cond_true]
   have:S+E - 1=(S % E - 1)+E * (S / E+1):=by rw [Int.mul_add];omega
   rw [this,Int.add_mul_ediv_left _ _ (by omega),Int.ediv_eq_zero_of_lt (by omega) (by omega),Int.zero_add]
 · rw [dF h,cond_false]
   have:S+E - 1=(E - 1)+E * (S / E):=by omega
   rw [this,Int.add_mul_ediv_left _ _ (by omega),Int.ediv_eq_zero_of_lt (by omega) (by omega),Int.zero_add]

theorem Yhj {w:Int×Int×Int×Unit}(h:fitW w=true)(hk:w.1=2):1≤w.2.1∧w.2.1≤1073741824∧1≤w.2.2.1∧w.2.2.1≤w.2.1∧w.2.1≤16 * w.2.2.1:=by
 unfold fitW at h
 rw [show (w.1==2)=true by simpa using hk] at h
 simp only [cond_true,Bool.and_eq_true,Bool.not_eq_true',decide_eq_false_iff_not,decide_eq_true_eq] at h
 obtain⟨h1,h2,h3,h4,h5⟩:=h
 rw [w64 (by omega) (by omega)] at h5
 omega

def winK (w:Int×Int×Int×Unit):Int:=if w.1=2 then winN w.2.1 w.2.2.1 else 1
theorem Yga {w:Int×Int×Int×Unit}(h:fitW w=true):Zbu w=some (winK w,()):=by
 rw [Zro]
 unfold winK
 by_cases hk:w.1=2
 · obtain⟨h1,h2,h3,h4,h5⟩:=Yhj h hk
   have hb:=Z7r (S:=w.2.1) h3 h1 h2
   simp only [Zu7 hk,cond_false,dF (show ¬ w.2.2.1=0 by omega),if_pos hk,Int.tmod_eq_emod_of_nonneg (show 0≤w.2.1 by omega),Int.tdiv_eq_ediv_of_nonneg (show 0≤w.2.1 by omega),Z3b (w.2.1 / w.2.2.1) (by omega) (by omega),Z3b (w.2.1 / w.2.2.1+1) (by omega) (by omega)]
   unfold winN
   cases decide (w.2.1 % w.2.2.1>0) <;> rfl
 · simp only [Zlm hk,cond_true,if_neg hk]
theorem Ygb {q:Qr}(h:fitW (q.2.2.2.2.2.1,q.2.2.2.2.2.2.1,q.2.2.2.2.2.2.2.1,())=true):Zd9 q=some (winK (q.2.2.2.2.2.1,q.2.2.2.2.2.2.1,q.2.2.2.2.2.2.2.1,()),()):=by
 rw [Zrp]
 unfold winK
 by_cases hk:q.2.2.2.2.2.1=2
 · obtain⟨h1,h2,h3,h4,h5⟩:=Yhj h hk
   dsimp only at h1 h2 h3 h4 h5
   have hb:=Z7r (S:=q.2.2.2.2.2.2.1) h3 h1 h2
   have hc:=Yf9 (S:=q.2.2.2.2.2.2.1) h3
   have hn:winN q.2.2.2.2.2.2.1 q.2.2.2.2.2.2.2.1≤1000000000000∧0≤winN q.2.2.2.2.2.2.1 q.2.2.2.2.2.2.2.1:=by
    unfold winN
    cases decide (q.2.2.2.2.2.2.1 % q.2.2.2.2.2.2.2.1>0)
    · rw [cond_false];omega
    · rw [cond_true];omega
   simp only [Zu7 hk,cond_false,dF (show ¬ q.2.2.2.2.2.2.2.1=0 by omega),if_pos hk,Z3b (q.2.2.2.2.2.2.1+q.2.2.2.2.2.2.2.1) (by omega) (by omega),Z3b (q.2.2.2.2.2.2.1+q.2.2.2.2.2.2.2.1 - 1) (by omega) (by omega),
    Int.tdiv_eq_ediv_of_nonneg (show 0≤q.2.2.2.2.2.2.1+q.2.2.2.2.2.2.2.1 - 1 by omega),hc,Z3b _ (show -1000000000000000≤winN q.2.2.2.2.2.2.1 q.2.2.2.2.2.2.2.1 by omega) (by omega)]
 · simp only [Zlm hk,cond_true,if_neg hk]

end Tg

/- What a message weighs for an operator: the reference. -/
namespace Tg
open Go
open Go.Abs (Zg Zz tmm)
def kdO (x:Gr)(op:Int):Int:=(x.1[op.toNat]?).elim 0 (·.1)
def toO (x:Gr)(k:Nat):Int:=(x.2.1[k]?).elim 0 (·.2.2.1)
def frO (x:Gr)(k:Nat):Int:=(x.2.1[k]?).elim 0 (·.1)
def ouO (x:Gr)(k:Nat):Int:=(x.2.1[k]?).elim 0 (·.2.1)
theorem Zhm {x:Gr}{k:Nat}{c:Cn}(h:x.2.1[k]? = some c):toO x k=c.2.2.1:=by rw [toO,h];rfl
theorem Zq4 {x:Gr}{k:Nat}{c:Cn}(h:x.2.1[k]? = some c):frO x k=c.1:=by rw [frO,h];rfl
theorem Z7s {x:Gr}{k:Nat}{c:Cn}(h:x.2.1[k]? = some c):ouO x k=c.2.1:=by rw [ouO,h];rfl
def wt (x:Gr)(W:Int)(mk:Bool):Nat→Int→Int
 | 0,_=>0
 | d+1,op=>bif kdO x op==6||kdO x op==7 then 1 else bif kdO x op==4||kdO x op==5 then (bif mk then 1 else Wr (1+Wr (2 * W))) else Wr (1+sumI (fun _ (j:Int×Unit)=>1+wt x W mk d (toO x j.1.toNat)) 0 (joinL false x op))
structure Topo (x:Gr) (pos:Int→Nat):Prop where
 up:∀ c∈x.2.1,pos c.1<pos c.2.2.1
 le:∀ c∈x.2.1,pos c.2.2.1≤20
theorem Z0m {x:Gr}(h:Tj.Zcd x.1 x.2.1){b:Bool}{op:Int}{y:Int×Unit}(hy:y∈joinL b x op):∃ (i:Nat) (c:Cn),y=((i:Int),())∧x.2.1[i]? = some c∧Tj.selF b c=op:=by
 unfold joinL at hy
 rw [List.mem_map] at hy
 obtain⟨i,hi,rfl⟩:=hy
 obtain⟨c,h1,h2⟩:=Tj.Zow.1 ((Tj.Zox (Zgn h b op)).1 hi)
 exact⟨i,c,rfl,h1,h2⟩
theorem Ygc {x:Gr}{W:Int}{mk:Bool}{pos:Int→Nat}(hr:Tj.Zcd x.1 x.2.1)(ht:Topo x pos):∀ (d e:Nat) (op:Int),20 - pos op<d→20 - pos op<e→wt x W mk d op=wt x W mk e op:=by
 intro d
 induction d with
 | zero=>intro e op h;omega
 | succ d ih =>
  intro e op h1 h2
  obtain⟨e,rfl⟩:∃ k,e=k+1:=⟨e - 1,by omega⟩
  have:sumI (fun _ (j:Int×Unit)=>1+wt x W mk d (toO x j.1.toNat)) 0 (joinL false x op)=sumI (fun _ (j:Int×Unit)=>1+wt x W mk e (toO x j.1.toNat)) 0 (joinL false x op):=by
   refine Zvc fun k y hy=>?_
   obtain⟨i,c,rfl,hc,hs⟩:=Z0m hr (List.mem_of_getElem? hy)
   have:=ht.up c (List.mem_of_getElem? hc)
   have hs:c.1=op:=hs
   have hle:=ht.le c (List.mem_of_getElem? hc)
   rw [hs] at this
   dsimp only
   rw [Int.toNat_natCast,Zhm hc,ih e c.2.2.1 (by omega) (by omega)]
  rw [wt,wt,this]
theorem Ydx (m:Mch)(op:Int)(hl:(mG m).2.1.length≤1000):Zbd m op=some (joinL false (mG m) op,()):=by
 rw [Zoz]
 have:=Zu0 (mG m) op false hl
 show (Zc8 (mG m) op false).bind _=_
 rw [this]
 rfl
def mW (m:Mch):Int×Int×Int×Unit:=(m.2.2.2.2.2.1,m.2.2.2.2.2.2.1,m.2.2.2.2.2.2.2.1,())
theorem Ygd {m:Mch}{pos:Int→Nat}{mk:Bool}(hr:Tj.Zcd (mG m).1 (mG m).2.1)(hl:(mG m).2.1.length≤100)(ht:Topo (mG m) pos)(hw:fitW (mW m)=true) :
    ∀ (d k:Nat) (c:Cn),(mG m).2.1[k]? = some c→20 - pos c.2.2.1<d→Zdd d m (k:Int) mk=some (wt (mG m) (winK (mW m)) mk d c.2.2.1,()):=by
  intro d
  induction d with
  | zero=>intro k c hc h;omega
  | succ d ih =>
   intro k c hc h
   have hf:=Ya
   have hok:=hr.1 c (List.mem_of_getElem? hc)
   simp only [okC,Tj.okC,Bool.and_eq_true,decide_eq_true_eq] at hok
   have h0:0≤c.2.2.1:=by omega
   obtain⟨t,ht0⟩:∃ t:Nat,c.2.2.1=(t:Int):=⟨c.2.2.1.toNat,by omega⟩
   have hto:t<(mG m).1.length:=by omega
   obtain⟨o,ho⟩:∃ o,(mG m).1[t]? = some o:=⟨_,List.getElem?_eq_getElem hto⟩
   have hkd:kdO (mG m) c.2.2.1=o.1:=by rw [kdO,ht0,Int.toNat_natCast,ho];rfl
   have ho2:m.2.2.2.2.2.2.2.2.2.2.1[t]? = some o:=ho
   have hc2:m.2.2.2.2.2.2.2.2.2.2.2.1[k]? = some c:=hc
   have hout:=Ydx m c.2.2.1 (by omega)
   have hout:Zbd (m.1,m.2.1,m.2.2.1,m.2.2.2.1,m.2.2.2.2.1,m.2.2.2.2.2.1,m.2.2.2.2.2.2.1,m.2.2.2.2.2.2.2.1,m.2.2.2.2.2.2.2.2.1,m.2.2.2.2.2.2.2.2.2.1,m.2.2.2.2.2.2.2.2.2.2.1,m.2.2.2.2.2.2.2.2.2.2.2.1,m.2.2.2.2.2.2.2.2.2.2.2.2.1,m.2.2.2.2.2.2.2.2.2.2.2.2.2.1,()) c.2.2.1=some (joinL false (mG m) c.2.2.1,()):=hout
   have ih2:∀ (k:Nat) (c:Cn),(mG m).2.1[k]? = some c→20 - pos c.2.2.1<d→Zdd d (m.1,m.2.1,m.2.2.1,m.2.2.2.1,m.2.2.2.2.1,m.2.2.2.2.2.1,m.2.2.2.2.2.2.1,m.2.2.2.2.2.2.2.1,m.2.2.2.2.2.2.2.2.1,m.2.2.2.2.2.2.2.2.2.1,m.2.2.2.2.2.2.2.2.2.2.1,m.2.2.2.2.2.2.2.2.2.2.2.1,m.2.2.2.2.2.2.2.2.2.2.2.2.1,m.2.2.2.2.2.2.2.2.2.2.2.2.2.1,()) (k:Int) mk=some (wt (mG m) (winK (mW m)) mk d c.2.2.1,()):=ih
   have hwin:Zd9 (m.1,m.2.1,m.2.2.1,m.2.2.2.1,m.2.2.2.2.1,m.2.2.2.2.2.1,m.2.2.2.2.2.2.1,m.2.2.2.2.2.2.2.1,m.2.2.2.2.2.2.2.2.1,m.2.2.2.2.2.2.2.2.2.1,())=some (winK (mW m),()):=Ygb (q:=(m.1,m.2.1,m.2.2.1,m.2.2.2.1,m.2.2.2.2.1,m.2.2.2.2.2.1,m.2.2.2.2.2.2.1,m.2.2.2.2.2.2.2.1,m.2.2.2.2.2.2.2.2.1,m.2.2.2.2.2.2.2.2.2.1,())) hw
   rw [Zvb,ix_s hc2,ht0,ix_s ho2,wt]
   rw [ht0] at hkd hout
   rw [hkd]
   have fu:∃ n,fuel=((n+200000)+1)+1+1:=⟨fuel - 200003,by omega⟩
   obtain⟨n,hn⟩:=fu
   rw [hn]
   by_cases k6:o.1=6
   · rw [show (o.1==6)=true by simpa using k6,cond_true,Zi8]
     rfl
   · rw [show (o.1==6)=false by simpa using k6,cond_false,Zi8,Bool.false_or]
     by_cases k7:o.1=7
     · rw [show (o.1==7)=true by simpa using k7]
       rfl
     · rw [show (o.1==7)=false by simpa using k7,cond_false,cond_false]
       have hsum:Zeq d ((n+200000)+1) mk m.1 m.2.1 m.2.2.1 m.2.2.2.1 m.2.2.2.2.1 m.2.2.2.2.2.1 m.2.2.2.2.2.2.1 m.2.2.2.2.2.2.2.1 m.2.2.2.2.2.2.2.2.1 m.2.2.2.2.2.2.2.2.2.1 m.2.2.2.2.2.2.2.2.2.2.1 m.2.2.2.2.2.2.2.2.2.2.2.1 m.2.2.2.2.2.2.2.2.2.2.2.2.1 m.2.2.2.2.2.2.2.2.2.2.2.2.2.1 (t:Int)=some (Wr (1+sumI (fun _ (j:Int×Unit)=>1+wt (mG m) (winK (mW m)) mk d (toO (mG m) j.1.toNat)) 0 (joinL false (mG m) (t:Int))),()):=by
        rw [Zrs,hout,Option.bind_some]
        have hjl:(joinL false (mG m) (t:Int)).length≤100:=by
         rw [Zdv hr]
         exact Nat.le_trans (List.length_filter_le _ _) hl
        have:=Yl9 (f:=fun n s k=>Zac d n mk m.1 m.2.1 m.2.2.1 m.2.2.2.1 m.2.2.2.2.1 m.2.2.2.2.2.1 m.2.2.2.2.2.2.1 m.2.2.2.2.2.2.2.1 m.2.2.2.2.2.2.2.2.1 m.2.2.2.2.2.2.2.2.2.1 m.2.2.2.2.2.2.2.2.2.2.1 m.2.2.2.2.2.2.2.2.2.2.2.1 m.2.2.2.2.2.2.2.2.2.2.2.2.1 m.2.2.2.2.2.2.2.2.2.2.2.2.2.1 s (joinL false (mG m) (t:Int)) k) (l:=joinL false (mG m) (t:Int)) (v:=fun _ (j:Int×Unit)=>1+wt (mG m) (winK (mW m)) mk d (toO (mG m) j.1.toNat)) (fin:=fun S=>some (Wr S,())) (C:=1) (N:=1)
         (fun i e M S R he hR n hn=>by
          obtain⟨q,rfl⟩:∃ q,n=q+1:=⟨n - 1,by omega⟩
          have hk:=(List.getElem?_eq_some_iff.1 he).1
          obtain⟨j,cj,rfl,hj,hs⟩:=Z0m hr (List.mem_of_getElem? he)
          have hs:cj.1=(t:Int):=hs
          have hup:=ht.up cj (List.mem_of_getElem? hj)
          have hle:=ht.le cj (List.mem_of_getElem? hj)
          have hR:=hR q (by omega)
          rw [hs,← ht0] at hup
          rw [Zhl,ltL he,cond_true,ix_s he,ih2 j cj hj (by omega),Option.bind_some,wS (show i<1000000000000 by omega)]
          rw [Int.toNat_natCast,Zhm hj] at hR
          rw [← hR]
          show Zac d q mk m.1 m.2.1 m.2.2.1 m.2.2.2.1 m.2.2.2.2.1 m.2.2.2.2.2.1 m.2.2.2.2.2.2.1 m.2.2.2.2.2.2.2.1 m.2.2.2.2.2.2.2.2.1 m.2.2.2.2.2.2.2.2.2.1 m.2.2.2.2.2.2.2.2.2.2.1 m.2.2.2.2.2.2.2.2.2.2.2.1 m.2.2.2.2.2.2.2.2.2.2.2.2.1 m.2.2.2.2.2.2.2.2.2.2.2.2.2.1 (Wr (Wr S+Wr (1+wt (mG m) (winK (mW m)) mk d cj.2.2.1))) _ _=_
          rw [wrL,wrR])
         (fun n S hn=>by
          obtain⟨q,rfl⟩:∃ q,n=q+1:=⟨n - 1,by omega⟩
          rw [Zhl,geL,cond_false]) (n+200000) 1 (by omega)
        rw [wr1] at this
        exact this
       by_cases k4:o.1=4
       · rw [show (o.1==4)=true by simpa using k4,cond_true,Zi9,cond_true,Bool.true_or,cond_true,hwin]
         cases mk <;> rfl
       · rw [show (o.1==4)=false by simpa using k4,cond_false,Zi9,Bool.false_or]
         by_cases k5:o.1=5
         · rw [show (o.1==5)=true by simpa using k5,cond_true,cond_true,hwin]
           cases mk <;> rfl
         · rw [show (o.1==5)=false by simpa using k5,cond_false,cond_false,hsum]
end Tg

/- The order of a right graph gives places. -/
namespace Tg
open Go
def posL:List Int→Int→Nat
 | [],_=>0
 | a::r,op=>if a=op then 0 else posL r op+1
theorem Z7t:∀ (r:List Int) (j:Nat) (op:Int),r[j]? = some op→posL r op≤j
 | [],j,op,h=>by simp at h
 | a::r,j,op,h=>by
  rw [posL]
  by_cases e:a=op
  · rw [if_pos e];omega
  · rw [if_neg e]
    cases j with
    | zero=>exact absurd (Option.some.inj h) e
    | succ j =>
     have:=Z7t r j op (by simpa using h)
     omega
theorem Zvd:∀ (r:List Int) (op:Int),op∈r→r[posL r op]? = some op
 | [],op,h=>by cases h
 | a::r,op,h=>by
  rw [posL]
  by_cases e:a=op
  · rw [if_pos e,e];rfl
  · rw [if_neg e]
    have:=Zvd r op (by rcases List.mem_cons.1 h with h | h;exact absurd h.symm e;exact h)
    simpa using this
structure Ord (x:Gr) (r:List Int):Prop where
 len:r.length=x.1.length
 nd:r.Nodup
 rng:∀ op∈r,0≤op∧op<x.1.length
 all:∀ op:Int,0≤op→op<x.1.length→op∈r
 up:∀ (i:Nat) (op:Int),r[i]? = some op → ∀ c∈x.2.1,c.2.2.1=op → ∃ j,j<i∧r[j]? = some c.1
theorem Yma {x:Gr}(h:gChk x=0):∃ r,Ql x=some (r.map fun i=>(i,()),())∧Ord x r:=by
 obtain⟨h1,h2,h3⟩:=Zu1 h
 have hr:=Zuw h3
 obtain⟨ops,chs,u⟩:=x
 have hg:=(Tj.Zr4 ops chs).2 h3
 have hrng:∀ c∈chs.map Tj.tch,0≤c.1∧c.1<(ops.length:Int)∧0≤c.2.2.1∧c.2.2.1<(ops.length:Int):=fun c hc=>by
  obtain⟨d,hd,rfl⟩:=List.mem_map.1 hc
  have:=hr.1 d hd
  simp only [okC,Tj.okC,Bool.and_eq_true,decide_eq_true_eq] at this
  show 0≤d.1∧d.1<(ops.length:Int)∧0≤d.2.2.1∧d.2.2.1<(ops.length:Int)
  omega
 have h1:ops.length≤20:=h1
 have h2:chs.length≤100:=h2
 obtain⟨r,e1,e2⟩:=Zx8 ops.length (chs.map Tj.tch) (by omega) (by rw [List.length_map];omega) hrng (ops.length+chs.length+1) (by omega)
 obtain⟨t1,t2,t3⟩:=Z5b ops.length (chs.map Tj.tch) (by omega) (by rw [List.length_map];omega) hrng (ops.length+chs.length+1) r e1
 have hlen:r.length=ops.length:=e2.2 hg.2.2
 refine⟨r,?_,hlen,t1,t2,fun op o1 o2=>?_,fun i op hi c hc hop=>?_⟩
 · rw [Zws _ (by show ops.length≤64;omega) (by show chs.length≤256;omega) (fun c hc=>by
    have:=hrng (Tj.tch c) (List.mem_map.2 ⟨c,hc,rfl⟩)
    have a:0≤c.2.2.1:=this.2.2.1
    have b:c.2.2.1<(ops.length:Int):=this.2.2.2
    omega)]
   have:Ycp (ops,chs,u)=some r:=e1
   rw [this]
   rfl
 · have hs:=(Tj.Z2j r).2 ⟨t1,fun y hy=>by have:=t2 y hy;omega⟩
   have hm:op∈Tj.srt r:=by
    rw [hs,Tj.upto,List.mem_map]
    have o2:op<(ops.length:Int):=o2
    exact⟨op.toNat,by rw [List.mem_range];omega,by simp only [Int.ofNat_eq_natCast];omega⟩
   rw [Tj.srt] at hm
   exact List.mem_mergeSort.1 hm
 · exact t3 i op hi (Tj.tch c) (List.mem_map.2 ⟨c,hc,rfl⟩) hop
theorem Z7u {x:Gr}{r:List Int}(h:Ord x r)(hr:Tj.Zcd x.1 x.2.1)(hl:x.1.length≤20):Topo x (posL r):=by
 have key:∀ c∈x.2.1,c.2.2.1∈r:=fun c hc=>by
  have:=hr.1 c hc
  simp only [okC,Tj.okC,Bool.and_eq_true,decide_eq_true_eq] at this
  exact h.all _ (by omega) (by omega)
 refine⟨fun c hc=>?_,fun c hc=>?_⟩
 · obtain⟨j,j1,j2⟩:=h.up _ _ (Zvd r _ (key c hc)) c hc rfl
   have:=Z7t r j c.1 j2
   omega
 · have:=(List.getElem?_eq_some_iff.1 (Zvd r _ (key c hc))).1
   have:=h.len
   omega
end Tg

/- The weights that the program tells. -/
namespace Tg
open Go
open Go.Abs (Zg Zz tmm)
def sumL {α:Type}(G:α→Int):List α→Int
 | []=>0
 | a::r=>G a+sumL G r
theorem Ydy {α:Type}(G:α→Int):∀ (l:List α) (i:Nat),sumI (fun _ e=>G e) i l=sumL G l
 | [],_=>rfl
 | a::r,i=>by rw [sumI,sumL,Ydy G r]
theorem Z8z {α:Type}(G:α→Int){a b:List α}(h:a.Perm b):sumL G a=sumL G b:=by
 induction h with
 | nil=>rfl
 | cons x _ ih=>rw [sumL,sumL,ih]
 | swap x y l=>simp only [sumL];omega
 | trans _ _ i1 i2=>rw [i1,i2]
theorem Ydz {α:Type}(G:α→Int)(a b:List α):sumL G (a++b)=sumL G a+sumL G b:=by
 induction a with
 | nil=>simp [sumL]
 | cons x a ih=>rw [List.cons_append,sumL,ih,sumL];omega
theorem Yd0 {α β:Type}(G:β→Int)(f:α→β)(l:List α):sumL G (l.map f)=sumL (fun a=>G (f a)) l:=by
 induction l with
 | nil=>rfl
 | cons x l ih=>rw [List.map_cons,sumL,sumL,ih]
theorem Zve (G:Nat→Int)(p:Nat→Bool):∀ n,sumL G ((List.range n).filter p)=sR n fun k=>bif p k then G k else 0
 | 0=>rfl
 | n+1=>by
  rw [List.range_succ,List.filter_append,Ydz,Zve G p n,sR]
  cases h:p n <;> simp [h,sumL]
theorem Yd1 {x:Gr}(h:Tj.Zcd x.1 x.2.1)(op:Int)(G:Nat→Int):sumI (fun _ (j:Int×Unit)=>G j.1.toNat) 0 (joinL false x op)=sR x.2.1.length fun k=>bif frO x k==op then G k else 0:=by
 rw [Ydy (fun j:Int×Unit=>G j.1.toNat),joinL,Yd0]
 have e:(fun i:Nat=>G (((i:Int),()):Int×Unit).1.toNat)=G:=by funext i;simp
 rw [e,← Tj.Zoy (Zgn h false op),Z8z G (Tj.Zuu false op x.2.1),Tj.idxN,Zve]
 refine Zdf fun k hk=>?_
 obtain⟨c,hc⟩:∃ c,x.2.1[k]? = some c:=⟨_,List.getElem?_eq_getElem hk⟩
 rw [hc,Zq4 hc]
 simp only [Option.any_some,Tj.selF,cond_false]
 congr 1
theorem wr3 (S w:Int):Wr (Wr (Wr S+1)+w)=Wr (S+(1+w)):=by simp only [Wr,Go.IntKind.wrap_i64];omega
section
variable (x:Gr) (W:Int)
def wv (mk:Bool)(op:Int):Int:=wt x W mk 30 op
def rowP (Q:Nat→Bool)(mk:Bool):List (Int×Unit):=(List.range x.2.1.length).map fun k=>(bif Q k then wv x W mk (toO x k) else 0,())
variable {x W}
theorem Zlr (Q:Nat→Bool)(mk:Bool):(rowP x W Q mk).length=x.2.1.length:=by simp [rowP]
theorem Zdg {Q:Nat→Bool}{mk:Bool}{k:Nat}(h:k<x.2.1.length):(rowP x W Q mk)[k]? = some (bif Q k then wv x W mk (toO x k) else 0,()):=by
 simp [rowP,h]
theorem Zdw {Q Q' : Nat→Bool}{mk:Bool}(h:∀ k,k<x.2.1.length→Q k=Q' k):rowP x W Q mk=rowP x W Q' mk:=by
 refine List.map_congr_left fun k hk=>?_
 rw [h k (List.mem_range.1 hk)]
theorem Z3c {Q:Nat→Bool}{mk:Bool}{k:Nat}(h:k<x.2.1.length):(rowP x W Q mk).set k (wv x W mk (toO x k),())=rowP x W (fun j=>Q j||j==k) mk:=by
 refine List.ext_getElem? fun j=>?_
 by_cases hj:j<x.2.1.length
 · rw [Zdg hj]
   by_cases e:k=j
   · subst e
     rw [List.getElem?_set_self (by rw [Zlr];exact h),beq_self_eq_true,Bool.or_true,cond_true]
   · rw [List.getElem?_set_ne e,Zdg hj]
     have:(j==k)=false:=by simpa using fun h=>e h.symm
     rw [this,Bool.or_false]
 · rw [List.getElem?_eq_none (by rw [List.length_set,Zlr];omega),List.getElem?_eq_none (by rw [Zlr];omega)]
theorem Yjn {pos:Int→Nat}(hr:Tj.Zcd x.1 x.2.1)(ht:Topo x pos)(mk:Bool)(op:Int):wv x W mk op=bif kdO x op==6||kdO x op==7 then 1 else bif kdO x op==4||kdO x op==5 then (bif mk then 1 else Wr (1+Wr (2 * W))) else
    Wr (1+sR x.2.1.length fun k=>bif frO x k==op then 1+wv x W mk (toO x k) else 0):=by
  rw [wv,Ygc hr ht 30 31 op (by omega) (by omega),wt,← Yd1 hr op (fun k=>1+wv x W mk (toO x k))]
  rfl
variable {w0 w1 w2:Int} {r:List Int}
theorem Yjo (hl:x.2.1.length≤100){Q:Nat→Bool}{i:Nat}{t rec mark:Int}{M:Nat}{R:Option (List (Int×Unit)×List (Int×Unit)×Int×Unit)}
    (hv:∀ k,k<x.2.1.length→toO x k=t→rec=wv x W false t∧mark=wv x W true t)
    (hR:∀ n,M≤n→Yg n w0 w1 w2 x.1 x.2.1 (rowP x W (fun k=>Q k||toO x k==t) false) (rowP x W (fun k=>Q k||toO x k==t) true) (r.map fun i=>(i,())) (Go.IntKind.wrap .i64 ((i:Int) - 1))=R) (n:Nat) (hn:M+200≤n) :
    Y0 n w0 w1 w2 x.1 x.2.1 (rowP x W Q false) (rowP x W Q true) (r.map fun i=>(i,())) (i:Int) t rec mark=R:=by
  obtain⟨n,rfl⟩:∃ q,n=q+1:=⟨n - 1,by omega⟩
  rw [Zo7]
  have h0:∀ mk,rowP x W Q mk=rowP x W (fun k=>Q k||(decide (k<0)&&toO x k==t)) mk:=fun mk=>Zdw fun k hk=>by simp
  rw [h0,h0]
  have:=Zx0 (f:=fun n (j:Nat) k=>Qn n w0 w1 w2 x.1 x.2.1 (rowP x W (fun k=>Q k||(decide (k<j)&&toO x k==t)) false) (rowP x W (fun k=>Q k||(decide (k<j)&&toO x k==t)) true) (r.map fun i=>(i,())) (i:Int) t rec mark x.2.1 (Int.ofNat x.2.1.length) k)
   (l:=x.2.1) (g:=fun (j:Nat) _=>j+1) (fin:=fun _=>R) (N:=M+1) (fun k j=>j=k)
   (fun n j k c hc hj=>⟨by
    subst hj
    have hk:=(List.getElem?_eq_some_iff.1 hc).1
    rw [Zgt,ltL hc,cond_true,ix_s hc,wS (show j<1000000000000 by omega)]
    by_cases e:c.2.2.1=t
    · rw [show (c.2.2.1==t)=true by simpa using e,cond_true,Z1x (Zdg hk),Z1x (Zdg hk),Int.toNat_natCast]
      obtain⟨v1,v2⟩:=hv j hk (by rw [Zhm hc,e])
      have e1:rec=wv x W false (toO x j):=by rw [Zhm hc,e];exact v1
      have e2:mark=wv x W true (toO x j):=by rw [Zhm hc,e];exact v2
      have hs:∀ mk,rowP x W (fun j' => (fun k=>Q k||(decide (k<j)&&toO x k==t)) j' || j' == j) mk=rowP x W (fun k=>Q k||(decide (k<j+1)&&toO x k==t)) mk:=fun mk=>Zdw fun k hk' => by
       by_cases ek:k=j
       · subst ek
         have:(toO x k==t)=true:=by rw [Zhm hc];simpa using e
         simp [this]
       · have a1:(k==j)=false:=by simpa using ek
         have a2:decide (k<j+1)=decide (k<j):=by
          rw [decide_eq_decide];omega
         simp [a1,a2]
      rw [← hs,← hs,← Z3c hk,← Z3c hk,← e1,← e2]
    · rw [show (c.2.2.1==t)=false by simpa using e,cond_false]
      have hs:∀ mk,rowP x W (fun k=>Q k||(decide (k<j)&&toO x k==t)) mk=rowP x W (fun k=>Q k||(decide (k<j+1)&&toO x k==t)) mk:=fun mk=>Zdw fun k hk' => by
       by_cases ek:k=j
       · subst ek
         have:(toO x k==t)=false:=by rw [Zhm hc];simpa using e
         simp [this]
       · have a2:decide (k<j+1)=decide (k<j):=by
          rw [decide_eq_decide];omega
         simp [a2]
      rw [hs,hs],by omega⟩)
   (fun n j hn hj=>by
    subst hj
    rw [Zgt,geL,cond_false]
    have hs:∀ mk,rowP x W (fun k=>Q k||(decide (k<x.2.1.length)&&toO x k==t)) mk=rowP x W (fun k=>Q k||toO x k==t) mk:=fun mk=>Zdw fun k hk=>by simp [hk]
    rw [hs,hs]
    exact hR n (by omega)) n 0 rfl (by omega)
  exact this
end
end Tg

/- The weights that the program tells are those of the reference. -/
namespace Tg
open Go
open Go.Abs (Zg Zz tmm)
section
variable {x:Gr} {W w0 w1 w2:Int} {r:List Int}
theorem Ymb (hl:x.2.1.length≤100){Q:Nat→Bool}{i:Nat}{t:Int}{M:Nat}{R:Option (List (Int×Unit)×List (Int×Unit)×Int×Unit)}
    (hQ:∀ k c,x.2.1[k]? = some c→c.1=t→Q k=true)
    (hR:∀ n,M≤n→Y0 n w0 w1 w2 x.1 x.2.1 (rowP x W Q false) (rowP x W Q true) (r.map fun i=>(i,())) (i:Int) t
     (Wr (1+sR x.2.1.length fun k=>bif frO x k==t then 1+wv x W false (toO x k) else 0)) (Wr (1+sR x.2.1.length fun k=>bif frO x k==t then 1+wv x W true (toO x k) else 0))=R) (n:Nat) (hn:M+200≤n) :
    Yh n w0 w1 w2 x.1 x.2.1 (rowP x W Q false) (rowP x W Q true) (r.map fun i=>(i,())) (i:Int) t 1 1 x.2.1 (Int.ofNat x.2.1.length) 0=R:=by
  have:=Zx0 (f:=fun n (s:Int×Int×Nat) k=>Yh n w0 w1 w2 x.1 x.2.1 (rowP x W Q false) (rowP x W Q true) (r.map fun i=>(i,())) (i:Int) t (Wr s.1) (Wr s.2.1) x.2.1 (Int.ofNat x.2.1.length) k)
   (l:=x.2.1) (g:=fun (s:Int×Int×Nat) c=>(s.1+(bif c.1==t then 1+wv x W false c.2.2.1 else 0),s.2.1+(bif c.1==t then 1+wv x W true c.2.2.1 else 0),s.2.2+1)) (fin:=fun _=>R) (N:=M+1)
   (fun k s=>s.1=1+sR k (fun k=>bif frO x k==t then 1+wv x W false (toO x k) else 0)∧s.2.1=1+sR k (fun k=>bif frO x k==t then 1+wv x W true (toO x k) else 0))
   (fun n s k c hc hp=>by
    have hk:=(List.getElem?_eq_some_iff.1 hc).1
    refine⟨?_,?_⟩
    · rw [Zgs,ltL hc,cond_true,ix_s hc,wS (show k<1000000000000 by omega)]
      by_cases e:c.1=t
      · rw [show (c.1==t)=true by simpa using e,cond_true,Z1x (Zdg hk),Z1x (Zdg hk),hQ k c hc e,cond_true,cond_true,Zhm hc,cond_true,cond_true]
        show Yh n w0 w1 w2 x.1 x.2.1 _ _ _ _ _ (Wr (Wr (Wr s.1+1)+_)) (Wr (Wr (Wr s.2.1+1)+_)) _ _ _=_
        rw [wr3,wr3]
      · rw [show (c.1==t)=false by simpa using e,cond_false,cond_false,cond_false,Int.add_zero,Int.add_zero]
    · rw [sR,sR,hp.1,hp.2,Zq4 hc,Zhm hc]
      exact⟨Int.add_assoc _ _ _,Int.add_assoc _ _ _⟩)
   (fun n s hn hp=>by
    rw [Zgs,geL,cond_false,hp.1,hp.2]
    exact hR n (by omega)) n (1,1,0) ⟨rfl,rfl⟩ (by omega)
  rw [wr1] at this
  exact this
theorem Yge {pos:Int→Nat}(hr:Tj.Zcd x.1 x.2.1)(ho:x.1.length≤20)(hl:x.2.1.length≤100)(ht:Topo x pos)(hO:Ord x r)(hw:Zbu (w0,w1,w2,())=some (W,())):∀ (i:Nat),i≤r.length → ∀ n,1000 * (i+1)≤n →
    Yg n w0 w1 w2 x.1 x.2.1 (rowP x W (fun k=>(r.drop i).contains (toO x k)) false) (rowP x W (fun k=>(r.drop i).contains (toO x k)) true) (r.map fun i=>(i,())) ((i:Int) - 1) =
    some (rowP x W (fun _=>true) false,rowP x W (fun _=>true) true,0,()):=by
  have hto:∀ k c,x.2.1[k]? = some c→toO x k∈r:=fun k c hc=>by
   have:=hr.1 c (List.mem_of_getElem? hc)
   simp only [okC,Tj.okC,Bool.and_eq_true,decide_eq_true_eq] at this
   rw [Zhm hc]
   exact hO.all _ (by omega) (by omega)
  intro i
  induction i with
  | zero =>
   intro hi n hn
   obtain⟨n,rfl⟩:∃ q,n=q+1:=⟨n - 1,by omega⟩
   rw [Zgq,show decide (((0:Nat):Int) - 1≥0)=false by decide,cond_false]
   have:∀ mk,rowP x W (fun k=>(r.drop 0).contains (toO x k)) mk=rowP x W (fun _=>true) mk:=fun mk=>Zdw fun k hk=>by
    obtain⟨c,hc⟩:∃ c,x.2.1[k]? = some c:=⟨_,List.getElem?_eq_getElem hk⟩
    rw [List.drop_zero,List.contains_iff_mem]
    exact hto k c hc
   rw [this,this]
  | succ i ih =>
   intro hi n hn
   have hi2:i<r.length:=by omega
   obtain⟨op,hop⟩:∃ op,r[i]? = some op:=⟨_,List.getElem?_eq_getElem hi2⟩
   have hrg:=hO.rng op (List.mem_of_getElem? hop)
   obtain⟨t,rfl⟩:∃ t:Nat,op=(t:Int):=⟨op.toNat,by omega⟩
   obtain⟨o,hx⟩:∃ o,x.1[t]? = some o:=⟨_,List.getElem?_eq_getElem (by omega)⟩
   have hkd:kdO x (t:Int)=o.1:=by rw [kdO,Int.toNat_natCast,hx];rfl
   have hdr:r.drop i=(t:Int)::r.drop (i+1):=by
    rw [List.drop_eq_getElem_cons hi2]
    congr 1
    exact (List.getElem?_eq_some_iff.1 hop).2
   have hm:(r.map fun i=>(i,()))[i]? = some ((t:Int),()):=by rw [List.getElem?_map,hop];rfl
   have e1:(((i+1:Nat):Int) - 1)=(i:Int):=by omega
   have hll:=hO.len
   have e2:Go.IntKind.wrap .i64 ((i:Int) - 1)=(i:Int) - 1:=w64 (by omega) (by omega)
   -- what comes behind
   have back:∀ n,1000 * (i+1)≤n→Yg n w0 w1 w2 x.1 x.2.1 (rowP x W (fun k=>(fun k=>(r.drop (i+1)).contains (toO x k)) k||toO x k==(t:Int)) false) (rowP x W (fun k=>(fun k=>(r.drop (i+1)).contains (toO x k)) k||toO x k==(t:Int)) true) (r.map fun i=>(i,())) (Go.IntKind.wrap .i64 ((i:Int) - 1)) =
       some (rowP x W (fun _=>true) false,rowP x W (fun _=>true) true,0,()):=fun n hn=>by
     rw [e2,← ih (by omega) n hn]
     have:∀ mk,rowP x W (fun k=>(fun k=>(r.drop (i+1)).contains (toO x k)) k||toO x k==(t:Int)) mk=rowP x W (fun k=>(r.drop i).contains (toO x k)) mk:=fun mk=>Zdw fun k hk=>by
      rw [hdr,List.contains_cons,Bool.or_comm]
     rw [this,this]
   have tail:=fun (rec mark:Int) (hv:∀ k,k<x.2.1.length→toO x k=(t:Int)→rec=wv x W false (t:Int)∧mark=wv x W true (t:Int))=>Yjo (w0:=w0) (w1:=w1) (w2:=w2) (r:=r) hl (i:=i) hv back
   have fx:=fun mk=>Yjn (W:=W) hr ht mk (t:Int)
   rw [hkd] at fx
   obtain⟨n,rfl⟩:∃ q,n=q+1+1+1:=⟨n - 3,by omega⟩
   rw [e1,Zgq,show decide ((i:Int)≥0)=true from decide_eq_true (by omega),cond_true,ix_s hm,ix_s hx]
   have hmany:=(hr.2.2 t o hx).2
   by_cases k4:o.1=4
   · rw [show (o.1==4)=true by simpa using k4,cond_true,Zdc,cond_true,hw,Option.bind_some]
     refine tail _ _ (fun k _ _=>?_) _ (by omega)
     rw [fx,fx,k4]
     exact⟨rfl,rfl⟩
   · rw [show (o.1==4)=false by simpa using k4,cond_false]
     by_cases k5:o.1=5
     · rw [show (o.1==5)=true by simpa using k5,Zdc,cond_true,hw,Option.bind_some]
       refine tail _ _ (fun k _ _=>?_) _ (by omega)
       rw [fx,fx,k5]
       exact⟨rfl,rfl⟩
     · rw [show (o.1==5)=false by simpa using k5,Zdc,cond_false]
       have h28:o.1=2∨o.1=3→Zaz (n+1) w0 w1 w2 x.1 x.2.1 (rowP x W (fun k=>(r.drop (i+1)).contains (toO x k)) false) (rowP x W (fun k=>(r.drop (i+1)).contains (toO x k)) true) (r.map fun i=>(i,())) (i:Int) (t:Int) 1 1 true =
           some (rowP x W (fun _=>true) false,rowP x W (fun _=>true) true,0,()):=fun h23=>by
         rw [Zgr,cond_true]
         refine Ymb (M:=1000 * (i+1)+200) hl (fun k c hc hct=>?_) (fun n hn=>tail _ _ (fun k _ _=>?_) n (by omega)) n (by omega)
         · -- what the operator leads to stands behind it
           rw [List.contains_iff_mem]
           have hk:=hto k c hc
           obtain⟨j,hj⟩:=List.mem_iff_getElem?.1 hk
           rw [Zhm hc] at hj ⊢
           obtain⟨q,q1,q2⟩:=hO.up j _ hj c (List.mem_of_getElem? hc) rfl
           rw [hct] at q2
           have hqi:q=i:=(List.getElem?_inj (List.getElem?_eq_some_iff.1 q2).1 hO.nd).1 (q2.trans hop.symm)
           exact List.mem_iff_getElem?.2 ⟨j - (i+1),by rw [List.getElem?_drop,show i+1+(j - (i+1))=j by omega];exact hj⟩
         · rw [fx,fx]
           rcases h23 with h | h <;> rw [h] <;> exact⟨rfl,rfl⟩
       by_cases k2:o.1=2
       · rw [show (o.1==2)=true by simpa using k2,cond_true]
         exact h28 (.inl k2)
       · rw [show (o.1==2)=false by simpa using k2,cond_false]
         by_cases k3:o.1=3
         · rw [show (o.1==3)=true by simpa using k3]
           exact h28 (.inr k3)
         · rw [show (o.1==3)=false by simpa using k3,Zgr,cond_false]
           refine tail _ _ (fun k hk hkt=>?_) _ (by omega)
           -- neither a source, as a channel leads to it
           obtain⟨c,hc⟩:∃ c,x.2.1[k]? = some c:=⟨_,List.getElem?_eq_getElem hk⟩
           rw [Zhm hc] at hkt
           have hcnt:0<cnt true (t:Int) x.2.1:=by
            unfold cnt
            exact List.length_pos_of_mem (List.mem_filter.2 ⟨List.mem_of_getElem? hc,by simpa using hkt⟩)
           have h67:o.1=6∨o.1=7:=by
            unfold Zga at hmany
            simp only [Bool.and_eq_true,decide_eq_true_eq] at hmany
            obtain⟨⟨m1,m2⟩,⟨m3,m4⟩,m5⟩:=hmany
            by_cases h1:o.1=1
            · rw [h1] at m4
              have:(bnd 1).2.1=0:=rfl
              omega
            · omega
           rw [fx,fx]
           rcases h67 with h | h <;> rw [h] <;> exact⟨rfl,rfl⟩
end
end Tg

/- The weights of the program and of the reference. -/
namespace Tg
open Go
open Go.Abs (Zg Zz tmm)
theorem Yjp {m:Mch}(h:((chkQ (mQ m)).2.1==0)=true):fitW (mW m)=true:=by
 have hc:chkC (mQ m)=0:=by
  unfold chkQ at h
  cases hc:(chkC (mQ m)==0) with
  | true=>simpa using hc
  | false=>rw [hc,cond_false] at h;exact absurd (hc.symm.trans h) (by simp)
 exact (Ydq hc).2.2
structure Val (m:Mch) (r:List Int):Prop where
 ok:Tj.Zcd (mG m).1 (mG m).2.1
 ops:(mG m).1.length≤20
 chs:(mG m).2.1.length≤100
 z:gChk (mG m)=0
 ord:Ord (mG m) r
 gor:Ql (mG m)=some (r.map fun i=>(i,()),())
 fit:fitW (mW m)=true
 tl:(mT m).length=(mG m).1.length
 ul:(mU m).length=(mG m).2.1.length
theorem Yjq {m:Mch}(h:mchB ((chkQ (mQ m)).2.1==0) m=true):∃ r,Val m r:=by
 unfold mchB at h
 simp only [Bool.and_eq_true,beq_iff_eq (a:=gChk (mG m)),beq_iff_eq (a:=(mT m).length),beq_iff_eq (a:=(mU m).length)] at h
 obtain⟨h1,h2,h3,h4,h5,h6⟩:=h
 obtain⟨g1,g2,g3⟩:=Zu1 h2
 obtain⟨r,r1,r2⟩:=Yma h2
 exact⟨r,Zuw g3,g1,g2,h2,r2,r1,Yjp h1,h3,h4⟩
abbrev mWn (m:Mch):Int:=winK (mW m)
def rowW (m:Mch)(mk:Bool):List (Int×Unit):=rowP (mG m) (mWn m) (fun _=>true) mk
theorem Z3d {m:Mch}{r:List Int}(hv:Val m r)(hc:Zf2 m=some (0,())):Zbv m=some (rowW m false,rowW m true,0,()):=by
 have hf:=Ya
 have h1:=hv.ops
 have h2:=hv.chs
 have hor:Zlp (m.2.2.2.2.2.2.2.2.2.2.1,m.2.2.2.2.2.2.2.2.2.2.2.1,())=some (r.map fun i=>(i,()),0,()):=by
  rw [Zwx]
  have a:Qk (m.2.2.2.2.2.2.2.2.2.2.1,m.2.2.2.2.2.2.2.2.2.2.2.1,())=some (gChk (mG m),()):=Zmz (mG m) (by omega) (by omega)
  have b:Ql (m.2.2.2.2.2.2.2.2.2.2.1,m.2.2.2.2.2.2.2.2.2.2.2.1,())=some (r.map fun i=>(i,()),()):=hv.gor
  rw [a,hv.z,b]
  rfl
 have hul:m.2.2.2.2.2.2.2.2.2.2.2.2.2.1.length=(mG m).2.1.length:=hv.ul
 have hb:(decide (Int.toNat (Int.ofNat m.2.2.2.2.2.2.2.2.2.2.2.2.2.1.length)≤Int.toNat (Int.ofNat m.2.2.2.2.2.2.2.2.2.2.2.2.2.1.length))&&(decide (8 * Int.toNat (Int.ofNat m.2.2.2.2.2.2.2.2.2.2.2.2.2.1.length)≤281474976710656)&&decide (Int.toNat (Int.ofNat m.2.2.2.2.2.2.2.2.2.2.2.2.2.1.length)≤9223372036854775807)))=true:=by
  simp only [Bool.and_eq_true,decide_eq_true_eq,Int.ofNat_eq_natCast,Int.toNat_natCast]
  omega
 have hrep:∀ mk,List.replicate (Int.toNat (Int.ofNat m.2.2.2.2.2.2.2.2.2.2.2.2.2.1.length)) ((0:Int),())=rowP (mG m) (mWn m) (fun k=>(r.drop r.length).contains (toO (mG m) k)) mk:=fun mk=>by
  rw [Int.ofNat_eq_natCast,Int.toNat_natCast,hul]
  refine List.ext_getElem? fun k=>?_
  by_cases hk:k<(mG m).2.1.length
  · rw [Zdg hk,List.drop_length]
    simp [hk]
  · rw [List.getElem?_eq_none (by simp;omega),List.getElem?_eq_none (by rw [Zlr];omega)]
 have hwin:Zbu (m.2.2.2.2.2.1,m.2.2.2.2.2.2.1,m.2.2.2.2.2.2.2.1,())=some (mWn m,()):=Yga (w:=mW m) hv.fit
 have hlen:=hv.ord.len
 have hst:Go.IntKind.wrap .i64 (Int.ofNat (r.map fun i=>(i,())).length - 1)=(r.length:Int) - 1:=by
  rw [List.length_map,Int.ofNat_eq_natCast]
  exact w64 (by omega) (by omega)
 have:=Yge (W:=mWn m) hv.ok h1 h2 (Z7u hv.ord hv.ok h1) hv.ord hwin r.length (Nat.le_refl _) fuel (by omega)
 rw [Ziy,hc,Option.bind_some,bne_self_eq_false,cond_false,hor,Option.bind_some,bne_self_eq_false,cond_false,hb,cond_true,cond_true]
 dsimp only
 rw [hst,hrep false]
 refine Eq.trans ?_ this
 show Yg fuel _ _ _ _ _ _ (rowP (mG m) (mWn m) _ false) _ _=_
 rw [← hrep false,hrep true]
 rfl
theorem Yd2 {m:Mch}{r:List Int}(hv:Val m r):Zma m=some (rowW m false,rowW m true,()):=by
 have hf:=Ya
 have h1:=hv.ops
 have h2:=hv.chs
 have ht:=Z7u hv.ord hv.ok h1
 have hw:∀ (k:Nat) (c:Cn) (mk:Bool),(mG m).2.1[k]? = some c→Zg4 (m.1,m.2.1,m.2.2.1,m.2.2.2.1,m.2.2.2.2.1,m.2.2.2.2.2.1,m.2.2.2.2.2.2.1,m.2.2.2.2.2.2.2.1,m.2.2.2.2.2.2.2.2.1,m.2.2.2.2.2.2.2.2.2.1,m.2.2.2.2.2.2.2.2.2.2.1,m.2.2.2.2.2.2.2.2.2.2.2.1,m.2.2.2.2.2.2.2.2.2.2.2.2.1,m.2.2.2.2.2.2.2.2.2.2.2.2.2.1,()) (k:Int) mk=some (wv (mG m) (mWn m) mk (toO (mG m) k),()):=fun k c mk hc=>by
  rw [Zhm hc]
  exact Ygd hv.ok h2 ht hv.fit 30 k c hc (by omega)
 have:=Zx0 (f:=fun n (j:Nat) k=>Ze5 n m.1 m.2.1 m.2.2.1 m.2.2.2.1 m.2.2.2.2.1 m.2.2.2.2.2.1 m.2.2.2.2.2.2.1 m.2.2.2.2.2.2.2.1 m.2.2.2.2.2.2.2.2.1 m.2.2.2.2.2.2.2.2.2.1 m.2.2.2.2.2.2.2.2.2.2.1 m.2.2.2.2.2.2.2.2.2.2.2.1 m.2.2.2.2.2.2.2.2.2.2.2.2.1 m.2.2.2.2.2.2.2.2.2.2.2.2.2.1 ((List.range j).map fun k=>(wv (mG m) (mWn m) false (toO (mG m) k),())) ((List.range j).map fun k=>(wv (mG m) (mWn m) true (toO (mG m) k),())) k)
  (l:=(mG m).2.1) (g:=fun (j:Nat) _=>j+1) (fin:=fun _=>some (rowW m false,rowW m true,())) (N:=1) (fun k j=>j=k)
  (fun n j k c hc hj=>⟨by
   subst hj
   have hk:=(List.getElem?_eq_some_iff.1 hc).1
   have hlt:decide ((j:Int)<Int.ofNat m.2.2.2.2.2.2.2.2.2.2.2.1.length)=true:=ltL (l:=(mG m).2.1) hc
   have b:∀ mk,Zg (((List.range j).map fun k=>(wv (mG m) (mWn m) mk (toO (mG m) k),())).length+List.length [(wv (mG m) (mWn m) mk (toO (mG m) j),())]) 8=true:=fun mk=>Zav (by simp;omega) (by omega)
   rw [Zo8,hlt,cond_true,hw j c false hc,Option.bind_some,b,cond_true,hw j c true hc,Option.bind_some,b,cond_true,wS (show j<1000000000000 by omega),List.range_succ,List.map_append,List.map_append]
   rfl,by omega⟩)
  (fun n j hn hj=>by
   subst hj
   have hge:decide (((mG m).2.1.length:Int)<Int.ofNat m.2.2.2.2.2.2.2.2.2.2.2.1.length)=false:=geL (l:=(mG m).2.1)
   rw [Zo8,hge,cond_false]
   rfl) fuel 0 rfl (by omega)
 rw [Z28]
 exact this
end Tg
