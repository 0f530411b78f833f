import Derived.Test.YtlnihcefchoofaaGreatDoorDWJ3
import Derived.Test.YtlnihcefchoofaaGreatDoorDNO
set_option linter.all false
namespace Tj
open Go Go.RowKit Go.Proofs
def tch(c:Chn):Tn.Ch:=(c.1,c.2.1,c.2.2.1,c.2.2.2.1,c.2.2.2.2.1)
def acyc(n:Nat)(chs:List Chn):Prop:=∀x:Int,0<=x->x<n->¬Tg.Pth (chs.map tch) x x
def okO(o:Opr):Bool:=(decide (1<=o.1)&&decide (o.1<=7))&&(decide (0<=o.2.1)&&decide (o.2.1<=3))
def gOk(ops:List Opr)(chs:List Chn):Prop:=ops.all okO=true/\Zai ops chs=true/\acyc ops.length chs
open Classical in
noncomputable def gchk(ops:List Opr)(chs:List Chn):Int:=if 20<ops.length∨100<chs.length then 4 else if gOk ops chs then 0 else 8
variable {n:Nat}{a:Option Addr}
theorem SlAt.mono{α:Type}{w wr:World}{sz: Nat}{f:α->List Value}{xs:List α}(h:SlAt w sz f a n xs)(hb:Below w.heap.size w wr):SlAt wr sz f a n xs:=⟨h.1,λj x hx=>by obtain⟨b,e,hl,hc⟩:=h.2 j x hx;exact⟨b,e,Nat.lt_of_lt_of_le hl hb.size,λi v hv=>(hb.cell (p:=b.add (j*sz+i)) (by rw[Zc];exact hl)).trans (hc i v hv)⟩⟩
theorem SlAt.chs{w:World}{chs:List Chn}(h:SlAt w 5 chC a n chs):Tn.Yto w a (chs.map tch):=λwr j c hb hc=>by rw[J0m,J0f]at hc;obtain⟨c,hc,rfl⟩:=hc;obtain⟨b,e,_,g⟩:=h.five hc hb;exact⟨b,e,g⟩
theorem Ygv:∀(n:Nat) (p:Option Chn) (l:List Chn),chk n p l=true -> ∀c∈l,okC n c=true
 |_,_,[],_,c,hc=>by simp at hc|n,p,d::l,h,c,hc=>by
  rw[Zlg,J0e,J0e]at h;rcases List.mem_cons.1 hc with rfl|hc
  exact h.1;exact Ygv n (some d) l h.2.2 c hc
theorem Yi5{w:World}{base e size: Nat}{v:Value}{xs:List Value}(h:w.ownsRow base e size v n xs):∃A C,v = .slice A n C/\True:=by
 obtain⟨h1,h2⟩:=h;rcases h2 with⟨rfl,rfl⟩|⟨g,cap,cur,rfl,_⟩
 exact⟨none,0,rfl,trivial⟩;exact⟨_,_,rfl,trivial⟩
theorem Ysb{ops:List Opr}{chs:List Chn}(h:Zai ops chs=true):∀c∈chs.map tch,0<=c.1/\c.1<(ops.length:Nat)/\0<=c.2.2.1/\c.2.2.1<(ops.length:Nat):=by rw[Zai,J0e]at h;intro c hc;rw[List.mem_map]at hc;obtain⟨d,hd,rfl⟩:=hc;have:=Ygv _ _ _ h.1 d hd;simp only[okC,J0e,J0h]at this;simp only[tch];omega
set_option maxRecDepth 100000 in
set_option maxHeartbeats 2000000 in
theorem Z88(a1 a2:Option Addr)(n1 n2 c1 c2:Nat)(ops:List Opr)(chs:List Chn)(w:World)(h1:n1<=20)(h2:n2<=100)(ho:SlAt w 2 opC a1 n1 ops)(hc:SlAt w 5 chC a2 n2 chs):Calls Tryz.prog 31 #[.agg #[.slice a1 n1 c1,.slice a2 n2 c2]] w λe w' => e = .returned (.int .i64 (gchk ops chs))/\Below w.heap.size w w' := by
 have hg0:¬(20<ops.length∨100<chs.length):=by have:=ho.1;have:=hc.1;omega
 have hbad:¬gOk ops chs->gchk ops chs=8:=λh=>by rw[gchk,if_neg hg0,if_neg h]
 have hgood:gOk ops chs->gchk ops chs=0:=λh=>by rw[gchk,if_neg hg0,if_pos h]
 have HO:=Lib.hid ho;have HC:=Lib.hid hc;have HBAD:=Lib.hid hbad;have HGOOD:=Lib.hid hgood;clear ho hc hg0 hbad hgood;go_enter Tryz.func31,Tryz.ntmps31;go_wp2;go_loopw[18] (λi wr=>∃j:Nat,j<=n1/\i = .int .i64 j/\Below w.heap.size w wr/\wr.heap[w.heap.size]? = some (.cells #[.slice a1 n1 c1,.slice a2 n2 c2] 31 (0,0)) /\ ∀(q:Nat) (o:Opr),q<j->ops[q]? = some o->okO o=true) (λi _=>n1-(RowKit.intOf i).toNat)
 case atStart=>exact⟨0,Nat.zero_le _,rfl,(Below.refl _ _).alloc (Nat.le_refl _) _,heap_alloc_new w _,λq o hq=>absurd hq (Nat.not_lt_zero _)⟩
 case round =>
  obtain⟨j,hj,rfl,hbw,hbx,hall⟩:=hrel;have HB:=Lib.hid hbw;have HX:=Lib.hid hbx;have HA:=Lib.hid hall;clear hbw hbx hall;by_cases hlt:j<n1
  . obtain⟨o,hoj⟩:∃o,ops[j]? = some o:=⟨_,J0c (by rw[<- HO.out.1];exact hlt)⟩;obtain⟨b1,rfl,hb1,G0,G1⟩:=HO.out.two hoj HB.out;obtain⟨kd,on,u⟩:=o;have HOJ:=Lib.hid hoj;clear hoj;simp only at G0 G1;have hbn:∀o,Below w.heap.size w (wr.alloc o):=λo=>HB.out.alloc (Nat.le_of_lt (Zeg HX.out)) o;have HBN:=Lib.hid hbn;clear hbn;have hno:okO (kd,on,u)=false->¬gOk ops chs:=λh g=>by have:=List.all_eq_true.1 g.1 _ (J0j HOJ.out);rw[h]at this;cases this
    have HNO:=Lib.hid hno;clear hno;by_cases e1:kd<1
    . go_wp2;go_ret;exact⟨by rw[HBAD.out (HNO.out (by simp[okO];omega))];rfl,HBN.out _⟩
    by_cases e2:7<kd
    . go_wp2;go_ret;exact⟨by rw[HBAD.out (HNO.out (by simp[okO];omega))];rfl,HBN.out _⟩
    by_cases e3:on<0
    . go_wp2;go_ret;exact⟨by rw[HBAD.out (HNO.out (by simp[okO];omega))];rfl,HBN.out _⟩
    by_cases e4:3<on
    . go_wp2;go_ret;exact⟨by rw[HBAD.out (HNO.out (by simp[okO];omega))];rfl,HBN.out _⟩
    have hok:okO (kd,on,u)=true:=by simp[okO];omega
    have HOK:=Lib.hid hok;clear hok;go_wp2;go_roundw
    case rel => refine⟨j+1,by omega,by go_num,HBN.out _,Xn _ HX.out (Zeg HX.out),λq o hq ho=>?_⟩;by_cases hqj:q=j;subst hqj;rw[HOJ.out]at ho;obtain rfl:=J0a ho;exact HOK.out;exact HA.out q o (by omega) ho
    case measure=>simp[RowKit.intOf];omega
  . have hje:j=n1:=by omega
    subst hje;have hops:ops.all okO=true:=by rw[List.all_eq_true];intro o ho;obtain⟨q,hq,rfl⟩:=List.getElem_of_mem ho;exact HA.out q _ (by rw[HO.out.1];exact hq) (J0c hq)
    have HOPS:=Lib.hid hops;clear hops;go_upto_region 9 with fail
    obtain⟨N,hN⟩:∃N,N=w.heap.size:=⟨_,rfl⟩;have x0:wr.cell? ⟨N,0,none⟩=some (.slice a1 j c1):=(Yc (by rw[hN];exact HX.out) rfl).1;have x1:wr.cell? ⟨N,1,none⟩=some (.slice a2 n2 c2):=(Yc (by rw[hN];exact HX.out) rfl).1;have hkp:∀u v:World,(u.cell? ⟨N,0,none⟩=some (.slice a1 j c1)/\u.cell? ⟨N,1,none⟩=some (.slice a2 n2 c2))->Below u.heap.size u v->(v.cell? ⟨N,0,none⟩=some (.slice a1 j c1)/\v.cell? ⟨N,1,none⟩=some (.slice a2 n2 c2)):=λu v h hb=>⟨(hb.cell (World.block_lt_of_cell? u _ h.1)).trans h.1,(hb.cell (World.block_lt_of_cell? u _ h.2)).trans h.2⟩;have KP:=Lib.hid hkp;have hj1:=λW (hW:Below w.heap.size w W)=>Ych a1 a2 j n2 c1 c2 ops chs W (by omega) (by omega) (HO.out.mono hW) (HC.out.mono hW);clear hkp;rw[<- hN];clear hN;cases hjp:Zai ops chs with
    |false =>
     rw[hjp]at hj1;have J1:=Lib.hid hj1;have HJP:=Lib.hid hjp;clear hj1 hjp;refine Z24 99 12 ([],[]) (λ_ w' => w'.cell? ⟨N,0,none⟩=some (.slice a1 j c1)/\w'.cell? ⟨N,1,none⟩=some (.slice a2 n2 c2)) ⟨x0,x1⟩ (λhS=>?_)
     iterate 1(refine N_go false true (λ_ h=>h) hS rfl (v:=?_) (λ_ _ _ h=>h) (by rfl) ?_ ?_;rotate_left;(focus(intro w hSw;obtain⟨h0,h1⟩:=hSw;go_simp<;>rfl));try simp only[Act.put,pA,pB,pC])
     refine Zhy true rfl (λK hK=>?_);go_simp;go_at_call 59;refine(J1.out _ HB.out.drew).mono ?_;rintro e w6 ⟨rfl,hb6⟩;have hbw6:=HB.out.drew.trans (hb6.mono HB.out.size);refine hK.out _ _ (KP.out _ _ hS hb6) (λhS=>?_);clear hK K;try simp only[Act.put,pA,pB,pC]
     iterate 2(refine N_go false true (λ_ h=>h) hS rfl (v:=?_) (λ_ _ _ h=>h) (by rfl) ?_ ?_;rotate_left;(focus(intro w hSw;obtain⟨h0,h1⟩:=hSw;go_simp<;>rfl));try simp only[Act.put,pA,pB,pC])
     iterate 7(refine Z8x false true (λ_ h=>h) hS rfl (λ_ _ _ h=>h) (by rfl) ?_;try simp only[Act.put,pA,pB,pC])
     iterate 1(refine N_go false true (λ_ h=>h) hS rfl (v:=?_) (λ_ _ _ h=>h) (by rfl) ?_ ?_;rotate_left;(focus(intro w hSw;obtain⟨h0,h1⟩:=hSw;go_simp<;>rfl));try simp only[Act.put,pA,pB,pC])
     refine Zci ?_;go_wp2;go_ret;exact⟨by rw[HBAD.out (λg=>by rw[g.2.1]at HJP;exact absurd HJP.out (by simp))];rfl,hbw6⟩
    |true =>
     rw[hjp]at hj1;have J1:=Lib.hid hj1;have hrng:=Ysb hjp;obtain⟨r,hr1,hr2⟩:=Tg.Yi4 ops.length (chs.map tch) (by rw[<- HO.out.1];omega) (by rw[List.length_map,<- HC.out.1];omega) hrng (ops.length+chs.length+1) (by omega);rw[<- HO.out.1,<- HC.out.1]at hr1;have hj2:=λW (hW:Below w.heap.size w W)=>Tn.Z25 a1 a2 j c1 n2 c2 (chs.map tch) W (by omega) (by rw[List.length_map];exact HC.out.1) (by omega) (HC.out.mono hW).chs (λc hc=>by have:=hrng c hc;have:=HO.out.1;omega) r hr1;have J2:=Lib.hid hj2;have HJP:=Lib.hid hjp;have HR2:=Lib.hid hr2;clear hj1 hj2 hjp hrng hr1 hr2;cases hlz:((r.length:Int) != (j:Int));all_goals
      (refine Z24 99 12 ([5,6],[]) (λ_ w' => w'.cell? ⟨N,0,none⟩=some (.slice a1 j c1)/\w'.cell? ⟨N,1,none⟩=some (.slice a2 n2 c2)) ⟨x0,x1⟩ (λhS=>?_)
       iterate 1(refine N_go false true (λ_ h=>h) hS rfl (v:=?_) (λ_ _ _ h=>h) (by rfl) ?_ ?_;rotate_left;(focus(intro w hSw;obtain⟨h0,h1⟩:=hSw;go_simp<;>rfl));try simp only[Act.put,pA,pB,pC])
       refine Zhy true rfl (λK hK=>?_);go_simp;go_at_call 59;refine(J1.out _ HB.out.drew).mono ?_;rintro e w6 ⟨rfl,hb6⟩;have hbw6:=HB.out.drew.trans (hb6.mono HB.out.size);refine hK.out _ _ (KP.out _ _ hS hb6) (λhS=>?_);clear hK K;try simp only[Act.put,pA,pB,pC]
       iterate 3(refine N_go false true (λ_ h=>h) hS rfl (v:=?_) (λ_ _ _ h=>h) (by rfl) ?_ ?_;rotate_left;(focus(intro w hSw;obtain⟨h0,h1⟩:=hSw;go_simp<;>rfl));try simp only[Act.put,pA,pB,pC])
       iterate 2 refine N_sk ?_
       iterate 3(refine N_go false true (λ_ h=>h) hS rfl (v:=?_) (λ_ _ _ h=>h) (by rfl) ?_ ?_;rotate_left;(focus(intro w hSw;obtain⟨h0,h1⟩:=hSw;go_simp<;>rfl));try simp only[Act.put,pA,pB,pC])
       refine Zeh (rs:=[5]) (by kernel_rfl) (by simp) ?_;refine AllT.cons' (i:=5) true (by kernel_rfl) rfl (λK hK=>?_) AllT.nil;go_simp;go_at_call 60;refine(J2.out _ hbw6).mono ?_;rintro e w7 ⟨v,rfl,hv7,hb7⟩;have hbw7:=hbw6.trans (hb7.mono hbw6.size);obtain⟨A7,C7,rfl,_⟩:=Yi5 hv7;refine hK.out _ _ (KP.out _ _ hS hb7) (λhS=>?_);clear hK K;try simp only[Act.put,pA,pB,pC]
       refine N_in ([],[7,8,9]) 6 ?_
       (refine N_go false true (λ_ h=>h) hS rfl (v:=?_) (λ_ _ _ h=>h) (by rfl) ?_ ?_;rotate_left;(focus(intro w hSw;obtain⟨h0,h1⟩:=hSw;go_simp<;>rfl));try simp only[Act.put,pA,pB,pC])
       iterate 3 refine N_sk ?_
       iterate 2(refine N_go false true (λ_ h=>h) hS rfl (v:=?_) (λ_ _ _ h=>h) (by rfl) ?_ ?_;rotate_left;(focus(intro w hSw;obtain⟨h0,h1⟩:=hSw;go_simp<;>rfl));try simp only[Act.put,pA,pB,pC])
       refine Zci ?_;go_wp2;go_ret)
     have hac:acyc ops.length chs:=HR2.out.1 (by rw[<- HO.out.1];simp at hlz;omega);exact⟨by rw[HGOOD.out ⟨HOPS.out,HJP.out,hac⟩];rfl,hbw7⟩;exact⟨by rw[HBAD.out (λg=>(by simp at hlz;omega:¬r.length=j) ((HR2.out.2 g.2.2).trans HO.out.1.symm))];rfl,hbw7⟩
set_option maxRecDepth 100000 in
set_option maxHeartbeats 2000000 in
theorem Ycl(a1 a2:Option Addr)(n1 n2 c1 c2:Nat)(w:World)(h:20<n1∨100<n2)(hm1:n1<9223372036854775807)(hm2:n2<9223372036854775807) :
    Calls Tryz.prog 31 #[.agg #[.slice a1 n1 c1,.slice a2 n2 c2]] w λe w' => e = .returned (.int .i64 4)/\Below w.heap.size w w' := by
  by_cases h1:20<n1
  . go_enter Tryz.func31,Tryz.ntmps31;go_wp2;go_ret;exact⟨rfl,(Below.refl _ _).alloc (Nat.le_refl _) _⟩
  . have h2:100<n2:=by omega
    go_enter Tryz.func31,Tryz.ntmps31;go_wp2;go_ret;exact⟨rfl,(Below.refl _ _).alloc (Nat.le_refl _) _⟩
theorem Yi6(a1 a2:Option Addr)(n1 n2 c1 c2:Nat)(ops:List Opr)(chs:List Chn)(w:World)(hm1:n1<9223372036854775807)(hm2:n2<9223372036854775807)(ho:SlAt w 2 opC a1 n1 ops)(hc:SlAt w 5 chC a2 n2 chs):Calls Tryz.prog 31 #[.agg #[.slice a1 n1 c1,.slice a2 n2 c2]] w λe w' => e = .returned (.int .i64 (gchk ops chs))/\Below w.heap.size w w' := by
 by_cases h:20<n1∨100<n2;have e:gchk ops chs=4:=by rw[gchk,if_pos (by rw[<- ho.1,<- hc.1];exact h)]
 rw[e];exact Ycl a1 a2 n1 n2 c1 c2 w h hm1 hm2;exact Z88 a1 a2 n1 n2 c1 c2 ops chs w (by omega) (by omega) ho hc
end Tj
