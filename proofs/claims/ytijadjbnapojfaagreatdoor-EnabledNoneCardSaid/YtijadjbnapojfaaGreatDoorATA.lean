import Derived.Test.YtijadjbnapojfaaGreatDoorACC
import Derived.Test.YtijadjbnapojfaaGreatDoorAWP
/- task.asked, as the machine takes it: its walk, where all is right. -/
set_option linter.unusedVariables false
set_option linter.unusedSimpArgs false
set_option maxRecDepth 100000
namespace Tg
open Go Go.Abs Go.RowKit Go.Proofs
theorem own0 (O:Nat→Prop)(ι:Em)(h:ι.O=O)(n:Nat)(hn:n=0):Own n ι=O:=by subst h;subst hn;funext g;unfold Own;grind
theorem Spec.num {P:Program}{f:FuncId}{pas:List PA}{k:IntKind}{n:Int}(h:Spec P f pas [.c (.c (.int k n))]){O:Nat→Prop}{w:World}{cargs:Array Value}(hO:∀ g,O g→g<w.heap.size)(hg:Zb0 w.heap.size w)(hp:Zbo w O pas cargs) :
    Calls P f cargs w fun e w' => e = .returned (.int k n)∧Below w.heap.size w w' :=
  (h O w cargs hO hg hp).mono fun e w' ⟨v,ι,he,_,hr,hv⟩=>by
   cases hv with
   | p _ _ hp=>cases hp;exact⟨he,hr.below⟩
theorem Spec.pur {P:Program}{f:FuncId}{pas:List PA}{y:PV}(h:Spec P f pas [.c (.c y)]){O:Nat→Prop}{w:World}{cargs:Array Value}(hO:∀ g,O g→g<w.heap.size)(hg:Zb0 w.heap.size w)(hp:Zbo w O pas cargs) :
    Calls P f cargs w fun e w' => ∃ v,e = .returned v∧Below w.heap.size w w' ∧ PRel w' O y v :=
  (h O w cargs hO hg hp).mono fun e w' ⟨v,ι,he,hι,hr,hv⟩=>by
   cases hv with
   | p _ _ hp=>have e0:(Za [RA.c (RC.c y)]).length=0:=rfl;rw [e0,own0 O ι hι _ rfl] at hp;exact⟨v,he,hr.below,hp⟩
theorem Z6i {w w' : World}{O:Nat→Prop}{x:PV}{v:Value}(h:PRel w O x v)(hb:Below w.heap.size w w'):PRel w' O x v:=h.fix ⟨hb.size,fun g hg hn=>hb.block g hg,fun _ _ h=>h⟩
def tskT:List CT:=[.int .u8,.int .i64,.int .i64,.sl [.int .i64,.int .u8,.int .i64,.int .i64,.int .i64,.int .i64,.int .i64,.int .i64,.int .i64,.int .i64,.int .i64],.sl [.int .i64],.sl [.int .i64,.int .i64,.int .i64,.int .i64,.int .i64,.int .i64,.int .i64,.int .i64,.int .i64,.int .i64,.int .i64],.sl [.bool,.int .i64,.int .i64,.int .i64,.int .i64],.sl [.int .i64,.int .i64,.int .i64,.int .i64,.int .i64],.sl [.int .i64,.int .i64,.int .i64]]
theorem Yem (t:Tsk)(h:Zbv t=some (0,())):Spec Tryz.prog 64 [.a (pvL tskT t)] [.c (.c (.int .i64 0))]:=ok64 (t,()) ((0:Int),()) h
theorem Yen (q:Que)(h:Xh q=some (0,())):Spec Tryz.prog 34 [.a (quE q)] [.c (.c (.int .i64 0))]:=ok34 (q,()) ((0:Int),()) h
theorem Z8v {w w' : World}(h:Zb0 w.heap.size w)(hb:Below w.heap.size w w'):Zb0 w'.heap.size w' := ⟨Nat.le_trans h.1 hb.size,Glob.stable w w' h.2 (hb.mono h.1)⟩
theorem Yeo {w:World}{O:Nat→Prop}{es:List (List PV)}{u:Value}(h:PRel w O (.sl es) u):∃ p n c,u = .slice p n c:=by
 cases h with
 | nil a c=>grind
 | sl _ a n c=>grind
def QAt (O:Nat→Prop)(w:World)(a:Option Addr)(n:Nat)(l:List Que):Prop:=n=l.length ∧ ∀ (i:Nat) (q:Que),l[i]? = some q → ∃ b u,a=some b∧b.block<w.heap.size∧w.cell? (b.add (i * 2))=some (.int .i64 q.1)∧w.cell? ⟨(b.add (i * 2)).block,(b.add (i * 2)).off+1,none⟩=some u∧PRel w O (.sl (q.2.1.map (pvL [.int .u8,.int .i64,.int .i64,.int .i64,.int .i64,.int .i64,.int .i64,.int .i64,.int .i64,.int .i64]))) u
theorem qat {O:Nat→Prop}{w:World}{l:List Que}{v:Value}(h:PRel w O (.sl (l.map quE)) v):∃ a n c,v = .slice a n c∧QAt O w a n l:=by obtain⟨x,hx⟩:=relS h;refine⟨x.1,x.2.1,x.2.2.1,hx.val,hx.len,fun i q hq=>?_⟩;obtain⟨c0,h0,p0⟩:=hx.rel.2 i q 0 (.int .i64 q.1) hq rfl;obtain⟨c1,h1,p1⟩:=hx.rel.2 i q 1 _ hq rfl;obtain⟨_,b,hb,hlt,hc0⟩:=hx.ok.cells _ _ h0;obtain⟨_,b',hb',_,hc1⟩:=hx.ok.cells _ _ h1;obtain rfl:b=b' := Option.some.inj (hb.symm.trans hb');cases p0;refine⟨b,c1,hb,hlt,hc0,?_,p1⟩;rw [Tj.Zhf] at hc1;exact hc1
set_option maxHeartbeats 4000000 in
theorem Z99 (t:Tsk)(ins outs:List Que)(ht:Zbv t=some (0,()))(h4:ins.length≤4)(h3:outs.length≤3)(hq:∀ q∈ins++outs,Xh q=some (0,()))(O:Nat→Prop)(w:World)(hO:∀ g,O g→g<w.heap.size)(hgl:Zb0 w.heap.size w)
    (v0 v1 v2 v3 v4 v5 v6 v7 v8 vi vo:Value) (hv:PARel w O (.a (pvL tskT t)) (.agg #[v0,v1,v2,v3,v4,v5,v6,v7,v8])) (hi:PRel w O (.sl (ins.map quE)) vi) (ho:PRel w O (.sl (outs.map quE)) vo) :
    Calls Tryz.prog 43 #[.agg #[v0,v1,v2,v3,v4,v5,v6,v7,v8],vi,vo] w fun e w' => e = .returned (.int .i64 0)∧Below w.heap.size w w' := by
  have fix:∀ W,Below w.heap.size w W→Fix w O W O:=fun W hb=>⟨hb.size,fun g hg hn=>hb.block g hg,fun _ _ h=>h⟩;have c147:∀ W,Below w.heap.size w W→Calls Tryz.prog 64 #[.agg #[v0,v1,v2,v3,v4,v5,v6,v7,v8]] W fun e w' => e = .returned (.int .i64 0)∧Below W.heap.size W w' := fun W hb=>by
   refine Spec.num (Yem t ht) (O:=O) (fun g hg=>Nat.lt_of_lt_of_le (hO g hg) hb.size) (Z8v hgl hb) ⟨rfl,fun i x v hx hv2=>?_⟩
   match i,hx,hv2 with
   | 0,hx,hv2 =>
    obtain rfl:=Option.some.inj hx;obtain rfl:=Option.some.inj hv2;cases hv with
    | a _ _ hl hr=>exact .a _ _ hl fun i x v h1 h2=>(hr i x v h1 h2).fix (fix W hb)
  have c256:∀ (W:World) (b:Nat) (tt:TypeId),Below w.heap.size w W→W.heap[b]? = some (.cells #[vi,vo] tt (0,0))→w.heap.size≤b→Calls Tryz.prog 92 #[.slice (some ⟨b,0,none⟩) 2 2] W fun e w' => ∃ a n c,e = .returned (.slice a n c)∧Below W.heap.size W w' ∧ QAt O w' a n (ins++outs):=fun W b tt hb hcell hge=>by
   have hs:=Ynm [(ins,()),(outs,())] (by simp) (by grind);refine (Spec.pur hs (O:=O) (fun g hg=>Nat.lt_of_lt_of_le (hO g hg) hb.size) (Z8v hgl hb) ⟨rfl,fun i x v hx hv2=>?_⟩).mono fun e w' ⟨v,he,hb2,hp⟩=>?_
   · match i,hx,hv2 with
     | 0,hx,hv2 =>
      obtain rfl:=Option.some.inj hx;obtain rfl:=Option.some.inj hv2;refine .c _ _ (.sl _ ⟨b,0,none⟩ 2 2 1 (fun i _=>if i=0 then vi else vo) (fun h=>by grind) (Array.getElem?_eq_some_iff.1 hcell).1 rfl (Nat.le_refl _) (fun i e he=>?_) (fun i e he j x hx=>?_) (fun i e he j x hx=>?_))
      · grind
      · match i,he,j,hx with
        | 0,he,0,hx=>exact (Tj.Qi hcell rfl).1
        | 1,he,0,hx=>exact (Tj.Qi hcell rfl).1
        | 0,he,j+1,hx=>grind
        | 1,he,j+1,hx=>grind
      · match i,he,j,hx with
        | 0,he,0,hx=>cases he;cases hx;exact hi.fix (fix W hb)
        | 1,he,0,hx=>cases he;cases hx;exact ho.fix (fix W hb)
        | 0,he,j+1,hx=>grind
        | 1,he,j+1,hx=>grind
   · have e2:([(ins,()),(outs,())]:List (List Que×Unit)).flatMap (fun x=>x.1)=ins++outs:=by simp
     rw [e2] at hp;obtain⟨a,n,c,rfl,hqa⟩:=qat hp;grind
  have hil:∃ p c,vi = .slice p ins.length c:=by obtain⟨a,n,c,rfl,h⟩:=qat hi;exact⟨a,c,by rw [h.1]⟩
  have hol:∃ p c,vo = .slice p outs.length c:=by obtain⟨a,n,c,rfl,h⟩:=qat ho;exact⟨a,c,by rw [h.1]⟩
  obtain⟨pi,ci,rfl⟩:=hil;obtain⟨po,co,rfl⟩:=hol;have hlen:(ins++outs).length=ins.length+outs.length:=List.length_append;generalize hall:ins++outs=all at c256 hq hlen;have C147:=Lib.hid c147;have C256:=Lib.hid c256;have HQ:=Lib.hid hq;have HG:=Lib.hid hgl;clear c147 c256 hgl hq hv hi ho hall;have b1:Below w.heap.size w (w.alloc (.cells #[v0,v1,v2,v3,v4,v5,v6,v7,v8] 66)):=(Below.refl _ _).alloc (Nat.le_refl _) _;go_enter Tryz.func43,Tryz.ntmps43;go_wp2_with (go_at_call 64;refine (C147.out _ b1).mono ?_;rintro e w1 ⟨rfl,hb1⟩);have b2:Below w.heap.size w (w1.alloc (.cells #[.slice pi ins.length ci,.slice po outs.length co] 33)):=(b1.trans (hb1.mono (by simp))).alloc (Nat.le_trans b1.size hb1.size) _;refine (C256.out _ _ 33 b2 (heap_alloc_new w1 _) (Nat.le_trans b1.size hb1.size)).mono ?_;rintro e w2 ⟨a,n,c,rfl,hb2,hqa⟩;have b3:Below w.heap.size w w2:=b2.trans (hb2.mono b2.size);have B3:=Lib.hid b3;have QA:=Lib.hid hqa;clear hb1 hb2 b1 b2 b3 hqa;have hn:=QA.out.1;go_wp2;go_loopw [29] (fun i wr=>∃ k:Nat,k≤n∧i = .int .i64 k∧Below w2.heap.size w2 wr) (fun i _=>n - (RowKit.intOf i).toNat)
  case atStart=>exact⟨0,Nat.zero_le _,rfl,Below.refl _ _⟩
  case round =>
   obtain⟨k,hk,rfl,hnx⟩:=hrel;by_cases hlt:k<n
   · obtain⟨q,hqk⟩:∃ q,all[k]? = some q:=⟨_,List.getElem?_eq_getElem (by omega)⟩;obtain⟨b,u,rfl,hblk,hc0,hc1,hpu⟩:=QA.out.2 k q hqk;obtain⟨up,un,uc,rfl⟩:=Yeo hpu;have g0:=(hnx.cell (p:=b.add (k * 2)) (by rw [Zf];grind)).trans hc0;have g1:=(hnx.cell (p:=⟨(b.add (k * 2)).block,(b.add (k * 2)).off+1,none⟩) (by show (b.add (k * 2)).block<_;rw [Zf];grind)).trans hc1;have hk0:(0:Int)≤(k:Int):=by omega
     have hkn:(k:Int)<(n:Int):=by omega
     have c86:∀ W,Below w2.heap.size w2 W→Calls Tryz.prog 34 #[.agg #[.int .i64 q.1,.slice up un uc]] W fun e w' => e = .returned (.int .i64 0)∧Below W.heap.size W w' := fun W hb=>by
      refine Spec.num (Yen q (HQ.out q (List.mem_of_getElem? hqk))) (O:=O) (fun g hg=>Nat.lt_of_lt_of_le (hO g hg) (Nat.le_trans B3.out.size hb.size)) (Z8v (Z8v HG.out B3.out) hb) ⟨rfl,fun i x v hx hv2=>?_⟩
      match i,hx,hv2 with
      | 0,hx,hv2 =>
       obtain rfl:=Option.some.inj hx;obtain rfl:=Option.some.inj hv2;refine .a _ _ rfl fun i x v h1 h2=>?_
       match i,h1,h2 with
       | 0,h1,h2=>cases h1;cases h2;exact .int _ _
       | 1,h1,h2=>cases h1;cases h2;exact Z6i hpu hb
       | i+2,h1,h2=>grind
     have C86:=Lib.hid c86;have NX:=Lib.hid hnx;clear c86 hnx hc0 hc1 hpu hqk;have b5:Below w2.heap.size w2 (wr.alloc (.cells #[.int .i64 q.1,.slice up un uc] 69)):=NX.out.alloc NX.out.size _;go_wp2_with (go_at_call 34;refine (C86.out _ b5).mono ?_;rintro e w3 ⟨rfl,hb3⟩);have b6:=b5.trans (hb3.mono (Nat.le_trans NX.out.size (by simp)));go_roundw
     case rel=>exact⟨k+1,by omega,by go_num,b6⟩
     case measure=>simp [RowKit.intOf];omega
   · go_wp2;go_ret;exact⟨rfl,B3.out.trans (hnx.mono B3.out.size)⟩
theorem Yep {l:List Ent}(h:(stoE l==0)=true):l.length≤4000:=by unfold stoE at h;grind
theorem Zx2 {t:Tsk}(h:Zcz t=true):t.2.2.2.1.length≤4000∧t.2.2.2.2.1.length≤4∧t.2.2.2.2.2.1.length≤4000∧t.2.2.2.2.2.2.1.length≤60∧t.2.2.2.2.2.2.2.1.length≤4000∧t.2.2.2.2.2.2.2.2.1.length≤4000:=by unfold Zcz at h;simp only [Bool.and_eq_true] at h;have hs:=Yep h.2.2.2.2.1;have hk:=h.2.2.1;have hp:=of_decide_eq_true h.2.1;unfold Zp4 at hk;grind
theorem Z26 {t:Tsk}(h:Zcz t=true):Zbv t=some (0,()):=by obtain⟨h1,h2,h3,h4,h5,h6⟩:=Zx2 h;rw [Z2x t (by omega) (by omega) (by omega) (by omega) (by omega) (by omega),h];rfl
theorem Yeq {q:Que}(h:queB q=true):q.2.1.length≤8:=by unfold queB at h;grind
theorem Zmv {q:Que}(h:queB q=true):Xh q=some (0,()):=by rw [Z2v q (by have:=Yeq h;omega),h];rfl
def Zko (a:Tsk×List Que×List Que×Unit):Option (Int×Unit):=bif Zcz a.1&&(decide (a.2.1.length≤4)&&(decide (a.2.2.1.length≤3)&&(a.2.1.all queB&&a.2.2.1.all queB))) then some (0,()) else none
noncomputable def Zdc (t:Tsk)(ins outs:List Que):Option (Int×Unit):=hid Zko (t,ins,outs,())
theorem Z0d {t:Tsk}{ins outs:List Que}(h1:Zcz t=true)(h2:ins.length≤4)(h3:outs.length≤3)(h4:ins.all queB=true)(h5:outs.all queB=true):Zdc t ins outs=some (0,()):=by rw [Zdc,Zbu,Zko,h1,decide_eq_true h2,decide_eq_true h3,h4,h5];rfl
noncomputable def Yis:TCon:=⟨[.a tskT,.c (.sl quT),.c (.sl quT)],[.c (.p (.int .i64))],fun a=>Zdc a.1 a.2.1 a.2.2.1⟩
theorem ok43:Yis.ok Tryz.prog 43:=fun a r h=>by
 obtain⟨t,ins,outs,u⟩:=a;have key:∀ (t:Tsk) (ins outs:List Que) (r:Int×Unit),Zdc t ins outs=some r→Spec Tryz.prog 43 [.a (pvL tskT t),.c (.sl (ins.map quE)),.c (.sl (outs.map quE))] [.c (.c (.int .i64 r.1))]:=fun t ins outs r h=>by
  rw [Zdc,Zbu,Zko] at h;obtain⟨hc,h⟩:=Xc h;simp only [Bool.and_eq_true,decide_eq_true_eq] at hc;obtain⟨h1,h2,h3,h4,h5⟩:=hc;obtain rfl:=Option.some.inj h;have hq:∀ q∈ins++outs,Xh q=some (0,()):=fun q hq=>by
   rcases List.mem_append.1 hq with hq | hq
   · exact Zmv (List.all_eq_true.1 h4 q hq)
   · exact Zmv (List.all_eq_true.1 h5 q hq)
  intro O w cargs hO hgl hp;obtain⟨p1,p2⟩:=hp;obtain⟨l⟩:=cargs
  match l,p1 with
  | [x,y,z],_ =>
   have e1:=p2 0 _ x rfl rfl;have e2:=p2 1 _ y rfl rfl;have e3:=p2 2 _ z rfl rfl;cases e2 with
   | c _ _ hy =>
   cases e3 with
   | c _ _ hz =>
   cases e1 with
   | a _ vs hl hr =>
    have e1' : PARel w O (.a (pvL tskT t)) (.agg vs):=.a _ vs hl hr;obtain⟨vs⟩:=vs
    match vs,hl with
    | [v0,v1,v2,v3,v4,v5,v6,v7,v8],_=>refine (Z99 t ins outs (Z26 h1) h2 h3 hq O w hO hgl v0 v1 v2 v3 v4 v5 v6 v7 v8 y z e1' hy hz).mono fun e w' he=>?_;obtain⟨rfl,hb⟩:=he;exact⟨_,⟨fun _=>undef,O,0,[]⟩,rfl,rfl,⟨hb,Nat.le_refl _,hO,hgl,fun t o ho=>by simp [Za,Zb4,Yg] at ho,fun t t' g h1=>by simp [Za,Zb4,Yg] at h1⟩,.p _ _ (.int _ _)⟩
 exact key t ins outs r h
end Tg
