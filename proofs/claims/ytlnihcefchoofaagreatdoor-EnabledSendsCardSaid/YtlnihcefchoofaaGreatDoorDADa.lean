import Derived.Test.YtlnihcefchoofaaGreatDoorDAD3
import Derived.Test.YtlnihcefchoofaaGreatDoorDSI
set_option linter.all false
set_option maxRecDepth 100000
namespace Tj
open Go Go.RowKit Go.Proofs Go.Abs
theorem Z6p:(Tryz.prog.info? 106).map (·.size)=some 2:=by kernel_rfl
def Z6q(x y:Ent):Ent:=(x.1,min x.2.1 y.2.1,max x.2.2.1 y.2.2.1,x.2.2.2)
noncomputable def Ziq(es:List Ent)(x:Ent):Int:=Zgx (λi=>Ypf (es.getD i x) x) 0 es.length
noncomputable def Zkl:Nat->List Ent->Ent->List Ent×Int
 |0,_,_=>([],0)|f+1,es,x=>if Ziq es x<0 then putE es x else
  if (Zak x (es.getD (Ziq es x).toNat x)).2=0 then Zkl f (es.take (Ziq es x).toNat++es.drop ((Ziq es x).toNat+1)) (Z6q (Zak x (es.getD (Ziq es x).toNat x)).1 (es.getD (Ziq es x).toNat x))else([],(Zak x (es.getD (Ziq es x).toNat x)).2)
structure Mt(B:Nat) (w:World) (R:List Ent×Int) (es:List Ent) (x:Ent) (v:Value) (wr:World):Prop where
 row:EnR wr B v es
 own:∀k,v.ownBlock=some k->k<w.heap.size
 box:wr.heap[w.heap.size]? = some (.cells (entA x) 152)
 near:Below B w wr
 res:Zkl (es.length+1) es x=R
 len:es.length<=100000
variable {B:Nat}{R:List Ent×Int}{es:List Ent}{x:Ent}{wr:World}
theorem Mt.glob{w:World}{v:Value}(h:Mt B w R es x v wr)(hg:Zv B w):Zv B wr:=⟨hg.1,Glob.stable w wr hg.2 (h.near.mono hg.1)⟩
theorem Ypi(y:Ent):∀(j:Nat) (u:Value),(accL (acc0 y)++accL (acc1 y))[j]? = some u->(entL y)[3+j]? = some u:=λj u hj=>Yeo (C:=[]) ((entL y).take 3) rfl hj
theorem Yjr{b: Nat}{v:Value}{w:World}(hr:EnR w B v es)(hb:w.heap[b]? = some (.cells (entA x) 152))(hn:es.length<=100000) :
    Calls Tryz.prog 225 #[v,.func (.func 226) #[] #[.pointer (some ⟨b,0,none⟩)]] w λe w' => e = .returned (.int .i64 (Ziq es x))/\Below w.heap.size w w' := by
  have hbl:=(Array.getElem?_eq_some_iff.1 hb).1;rcases hr.2 with⟨rfl,h0⟩|⟨g,cap,cur,rfl,hbg,hgh,hnc,hcm,hcs,htake⟩
  have he:es=[]:=List.length_eq_zero_iff.1 h0;subst he;have h1:Ziq [] x = -1:=Zn2 (by simp);rw[h1];exact Ypg b w;refine Ys2 (λi=>entA (es.getD i x)) (λi=>Ypf (es.getD i x) x) es.length g cap b w hn (λi hi=>⟨rfl,EnR.range hr (getD_some hi)⟩) (hr.lt g rfl).2 (λi W hi hW=>?_);have hc:∀j u,(entL x)[j]? = some u->W.cell? ⟨b,j,none⟩=some u:=λj u hj=>(Yc ((hW.block b hbl).trans hb) (by rw[<- Array.getElem?_toList];exact hj)).1;exact Ys1 _ _ _ _ _ _ _ _ _ _ _ _ _ _ b W (Nat.lt_of_lt_of_le hbl hW.size) (hc 0 _ rfl) (hc 1 _ rfl) (hc 2 _ rfl)
theorem Mt.step{w w1: World}{v:Value}(h:Mt B w R es x v wr)(hB:B<=w.heap.size)(hb:Below wr.heap.size wr w1):Mt B w R es x v w1:=⟨h.row.near hb,h.own,(hb.block _ (Array.getElem?_eq_some_iff.1 h.box).1).trans h.box,h.near.trans (hb.mono (Nat.le_trans hB h.near.size)),h.res,h.len⟩
set_option maxHeartbeats 4000000 in
theorem Yxn{v:Value}{w:World}(hr:EnR w B v es)(hn:es.length<=100000)(hB:B<=w.heap.size)(hg:Zv B w) :
    Calls Tryz.prog 192 #[v,.agg (entA x)] w λe w' => ∃v',e = .returned (.tuple #[v',.int .i64 (Zkl (es.length+1) es x).2])/\Below B w w' /\ ((Zkl (es.length+1) es x).2=0->EnR w' B v' (Zkl (es.length+1) es x).1):=by
  generalize hR:Zkl (es.length+1) es x=R;have H0:Mt B w R es x v (w.alloc (.cells (entA x) 152)):=⟨hr.near (Zdi w _),λk hk=>(World.ownsRow.lt hr k hk).2,heap_alloc_new w _,(Zdi w _).mono hB,hR,hn⟩;have HG:=Lib.hid hg;have H:=Lib.hid H0;clear hr hn H0 hR hg;obtain⟨XA,hXA⟩:∃XA,XA=entA x:=⟨_,rfl⟩;have HX:=Lib.hid hXA;rw[<- hXA]at H ⊢;clear hXA;go_enter Tryz.func192,Tryz.ntmps192;go_wp2;go_loopg[0] es.length (λkx s0 wr=>∃es x,List.length es<=kx/\Aside (Mt B w R es x s0 wr))
  case atStart=>exact⟨es,x,Nat.le_refl _,H.out⟩
  case round =>
   obtain⟨es,x,hkx,I⟩:=hrel;have HI:=Lib.hid I.out;clear I H HX;have HF:=Lib.hid (Yjr HI.out.row HI.out.box HI.out.len);by_cases hneg:Ziq es x<0
   . have hres:R=putE es x:=by rw[<- HI.out.res,Zkl,if_pos hneg]
     go_wp2_with(first
      |(go_at_call 225;refine HF.out.mono ?_;rintro e w1 ⟨rfl,hb1⟩;have H1:=Lib.hid (HI.out.step hB hb1))|(refine wpList_load_mid rfl 152 _ rfl w.heap.size 0 rfl (entL x) _ (Zd9 H1.out.box) Tryz.underlying152 rfl Qy ?_)|(go_at_call 194;refine(Yui H1.out.row H1.out.len (Nat.le_trans hB H1.out.near.size) (H1.out.glob HG.out)).mono ?_;rintro e w2 ⟨v',rfl,hb2,hr2,hgr2⟩))
     go_ret2;rw[hres];exact⟨v',rfl,H1.out.near.trans hb2,hr2⟩
   . obtain⟨k,hk⟩:∃k:Nat,Ziq es x=k:=⟨(Ziq es x).toNat,by omega⟩;have hkl:k<es.length:=by have:=(Yah (λi=>Ypf (es.getD i x) x) es.length es.length 0 (Nat.le_refl _)).1;unfold Ziq at hk;omega
     have hres:=HI.out.res;rw[Zkl,if_neg hneg,hk,J0l]at hres;rw[hk]at HF;obtain⟨y,hy⟩:∃y,y=es.getD k x:=⟨_,rfl⟩;have hyk:es[k]? = some y:=by rw[hy];exact getD_some hkl
     rw[<- hy]at hres;clear hy hneg hk;have HYK:=Lib.hid hyk;clear hyk;rcases HI.out.row.2 with⟨rfl,h0⟩|⟨g,cap,cur,rfl,hbg,hgh,hnc,hcm,hcs,htake⟩
     omega
     . clear hgh htake hcs hcm;have hgw:g<w.heap.size:=HI.out.own g rfl;have hlen:es.length<=100000:=HI.out.len;have HR:=Lib.hid hres;clear hres;by_cases hE:(Zak x y).2=0;all_goals
        go_wp2_with(first
         |(go_at_call 225;refine HF.out.mono ?_;rintro e w1 ⟨rfl,hb1⟩;have H1:=Lib.hid (HI.out.step hB hb1))|(refine wpList_load_mid rfl 150 _ rfl g (k*11+3) rfl (accL (acc0 y)++accL (acc1 y)) _ (Zsr (d:=3) (EnR.range H1.out.row HYK.out) (Ypi y)) Tryz.underlying150 rfl Z6l ?_)|(go_at_call 227;refine(Yjq (x:=x) (y:=y) H1.out.box ⟨Nat.le_trans HG.out.1 hB,(H1.out.glob HG.out).2⟩).mono ?_;rintro e w2 ⟨rfl,hgr,hbx⟩))
       . obtain⟨X,hX⟩:∃X,X=(Zak x y).1:=⟨_,rfl⟩;have hrow2:EnR w2 B (.slice (some ⟨g,0,none⟩) es.length cap) es:=World.ownsRow.kept H1.out.row hgr (Or.inr (λe=>Nat.ne_of_lt hgw (J0a e)));have hb3:=hbx hE;have hnr:=H1.out.near.trans (Xf hgr (Nat.le_trans hB H1.out.near.size) (λk hk=>by cases hk;exact hB));rw[<- hX]at hb3;have hres2:=HR.out;rw[if_pos hE,<- hX]at hres2;have hyr:=EnR.range hrow2 HYK.out;have hbl:w.heap.size<w2.heap.size:=(Array.getElem?_eq_some_iff.1 hb3).1;have HZ:=Lib.hid (And.intro hrow2 (And.intro hnr hres2));clear hrow2 hnr hres2 HR hX hbx hgr H1 HF HI;refine Y00 22 23 (λw' => w'.heap[w.heap.size]? = some (.cells (entA X) 152)/\w'.rangeAt g (k*11) (entL y)) (⟨hb3,hyr⟩) (λhS=>?_)
         iterate 22(refine M_go (v:=?_) hS rfl (by rfl) ?_ ?_;rotate_left;(focus(intro wS hSw;have q1:wS.cell? ⟨w.heap.size,1,none⟩=some (.int .i64 X.2.1):=(Yc (j:=1) hSw.1 rfl).1;have q2:wS.cell? ⟨w.heap.size,2,none⟩=some (.int .i64 X.2.2.1):=(Yc (j:=2) hSw.1 rfl).1;have q3:wS.cell? ⟨g,k*11+1,none⟩=some (.int .i64 y.2.1):=hSw.2 1 _ rfl;have q4:wS.cell? ⟨g,k*11+2,none⟩=some (.int .i64 y.2.2.1):=hSw.2 2 _ rfl;go_simp<;>first|rfl|rw[if_pos (by omega)]));try simp only[Act.put,pA,pB,pC])
         refine Yxj rfl (λK hK=>?_);rw[if_pos (by rfl)];refine wp_store_mid 106 (.tmp 48) (.tmp 47) rfl w.heap.size 1 _ rfl rfl (Zrf hS.1 (show 1+2<=11 by omega)) Z6p (by simp[Value.oneCell']) ?_;refine hK.out _ _ ?_;clear hK K;try simp only[Act.put,pA,pB,pC]
         refine Zci ?_;have hset:=set_mid (g:=w.heap.size) (o:=1) (w:=w2.drew) (Pre:=[.int .i64 X.1]) (A:=[.int .i64 X.2.1,.int .i64 X.2.2.1]) (Post:=accL (acc0 X)++accL (acc1 X)) (vs:=[.int .i64 (min X.2.1 y.2.1),.int .i64 (max X.2.2.1 y.2.2.1)]) hb3 rfl rfl rfl (by simp[Value.oneCell']);have hgr4:w2.grownBy (w2.drew.setCells w.heap.size 1 [.int .i64 (min X.2.1 y.2.1),.int .i64 (max X.2.2.1 y.2.2.1)]) (some w.heap.size):=World.grownBy.trans (b:=w2.drew) ⟨rfl,rfl,rfl,Nat.le_refl _,λ_ _ _=>rfl⟩ (Zaa _ _ _ w2.drew);have hrow4:EnR (w2.drew.setCells w.heap.size 1 [.int .i64 (min X.2.1 y.2.1),.int .i64 (max X.2.2.1 y.2.2.1)]) B (.slice (some ⟨g,0,none⟩) es.length cap) es:=World.ownsRow.kept HZ.out.1 hgr4 (Or.inr (λe=>Nat.ne_of_lt hgw (J0a e)));have hnr4:=HZ.out.2.1.trans (Xf hgr4 (Nat.le_trans hB (Nat.le_of_lt hbl)) (λk hk=>by cases hk;exact hB));have HW:=Lib.hid (And.intro hset (And.intro hrow4 hnr4));clear hset hgr4 hrow4 hnr4 hS hyr hb3;generalize w2.drew.setCells w.heap.size 1 [.int .i64 (min X.2.1 y.2.1),.int .i64 (max X.2.2.1 y.2.2.1)]=w4 at *;go_wp2_with(go_at_call 228;refine(Yph HW.out.2.1 hkl hlen).mono ?_;rintro e w5 ⟨rfl,hr5,hgr5⟩)

         go_roundg(es.length-1)
         case measure=>omega
         case rel =>
          have hl5:(es.take k++es.drop (k+1)).length=es.length-1:=by rw[J0s,List.length_take,List.length_drop];omega
          have hbx5:w5.heap[w.heap.size]? = some (.cells (entA (Z6q X y)) 152):=(hgr5.block _ (Array.getElem?_eq_some_iff.1 HW.out.1).1 (λe=>Nat.ne_of_gt hgw (J0a e))).trans HW.out.1;refine⟨es.take k++es.drop (k+1),Z6q X y,by rw[hl5];exact Nat.le_refl _,⟨hr5,λk hk=>by cases hk;exact hgw,hbx5,HW.out.2.2.trans (Xf hgr5 (Nat.le_trans hB HW.out.2.2.size) (λk hk=>by cases hk;exact hbg)),?_,by rw[hl5];omega⟩⟩;rw[hl5,Nat.sub_add_cancel (by omega)];exact HZ.out.2.2
       . go_ret2;have hres:=HR.out;rw[if_neg hE]at hres;rw[<- hres];exact⟨_,rfl,H1.out.near.trans (Xf hgr (Nat.le_trans hB H1.out.near.size) (λk hk=>by cases hk;exact hB)),λh=>absurd h hE⟩
end Tj
namespace Tj
open Go Go.RowKit Go.Proofs Go.Abs
set_option maxHeartbeats 2000000 in
theorem Ypj(p:Option Addr)(cap:Nat)(fv:Value)(w:World):Calls Tryz.prog 308 #[.slice p 1 cap,.int .i64 0,.int .i64 1,fv] w λe w' => e = .returned (.tuple #[])/\w' = w:=by go_enter Tryz.func308,Tryz.ntmps308;go_wp2;refine wp_loop_rounds 1 ?_;rw[rounds_succ];go_wp2;go_end0;exact⟨rfl,rfl⟩
set_option maxHeartbeats 2000000 in
theorem Ypk(p:Option Addr)(cap:Nat)(lim:Int)(fv:Value)(w:World):Calls Tryz.prog 285 #[.slice p 1 cap,.int .i64 0,.int .i64 1,.int .i64 lim,fv] w λe w' => e = .returned (.tuple #[])/\w' = w:=by
 go_enter Tryz.func285,Tryz.ntmps285;go_wp2;refine wp_loop_rounds 1 ?_;rw[rounds_succ];go_wp2_with(go_at_call 308;refine(Ypj _ _ _ _).mono ?_;rintro e w' ⟨rfl,rfl⟩)
 (try simp only[Exit.inBlock,Exit.then]);refine bodyPost_ret (results_none rfl _ _ _) rfl ?_
 exact⟨rfl,rfl⟩
set_option maxHeartbeats 2000000 in
theorem Yjs(p:Option Addr)(cap:Nat)(fv:Value)(w:World):Calls Tryz.prog 263 #[.slice p 1 cap,fv] w λe w' => e = .returned (.tuple #[])/\w' = w:=by go_enter Tryz.func263,Tryz.ntmps263;go_wp2_with(first|(go_at_call 80;refine(Tryz.bits_Len 1 _ (by omega) (by omega)).mono ?_;rintro e w' ⟨rfl,rfl⟩)|(go_at_call 285;refine(Ypk _ _ _ _ _).mono ?_;rintro e w' ⟨rfl,rfl⟩));go_end0;exact⟨rfl,rfl⟩
theorem Z6r:(Tryz.prog.info? 106).map (λi=>(i.zero,i.size,i.bytes))=some (some (.agg (Array.replicate 2 (.int .i64 0))),2,16):=by kernel_rfl
theorem Yhv(t gap:Int)(h:Tg.Xb t gap=some (0,())){W:World}(hg:Zv W.heap.size W):Calls Tryz.prog 223 #[.int .i64 t,.int .i64 gap] W λe w' => e = .returned (.int .i64 0)/\Below W.heap.size W w' := by
 have h1:=Tg.Y0y (t,gap,()) _ h;refine(h1 no W #[.int .i64 t,.int .i64 gap] (λ_ h=>h.elim) hg ⟨rfl,λi p v hp hv=>?_⟩).mono λe w' ⟨v,ι,he,_,hr,hv⟩=>?_
 match i,hp,hv with|0,hp,hv=>cases hp;cases hv;exact .c _ _ (.int _ _)|1,hp,hv=>cases hp;cases hv;exact .c _ _ (.int _ _)
 cases hv with|p _ _ hp=>cases hp;exact⟨he,hr.below⟩
set_option maxHeartbeats 2000000 in
theorem Yxo(B:Nat)(a:Addr)(n c:Nat)(cs:List Value)(w:World)(hc:∀j u,cs[j]? = some u->w.cell? (a.add j)=some u)(hl:cs.length=n*2)(h1:∀u∈cs,u.oneCell' = true)(hn:n<=100000)(hB:B<=w.heap.size) :
    Calls Tryz.prog 262 #[.slice (some a) n c] w λe w' => ∃v',e = .returned v' /\ w'.ownsRow B 106 2 v' n cs/\Below w.heap.size w w' := by
  obtain⟨i0,hi0,hz0,hzs,hzb⟩:=info_parts Z6r;obtain⟨v',w',hr,h2,h3,h4⟩:=run_append_own (P:=Tryz.prog) (w.alloc (.cells #[] 106)) B 287 287 106 i0 _ 2 16 Tryz.underlying287 hi0 hz0 hzs hzb rfl (by omega) (.slice (some ⟨w.heap.size,0,none⟩) 0 0) 0 [] (World.ownsRow_made w #[] 0 hB (by unfold maxLen;omega) rfl)
   a n c cs hl (λj u hj=>by rw[World.cell?_alloc_lt _ _ _ (by have:=World.block_lt_of_cell? w _ (hc j u hj);exact this)];exact hc j u hj) h1 (by unfold maxLen;omega) (by omega) (Nat.le_trans hB (by simp))
  rw[Nat.zero_add,List.nil_append]at h2;have hbl:Below w.heap.size w w' := (Zdi w _).trans (Xf h3 (by simp) (λk hk=>by cases hk;exact Nat.le_refl _));have HR:=Lib.hid (And.intro h2 hbl);clear h2 h3 h4 hbl hc h1 hi0 hz0 hzs hzb;have heq:∀W,(binOp .eql 287 (.slice (some a) n c) (.slice none 0 0)).run Tryz.prog W = .ok (.bool false) W:=λW=>Lib.run_eql_slice_nil W 287 106 (some a) n c 0 0 Tryz.underlying287;go_enter Tryz.func262,Tryz.ntmps262;go_wp2_with(at_builtin;refine Lib.wpList_append_run _ rfl _ _ _ _ rfl _ _ rfl rfl _ _ hr ?_);go_ret;exact⟨v',rfl,HR.out⟩
set_option maxHeartbeats 2000000 in
theorem Ypl(B:Nat)(a:Addr)(n c:Nat)(cs:List Value)(w:World)(hc:∀j u,cs[j]? = some u->w.cell? (a.add j)=some u)(hl:cs.length=n*11)(h1:∀u∈cs,u.oneCell' = true)(hn:n<=100000)(hB:B<=w.heap.size) :
    Calls Tryz.prog 76 #[.slice (some a) n c] w λe w' => ∃v',e = .returned v' /\ w'.ownsRow B 152 11 v' n cs/\Below w.heap.size w w' := by
  obtain⟨i0,hi0,hz0,hzs,hzb⟩:=info_parts Zva;obtain⟨v',w',hr,h2,h3,h4⟩:=run_append_own (P:=Tryz.prog) (w.alloc (.cells #[] 152)) B 51 51 152 i0 _ 11 88 Tryz.underlying51 hi0 hz0 hzs hzb rfl (by omega) (.slice (some ⟨w.heap.size,0,none⟩) 0 0) 0 [] (World.ownsRow_made w #[] 0 hB (by unfold maxLen;omega) rfl)
   a n c cs hl (λj u hj=>by rw[World.cell?_alloc_lt _ _ _ (by have:=World.block_lt_of_cell? w _ (hc j u hj);exact this)];exact hc j u hj) h1 (by unfold maxLen;omega) (by omega) (Nat.le_trans hB (by simp))
  rw[Nat.zero_add,List.nil_append]at h2;have hbl:Below w.heap.size w w' := (Zdi w _).trans (Xf h3 (by simp) (λk hk=>by cases hk;exact Nat.le_refl _));have HR:=Lib.hid (And.intro h2 hbl);clear h2 h3 h4 hbl hc h1 hi0 hz0 hzs hzb;have heq:∀W,(binOp .eql 51 (.slice (some a) n c) (.slice none 0 0)).run Tryz.prog W = .ok (.bool false) W:=λW=>Lib.run_eql_slice_nil W 51 152 (some a) n c 0 0 Tryz.underlying51;go_enter Tryz.func76,Tryz.ntmps76;go_wp2_with(at_builtin;refine Lib.wpList_append_run _ rfl _ _ _ _ rfl _ _ rfl rfl _ _ hr ?_);go_ret;exact⟨v',rfl,HR.out⟩
set_option maxHeartbeats 2000000 in
theorem Yep(c:Nat)(w:World):Calls Tryz.prog 76 #[.slice none 0 c] w λe w' => e = .returned (.slice none 0 0)/\w' = w:=by have heq:∀W,(binOp .eql 51 (.slice none 0 c) (.slice none 0 0)).run Tryz.prog W = .ok (.bool true) W:=λW=>Lib.run_eql_slice_nil W 51 152 none 0 c 0 0 Tryz.underlying51;go_enter Tryz.func76,Tryz.ntmps76;go_wp2;go_ret;exact⟨rfl,rfl⟩
variable {B:Nat}{t:TypeId}{xs:List Value}
theorem row_one{w:World}{size:Nat}{v:Value}(h:w.ownsRow B t size v 1 xs):∃g cap,v = .slice (some ⟨g,0,none⟩) 1 cap/\1<=cap/\g<w.heap.size:=by
 rcases h.2 with⟨_,h0⟩|⟨g,cap,cur,rfl,hbg,hg,hnc,hcm,hcs,htake⟩
 cases h0;exact⟨g,cap,rfl,hnc,(Array.getElem?_eq_some_iff.1 hg).1⟩
theorem Zgy{w:World}{g cap: Nat}{size:Nat}(h:w.ownsRow B t size (.slice (some ⟨g,0,none⟩) 1 cap) 1 xs):w.rangeAt g 0 xs:=λj u hj=>by have hl:=(J0d.1 hj).1;rw[h.1]at hl;rw[Nat.zero_add,h.cellAt j hl];exact hj
set_option maxHeartbeats 4000000 in
theorem Yeq(q c:Nat)(s e:Int)(w:World)(hq:w.rangeAt q 0 [.int .i64 s,.int .i64 e]) :
    Calls Tryz.prog 224 #[.slice (some ⟨q,0,none⟩) 1 c] w λe' w' => ∃v',e' = .returned v' /\ w'.ownsRow w.heap.size 106 2 v' 1 [.int .i64 s,.int .i64 e]/\Below w.heap.size w w' := by
  have mixed:Tryz.prog.follows .mixedOrders=true:=by kernel_rfl
  obtain⟨i0,hi0,hz0,hzs,hzb⟩:=info_parts Z6r;have HQ:=Lib.hid hq;clear hq;go_enter Tryz.func224,Tryz.ntmps224;go_wp2_with(first
   |(go_at_call 262;refine(Yxo w.heap.size ⟨q,0,none⟩ 1 c [.int .i64 s,.int .i64 e] w (λj u hj=>by rw[Addr.add_mid];exact HQ.out j u hj) rfl (by simp[Value.oneCell']) (by omega) (Nat.le_refl _)).mono ?_;rintro e' w1 ⟨v1,rfl,hown,hb1⟩;obtain⟨g,cap,rfl,hcap,hgl⟩:=row_one hown;have hc0:w1.cell? ⟨g,0,none⟩=some (.int .i64 s):=Zgy hown 0 _ rfl;have hc1:w1.cell? ⟨g,1,none⟩=some (.int .i64 e):=Zgy hown 1 _ rfl;have HO:=Lib.hid (And.intro hown hb1);clear hown hb1)|(go_at_call 263;refine(Yjs _ _ _ _).mono ?_;rintro e' w2 ⟨rfl,rfl⟩))
  refine wp_loop_rounds 2 ?_;rw[rounds_succ];go_upto_region 8 with fail
  refine Zrd 13 (λw' => True) (trivial) (λhS=>?_)
  iterate 13(first|(refine R_go (v:=?_) hS rfl (by rfl) ?_ ?_;rotate_left;(focus(intro wS hSw;go_simp<;>first|rfl|rw[if_pos (by omega)]));try simp only[Act.put,pA,pB,pC])|(refine Zy8 hS rfl (by rfl) ?_;try simp only[Act.put,pA,pB,pC]))
  refine Zci ?_;go_wp2_with(at_builtin;refine wpList_append_own _ rfl _ _ 287 rfl w.heap.size 106 i0 _ 2 16 Tryz.underlying287 hi0 hz0 hzs hzb rfl (by omega) (.slice none 0 0) 0 [] rfl (World.ownsRow_nil _ _ _ _) ⟨w2.heap.size+1,0,none⟩ 1 1 [.int .i64 s,.int .i64 e] rfl rfl ?c1 ?c2 ?c3 ?c4 ?c5 ?_)
  case c1 =>
   intro j u hj
   match j,hj with|0,hj=>simp at hj;subst hj;simp[Addr.add]|1,hj=>simp at hj;subst hj;simp[Addr.add]|j+2,hj=>simp at hj
  case c2=>intro u hu;simp at hu;rcases hu with h|h<;>(subst h;rfl)
  case c3=>unfold maxLen;omega
  case c4=>omega
  case c5=>have:=HO.out.2.size;simp;omega
  intro v' w3 hown3 hgr3 _;have HF:=Lib.hid (And.intro hown3 hgr3);clear hown3 hgr3;go_wp2;rw[rounds_succ];go_wp2;go_ret;have hz:=HO.out.2.size;have hg3:((w2.alloc (.cells #[.int .i64 s,.int .i64 e] 106)).alloc (.cells #[.int .i64 s,.int .i64 e] 106)).grownBy w3 none:=⟨HF.out.2.os,HF.out.2.tape,HF.out.2.output,HF.out.2.size,λk hk _=>HF.out.2.block k hk (by simp[Value.ownBlock])⟩;have hb3:Below w.heap.size w2 w3:=((Below.refl _ _).alloc hz _).trans (((Below.refl _ _).alloc (by simp;omega) _).trans (Xf hg3 (by simp;omega) (λk hk=>by cases hk)));exact⟨v',rfl,HF.out.1,HO.out.2.trans hb3⟩
set_option maxHeartbeats 4000000 in
theorem Yai(q c:Nat)(t gap:Int)(w:World)(hq:w.rangeAt q 0 [.int .i64 t])(hg:Zv w.heap.size w)(h0:Tg.Xb 0 gap=some (0,()))(h1:Tg.Xb t gap=some (0,()))(hr1 : -1099511627776<=t/\t<=1099511627776)(hr2:1<=gap/\gap<=1073741824) :
    Calls Tryz.prog 191 #[.slice (some ⟨q,0,none⟩) 1 c,.int .i64 gap] w λe' w' => ∃v',e' = .returned (.tuple #[v',.int .i64 0])/\w'.ownsRow w.heap.size 106 2 v' 1 [.int .i64 t,.int .i64 (t+gap)]/\Below w.heap.size w w' := by
  have hwr:IntKind.i64.wrap (t+gap)=t+gap:=by rw[IntKind.wrap_i64];omega
  obtain⟨i0,hi0,hz0,hzs,hzb⟩:=info_parts Z6r;have hqb:q<w.heap.size:=World.block_lt_of_cell? w _ (hq 0 _ rfl);have HQ:=Lib.hid hq;have HG:=Lib.hid hg;have C0:=Lib.hid (λW hW=>Yhv 0 gap h0 (W:=W) hW);have C1:=Lib.hid (λW hW=>Yhv t gap h1 (W:=W) hW);clear hq hg h0 h1;go_enter Tryz.func191,Tryz.ntmps191;go_wp2_with(go_at_call 223;refine(C0.out _ HG.out).mono ?_;rintro e' w1 ⟨rfl,hb1⟩;have hc1:w1.cell? ⟨q,0,none⟩=some (.int .i64 t):=Zbc hb1 hqb HQ.out 0 _ rfl;have H1:=Lib.hid hb1;clear hb1);refine wp_loop_rounds 2 ?_;rw[rounds_succ];go_wp2_with(first
   |(go_at_call 223;refine(C1.out _ (Zt0 HG.out H1.out)).mono ?_;rintro e' w2 ⟨rfl,hb2⟩;have H2:=Lib.hid (H1.out.trans (hb2.mono H1.out.size));clear hb2)|(at_builtin;refine wpList_append_own _ rfl _ _ 287 rfl w.heap.size 106 i0 _ 2 16 Tryz.underlying287 hi0 hz0 hzs hzb rfl (by omega) (.slice none 0 0) 0 [] rfl (World.ownsRow_nil _ _ _ _) ⟨w2.heap.size,0,none⟩ 1 1 [.int .i64 t,.int .i64 (t+gap)] rfl rfl ?c1 ?c2 ?c3 ?c4 ?c5 ?_))
  case c1 =>
   intro j u hj
   match j,hj with|0,hj=>simp at hj;subst hj;simp[Addr.add]|1,hj=>simp at hj;subst hj;simp[Addr.add]|j+2,hj=>simp at hj
  case c2=>intro u hu;simp at hu;rcases hu with h|h<;>(subst h;rfl)
  case c3=>unfold maxLen;omega
  case c4=>omega
  case c5=>have:=H2.out.size;simp;omega
  intro v' w3 hown3 hgr3 _;have hz:=H2.out.size;have hg3:(w2.alloc (.cells #[.int .i64 t,.int .i64 (t+gap)] 106)).grownBy w3 none:=⟨hgr3.os,hgr3.tape,hgr3.output,hgr3.size,λk hk _=>hgr3.block k hk (by simp[Value.ownBlock])⟩;have hb3:Below w.heap.size w w3:=H2.out.trans (((Below.refl _ _).alloc hz _).trans (Xf hg3 (by simp;omega) (λk hk=>by cases hk)));obtain⟨g,cap,rfl,hcap,hgl⟩:=row_one hown3;have HF:=Lib.hid (And.intro (Zgy hown3) hb3);clear hown3 hgr3 hg3 hb3;go_wp2;rw[rounds_succ];go_wp2_with(go_at_call 224;refine(Yeq g cap t (t+gap) w3 HF.out.1).mono ?_;rintro e' w4 ⟨v4,rfl,ho4,hb4⟩);go_ret2;exact⟨v4,rfl,⟨ho4.1,ho4.2.imp id (λ⟨g,cap,cur,a,b,r⟩=>⟨g,cap,cur,a,Nat.le_trans HF.out.2.size b,r⟩)⟩,HF.out.2.trans (hb4.mono HF.out.2.size)⟩
end Tj
