import Derived.Test.YtenldcjkpgmpnaaGreatDoorTWJ2
import Derived.Deep.CutRange
/- graph.joined: the walk. -/
set_option linter.unusedVariables false
set_option linter.unusedSimpArgs false
namespace Tj
open Go Go.RowKit Go.Proofs
def zro:Bool->Nat->Value:=fun _ _=>.slice none 0 0
structure St (w wr:World) (o:Obj) (n1:Nat) (hb:Bool->Nat):Prop where
 ne:hb true≠hb false
 lo:∀ b,w.heap.size<hb b/\hb b<w.heap.size+3
 below:Below w.heap.size w wr
 arg:wr.heap[w.heap.size]? = some o
 size:w.heap.size+3<=wr.heap.size
 heads:Hds n1 hb zro wr
theorem start (w:World)(o:Obj)(n1:Nat)(hb:Bool->Nat)(h:hb true=w.heap.size+1/\hb false=w.heap.size+2∨hb true=w.heap.size+2/\hb false=w.heap.size+1) :
    St w (((w.alloc o).alloc (.cells (madeCells #[.slice none 0 0] n1) 23)).alloc (.cells (madeCells #[.slice none 0 0] n1) 23)).drew o n1 hb:=by
  have r1:=World.rowIs_made (w.alloc o) (.slice none 0 0) n1 23;have r2:=World.rowIs_made ((w.alloc o).alloc (.cells (madeCells #[.slice none 0 0] n1) 23)) (.slice none 0 0) n1 23;simp only [World.size_alloc] at r1 r2;have r1' := (r1.alloc (.cells (madeCells #[.slice none 0 0] n1) 23)).drew;refine⟨?_,fun b=>?_,?_,?_,?_,fun b=>?_⟩
  . grind
  . cases b <;> rcases h with h | h <;> simp only [h.1,h.2] <;> omega
  . exact ((((Below.refl _ _).alloc (Nat.le_refl _) _).alloc (by simp) _).alloc (by simp;omega) _).drew
  . exact Qb _ (Qb _ (heap_alloc_new w o) (by simp)) (by simp;omega)
  . simp_all
  . cases b <;> rcases h with h | h
    . rw [h.2];exact r2.drew
    . rw [h.2];exact r1'
    . rw [h.1];exact r1'
    . rw [h.1];exact r2.drew
structure L1 (w wr:World) (o:Obj) (n1:Nat) (hb:Bool->Nat) (chs:List Chn) (k:Nat) (Y:Bool->Nat->Value):Prop where
 below:Below w.heap.size w wr
 arg:wr.heap[w.heap.size]? = some o
 heads:Hds n1 hb Y wr
 rows:Rws (w.heap.size+3) n1 (fun _ _=>True) Y (fun b j=>lst b j (chs.take k)) wr
theorem St.l1 {w wr:World}{o:Obj}{n1:Nat}{hb:Bool->Nat}{chs:List Chn}(h:St w wr o n1 hb):L1 w wr o n1 hb chs 0 zro:=by
 refine⟨h.below,h.arg,h.heads,⟨fun b j _ _=>?_,fun b j b' j' g _ _ hg _=>?_,h.size⟩⟩
 . simpa [lst,zro] using World.ownsRow_nil wr (w.heap.size+3) 3 1
 . cases hg
theorem L1.alloc {w wr:World}{o:Obj}{n1:Nat}{hb:Bool->Nat}{chs:List Chn}{k:Nat}{Y:Bool->Nat->Value}(h:L1 w wr o n1 hb chs k Y)(o' : Obj):L1 w (wr.alloc o') o n1 hb chs k Y:=⟨h.below.alloc (Nat.le_trans (by omega) h.rows.size) _,Qb _ h.arg (Nat.lt_of_lt_of_le (by omega) h.rows.size),h.heads.alloc _,h.rows.alloc _⟩
structure Cv (w:World) (B:Nat) (c:Chn):Prop where
 c0:w.cell? ⟨B,0,none⟩=some (.int .i64 c.1)
 c1:w.cell? ⟨B,1,none⟩=some (.int .i64 c.2.1)
 c2:w.cell? ⟨B,2,none⟩=some (.int .i64 c.2.2.1)
 c3:w.cell? ⟨B,3,none⟩=some (.int .i64 c.2.2.2.1)
theorem Cv.drew {w:World}{B:Nat}{c:Chn}(h:Cv w B c):Cv w.drew B c:=⟨h.c0,h.c1,h.c2,h.c3⟩
theorem Yo1 (w:World)(c p:Chn):Cv ((w.alloc (.cells (chC c).toArray 85)).alloc (.cells (chC p).toArray 85)) w.heap.size c/\Cv ((w.alloc (.cells (chC c).toArray 85)).alloc (.cells (chC p).toArray 85)) (w.heap.size+1) p:=by have h1:((w.alloc (.cells (chC c).toArray 85)).alloc (.cells (chC p).toArray 85)).heap[w.heap.size]? = some (.cells (chC c).toArray 85 (0,0)):=Qb _ (heap_alloc_new w _) (by simp);have h2:=Zim w (.cells (chC c).toArray 85) (.cells (chC p).toArray 85);exact⟨⟨(Q5 h1 rfl).1,(Q5 h1 rfl).1,(Q5 h1 rfl).1,(Q5 h1 rfl).1⟩,⟨(Q5 h2 rfl).1,(Q5 h2 rfl).1,(Q5 h2 rfl).1,(Q5 h2 rfl).1⟩⟩
theorem SlAt.five {w wr:World}{a:Option Addr}{n k:Nat}{chs:List Chn}{c:Chn}(h:SlAt w 5 chC a n chs)(hk:chs[k]? = some c)(hbw:Below w.heap.size w wr):∃ b,a=some b/\b.block<w.heap.size /\
    wr.cell? (b.add (k * 5))=some (.int .i64 c.1)/\wr.cell? ⟨(b.add (k * 5)).block,(b.add (k * 5)).off+1,none⟩=some (.int .i64 c.2.1)/\wr.cell? ⟨(b.add (k * 5)).block,(b.add (k * 5)).off+2,none⟩=some (.int .i64 c.2.2.1)/\wr.cell? ⟨(b.add (k * 5)).block,(b.add (k * 5)).off+3,none⟩=some (.int .i64 c.2.2.2.1)/\wr.cell? ⟨(b.add (k * 5)).block,(b.add (k * 5)).off+4,none⟩=some (.int .i64 c.2.2.2.2.1):=by
  obtain⟨b1,rfl,hb1,hcell⟩:=h.2 k c hk;have G0:=(hbw.cell (p:=b1.add (k * 5+0)) (by rw [Ze];exact hb1)).trans (hcell 0 _ rfl);rw [Nat.add_zero] at G0;have G1:=(hbw.cell (p:=b1.add (k * 5+1)) (by rw [Ze];exact hb1)).trans (hcell 1 _ rfl);rw [show k * 5+1=k * 5+(0+1) from rfl,Zio] at G1;have G2:=(hbw.cell (p:=b1.add (k * 5+2)) (by rw [Ze];exact hb1)).trans (hcell 2 _ rfl);rw [show k * 5+2=k * 5+(1+1) from rfl,Zio] at G2;have G3:=(hbw.cell (p:=b1.add (k * 5+3)) (by rw [Ze];exact hb1)).trans (hcell 3 _ rfl);rw [show k * 5+3=k * 5+(2+1) from rfl,Zio] at G3;have G4:=(hbw.cell (p:=b1.add (k * 5+4)) (by rw [Ze];exact hb1)).trans (hcell 4 _ rfl);rw [show k * 5+4=k * 5+(3+1) from rfl,Zio] at G4;grind
theorem SlAt.cell5 {w wr:World}{b:Addr}{n k:Nat}{chs:List Chn}{c:Chn}(h:SlAt w 5 chC (some b) n chs)(hk:chs[k]? = some c)(hbw:∀ o,Below w.heap.size w (wr.alloc o))(m:Nat)(hm:m=k * 5) :
    (∀ o,(wr.alloc o).cell? (b.add m)=some (.int .i64 c.1))/\(∀ o,(wr.alloc o).cell? ⟨(b.add m).block,(b.add m).off+1,none⟩=some (.int .i64 c.2.1))/\(∀ o,(wr.alloc o).cell? ⟨(b.add m).block,(b.add m).off+2,none⟩=some (.int .i64 c.2.2.1))/\(∀ o,(wr.alloc o).cell? ⟨(b.add m).block,(b.add m).off+3,none⟩=some (.int .i64 c.2.2.2.1))/\(∀ o,(wr.alloc o).cell? ⟨(b.add m).block,(b.add m).off+4,none⟩=some (.int .i64 c.2.2.2.2.1)):=by
  subst hm;refine⟨fun o=>?_,fun o=>?_,fun o=>?_,fun o=>?_,fun o=>?_⟩ <;> obtain⟨b',e,_,g0,g1,g2,g3,g4⟩:=h.five hk (hbw o) <;> cases e <;> assumption
def SS (B:Nat)(c:Chn)(p1 p2:Addr)(v1 v2:Value):Bool->World->Prop
 | false,w=>Cv w B c/\w.cell? p1=some v1/\w.cell? p2=some v2
 | true,w=>Cv w B c
theorem SS.weak {B:Nat}{c:Chn}{p1 p2:Addr}{v1 v2:Value}(w:World)(h:SS B c p1 p2 v1 v2 false w):SS B c p1 p2 v1 v2 true w:=h.1
theorem Ybt (b:Bool)(j:Nat)(l:List Chn):(lst b j l).length<=l.length:=List.length_filterMap_le _ _
theorem Zca (b:Bool)(j k:Nat)(l:List Chn)(h:l.length<=120):(lst b j (l.take k)).length+1<=maxLen/\((lst b j (l.take k)).length+1) * 8<=140737488355328:=by
 have h1:=Ybt b j (l.take k);have h2:(l.take k).length<=120:=by grind
 unfold maxLen;omega
theorem Yo2:∃ i0,Tryz.prog.info? 3=some i0/\i0.zero=some (.int .i64 0)/\i0.size=1/\i0.bytes=8:=by have h:=info3;simp_all
theorem SS.keep {B:Nat}{c:Chn}{p1 p2:Addr}{v1 v2:Value}{b:Bool}{w w' : World}(h:SS B c p1 p2 v1 v2 b w)(hk:∀ a v,(a.block=B∨a.block=p1.block∨a.block=p2.block)->w.cell? a=some v->w'.cell? a=some v):SS B c p1 p2 v1 v2 b w' := by
 have key:Cv w B c->Cv w' B c:=fun g=>⟨hk _ _ (.inl rfl) g.c0,hk _ _ (.inl rfl) g.c1,hk _ _ (.inl rfl) g.c2,hk _ _ (.inl rfl) g.c3⟩;cases b with
 | false=>exact⟨key h.1,hk _ _ (.inr (.inl rfl)) h.2.1,hk _ _ (.inr (.inr rfl)) h.2.2⟩
 | true=>exact key h
theorem SS.store {B:Nat}{c:Chn}{p1 p2:Addr}{v1 v2:Value}{w:World}(h:SS B c p1 p2 v1 v2 true w)(p:Addr)(v:Value)(hp:p.block≠B):SS B c p1 p2 v1 v2 true (w.setCell p v):=by have g:Cv w B c:=h;exact⟨by rw [World.cell?_setCell_far _ _ _ _ (by exact hp)];exact g.c0,by rw [World.cell?_setCell_far _ _ _ _ (by exact hp)];exact g.c1,by rw [World.cell?_setCell_far _ _ _ _ (by exact hp)];exact g.c2,by rw [World.cell?_setCell_far _ _ _ _ (by exact hp)];exact g.c3⟩
theorem SS.alloc {B:Nat}{c:Chn}{p1 p2:Addr}{v1 v2:Value}{b:Bool}{w:World}(h:SS B c p1 p2 v1 v2 b w)(o:Obj):SS B c p1 p2 v1 v2 b (w.alloc o):=h.keep fun a v _ hv=>by rw [World.cell?_alloc_lt _ _ _ (World.block_lt_of_cell? w a hv)];exact hv
theorem SS.grown {B:Nat}{c:Chn}{p1 p2:Addr}{v1 v2:Value}{b:Bool}{w w' : World}{r:Option Nat}(h:SS B c p1 p2 v1 v2 b w)(hg:w.grownBy w' r)(hr:∀ g,r=some g->g≠B/\g≠p1.block/\g≠p2.block):SS B c p1 p2 v1 v2 b w' := h.keep fun a v ha hv=>by rw [hg.cell_far a (World.block_lt_of_cell? w a hv) (fun e=>by grind)];exact hv
structure Md (w W:World) (o:Obj) (n1:Nat) (hb:Bool->Nat) (Y Z:Bool->Nat->Value) (C:Bool->Nat->List Int):Prop where
 below:Below w.heap.size w W
 arg:W.heap[w.heap.size]? = some o
 heads:Hds n1 hb Y W
 rows:Rws (w.heap.size+3) n1 (fun _ _=>True) Z C W
theorem Md.alloc {w W:World}{o:Obj}{n1:Nat}{hb:Bool->Nat}{Y Z:Bool->Nat->Value}{C:Bool->Nat->List Int}(h:Md w W o n1 hb Y Z C)(o' : Obj):Md w (W.alloc o') o n1 hb Y Z C:=⟨h.below.alloc (Nat.le_trans (by omega) h.rows.size) _,Qb _ h.arg (Nat.lt_of_lt_of_le (by omega) h.rows.size),h.heads.alloc _,h.rows.alloc _⟩
theorem Md.append {w W W' : World}{o:Obj}{n1:Nat}{hb:Bool->Nat}{Y Z:Bool->Nat->Value}{C:Bool->Nat->List Int}(h:Md w W o n1 hb Y Z C)(hlo:∀ b,w.heap.size<hb b/\hb b<w.heap.size+3){b0:Bool}{j0:Nat}(h0:j0<n1){x:Int}{g cap m H:Nat}(hm:m=(C b0 j0).length+1)
    (hown:W'.ownsRow (w.heap.size+3) 3 1 (.slice (some ⟨g,0,none⟩) m cap) m ((C b0 j0).map (.int .i64)++[.int .i64 x])) (hg:W.grownBy W' (Z b0 j0).ownBlock) (hat:(Z b0 j0).ownBlock=some g∨g=H) (hH:W.heap.size=H) :
    Md w W' o n1 hb Y (upd Z b0 j0 (.slice (some ⟨g,0,none⟩) m cap)) (upd C b0 j0 (C b0 j0++[x])):=by
  have hr:∀ q,(Z b0 j0).ownBlock=some q->w.heap.size+3<=q:=fun q hq=>(Zoe (h.rows.row b0 j0 h0 trivial) hq).1;have hsz:=h.rows.size;refine⟨h.below.grown hg (by omega) (fun q hq=>by grind),?_,h.heads.kept hg (fun b e=>by grind),h.rows.append h0 (fun _ _ _=>trivial) hm hown hg hat (by omega)⟩;rw [hg.block _ (by omega) (fun e=>by grind)];exact h.arg
theorem L1.md {w wr:World}{o:Obj}{n1:Nat}{hb:Bool->Nat}{chs:List Chn}{k:Nat}{Y:Bool->Nat->Value}(h:L1 w wr o n1 hb chs k Y):Md w wr o n1 hb Y Y (fun b j=>lst b j (chs.take k)):=⟨h.below,h.arg,h.heads,h.rows⟩
theorem Md.drew {w W:World}{o:Obj}{n1:Nat}{hb:Bool->Nat}{Y Z:Bool->Nat->Value}{C:Bool->Nat->List Int}(h:Md w W o n1 hb Y Z C):Md w W.drew o n1 hb Y Z C:=⟨h.below.drew,h.arg,h.heads.drew,h.rows.drew⟩
theorem Md.done {w W:World}{o:Obj}{n1:Nat}{hb:Bool->Nat}{Y:Bool->Nat->Value}{chs:List Chn}{k F T:Nat}{v1 v2:Value}{xo xi rm:Int}{u:Unit}(h:Md w W o n1 hb Y (upd (upd Y true T v1) false F v2) (upd (upd (fun b j=>lst b j (chs.take k)) true T (lst true T (chs.take k)++[xi])) false F (lst false F (chs.take k)++[xo])))
    (hne:hb true≠hb false) (hlo:∀ b,w.heap.size<hb b/\hb b<w.heap.size+3) (hc:chs[k]? = some ((F:Int),xo,(T:Int),xi,rm,u)) :
    L1 w ((W.setCell ⟨hb true,T,none⟩ v1).setCell ⟨hb false,F,none⟩ v2) o n1 hb chs (k+1) (upd (upd Y true T v1) false F v2):=by
  have e:chs.take (k+1)=chs.take k++[((F:Int),xo,(T:Int),xi,rm,u)]:=by rw [List.take_add_one,hc];rfl
  have l1:=hlo true;have l2:=hlo false;refine⟨?_,?_,(h.heads.store hne true T v1).store hne false F v2,?_⟩
  . exact Below.setCell (Below.setCell h.below (p:=⟨hb true,T,none⟩) (by grind) v1) (p:=⟨hb false,F,none⟩) (by grind) v2
  . rw [Deep.blk_setCell_other _ _ _ _ (by grind),Deep.blk_setCell_other _ _ _ _ (by grind)];exact h.arg
  . rw [e,Ygg _ _ T F rfl rfl];exact (h.rows.store ⟨hb true,T,none⟩ (by grind) _).store ⟨hb false,F,none⟩ (by grind) _
theorem SlAt.two {w wr:World}{a:Option Addr}{n k:Nat}{ops:List Opr}{c:Opr}(h:SlAt w 2 opC a n ops)(hk:ops[k]? = some c)(hbw:Below w.heap.size w wr):∃ b,a=some b/\b.block<w.heap.size /\
    wr.cell? (b.add (k * 2))=some (.int .u8 c.1)/\wr.cell? ⟨(b.add (k * 2)).block,(b.add (k * 2)).off+1,none⟩=some (.int .i64 c.2.1):=by
  obtain⟨b1,rfl,hb1,hcell⟩:=h.2 k c hk;have G0:=(hbw.cell (p:=b1.add (k * 2+0)) (by rw [Ze];exact hb1)).trans (hcell 0 _ rfl);rw [Nat.add_zero] at G0;have G1:=(hbw.cell (p:=b1.add (k * 2+1)) (by rw [Ze];exact hb1)).trans (hcell 1 _ rfl);rw [show k * 2+1=k * 2+(0+1) from rfl,Zio] at G1;grind
structure L2 (w wr:World) (o:Obj) (n1:Nat) (hb:Bool->Nat) (chs:List Chn) (D:Bool->Nat->Prop) (Y:Bool->Nat->Value):Prop where
 below:Below w.heap.size w wr
 arg:wr.heap[w.heap.size]? = some o
 heads:Hds n1 hb Y wr
 rows:Rws (w.heap.size+3) n1 D Y (fun b j=>lst b j chs) wr
theorem below_grown {w w' : World}(h:Below w.heap.size w w'):w.grownBy w' none:=⟨h.os,h.tape,h.output,h.size,fun k hk _=>h.block k hk⟩
theorem L2.kept {w wr w' : World}{o:Obj}{n1:Nat}{hb:Bool->Nat}{chs:List Chn}{D:Bool->Nat->Prop}{Y:Bool->Nat->Value}(h:L2 w wr o n1 hb chs D Y)(hg:wr.grownBy w' none):L2 w w' o n1 hb chs D Y:=by have hsz:=h.rows.size;refine⟨h.below.grown hg (by omega) (fun k hk=>by cases hk),?_,h.heads.kept hg (fun b e=>by cases e),h.rows.kept hg⟩;rw [hg.block _ (by omega) (by simp)];exact h.arg
theorem L2.drew {w wr:World}{o:Obj}{n1:Nat}{hb:Bool->Nat}{chs:List Chn}{D:Bool->Nat->Prop}{Y:Bool->Nat->Value}(h:L2 w wr o n1 hb chs D Y):L2 w wr.drew o n1 hb chs D Y:=⟨h.below.drew,h.arg,h.heads.drew,h.rows.drew⟩
theorem L2.lost {w wr w' : World}{o:Obj}{n1:Nat}{hb:Bool->Nat}{chs:List Chn}{D D' : Bool->Nat->Prop}{Y:Bool->Nat->Value}(h:L2 w wr o n1 hb chs D Y)(hlo:∀ b,w.heap.size<hb b/\hb b<w.heap.size+3){b0:Bool}{j0:Nat}(h0:j0<n1)(hl:D b0 j0)(hg:wr.grownBy w' (Y b0 j0).ownBlock)(hd:∀ b j,j<n1->D' b j->D b j/\¬(b=b0/\j=j0)):L2 w w' o n1 hb chs D' Y:=by have hr:∀ q,(Y b0 j0).ownBlock=some q->w.heap.size+3<=q:=fun q hq=>(Zoe (h.rows.row b0 j0 h0 hl) hq).1;have hsz:=h.rows.size;refine⟨h.below.grown hg (by omega) (fun q hq=>by grind),?_,h.heads.kept hg (fun b e=>by grind),h.rows.lost h0 hg hd⟩;rw [hg.block _ (by omega) (fun e=>by grind)];exact h.arg
theorem L1.l2 {w wr:World}{o:Obj}{n1:Nat}{hb:Bool->Nat}{chs:List Chn}{Y:Bool->Nat->Value}(h:L1 w wr o n1 hb chs chs.length Y):L2 w wr o n1 hb chs (fun _ q=>0<=q) Y:=⟨h.below,h.arg,h.heads,by have:=h.rows;grind⟩
theorem Ygh (chs:List Chn)(j:Nat)(o:Opr)(l:List Opr):fin chs j (o::l)=(Zbz (lst true j chs) (bnd o.1).1 (bnd o.1).2.1&&(Zbz (lst false j chs) (bnd o.1).2.2.1 (bnd o.1).2.2.2&&fin chs (j+1) l)):=rfl
set_option maxRecDepth 100000 in
set_option maxHeartbeats 2000000 in
theorem Z8g (a1 a2:Option Addr)(n1 n2 c1 c2:Nat)(ops:List Opr)(chs:List Chn)(w:World)(h1:n1<=30)(h2:n2<=120)(ho:SlAt w 2 opC a1 n1 ops)(hc:SlAt w 5 chC a2 n2 chs):Calls Tryz.prog 92 #[.agg #[.slice a1 n1 c1,.slice a2 n2 c2]] w fun e w' => e = .returned (.bool (Zaq ops chs))/\Below w.heap.size w w' := by
 have hmk:=fun n h1 h2=>run_make_row' (P:=Tryz.prog) 220 23 (.slice none 0 0) 24 Tryz.underlying220 Ylj rfl .i64 .i64 n h1 h2;have hmk1:=hmk n1 (by omega) (by omega);clear hmk;have HO:=Lib.hid ho;have HC:=Lib.hid hc;clear ho hc;have hx0:=(Q5 (heap_alloc_new w (.cells #[.slice a1 n1 c1,.slice a2 n2 c2] 34)) (j:=0) rfl).1;have hx1:=(Q5 (heap_alloc_new w (.cells #[.slice a1 n1 c1,.slice a2 n2 c2] 34)) (j:=1) rfl).1;go_enter Tryz.func92,Tryz.ntmps92;go_wp2;go_cut [3,4] from 12 to 19 (fun s3 s4 wr=>∃ hb:Bool->Nat,s3 = .slice (some ⟨hb true,0,none⟩) n1 n1/\s4 = .slice (some ⟨hb false,0,none⟩) n1 n1/\St w wr (.cells #[.slice a1 n1 c1,.slice a2 n2 c2] 34) n1 hb)
 case first =>
  go_region_held3 (fun w' => w'.cell? ⟨w.heap.size,0,none⟩=some (.slice a1 n1 c1)) (go_keep) (fail);all_goals
   (go_wp2
    go_meet;first
     | exact⟨fun b=>cond b (w.heap.size+1) (w.heap.size+2),rfl,rfl,start _ _ _ _ (.inl ⟨rfl,rfl⟩)⟩
     | exact⟨fun b=>cond b (w.heap.size+2) (w.heap.size+1),rfl,rfl,start _ _ _ _ (.inr ⟨rfl,rfl⟩)⟩)
 case rest =>
  obtain⟨hb,rfl,rfl,hst⟩:=hcut;have hne:=hst.ne;have hlo:=hst.lo;have hbx:=hst.arg;have x1:wc.cell? ⟨w.heap.size,1,none⟩=some (.slice a2 n2 c2):=(Q5 hbx rfl).1;have x0:wc.cell? ⟨w.heap.size,0,none⟩=some (.slice a1 n1 c1):=(Q5 hbx rfl).1;have HST:=Lib.hid hst;clear hst hbx hx0 hx1 hmk1;go_wp2;clear x0 x1;go_loopw [23] (fun i wr=>∃ (k:Nat) (Y:Bool->Nat->Value),k<=n2/\i = .int .i64 k/\L1 w wr (.cells #[.slice a1 n1 c1,.slice a2 n2 c2] 34) n1 hb chs k Y/\chk n1 none chs=chk n1 (if k=0 then none else chs[k - 1]?) (chs.drop k)) (fun i _=>n2 - (RowKit.intOf i).toNat)
  case atStart=>exact⟨0,zro,Nat.zero_le _,rfl,HST.out.l1,rfl⟩
  case round =>
   obtain⟨k,Y,hk,rfl,hl1,hchk⟩:=hrel;have HL:=Lib.hid hl1;have HK:=Lib.hid hchk;clear hl1 hchk;by_cases hlt:k<n2
   . obtain⟨c,hck⟩:∃ c,chs[k]? = some c:=⟨_,List.getElem?_eq_getElem (by rw [<- HC.out.1];exact hlt)⟩;obtain⟨b2,rfl,hb2,G0,G1,G2,G3,G4⟩:=HC.out.five hck HL.out.below;obtain⟨f,xo,t,xi,rm,u⟩:=c;have HCK:=Lib.hid hck;clear hck;simp only at G0 G1 G2 G3 G4;have harg:=Q5 HL.out.arg (j:=0) rfl;have x0:=harg.2.1;have x1:=(Q5 HL.out.arg (j:=1) rfl).2.1;have hbw1:∀ o,Below w.heap.size w (wr.alloc o):=fun o=>HL.out.below.alloc (Nat.le_trans (by omega) HL.out.rows.size) o;have HB1:=Lib.hid hbw1;have hn1:=HO.out.1;have HN1:=Lib.hid hn1;clear harg hbw1 hn1;by_cases e1:min f t<0
     . go_wp2;go_ret;exact⟨by rw [Z1w HN1.out HK.out HCK.out (by simp [okC];omega)];rfl,HB1.out _⟩
     by_cases e2:(n1:Int)<=max f t
     . go_wp2;go_ret;exact⟨by rw [Z1w HN1.out HK.out HCK.out (by simp [okC];omega)];rfl,HB1.out _⟩
     by_cases e3:rm<1
     . go_wp2;go_ret;exact⟨by rw [Z1w HN1.out HK.out HCK.out (by simp [okC];omega)];rfl,HB1.out _⟩
     by_cases e4:8<rm
     . go_wp2;go_ret;exact⟨by rw [Z1w HN1.out HK.out HCK.out (by simp [okC];omega)];rfl,HB1.out _⟩
     have hok:okC n1 (f,xo,t,xi,rm,u)=true:=by simp [okC];omega
     have HOK:=Lib.hid hok;clear hok;go_upto_region 7 with fail
     go_cut [7] from 55 to 61 (fun s7 wx=>s7 = .pointer (some ⟨wr.heap.size+1,0,none⟩) /\ ∃ p:Chn,wx=(wr.alloc (.cells (chC (f,xo,t,xi,rm,u)).toArray 85)).alloc (.cells (chC p).toArray 85)/\(k=0∨chs[k - 1]? = some p))
     case first =>
      cases k with
      | zero=>obtain⟨P0,P1,P2,P3,P4⟩:=HC.out.cell5 HCK.out HB1.out ((max (0:Int) (-1)).toNat * 5) rfl;go_wp2;go_meet;exact⟨rfl,(f,xo,t,xi,rm,u),rfl,by simp_all⟩
      | succ q=>obtain⟨p,hp⟩:∃ p,chs[q]? = some p:=⟨_,List.getElem?_eq_getElem (by rw [<- HC.out.1];omega)⟩;obtain⟨P0,P1,P2,P3,P4⟩:=HC.out.cell5 hp HB1.out (q * 5) rfl;have HP:=Lib.hid hp;clear hp;go_wp2;go_meet;exact⟨rfl,p,rfl,.inr HP.out⟩
     case rest =>
      obtain⟨rfl,p,rfl,hp⟩:=hcut;obtain⟨pf,po,pt,pi,pr,pu⟩:=p;have HP:=Lib.hid hp;clear hp;have hl2:=(HL.out.alloc (.cells (chC (f,xo,t,xi,rm,u)).toArray 85)).alloc (.cells (chC (pf,po,pt,pi,pr,pu)).toArray 85);have hcv:=Yo1 wr (f,xo,t,xi,rm,u) (pf,po,pt,pi,pr,pu);obtain⟨w2,hw2⟩:∃ w2,w2=(wr.alloc (.cells (chC (f,xo,t,xi,rm,u)).toArray 85)).alloc (.cells (chC (pf,po,pt,pi,pr,pu)).toArray 85):=⟨_,rfl⟩;have hs2:w2.heap.size=wr.heap.size+2:=by simp_all
      rw [<- hw2] at hl2 hcv ⊢;clear hw2;obtain⟨cv,pv⟩:=hcv;have HL2:=Lib.hid hl2;have HS2:=Lib.hid hs2;have p0:=pv.c0;have p1:=pv.c1;have v0:=cv.c0;have v1:=cv.c1;simp only at p0 p1 v0 v1;have HCV:=Lib.hid cv;clear hl2 cv pv hs2;go_upto_region 8 with fail
      go_cut [84] from 62 to 83 (fun s84 wx=>s84 = .bool (decide (0<k) && !inc (pf,po,pt,pi,pr,pu) (f,xo,t,xi,rm,u))/\wx=w2)
      case first =>
       by_cases hk0:k=0
       . subst hk0;go_wp2;go_meet;simp_all
       . have hk1:0<k:=by omega
         by_cases q1:f<pf
         . go_wp2;go_meet;have e1:inc (pf,po,pt,pi,pr,pu) (f,xo,t,xi,rm,u)=false:=by simp [inc];omega
           simp_all
         . by_cases q2:pf=f
           . subst q2;by_cases q3:xo<=po
             . go_wp2;go_meet;have e1:inc (pf,po,pt,pi,pr,pu) (pf,xo,t,xi,rm,u)=false:=by simp [inc];omega
               simp_all
             . go_wp2;go_meet;have e1:inc (pf,po,pt,pi,pr,pu) (pf,xo,t,xi,rm,u)=true:=by simp [inc];omega
               simp_all
           . have q4:(pf==f)=false:=by simpa using q2
             go_wp2;go_meet;have e1:inc (pf,po,pt,pi,pr,pu) (f,xo,t,xi,rm,u)=true:=by simp [inc];omega
             simp_all
      case rest =>
       obtain⟨rfl,rfl⟩:=hcut;cases hbad:(decide (0<k) && !inc (pf,po,pt,pi,pr,pu) (f,xo,t,xi,rm,u)) with
       | true=>rw [Bool.and_eq_true,decide_eq_true_eq] at hbad;obtain⟨hk0,hin⟩:=hbad;go_wp2;go_ret;have hkk:=HK.out;rw [if_neg (by omega),HP.out.resolve_left (by omega)] at hkk;exact⟨by rw [Yll HN1.out hkk HCK.out (by simp_all)];rfl,HL2.out.below⟩
       | false =>
        have hnext:chk n1 none chs=chk n1 (if k+1=0 then none else chs[k+1 - 1]?) (chs.drop (k+1)):=by
         rw [if_neg (by omega),Nat.add_sub_cancel,HCK.out];refine good_step HK.out HCK.out HOK.out fun q hq=>?_;by_cases hk0:k=0
         . simp_all
         . rw [if_neg hk0,HP.out.resolve_left hk0] at hq;obtain rfl:=Option.some.inj hq;have hk1:0<k:=by omega
           simp_all
        have HNX:=Lib.hid hnext;clear hnext hbad p0 p1;obtain⟨F,rfl⟩:∃ F:Nat,f=(F:Int):=⟨f.toNat,by omega⟩;obtain⟨T,rfl⟩:∃ T:Nat,t=(T:Int):=⟨t.toNat,by omega⟩;have hF:F<n1:=by omega
        have hT:T<n1:=by omega
        have hT0:(0:Int)<=T:=by omega
        have hF0:(0:Int)<=F:=by omega
        have hTz:(T:Int)<n1:=by omega
        have hFz:(F:Int)<n1:=by omega
        clear e1 e2 e3 e4 G0 G1 G2 G3 G4 x0 x1 v0 v1;go_upto_region 10 with fail
        refine Zgh 24 28 (SS wr.heap.size (F,xo,T,xi,rm,u) ⟨hb true,T,none⟩ ⟨hb false,F,none⟩ (Y true T) (Y false F)) (by kernel_rfl) (by kernel_rfl) ⟨HCV.out.drew,(HL2.out.heads true).cell hT,(HL2.out.heads false).cell hF⟩ (fun hS=>?_);refine T_t (v:=?_) false false SS.weak 0 85 rfl rfl hS ?_ ?_
        rotate_left
        . intro w hSw;have h0:=hSw.c0;have h1:=hSw.c1;have h2:=hSw.c2;have h3:=hSw.c3;simp only at h0 h1 h2 h3;go_simp;try rfl
        simp only [Act.put,aS,a0,aN];refine T_t (v:=?_) false false SS.weak 1 86 rfl rfl hS ?_ ?_
        rotate_left
        . intro w hSw;have h0:=hSw.c0;have h1:=hSw.c1;have h2:=hSw.c2;have h3:=hSw.c3;simp only at h0 h1 h2 h3;go_simp;try rfl
        simp only [Act.put,aS,a0,aN];refine T_t (v:=?_) false false SS.weak 2 87 rfl rfl hS ?_ ?_
        rotate_left
        . intro w hSw;have h0:=hSw.c0;have h1:=hSw.c1;have h2:=hSw.c2;have h3:=hSw.c3;simp only at h0 h1 h2 h3;go_simp;try rfl
        simp only [Act.put,aS,a0,aN];refine T_t (v:=?_) false false SS.weak 3 88 rfl rfl hS ?_ ?_
        rotate_left
        . intro w hSw;have h0:=hSw.c0;have h1:=hSw.c1;have h2:=hSw.c2;have h3:=hSw.c3;simp only at h0 h1 h2 h3;go_simp;try rfl
        simp only [Act.put,aS,a0,aN];refine T_t (v:=?_) false false SS.weak 4 89 rfl rfl hS ?_ ?_
        rotate_left
        . intro w hSw;have h0:=hSw.c0;have h1:=hSw.c1;have h2:=hSw.c2;have h3:=hSw.c3;simp only at h0 h1 h2 h3;go_simp;try rfl
        simp only [Act.put,aS,a0,aN];refine T_t (v:=?_) false false SS.weak 5 90 rfl rfl hS ?_ ?_
        rotate_left
        . intro w hSw;have h0:=hSw.c0;have h1:=hSw.c1;have h2:=hSw.c2;have h3:=hSw.c3;simp only at h0 h1 h2 h3;go_simp;try rfl
        simp only [Act.put,aS,a0,aN];refine T_t (v:=?_) false false SS.weak 6 91 rfl rfl hS ?_ ?_
        rotate_left
        . intro w hSw;have h0:=hSw.c0;have h1:=hSw.c1;have h2:=hSw.c2;have h3:=hSw.c3;simp only at h0 h1 h2 h3;go_simp;try rfl
        simp only [Act.put,aS,a0,aN];refine T_t (v:=?_) false false SS.weak 7 92 rfl rfl hS ?_ ?_
        rotate_left
        . intro w hSw;have h0:=hSw.c0;have h1:=hSw.c1;have h2:=hSw.c2;have h3:=hSw.c3;simp only at h0 h1 h2 h3;go_simp;try rfl
        simp only [Act.put,aS,a0,aN];refine T_t (v:=?_) false false SS.weak 8 93 rfl rfl hS ?_ ?_
        rotate_left
        . intro w hSw;have h0:=hSw.c0;have h1:=hSw.c1;have h2:=hSw.c2;have h3:=hSw.c3;simp only at h0 h1 h2 h3;go_simp;try rfl
        simp only [Act.put,aS,a0,aN];refine T_t (v:=?_) false false SS.weak 9 94 rfl rfl hS ?_ ?_
        rotate_left
        . intro w hSw;have h0:=hSw.c0;have h1:=hSw.c1;have h2:=hSw.c2;have h3:=hSw.c3;simp only at h0 h1 h2 h3;go_simp;try rfl
        simp only [Act.put,aS,a0,aN];refine T_t (v:=?_) true false SS.weak 10 95 rfl rfl hS ?_ ?_
        rotate_left
        . intro w hSw;have h0:=hSw.1.c0;have h1:=hSw.1.c1;have h2:=hSw.1.c2;have h3:=hSw.1.c3;simp only at h0 h1 h2 h3;have h4:=hSw.2.1;have h5:=hSw.2.2;go_simp;try rfl
        simp only [Act.put,aS,a0,aN];refine T_t (v:=?_) false false SS.weak 11 96 rfl rfl hS ?_ ?_
        rotate_left
        . intro w hSw;have h0:=hSw.c0;have h1:=hSw.c1;have h2:=hSw.c2;have h3:=hSw.c3;simp only at h0 h1 h2 h3;go_simp;try rfl
        simp only [Act.put,aS,a0,aN];refine T_t (v:=?_) false false SS.weak 12 97 rfl rfl hS ?_ ?_
        rotate_left
        . intro w hSw;have h0:=hSw.c0;have h1:=hSw.c1;have h2:=hSw.c2;have h3:=hSw.c3;simp only at h0 h1 h2 h3;go_simp;try rfl
        simp only [Act.put,aS,a0,aN];refine T_t (v:=?_) false false SS.weak 15 100 rfl rfl hS ?_ ?_
        rotate_left
        . intro w hSw;have h0:=hSw.c0;have h1:=hSw.c1;have h2:=hSw.c2;have h3:=hSw.c3;simp only at h0 h1 h2 h3;go_simp;try rfl
        simp only [Act.put,aS,a0,aN];refine T_t (v:=?_) false false SS.weak 16 101 rfl rfl hS ?_ ?_
        rotate_left
        . intro w hSw;have h0:=hSw.c0;have h1:=hSw.c1;have h2:=hSw.c2;have h3:=hSw.c3;simp only at h0 h1 h2 h3;go_simp;try rfl
        simp only [Act.put,aS,a0,aN];refine T_t (v:=?_) false false SS.weak 17 102 rfl rfl hS ?_ ?_
        rotate_left
        . intro w hSw;have h0:=hSw.c0;have h1:=hSw.c1;have h2:=hSw.c2;have h3:=hSw.c3;simp only at h0 h1 h2 h3;go_simp;try rfl
        simp only [Act.put,aS,a0,aN];refine T_t (v:=?_) false false SS.weak 18 103 rfl rfl hS ?_ ?_
        rotate_left
        . intro w hSw;have h0:=hSw.c0;have h1:=hSw.c1;have h2:=hSw.c2;have h3:=hSw.c3;simp only at h0 h1 h2 h3;go_simp;try rfl
        simp only [Act.put,aS,a0,aN];refine T_t (v:=?_) true false SS.weak 19 104 rfl rfl hS ?_ ?_
        rotate_left
        . intro w hSw;have h0:=hSw.1.c0;have h1:=hSw.1.c1;have h2:=hSw.1.c2;have h3:=hSw.1.c3;simp only at h0 h1 h2 h3;have h4:=hSw.2.1;have h5:=hSw.2.2;go_simp;try rfl
        simp only [Act.put,aS,a0,aN];refine T_t (v:=?_) false false SS.weak 20 105 rfl rfl hS ?_ ?_
        rotate_left
        . intro w hSw;have h0:=hSw.c0;have h1:=hSw.c1;have h2:=hSw.c2;have h3:=hSw.c3;simp only at h0 h1 h2 h3;go_simp;try rfl
        simp only [Act.put,aS,a0,aN];refine T_t (v:=?_) false false SS.weak 21 106 rfl rfl hS ?_ ?_
        rotate_left
        . intro w hSw;have h0:=hSw.c0;have h1:=hSw.c1;have h2:=hSw.c2;have h3:=hSw.c3;simp only at h0 h1 h2 h3;go_simp;try rfl
        simp only [Act.put,aS,a0,aN];have hM:=HL2.out.md;have hlc:chs.length<=120:=by rw [<- HC.out.1];exact h2
        have hold2:∀ b j,j<n1 -> ∀ q,(Y b j).ownBlock=some q->q<wc.heap.size:=fun b j hj q hq=>by have:=(Zoe (HL.out.rows.row b j hj trivial) hq).2;have:=HS2.out;omega
        have hold:∀ b j,j<n1 -> ∀ q,(Y b j).ownBlock=some q->q≠wr.heap.size/\q≠hb true/\q≠hb false:=fun b j hj q hq=>by have:=Zoe (HL.out.rows.row b j hj trivial) hq;have:=hlo true;have:=hlo false;omega
        have hBt:hb true≠wr.heap.size:=by have:=hlo true;have:=HL.out.rows.size;omega
        have hBf:hb false≠wr.heap.size:=by have:=hlo false;have:=HL.out.rows.size;omega
        obtain⟨i0,hi,hz0,hz1,hz2⟩:=Yo2;refine Z7 (rs:=[13,22]) (by kernel_rfl) (by simp) ?_;refine AllT.cons' (i:=13) false (by kernel_rfl) rfl (fun K hK=>?_) (AllT.cons' (i:=22) false (by kernel_rfl) rfl (fun K hK=>?_) AllT.nil)
        . go_simp;refine hK.out _ _ (show SS wr.heap.size (F,xo,T,xi,rm,u) ⟨hb true,T,none⟩ ⟨hb false,F,none⟩ (Y true T) (Y false F) false (wc.alloc (.cells #[.int .i64 xi] 3)).drew from SS.alloc hS (.cells #[.int .i64 xi] 3)) (fun hS=>?_);clear hK K;try simp only [Act.put,aS,a0,aN]
          have hM:=hM.alloc (.cells #[.int .i64 xi] 3);have b13:=heap_alloc_new wc (.cells #[.int .i64 xi] 3);refine Z7 (rs:=[14,22]) (by kernel_rfl) (by simp) ?_;refine AllT.cons' (i:=14) false (by kernel_rfl) rfl (fun K hK=>?_) (AllT.cons' (i:=22) false (by kernel_rfl) rfl (fun K hK=>?_) AllT.nil)
          . refine step_append_lies _ rfl _ _ 23 rfl (w.heap.size+3) 3 i0 (.int .i64 0) 1 8 Tryz.underlying23 hi hz0 hz1 hz2 rfl (by decide) (Y true T) _ _ rfl ((hM.drew).rows.row true T hT trivial) ⟨_,0,none⟩ 1 1 [.int .i64 xi] rfl rfl (World.news_of_block (w:=(wc.alloc (.cells #[.int .i64 xi] 3)).drew) b13) (by intro v hv;simp at hv;subst hv;rfl) (by decide) (Zca true T k chs hlc).1 (Zca true T k chs hlc).2 (hM.drew).rows.size _ rfl ?_;intro g1 cap1 w1 hown hgrow hat hlt;refine hK.out _ _ (SS.grown hS hgrow (hold true T hT)) (fun hS=>?_);clear hK K;try simp only [Act.put,aS,a0,aN]
            have hM:=(hM.drew).append hlo hT rfl hown hgrow hat rfl;clear b13 hown hgrow hat hlt;refine Z7 (rs:=[22]) (by kernel_rfl) (by simp) ?_;refine AllT.cons' (i:=22) false (by kernel_rfl) rfl (fun K hK=>?_) AllT.nil;go_simp;refine hK.out _ _ (show SS wr.heap.size (F,xo,T,xi,rm,u) ⟨hb true,T,none⟩ ⟨hb false,F,none⟩ (Y true T) (Y false F) false (w1.alloc (.cells #[.int .i64 xo] 3)) from SS.alloc hS (.cells #[.int .i64 xo] 3)) (fun hS=>?_);clear hK K;try simp only [Act.put,aS,a0,aN]
            have hM:=hM.alloc (.cells #[.int .i64 xo] 3);have b22:=heap_alloc_new w1 (.cells #[.int .i64 xo] 3);refine Z7 (rs:=[23]) (by kernel_rfl) (by simp) ?_;refine AllT.cons' (i:=23) false (by kernel_rfl) rfl (fun K hK=>?_) AllT.nil;have hr2:(w1.alloc (.cells #[.int .i64 xo] 3)).ownsRow (w.heap.size+3) 3 1 (Y false F) (lst false F (chs.take k)).length ((lst false F (chs.take k)).map (.int .i64)):=by simpa [upd] using hM.rows.row false F hF trivial
            refine step_append_lies _ rfl _ _ 23 rfl (w.heap.size+3) 3 i0 (.int .i64 0) 1 8 Tryz.underlying23 hi hz0 hz1 hz2 rfl (by decide) (Y false F) _ _ rfl hr2 ⟨_,0,none⟩ 1 1 [.int .i64 xo] rfl rfl (World.news_of_block (w:=(w1.alloc (.cells #[.int .i64 xo] 3))) b22) (by intro v hv;simp at hv;subst hv;rfl) (by decide) (Zca false F k chs hlc).1 (Zca false F k chs hlc).2 hM.rows.size _ rfl ?_;intro g2 cap2 w2 hown hgrow hat hlt;refine hK.out _ _ (SS.grown hS hgrow (hold false F hF)) (fun hS=>?_);clear hK K;try simp only [Act.put,aS,a0,aN]
            have hM:=hM.append (b0:=false) (j0:=F) (x:=xo) hlo hF (g:=g2) (cap:=cap2) (m:=(lst false F (chs.take k)).length+1) (by simp [upd]) (by simpa [upd] using hown) (by simpa [upd] using hgrow) (by simpa [upd] using hat) rfl;have hM:Md w w2 (.cells #[.slice a1 n1 c1,.slice (some b2) n2 c2] 34) n1 hb Y (upd (upd Y true T (.slice (some ⟨g1,0,none⟩) ((lst true T (chs.take k)).length+1) cap1)) false F (.slice (some ⟨g2,0,none⟩) ((lst false F (chs.take k)).length+1) cap2)) (upd (upd (fun b j=>lst b j (chs.take k)) true T (lst true T (chs.take k)++[xi])) false F (lst false F (chs.take k)++[xo])):=by simpa [upd] using hM
            clear b22 hown hgrow hat hlt hr2 hz0 hz1 hz2 hi;refine Z7 (rs:=[24]) (by kernel_rfl) (by simp) ?_;refine AllT.cons' (i:=24) true (by kernel_rfl) rfl (fun K hK=>?_) AllT.nil;go_simp;refine hK.out _ _ (SS.weak _ hS) (fun hS=>?_);clear hK K;try simp only [Act.put,aS,a0,aN]
            have s0:=(hM.heads true).cell hT;have s1:=(hM.heads true).frozen T;refine Z7 (rs:=[25]) (by kernel_rfl) (by simp) ?_;refine AllT.cons' (i:=25) true (by kernel_rfl) rfl (fun K hK=>?_) AllT.nil;go_simp;refine hK.out _ _ (SS.store hS ⟨hb true,T,none⟩ (.slice (some ⟨g1,0,none⟩) ((lst true T (chs.take k)).length+1) cap1) hBt) (fun hS=>?_);clear hK K s0 s1;try simp only [Act.put,aS,a0,aN]
            have s0:=((hM.heads false).setOther (a:=⟨hb true,T,none⟩) (fun e=>hne e.symm) (.slice (some ⟨g1,0,none⟩) ((lst true T (chs.take k)).length+1) cap1)).cell hF;have s1:=((hM.heads false).setOther (a:=⟨hb true,T,none⟩) (fun e=>hne e.symm) (.slice (some ⟨g1,0,none⟩) ((lst true T (chs.take k)).length+1) cap1)).frozen F;refine Z7 (rs:=[26]) (by kernel_rfl) (by simp) ?_;refine AllT.cons' (i:=26) true (by kernel_rfl) rfl (fun K hK=>?_) AllT.nil;go_simp;refine hK.out _ _ hS (fun hS=>?_);clear hK K;try simp only [Act.put,aS,a0,aN]
            refine Z7 (rs:=[27]) (by kernel_rfl) (by simp) ?_;refine AllT.cons' (i:=27) true (by kernel_rfl) rfl (fun K hK=>?_) AllT.nil;go_simp;refine hK.out _ _ (SS.store hS ⟨hb false,F,none⟩ (.slice (some ⟨g2,0,none⟩) ((lst false F (chs.take k)).length+1) cap2) hBf) (fun hS=>?_);clear hK K s0 s1 hS;try simp only [Act.put,aS,a0,aN]
            refine Zip (by kernel_rfl) ?_ _;have hD:=Lib.hid (hM.done hne hlo HCK.out);clear hM hold hold2 hBt hBf;go_wp2;go_roundw
            case rel=>exact⟨k+1,_,by omega,by go_num,hD.out,HNX.out⟩
            case measure=>simp [RowKit.intOf];omega
          . go_simp;refine hK.out _ _ (show SS wr.heap.size (F,xo,T,xi,rm,u) ⟨hb true,T,none⟩ ⟨hb false,F,none⟩ (Y true T) (Y false F) false ((wc.alloc (.cells #[.int .i64 xi] 3)).alloc (.cells #[.int .i64 xo] 3)).drew from SS.alloc hS (.cells #[.int .i64 xo] 3)) (fun hS=>?_);clear hK K;try simp only [Act.put,aS,a0,aN]
            have hM:=hM.alloc (.cells #[.int .i64 xo] 3);have b13:=Qb (.cells #[.int .i64 xo] 3) b13 (Zin b13);have b22:((wc.alloc (.cells #[.int .i64 xi] 3)).alloc (.cells #[.int .i64 xo] 3)).heap[wc.heap.size+1]? = some (.cells #[.int .i64 xo] 3 (0,0)):=by have h:=heap_alloc_new (wc.alloc (.cells #[.int .i64 xi] 3)) (.cells #[.int .i64 xo] 3);simp_all
            refine Z7 (rs:=[14]) (by kernel_rfl) (by simp) ?_;refine AllT.cons' (i:=14) false (by kernel_rfl) rfl (fun K hK=>?_) AllT.nil;refine step_append_lies _ rfl _ _ 23 rfl (w.heap.size+3) 3 i0 (.int .i64 0) 1 8 Tryz.underlying23 hi hz0 hz1 hz2 rfl (by decide) (Y true T) _ _ rfl ((hM.drew).rows.row true T hT trivial) ⟨_,0,none⟩ 1 1 [.int .i64 xi] rfl rfl (World.news_of_block (w:=((wc.alloc (.cells #[.int .i64 xi] 3)).alloc (.cells #[.int .i64 xo] 3)).drew) b13) (by intro v hv;simp at hv;subst hv;rfl) (by decide) (Zca true T k chs hlc).1 (Zca true T k chs hlc).2 (hM.drew).rows.size _ rfl ?_;intro g1 cap1 w1 hown hgrow hat hlt;refine hK.out _ _ (SS.grown hS hgrow (hold true T hT)) (fun hS=>?_);clear hK K;try simp only [Act.put,aS,a0,aN]
            have hM:=(hM.drew).append hlo hT rfl hown hgrow hat rfl;have b22:=(hgrow.block _ (Zin (w:=((wc.alloc (.cells #[.int .i64 xi] 3)).alloc (.cells #[.int .i64 xo] 3)).drew) b22) (fun e=>by have:=hold2 true T hT _ e.symm;have h3:=HS2.out;simp_all)).trans b22;clear b13 hown hgrow hat hlt;refine Z7 (rs:=[23]) (by kernel_rfl) (by simp) ?_;refine AllT.cons' (i:=23) false (by kernel_rfl) rfl (fun K hK=>?_) AllT.nil;have hr2:w1.ownsRow (w.heap.size+3) 3 1 (Y false F) (lst false F (chs.take k)).length ((lst false F (chs.take k)).map (.int .i64)):=by simpa [upd] using hM.rows.row false F hF trivial
            refine step_append_lies _ rfl _ _ 23 rfl (w.heap.size+3) 3 i0 (.int .i64 0) 1 8 Tryz.underlying23 hi hz0 hz1 hz2 rfl (by decide) (Y false F) _ _ rfl hr2 ⟨_,0,none⟩ 1 1 [.int .i64 xo] rfl rfl (World.news_of_block (w:=w1) b22) (by intro v hv;simp at hv;subst hv;rfl) (by decide) (Zca false F k chs hlc).1 (Zca false F k chs hlc).2 hM.rows.size _ rfl ?_;intro g2 cap2 w2 hown hgrow hat hlt;refine hK.out _ _ (SS.grown hS hgrow (hold false F hF)) (fun hS=>?_);clear hK K;try simp only [Act.put,aS,a0,aN]
            have hM:=hM.append (b0:=false) (j0:=F) (x:=xo) hlo hF (g:=g2) (cap:=cap2) (m:=(lst false F (chs.take k)).length+1) (by simp [upd]) (by simpa [upd] using hown) (by simpa [upd] using hgrow) (by simpa [upd] using hat) rfl;have hM:Md w w2 (.cells #[.slice a1 n1 c1,.slice (some b2) n2 c2] 34) n1 hb Y (upd (upd Y true T (.slice (some ⟨g1,0,none⟩) ((lst true T (chs.take k)).length+1) cap1)) false F (.slice (some ⟨g2,0,none⟩) ((lst false F (chs.take k)).length+1) cap2)) (upd (upd (fun b j=>lst b j (chs.take k)) true T (lst true T (chs.take k)++[xi])) false F (lst false F (chs.take k)++[xo])):=by simpa [upd] using hM
            clear b22 hown hgrow hat hlt hr2 hz0 hz1 hz2 hi;refine Z7 (rs:=[24]) (by kernel_rfl) (by simp) ?_;refine AllT.cons' (i:=24) true (by kernel_rfl) rfl (fun K hK=>?_) AllT.nil;go_simp;refine hK.out _ _ (SS.weak _ hS) (fun hS=>?_);clear hK K;try simp only [Act.put,aS,a0,aN]
            have s0:=(hM.heads true).cell hT;have s1:=(hM.heads true).frozen T;refine Z7 (rs:=[25]) (by kernel_rfl) (by simp) ?_;refine AllT.cons' (i:=25) true (by kernel_rfl) rfl (fun K hK=>?_) AllT.nil;go_simp;refine hK.out _ _ (SS.store hS ⟨hb true,T,none⟩ (.slice (some ⟨g1,0,none⟩) ((lst true T (chs.take k)).length+1) cap1) hBt) (fun hS=>?_);clear hK K s0 s1;try simp only [Act.put,aS,a0,aN]
            have s0:=((hM.heads false).setOther (a:=⟨hb true,T,none⟩) (fun e=>hne e.symm) (.slice (some ⟨g1,0,none⟩) ((lst true T (chs.take k)).length+1) cap1)).cell hF;have s1:=((hM.heads false).setOther (a:=⟨hb true,T,none⟩) (fun e=>hne e.symm) (.slice (some ⟨g1,0,none⟩) ((lst true T (chs.take k)).length+1) cap1)).frozen F;refine Z7 (rs:=[26]) (by kernel_rfl) (by simp) ?_;refine AllT.cons' (i:=26) true (by kernel_rfl) rfl (fun K hK=>?_) AllT.nil;go_simp;refine hK.out _ _ hS (fun hS=>?_);clear hK K;try simp only [Act.put,aS,a0,aN]
            refine Z7 (rs:=[27]) (by kernel_rfl) (by simp) ?_;refine AllT.cons' (i:=27) true (by kernel_rfl) rfl (fun K hK=>?_) AllT.nil;go_simp;refine hK.out _ _ (SS.store hS ⟨hb false,F,none⟩ (.slice (some ⟨g2,0,none⟩) ((lst false F (chs.take k)).length+1) cap2) hBf) (fun hS=>?_);clear hK K s0 s1 hS;try simp only [Act.put,aS,a0,aN]
            refine Zip (by kernel_rfl) ?_ _;have hD:=Lib.hid (hM.done hne hlo HCK.out);clear hM hold hold2 hBt hBf;go_wp2;go_roundw
            case rel=>exact⟨k+1,_,by omega,by go_num,hD.out,HNX.out⟩
            case measure=>simp [RowKit.intOf];omega
        . go_simp;refine hK.out _ _ (show SS wr.heap.size (F,xo,T,xi,rm,u) ⟨hb true,T,none⟩ ⟨hb false,F,none⟩ (Y true T) (Y false F) false (wc.alloc (.cells #[.int .i64 xo] 3)).drew from SS.alloc hS (.cells #[.int .i64 xo] 3)) (fun hS=>?_);clear hK K;try simp only [Act.put,aS,a0,aN]
          have hM:=hM.alloc (.cells #[.int .i64 xo] 3);have b22:=heap_alloc_new wc (.cells #[.int .i64 xo] 3);refine Z7 (rs:=[13]) (by kernel_rfl) (by simp) ?_;refine AllT.cons' (i:=13) false (by kernel_rfl) rfl (fun K hK=>?_) AllT.nil;go_simp;refine hK.out _ _ (show SS wr.heap.size (F,xo,T,xi,rm,u) ⟨hb true,T,none⟩ ⟨hb false,F,none⟩ (Y true T) (Y false F) false ((wc.alloc (.cells #[.int .i64 xo] 3)).alloc (.cells #[.int .i64 xi] 3)).drew from SS.alloc hS (.cells #[.int .i64 xi] 3)) (fun hS=>?_);clear hK K;try simp only [Act.put,aS,a0,aN]
          have hM:=hM.alloc (.cells #[.int .i64 xi] 3);have b22:=Qb (.cells #[.int .i64 xi] 3) b22 (Zin b22);have b13:((wc.alloc (.cells #[.int .i64 xo] 3)).alloc (.cells #[.int .i64 xi] 3)).heap[wc.heap.size+1]? = some (.cells #[.int .i64 xi] 3 (0,0)):=by have h:=heap_alloc_new (wc.alloc (.cells #[.int .i64 xo] 3)) (.cells #[.int .i64 xi] 3);simp_all
          refine Z7 (rs:=[14]) (by kernel_rfl) (by simp) ?_;refine AllT.cons' (i:=14) false (by kernel_rfl) rfl (fun K hK=>?_) AllT.nil;refine step_append_lies _ rfl _ _ 23 rfl (w.heap.size+3) 3 i0 (.int .i64 0) 1 8 Tryz.underlying23 hi hz0 hz1 hz2 rfl (by decide) (Y true T) _ _ rfl ((hM.drew).rows.row true T hT trivial) ⟨_,0,none⟩ 1 1 [.int .i64 xi] rfl rfl (World.news_of_block (w:=((wc.alloc (.cells #[.int .i64 xo] 3)).alloc (.cells #[.int .i64 xi] 3)).drew) b13) (by intro v hv;simp at hv;subst hv;rfl) (by decide) (Zca true T k chs hlc).1 (Zca true T k chs hlc).2 (hM.drew).rows.size _ rfl ?_;intro g1 cap1 w1 hown hgrow hat hlt;refine hK.out _ _ (SS.grown hS hgrow (hold true T hT)) (fun hS=>?_);clear hK K;try simp only [Act.put,aS,a0,aN]
          have hM:=(hM.drew).append hlo hT rfl hown hgrow hat rfl;have b22:=(hgrow.block _ (Zin (w:=((wc.alloc (.cells #[.int .i64 xo] 3)).alloc (.cells #[.int .i64 xi] 3)).drew) b22) (fun e=>by have:=hold2 true T hT _ e.symm;simp_all)).trans b22;clear b13 hown hgrow hat hlt;refine Z7 (rs:=[23]) (by kernel_rfl) (by simp) ?_;refine AllT.cons' (i:=23) false (by kernel_rfl) rfl (fun K hK=>?_) AllT.nil;have hr2:w1.ownsRow (w.heap.size+3) 3 1 (Y false F) (lst false F (chs.take k)).length ((lst false F (chs.take k)).map (.int .i64)):=by simpa [upd] using hM.rows.row false F hF trivial
          refine step_append_lies _ rfl _ _ 23 rfl (w.heap.size+3) 3 i0 (.int .i64 0) 1 8 Tryz.underlying23 hi hz0 hz1 hz2 rfl (by decide) (Y false F) _ _ rfl hr2 ⟨_,0,none⟩ 1 1 [.int .i64 xo] rfl rfl (World.news_of_block (w:=w1) b22) (by intro v hv;simp at hv;subst hv;rfl) (by decide) (Zca false F k chs hlc).1 (Zca false F k chs hlc).2 hM.rows.size _ rfl ?_;intro g2 cap2 w2 hown hgrow hat hlt;refine hK.out _ _ (SS.grown hS hgrow (hold false F hF)) (fun hS=>?_);clear hK K;try simp only [Act.put,aS,a0,aN]
          have hM:=hM.append (b0:=false) (j0:=F) (x:=xo) hlo hF (g:=g2) (cap:=cap2) (m:=(lst false F (chs.take k)).length+1) (by simp [upd]) (by simpa [upd] using hown) (by simpa [upd] using hgrow) (by simpa [upd] using hat) rfl;have hM:Md w w2 (.cells #[.slice a1 n1 c1,.slice (some b2) n2 c2] 34) n1 hb Y (upd (upd Y true T (.slice (some ⟨g1,0,none⟩) ((lst true T (chs.take k)).length+1) cap1)) false F (.slice (some ⟨g2,0,none⟩) ((lst false F (chs.take k)).length+1) cap2)) (upd (upd (fun b j=>lst b j (chs.take k)) true T (lst true T (chs.take k)++[xi])) false F (lst false F (chs.take k)++[xo])):=by simpa [upd] using hM
          clear b22 hown hgrow hat hlt hr2 hz0 hz1 hz2 hi;refine Z7 (rs:=[24]) (by kernel_rfl) (by simp) ?_;refine AllT.cons' (i:=24) true (by kernel_rfl) rfl (fun K hK=>?_) AllT.nil;go_simp;refine hK.out _ _ (SS.weak _ hS) (fun hS=>?_);clear hK K;try simp only [Act.put,aS,a0,aN]
          have s0:=(hM.heads true).cell hT;have s1:=(hM.heads true).frozen T;refine Z7 (rs:=[25]) (by kernel_rfl) (by simp) ?_;refine AllT.cons' (i:=25) true (by kernel_rfl) rfl (fun K hK=>?_) AllT.nil;go_simp;refine hK.out _ _ (SS.store hS ⟨hb true,T,none⟩ (.slice (some ⟨g1,0,none⟩) ((lst true T (chs.take k)).length+1) cap1) hBt) (fun hS=>?_);clear hK K s0 s1;try simp only [Act.put,aS,a0,aN]
          have s0:=((hM.heads false).setOther (a:=⟨hb true,T,none⟩) (fun e=>hne e.symm) (.slice (some ⟨g1,0,none⟩) ((lst true T (chs.take k)).length+1) cap1)).cell hF;have s1:=((hM.heads false).setOther (a:=⟨hb true,T,none⟩) (fun e=>hne e.symm) (.slice (some ⟨g1,0,none⟩) ((lst true T (chs.take k)).length+1) cap1)).frozen F;refine Z7 (rs:=[26]) (by kernel_rfl) (by simp) ?_;refine AllT.cons' (i:=26) true (by kernel_rfl) rfl (fun K hK=>?_) AllT.nil;go_simp;refine hK.out _ _ hS (fun hS=>?_);clear hK K;try simp only [Act.put,aS,a0,aN]
          refine Z7 (rs:=[27]) (by kernel_rfl) (by simp) ?_;refine AllT.cons' (i:=27) true (by kernel_rfl) rfl (fun K hK=>?_) AllT.nil;go_simp;refine hK.out _ _ (SS.store hS ⟨hb false,F,none⟩ (.slice (some ⟨g2,0,none⟩) ((lst false F (chs.take k)).length+1) cap2) hBf) (fun hS=>?_);clear hK K s0 s1 hS;try simp only [Act.put,aS,a0,aN]
          refine Zip (by kernel_rfl) ?_ _;have hD:=Lib.hid (hM.done hne hlo HCK.out);clear hM hold hold2 hBt hBf;go_wp2;go_roundw
          case rel=>exact⟨k+1,_,by omega,by go_num,hD.out,HNX.out⟩
          case measure=>simp [RowKit.intOf];omega
   . have hke:k=n2:=by omega
     subst hke;have hck:chk n1 none chs=true:=by rw [HK.out,HC.out.1,List.drop_length];cases (if chs.length=0 then none else chs[chs.length - 1]?) <;> rfl
     have x0:wr.cell? ⟨w.heap.size,0,none⟩=some (.slice a1 n1 c1):=(Q5 HL.out.arg rfl).1;have hl2:L2 w wr (.cells #[.slice a1 n1 c1,.slice a2 k c2] 34) n1 hb chs (fun _ q=>0<=q) Y:=by have:=HL.out;rw [HC.out.1] at this ⊢;exact this.l2
     have HL2:=Lib.hid hl2;have HCK:=Lib.hid hck;clear hl2 hck;go_wp2;clear x0;go_loopw [115] (fun i wr=>∃ j:Nat,j<=n1/\i = .int .i64 j/\L2 w wr (.cells #[.slice a1 n1 c1,.slice a2 k c2] 34) n1 hb chs (fun _ q=>j<=q) Y/\fin chs 0 ops=fin chs j (ops.drop j)) (fun i _=>n1 - (RowKit.intOf i).toNat)
     case atStart=>exact⟨0,Nat.zero_le _,rfl,HL2.out,rfl⟩
     case round =>
      obtain⟨j,hj,rfl,hl2,hfin⟩:=hrel;have HL3:=Lib.hid hl2;have HFIN:=Lib.hid hfin;clear hl2 hfin;by_cases hlt:j<n1
      . obtain⟨o,hoj⟩:∃ o,ops[j]? = some o:=⟨_,List.getElem?_eq_getElem (by rw [<- HO.out.1];exact hlt)⟩;obtain⟨b1,rfl,hb1,G0,G1⟩:=HO.out.two hoj HL3.out.below;obtain⟨kd,on,u⟩:=o;have HOJ:=Lib.hid hoj;clear hoj;simp only at G0 G1;have hfj:fin chs 0 ops=fin chs j ((kd,on,u)::ops.drop (j+1)):=by rw [HFIN.out,Zmx HOJ.out]
        have HFJ:=Lib.hid hfj;clear hfj;go_wp2_with (go_at_call 134;refine (Z8d kd _).mono ?_);rintro e w4 ⟨rfl,hb4⟩;have hl4:=(HL3.out.kept (World.grownBy_alloc _ (.cells #[.int .u8 kd,.int .i64 on] 53) none)).kept (below_grown hb4);obtain⟨l1,l2,l3,l4,hbd⟩:∃ l1 l2 l3 l4,bnd kd=(l1,l2,l3,l4):=⟨_,_,_,_,rfl⟩;rw [hbd];have HBD:=Lib.hid hbd;have HL4:=Lib.hid hl4;clear hb4 hbd hl4;have hl5:=(HL4.out.kept (World.grownBy_alloc _ (.cells #[.int .i64 l1,.int .i64 l2] 221) none)).kept (World.grownBy_alloc _ (.cells #[.int .i64 l3,.int .i64 l4] 221) none);go_upto_region 16 with fail
        have q1:((w4.alloc (.cells #[.int .i64 l1,.int .i64 l2] 221)).alloc (.cells #[.int .i64 l3,.int .i64 l4] 221)).heap[w4.heap.size]? = some (.cells #[.int .i64 l1,.int .i64 l2] 221 (0,0)):=Qb _ (heap_alloc_new w4 _) (by simp);have q2:=Zim w4 (.cells #[.int .i64 l1,.int .i64 l2] 221) (.cells #[.int .i64 l3,.int .i64 l4] 221);obtain⟨w5,hw5⟩:∃ w5,w5=(w4.alloc (.cells #[.int .i64 l1,.int .i64 l2] 221)).alloc (.cells #[.int .i64 l3,.int .i64 l4] 221):=⟨_,rfl⟩;obtain⟨B,hB⟩:∃ B,B=w4.heap.size:=⟨_,rfl⟩;have hold:∀ b,∀ q,(Y b j).ownBlock=some q->w.heap.size+3<=q/\q<B:=fun b q hq=>by have:=Zoe (HL4.out.rows.row b j hlt (Nat.le_refl _)) hq;omega
        rw [<- hw5] at hl5 q1 q2 ⊢;rw [<- hB] at q1 q2 ⊢;clear hw5 hB;have z0:w5.cell? ⟨B,0,none⟩=some (.int .i64 l1):=(Q5 q1 rfl).1;have z1:w5.cell? ⟨B,1,none⟩=some (.int .i64 l2):=(Q5 q1 rfl).1;have z2:w5.cell? ⟨B+1,0,none⟩=some (.int .i64 l3):=(Q5 q2 rfl).1;have z3:w5.cell? ⟨B+1,1,none⟩=some (.int .i64 l4):=(Q5 q2 rfl).1;have z4:=(hl5.heads true).cell hlt;have z5:=(hl5.heads false).cell hlt;have hkp:∀ (b:Bool) (u v:World),(u.cell? ⟨hb true,j,none⟩=some (Y true j)/\u.cell? ⟨hb false,j,none⟩=some (Y false j)/\u.cell? ⟨B,0,none⟩=some (.int .i64 l1)/\u.cell? ⟨B,1,none⟩=some (.int .i64 l2)/\u.cell? ⟨B+1,0,none⟩=some (.int .i64 l3)/\u.cell? ⟨B+1,1,none⟩=some (.int .i64 l4))->u.grownBy v (Y b j).ownBlock ->
            (v.cell? ⟨hb true,j,none⟩=some (Y true j)/\v.cell? ⟨hb false,j,none⟩=some (Y false j)/\v.cell? ⟨B,0,none⟩=some (.int .i64 l1)/\v.cell? ⟨B,1,none⟩=some (.int .i64 l2)/\v.cell? ⟨B+1,0,none⟩=some (.int .i64 l3)/\v.cell? ⟨B+1,1,none⟩=some (.int .i64 l4)):=fun b u v hu hg=>by
          have key:∀ (a:Addr) (x:Value),(a.block=hb true∨a.block=hb false∨a.block=B∨a.block=B+1)->u.cell? a=some x->v.cell? a=some x:=fun a x ha hx=>by rw [hg.cell_far a (World.block_lt_of_cell? u a hx) (fun e=>by have:=hold b _ e.symm;have:=hlo true;have:=hlo false;omega)];exact hx
          simp_all
        have KP2:=Lib.hid (hkp false);have KP1:=Lib.hid (fun v (hg:w5.drew.grownBy v (Y true j).ownBlock)=>hkp true w5.drew v ⟨z4,z5,z0,z1,z2,z3⟩ hg);have R5:=Lib.hid hl5.drew.rows;have hrk:∀ v,w5.drew.grownBy v (Y true j).ownBlock->L2 w v (.cells #[.slice (some b1) n1 c1,.slice a2 k c2] 34) n1 hb chs (fun b q=>j<=q/\¬(b=true/\q=j)) Y:=fun v hg=>hl5.drew.lost hlo hlt (Nat.le_refl _) hg (fun b q _ h=>h);have RK:=Lib.hid (fun v hg=>(hrk v hg).rows.row false j hlt ⟨Nat.le_refl _,by simp⟩);have HRK:=Lib.hid hrk;have hfit:∀ b,(lst b j chs).length<=1000:=fun b=>by have:=Ybt b j chs;have:=HC.out.1;omega
        have hfin2:=HFJ.out;rw [Ygh,HBD.out] at hfin2;have HF2:=Lib.hid hfin2;clear hl5 q1 q2 hold hkp hrk hfin2;have he1:∀ W:World,W.ownsRow (w.heap.size+3) 3 1 (Y true j) (lst true j chs).length ((lst true j chs).map (.int .i64))->Calls Tryz.prog 135 #[Y true j,.agg #[.int .i64 l1,.int .i64 l2]] W fun e w' => e = .returned (.bool (Zbz (lst true j chs) l1 l2))/\W.grownBy w' (Y true j).ownBlock:=fun W hW=>Z5o _ _ _ _ _ _ (hfit true) hW;have he2:∀ W:World,W.ownsRow (w.heap.size+3) 3 1 (Y false j) (lst false j chs).length ((lst false j chs).map (.int .i64))->Calls Tryz.prog 135 #[Y false j,.agg #[.int .i64 l3,.int .i64 l4]] W fun e w' => e = .returned (.bool (Zbz (lst false j chs) l3 l4))/\W.grownBy w' (Y false j).ownBlock:=fun W hW=>Z5o _ _ _ _ _ _ (hfit false) hW;have hjp:fin chs 0 ops=false->Zaq ops chs=false:=fun h=>by rw [Zaq,h,Bool.and_false]
        have HJP:=Lib.hid hjp;clear hfit hjp;cases hv1:Zbz (lst true j chs) l1 l2 with
        | false =>
         rw [hv1] at he1;have E1:=Lib.hid he1;have E2:=Lib.hid he2;clear he1 he2;refine Zgh 99 16 (fun _=>fun w' => w'.cell? ⟨hb true,j,none⟩=some (Y true j)/\w'.cell? ⟨hb false,j,none⟩=some (Y false j)/\w'.cell? ⟨B,0,none⟩=some (.int .i64 l1)/\w'.cell? ⟨B,1,none⟩=some (.int .i64 l2)/\w'.cell? ⟨B+1,0,none⟩=some (.int .i64 l3)/\w'.cell? ⟨B+1,1,none⟩=some (.int .i64 l4)) (by kernel_rfl) (by kernel_rfl) ⟨z4,z5,z0,z1,z2,z3⟩ (fun hS=>?_);refine T_t (v:=?_) false true (fun _ h=>h) 0 126 rfl rfl hS ?_ ?_
         rotate_left
         . intro w hSw;obtain⟨h0,h1,h2,h3,h4,h5⟩:=hSw;go_simp;try rfl
         try simp only [Act.put,aS,a0,aN]
         refine T_t (v:=?_) false true (fun _ h=>h) 1 127 rfl rfl hS ?_ ?_
         rotate_left
         . intro w hSw;obtain⟨h0,h1,h2,h3,h4,h5⟩:=hSw;go_simp;try rfl
         try simp only [Act.put,aS,a0,aN]
         refine T_t (v:=?_) false true (fun _ h=>h) 2 128 rfl rfl hS ?_ ?_
         rotate_left
         . intro w hSw;obtain⟨h0,h1,h2,h3,h4,h5⟩:=hSw;go_simp;try rfl
         try simp only [Act.put,aS,a0,aN]
         refine T_t (v:=?_) false true (fun _ h=>h) 3 129 rfl rfl hS ?_ ?_
         rotate_left
         . intro w hSw;obtain⟨h0,h1,h2,h3,h4,h5⟩:=hSw;go_simp;try rfl
         try simp only [Act.put,aS,a0,aN]
         refine T_t (v:=?_) false true (fun _ h=>h) 4 130 rfl rfl hS ?_ ?_
         rotate_left
         . intro w hSw;obtain⟨h0,h1,h2,h3,h4,h5⟩:=hSw;go_simp;try rfl
         try simp only [Act.put,aS,a0,aN]
         refine Z7 (rs:=[5]) (by kernel_rfl) (by simp) ?_;refine AllT.cons' (i:=5) true (by kernel_rfl) rfl (fun K hK=>?_) AllT.nil;go_simp;go_at_call 135;refine (E1.out _ (R5.out.row true j hlt (Nat.le_refl _))).mono ?_;rintro e w6 ⟨rfl,hg6⟩;refine hK.out _ _ (KP1.out _ hg6) (fun hS=>?_);clear hK K;try simp only [Act.put,aS,a0,aN]
         refine T_t (v:=?_) false true (fun _ h=>h) 6 132 rfl rfl hS ?_ ?_
         rotate_left
         . intro w hSw;obtain⟨h0,h1,h2,h3,h4,h5⟩:=hSw;go_simp;try rfl
         try simp only [Act.put,aS,a0,aN]
         refine T_t (v:=?_) false true (fun _ h=>h) 7 133 rfl rfl hS ?_ ?_
         rotate_left
         . intro w hSw;obtain⟨h0,h1,h2,h3,h4,h5⟩:=hSw;go_simp;try rfl
         try simp only [Act.put,aS,a0,aN]
         refine T_s false true (fun _ h=>h) 8 134 rfl rfl hS ?_;try simp only [Act.put,aS,a0,aN]
         refine T_s false true (fun _ h=>h) 9 135 rfl rfl hS ?_;try simp only [Act.put,aS,a0,aN]
         refine T_s false true (fun _ h=>h) 10 136 rfl rfl hS ?_;try simp only [Act.put,aS,a0,aN]
         refine T_s false true (fun _ h=>h) 11 137 rfl rfl hS ?_;try simp only [Act.put,aS,a0,aN]
         refine T_s false true (fun _ h=>h) 12 138 rfl rfl hS ?_;try simp only [Act.put,aS,a0,aN]
         refine T_s false true (fun _ h=>h) 13 139 rfl rfl hS ?_;try simp only [Act.put,aS,a0,aN]
         refine T_s false true (fun _ h=>h) 14 140 rfl rfl hS ?_;try simp only [Act.put,aS,a0,aN]
         refine T_t (v:=?_) false true (fun _ h=>h) 15 141 rfl rfl hS ?_ ?_
         rotate_left
         . intro w hSw;obtain⟨h0,h1,h2,h3,h4,h5⟩:=hSw;go_simp;try rfl
         try simp only [Act.put,aS,a0,aN]
         refine Zip (by kernel_rfl) ?_ _;go_wp2;go_ret;have hf0:=HF2.out;simp only [hv1,Bool.false_and] at hf0;exact⟨by rw [HJP.out hf0];rfl,(HRK.out _ hg6).below⟩
        | true =>
         rw [hv1] at he1;cases hv2:Zbz (lst false j chs) l3 l4 with
         | false =>
          rw [hv2] at he2;have E1:=Lib.hid he1;have E2:=Lib.hid he2;clear he1 he2;refine Zgh 99 16 (fun _=>fun w' => w'.cell? ⟨hb true,j,none⟩=some (Y true j)/\w'.cell? ⟨hb false,j,none⟩=some (Y false j)/\w'.cell? ⟨B,0,none⟩=some (.int .i64 l1)/\w'.cell? ⟨B,1,none⟩=some (.int .i64 l2)/\w'.cell? ⟨B+1,0,none⟩=some (.int .i64 l3)/\w'.cell? ⟨B+1,1,none⟩=some (.int .i64 l4)) (by kernel_rfl) (by kernel_rfl) ⟨z4,z5,z0,z1,z2,z3⟩ (fun hS=>?_);refine T_t (v:=?_) false true (fun _ h=>h) 0 126 rfl rfl hS ?_ ?_
          rotate_left
          . intro w hSw;obtain⟨h0,h1,h2,h3,h4,h5⟩:=hSw;go_simp;try rfl
          try simp only [Act.put,aS,a0,aN]
          refine T_t (v:=?_) false true (fun _ h=>h) 1 127 rfl rfl hS ?_ ?_
          rotate_left
          . intro w hSw;obtain⟨h0,h1,h2,h3,h4,h5⟩:=hSw;go_simp;try rfl
          try simp only [Act.put,aS,a0,aN]
          refine T_t (v:=?_) false true (fun _ h=>h) 2 128 rfl rfl hS ?_ ?_
          rotate_left
          . intro w hSw;obtain⟨h0,h1,h2,h3,h4,h5⟩:=hSw;go_simp;try rfl
          try simp only [Act.put,aS,a0,aN]
          refine T_t (v:=?_) false true (fun _ h=>h) 3 129 rfl rfl hS ?_ ?_
          rotate_left
          . intro w hSw;obtain⟨h0,h1,h2,h3,h4,h5⟩:=hSw;go_simp;try rfl
          try simp only [Act.put,aS,a0,aN]
          refine T_t (v:=?_) false true (fun _ h=>h) 4 130 rfl rfl hS ?_ ?_
          rotate_left
          . intro w hSw;obtain⟨h0,h1,h2,h3,h4,h5⟩:=hSw;go_simp;try rfl
          try simp only [Act.put,aS,a0,aN]
          refine Z7 (rs:=[5]) (by kernel_rfl) (by simp) ?_;refine AllT.cons' (i:=5) true (by kernel_rfl) rfl (fun K hK=>?_) AllT.nil;go_simp;go_at_call 135;refine (E1.out _ (R5.out.row true j hlt (Nat.le_refl _))).mono ?_;rintro e w6 ⟨rfl,hg6⟩;refine hK.out _ _ (KP1.out _ hg6) (fun hS=>?_);clear hK K;try simp only [Act.put,aS,a0,aN]
          refine T_t (v:=?_) false true (fun _ h=>h) 6 132 rfl rfl hS ?_ ?_
          rotate_left
          . intro w hSw;obtain⟨h0,h1,h2,h3,h4,h5⟩:=hSw;go_simp;try rfl
          try simp only [Act.put,aS,a0,aN]
          refine T_t (v:=?_) false true (fun _ h=>h) 7 133 rfl rfl hS ?_ ?_
          rotate_left
          . intro w hSw;obtain⟨h0,h1,h2,h3,h4,h5⟩:=hSw;go_simp;try rfl
          try simp only [Act.put,aS,a0,aN]
          refine T_t (v:=?_) false true (fun _ h=>h) 8 134 rfl rfl hS ?_ ?_
          rotate_left
          . intro w hSw;obtain⟨h0,h1,h2,h3,h4,h5⟩:=hSw;go_simp;try rfl
          try simp only [Act.put,aS,a0,aN]
          refine T_t (v:=?_) false true (fun _ h=>h) 9 135 rfl rfl hS ?_ ?_
          rotate_left
          . intro w hSw;obtain⟨h0,h1,h2,h3,h4,h5⟩:=hSw;go_simp;try rfl
          try simp only [Act.put,aS,a0,aN]
          refine T_t (v:=?_) false true (fun _ h=>h) 10 136 rfl rfl hS ?_ ?_
          rotate_left
          . intro w hSw;obtain⟨h0,h1,h2,h3,h4,h5⟩:=hSw;go_simp;try rfl
          try simp only [Act.put,aS,a0,aN]
          refine T_t (v:=?_) false true (fun _ h=>h) 11 137 rfl rfl hS ?_ ?_
          rotate_left
          . intro w hSw;obtain⟨h0,h1,h2,h3,h4,h5⟩:=hSw;go_simp;try rfl
          try simp only [Act.put,aS,a0,aN]
          refine T_t (v:=?_) false true (fun _ h=>h) 12 138 rfl rfl hS ?_ ?_
          rotate_left
          . intro w hSw;obtain⟨h0,h1,h2,h3,h4,h5⟩:=hSw;go_simp;try rfl
          try simp only [Act.put,aS,a0,aN]
          refine Z7 (rs:=[13]) (by kernel_rfl) (by simp) ?_;refine AllT.cons' (i:=13) true (by kernel_rfl) rfl (fun K hK=>?_) AllT.nil;go_simp;go_at_call 135;refine (E2.out _ (RK.out _ hg6)).mono ?_;rintro e w7 ⟨rfl,hg7⟩;refine hK.out _ _ (KP2.out _ _ hS hg7) (fun hS=>?_);clear hK K;try simp only [Act.put,aS,a0,aN]
          refine T_t (v:=?_) false true (fun _ h=>h) 14 140 rfl rfl hS ?_ ?_
          rotate_left
          . intro w hSw;obtain⟨h0,h1,h2,h3,h4,h5⟩:=hSw;go_simp;try rfl
          try simp only [Act.put,aS,a0,aN]
          refine T_t (v:=?_) false true (fun _ h=>h) 15 141 rfl rfl hS ?_ ?_
          rotate_left
          . intro w hSw;obtain⟨h0,h1,h2,h3,h4,h5⟩:=hSw;go_simp;try rfl
          try simp only [Act.put,aS,a0,aN]
          refine Zip (by kernel_rfl) ?_ _;go_wp2;go_ret;have hf0:=HF2.out;simp only [hv1,hv2,Bool.true_and,Bool.false_and] at hf0;have hl7:=(HRK.out _ hg6).lost (D' := fun b q=>j+1<=q) hlo hlt ⟨Nat.le_refl _,by simp⟩ hg7 (fun b q _ h=>⟨⟨by omega,by omega⟩,by omega⟩);exact⟨by rw [HJP.out hf0];rfl,hl7.below⟩
         | true =>
          rw [hv2] at he2;have E1:=Lib.hid he1;have E2:=Lib.hid he2;clear he1 he2;refine Zgh 99 16 (fun _=>fun w' => w'.cell? ⟨hb true,j,none⟩=some (Y true j)/\w'.cell? ⟨hb false,j,none⟩=some (Y false j)/\w'.cell? ⟨B,0,none⟩=some (.int .i64 l1)/\w'.cell? ⟨B,1,none⟩=some (.int .i64 l2)/\w'.cell? ⟨B+1,0,none⟩=some (.int .i64 l3)/\w'.cell? ⟨B+1,1,none⟩=some (.int .i64 l4)) (by kernel_rfl) (by kernel_rfl) ⟨z4,z5,z0,z1,z2,z3⟩ (fun hS=>?_);refine T_t (v:=?_) false true (fun _ h=>h) 0 126 rfl rfl hS ?_ ?_
          rotate_left
          . intro w hSw;obtain⟨h0,h1,h2,h3,h4,h5⟩:=hSw;go_simp;try rfl
          try simp only [Act.put,aS,a0,aN]
          refine T_t (v:=?_) false true (fun _ h=>h) 1 127 rfl rfl hS ?_ ?_
          rotate_left
          . intro w hSw;obtain⟨h0,h1,h2,h3,h4,h5⟩:=hSw;go_simp;try rfl
          try simp only [Act.put,aS,a0,aN]
          refine T_t (v:=?_) false true (fun _ h=>h) 2 128 rfl rfl hS ?_ ?_
          rotate_left
          . intro w hSw;obtain⟨h0,h1,h2,h3,h4,h5⟩:=hSw;go_simp;try rfl
          try simp only [Act.put,aS,a0,aN]
          refine T_t (v:=?_) false true (fun _ h=>h) 3 129 rfl rfl hS ?_ ?_
          rotate_left
          . intro w hSw;obtain⟨h0,h1,h2,h3,h4,h5⟩:=hSw;go_simp;try rfl
          try simp only [Act.put,aS,a0,aN]
          refine T_t (v:=?_) false true (fun _ h=>h) 4 130 rfl rfl hS ?_ ?_
          rotate_left
          . intro w hSw;obtain⟨h0,h1,h2,h3,h4,h5⟩:=hSw;go_simp;try rfl
          try simp only [Act.put,aS,a0,aN]
          refine Z7 (rs:=[5]) (by kernel_rfl) (by simp) ?_;refine AllT.cons' (i:=5) true (by kernel_rfl) rfl (fun K hK=>?_) AllT.nil;go_simp;go_at_call 135;refine (E1.out _ (R5.out.row true j hlt (Nat.le_refl _))).mono ?_;rintro e w6 ⟨rfl,hg6⟩;refine hK.out _ _ (KP1.out _ hg6) (fun hS=>?_);clear hK K;try simp only [Act.put,aS,a0,aN]
          refine T_t (v:=?_) false true (fun _ h=>h) 6 132 rfl rfl hS ?_ ?_
          rotate_left
          . intro w hSw;obtain⟨h0,h1,h2,h3,h4,h5⟩:=hSw;go_simp;try rfl
          try simp only [Act.put,aS,a0,aN]
          refine T_t (v:=?_) false true (fun _ h=>h) 7 133 rfl rfl hS ?_ ?_
          rotate_left
          . intro w hSw;obtain⟨h0,h1,h2,h3,h4,h5⟩:=hSw;go_simp;try rfl
          try simp only [Act.put,aS,a0,aN]
          refine T_t (v:=?_) false true (fun _ h=>h) 8 134 rfl rfl hS ?_ ?_
          rotate_left
          . intro w hSw;obtain⟨h0,h1,h2,h3,h4,h5⟩:=hSw;go_simp;try rfl
          try simp only [Act.put,aS,a0,aN]
          refine T_t (v:=?_) false true (fun _ h=>h) 9 135 rfl rfl hS ?_ ?_
          rotate_left
          . intro w hSw;obtain⟨h0,h1,h2,h3,h4,h5⟩:=hSw;go_simp;try rfl
          try simp only [Act.put,aS,a0,aN]
          refine T_t (v:=?_) false true (fun _ h=>h) 10 136 rfl rfl hS ?_ ?_
          rotate_left
          . intro w hSw;obtain⟨h0,h1,h2,h3,h4,h5⟩:=hSw;go_simp;try rfl
          try simp only [Act.put,aS,a0,aN]
          refine T_t (v:=?_) false true (fun _ h=>h) 11 137 rfl rfl hS ?_ ?_
          rotate_left
          . intro w hSw;obtain⟨h0,h1,h2,h3,h4,h5⟩:=hSw;go_simp;try rfl
          try simp only [Act.put,aS,a0,aN]
          refine T_t (v:=?_) false true (fun _ h=>h) 12 138 rfl rfl hS ?_ ?_
          rotate_left
          . intro w hSw;obtain⟨h0,h1,h2,h3,h4,h5⟩:=hSw;go_simp;try rfl
          try simp only [Act.put,aS,a0,aN]
          refine Z7 (rs:=[13]) (by kernel_rfl) (by simp) ?_;refine AllT.cons' (i:=13) true (by kernel_rfl) rfl (fun K hK=>?_) AllT.nil;go_simp;go_at_call 135;refine (E2.out _ (RK.out _ hg6)).mono ?_;rintro e w7 ⟨rfl,hg7⟩;refine hK.out _ _ (KP2.out _ _ hS hg7) (fun hS=>?_);clear hK K;try simp only [Act.put,aS,a0,aN]
          refine T_t (v:=?_) false true (fun _ h=>h) 14 140 rfl rfl hS ?_ ?_
          rotate_left
          . intro w hSw;obtain⟨h0,h1,h2,h3,h4,h5⟩:=hSw;go_simp;try rfl
          try simp only [Act.put,aS,a0,aN]
          refine T_t (v:=?_) false true (fun _ h=>h) 15 141 rfl rfl hS ?_ ?_
          rotate_left
          . intro w hSw;obtain⟨h0,h1,h2,h3,h4,h5⟩:=hSw;go_simp;try rfl
          try simp only [Act.put,aS,a0,aN]
          refine Zip (by kernel_rfl) ?_ _;have hl7:=(HRK.out _ hg6).lost (D' := fun b q=>j+1<=q) hlo hlt ⟨Nat.le_refl _,by simp⟩ hg7 (fun b q _ h=>⟨⟨by omega,by omega⟩,by omega⟩);have HL7:=Lib.hid hl7;have hf0:=HF2.out;simp only [hv1,hv2,Bool.true_and] at hf0;have HF0:=Lib.hid hf0;clear hl7 hf0 z0 z1 z2 z3 z4 z5 hS hg6 hg7;go_wp2;go_roundw
          case rel=>exact⟨j+1,by omega,by go_num,HL7.out,HF0.out⟩
          case measure=>simp [RowKit.intOf];omega
      . have hje:j=n1:=by omega
        subst hje;go_wp2;go_ret;have:Zaq ops chs=true:=by rw [Zaq,<- HO.out.1,HCK.out,HFIN.out,HO.out.1,List.drop_length];rfl
        exact⟨by rw [this];rfl,HL3.out.below⟩
end Tj
