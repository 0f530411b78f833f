import Derived.Test.YtlnihcefchoofaaGreatDoorDWJ2
import Derived.Deep.CutRange
set_option linter.all false
namespace Tj
open Go Go.RowKit Go.Proofs
def zro:Bool->Nat->Value:=λ_ _=>.slice none 0 0
structure St(w wr:World) (o:Obj) (n1:Nat) (hb:Bool->Nat):Prop where
 ne:hb true≠hb false
 lo:∀b,w.heap.size<hb b/\hb b<w.heap.size+3
 below:Below w.heap.size w wr
 arg:wr.heap[w.heap.size]? = some o
 size:w.heap.size+3<=wr.heap.size
 heads:Hds n1 hb zro wr
theorem start(w:World)(o:Obj)(n1:Nat)(hb:Bool->Nat)(h:hb true=w.heap.size+1/\hb false=w.heap.size+2∨hb true=w.heap.size+2/\hb false=w.heap.size+1) :
    St w (((w.alloc o).alloc (.cells (madeCells #[.slice none 0 0] n1) 23)).alloc (.cells (madeCells #[.slice none 0 0] n1) 23)).drew o n1 hb:=by
  have r1:=World.rowIs_made (w.alloc o) (.slice none 0 0) n1 23;have r2:=World.rowIs_made ((w.alloc o).alloc (.cells (madeCells #[.slice none 0 0] n1) 23)) (.slice none 0 0) n1 23;simp only[World.size_alloc]at r1 r2;have r1' := (r1.alloc (.cells (madeCells #[.slice none 0 0] n1) 23)).drew;refine⟨?_,λb=>?_,?_,?_,?_,λb=>?_⟩;rcases h with h|h<;>rw[h.1,h.2]<;>omega
  cases b<;>rcases h with h|h<;>simp only[h.1,h.2]<;>omega
  exact((((Below.refl _ _).alloc (Nat.le_refl _) _).alloc (by simp) _).alloc (by simp;omega) _).drew;exact Xn _ (Xn _ (heap_alloc_new w o) (by simp)) (by simp;omega);show w.heap.size+3<=(((w.alloc o).alloc _).alloc _).heap.size;simp;cases b<;>rcases h with h|h
  rw[h.2];exact r2.drew;rw[h.2];exact r1';rw[h.1];exact r1';rw[h.1];exact r2.drew
structure L1(w wr:World) (o:Obj) (n1:Nat) (hb:Bool->Nat) (chs:List Chn) (k:Nat) (Y:Bool->Nat->Value):Prop where
 below:Below w.heap.size w wr
 arg:wr.heap[w.heap.size]? = some o
 heads:Hds n1 hb Y wr
 rows:Rws (w.heap.size+3) n1 (λ_ _=>True) Y (λb j=>lst b j (chs.take k)) wr
variable {wr:World}{o:Obj}{n1:Nat}{hb:Bool->Nat}
theorem St.l1{w: World}{chs:List Chn}(h:St w wr o n1 hb):L1 w wr o n1 hb chs 0 zro:=by
 refine⟨h.below,h.arg,h.heads,⟨λb j _ _=>?_,λb j b' j' g _ _ hg _=>?_,h.size⟩⟩;simpa[lst,zro]using World.ownsRow_nil wr (w.heap.size+3) 3 1;cases hg
variable {k:Nat}{Y:Bool->Nat->Value}
theorem L1.alloc{w: World}{chs:List Chn}(h:L1 w wr o n1 hb chs k Y)(o' : Obj):L1 w (wr.alloc o') o n1 hb chs k Y:=⟨h.below.alloc (Nat.le_trans (by omega) h.rows.size) _,Xn _ h.arg (Nat.lt_of_lt_of_le (by omega) h.rows.size),h.heads.alloc _,h.rows.alloc _⟩
structure Cv(w:World) (B:Nat) (c:Chn):Prop where
 c0:w.cell? ⟨B,0,none⟩=some (.int .i64 c.1)
 c1:w.cell? ⟨B,1,none⟩=some (.int .i64 c.2.1)
 c2:w.cell? ⟨B,2,none⟩=some (.int .i64 c.2.2.1)
 c3:w.cell? ⟨B,3,none⟩=some (.int .i64 c.2.2.2.1)
variable {B:Nat}
theorem Cv.drew{w:World}{c:Chn}(h:Cv w B c):Cv w.drew B c:=⟨h.c0,h.c1,h.c2,h.c3⟩
theorem Yvn(w:World)(c p:Chn):Cv ((w.alloc (.cells (chC c).toArray 88)).alloc (.cells (chC p).toArray 88)) w.heap.size c/\Cv ((w.alloc (.cells (chC c).toArray 88)).alloc (.cells (chC p).toArray 88)) (w.heap.size+1) p:=by have h1:((w.alloc (.cells (chC c).toArray 88)).alloc (.cells (chC p).toArray 88)).heap[w.heap.size]? = some (.cells (chC c).toArray 88 (0,0)):=Xn _ (heap_alloc_new w _) (by simp);have h2:=Zbh w (.cells (chC c).toArray 88) (.cells (chC p).toArray 88);exact⟨⟨(Yc h1 rfl).1,(Yc h1 rfl).1,(Yc h1 rfl).1,(Yc h1 rfl).1⟩,⟨(Yc h2 rfl).1,(Yc h2 rfl).1,(Yc h2 rfl).1,(Yc h2 rfl).1⟩⟩
variable {a:Option Addr}{n:Nat}
theorem SlAt.five{w: World}{chs:List Chn}{c:Chn}(h:SlAt w 5 chC a n chs)(hk:chs[k]? = some c)(hbw:Below w.heap.size w wr):∃b,a=some b/\b.block<w.heap.size /\
    wr.cell? (b.add (k*5))=some (.int .i64 c.1)/\wr.cell? ⟨(b.add (k*5)).block,(b.add (k*5)).off+1,none⟩=some (.int .i64 c.2.1)/\wr.cell? ⟨(b.add (k*5)).block,(b.add (k*5)).off+2,none⟩=some (.int .i64 c.2.2.1)/\wr.cell? ⟨(b.add (k*5)).block,(b.add (k*5)).off+3,none⟩=some (.int .i64 c.2.2.2.1)/\wr.cell? ⟨(b.add (k*5)).block,(b.add (k*5)).off+4,none⟩=some (.int .i64 c.2.2.2.2.1):=by
  obtain⟨b1,rfl,hb1,hcell⟩:=h.2 k c hk;have G0:=(hbw.cell (p:=b1.add (k*5+0)) (by rw[Zc];exact hb1)).trans (hcell 0 _ rfl);rw[Nat.add_zero]at G0;have G1:=(hbw.cell (p:=b1.add (k*5+1)) (by rw[Zc];exact hb1)).trans (hcell 1 _ rfl);rw[show k*5+1=k*5+(0+1) from rfl,Zi9]at G1;have G2:=(hbw.cell (p:=b1.add (k*5+2)) (by rw[Zc];exact hb1)).trans (hcell 2 _ rfl);rw[show k*5+2=k*5+(1+1) from rfl,Zi9]at G2;have G3:=(hbw.cell (p:=b1.add (k*5+3)) (by rw[Zc];exact hb1)).trans (hcell 3 _ rfl);rw[show k*5+3=k*5+(2+1) from rfl,Zi9]at G3;have G4:=(hbw.cell (p:=b1.add (k*5+4)) (by rw[Zc];exact hb1)).trans (hcell 4 _ rfl);rw[show k*5+4=k*5+(3+1) from rfl,Zi9]at G4;exact⟨b1,rfl,hb1,G0,G1,G2,G3,G4⟩
theorem SlAt.cell5{w: World}{b:Addr}{chs:List Chn}{c:Chn}(h:SlAt w 5 chC (some b) n chs)(hk:chs[k]? = some c)(hbw:∀o,Below w.heap.size w (wr.alloc o))(m:Nat)(hm:m=k*5) :
    (∀o,(wr.alloc o).cell? (b.add m)=some (.int .i64 c.1))/\(∀o,(wr.alloc o).cell? ⟨(b.add m).block,(b.add m).off+1,none⟩=some (.int .i64 c.2.1))/\(∀o,(wr.alloc o).cell? ⟨(b.add m).block,(b.add m).off+2,none⟩=some (.int .i64 c.2.2.1))/\(∀o,(wr.alloc o).cell? ⟨(b.add m).block,(b.add m).off+3,none⟩=some (.int .i64 c.2.2.2.1))/\(∀o,(wr.alloc o).cell? ⟨(b.add m).block,(b.add m).off+4,none⟩=some (.int .i64 c.2.2.2.2.1)):=by
  subst hm;refine⟨λo=>?_,λo=>?_,λo=>?_,λo=>?_,λo=>?_⟩<;>obtain⟨b',e,_,g0,g1,g2,g3,g4⟩:=h.five hk (hbw o)<;>cases e<;>assumption
def SS(B:Nat)(c:Chn)(p1 p2:Addr)(v1 v2:Value):Bool->World->Prop|false,w=>Cv w B c/\w.cell? p1=some v1/\w.cell? p2=some v2|true,w=>Cv w B c
variable {p1 p2:Addr}{v1:Value}
theorem SS.weak{c:Chn}{v2: Value}(w:World)(h:SS B c p1 p2 v1 v2 false w):SS B c p1 p2 v1 v2 true w:=h.1
theorem Ygs(b:Bool)(j:Nat)(l:List Chn):(lst b j l).length<=l.length:=List.length_filterMap_le _ _
theorem Zhb(b:Bool)(j k:Nat)(l:List Chn)(h:l.length<=120):(lst b j (l.take k)).length+1<=maxLen/\((lst b j (l.take k)).length+1)*8<=140737488355328:=by
 have h1:=Ygs b j (l.take k);have h2:(l.take k).length<=120:=by rw[List.length_take];omega
 unfold maxLen;omega
theorem Yvo:∃i0,Tryz.prog.info? 3=some i0/\i0.zero=some (.int .i64 0)/\i0.size=1/\i0.bytes=8:=by have h:=info3;rw[Option.map_eq_some_iff]at h;obtain⟨i0,h1,h2⟩:=h;simp only[Prod.mk.injEq]at h2;exact⟨i0,h1,h2.1,h2.2.1,h2.2.2⟩
variable {b:Bool}{w':World}
theorem SS.keep{c:Chn}{v2: Value}{w: World}(h:SS B c p1 p2 v1 v2 b w)(hk:∀a v,(a.block=B∨a.block=p1.block∨a.block=p2.block)->w.cell? a=some v->w'.cell? a=some v):SS B c p1 p2 v1 v2 b w' := by have key:Cv w B c->Cv w' B c:=λg=>⟨hk _ _ (.inl rfl) g.c0,hk _ _ (.inl rfl) g.c1,hk _ _ (.inl rfl) g.c2,hk _ _ (.inl rfl) g.c3⟩;cases b with|false=>exact⟨key h.1,hk _ _ (.inr (.inl rfl)) h.2.1,hk _ _ (.inr (.inr rfl)) h.2.2⟩|true=>exact key h
theorem SS.store{c:Chn}{v2: Value}{w:World}(h:SS B c p1 p2 v1 v2 true w)(p:Addr)(v:Value)(hp:p.block≠B):SS B c p1 p2 v1 v2 true (w.setCell p v):=by have g:Cv w B c:=h;exact⟨by rw[World.cell?_setCell_far _ _ _ _ (by exact hp)];exact g.c0,by rw[World.cell?_setCell_far _ _ _ _ (by exact hp)];exact g.c1,by rw[World.cell?_setCell_far _ _ _ _ (by exact hp)];exact g.c2,by rw[World.cell?_setCell_far _ _ _ _ (by exact hp)];exact g.c3⟩
theorem SS.alloc{c:Chn}{v2: Value}{w:World}(h:SS B c p1 p2 v1 v2 b w)(o:Obj):SS B c p1 p2 v1 v2 b (w.alloc o):=h.keep λa v _ hv=>by rw[World.cell?_alloc_lt _ _ _ (World.block_lt_of_cell? w a hv)];exact hv
theorem SS.grown{c:Chn}{v2: Value}{w: World}{r:Option Nat}(h:SS B c p1 p2 v1 v2 b w)(hg:w.grownBy w' r)(hr:∀g,r=some g->g≠B/\g≠p1.block/\g≠p2.block):SS B c p1 p2 v1 v2 b w' := h.keep λa v ha hv=>by rw[hg.cell_far a (World.block_lt_of_cell? w a hv) (λe=>by have:=hr _ e.symm;omega)];exact hv
structure Md(w W:World) (o:Obj) (n1:Nat) (hb:Bool->Nat) (Y Z:Bool->Nat->Value) (C:Bool->Nat->List Int):Prop where
 below:Below w.heap.size w W
 arg:W.heap[w.heap.size]? = some o
 heads:Hds n1 hb Y W
 rows:Rws (w.heap.size+3) n1 (λ_ _=>True) Z C W
variable {W:World}{Z:Bool->Nat->Value}{C:Bool->Nat->List Int}
theorem Md.alloc{w: World}(h:Md w W o n1 hb Y Z C)(o' : Obj):Md w (W.alloc o') o n1 hb Y Z C:=⟨h.below.alloc (Nat.le_trans (by omega) h.rows.size) _,Xn _ h.arg (Nat.lt_of_lt_of_le (by omega) h.rows.size),h.heads.alloc _,h.rows.alloc _⟩
variable {b0:Bool}{j0:Nat}
theorem Md.append{w W': World}(h:Md w W o n1 hb Y Z C)(hlo:∀b,w.heap.size<hb b/\hb b<w.heap.size+3)(h0:j0<n1){x:Int}{g cap m H:Nat}(hm:m=(C b0 j0).length+1)
    (hown:W'.ownsRow (w.heap.size+3) 3 1 (.slice (some ⟨g,0,none⟩) m cap) m ((C b0 j0).map (.int .i64)++[.int .i64 x])) (hg:W.grownBy W' (Z b0 j0).ownBlock) (hat:(Z b0 j0).ownBlock=some g∨g=H) (hH:W.heap.size=H) :
    Md w W' o n1 hb Y (upd Z b0 j0 (.slice (some ⟨g,0,none⟩) m cap)) (upd C b0 j0 (C b0 j0++[x])):=by
  have hr:∀q,(Z b0 j0).ownBlock=some q->w.heap.size+3<=q:=λq hq=>(Zpi (h.rows.row b0 j0 h0 trivial) hq).1;have hsz:=h.rows.size;refine⟨h.below.grown hg (by omega) (λq hq=>by have:=hr q hq;omega),?_,h.heads.kept hg (λb e=>by have:=hr _ e.symm;have:=hlo b;omega),h.rows.append h0 (λ_ _ _=>trivial) hm hown hg hat (by omega)⟩;rw[hg.block _ (by omega) (λe=>by have:=hr _ e.symm;omega)];exact h.arg
theorem L1.md{w: World}{chs:List Chn}(h:L1 w wr o n1 hb chs k Y):Md w wr o n1 hb Y Y (λb j=>lst b j (chs.take k)):=⟨h.below,h.arg,h.heads,h.rows⟩
theorem Md.drew{w: World}(h:Md w W o n1 hb Y Z C):Md w W.drew o n1 hb Y Z C:=⟨h.below.drew,h.arg,h.heads.drew,h.rows.drew⟩
theorem Md.done{w: World}{chs:List Chn}{F T: Nat}{v2: Value}{xo xi rm:Int}{u:Unit}(h:Md w W o n1 hb Y (upd (upd Y true T v1) false F v2) (upd (upd (λb j=>lst b j (chs.take k)) true T (lst true T (chs.take k)++[xi])) false F (lst false F (chs.take k)++[xo])))
    (hne:hb true≠hb false) (hlo:∀b,w.heap.size<hb b/\hb b<w.heap.size+3) (hc:chs[k]? = some ((F:Int),xo,(T:Int),xi,rm,u)) :
    L1 w ((W.setCell ⟨hb true,T,none⟩ v1).setCell ⟨hb false,F,none⟩ v2) o n1 hb chs (k+1) (upd (upd Y true T v1) false F v2):=by
  have e:chs.take (k+1)=chs.take k++[((F:Int),xo,(T:Int),xi,rm,u)]:=by rw[List.take_add_one,hc];rfl
  have l1:=hlo true;have l2:=hlo false;refine⟨?_,?_,(h.heads.store hne true T v1).store hne false F v2,?_⟩;exact Below.setCell (Below.setCell h.below (p:=⟨hb true,T,none⟩) (by show w.heap.size<=hb true;omega) v1) (p:=⟨hb false,F,none⟩) (by show w.heap.size<=hb false;omega) v2;rw[Deep.blk_setCell_other _ _ _ _ (by show w.heap.size≠hb false;omega),Deep.blk_setCell_other _ _ _ _ (by show w.heap.size≠hb true;omega)];exact h.arg;rw[e,Ylz _ _ T F rfl rfl];exact(h.rows.store ⟨hb true,T,none⟩ (by show hb true<_;omega) _).store ⟨hb false,F,none⟩ (by show hb false<_;omega) _
theorem SlAt.two{w: World}{ops:List Opr}{c:Opr}(h:SlAt w 2 opC a n ops)(hk:ops[k]? = some c)(hbw:Below w.heap.size w wr):∃b,a=some b/\b.block<w.heap.size /\
    wr.cell? (b.add (k*2))=some (.int .u8 c.1)/\wr.cell? ⟨(b.add (k*2)).block,(b.add (k*2)).off+1,none⟩=some (.int .i64 c.2.1):=by
  obtain⟨b1,rfl,hb1,hcell⟩:=h.2 k c hk;have G0:=(hbw.cell (p:=b1.add (k*2+0)) (by rw[Zc];exact hb1)).trans (hcell 0 _ rfl);rw[Nat.add_zero]at G0;have G1:=(hbw.cell (p:=b1.add (k*2+1)) (by rw[Zc];exact hb1)).trans (hcell 1 _ rfl);rw[show k*2+1=k*2+(0+1) from rfl,Zi9]at G1;exact⟨b1,rfl,hb1,G0,G1⟩
structure L2(w wr:World) (o:Obj) (n1:Nat) (hb:Bool->Nat) (chs:List Chn) (D:Bool->Nat->Prop) (Y:Bool->Nat->Value):Prop where
 below:Below w.heap.size w wr
 arg:wr.heap[w.heap.size]? = some o
 heads:Hds n1 hb Y wr
 rows:Rws (w.heap.size+3) n1 D Y (λb j=>lst b j chs) wr
theorem below_grown{w: World}(h:Below w.heap.size w w'):w.grownBy w' none:=⟨h.os,h.tape,h.output,h.size,λk hk _=>h.block k hk⟩
variable {D:Bool->Nat->Prop}
theorem L2.kept{w: World}{chs:List Chn}(h:L2 w wr o n1 hb chs D Y)(hg:wr.grownBy w' none):L2 w w' o n1 hb chs D Y:=by have hsz:=h.rows.size;refine⟨h.below.grown hg (by omega) (λk hk=>by cases hk),?_,h.heads.kept hg (λb e=>by cases e),h.rows.kept hg⟩;rw[hg.block _ (by omega) (by simp)];exact h.arg
theorem L2.drew{w: World}{chs:List Chn}(h:L2 w wr o n1 hb chs D Y):L2 w wr.drew o n1 hb chs D Y:=⟨h.below.drew,h.arg,h.heads.drew,h.rows.drew⟩
theorem L2.lost{w: World}{chs:List Chn}{D': Bool->Nat->Prop}(h:L2 w wr o n1 hb chs D Y)(hlo:∀b,w.heap.size<hb b/\hb b<w.heap.size+3)(h0:j0<n1)(hl:D b0 j0)(hg:wr.grownBy w' (Y b0 j0).ownBlock)(hd:∀b j,j<n1->D' b j->D b j/\¬(b=b0/\j=j0)):L2 w w' o n1 hb chs D' Y:=by have hr:∀q,(Y b0 j0).ownBlock=some q->w.heap.size+3<=q:=λq hq=>(Zpi (h.rows.row b0 j0 h0 hl) hq).1;have hsz:=h.rows.size;refine⟨h.below.grown hg (by omega) (λq hq=>by have:=hr q hq;omega),?_,h.heads.kept hg (λb e=>by have:=hr _ e.symm;have:=hlo b;omega),h.rows.lost h0 hg hd⟩;rw[hg.block _ (by omega) (λe=>by have:=hr _ e.symm;omega)];exact h.arg
theorem L1.l2{w: World}{chs:List Chn}(h:L1 w wr o n1 hb chs chs.length Y):L2 w wr o n1 hb chs (λ_ q=>0<=q) Y:=⟨h.below,h.arg,h.heads,by have:=h.rows;rw[List.take_length]at this;exact this.less λ_ _ _ _=>trivial⟩
theorem Yl0(chs:List Chn)(j:Nat)(o:Opr)(l:List Opr):fin chs j (o::l)=(Zbn (lst true j chs) (bnd o.1).1 (bnd o.1).2.1&&(Zbn (lst false j chs) (bnd o.1).2.2.1 (bnd o.1).2.2.2&&fin chs (j+1) l)):=rfl
set_option maxRecDepth 100000 in
set_option maxHeartbeats 16000000 in
theorem Ych(a1 a2:Option Addr)(n1 n2 c1 c2:Nat)(ops:List Opr)(chs:List Chn)(w:World)(h1:n1<=30)(h2:n2<=120)(ho:SlAt w 2 opC a1 n1 ops)(hc:SlAt w 5 chC a2 n2 chs):Calls Tryz.prog 59 #[.agg #[.slice a1 n1 c1,.slice a2 n2 c2]] w λe w' => e = .returned (.bool (Zai ops chs))/\Below w.heap.size w w' := by
 have hmk:=λn h1 h2=>run_make_row' (P:=Tryz.prog) 198 23 (.slice none 0 0) 24 Tryz.underlying198 Yr3 rfl .i64 .i64 n h1 h2;have hmk1:=hmk n1 (by omega) (by omega);clear hmk;have HO:=Lib.hid ho;have HC:=Lib.hid hc;clear ho hc;have hx0:=(Yc (heap_alloc_new w (.cells #[.slice a1 n1 c1,.slice a2 n2 c2] 31)) (j:=0) rfl).1;have hx1:=(Yc (heap_alloc_new w (.cells #[.slice a1 n1 c1,.slice a2 n2 c2] 31)) (j:=1) rfl).1;go_enter Tryz.func59,Tryz.ntmps59;go_wp2;go_cut[3,4] from 12 to 19 (λs3 s4 wr=>∃hb:Bool->Nat,s3 = .slice (some ⟨hb true,0,none⟩) n1 n1/\s4 = .slice (some ⟨hb false,0,none⟩) n1 n1/\St w wr (.cells #[.slice a1 n1 c1,.slice a2 n2 c2] 31) n1 hb)
 case first =>
  go_region_held3(λw' => w'.cell? ⟨w.heap.size,0,none⟩=some (.slice a1 n1 c1)) (go_keep) (fail);all_goals
   (go_wp2
    go_meet;first
     |exact⟨λb=>cond b (w.heap.size+1) (w.heap.size+2),rfl,rfl,start _ _ _ _ (.inl ⟨rfl,rfl⟩)⟩|exact⟨λb=>cond b (w.heap.size+2) (w.heap.size+1),rfl,rfl,start _ _ _ _ (.inr ⟨rfl,rfl⟩)⟩)
 case rest =>
  obtain⟨hb,rfl,rfl,hst⟩:=hcut;have hne:=hst.ne;have hlo:=hst.lo;have hbx:=hst.arg;have x1:wc.cell? ⟨w.heap.size,1,none⟩=some (.slice a2 n2 c2):=(Yc hbx rfl).1;have x0:wc.cell? ⟨w.heap.size,0,none⟩=some (.slice a1 n1 c1):=(Yc hbx rfl).1;have HST:=Lib.hid hst;clear hst hbx hx0 hx1 hmk1;go_wp2;clear x0 x1;go_loopw[23] (λi wr=>∃(k:Nat) (Y:Bool->Nat->Value),k<=n2/\i = .int .i64 k/\L1 w wr (.cells #[.slice a1 n1 c1,.slice a2 n2 c2] 31) n1 hb chs k Y/\chk n1 none chs=chk n1 (if k=0 then none else chs[k-1]?) (chs.drop k)) (λi _=>n2-(RowKit.intOf i).toNat)
  case atStart=>exact⟨0,zro,Nat.zero_le _,rfl,HST.out.l1,rfl⟩
  case round =>
   obtain⟨k,Y,hk,rfl,hl1,hchk⟩:=hrel;have HL:=Lib.hid hl1;have HK:=Lib.hid hchk;clear hl1 hchk;by_cases hlt:k<n2
   . obtain⟨c,hck⟩:∃c,chs[k]? = some c:=⟨_,List.getElem?_eq_getElem (by rw[<- HC.out.1];exact hlt)⟩;obtain⟨b2,rfl,hb2,G0,G1,G2,G3,G4⟩:=HC.out.five hck HL.out.below;obtain⟨f,xo,t,xi,rm,u⟩:=c;have HCK:=Lib.hid hck;clear hck;simp only at G0 G1 G2 G3 G4;have harg:=Yc HL.out.arg (j:=0) rfl;have x0:=harg.2.1;have x1:=(Yc HL.out.arg (j:=1) rfl).2.1;have hbw1:∀o,Below w.heap.size w (wr.alloc o):=λo=>HL.out.below.alloc (Nat.le_trans (by omega) HL.out.rows.size) o;have HB1:=Lib.hid hbw1;have hn1:=HO.out.1;have HN1:=Lib.hid hn1;clear harg hbw1 hn1;by_cases e1:min f t<0
     . go_wp2;go_ret;exact⟨by rw[Z49 HN1.out HK.out HCK.out (by simp[okC];omega)];rfl,HB1.out _⟩
     by_cases e2:(n1:Int)<=max f t
     . go_wp2;go_ret;exact⟨by rw[Z49 HN1.out HK.out HCK.out (by simp[okC];omega)];rfl,HB1.out _⟩
     by_cases e3:rm<1
     . go_wp2;go_ret;exact⟨by rw[Z49 HN1.out HK.out HCK.out (by simp[okC];omega)];rfl,HB1.out _⟩
     by_cases e4:8<rm
     . go_wp2;go_ret;exact⟨by rw[Z49 HN1.out HK.out HCK.out (by simp[okC];omega)];rfl,HB1.out _⟩
     have hok:okC n1 (f,xo,t,xi,rm,u)=true:=by simp[okC];omega
     have HOK:=Lib.hid hok;clear hok;go_upto_region 7 with fail
     go_cut[7] from 55 to 61 (λs7 wx=>s7 = .pointer (some ⟨wr.heap.size+1,0,none⟩) /\ ∃p:Chn,wx=(wr.alloc (.cells (chC (f,xo,t,xi,rm,u)).toArray 88)).alloc (.cells (chC p).toArray 88)/\(k=0∨chs[k-1]? = some p))
     case first => cases k with|zero=>obtain⟨P0,P1,P2,P3,P4⟩:=HC.out.cell5 HCK.out HB1.out ((max (0:Int) (-1)).toNat*5) rfl;go_wp2;go_meet;exact⟨rfl,(f,xo,t,xi,rm,u),rfl,by first|exact .inl rfl|exact .inl trivial⟩|succ q=>obtain⟨p,hp⟩:∃p,chs[q]? = some p:=⟨_,List.getElem?_eq_getElem (by rw[<- HC.out.1];omega)⟩;obtain⟨P0,P1,P2,P3,P4⟩:=HC.out.cell5 hp HB1.out (q*5) rfl;have HP:=Lib.hid hp;clear hp;go_wp2;go_meet;exact⟨rfl,p,rfl,.inr HP.out⟩
     case rest =>
      obtain⟨rfl,p,rfl,hp⟩:=hcut;obtain⟨pf,po,pt,pi,pr,pu⟩:=p;have HP:=Lib.hid hp;clear hp;have hl2:=(HL.out.alloc (.cells (chC (f,xo,t,xi,rm,u)).toArray 88)).alloc (.cells (chC (pf,po,pt,pi,pr,pu)).toArray 88);have hcv:=Yvn wr (f,xo,t,xi,rm,u) (pf,po,pt,pi,pr,pu);obtain⟨w2,hw2⟩:∃w2,w2=(wr.alloc (.cells (chC (f,xo,t,xi,rm,u)).toArray 88)).alloc (.cells (chC (pf,po,pt,pi,pr,pu)).toArray 88):=⟨_,rfl⟩;have hs2:w2.heap.size=wr.heap.size+2:=by rw[hw2];simp
      rw[<- hw2]at hl2 hcv ⊢;clear hw2;obtain⟨cv,pv⟩:=hcv;have HL2:=Lib.hid hl2;have HS2:=Lib.hid hs2;have p0:=pv.c0;have p1:=pv.c1;have v0:=cv.c0;have v1:=cv.c1;simp only at p0 p1 v0 v1;have HCV:=Lib.hid cv;clear hl2 cv pv hs2;go_upto_region 8 with fail
      go_cut[84] from 62 to 83 (λs84 wx=>s84 = .bool (decide (0<k) && !inc (pf,po,pt,pi,pr,pu) (f,xo,t,xi,rm,u))/\wx=w2)
      case first =>
       by_cases hk0:k=0
       . subst hk0;go_wp2;go_meet;exact⟨by simp,by first|rfl|trivial⟩
       . have hk1:0<k:=by omega
         by_cases q1:f<pf
         . go_wp2;go_meet;have e1:inc (pf,po,pt,pi,pr,pu) (f,xo,t,xi,rm,u)=false:=by simp[inc];omega
           exact⟨by simp[e1,hk1],by first|rfl|trivial⟩
         . by_cases q2:pf=f
           . subst q2;by_cases q3:xo<=po
             . go_wp2;go_meet;have e1:inc (pf,po,pt,pi,pr,pu) (pf,xo,t,xi,rm,u)=false:=by simp[inc];omega
               exact⟨by simp[e1,hk1],by first|rfl|trivial⟩
             . go_wp2;go_meet;have e1:inc (pf,po,pt,pi,pr,pu) (pf,xo,t,xi,rm,u)=true:=by simp[inc];omega
               exact⟨by simp[e1],by first|rfl|trivial⟩
           . have q4:(pf==f)=false:=by simpa using q2
             go_wp2;go_meet;have e1:inc (pf,po,pt,pi,pr,pu) (f,xo,t,xi,rm,u)=true:=by simp[inc];omega
             exact⟨by simp[e1],by first|rfl|trivial⟩
      case rest =>
       obtain⟨rfl,rfl⟩:=hcut;cases hbad:(decide (0<k) && !inc (pf,po,pt,pi,pr,pu) (f,xo,t,xi,rm,u))with
       |true=>rw[Bool.and_eq_true,decide_eq_true_eq]at hbad;obtain⟨hk0,hin⟩:=hbad;go_wp2;go_ret;have hkk:=HK.out;rw[if_neg (by omega),HP.out.resolve_left (by omega)]at hkk;exact⟨by rw[Yr7 HN1.out hkk HCK.out (by simpa using hin)];rfl,HL2.out.below⟩|false =>
        have hnext:chk n1 none chs=chk n1 (if k+1=0 then none else chs[k+1-1]?) (chs.drop (k+1)):=by
         rw[if_neg (by omega),Nat.add_sub_cancel,HCK.out];refine good_step HK.out HCK.out HOK.out λq hq=>?_;by_cases hk0:k=0;rw[if_pos hk0]at hq;cases hq;rw[if_neg hk0,HP.out.resolve_left hk0]at hq;obtain rfl:=Option.some.inj hq;have hk1:0<k:=by omega
         simpa[hk1]using hbad
        have HNX:=Lib.hid hnext;clear hnext hbad p0 p1;obtain⟨F,rfl⟩:∃F:Nat,f=(F:Int):=⟨f.toNat,by omega⟩;obtain⟨T,rfl⟩:∃T:Nat,t=(T:Int):=⟨t.toNat,by omega⟩;have hF:F<n1:=by omega
        have hT:T<n1:=by omega
        have hT0:(0:Int)<=T:=by omega
        have hF0:(0:Int)<=F:=by omega
        have hTz:(T:Int)<n1:=by omega
        have hFz:(F:Int)<n1:=by omega
        clear e1 e2 e3 e4 G0 G1 G2 G3 G4 x0 x1 v0 v1;go_upto_region 10 with fail
        refine Z24 24 28 ([13,14,22,23,24,25,26,27],[]) (SS wr.heap.size (F,xo,T,xi,rm,u) ⟨hb true,T,none⟩ ⟨hb false,F,none⟩ (Y true T) (Y false F)) ⟨HCV.out.drew,(HL2.out.heads true).cell hT,(HL2.out.heads false).cell hF⟩ (λhS=>?_)
        iterate 13(first|(refine N_go false false SS.weak hS rfl (v:=?_) (λ_ _ _ h=>h) (by rfl) ?_ ?_;rotate_left;(focus(intro w hSw;obtain⟨h0,h1,h2,h3⟩:=hSw;simp only at h0 h1 h2 h3;go_simp<;>rfl));try simp only[Act.put,pA,pB,pC])|(refine N_go true false SS.weak hS rfl (v:=?_) (λ_ _ _ h=>h) (by rfl) ?_ ?_;rotate_left;(focus(intro w hSw;obtain⟨⟨h0,h1,h2,h3⟩,h4,h5⟩:=hSw;simp only at h0 h1 h2 h3;go_simp<;>rfl));try simp only[Act.put,pA,pB,pC]))
        iterate 2 refine N_sk ?_
        iterate 7(first|(refine N_go false false SS.weak hS rfl (v:=?_) (λ_ _ _ h=>h) (by rfl) ?_ ?_;rotate_left;(focus(intro w hSw;obtain⟨h0,h1,h2,h3⟩:=hSw;simp only at h0 h1 h2 h3;go_simp<;>rfl));try simp only[Act.put,pA,pB,pC])|(refine N_go true false SS.weak hS rfl (v:=?_) (λ_ _ _ h=>h) (by rfl) ?_ ?_;rotate_left;(focus(intro w hSw;obtain⟨⟨h0,h1,h2,h3⟩,h4,h5⟩:=hSw;simp only at h0 h1 h2 h3;go_simp<;>rfl));try simp only[Act.put,pA,pB,pC]))
        iterate 6 refine N_sk ?_
        have hM:=HL2.out.md;have hlc:chs.length<=120:=by rw[<- HC.out.1];exact h2
        have hold2:∀b j,j<n1 -> ∀q,(Y b j).ownBlock=some q->q<wc.heap.size:=λb j hj q hq=>by have:=(Zpi (HL.out.rows.row b j hj trivial) hq).2;have:=HS2.out;omega
        have hold:∀b j,j<n1 -> ∀q,(Y b j).ownBlock=some q->q≠wr.heap.size/\q≠hb true/\q≠hb false:=λb j hj q hq=>by have:=Zpi (HL.out.rows.row b j hj trivial) hq;have:=hlo true;have:=hlo false;omega
        have hBt:hb true≠wr.heap.size:=by have:=hlo true;have:=HL.out.rows.size;omega
        have hBf:hb false≠wr.heap.size:=by have:=hlo false;have:=HL.out.rows.size;omega
        obtain⟨i0,hi,hz0,hz1,hz2⟩:=Yvo;refine Zeh (rs:=[13,22]) (by kernel_rfl) (by simp) ?_;refine AllT.cons' (i:=13) false (by kernel_rfl) rfl (λK hK=>?a13) (AllT.cons' (i:=22) false (by kernel_rfl) rfl (λK hK=>?a22) AllT.nil)
        case' a13 =>
         go_simp;refine hK.out _ _ (show SS wr.heap.size (F,xo,T,xi,rm,u) ⟨hb true,T,none⟩ ⟨hb false,F,none⟩ (Y true T) (Y false F) false (wc.alloc (.cells #[.int .i64 xi] 3)).drew from SS.alloc hS (.cells #[.int .i64 xi] 3)) (λhS=>?_);clear hK K;try simp only[Act.put,pA,pB,pC]
         have hM:=hM.alloc (.cells #[.int .i64 xi] 3);have b13:=heap_alloc_new wc (.cells #[.int .i64 xi] 3);refine Zeh (rs:=[14,22]) (by kernel_rfl) (by simp) ?_;refine AllT.cons' (i:=14) false (by kernel_rfl) rfl (λK hK=>?b14) (AllT.cons' (i:=22) false (by kernel_rfl) rfl (λK hK=>?b22) AllT.nil)
        case' b14 =>
         refine step_append_lies _ rfl _ _ 23 rfl (w.heap.size+3) 3 i0 (.int .i64 0) 1 8 Tryz.underlying23 hi hz0 hz1 hz2 rfl (by decide) (Y true T) _ _ rfl ((hM.drew).rows.row true T hT trivial) ⟨_,0,none⟩ 1 1 [.int .i64 xi] rfl rfl (World.news_of_block (w:=(wc.alloc (.cells #[.int .i64 xi] 3)).drew) b13) (by intro v hv;simp at hv;subst hv;rfl) (by decide) (Zhb true T k chs hlc).1 (Zhb true T k chs hlc).2 (hM.drew).rows.size _ rfl ?_;intro g1 cap1 w1 hown hgrow hat hlt;refine hK.out _ _ (SS.grown hS hgrow (hold true T hT)) (λhS=>?_);clear hK K;try simp only[Act.put,pA,pB,pC]
         have hM:=(hM.drew).append hlo hT rfl hown hgrow hat rfl;clear b13 hown hgrow hat hlt;refine Zeh (rs:=[22]) (by kernel_rfl) (by simp) ?_;refine AllT.cons' (i:=22) false (by kernel_rfl) rfl (λK hK=>?_) AllT.nil;go_simp;refine hK.out _ _ (show SS wr.heap.size (F,xo,T,xi,rm,u) ⟨hb true,T,none⟩ ⟨hb false,F,none⟩ (Y true T) (Y false F) false (w1.alloc (.cells #[.int .i64 xo] 3)) from SS.alloc hS (.cells #[.int .i64 xo] 3)) (λhS=>?_);clear hK K;try simp only[Act.put,pA,pB,pC]
         have hM:=hM.alloc (.cells #[.int .i64 xo] 3);have b22:=heap_alloc_new w1 (.cells #[.int .i64 xo] 3)
        case' b22 =>
         go_simp;refine hK.out _ _ (show SS wr.heap.size (F,xo,T,xi,rm,u) ⟨hb true,T,none⟩ ⟨hb false,F,none⟩ (Y true T) (Y false F) false ((wc.alloc (.cells #[.int .i64 xi] 3)).alloc (.cells #[.int .i64 xo] 3)).drew from SS.alloc hS (.cells #[.int .i64 xo] 3)) (λhS=>?_);clear hK K;try simp only[Act.put,pA,pB,pC]
         have hM:=hM.alloc (.cells #[.int .i64 xo] 3);have b13:=Xn (.cells #[.int .i64 xo] 3) b13 (Zeg b13);have b22:=Zbh wc (.cells #[.int .i64 xi] 3) (.cells #[.int .i64 xo] 3);refine Zeh (rs:=[14]) (by kernel_rfl) (by simp) ?_;refine AllT.cons' (i:=14) false (by kernel_rfl) rfl (λK hK=>?_) AllT.nil;refine step_append_lies _ rfl _ _ 23 rfl (w.heap.size+3) 3 i0 (.int .i64 0) 1 8 Tryz.underlying23 hi hz0 hz1 hz2 rfl (by decide) (Y true T) _ _ rfl ((hM.drew).rows.row true T hT trivial) ⟨_,0,none⟩ 1 1 [.int .i64 xi] rfl rfl (World.news_of_block (w:=((wc.alloc (.cells #[.int .i64 xi] 3)).alloc (.cells #[.int .i64 xo] 3)).drew) b13) (by intro v hv;simp at hv;subst hv;rfl) (by decide) (Zhb true T k chs hlc).1 (Zhb true T k chs hlc).2 (hM.drew).rows.size _ rfl ?_;intro g1 cap1 w1 hown hgrow hat hlt;refine hK.out _ _ (SS.grown hS hgrow (hold true T hT)) (λhS=>?_);clear hK K;try simp only[Act.put,pA,pB,pC]
         have hM:=(hM.drew).append hlo hT rfl hown hgrow hat rfl;have b22:=(hgrow.block _ (Zeg (w:=((wc.alloc (.cells #[.int .i64 xi] 3)).alloc (.cells #[.int .i64 xo] 3)).drew) b22) (λe=>by have:=hold2 true T hT _ e.symm;have h3:=HS2.out;omega)).trans b22;clear b13 hown hgrow hat hlt
        case' a22 =>
         go_simp;refine hK.out _ _ (show SS wr.heap.size (F,xo,T,xi,rm,u) ⟨hb true,T,none⟩ ⟨hb false,F,none⟩ (Y true T) (Y false F) false (wc.alloc (.cells #[.int .i64 xo] 3)).drew from SS.alloc hS (.cells #[.int .i64 xo] 3)) (λhS=>?_);clear hK K;try simp only[Act.put,pA,pB,pC]
         have hM:=hM.alloc (.cells #[.int .i64 xo] 3);have b22:=heap_alloc_new wc (.cells #[.int .i64 xo] 3);refine Zeh (rs:=[13]) (by kernel_rfl) (by simp) ?_;refine AllT.cons' (i:=13) false (by kernel_rfl) rfl (λK hK=>?_) AllT.nil;go_simp;refine hK.out _ _ (show SS wr.heap.size (F,xo,T,xi,rm,u) ⟨hb true,T,none⟩ ⟨hb false,F,none⟩ (Y true T) (Y false F) false ((wc.alloc (.cells #[.int .i64 xo] 3)).alloc (.cells #[.int .i64 xi] 3)).drew from SS.alloc hS (.cells #[.int .i64 xi] 3)) (λhS=>?_);clear hK K;try simp only[Act.put,pA,pB,pC]
         have hM:=hM.alloc (.cells #[.int .i64 xi] 3);have b22:=Xn (.cells #[.int .i64 xi] 3) b22 (Zeg b22);have b13:=Zbh wc (.cells #[.int .i64 xo] 3) (.cells #[.int .i64 xi] 3);refine Zeh (rs:=[14]) (by kernel_rfl) (by simp) ?_;refine AllT.cons' (i:=14) false (by kernel_rfl) rfl (λK hK=>?_) AllT.nil;refine step_append_lies _ rfl _ _ 23 rfl (w.heap.size+3) 3 i0 (.int .i64 0) 1 8 Tryz.underlying23 hi hz0 hz1 hz2 rfl (by decide) (Y true T) _ _ rfl ((hM.drew).rows.row true T hT trivial) ⟨_,0,none⟩ 1 1 [.int .i64 xi] rfl rfl (World.news_of_block (w:=((wc.alloc (.cells #[.int .i64 xo] 3)).alloc (.cells #[.int .i64 xi] 3)).drew) b13) (by intro v hv;simp at hv;subst hv;rfl) (by decide) (Zhb true T k chs hlc).1 (Zhb true T k chs hlc).2 (hM.drew).rows.size _ rfl ?_;intro g1 cap1 w1 hown hgrow hat hlt;refine hK.out _ _ (SS.grown hS hgrow (hold true T hT)) (λhS=>?_);clear hK K;try simp only[Act.put,pA,pB,pC]
         have hM:=(hM.drew).append hlo hT rfl hown hgrow hat rfl;have b22:=(hgrow.block _ (Zeg (w:=((wc.alloc (.cells #[.int .i64 xo] 3)).alloc (.cells #[.int .i64 xi] 3)).drew) b22) (λe=>by have:=hold2 true T hT _ e.symm;omega)).trans b22;clear b13 hown hgrow hat hlt
        all_goals
         (refine Zeh (rs:=[23]) (by kernel_rfl) (by simp) ?_
          refine AllT.cons' (i:=23) false (by kernel_rfl) rfl (λK hK=>?_) AllT.nil;have hr2:=hM.rows.row false F hF trivial;simp[upd]at hr2;refine step_append_lies _ rfl _ _ 23 rfl (w.heap.size+3) 3 i0 (.int .i64 0) 1 8 Tryz.underlying23 hi hz0 hz1 hz2 rfl (by decide) (Y false F) _ _ rfl hr2 ⟨_,0,none⟩ 1 1 [.int .i64 xo] rfl rfl (World.news_of_block b22) (by intro v hv;simp at hv;subst hv;rfl) (by decide) (Zhb false F k chs hlc).1 (Zhb false F k chs hlc).2 hM.rows.size _ rfl ?_;intro g2 cap2 w2 hown hgrow hat hlt;refine hK.out _ _ (SS.grown hS hgrow (hold false F hF)) (λhS=>?_);clear hK K;try simp only[Act.put,pA,pB,pC]
          have hM:=hM.append (b0:=false) (j0:=F) (x:=xo) hlo hF (g:=g2) (cap:=cap2) (m:=(lst false F (chs.take k)).length+1) (by simp[upd]) (by simpa[upd]using hown) (by simpa[upd]using hgrow) (by simpa[upd]using hat) rfl;have hM:Md w w2 (.cells #[.slice a1 n1 c1,.slice (some b2) n2 c2] 31) n1 hb Y (upd (upd Y true T (.slice (some ⟨g1,0,none⟩) ((lst true T (chs.take k)).length+1) cap1)) false F (.slice (some ⟨g2,0,none⟩) ((lst false F (chs.take k)).length+1) cap2)) (upd (upd (λb j=>lst b j (chs.take k)) true T (lst true T (chs.take k)++[xi])) false F (lst false F (chs.take k)++[xo])):=by simpa[upd]using hM
          clear b22 hown hgrow hat hlt hr2 hz0 hz1 hz2 hi;refine N_in ([],[]) 24 ?_;refine Zhy true rfl (λK hK=>?_);go_simp;refine hK.out _ _ (SS.weak _ hS) (λhS=>?_);clear hK K;try simp only[Act.put,pA,pB,pC]
          have s0:=(hM.heads true).cell hT;have s1:=(hM.heads true).frozen T;refine Zhy true rfl (λK hK=>?_);go_simp;refine hK.out _ _ (SS.store hS ⟨hb true,T,none⟩ (.slice (some ⟨g1,0,none⟩) ((lst true T (chs.take k)).length+1) cap1) hBt) (λhS=>?_);clear hK K s0 s1;try simp only[Act.put,pA,pB,pC]
          have s:=(hM.heads false).setOther (a:=⟨hb true,T,none⟩) (λe=>hne e.symm) (.slice (some ⟨g1,0,none⟩) ((lst true T (chs.take k)).length+1) cap1);have s0:=s.cell hF;have s1:=s.frozen F;clear s;refine Zhy true rfl (λK hK=>?_);go_simp;refine hK.out _ _ hS (λhS=>?_);clear hK K;try simp only[Act.put,pA,pB,pC]
          refine Zhy true rfl (λK hK=>?_);go_simp;refine hK.out _ _ (SS.store hS ⟨hb false,F,none⟩ (.slice (some ⟨g2,0,none⟩) ((lst false F (chs.take k)).length+1) cap2) hBf) (λhS=>?_);clear hK K s0 s1 hS;try simp only[Act.put,pA,pB,pC]
          refine Zci ?_;have hD:=Lib.hid (hM.done hne hlo HCK.out);clear hM hold hold2 hBt hBf;go_wp2;go_roundw
          case rel=>exact⟨k+1,_,by omega,by go_num,hD.out,HNX.out⟩
          case measure=>simp[RowKit.intOf];omega)
   . have hke:k=n2:=by omega
     subst hke;have hck:chk n1 none chs=true:=by rw[HK.out,HC.out.1,List.drop_length];cases(if chs.length=0 then none else chs[chs.length-1]?)<;>rfl
     have x0:wr.cell? ⟨w.heap.size,0,none⟩=some (.slice a1 n1 c1):=(Yc HL.out.arg rfl).1;have hl2:L2 w wr (.cells #[.slice a1 n1 c1,.slice a2 k c2] 31) n1 hb chs (λ_ q=>0<=q) Y:=by have:=HL.out;rw[HC.out.1]at this ⊢;exact this.l2
     have HL2:=Lib.hid hl2;have HCK:=Lib.hid hck;clear hl2 hck;go_wp2;clear x0;go_loopw[115] (λi wr=>∃j:Nat,j<=n1/\i = .int .i64 j/\L2 w wr (.cells #[.slice a1 n1 c1,.slice a2 k c2] 31) n1 hb chs (λ_ q=>j<=q) Y/\fin chs 0 ops=fin chs j (ops.drop j)) (λi _=>n1-(RowKit.intOf i).toNat)
     case atStart=>exact⟨0,Nat.zero_le _,rfl,HL2.out,rfl⟩
     case round =>
      obtain⟨j,hj,rfl,hl2,hfin⟩:=hrel;have HL3:=Lib.hid hl2;have HFIN:=Lib.hid hfin;clear hl2 hfin;by_cases hlt:j<n1
      . obtain⟨o,hoj⟩:∃o,ops[j]? = some o:=⟨_,List.getElem?_eq_getElem (by rw[<- HO.out.1];exact hlt)⟩;obtain⟨b1,rfl,hb1,G0,G1⟩:=HO.out.two hoj HL3.out.below;obtain⟨kd,on,u⟩:=o;have HOJ:=Lib.hid hoj;clear hoj;simp only at G0 G1;have hfj:fin chs 0 ops=fin chs j ((kd,on,u)::ops.drop (j+1)):=by rw[HFIN.out,Znw HOJ.out]
        have HFJ:=Lib.hid hfj;clear hfj;go_wp2_with(go_at_call 123;refine(Yce kd _).mono ?_);rintro e w4 ⟨rfl,hb4⟩;have hl4:=(HL3.out.kept (World.grownBy_alloc _ (.cells #[.int .u8 kd,.int .i64 on] 48) none)).kept (below_grown hb4);obtain⟨l1,l2,l3,l4,hbd⟩:∃l1 l2 l3 l4,bnd kd=(l1,l2,l3,l4):=⟨_,_,_,_,rfl⟩;rw[hbd];have HBD:=Lib.hid hbd;have HL4:=Lib.hid hl4;clear hb4 hbd hl4;have hl5:=(HL4.out.kept (World.grownBy_alloc _ (.cells #[.int .i64 l1,.int .i64 l2] 199) none)).kept (World.grownBy_alloc _ (.cells #[.int .i64 l3,.int .i64 l4] 199) none);go_upto_region 16 with fail
        have q1:((w4.alloc (.cells #[.int .i64 l1,.int .i64 l2] 199)).alloc (.cells #[.int .i64 l3,.int .i64 l4] 199)).heap[w4.heap.size]? = some (.cells #[.int .i64 l1,.int .i64 l2] 199 (0,0)):=Xn _ (heap_alloc_new w4 _) (by simp);have q2:=Zbh w4 (.cells #[.int .i64 l1,.int .i64 l2] 199) (.cells #[.int .i64 l3,.int .i64 l4] 199);obtain⟨w5,hw5⟩:∃w5,w5=(w4.alloc (.cells #[.int .i64 l1,.int .i64 l2] 199)).alloc (.cells #[.int .i64 l3,.int .i64 l4] 199):=⟨_,rfl⟩;obtain⟨B,hB⟩:∃B,B=w4.heap.size:=⟨_,rfl⟩;have hold:∀b,∀q,(Y b j).ownBlock=some q->w.heap.size+3<=q/\q<B:=λb q hq=>by have:=Zpi (HL4.out.rows.row b j hlt (Nat.le_refl _)) hq;omega
        rw[<- hw5]at hl5 q1 q2 ⊢;rw[<- hB]at q1 q2 ⊢;clear hw5 hB;have z0:w5.cell? ⟨B,0,none⟩=some (.int .i64 l1):=(Yc q1 rfl).1;have z1:w5.cell? ⟨B,1,none⟩=some (.int .i64 l2):=(Yc q1 rfl).1;have z2:w5.cell? ⟨B+1,0,none⟩=some (.int .i64 l3):=(Yc q2 rfl).1;have z3:w5.cell? ⟨B+1,1,none⟩=some (.int .i64 l4):=(Yc q2 rfl).1;have z4:=(hl5.heads true).cell hlt;have z5:=(hl5.heads false).cell hlt;have hkp:∀(b:Bool) (u v:World),(u.cell? ⟨hb true,j,none⟩=some (Y true j)/\u.cell? ⟨hb false,j,none⟩=some (Y false j)/\u.cell? ⟨B,0,none⟩=some (.int .i64 l1)/\u.cell? ⟨B,1,none⟩=some (.int .i64 l2)/\u.cell? ⟨B+1,0,none⟩=some (.int .i64 l3)/\u.cell? ⟨B+1,1,none⟩=some (.int .i64 l4))->u.grownBy v (Y b j).ownBlock ->
            (v.cell? ⟨hb true,j,none⟩=some (Y true j)/\v.cell? ⟨hb false,j,none⟩=some (Y false j)/\v.cell? ⟨B,0,none⟩=some (.int .i64 l1)/\v.cell? ⟨B,1,none⟩=some (.int .i64 l2)/\v.cell? ⟨B+1,0,none⟩=some (.int .i64 l3)/\v.cell? ⟨B+1,1,none⟩=some (.int .i64 l4)):=λb u v hu hg=>by
          have key:∀(a:Addr) (x:Value),(a.block=hb true∨a.block=hb false∨a.block=B∨a.block=B+1)->u.cell? a=some x->v.cell? a=some x:=λa x ha hx=>by rw[hg.cell_far a (World.block_lt_of_cell? u a hx) (λe=>by have:=hold b _ e.symm;have:=hlo true;have:=hlo false;omega)];exact hx
          exact⟨key _ _ (.inl rfl) hu.1,key _ _ (.inr (.inl rfl)) hu.2.1,key _ _ (.inr (.inr (.inl rfl))) hu.2.2.1,key _ _ (.inr (.inr (.inl rfl))) hu.2.2.2.1,key _ _ (.inr (.inr (.inr rfl))) hu.2.2.2.2.1,key _ _ (.inr (.inr (.inr rfl))) hu.2.2.2.2.2⟩
        have KP2:=Lib.hid (hkp false);have KP1:=Lib.hid (λv (hg:w5.drew.grownBy v (Y true j).ownBlock)=>hkp true w5.drew v ⟨z4,z5,z0,z1,z2,z3⟩ hg);have R5:=Lib.hid hl5.drew.rows;have hrk:∀v,w5.drew.grownBy v (Y true j).ownBlock->L2 w v (.cells #[.slice (some b1) n1 c1,.slice a2 k c2] 31) n1 hb chs (λb q=>j<=q/\¬(b=true/\q=j)) Y:=λv hg=>hl5.drew.lost hlo hlt (Nat.le_refl _) hg (λb q _ h=>h);have RK:=Lib.hid (λv hg=>(hrk v hg).rows.row false j hlt ⟨Nat.le_refl _,by simp⟩);have HRK:=Lib.hid hrk;have hfit:∀b,(lst b j chs).length<=1000:=λb=>by have:=Ygs b j chs;have:=HC.out.1;omega
        have hfin2:=HFJ.out;rw[Yl0,HBD.out]at hfin2;have HF2:=Lib.hid hfin2;clear hl5 q1 q2 hold hkp hrk hfin2;have he1:∀W:World,W.ownsRow (w.heap.size+3) 3 1 (Y true j) (lst true j chs).length ((lst true j chs).map (.int .i64))->Calls Tryz.prog 124 #[Y true j,.agg #[.int .i64 l1,.int .i64 l2]] W λe w' => e = .returned (.bool (Zbn (lst true j chs) l1 l2))/\W.grownBy w' (Y true j).ownBlock:=λW hW=>Z81 _ _ _ _ _ _ (hfit true) hW;have he2:∀W:World,W.ownsRow (w.heap.size+3) 3 1 (Y false j) (lst false j chs).length ((lst false j chs).map (.int .i64))->Calls Tryz.prog 124 #[Y false j,.agg #[.int .i64 l3,.int .i64 l4]] W λe w' => e = .returned (.bool (Zbn (lst false j chs) l3 l4))/\W.grownBy w' (Y false j).ownBlock:=λW hW=>Z81 _ _ _ _ _ _ (hfit false) hW;have hjp:fin chs 0 ops=false->Zai ops chs=false:=λh=>by rw[Zai,h,Bool.and_false]
        have HJP:=Lib.hid hjp;clear hfit hjp;cases hv1:Zbn (lst true j chs) l1 l2<;>cases hv2:Zbn (lst false j chs) l3 l4;all_goals
         (rw[hv1]at he1
          rw[hv2]at he2;have E1:=Lib.hid he1;have E2:=Lib.hid he2;clear he1 he2;refine Z24 99 16 ([],[]) (λ_ w' => w'.cell? ⟨hb true,j,none⟩=some (Y true j)/\w'.cell? ⟨hb false,j,none⟩=some (Y false j)/\w'.cell? ⟨B,0,none⟩=some (.int .i64 l1)/\w'.cell? ⟨B,1,none⟩=some (.int .i64 l2)/\w'.cell? ⟨B+1,0,none⟩=some (.int .i64 l3)/\w'.cell? ⟨B+1,1,none⟩=some (.int .i64 l4)) ⟨z4,z5,z0,z1,z2,z3⟩ (λhS=>?_)
          iterate 5(refine N_go false true (λ_ h=>h) hS rfl (v:=?_) (λ_ _ _ h=>h) (by rfl) ?_ ?_;rotate_left;(focus(intro w hSw;obtain⟨h0,h1,h2,h3,h4,h5⟩:=hSw;go_simp<;>rfl));try simp only[Act.put,pA,pB,pC])
          (refine Zhy true rfl (λK hK=>?_);go_simp;go_at_call 124;refine(E1.out _ (R5.out.row true j hlt (Nat.le_refl _))).mono ?_;rintro e w6 ⟨rfl,hg6⟩;refine hK.out _ _ (KP1.out _ hg6) (λhS=>?_);clear hK K;try simp only[Act.put,pA,pB,pC])
          iterate 7(first|(refine Z8x false true (λ_ h=>h) hS rfl (λ_ _ _ h=>h) (by rfl) ?_;try simp only[Act.put,pA,pB,pC])|(refine N_go false true (λ_ h=>h) hS rfl (v:=?_) (λ_ _ _ h=>h) (by rfl) ?_ ?_;rotate_left;(focus(intro w hSw;obtain⟨h0,h1,h2,h3,h4,h5⟩:=hSw;go_simp<;>rfl));try simp only[Act.put,pA,pB,pC]))
          (first|(refine Z8x false true (λ_ h=>h) hS rfl (λ_ _ _ h=>h) (by rfl) ?_;try simp only[Act.put,pA,pB,pC])|(refine Zhy true rfl (λK hK=>?_);go_simp;go_at_call 124;refine(E2.out _ (RK.out _ hg6)).mono ?_;rintro e w7 ⟨rfl,hg7⟩;refine hK.out _ _ (KP2.out _ _ hS hg7) (λhS=>?_);clear hK K;try simp only[Act.put,pA,pB,pC]))
          iterate 2(first|(refine Z8x false true (λ_ h=>h) hS rfl (λ_ _ _ h=>h) (by rfl) ?_;try simp only[Act.put,pA,pB,pC])|(refine N_go false true (λ_ h=>h) hS rfl (v:=?_) (λ_ _ _ h=>h) (by rfl) ?_ ?_;rotate_left;(focus(intro w hSw;obtain⟨h0,h1,h2,h3,h4,h5⟩:=hSw;go_simp<;>rfl));try simp only[Act.put,pA,pB,pC]))
          refine Zci ?_;have hf0:=HF2.out;simp only[hv1,hv2,Bool.true_and,Bool.false_and]at hf0;have HF0:=Lib.hid hf0;clear hf0)
        iterate 2
         . go_wp2;go_ret;exact⟨by rw[HJP.out HF0.out];rfl,(HRK.out _ hg6).below⟩
        . go_wp2;go_ret;exact⟨by rw[HJP.out HF0.out];rfl,((HRK.out _ hg6).lost (D' := λb q=>j+1<=q) hlo hlt ⟨Nat.le_refl _,by simp⟩ hg7 (λb q _ h=>⟨⟨by omega,by omega⟩,by omega⟩)).below⟩
        . have HL7:=Lib.hid ((HRK.out _ hg6).lost (D' := λb q=>j+1<=q) hlo hlt ⟨Nat.le_refl _,by simp⟩ hg7 (λb q _ h=>⟨⟨by omega,by omega⟩,by omega⟩));clear z0 z1 z2 z3 z4 z5 hS hg6 hg7;go_wp2;go_roundw
          case rel=>exact⟨j+1,by omega,by go_num,HL7.out,HF0.out⟩
          case measure=>simp[RowKit.intOf];omega
      . have hje:j=n1:=by omega
        subst hje;go_wp2;go_ret;have:Zai ops chs=true:=by rw[Zai,<- HO.out.1,HCK.out,HFIN.out,HO.out.1,List.drop_length];rfl
        exact⟨by rw[this];rfl,HL3.out.below⟩
end Tj
