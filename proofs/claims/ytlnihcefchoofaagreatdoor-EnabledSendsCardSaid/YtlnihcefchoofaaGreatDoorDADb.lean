import Derived.Test.YtlnihcefchoofaaGreatDoorDADa
set_option linter.all false
set_option maxRecDepth 100000
namespace Tj
open Go Go.RowKit Go.Proofs Go.Abs
def entS(k v side s e:Int):Ent:=if side=0 then(k,s,e,1,v,v,v,0,0,0,0,())else(k,s,e,0,0,0,0,1,v,v,v,())
abbrev SpT:=Int×Int×Unit
def spn(x:Ent)(p:SpT):Ent:=(x.1,p.1,p.2.1,x.2.2.2)
noncomputable def finE(M:List Ent×Int):List Ent×Int:=if M.2=0 then(if M.1.length<=4000 then(M.1,0)else([],4))else([],M.2)
theorem fin3(M:List Ent×Int):M.2=0/\¬(4000:Int)<(M.1.length:Int)/\finE M=(M.1,0)∨M.2=0/\(4000:Int)<(M.1.length:Int)/\finE M=([],4)∨¬M.2=0/\finE M=([],M.2):=by
 unfold finE;by_cases h:M.2=0;by_cases h2:M.1.length<=4000;exact .inl ⟨h,by omega,by rw[if_pos h,if_pos h2]⟩;exact .inr (.inl ⟨h,by omega,by rw[if_pos h,if_neg h2]⟩);exact .inr (.inr ⟨h,by rw[if_neg h]⟩)
variable {B:Nat}{es:List Ent}
theorem Yaj{w:World}{v:Value}(h:EnR w B v es):∃p c,v = .slice p es.length c:=by
 rcases h.2 with⟨rfl,h0⟩|⟨g,cap,cur,rfl,hbg,hg,hnc,hcm,hcs,htake⟩
 exact⟨_,_,by rw[h0]⟩;exact⟨_,_,rfl⟩
theorem Yuj{w w' : World}(h:Zv B w)(hb:Below B w w'):Zv B w' := ⟨h.1,Glob.stable w w' h.2 (hb.mono h.1)⟩
theorem EnR.base{w:World}{B': Nat}{v:Value}(h:EnR w B v es)(hB:B' <= B):EnR w B' v es:=⟨h.1,h.2.imp id (λ⟨g,cap,cur,a,b,r⟩=>⟨g,cap,cur,a,Nat.le_trans hB b,r⟩)⟩
theorem EnR.nil(w:World)(B:Nat):EnR w B (.slice none 0 0) []:=World.ownsRow_nil _ _ _ _
structure Pb(W:World) (k a b r0 r1 r2:Int) (w:World):Prop where
 near:Below W.heap.size W w
 p5:w.heap[W.heap.size]? = some (.cells #[.int .u8 k,.int .i64 a,.int .i64 b] 25)
 p6:w.heap[W.heap.size+1]? = some (.cells #[.int .i64 r0,.int .i64 r1,.int .i64 r2] 78)
section
variable {W w w' : World} {k a b r0 r1 r2:Int}
theorem Pb.new(W:World)(k a b r0 r1 r2:Int):Pb W k a b r0 r1 r2 ((W.alloc (.cells #[.int .u8 k,.int .i64 a,.int .i64 b] 25)).alloc (.cells #[.int .i64 r0,.int .i64 r1,.int .i64 r2] 78)):=⟨(Zdi W _).trans ((Below.refl _ _).alloc (by simp) _),Xn _ (heap_alloc_new W _) (by simp),Zbh W _ _⟩
theorem Pb.size(h:Pb W k a b r0 r1 r2 w):W.heap.size+2<=w.heap.size:=Zeg h.p6
theorem Pb.kept(h:Pb W k a b r0 r1 r2 w)(hb:Below (W.heap.size+2) w w'):Pb W k a b r0 r1 r2 w' := ⟨h.near.trans (hb.mono (by omega)),(hb.block _ (by omega)).trans h.p5,(hb.block _ (by omega)).trans h.p6⟩
theorem Pb.next(h:Pb W k a b r0 r1 r2 w)(hb:Below w.heap.size w w'):Pb W k a b r0 r1 r2 w' := h.kept (hb.mono h.size)
theorem Pb.alloc(h:Pb W k a b r0 r1 r2 w)(o:Obj):Pb W k a b r0 r1 r2 (w.alloc o):=h.next ((Below.refl _ _).alloc (Nat.le_refl _) _)
theorem Pb.grown{g:Nat}(h:Pb W k a b r0 r1 r2 w)(hg:w.grownBy w' (some g))(hl:W.heap.size+2<=g):Pb W k a b r0 r1 r2 w' := h.kept (Xf hg h.size (λk hk=>by cases hk;exact hl))
theorem Pb.cells(h:Pb W k a b r0 r1 r2 w):w.cell? ⟨W.heap.size,0,none⟩=some (.int .u8 k)/\w.cell? ⟨W.heap.size,1,none⟩=some (.int .i64 a)/\w.cell? ⟨W.heap.size,2,none⟩=some (.int .i64 b) /\
    w.cell? ⟨W.heap.size+1,0,none⟩=some (.int .i64 r0)/\w.cell? ⟨W.heap.size+1,1,none⟩=some (.int .i64 r1)/\(∀o,(w.alloc o).cell? ⟨W.heap.size+1,2,none⟩=some (.int .i64 r2)) /\ ∀o,(w.alloc o).cell? ⟨W.heap.size,1,none⟩=some (.int .i64 a) :=
  ⟨(Yc h.p5 rfl).1,(Yc h.p5 rfl).1,(Yc h.p5 rfl).1,(Yc h.p6 rfl).1,(Yc h.p6 rfl).1,(Yc h.p6 rfl).2.1,(Yc h.p5 rfl).2.1⟩
end
set_option maxHeartbeats 16000000 in
theorem Ys4(v:Value)(a b r0 r1 r2 side:Int)(s:List Ent)(W:World)(hg:Zv W.heap.size W)(hd:side=0∨side=1)(hr1 : -1099511627776<=r1/\r1<=1099511627776)(hs:s.length<=4000)
    (hchk:∀W',Below W.heap.size W W' -> Calls Tryz.prog 130 #[v] W' λe w' => e = .returned (.int .i64 0)/\Below W'.heap.size W' w')
    (hwin:∀W',Below W.heap.size W W' -> Calls Tryz.prog 121 #[.agg #[.int .u8 3,.int .i64 a,.int .i64 b]] W' λe w' => e = .returned (.int .i64 0)/\Below W'.heap.size W' w')
    (hacc:∀W',Below W.heap.size W W' -> Calls Tryz.prog 190 #[.int .i64 r2] W' λe w' => e = .returned (.agg #[.int .i64 1,.int .i64 r2,.int .i64 r2,.int .i64 r2])/\Below W'.heap.size W' w')
    (hcln:∀W',Below W.heap.size W W' -> Calls Tryz.prog 76 #[v] W' λe w' => ∃v',e = .returned v' /\ EnR w' W'.heap.size v' s/\Below W'.heap.size W' w')
    (ha:1<=a/\a<=1073741824) (h0:Tg.Xb 0 a=some (0,())) (h1:Tg.Xb r1 a=some (0,())) :
    Calls Tryz.prog 149 #[v,.agg #[.int .u8 3,.int .i64 a,.int .i64 b],.agg #[.int .i64 r0,.int .i64 r1,.int .i64 r2],.int .i64 side] W λe w' => ∃v',e = .returned (.tuple #[v',.int .i64 (finE (Zkl (s.length+1) s (spn (entS r0 r2 side 0 0) (r1,r1+a,())))).2])/\EnR w' W.heap.size v' (finE (Zkl (s.length+1) s (spn (entS r0 r2 side 0 0) (r1,r1+a,())))).1/\Below W.heap.size W w' := by
  have HCHK:=Lib.hid hchk;have HWIN:=Lib.hid hwin;have HACC:=Lib.hid hacc;have HCLN:=Lib.hid hcln;have HG:=Lib.hid hg;obtain⟨X,hX⟩:∃X,X=entS r0 r2 side 0 0:=⟨_,rfl⟩;rw[<- hX];obtain⟨M,hM⟩:∃M,M=Zkl (s.length+1) s (spn X (r1,r1+a,())):=⟨_,rfl⟩;rw[<- hM];have HX:=Lib.hid hX;have HMM:=Lib.hid hM;have hp:=Pb.new W 3 a b r0 r1 r2;obtain⟨W0,hW0⟩:∃W0,W0=(W.alloc (.cells #[.int .u8 3,.int .i64 a,.int .i64 b] 25)).alloc (.cells #[.int .i64 r0,.int .i64 r1,.int .i64 r2] 78):=⟨_,rfl⟩;rw[<- hW0]at hp;have hsz:W0.heap.size=W.heap.size+2:=by rw[hW0];simp
  have HP:=Lib.hid hp;clear hchk hwin hacc hcln hg hX hM hp;rcases hd with rfl|rfl<;>rcases fin3 M with⟨hE,hL2,hfin⟩|⟨hE,hL2,hfin⟩|⟨hE,hfin⟩<;>(
  rw[hfin];clear hfin;go_enter Tryz.func149,Tryz.ntmps149;go_upto_region 1 with fail
  rw[<- hW0];clear hW0;go_wp2_with(first
   |(go_at_call 130;refine(HCHK.out _ HP.out.near).mono ?_;rintro e w1 ⟨rfl,hb1⟩;have HP:=Lib.hid (HP.out.next hb1);clear hb1;obtain⟨c50,c51,c52,c60,c61,c62,c5a⟩:=HP.out.cells)|(go_at_call 121;refine(HWIN.out _ HP.out.near).mono ?_;rintro e w2 ⟨rfl,hb1⟩;clear c50 c51 c52 c60 c61 c62 c5a;have HP:=Lib.hid (HP.out.next hb1);clear hb1;obtain⟨c50,c51,c52,c60,c61,c62,c5a⟩:=HP.out.cells)|(go_at_call 190;refine(HACC.out _ (HP.out.alloc _).near).mono ?_;rintro e w3 ⟨rfl,hb3⟩;clear c50 c51 c52 c60 c61 c62 c5a;have hbx:=(hb3.block _ (by simp)).trans (heap_alloc_new w2 (.cells #[.int .i64 r0,.int .i64 0,.int .i64 0,.int .i64 0,.int .i64 0,.int .i64 0,.int .i64 0,.int .i64 0,.int .i64 0,.int .i64 0,.int .i64 0] 152));have hw2:=HP.out.size;have HP:=Lib.hid ((HP.out.alloc _).next hb3);clear hb3)|(refine Zsq rfl 149 _ _ rfl #[.int .i64 1,.int .i64 r2,.int .i64 r2,.int .i64 r2] rfl rfl hbx (entA X) (by rw[HX.out];rfl) rfl Zfv ?_;intro w4 hx4 hg4;have hwl:w2.heap.size<w4.heap.size:=(Array.getElem?_eq_some_iff.1 hx4).1;have HP:=Lib.hid (HP.out.grown hg4 hw2);have H4:=Lib.hid hx4;clear hbx hx4 hg4)
   |(go_at_call 76;refine(HCLN.out _ HP.out.near).mono ?_;rintro e w5 ⟨v1,rfl,hr5,hb5⟩;have hw5:=HP.out.size;have HP:=Lib.hid (HP.out.next hb5);obtain⟨c50,c51,c52,c60,c61,c62,c5a⟩:=HP.out.cells;have H5:=Lib.hid (And.intro ((hb5.block _ hwl).trans H4.out) (EnR.base hr5 (show W.heap.size<=w4.heap.size by omega)));have hs5:w4.heap.size<=w5.heap.size:=hb5.size;have hne0:∀g,g<w4.heap.size->v1.ownBlock≠some g:=λg hg h=>Nat.not_le.2 hg (World.ownsRow.lt hr5 _ h).1;clear hb5 hr5 H4)|(go_at_call 191;refine(Yai w5.heap.size 1 r1 a _ (λj u hj=>by rw[Nat.zero_add];exact(Yc (heap_alloc_new w5 _) (by rw[<- Array.getElem?_toList];exact hj)).1) (Zt0 HG.out (HP.out.alloc _).near) h0 h1 hr1 ha).mono ?_;rintro e w6 ⟨v6,rfl,ho6,hb6⟩;clear c50 c51 c52 c60 c61 c62 c5a;obtain⟨g6,cap6,rfl,hcap6,hgl6⟩:=row_one ho6;have d0:w6.cell? ⟨g6,0,none⟩=some (.int .i64 r1):=Zgy ho6 0 _ rfl;have d1:w6.cell? ⟨g6,1,none⟩=some (.int .i64 (r1+a)):=Zgy ho6 1 _ rfl;have hb56:Below w5.heap.size w5 w6:=(Zdi w5 _).trans (hb6.mono (by simp));have hx6:=(hb56.block _ (by omega)).trans H5.out.1;have HP:=Lib.hid (HP.out.next hb56);have H6:=Lib.hid (H5.out.2.near hb56);clear ho6 hb6 hb56 H5)|(refine Zsq rfl 106 _ _ rfl #[.int .i64 r1,.int .i64 (r1+a)] rfl rfl hx6 (entA (spn X (r1,r1+a,()))) rfl rfl Z6p ?_;intro w7 hx7 hg7;have H7:=Lib.hid (And.intro (HP.out.grown hg7 hw2).near (And.intro hx7 (World.ownsRow.kept (row:=some w2.heap.size) H6.out hg7 (Or.inr (hne0 _ hwl)))));clear hx6 hx7 hg7 d0 d1 H6)|(refine wpList_load_mid rfl 152 _ rfl w2.heap.size 0 rfl (entL (spn X (r1,r1+a,()))) _ (Zd9 H7.out.2.1) Tryz.underlying152 rfl Qy ?_)|(go_at_call 192;refine(Yxn (x:=spn X (r1,r1+a,())) H7.out.2.2 (by omega) H7.out.1.size (Yuj HG.out H7.out.1)).mono ?_;rintro e w8 ⟨v8,rfl,hb8,hr8⟩;rw[<- HMM.out]at hr8 ⊢;first|(obtain⟨p8,c8,rfl⟩:=Yaj (hr8 hE);have H8:=Lib.hid (And.intro (H7.out.1.trans hb8) (hr8 hE));clear hb8 hr8 H7)|skip))
  go_ret2;first
   |exact⟨.slice p8 M.1.length c8,rfl,H8.out.2,H8.out.1⟩|exact⟨.slice none 0 0,rfl,EnR.nil _ _,H8.out.1⟩|exact⟨.slice none 0 0,rfl,EnR.nil _ _,H7.out.1.trans hb8⟩)
end Tj
namespace Tj
open Go Go.RowKit Go.Proofs Go.Abs
noncomputable def putS:List Ent->Ent->List SpT->List Ent×Int|es,_,[]=>(es,0)|es,x,p::l=>if (putE es (spn x p)).2=0 then putS (putE es (spn x p)).1 x l else([],(putE es (spn x p)).2)
structure SpOk(w:World) (lo hi:Nat) (l:List SpT) (v:Value):Prop where
 val:∃ao c,v = .slice ao l.length c/\(l≠[] -> ∃g o,ao=some ⟨g,o,none⟩/\g<w.heap.size/\(g<lo∨hi<=g) /\ ∀i p,l[i]? = some p->w.cell? ⟨g,o+i*2,none⟩=some (.int .i64 p.1)/\w.cell? ⟨g,o+i*2+1,none⟩=some (.int .i64 p.2.1))
structure Sld(B bx g o:Nat) (X:Ent) (l:List SpT) (R:List Ent×Int) (i:Nat) (p:SpT) (es:List Ent) (v:Value) (w0 wr:World):Prop where
 row:EnR wr B v es
 box:wr.heap[bx]? = some (.cells (entA (spn X p)) 152)
 near:Below B w0 wr
 res:putS es X (l.drop i)=R
 len:es.length<=4000+i
 own:v.ownBlock≠some bx/\v.ownBlock≠some g
 gw:g<wr.heap.size/\g≠bx
 cel:∀i p,l[i]? = some p->wr.cell? ⟨g,o+i*2,none⟩=some (.int .i64 p.1)/\wr.cell? ⟨g,o+i*2+1,none⟩=some (.int .i64 p.2.1)
variable {B bx g o:Nat}{X:Ent}{R:List Ent×Int}{p:SpT}{es:List Ent}{w0 wr:World}
theorem Sld.set{l:List SpT}{i:Nat}{v:Value}(h:Sld B bx g o X l R i p es v w0 wr)(hB:B<=bx)(q:SpT):Sld B bx g o X l R i q es v w0 (wr.setCells bx 1 [.int .i64 q.1,.int .i64 q.2.1]):=by have hgr:wr.grownBy (wr.setCells bx 1 [.int .i64 q.1,.int .i64 q.2.1]) (some bx):=Zaa bx [.int .i64 q.1,.int .i64 q.2.1] 1 wr;have hb:=set_mid (w:=wr) (g:=bx) (o:=1) (Pre:=[.int .i64 X.1]) (A:=[.int .i64 p.1,.int .i64 p.2.1]) (Post:=accL (acc0 X)++accL (acc1 X)) (vs:=[.int .i64 q.1,.int .i64 q.2.1]) h.box rfl rfl rfl (by simp[Value.oneCell']);have hg:=hgr.block g h.gw.1 (λe=>h.gw.2 (J0a e));exact⟨World.ownsRow.kept h.row hgr (Or.inr h.own.1),hb,h.near.trans (Ze6 hB _ _ _),h.res,h.len,h.own,⟨Nat.lt_of_lt_of_le h.gw.1 hgr.size,h.gw.2⟩,λi p hp=>⟨(World.cell?_of_block (a:=⟨g,o+i*2,none⟩) hg).trans (h.cel i p hp).1,(World.cell?_of_block (a:=⟨g,o+i*2+1,none⟩) hg).trans (h.cel i p hp).2⟩⟩
theorem Sld.put{l:List SpT}{i:Nat}{v:Value}(h:Sld B bx g o X l R i p es v w0 wr)(hp:l[i]? = some p)(hE:(putE es (spn X p)).2=0){v' : Value}{w' : World}(hb:Below B wr w')(hr:EnR w' B v' (putE es (spn X p)).1)(hgr:wr.grownBy w' v.ownBlock)(hne:∀g,g<wr.heap.size->v.ownBlock≠some g->v'.ownBlock≠some g) :
    Sld B bx g o X l R (i+1) p (putE es (spn X p)).1 v' w0 w' := by
  have hbl:=(Array.getElem?_eq_some_iff.1 h.box).1;have hg:=hgr.block g h.gw.1 (λe=>h.own.2 e.symm);have hi:=(J0d.1 hp).1;have hd:l.drop i=p::l.drop (i+1):=by rw[List.drop_eq_getElem_cons hi];congr 1;exact(J0d.1 hp).2
  have hres:=h.res;rw[hd,putS,if_pos hE]at hres;exact⟨hr,(hgr.block bx hbl (λe=>h.own.1 e.symm)).trans h.box,h.near.trans hb,hres,by have:=Ype es (spn X p);have:=h.len;omega,⟨hne _ hbl h.own.1,hne _ h.gw.1 h.own.2⟩,⟨Nat.lt_of_lt_of_le h.gw.1 hgr.size,h.gw.2⟩,λi p hp=>⟨(World.cell?_of_block (a:=⟨g,o+i*2,none⟩) hg).trans (h.cel i p hp).1,(World.cell?_of_block (a:=⟨g,o+i*2+1,none⟩) hg).trans (h.cel i p hp).2⟩⟩
theorem Sld.bad{l:List SpT}{i:Nat}{v:Value}(h:Sld B bx g o X l R i p es v w0 wr)(hp:l[i]? = some p)(hE:¬(putE es (spn X p)).2=0):R=([],(putE es (spn X p)).2):=by
 have hi:=(J0d.1 hp).1;have hd:l.drop i=p::l.drop (i+1):=by rw[List.drop_eq_getElem_cons hi];congr 1;exact(J0d.1 hp).2
 have hres:=h.res;rw[hd,putS,if_neg hE]at hres;exact hres.symm
set_option maxHeartbeats 16000000 in
theorem Ys5(v:Value)(k a b r0 r1 r2 side:Int)(s:List Ent)(W:World)(hg:Zv W.heap.size W)(hd:side=0∨side=1)(hr1 : -1099511627776<=r1/\r1<=1099511627776)(hs:s.length<=4000)
    (hchk:∀W',Below W.heap.size W W' -> Calls Tryz.prog 130 #[v] W' λe w' => e = .returned (.int .i64 0)/\Below W'.heap.size W' w')
    (hwin:∀W',Below W.heap.size W W' -> Calls Tryz.prog 121 #[.agg #[.int .u8 k,.int .i64 a,.int .i64 b]] W' λe w' => e = .returned (.int .i64 0)/\Below W'.heap.size W' w')
    (hacc:∀W',Below W.heap.size W W' -> Calls Tryz.prog 190 #[.int .i64 r2] W' λe w' => e = .returned (.agg #[.int .i64 1,.int .i64 r2,.int .i64 r2,.int .i64 r2])/\Below W'.heap.size W' w')
    (hcln:∀W',Below W.heap.size W W' -> Calls Tryz.prog 76 #[v] W' λe w' => ∃v',e = .returned v' /\ EnR w' W'.heap.size v' s/\Below W'.heap.size W' w')
    (hk:¬k=3) (sp:List SpT) (hsp:sp.length<=1000) (hsl:∀W',Below W.heap.size W W' -> Calls Tryz.prog 193 #[.agg #[.int .u8 k,.int .i64 a,.int .i64 b],.int .i64 r1] W' λe w' => ∃v,e = .returned (.tuple #[v,.int .i64 0])/\SpOk w' W.heap.size W'.heap.size sp v/\Below W'.heap.size W' w') :
    Calls Tryz.prog 149 #[v,.agg #[.int .u8 k,.int .i64 a,.int .i64 b],.agg #[.int .i64 r0,.int .i64 r1,.int .i64 r2],.int .i64 side] W λe w' => ∃v',e = .returned (.tuple #[v',.int .i64 (finE (putS s (entS r0 r2 side 0 0) sp)).2])/\EnR w' W.heap.size v' (finE (putS s (entS r0 r2 side 0 0) sp)).1/\Below W.heap.size W w' := by
  have HCHK:=Lib.hid hchk;have HWIN:=Lib.hid hwin;have HACC:=Lib.hid hacc;have HCLN:=Lib.hid hcln;have HG:=Lib.hid hg;obtain⟨X,hX⟩:∃X,X=entS r0 r2 side 0 0:=⟨_,rfl⟩;rw[<- hX];obtain⟨M,hM⟩:∃M,M=putS s X sp:=⟨_,rfl⟩;rw[<- hM];have HX:=Lib.hid hX;have HMM:=Lib.hid hM;have hp:=Pb.new W k a b r0 r1 r2;obtain⟨W0,hW0⟩:∃W0,W0=(W.alloc (.cells #[.int .u8 k,.int .i64 a,.int .i64 b] 25)).alloc (.cells #[.int .i64 r0,.int .i64 r1,.int .i64 r2] 78):=⟨_,rfl⟩;rw[<- hW0]at hp;have hsz:W0.heap.size=W.heap.size+2:=by rw[hW0];simp
  have HP:=Lib.hid hp;clear hchk hwin hacc hcln hg hX hM hp;have HSL:=Lib.hid hsl;clear hsl;rcases hd with rfl|rfl<;>(
  go_enter Tryz.func149,Tryz.ntmps149;go_upto_region 1 with fail
  rw[<- hW0];clear hW0;go_wp2_with(first
   |(go_at_call 130;refine(HCHK.out _ HP.out.near).mono ?_;rintro e w1 ⟨rfl,hb1⟩;have HP:=Lib.hid (HP.out.next hb1);clear hb1;obtain⟨c50,c51,c52,c60,c61,c62,c5a⟩:=HP.out.cells)|(go_at_call 121;refine(HWIN.out _ HP.out.near).mono ?_;rintro e w2 ⟨rfl,hb1⟩;clear c50 c51 c52 c60 c61 c62 c5a;have HP:=Lib.hid (HP.out.next hb1);clear hb1;obtain⟨c50,c51,c52,c60,c61,c62,c5a⟩:=HP.out.cells)|(go_at_call 190;refine(HACC.out _ (HP.out.alloc _).near).mono ?_;rintro e w3 ⟨rfl,hb3⟩;clear c50 c51 c52 c60 c61 c62 c5a;have hbx:=(hb3.block _ (by simp)).trans (heap_alloc_new w2 (.cells #[.int .i64 r0,.int .i64 0,.int .i64 0,.int .i64 0,.int .i64 0,.int .i64 0,.int .i64 0,.int .i64 0,.int .i64 0,.int .i64 0,.int .i64 0] 152));have hw2:=HP.out.size;have HP:=Lib.hid ((HP.out.alloc _).next hb3);clear hb3)|(refine Zsq rfl 149 _ _ rfl #[.int .i64 1,.int .i64 r2,.int .i64 r2,.int .i64 r2] rfl rfl hbx (entA X) (by rw[HX.out];rfl) rfl Zfv ?_;intro w4 hx4 hg4;have hwl:w2.heap.size<w4.heap.size:=(Array.getElem?_eq_some_iff.1 hx4).1;have HP:=Lib.hid (HP.out.grown hg4 hw2);have H4:=Lib.hid hx4;clear hbx hx4 hg4)
   |(go_at_call 76;refine(HCLN.out _ HP.out.near).mono ?_;rintro e w5 ⟨v1,rfl,hr5,hb5⟩;have hw5:=HP.out.size;have HP:=Lib.hid (HP.out.next hb5);obtain⟨c50,c51,c52,c60,c61,c62,c5a⟩:=HP.out.cells;have H5:=Lib.hid (And.intro ((hb5.block _ hwl).trans H4.out) (EnR.base hr5 (show W.heap.size<=w4.heap.size by omega)));have hs5:w4.heap.size<=w5.heap.size:=hb5.size;have hne0:∀g,g<w4.heap.size->v1.ownBlock≠some g:=λg hg h=>Nat.not_le.2 hg (World.ownsRow.lt hr5 _ h).1;clear hb5 hr5 H4)|(go_at_call 193;refine(HSL.out _ HP.out.near).mono ?_;rintro e w6 ⟨v6,rfl,hsp6,hb6⟩;clear c50 c51 c52 c60 c61 c62 c5a;have hx6:=(hb6.block _ (by omega)).trans H5.out.1;have HP:=Lib.hid (HP.out.next hb6);have H6:=Lib.hid (H5.out.2.near hb6);have hw56:=hb6.size;obtain⟨ao,cc,rfl,hao⟩:=hsp6.1;have HX6:=Lib.hid hx6;clear hx6 hsp6 hb6))
  obtain⟨g,o,hg1,hg2,hg3,hg4⟩:∃g o,(sp≠[]->ao=some ⟨g,o,none⟩)/\(g<w6.heap.size/\g≠w2.heap.size)/\v1.ownBlock≠some g /\ ∀i p,sp[i]? = some p->w6.cell? ⟨g,o+i*2,none⟩=some (.int .i64 p.1)/\w6.cell? ⟨g,o+i*2+1,none⟩=some (.int .i64 p.2.1):=by
   by_cases hs0:sp=[];exact⟨W.heap.size,0,λh=>absurd hs0 h,⟨by omega,by omega⟩,hne0 _ (by omega),λi p hp=>by rw[hs0]at hp;simp at hp⟩;obtain⟨g,o,e1,e2,e3,e4⟩:=hao hs0;refine⟨g,o,λ_=>e1,⟨e2,by omega⟩,λh=>?_,e4⟩;have:=(World.ownsRow.lt H5.out.2 g h).2;rcases e3 with e3|e3
   exact hne0 g (by omega) h;omega
  have HS:=Lib.hid (show Sld W.heap.size w2.heap.size g o X sp M 0 (0,0,()) s v1 W w6 from⟨H6.out,by first|exact HX6.out|(rw[HX6.out,HX.out];rfl),HP.out.near,HMM.out.symm,by omega,⟨hne0 _ hwl,hg3⟩,hg2,hg4⟩);have hbxl:W.heap.size<=w2.heap.size:=by omega
  clear hao HP H5 H6 HX6 hg2 hg3 hg4 HMM hne0 HX;go_loopg[13,93] sp.length (λkx s13 s93 wr=>∃i es p,s93 = .int .i64 ((i:Nat):Int)/\i<=sp.length/\sp.length-i<=kx/\Aside (Sld W.heap.size w2.heap.size g o X sp M i p es s13 W wr))
  case atStart=>exact⟨0,s,(0,0,()),rfl,by omega,by omega,HS.out⟩
  case round =>
   obtain⟨i,es,p,rfl,hil,hkx,I⟩:=hrel;have HI:=Lib.hid I.out;clear I HS;by_cases hlt:i<sp.length
   . obtain⟨q,hq⟩:∃q,sp[i]? = some q:=⟨_,J0c hlt⟩;have HQ:=Lib.hid hq;obtain rfl:=hg1 (λh=>by rw[h]at hlt;simp at hlt);have d0:=(HI.out.cel i q hq).1;have d1:=(HI.out.cel i q hq).2;have hes:es.length<=100000:=by have:=HI.out.len;omega
     have HFN:=Lib.hid (λhE:¬(putE es (spn X q)).2=0=>show finE M=([],(putE es (spn X q)).2) by rw[(HI.out.set hbxl q).bad HQ.out hE,finE,if_neg hE]);clear hq;by_cases hE:(putE es (spn X q)).2=0;all_goals
      go_wp2_with(first
       |(refine wpList_store_mid rfl 106 _ _ rfl w2.heap.size 1 #[.int .i64 q.1,.int .i64 q.2.1] rfl rfl (Zrf HI.out.box (show 1+2<=11 by omega)) Z6p (by simp[Value.oneCell']) ?_;have HS1:=Lib.hid (HI.out.set hbxl q);clear d0 d1 HI;generalize wr.setCells w2.heap.size 1 [.int .i64 q.1,.int .i64 q.2.1]=wS at *)|(refine wpList_load_mid rfl 152 _ rfl w2.heap.size 0 rfl (entL (spn X q)) _ (Zd9 HS1.out.box) Tryz.underlying152 rfl Qy ?_)|(go_at_call 194;refine(Yui (x:=spn X q) HS1.out.row hes HS1.out.near.size (Yuj HG.out HS1.out.near)).mono ?_;rintro e w9 ⟨v9,rfl,hb9,hr9,hgr9,hne9⟩))
     . go_roundg(sp.length-(i+1))
       case measure=>omega
       case rel=>exact⟨i+1,_,q,rfl,by omega,Nat.le_refl _,HS1.out.put HQ.out hE hb9 (hr9 hE) hgr9 hne9⟩
     . go_ret2;rw[HFN.out hE];exact⟨.slice none 0 0,rfl,EnR.nil _ _,HS1.out.near.trans hb9⟩
   . have hie:i=sp.length:=by omega
     have hM:=HI.out.res;rw[List.drop_of_length_le (by omega),putS]at hM;obtain⟨p8,c8,rfl⟩:=Yaj HI.out.row;clear hg1;have HM2:=Lib.hid hM;clear hM;rcases fin3 (es,0)with⟨hE,hL2,hfin⟩|⟨hE,hL2,hfin⟩|⟨hE,hfin⟩
     . have HFN:=Lib.hid hfin;clear hfin;go_wp2;go_ret2;rw[<- HM2.out,HFN.out];exact⟨.slice p8 es.length c8,rfl,HI.out.row,HI.out.near⟩
     . have HFN:=Lib.hid hfin;clear hfin;go_wp2;go_ret2;rw[<- HM2.out,HFN.out];exact⟨.slice none 0 0,rfl,EnR.nil _ _,HI.out.near⟩
     exact absurd rfl hE)
end Tj
namespace Tj
open Go Go.RowKit Go.Proofs Go.Abs
abbrev WinT:=Int×Int×Int×Unit
abbrev RecT:=Int×Int×Int×Unit
structure AddOk(s:List Ent) (w:WinT) (r:RecT) (side:Int):Prop where
 chk:Tg.Zck s=some (0,())
 win:Tg.Yh w=some (0,())
 sd:side=0∨side=1
 tm : -1099511627776<=r.2.1/\r.2.1<=1099511627776
 len:s.length<=4000
 ses:w.1=3->Tg.Xb 0 w.2.1=some (0,())/\Tg.Xb r.2.1 w.2.1=some (0,())/\1<=w.2.1/\w.2.1<=1073741824
 sld:¬w.1=3 -> ∃l,Tg.Zna w r.2.1=some (l,0,())/\l.length<=1000
noncomputable def spansOf(w:WinT)(t:Int):List SpT:=match Tg.Zna w t with|some x=>x.1|none=>[]
noncomputable def addE(s:List Ent)(w:WinT)(r:RecT)(side:Int):List Ent×Int:=if w.1=3 then finE (Zkl (s.length+1) s (spn (entS r.1 r.2.2.1 side 0 0) (r.2.1,r.2.1+w.2.1,())))else finE (putS s (entS r.1 r.2.2.1 side 0 0) (spansOf w r.2.1))
open Classical in
noncomputable def addO(s:List Ent)(w:WinT)(r:RecT)(side:Int):Option (List Ent×Int×Unit):=if AddOk s w r side then some ((addE s w r side).1,(addE s w r side).2,())else none
theorem Ypm(M:List Ent×Int)(h:(finE M).2=0):(finE M).1.length<=4000:=by grind[finE]
variable {O:Nat->Prop}{W:World}
theorem Y02{v:Value}{s:List Ent}(h:Tg.Zck s=some (0,()))(hv:PRel W O (.sl (s.map λx=>(entI x).map λn=>PV.int .i64 n)) v)(hO:∀g,O g->g<W.heap.size)(hg:Zv W.heap.size W) :
    Calls Tryz.prog 130 #[v] W λe w' => e = .returned (.int .i64 0)/\Below W.heap.size W w' := by
  refine(Tg.Ymg (s,()) _ h O W #[v] hO hg ⟨rfl,λi p u hp hu=>?_⟩).mono λe w' ⟨u,ι,he,_,hr,hu⟩=>?_
  match i,hp,hu with|0,hp,hu=>cases hp;cases hu;exact .c _ _ hv
  cases hu with|p _ _ hp=>cases hp;exact⟨he,hr.below⟩
variable {k a b:Int}
theorem Y03(h:Tg.Yh (k,a,b,())=some (0,()))(hg:Zv W.heap.size W) :
    Calls Tryz.prog 121 #[.agg #[.int .u8 k,.int .i64 a,.int .i64 b]] W λe w' => e = .returned (.int .i64 0)/\Below W.heap.size W w' := by
  refine(Tg.Yne ((k,a,b,()),()) _ h no W #[.agg #[.int .u8 k,.int .i64 a,.int .i64 b]] (λ_ h=>h.elim) hg ⟨rfl,λi p u hp hu=>?_⟩).mono λe w' ⟨u,ι,he,_,hr,hu⟩=>?_
  match i,hp,hu with
  |0,hp,hu =>
   cases hp;cases hu;exact .a _ _ rfl λj p v h1 h2=>by
    match j,h1,h2 with|0,h1,h2=>cases h1;cases h2;exact .int _ _|1,h1,h2=>cases h1;cases h2;exact .int _ _|2,h1,h2=>cases h1;cases h2;exact .int _ _
  cases hu with|p _ _ hp=>cases hp;exact⟨he,hr.below⟩
theorem Y04{v:Int}(hg:Zv W.heap.size W) :
    Calls Tryz.prog 190 #[.int .i64 v] W λe w' => e = .returned (.agg #[.int .i64 1,.int .i64 v,.int .i64 v,.int .i64 v])/\Below W.heap.size W w' := by
  refine(Tg.Y0r (v,()) _ (Tg.Z95 v) no W #[.int .i64 v] (λ_ h=>h.elim) hg ⟨rfl,λi p u hp hu=>?_⟩).mono λe w' ⟨u,ι,he,_,hr,hu⟩=>?_
  match i,hp,hu with|0,hp,hu=>cases hp;cases hu;exact .c _ _ (.int _ _)
  obtain rfl:=Z3s (l:=[1,v,v,v]) hu;exact⟨he,hr.below⟩
variable {lo:Nat}
theorem Ys6{w:World}{hi: Nat}{l:List SpT}{v:Value}(hO:∀g,¬O g->g<lo∨hi<=g)(h:PRel w O (.sl (l.map λ(p:SpT)=>[PV.int .i64 p.1,PV.int .i64 p.2.1])) v):SpOk w lo hi l v:=by
 generalize hes:l.map (λ(p:SpT)=>[PV.int .i64 p.1,PV.int .i64 p.2.1])=es at h;cases h with
 |nil a c =>
  have h0:l=[]:=by simpa using hes
  subst h0;exact⟨a,c,rfl,λh=>absurd rfl h⟩
 |sl _ a n c size u hno hlt hn hc hsz hcell hrel =>
  have hget:∀(i:Nat) (p:SpT),l[i]? = some p->es[i]? = some [PV.int .i64 p.1,PV.int .i64 p.2.1]:=λi p hp=>by grind
  have hlen:n=l.length:=by grind
  subst hlen;refine⟨some a,c,rfl,λh0=>?_⟩;have key:∀(i:Nat) (p:SpT),l[i]? = some p->w.cell? (a.add (i*2))=some (.int .i64 p.1)/\w.cell? (a.add (i*2+1))=some (.int .i64 p.2.1):=λi p hp=>by have hs:size=2:=(hsz i _ (hget i p hp)).symm;subst hs;have c0:=hcell i _ (hget i p hp) 0 _ rfl;have c1:=hcell i _ (hget i p hp) 1 _ rfl;have r0:=hrel i _ (hget i p hp) 0 _ rfl;have r1:=hrel i _ (hget i p hp) 1 _ rfl;generalize u i 0=u0 at c0 r0;generalize u i 1=u1 at c1 r1;cases r0;cases r1;exact⟨c0,c1⟩
  obtain⟨p0,l',rfl⟩:=List.exists_cons_of_ne_nil h0;have hk:=(key 0 p0 rfl).1;obtain⟨ab,ao,asp⟩:=a;have hsp:asp=none:=by
   have h1:(⟨ab,ao,asp⟩:Addr).add (0*2)=⟨ab,ao,asp⟩:=rfl;rw[h1]at hk;unfold World.cell? at hk;cases asp with|none=>rfl|some x=>grind
  grind[Addr.add_mid]
theorem Ys7{t: Int}{l:List SpT}(h:Tg.Zna (k,a,b,()) t=some (l,0,()))(hg:Zv W.heap.size W) :
    Calls Tryz.prog 193 #[.agg #[.int .u8 k,.int .i64 a,.int .i64 b],.int .i64 t] W λe w' => ∃v,e = .returned (.tuple #[v,.int .i64 0])/\SpOk w' lo W.heap.size l v/\Below W.heap.size W w' := by
  refine(Tg.Y0x ((k,a,b,()),t,()) _ h (λg=>lo<=g/\g<W.heap.size) W #[.agg #[.int .u8 k,.int .i64 a,.int .i64 b],.int .i64 t] (λ_ h=>h.2) hg ⟨rfl,λi p u hp hu=>?_⟩).mono λe w' ⟨u,ι,he,hι,hr,hu⟩=>?_
  match i,hp,hu with
  |0,hp,hu =>
   cases hp;cases hu;exact .a _ _ rfl λj p v h1 h2=>by
    match j,h1,h2 with|0,h1,h2=>cases h1;cases h2;exact .int _ _|1,h1,h2=>cases h1;cases h2;exact .int _ _|2,h1,h2=>cases h1;cases h2;exact .int _ _
  |1,hp,hu=>cases hp;cases hu;exact .c _ _ (.int _ _)
  obtain⟨p,q,rfl,h1,h2⟩:=Z3r hu;cases h2 with|p _ _ hp => cases hp;cases h1 with|p _ _ hp=>refine⟨p,he,?_,hr.below⟩;refine Ys6 (λg hg=>?_) hp;have h3:¬(lo<=g/\g<W.heap.size):=λh4=>hg (Or.inl (by rw[hι];exact h4));omega
theorem Z3v:∀{es:List Ent} {j:Nat} {u:Value},(Ym es)[j]? = some u -> ∃x,es[j / 11]? = some x/\(entL x)[j % 11]? = some u
 |[],j,u,h=>by simp[Ym]at h|x::es,j,u,h=>by
  rw[Zjs]at h;by_cases hj:j<11;grind[Zip];rw[J0o (by rw[Zip];omega),Zip]at h;obtain⟨y,h1,h2⟩:=Z3v h;grind
theorem Y05{v:Value}{s:List Ent}{W': World}(hv:PRel W O (.sl (s.map λx=>(entI x).map λn=>PV.int .i64 n)) v)(hn:s.length<=4000)(hb:Below W.heap.size W W') :
    Calls Tryz.prog 76 #[v] W' λe w' => ∃v',e = .returned v' /\ EnR w' W'.heap.size v' s/\Below W'.heap.size W' w' := by
  generalize hes:s.map (λx=>(entI x).map λn=>PV.int .i64 n)=es at hv;cases hv with
  |nil a c =>
   have h0:s=[]:=by simpa using hes
   subst h0;cases a with|none=>exact(Yep c W').mono λe w' ⟨h1,h2⟩=>⟨_,h1,EnR.nil _ _,by grind[Below.refl]⟩|some a=>exact Ypl W'.heap.size a 0 c [] W' (λj u hj=>by simp at hj) rfl (λu hu=>by simp at hu) (by omega) (Nat.le_refl _)
  |sl _ a n c size u hno hlt hn2 hc hsz hcell hrel =>
   have hget:∀(i:Nat) (x:Ent),s[i]? = some x->es[i]? = some ((entI x).map λn=>PV.int .i64 n):=λi x hx=>by grind
   have hlen:n=s.length:=by grind
   subst hlen;refine Ypl W'.heap.size a s.length c (Ym s) W' (λj q hj=>?_) (Zd8 s) (Zsp s) (by omega) (Nat.le_refl _);obtain⟨x,h1,h2⟩:=Z3v hj;have hs:size=11:=(hsz _ _ (hget _ x h1)).symm;subst hs;have hlt2:j % 11<11:=Nat.mod_lt _ (by omega);obtain⟨pp,hpv⟩:∃pp,((entI x).map λn=>PV.int .i64 n)[j % 11]? = some pp:=⟨_,J0c (show j % 11<11 from hlt2)⟩;have c0:=hcell _ _ (hget _ x h1) (j % 11) _ hpv;have r0:=hrel _ _ (hget _ x h1) (j % 11) _ hpv;rw[show j / 11*11+j % 11=j by omega]at c0;have hq:u (j / 11) (j % 11)=q:=by
    have h3:(entL x)[j % 11]? = some q:=h2;generalize u (j / 11) (j % 11)=uu at r0;generalize j % 11=m at *
    match m,hpv,r0,h3 with|0,hpv,r0,h3=>cases hpv;cases r0;cases h3;rfl|1,hpv,r0,h3=>cases hpv;cases r0;cases h3;rfl|2,hpv,r0,h3=>cases hpv;cases r0;cases h3;rfl|3,hpv,r0,h3=>cases hpv;cases r0;cases h3;rfl|4,hpv,r0,h3=>cases hpv;cases r0;cases h3;rfl|5,hpv,r0,h3=>cases hpv;cases r0;cases h3;rfl|6,hpv,r0,h3=>cases hpv;cases r0;cases h3;rfl|7,hpv,r0,h3=>cases hpv;cases r0;cases h3;rfl|8,hpv,r0,h3=>cases hpv;cases r0;cases h3;rfl|9,hpv,r0,h3=>cases hpv;cases r0;cases h3;rfl|10,hpv,r0,h3=>cases hpv;cases r0;cases h3;rfl|m+11,_,_,_=>omega
   rw[<- hq,<- c0];exact World.cell?_of_block (hb.block _ (by grind[Zc]))
theorem Y06{v:Value}{s:List Ent}{r0 r1 r2 side: Int}(h:AddOk s (k,a,b,()) (r0,r1,r2,()) side)(hv:PRel W O (.sl (s.map λx=>(entI x).map λn=>PV.int .i64 n)) v)(hO:∀g,O g->g<W.heap.size)(hg:Zv W.heap.size W) :
    Calls Tryz.prog 149 #[v,.agg #[.int .u8 k,.int .i64 a,.int .i64 b],.agg #[.int .i64 r0,.int .i64 r1,.int .i64 r2],.int .i64 side] W λe w' =>
     ∃v',e = .returned (.tuple #[v',.int .i64 (addE s (k,a,b,()) (r0,r1,r2,()) side).2])/\EnR w' W.heap.size v' (addE s (k,a,b,()) (r0,r1,r2,()) side).1/\Below W.heap.size W w' := by
  have fx:∀W',Below W.heap.size W W' -> Fix W O W' O:=λW' hb=>⟨hb.size,λg hg _=>hb.block g hg,λ_ _ h=>h⟩;have h1:=λW' (hb:Below W.heap.size W W')=>Y02 h.chk (hv.fix (fx W' hb)) (λg ho=>Nat.lt_of_lt_of_le (hO g ho) hb.size) (Zt0 hg hb);have h2:=λW' (hb:Below W.heap.size W W')=>Y03 h.win (Zt0 hg hb);have h3:=λW' (hb:Below W.heap.size W W')=>Y04 (v:=r2) (Zt0 hg hb);have h4:=λW' (hb:Below W.heap.size W W')=>Y05 hv h.len hb;by_cases hk:k=3;subst hk;obtain⟨s1,s2,s3,s4⟩:=h.ses rfl;unfold addE;rw[if_pos rfl];exact Ys4 v a b r0 r1 r2 side s W hg h.sd h.tm h.len h1 h2 h3 h4 ⟨s3,s4⟩ s1 s2;obtain⟨l,l1,l2⟩:=h.sld hk;have hs:spansOf (k,a,b,()) r1=l:=by grind[spansOf]
  have h5:=λW' (hb:Below W.heap.size W W')=>Ys7 (lo:=W.heap.size) l1 (Zt0 hg hb);unfold addE;rw[if_neg hk,hs];exact Ys5 v k a b r0 r1 r2 side s W hg h.sd h.tm h.len h1 h2 h3 h4 hk l l2 h5
end Tj
namespace Tj
open Go Go.RowKit Go.Proofs Go.Abs
def entP(x:Ent):List PV:=(entI x).map λn=>PV.int .i64 n
theorem Ys8{w:World}{O:Nat->Prop}{B:Nat}{v:Value}{es:List Ent}(h:EnR w B v es)(hO:∀g,O g->g<B):PRel w O (.sl (es.map entP)) v:=by
 rcases h.2 with⟨rfl,h0⟩|⟨g,cap,cur,rfl,hbg,hg,hnc,hcm,hcs,htake⟩
 have h1:es=[]:=List.length_eq_zero_iff.1 h0;subst h1;exact .nil none 0;have hat:∀(i:Nat) (e:List PV),(es.map entP)[i]? = some e -> ∃x,es[i]? = some x/\e=entP x:=λi e he=>by grind
 refine .sl _ ⟨g,0,none⟩ _ cap 11 (λi j=>((entL (es.getD i (0,0,0,0,0,0,0,0,0,0,0,())))[j]?).getD undef) (λho=>by grind) (Array.getElem?_eq_some_iff.1 hg).1 (by simp) hnc (λi e he=>?_) (λi e he j x hx=>?_) (λi e he j x hx=>?_);obtain⟨y,_,rfl⟩:=hat i e he;rfl;obtain⟨y,hy,rfl⟩:=hat i e he;have hgd:es.getD i (0,0,0,0,0,0,0,0,0,0,0,())=y:=by grind
 have hj:j<11:=(J0d.1 hx).1;obtain⟨u,hu⟩:∃u,(entL y)[j]? = some u:=⟨_,J0c (show j<11 from hj)⟩;rw[hgd,hu,Addr.add_mid,Nat.zero_add];exact EnR.range h hy j u hu;obtain⟨y,hy,rfl⟩:=hat i e he;have hgd:es.getD i (0,0,0,0,0,0,0,0,0,0,0,())=y:=by grind
 have hj:j<11:=(J0d.1 hx).1;obtain⟨u,hu⟩:∃u,(entL y)[j]? = some u:=⟨_,J0c (show j<11 from hj)⟩;rw[hgd,hu];exact Zy9 (l:=entI y) hx hu
theorem spA(s:List Ent)(k a b r0 r1 r2 side:Int)(h:AddOk s (k,a,b,()) (r0,r1,r2,()) side) :
    Spec Tryz.prog 149 [.c (.sl (s.map entP)),.a [.int .u8 k,.int .i64 a,.int .i64 b],.a [.int .i64 r0,.int .i64 r1,.int .i64 r2],.c (.int .i64 side)]
     [.c (.c (.sl ((addE s (k,a,b,()) (r0,r1,r2,()) side).1.map entP))),.c (.c (.int .i64 (addE s (k,a,b,()) (r0,r1,r2,()) side).2))]:=by
  intro O w cargs hO hg hp;obtain⟨v,rfl,hv⟩:∃v,cargs=#[v,.agg #[.int .u8 k,.int .i64 a,.int .i64 b],.agg #[.int .i64 r0,.int .i64 r1,.int .i64 r2],.int .i64 side]/\PRel w O (.sl (s.map entP)) v:=by
   obtain⟨h1,h2⟩:=hp;obtain⟨l⟩:=cargs
   match l,h1 with
   |[u,y,z,q],_ =>
    have e0:=h2 0 _ u rfl rfl;have e1:=h2 1 _ y rfl rfl;have e2:=h2 2 _ z rfl rfl;have e3:=h2 3 _ q rfl rfl;cases e3 with
    |c _ _ hz =>
     cases hz;cases e0 with
     |c _ _ hu =>
      cases e1 with
      |a _ vs hl hr =>
       cases e2 with
       |a _ ws hm hs =>
        obtain⟨vs⟩:=vs;obtain⟨ws⟩:=ws
        match vs,hl,ws,hm with|[x0,x1,x2],_,[y0,y1,y2],_=>have a0:=hr 0 _ x0 rfl rfl;have a1:=hr 1 _ x1 rfl rfl;have a2:=hr 2 _ x2 rfl rfl;have b0:=hs 0 _ y0 rfl rfl;have b1:=hs 1 _ y1 rfl rfl;have b2:=hs 2 _ y2 rfl rfl;cases a0;cases a1;cases a2;cases b0;cases b1;cases b2;grind
  refine(Y06 h hv hO hg).mono λx w' ⟨v',he,hr,hb⟩=>?_;refine⟨_,⟨λ_=>undef,O,0,[]⟩,he,rfl,⟨hb,Nat.le_refl _,hO,hg,λt o ho=>by grind[Za,Zbr,Yg],λt t' g h1 _ _ _=>by grind[Za,Zbr,Yg]⟩,?_⟩;refine .tuple _ _ rfl λi x u h1 h2=>?_
  match i,h1,h2 with|0,h1,h2=>cases h1;cases h2;exact .p _ _ (Ys8 hr (λg hg=>hg.elim (hO g) (λ⟨t,ht,_⟩=>absurd ht (Nat.not_lt_zero _))))|1,h1,h2=>cases h1;cases h2;exact .p _ _ (.int _ _)|i+2,h1,_=>grind
end Tj
namespace Tg
open Go Go.Abs Go.RowKit Go.Proofs
noncomputable def Zea(a0:List (Int×Int×Int×Int×Int×Int×Int×Int×Int×Int×Int×Unit))(a1:Int×Int×Int×Unit)(a2:Int×Int×Int×Unit)(a3:Int):Option (List (Int×Int×Int×Int×Int×Int×Int×Int×Int×Int×Int×Unit)×Int×Unit):=hid (λa b c d=>Tj.addO a b c d) a0 a1 a2 a3
noncomputable def Z6s:TCon:=⟨[.c (.sl [.int .i64,.int .i64,.int .i64,.int .i64,.int .i64,.int .i64,.int .i64,.int .i64,.int .i64,.int .i64,.int .i64]),.a [.int .u8,.int .i64,.int .i64],.a [.int .i64,.int .i64,.int .i64],.c (.int .i64)],[.c (.p (.sl [.int .i64,.int .i64,.int .i64,.int .i64,.int .i64,.int .i64,.int .i64,.int .i64,.int .i64,.int .i64,.int .i64])),.c (.p (.int .i64))],λa=>Zea a.1 a.2.1 a.2.2.1 a.2.2.2.1⟩
theorem Ypn:Z6s.ok Go.Proofs.Tryz.prog 149:=λa r h=>by
 obtain⟨s,⟨k,a,b,u⟩,⟨r0,r1,r2,u2⟩,side,u3⟩:=a;have key:∀r,Zea s (k,a,b,()) (r0,r1,r2,()) side=some r->Spec Tryz.prog 149 [.c (.sl (s.map Tj.entP)),.a [.int .u8 k,.int .i64 a,.int .i64 b],.a [.int .i64 r0,.int .i64 r1,.int .i64 r2],.c (.int .i64 side)] [.c (.c (.sl (r.1.map Tj.entP))),.c (.c (.int .i64 r.2.1))]:=λr h=>by
  unfold Zea at h;rw[Za2]at h;unfold Tj.addO at h;split at h;obtain rfl:=J0a h;exact Tj.spA s k a b r0 r1 r2 side (by assumption);cases h
 exact key r h
end Tg
