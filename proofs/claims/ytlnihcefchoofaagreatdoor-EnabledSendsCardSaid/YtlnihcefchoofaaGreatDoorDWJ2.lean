import Derived.Shelf.Sort.Plain
import Derived.Shelf.Slices.In.SortNone
import Derived.Sort.OwnSortedInts
import Derived.Test.YtlnihcefchoofaaGreatDoorDWJ0
set_option linter.all false
namespace Tj
open Go Go.RowKit Go.Proofs Go.Shelf
def Yvm:Go.Shelf.Ren:=⟨λ|189=>181|125=>80|257=>217|128=>142|129=>143|294=>250|295=>251|296=>252|297=>253|298=>254|299=>255|216=>256|300=>257|301=>258|328=>281|329=>185|330=>186|331=>282|332=>283|215=>81|343=>307|n=>n,λ|28=>23|3=>3|46=>157|0=>0|51=>220|53=>222|4=>4|183=>213|182=>212|131=>217|5=>5|9=>9|218=>279|222=>283|228=>322|229=>118|n=>n,λ|n=>n⟩
theorem Ygr:Go.Proofs.Lays.n189 Tryz.prog Yvm:={
 mixed:=by kernel_rfl
 f125:=Tryz.func80.trans (congrArg some (by kernel_rfl))
 f128:=Tryz.func142.trans (congrArg some (by kernel_rfl))
 f129:=Tryz.func143.trans (congrArg some (by kernel_rfl))
 f189:=Tryz.func181.trans (congrArg some (by kernel_rfl))
 f215:=Tryz.func81.trans (congrArg some (by kernel_rfl))
 f216:=Tryz.func256.trans (congrArg some (by kernel_rfl))
 f257:=Tryz.func217.trans (congrArg some (by kernel_rfl))
 f294:=Tryz.func250.trans (congrArg some (by kernel_rfl))
 f295:=Tryz.func251.trans (congrArg some (by kernel_rfl))
 f296:=Tryz.func252.trans (congrArg some (by kernel_rfl))
 f297:=Tryz.func253.trans (congrArg some (by kernel_rfl))
 f298:=Tryz.func254.trans (congrArg some (by kernel_rfl))
 f299:=Tryz.func255.trans (congrArg some (by kernel_rfl))
 f300:=Tryz.func257.trans (congrArg some (by kernel_rfl))
 f301:=Tryz.func258.trans (congrArg some (by kernel_rfl))
 f328:=Tryz.func281.trans (congrArg some (by kernel_rfl))
 f329:=Tryz.func185.trans (congrArg some (by kernel_rfl))
 f330:=Tryz.func186.trans (congrArg some (by kernel_rfl))
 f331:=Tryz.func282.trans (congrArg some (by kernel_rfl))
 f332:=Tryz.func283.trans (congrArg some (by kernel_rfl))
 f343:=Tryz.func307.trans (congrArg some (by kernel_rfl))
 t0:=Tryz.underlying0
 a0:=Tryz.isAgg0
 z0:=Tryz.sizeOf0
 v0:=Tryz.zeroValue0
 t3:=Tryz.underlying3
 a3:=Tryz.isAgg3
 z3:=Tryz.sizeOf3
 v3:=Tryz.zeroValue3
 t4:=Tryz.underlying4
 a4:=Tryz.isAgg4
 z4:=Tryz.sizeOf4
 v4:=Tryz.zeroValue4
 t5:=Tryz.underlying5
 a5:=Tryz.isAgg5
 z5:=Tryz.sizeOf5
 v5:=Tryz.zeroValue5
 t9:=Tryz.underlying9
 a9:=Tryz.isAgg9
 z9:=Tryz.sizeOf9
 v9:=Tryz.zeroValue9
 t28:=Tryz.underlying23
 a28:=Tryz.isAgg23
 z28:=Tryz.sizeOf23
 v28:=Tryz.zeroValue23
 t46:=Tryz.underlying157
 a46:=Tryz.isAgg157
 z46:=Tryz.sizeOf157
 v46:=Tryz.zeroValue157
 t51:=Tryz.underlying220
 a51:=Tryz.isAgg220
 z51:=Tryz.sizeOf220
 v51:=Tryz.zeroValue220
 t53:=Tryz.underlying222
 a53:=Tryz.isAgg222
 z53:=Tryz.sizeOf222
 v53:=Tryz.zeroValue222
 t131:=Tryz.underlying217
 a131:=Tryz.isAgg217
 z131:=Tryz.sizeOf217
 v131:=Tryz.zeroValue217
 t182:=Tryz.underlying212
 a182:=Tryz.isAgg212
 z182:=Tryz.sizeOf212
 v182:=Tryz.zeroValue212
 t183:=Tryz.underlying213
 a183:=Tryz.isAgg213
 z183:=Tryz.sizeOf213
 v183:=Tryz.zeroValue213
 t218:=Tryz.underlying279
 a218:=Tryz.isAgg279
 z218:=Tryz.sizeOf279
 v218:=Tryz.zeroValue279
 t222:=Tryz.underlying283
 a222:=Tryz.isAgg283
 z222:=Tryz.sizeOf283
 v222:=Tryz.zeroValue283
 t228:=Tryz.underlying322
 a228:=Tryz.isAgg322
 z228:=Tryz.sizeOf322
 v228:=Tryz.zeroValue322
 t229:=Tryz.underlying118
 a229:=Tryz.isAgg118
 z229:=Tryz.sizeOf118
 v229:=Tryz.zeroValue118 }
end Tj
namespace Tj
open Go Go.RowKit Go.Proofs Go.Sort
def srt(l:List Int):List Int:=l.mergeSort λx y=>decide (x<=y)
def upto(n:Nat):List Int:=(List.range n).map Int.ofNat
def Zbn(l:List Int)(lo hi:Int):Bool:=decide (srt l=upto l.length)&&(decide (lo<=(l.length:Int))&&decide ((l.length:Int)<=hi))
theorem Znv(l:List Int):(srt l).length=l.length:=List.length_mergeSort l
theorem Z8y{n i:Nat}(h:i<n):(upto n)[i]? = some (i:Int):=by simp[upto,h]
theorem Ylw(n:Nat):(upto n).length=n:=by simp[upto]
theorem Yi1{l:List Int}{i:Nat}{x:Int}(lo hi:Int)(h:(srt l)[i]? = some x)(hx:x≠i):Zbn l lo hi=false:=by
 have hi' : i<l.length:=by rw[<- Znv];grind
 have:srt l≠upto l.length:=λe=>by rw[e,Z8y hi']at h;grind
 simp[Zbn,this]
theorem Zxa{l:List Int}(lo hi:Int)(h:∀i,i<l.length->(srt l)[i]? = some (i:Int)):Zbn l lo hi=(decide (lo<=(l.length:Int))&&decide ((l.length:Int)<=hi)):=by
 have:srt l=upto l.length:=by
  apply List.ext_getElem?;intro i;by_cases hi:i<l.length;rw[h i hi,Z8y hi];rw[List.getElem?_eq_none (by rw[Znv];omega),List.getElem?_eq_none (by rw[Ylw];omega)]
 simp[Zbn,this]
theorem Z8z{w:World}{g cap:Nat}{l:List Int}{cur:Array Value}(hcs:cur.size=cap*1)(hcl:l.length<=cap)(h:w.heap[g]? = some (.cells (putCells (Value.int .i64) 0 (srt l).toArray cur) 3 (0,0)))(i:Nat)(x:Int)(hx:(srt l)[i]? = some x):w.cell? ⟨g,i,none⟩=some (.int .i64 x):=by
 have hi:i<(srt l).length:=(List.getElem?_eq_some_iff.1 hx).1;have htk:=take_putCellsI cur (srt l) (by rw[Znv,hcs];omega);have:(putCells (Value.int .i64) 0 (srt l).toArray cur)[i]? = some (.int .i64 x):=by
  have h2:((putCells (Value.int .i64) 0 (srt l).toArray cur).toList.take (srt l).length)[i]? = some (.int .i64 x):=by grind
  grind
 exact(Yc h this).1
theorem Z80{w w2:World}{o:Obj}{r:Option Nat}(h:(w.alloc o).grownBy w2 r):w.grownBy w2 r:=⟨h.1,h.2,h.3,Nat.le_trans (by simp) h.4,λk hk hne=>by rw[h.block k (by simp;omega) hne,Below.heap_alloc _ _ _ hk]⟩
set_option maxRecDepth 100000 in
set_option maxHeartbeats 2000000 in
theorem Ylx(g cap:Nat)(l:List Int)(lo hi:Int)(w:World)(hl:l.length<=1000)(hcl:l.length<=cap)(hcm:cap<=maxLen)(cur:Array Value)(hcs:cur.size=cap*1)(hb:w.heap[g]? = some (.cells cur 3 (0,0)))(ht:cur.toList.take l.length=l.map (Value.int .i64)) :
    Calls Tryz.prog 124 #[.slice (some ⟨g,0,none⟩) l.length cap,.agg #[.int .i64 lo,.int .i64 hi]] w λe w' => e = .returned (.bool (Zbn l lo hi))/\w.grownBy w' (some g):=by
  have hg:g<w.heap.size:=(Array.getElem?_eq_some_iff.1 hb).1;have hH:=holds_of_blockI hb ht;have HH:=Lib.hid hH;clear hH;obtain⟨n,hn⟩:∃n,n=l.length:=⟨_,rfl⟩;have HB:=Lib.hid hb;have HT:=Lib.hid ht;have HC:=Lib.hid hcs;clear hb ht hcs;go_enter Tryz.func124,Tryz.ntmps124;go_wp2_with(go_at_call 181;refine(Any.slices_Sort_int Ygr g 0 cap l _ (holds_of_blockI (Xn _ HB.out hg) HT.out) (by simp;omega) (by omega)).mono ?_);rintro e w2 ⟨rfl,k,os,hw2⟩;have hg0:(w.alloc (.cells #[.int .i64 lo,.int .i64 hi] 199)).heap[g]? = some (.cells cur 3 (0,0)):=Xn _ HB.out hg;have hrow:w2.heap[g]? = some (.cells (putCells (Value.int .i64) 0 (srt l).toArray cur) 3 (0,0)):=by rw[hw2];exact heap_sortedI _ hg0
  have hgr:(w.alloc (.cells #[.int .i64 lo,.int .i64 hi] 199)).grownBy w2 (some g):=by rw[hw2];exact grownBy_sortedI _
  have hcell:=Z8z HC.out hcl hrow;have hbk:w2.heap[w.heap.size]? = some (.cells #[.int .i64 lo,.int .i64 hi] 199 (0,0)):=by rw[hgr.block _ (by simp) (λe=>by grind)];exact heap_alloc_new w _
  have hfin:w.grownBy w2 (some g):=Z80 hgr;have HCELL:=Lib.hid hcell;have x0:w2.cell? ⟨w.heap.size,0,none⟩=some (.int .i64 lo):=(Yc hbk rfl).1;have x1:w2.cell? ⟨w.heap.size,1,none⟩=some (.int .i64 hi):=(Yc hbk rfl).1;clear hw2 hg0 hcell hrow hgr hbk;have X0:=Lib.hid x0;have X1:=Lib.hid x1;clear x0 x1;rw[<- hn];go_wp2;go_loopw[11] (λi wr=>∃k:Nat,k<=n/\i = .int .i64 k/\wr=w2 /\ ∀j,j<k->(srt l)[j]? = some (j:Int)) (λi _=>n-(RowKit.intOf i).toNat)
  case atStart=>grind
  case round =>
   obtain⟨q,hq,rfl,rfl,hall⟩:=hrel;have HA:=Lib.hid hall;clear hall;by_cases hlt:q<n
   . obtain⟨x,hx⟩:∃x,(srt l)[q]? = some x:=⟨_,List.getElem?_eq_getElem (by rw[Znv];omega)⟩;have c0:=HCELL.out q x hx;have HX:=Lib.hid hx;clear hx;by_cases hxq:x=q
     . subst hxq;go_wp2;go_roundw
       case rel => refine⟨q+1,by omega,by go_num,by grind,λj hj=>?_⟩;by_cases hjq:j=q;subst hjq;exact HX.out;exact HA.out j (by omega)
       case measure=>simp[RowKit.intOf];omega
     . have hne:(x != q)=true:=by grind
       go_wp2;go_ret;exact⟨by rw[Yi1 lo hi HX.out hxq];rfl,hfin⟩
   . have hqe:q=n:=by omega
     subst hqe;have x0:=X0.out;have x1:=X1.out;have hres:=Zxa lo hi (l:=l) (λi hi=>HA.out i (by omega));rw[<- hn]at hres;have HRES:=Lib.hid hres;clear hres;by_cases h1:lo<=(q:Int)
     . go_wp2;go_ret;have e1:Zbn l lo hi=decide ((l.length:Int)<=hi):=by rw[HRES.out,<- hn];simp[h1]
       simp_all
     . go_wp2;go_ret;exact⟨by rw[show Zbn l lo hi=false from by rw[HRES.out];grind];rfl,hfin⟩
set_option maxRecDepth 100000 in
set_option maxHeartbeats 2000000 in
theorem Yly(p:Option Addr)(c:Nat)(lo hi:Int)(w:World) :
    Calls Tryz.prog 124 #[.slice p 0 c,.agg #[.int .i64 lo,.int .i64 hi]] w λe w' => e = .returned (.bool (Zbn [] lo hi))/\w.grownBy w' none:=by
  have hres:=Zxa lo hi (l:=[]) (λi hi=>absurd hi (Nat.not_lt_zero _));have HRES:=Lib.hid hres;clear hres;go_enter Tryz.func124,Tryz.ntmps124;go_wp2_with(go_at_call 181;refine(Any.slices_Sort_int_none Ygr p c _).mono ?_);rintro e w2 ⟨rfl,rfl⟩;go_wp2;go_loopw[11] (λi wr=>i = .int .i64 0/\wr=w.alloc (.cells #[.int .i64 lo,.int .i64 hi] 199)) (λ_ _=>0)
  case atStart=>grind
  case round =>
   obtain⟨rfl,rfl⟩:=hrel;by_cases h1:lo<=0
   . go_wp2;go_ret;have e1:Zbn [] lo hi=decide (0<=hi):=by rw[HRES.out];simp[h1]
     exact⟨by rw[e1];rfl,World.grownBy_alloc _ _ _⟩
   . go_wp2;go_ret;exact⟨by rw[show Zbn [] lo hi=false from by rw[HRES.out];grind];rfl,World.grownBy_alloc _ _ _⟩
theorem Z81(base:Nat)(v:Value)(l:List Int)(lo hi:Int)(w:World)(hl:l.length<=1000)(hv:w.ownsRow base 3 1 v l.length (l.map (.int .i64))) :
    Calls Tryz.prog 124 #[v,.agg #[.int .i64 lo,.int .i64 hi]] w λe w' => e = .returned (.bool (Zbn l lo hi))/\w.grownBy w' v.ownBlock:=by
  obtain⟨h1,h2⟩:=hv;rcases h2 with⟨rfl,h0⟩|⟨g,cap,cur,rfl,hb,hg,hn,hc,hs,ht⟩
  have:l=[]:=List.length_eq_zero_iff.1 h0;subst this;exact Yly none 0 lo hi w;rw[Nat.mul_one]at ht;exact Ylx g cap l lo hi w hl hn hc cur hs hg ht
end Tj
namespace Tj
open Go Go.RowKit Go.Proofs
def upd{α:Type}(Y:Bool->Nat->α)(b0:Bool)(j0:Nat)(v:α):Bool->Nat->α:=λb j=>if b=b0/\j=j0 then v else Y b j
variable {α:Type}
theorem Zph(Y:Bool->Nat->α)(b:Bool)(j:Nat)(v:α):upd Y b j v b j=v:=by simp[upd]
variable {b0:Bool}{j0:Nat}
theorem upd_ne(Y:Bool->Nat->α){b: Bool}{j: Nat}(v:α)(h:¬(b=b0/\j=j0)):upd Y b0 j0 v b j=Y b j:=by simp[upd,h]
structure Rws(B n:Nat) (D:Bool->Nat->Prop) (Y:Bool->Nat->Value) (C:Bool->Nat->List Int) (w:World):Prop where
 row:∀b j,j<n->D b j->w.ownsRow B 3 1 (Y b j) (C b j).length ((C b j).map (.int .i64))
 apart:∀b j b' j' g,j<n->j' < n->(Y b j).ownBlock=some g->(Y b' j').ownBlock=some g->b=b' /\ j=j'
 size:B<=w.heap.size
variable {n g:Nat}
theorem Zpi{w:World}{base e size: Nat}{v:Value}{xs:List Value}(h:w.ownsRow base e size v n xs)(hg:v.ownBlock=some g):base<=g/\g<w.heap.size:=by
 obtain⟨h1,h2⟩:=h;rcases h2 with⟨rfl,_⟩|⟨g',cap,cur,rfl,b,c,_⟩
 cases hg;simp only[Value.ownBlock,Option.some.injEq]at hg;grind
variable {B:Nat}{D:Bool->Nat->Prop}{Y:Bool->Nat->Value}{C:Bool->Nat->List Int}{w':World}
theorem Rws.kept{w: World}(h:Rws B n D Y C w)(hg:w.grownBy w' none):Rws B n D Y C w' := ⟨λb j hj hd=>(h.row b j hj hd).kept hg (by grind),h.apart,Nat.le_trans h.size hg.size⟩
theorem Rws.alloc{w:World}(h:Rws B n D Y C w)(o:Obj):Rws B n D Y C (w.alloc o):=h.kept (World.grownBy_alloc _ _ _)
theorem Rws.drew{w:World}(h:Rws B n D Y C w):Rws B n D Y C w.drew:=⟨λb j hj hd=>(h.row b j hj hd).drew,h.apart,h.size⟩
variable {D':Bool->Nat->Prop}
theorem Rws.less{w:World}(h:Rws B n D Y C w)(hd:∀b j,j<n->D' b j->D b j):Rws B n D' Y C w:=⟨λb j hj hd' => h.row b j hj (hd b j hj hd'),h.apart,h.size⟩
theorem Rws.lost{w: World}(h:Rws B n D Y C w)(h0:j0<n)(hg:w.grownBy w' (Y b0 j0).ownBlock)
    (hd:∀b j,j<n->D' b j->D b j/\¬(b=b0/\j=j0)):Rws B n D' Y C w' :=
  ⟨λb j hj hd' => (h.row b j hj (hd b j hj hd').1).kept hg (by
   cases hb:(Y b j).ownBlock with|none=>grind|some g=>exact .inr λe=>(hd b j hj hd').2 (h.apart _ _ _ _ g hj h0 hb e.symm)),h.apart,Nat.le_trans h.size hg.size⟩
theorem Rws.append{w: World}(h:Rws B n D Y C w)(h0:j0<n)(hlive:∀b j,j<n->D b j){x:Int}{cap m H: Nat}(hm:m=(C b0 j0).length+1)
    (hown:w'.ownsRow B 3 1 (.slice (some ⟨g,0,none⟩) m cap) m ((C b0 j0).map (.int .i64)++[.int .i64 x])) (hg:w.grownBy w' (Y b0 j0).ownBlock) (hat:(Y b0 j0).ownBlock=some g∨g=H) (hH:w.heap.size<=H) :
    Rws B n D (upd Y b0 j0 (.slice (some ⟨g,0,none⟩) m cap)) (upd C b0 j0 (C b0 j0++[x])) w' := by
  subst hm;refine⟨λb j hj hd=>?_,λb j b' j' q hj hj' h1 h2=>?_,Nat.le_trans h.size hg.size⟩;by_cases e:b=b0/\j=j0;obtain⟨rfl,rfl⟩:=e;rw[Zph,Zph];grind;rw[upd_ne _ _ e,upd_ne _ _ e];refine(h.row b j hj hd).kept hg ?_;cases hb:(Y b j).ownBlock with|none=>grind|some q=>exact .inr λe' => e (h.apart _ _ _ _ q hj h0 hb e'.symm)
  have key:∀(b:Bool) (j:Nat),j<n->¬(b=b0/\j=j0)->(Y b j).ownBlock=some g->False:=λb j hj e hb=>by
   rcases hat with hat|hat
   exact e (h.apart _ _ _ _ g hj h0 hb hat);have:=(Zpi (h.row b j hj (hlive b j hj)) hb).2;omega
  by_cases e:b=b0/\j=j0;by_cases e' : b' = b0/\j' = j0;grind;rw[upd_ne _ _ e']at h2;obtain⟨rfl,rfl⟩:=e;rw[Zph]at h1;have hq:g=q:=by simpa[Value.ownBlock]using h1
  grind;rw[upd_ne _ _ e]at h1;by_cases e' : b' = b0/\j' = j0;obtain⟨rfl,rfl⟩:=e';rw[Zph]at h2;have hq:g=q:=by simpa[Value.ownBlock]using h2
  grind;rw[upd_ne _ _ e']at h2;exact h.apart _ _ _ _ q hj hj' h1 h2
theorem Rws.store{w:World}(h:Rws B n D Y C w)(a:Addr)(ha:a.block<B)(v:Value):Rws B n D Y C (w.setCell a v):=by
 refine⟨λb j hj hd=>?_,h.apart,by simpa using h.size⟩;have hr:=h.row b j hj hd;refine hr.kept (row:=some a.block) ⟨rfl,rfl,rfl,by simp,λk hk hne=>Deep.blk_setCell_other _ _ _ _ (λe=>hne (by rw[e]))⟩ ?_;cases hb:(Y b j).ownBlock with|none=>grind|some q=>refine .inr λe=>?_;have:=(Zpi hr hb).1;grind
def Hds(n:Nat)(hb:Bool->Nat)(Y:Bool->Nat->Value)(w:World):Prop:=∀b,w.rowIs (hb b) 23 n (Y b)
variable {hb:Bool->Nat}
theorem Hds.kept{w: World}{r:Option Nat}(h:Hds n hb Y w)(hg:w.grownBy w' r)(hr:∀b,some (hb b)≠r):Hds n hb Y w' := λb=>(h b).of_block (hg.block _ (h b).lt (hr b))
theorem Hds.alloc{w:World}(h:Hds n hb Y w)(o:Obj):Hds n hb Y (w.alloc o):=λb=>(h b).alloc o
theorem Hds.drew{w:World}(h:Hds n hb Y w):Hds n hb Y w.drew:=λb=>(h b).drew
theorem Hds.store{w:World}(h:Hds n hb Y w)(hne:hb true≠hb false)(b0:Bool)(j0:Nat)(v:Value):Hds n hb (upd Y b0 j0 v) (w.setCell ⟨hb b0,j0,none⟩ v):=λb=>by
 by_cases e:b=b0;subst e;refine((h b).set j0 v).congr λi hi=>?_;by_cases hij:i=j0;subst hij;rw[if_pos rfl,Zph];rw[if_neg hij,upd_ne _ _ (λe=>hij e.2)];refine((h b).setOther (a:=⟨hb b0,j0,none⟩) (λe' => ?_) v).congr λi hi=>?_;cases b<;>cases b0<;>simp_all;rw[upd_ne _ _ (λe' => e e'.1)]
def lst(b:Bool)(j:Nat)(l:List Chn):List Int:=l.filterMap λc=>if (cond b c.2.2.1 c.1)=(j:Int)then some (cond b c.2.2.2.1 c.2.1)else none
theorem Ylz(l:List Chn)(c:Chn)(t f:Nat)(h1:c.2.2.1=t)(h2:c.1=f):(λb j=>lst b j (l++[c]))=upd (upd (λb j=>lst b j l) true t (lst true t l++[c.2.2.2.1])) false f (lst false f l++[c.2.1]):=by
 funext b j;unfold lst;rw[List.filterMap_append];cases b with|true => rw[upd_ne _ _ (by simp)];by_cases e:j=t;subst e;rw[Zph];simp[h1];rw[upd_ne _ _ (by simp[e])];grind|false => by_cases e:j=f;subst e;rw[Zph];simp[h2];rw[upd_ne _ _ (by simp[e]),upd_ne _ _ (by simp)];grind
def okC(n:Nat)(c:Chn):Bool:=decide (0<=min c.1 c.2.2.1)&&(decide (max c.1 c.2.2.1<n)&&(decide (1<=c.2.2.2.2.1)&&decide (c.2.2.2.2.1<=8)))
def inc(p c:Chn):Bool:=decide (p.1<c.1)||(decide (p.1=c.1)&&decide (p.2.1<c.2.1))
def chk(n:Nat):Option Chn->List Chn->Bool|_,[]=>true|p,c::l=>okC n c&&((match p with|none=>true|some p=>inc p c)&&chk n (some c) l)
def fin(chs:List Chn):Nat->List Opr->Bool|_,[]=>true|j,o::l=>Zbn (lst true j chs) (bnd o.1).1 (bnd o.1).2.1&&(Zbn (lst false j chs) (bnd o.1).2.2.1 (bnd o.1).2.2.2&&fin chs (j+1) l)
def Zai(ops:List Opr)(chs:List Chn):Bool:=chk ops.length none chs&&fin chs 0 ops
theorem Znw{xs:List α}{q:Nat}{x:α}(h:xs[q]? = some x):xs.drop q=x::xs.drop (q+1):=by obtain⟨hl,he⟩:=List.getElem?_eq_some_iff.1 h;rw[List.drop_eq_getElem_cons hl,he]
def incO:Option Chn->Chn->Bool|none,_=>true|some p,c=>inc p c
theorem Zlg(n:Nat)(p:Option Chn)(c:Chn)(l:List Chn):chk n p (c::l)=(okC n c&&(incO p c&&chk n (some c) l)):=by cases p<;>rfl
variable {ops:List Opr}{k:Nat}{p:Option Chn}
theorem Z49{chs:List Chn}{c:Chn}(hn:n=ops.length)(h:chk n none chs=chk n p (chs.drop k))(hc:chs[k]? = some c)(ho:okC n c=false):Zai ops chs=false:=by rw[Znw hc,Zlg,ho,Bool.false_and]at h;rw[Zai,<- hn,h,Bool.false_and]
theorem Yr7{chs:List Chn}{p c:Chn}(hn:n=ops.length)(h:chk n none chs=chk n (some p) (chs.drop k))(hc:chs[k]? = some c)(ho:inc p c=false):Zai ops chs=false:=by rw[Znw hc,Zlg,show incO (some p) c=false from ho,Bool.false_and,Bool.and_false]at h;rw[Zai,<- hn,h,Bool.false_and]
theorem good_step{chs:List Chn}{c:Chn}(h:chk n none chs=chk n p (chs.drop k))(hc:chs[k]? = some c)(ho:okC n c=true)(hi:∀q,p=some q->inc q c=true):chk n none chs=chk n (some c) (chs.drop (k+1)):=by
 rw[h,Znw hc,Zlg,ho];cases p with|none=>simp[incO]|some q=>simp[incO,hi q rfl]
end Tj
