import Derived.Shelf.Sort.Plain
import Derived.Shelf.Slices.In.SortNone
import Derived.Sort.OwnSortedInts
import Derived.Test.YtenldcjkpgmpnaaGreatDoorTWJ0
/- slices.Sort at []int: the laying at this dump. -/
set_option linter.unusedVariables false
set_option linter.unusedSimpArgs false
namespace Tj
open Go Go.RowKit Go.Proofs Go.Shelf
def Yo0:Go.Shelf.Ren:=⟨fun | 189=>188 | 125=>123 | 257=>223 | 128=>163 | 129=>164 | 294=>254 | 295=>255 | 296=>256 | 297=>257 | 298=>258 | 299=>259 | 216=>260 | 300=>261 | 301=>262 | 328=>293 | 329=>199 | 330=>200 | 331=>294 | 332=>295 | 215=>124 | 343=>317 | n=>n,fun | 28=>23 | 3=>3 | 46=>200 | 0=>0 | 51=>256 | 53=>258 | 4=>4 | 183=>249 | 182=>248 | 131=>253 | 5=>5 | 9=>9 | 218=>306 | 222=>310 | 228=>344 | 229=>114 | n=>n,fun | n=>n⟩
theorem Ybs:Go.Proofs.Lays.n189 Tryz.prog Yo0:={
 mixed:=by kernel_rfl
 f125:=Tryz.func123.trans (congrArg some (by kernel_rfl))
 f128:=Tryz.func163.trans (congrArg some (by kernel_rfl))
 f129:=Tryz.func164.trans (congrArg some (by kernel_rfl))
 f189:=Tryz.func188.trans (congrArg some (by kernel_rfl))
 f215:=Tryz.func124.trans (congrArg some (by kernel_rfl))
 f216:=Tryz.func260.trans (congrArg some (by kernel_rfl))
 f257:=Tryz.func223.trans (congrArg some (by kernel_rfl))
 f294:=Tryz.func254.trans (congrArg some (by kernel_rfl))
 f295:=Tryz.func255.trans (congrArg some (by kernel_rfl))
 f296:=Tryz.func256.trans (congrArg some (by kernel_rfl))
 f297:=Tryz.func257.trans (congrArg some (by kernel_rfl))
 f298:=Tryz.func258.trans (congrArg some (by kernel_rfl))
 f299:=Tryz.func259.trans (congrArg some (by kernel_rfl))
 f300:=Tryz.func261.trans (congrArg some (by kernel_rfl))
 f301:=Tryz.func262.trans (congrArg some (by kernel_rfl))
 f328:=Tryz.func293.trans (congrArg some (by kernel_rfl))
 f329:=Tryz.func199.trans (congrArg some (by kernel_rfl))
 f330:=Tryz.func200.trans (congrArg some (by kernel_rfl))
 f331:=Tryz.func294.trans (congrArg some (by kernel_rfl))
 f332:=Tryz.func295.trans (congrArg some (by kernel_rfl))
 f343:=Tryz.func317.trans (congrArg some (by kernel_rfl))
 t0:=Tryz.underlying0
 a0:=Tryz.isAgg0
 z0:=Tryz.sizeOf0
 v0:=Tryz.zeroValue0
 t3:=Tryz.underlying3
 a3:=Tryz.isAgg3
 z3:=Tryz.sizeOf3
 v3:=Tryz.zeroValue3
 t4:=Tryz.underlying4
 a4:=Tryz.isAgg4
 z4:=Tryz.sizeOf4
 v4:=Tryz.zeroValue4
 t5:=Tryz.underlying5
 a5:=Tryz.isAgg5
 z5:=Tryz.sizeOf5
 v5:=Tryz.zeroValue5
 t9:=Tryz.underlying9
 a9:=Tryz.isAgg9
 z9:=Tryz.sizeOf9
 v9:=Tryz.zeroValue9
 t28:=Tryz.underlying23
 a28:=Tryz.isAgg23
 z28:=Tryz.sizeOf23
 v28:=Tryz.zeroValue23
 t46:=Tryz.underlying200
 a46:=Tryz.isAgg200
 z46:=Tryz.sizeOf200
 v46:=Tryz.zeroValue200
 t51:=Tryz.underlying256
 a51:=Tryz.isAgg256
 z51:=Tryz.sizeOf256
 v51:=Tryz.zeroValue256
 t53:=Tryz.underlying258
 a53:=Tryz.isAgg258
 z53:=Tryz.sizeOf258
 v53:=Tryz.zeroValue258
 t131:=Tryz.underlying253
 a131:=Tryz.isAgg253
 z131:=Tryz.sizeOf253
 v131:=Tryz.zeroValue253
 t182:=Tryz.underlying248
 a182:=Tryz.isAgg248
 z182:=Tryz.sizeOf248
 v182:=Tryz.zeroValue248
 t183:=Tryz.underlying249
 a183:=Tryz.isAgg249
 z183:=Tryz.sizeOf249
 v183:=Tryz.zeroValue249
 t218:=Tryz.underlying306
 a218:=Tryz.isAgg306
 z218:=Tryz.sizeOf306
 v218:=Tryz.zeroValue306
 t222:=Tryz.underlying310
 a222:=Tryz.isAgg310
 z222:=Tryz.sizeOf310
 v222:=Tryz.zeroValue310
 t228:=Tryz.underlying344
 a228:=Tryz.isAgg344
 z228:=Tryz.sizeOf344
 v228:=Tryz.zeroValue344
 t229:=Tryz.underlying114
 a229:=Tryz.isAgg114
 z229:=Tryz.sizeOf114
 v229:=Tryz.zeroValue114 }
end Tj

/- graph.ends: the walk. -/
namespace Tj
open Go Go.RowKit Go.Proofs Go.Sort
def srt (l:List Int):List Int:=l.mergeSort fun x y=>decide (x<=y)
def upto (n:Nat):List Int:=(List.range n).map Int.ofNat
def Zbz (l:List Int)(lo hi:Int):Bool:=decide (srt l=upto l.length)&&(decide (lo<=(l.length:Int))&&decide ((l.length:Int)<=hi))
theorem Zmw (l:List Int):(srt l).length=l.length:=List.length_mergeSort l
theorem Z5l {n i:Nat}(h:i<n):(upto n)[i]? = some (i:Int):=by simp [upto,h]
theorem Ygd (n:Nat):(upto n).length=n:=by simp [upto]
theorem Ydq {l:List Int}{i:Nat}{x:Int}(lo hi:Int)(h:(srt l)[i]? = some x)(hx:x≠i):Zbz l lo hi=false:=by
 have hi' : i<l.length:=by rw [<- Zmw];grind
 have:srt l≠upto l.length:=fun e=>by rw [e,Z5l hi'] at h;grind
 simp [Zbz,this]
theorem Zu9 {l:List Int}(lo hi:Int)(h:∀ i,i<l.length->(srt l)[i]? = some (i:Int)):Zbz l lo hi=(decide (lo<=(l.length:Int))&&decide ((l.length:Int)<=hi)):=by
 have:srt l=upto l.length:=by
  apply List.ext_getElem?;intro i;by_cases hi:i<l.length
  . rw [h i hi,Z5l hi]
  . rw [List.getElem?_eq_none (by rw [Zmw];omega),List.getElem?_eq_none (by rw [Ygd];omega)]
 simp [Zbz,this]
theorem Z5m {w:World}{g cap:Nat}{l:List Int}{cur:Array Value}(hcs:cur.size=cap * 1)(hcl:l.length<=cap)(h:w.heap[g]? = some (.cells (putCells (Value.int .i64) 0 (srt l).toArray cur) 3 (0,0)))(i:Nat)(x:Int)(hx:(srt l)[i]? = some x):w.cell? ⟨g,i,none⟩=some (.int .i64 x):=by
 have hi:i<(srt l).length:=(List.getElem?_eq_some_iff.1 hx).1;have htk:=take_putCellsI cur (srt l) (by rw [Zmw,hcs];omega);have:(putCells (Value.int .i64) 0 (srt l).toArray cur)[i]? = some (.int .i64 x):=by
  have h2:((putCells (Value.int .i64) 0 (srt l).toArray cur).toList.take (srt l).length)[i]? = some (.int .i64 x):=by grind
  grind
 exact (Q5 h this).1
theorem Z5n {w w2:World}{o:Obj}{r:Option Nat}(h:(w.alloc o).grownBy w2 r):w.grownBy w2 r:=⟨h.1,h.2,h.3,Nat.le_trans (by simp) h.4,fun k hk hne=>by rw [h.block k (by simp;omega) hne,Below.heap_alloc _ _ _ hk]⟩
set_option maxRecDepth 100000 in
set_option maxHeartbeats 2000000 in
theorem Yge (g cap:Nat)(l:List Int)(lo hi:Int)(w:World)(hl:l.length<=1000)(hcl:l.length<=cap)(hcm:cap<=maxLen)(cur:Array Value)(hcs:cur.size=cap * 1)(hb:w.heap[g]? = some (.cells cur 3 (0,0)))(ht:cur.toList.take l.length=l.map (Value.int .i64)) :
    Calls Tryz.prog 135 #[.slice (some ⟨g,0,none⟩) l.length cap,.agg #[.int .i64 lo,.int .i64 hi]] w fun e w' => e = .returned (.bool (Zbz l lo hi))/\w.grownBy w' (some g):=by
  have hg:g<w.heap.size:=(Array.getElem?_eq_some_iff.1 hb).1;have hH:=holds_of_blockI hb ht;have HH:=Lib.hid hH;clear hH;obtain⟨n,hn⟩:∃ n,n=l.length:=⟨_,rfl⟩;have HB:=Lib.hid hb;have HT:=Lib.hid ht;have HC:=Lib.hid hcs;clear hb ht hcs;go_enter Tryz.func135,Tryz.ntmps135;go_wp2_with (go_at_call 188;refine (Any.slices_Sort_int Ybs g 0 cap l _ (holds_of_blockI (Qb _ HB.out hg) HT.out) (by simp;omega) (by omega)).mono ?_);rintro e w2 ⟨rfl,k,os,hw2⟩;have hg0:(w.alloc (.cells #[.int .i64 lo,.int .i64 hi] 221)).heap[g]? = some (.cells cur 3 (0,0)):=Qb _ HB.out hg;have hrow:w2.heap[g]? = some (.cells (putCells (Value.int .i64) 0 (srt l).toArray cur) 3 (0,0)):=by rw [hw2];exact heap_sortedI _ hg0
  have hgr:(w.alloc (.cells #[.int .i64 lo,.int .i64 hi] 221)).grownBy w2 (some g):=by rw [hw2];exact grownBy_sortedI _
  have hcell:=Z5m HC.out hcl hrow;have hbk:w2.heap[w.heap.size]? = some (.cells #[.int .i64 lo,.int .i64 hi] 221 (0,0)):=by rw [hgr.block _ (by simp) (fun e=>by grind)];exact heap_alloc_new w _
  have hfin:w.grownBy w2 (some g):=Z5n hgr;have HCELL:=Lib.hid hcell;have x0:w2.cell? ⟨w.heap.size,0,none⟩=some (.int .i64 lo):=(Q5 hbk rfl).1;have x1:w2.cell? ⟨w.heap.size,1,none⟩=some (.int .i64 hi):=(Q5 hbk rfl).1;clear hw2 hg0 hcell hrow hgr hbk;have X0:=Lib.hid x0;have X1:=Lib.hid x1;clear x0 x1;rw [<- hn];go_wp2;go_loopw [11] (fun i wr=>∃ k:Nat,k<=n/\i = .int .i64 k/\wr=w2 /\ ∀ j,j<k->(srt l)[j]? = some (j:Int)) (fun i _=>n - (RowKit.intOf i).toNat)
  case atStart=>grind
  case round =>
   obtain⟨q,hq,rfl,rfl,hall⟩:=hrel;have HA:=Lib.hid hall;clear hall;by_cases hlt:q<n
   . obtain⟨x,hx⟩:∃ x,(srt l)[q]? = some x:=⟨_,List.getElem?_eq_getElem (by rw [Zmw];omega)⟩;have c0:=HCELL.out q x hx;have HX:=Lib.hid hx;clear hx;by_cases hxq:x=q
     . subst hxq;go_wp2;go_roundw
       case rel =>
        refine⟨q+1,by omega,by go_num,by grind,fun j hj=>?_⟩;by_cases hjq:j=q
        . subst hjq;exact HX.out
        . exact HA.out j (by omega)
       case measure=>simp [RowKit.intOf];omega
     . have hne:(x != q)=true:=by grind
       go_wp2;go_ret;exact⟨by rw [Ydq lo hi HX.out hxq];rfl,hfin⟩
   . have hqe:q=n:=by omega
     subst hqe;have x0:=X0.out;have x1:=X1.out;have hres:=Zu9 lo hi (l:=l) (fun i hi=>HA.out i (by omega));rw [<- hn] at hres;have HRES:=Lib.hid hres;clear hres;by_cases h1:lo<=(q:Int)
     . go_wp2;go_ret;have e1:Zbz l lo hi=decide ((l.length:Int)<=hi):=by rw [HRES.out,<- hn];simp [h1]
       simp_all
     . go_wp2;go_ret;exact⟨by rw [show Zbz l lo hi=false from by rw [HRES.out];grind];rfl,hfin⟩
set_option maxRecDepth 100000 in
set_option maxHeartbeats 2000000 in
theorem Ygf (p:Option Addr)(c:Nat)(lo hi:Int)(w:World) :
    Calls Tryz.prog 135 #[.slice p 0 c,.agg #[.int .i64 lo,.int .i64 hi]] w fun e w' => e = .returned (.bool (Zbz [] lo hi))/\w.grownBy w' none:=by
  have hres:=Zu9 lo hi (l:=[]) (fun i hi=>absurd hi (Nat.not_lt_zero _));have HRES:=Lib.hid hres;clear hres;go_enter Tryz.func135,Tryz.ntmps135;go_wp2_with (go_at_call 188;refine (Any.slices_Sort_int_none Ybs p c _).mono ?_);rintro e w2 ⟨rfl,rfl⟩;go_wp2;go_loopw [11] (fun i wr=>i = .int .i64 0/\wr=w.alloc (.cells #[.int .i64 lo,.int .i64 hi] 221)) (fun _ _=>0)
  case atStart=>grind
  case round =>
   obtain⟨rfl,rfl⟩:=hrel;by_cases h1:lo<=0
   . go_wp2;go_ret;have e1:Zbz [] lo hi=decide (0<=hi):=by rw [HRES.out];simp [h1]
     exact⟨by rw [e1];rfl,World.grownBy_alloc _ _ _⟩
   . go_wp2;go_ret;exact⟨by rw [show Zbz [] lo hi=false from by rw [HRES.out];grind];rfl,World.grownBy_alloc _ _ _⟩
theorem Z5o (base:Nat)(v:Value)(l:List Int)(lo hi:Int)(w:World)(hl:l.length<=1000)(hv:w.ownsRow base 3 1 v l.length (l.map (.int .i64))) :
    Calls Tryz.prog 135 #[v,.agg #[.int .i64 lo,.int .i64 hi]] w fun e w' => e = .returned (.bool (Zbz l lo hi))/\w.grownBy w' v.ownBlock:=by
  obtain⟨h1,h2⟩:=hv;rcases h2 with ⟨rfl,h0⟩ | ⟨g,cap,cur,rfl,hb,hg,hn,hc,hs,ht⟩
  . have:l=[]:=List.length_eq_zero_iff.1 h0;subst this;exact Ygf none 0 lo hi w
  . rw [Nat.mul_one] at ht;exact Yge g cap l lo hi w hl hn hc cur hs hg ht
end Tj

/- Two families of rows that a call has built: what appends and stores do to them. -/
namespace Tj
open Go Go.RowKit Go.Proofs
def upd {α:Type}(Y:Bool->Nat->α)(b0:Bool)(j0:Nat)(v:α):Bool->Nat->α:=fun b j=>if b=b0/\j=j0 then v else Y b j
theorem Zod {α:Type}(Y:Bool->Nat->α)(b:Bool)(j:Nat)(v:α):upd Y b j v b j=v:=by simp [upd]
theorem upd_ne {α:Type}(Y:Bool->Nat->α){b b0:Bool}{j j0:Nat}(v:α)(h:¬(b=b0/\j=j0)):upd Y b0 j0 v b j=Y b j:=by simp [upd,h]
structure Rws (B n:Nat) (D:Bool->Nat->Prop) (Y:Bool->Nat->Value) (C:Bool->Nat->List Int) (w:World):Prop where
 row:∀ b j,j<n->D b j->w.ownsRow B 3 1 (Y b j) (C b j).length ((C b j).map (.int .i64))
 apart:∀ b j b' j' g,j<n->j' < n->(Y b j).ownBlock=some g->(Y b' j').ownBlock=some g->b=b' /\ j=j'
 size:B<=w.heap.size
theorem Zoe {w:World}{base e size n:Nat}{v:Value}{xs:List Value}(h:w.ownsRow base e size v n xs){g:Nat}(hg:v.ownBlock=some g):base<=g/\g<w.heap.size:=by
 obtain⟨h1,h2⟩:=h;rcases h2 with ⟨rfl,_⟩ | ⟨g',cap,cur,rfl,b,c,_⟩
 . cases hg
 . simp only [Value.ownBlock,Option.some.injEq] at hg;grind
theorem Rws.kept {B n:Nat}{D:Bool->Nat->Prop}{Y:Bool->Nat->Value}{C:Bool->Nat->List Int}{w w' : World}(h:Rws B n D Y C w)(hg:w.grownBy w' none):Rws B n D Y C w' := ⟨fun b j hj hd=>(h.row b j hj hd).kept hg (by grind),h.apart,Nat.le_trans h.size hg.size⟩
theorem Rws.alloc {B n:Nat}{D:Bool->Nat->Prop}{Y:Bool->Nat->Value}{C:Bool->Nat->List Int}{w:World}(h:Rws B n D Y C w)(o:Obj):Rws B n D Y C (w.alloc o):=h.kept (World.grownBy_alloc _ _ _)
theorem Rws.drew {B n:Nat}{D:Bool->Nat->Prop}{Y:Bool->Nat->Value}{C:Bool->Nat->List Int}{w:World}(h:Rws B n D Y C w):Rws B n D Y C w.drew:=⟨fun b j hj hd=>(h.row b j hj hd).drew,h.apart,h.size⟩
theorem Rws.lost {B n:Nat}{D D' : Bool->Nat->Prop}{Y:Bool->Nat->Value}{C:Bool->Nat->List Int}{w w' : World}(h:Rws B n D Y C w){b0:Bool}{j0:Nat}(h0:j0<n)(hg:w.grownBy w' (Y b0 j0).ownBlock)
    (hd:∀ b j,j<n->D' b j->D b j/\¬(b=b0/\j=j0)):Rws B n D' Y C w' :=
  ⟨fun b j hj hd' => (h.row b j hj (hd b j hj hd').1).kept hg (by
   cases hb:(Y b j).ownBlock with
   | none=>grind
   | some g=>exact .inr fun e=>(hd b j hj hd').2 (h.apart _ _ _ _ g hj h0 hb e.symm)),h.apart,Nat.le_trans h.size hg.size⟩
theorem Rws.append {B n:Nat}{D:Bool->Nat->Prop}{Y:Bool->Nat->Value}{C:Bool->Nat->List Int}{w w' : World}(h:Rws B n D Y C w){b0:Bool}{j0:Nat}(h0:j0<n)(hlive:∀ b j,j<n->D b j){x:Int}{g cap m H:Nat}(hm:m=(C b0 j0).length+1)
    (hown:w'.ownsRow B 3 1 (.slice (some ⟨g,0,none⟩) m cap) m ((C b0 j0).map (.int .i64)++[.int .i64 x])) (hg:w.grownBy w' (Y b0 j0).ownBlock) (hat:(Y b0 j0).ownBlock=some g∨g=H) (hH:w.heap.size<=H) :
    Rws B n D (upd Y b0 j0 (.slice (some ⟨g,0,none⟩) m cap)) (upd C b0 j0 (C b0 j0++[x])) w' := by
  subst hm;refine⟨fun b j hj hd=>?_,fun b j b' j' q hj hj' h1 h2=>?_,Nat.le_trans h.size hg.size⟩
  . by_cases e:b=b0/\j=j0
    . obtain⟨rfl,rfl⟩:=e;rw [Zod,Zod];grind
    . rw [upd_ne _ _ e,upd_ne _ _ e];refine (h.row b j hj hd).kept hg ?_;cases hb:(Y b j).ownBlock with
      | none=>grind
      | some q=>exact .inr fun e' => e (h.apart _ _ _ _ q hj h0 hb e'.symm)
  . have key:∀ (b:Bool) (j:Nat),j<n->¬(b=b0/\j=j0)->(Y b j).ownBlock=some g->False:=fun b j hj e hb=>by
     rcases hat with hat | hat
     . exact e (h.apart _ _ _ _ g hj h0 hb hat)
     . have:=(Zoe (h.row b j hj (hlive b j hj)) hb).2;omega
    by_cases e:b=b0/\j=j0
    . by_cases e' : b' = b0/\j' = j0
      . grind
      . rw [upd_ne _ _ e'] at h2;obtain⟨rfl,rfl⟩:=e;rw [Zod] at h1;have hq:g=q:=by simpa [Value.ownBlock] using h1
        grind
    . rw [upd_ne _ _ e] at h1;by_cases e' : b' = b0/\j' = j0
      . obtain⟨rfl,rfl⟩:=e';rw [Zod] at h2;have hq:g=q:=by simpa [Value.ownBlock] using h2
        grind
      . rw [upd_ne _ _ e'] at h2;exact h.apart _ _ _ _ q hj hj' h1 h2
theorem Rws.store {B n:Nat}{D:Bool->Nat->Prop}{Y:Bool->Nat->Value}{C:Bool->Nat->List Int}{w:World}(h:Rws B n D Y C w)(a:Addr)(ha:a.block<B)(v:Value):Rws B n D Y C (w.setCell a v):=by
 refine⟨fun b j hj hd=>?_,h.apart,by simpa using h.size⟩;have hr:=h.row b j hj hd;refine hr.kept (row:=some a.block) ⟨rfl,rfl,rfl,by simp,fun k hk hne=>Deep.blk_setCell_other _ _ _ _ (fun e=>hne (by rw [e]))⟩ ?_;cases hb:(Y b j).ownBlock with
 | none=>grind
 | some q=>refine .inr fun e=>?_;have:=(Zoe hr hb).1;grind
def Hds (n:Nat)(hb:Bool->Nat)(Y:Bool->Nat->Value)(w:World):Prop:=∀ b,w.rowIs (hb b) 23 n (Y b)
theorem Hds.kept {n:Nat}{hb:Bool->Nat}{Y:Bool->Nat->Value}{w w' : World}{r:Option Nat}(h:Hds n hb Y w)(hg:w.grownBy w' r)(hr:∀ b,some (hb b)≠r):Hds n hb Y w' := fun b=>(h b).of_block (hg.block _ (h b).lt (hr b))
theorem Hds.alloc {n:Nat}{hb:Bool->Nat}{Y:Bool->Nat->Value}{w:World}(h:Hds n hb Y w)(o:Obj):Hds n hb Y (w.alloc o):=fun b=>(h b).alloc o
theorem Hds.drew {n:Nat}{hb:Bool->Nat}{Y:Bool->Nat->Value}{w:World}(h:Hds n hb Y w):Hds n hb Y w.drew:=fun b=>(h b).drew
theorem Hds.store {n:Nat}{hb:Bool->Nat}{Y:Bool->Nat->Value}{w:World}(h:Hds n hb Y w)(hne:hb true≠hb false)(b0:Bool)(j0:Nat)(v:Value):Hds n hb (upd Y b0 j0 v) (w.setCell ⟨hb b0,j0,none⟩ v):=fun b=>by
 by_cases e:b=b0
 . subst e;refine ((h b).set j0 v).congr fun i hi=>?_;by_cases hij:i=j0
   . subst hij;rw [if_pos rfl,Zod]
   . rw [if_neg hij,upd_ne _ _ (fun e=>hij e.2)]
 . refine ((h b).setOther (a:=⟨hb b0,j0,none⟩) (fun e' => ?_) v).congr fun i hi=>?_
   . cases b <;> cases b0 <;> simp_all
   . rw [upd_ne _ _ (fun e' => e e'.1)]
def lst (b:Bool)(j:Nat)(l:List Chn):List Int:=l.filterMap fun c=>if (cond b c.2.2.1 c.1)=(j:Int) then some (cond b c.2.2.2.1 c.2.1) else none
theorem Ygg (l:List Chn)(c:Chn)(t f:Nat)(h1:c.2.2.1=t)(h2:c.1=f):(fun b j=>lst b j (l++[c]))=upd (upd (fun b j=>lst b j l) true t (lst true t l++[c.2.2.2.1])) false f (lst false f l++[c.2.1]):=by
 funext b j;unfold lst;rw [List.filterMap_append];cases b with
 | true =>
  rw [upd_ne _ _ (by simp)];by_cases e:j=t
  . subst e;rw [Zod];simp [h1]
  . rw [upd_ne _ _ (by simp [e])];grind
 | false =>
  by_cases e:j=f
  . subst e;rw [Zod];simp [h2]
  . rw [upd_ne _ _ (by simp [e]),upd_ne _ _ (by simp)];grind
def okC (n:Nat)(c:Chn):Bool:=decide (0<=min c.1 c.2.2.1)&&(decide (max c.1 c.2.2.1<n)&&(decide (1<=c.2.2.2.2.1)&&decide (c.2.2.2.2.1<=8)))
def inc (p c:Chn):Bool:=decide (p.1<c.1)||(decide (p.1=c.1)&&decide (p.2.1<c.2.1))
def chk (n:Nat):Option Chn->List Chn->Bool
 | _,[]=>true
 | p,c::l=>okC n c&&((match p with | none=>true | some p=>inc p c)&&chk n (some c) l)
def fin (chs:List Chn):Nat->List Opr->Bool
 | _,[]=>true
 | j,o::l=>Zbz (lst true j chs) (bnd o.1).1 (bnd o.1).2.1&&(Zbz (lst false j chs) (bnd o.1).2.2.1 (bnd o.1).2.2.2&&fin chs (j+1) l)
def Zaq (ops:List Opr)(chs:List Chn):Bool:=chk ops.length none chs&&fin chs 0 ops
theorem Zmx {α:Type}{xs:List α}{q:Nat}{x:α}(h:xs[q]? = some x):xs.drop q=x::xs.drop (q+1):=by obtain⟨hl,he⟩:=List.getElem?_eq_some_iff.1 h;rw [List.drop_eq_getElem_cons hl,he]
def incO:Option Chn->Chn->Bool
 | none,_=>true
 | some p,c=>inc p c
theorem Zkt (n:Nat)(p:Option Chn)(c:Chn)(l:List Chn):chk n p (c::l)=(okC n c&&(incO p c&&chk n (some c) l)):=by cases p <;> rfl
theorem Z1w {ops:List Opr}{chs:List Chn}{k n:Nat}{p:Option Chn}{c:Chn}(hn:n=ops.length)(h:chk n none chs=chk n p (chs.drop k))(hc:chs[k]? = some c)(ho:okC n c=false):Zaq ops chs=false:=by rw [Zmx hc,Zkt,ho,Bool.false_and] at h;rw [Zaq,<- hn,h,Bool.false_and]
theorem Yll {ops:List Opr}{chs:List Chn}{k n:Nat}{p c:Chn}(hn:n=ops.length)(h:chk n none chs=chk n (some p) (chs.drop k))(hc:chs[k]? = some c)(ho:inc p c=false):Zaq ops chs=false:=by rw [Zmx hc,Zkt,show incO (some p) c=false from ho,Bool.false_and,Bool.and_false] at h;rw [Zaq,<- hn,h,Bool.false_and]
theorem good_step {chs:List Chn}{k n:Nat}{p:Option Chn}{c:Chn}(h:chk n none chs=chk n p (chs.drop k))(hc:chs[k]? = some c)(ho:okC n c=true)(hi:∀ q,p=some q->inc q c=true):chk n none chs=chk n (some c) (chs.drop (k+1)):=by
 rw [h,Zmx hc,Zkt,ho];cases p with
 | none=>simp [incO]
 | some q=>simp [incO,hi q rfl]
end Tj
