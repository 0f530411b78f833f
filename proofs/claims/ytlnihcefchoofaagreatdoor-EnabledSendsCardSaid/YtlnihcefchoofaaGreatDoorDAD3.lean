import Derived.Test.YtlnihcefchoofaaGreatDoorDAD1
import Derived.Shelf.Spec.SlicesInsertGrow
import Derived.Test.YtlnihcefchoofaaGreatDoorDTt1
set_option linter.all false
set_option maxRecDepth 100000
namespace Tj
open Go Go.RowKit Go.Proofs Go.Abs
theorem Zva:(Tryz.prog.info? 152).map (λi=>(i.zero,i.size,i.bytes))=some (some (.agg (Array.replicate 11 (.int .i64 0))),11,88):=by kernel_rfl
theorem Zes{P:Program}(w:World)(dT sT ty elem:TypeId)(size g o dLen dCap:Nat)(a:Addr)(sLen sCap:Nat)(cur:Array Value)(t:TypeId)(cs:List Value)
    (hu:P.underlying dT=some (.slice elem)) (hs:(P.info? elem).map (·.size)=some size)
    (hg:w.heap[g]? = some (.cells cur t (0,0))) (hn:cs.length=Nat.min sLen dLen*size)
    (hsrc:∀j v,cs[j]? = some v->w.cell? (a.add j)=some v) (hfit:o+cs.length<=cur.size) (h1:∀v∈cs,v.oneCell' = true) :
    (Builtin.copy_ #[dT,sT] ty #[.slice (some ⟨g,o,none⟩) dLen dCap,.slice (some a) sLen sCap]).run P w =
     .ok (goInt (Nat.min sLen dLen)) (w.setRow g (cur.toList.take o++cs++cur.toList.drop (o+cs.length)).toArray):=by
  have hl:=run_loadCells_list (P:=P) w a cs hsrc;have hst:=run_storeCells_at P g o t cs 0 cur w hg (by simpa using hfit) h1;rw[hn]at hl;cases hq:P.info? elem with
  |none=>simp[hq]at hs|some i =>
   have hi:i.size=size:=by simpa[hq]using hs
   simp[Builtin.copy_,run_underlying hu,Builtin.lenOf,Builtin.firstCells,Go.sizeOf,typeInfo,hq,hi,hl,hst]
variable {cur:Array Value}
theorem Zfz{w:World}{g o:Nat}{t:TypeId}{cs:List Value}(hg:w.heap[g]? = some (.cells cur t (0,0)))(h:∀j u,cs[j]? = some u->cur.toList[o+j]? = some u):∀j v,cs[j]? = some v->w.cell? ((⟨g,o,none⟩:Addr).add j)=some v:=λj v hj=>by rw[Addr.add_mid,cell_of_row w g (o+j) cur t (0,0) hg,<- Array.getElem?_toList];exact h j v hj
set_option maxHeartbeats 4000000 in
theorem Yej(B q:Nat)(w:World)(v:Value)(n:Nat)(xs el:List Value)(hown:w.ownsRow B 152 11 v n xs)(hq:w.rangeAt q 0 el)(hel:el.length=11)(h1e:∀u∈el,u.oneCell' = true)(hn:n<=100000)(hB:B<=w.heap.size) :
    Calls Tryz.prog 232 #[v,.int .i64 n,.slice (some ⟨q,0,none⟩) 1 1] w λe w' => ∃v',e = .returned v' /\ w'.ownsRow B 152 11 v' (n+1) (xs++el)/\w.grownBy w' v.ownBlock/\(v'.ownBlock=v.ownBlock∨v'.ownBlock=some w.heap.size):=by
  obtain⟨i0,hi0,hz0,hzs,hzb⟩:=info_parts Zva;obtain⟨v',w',hr,h2,h3,h4⟩:=run_append_own (P:=Tryz.prog) w B 51 51 152 i0 _ 11 88 Tryz.underlying51 hi0 hz0 hzs hzb rfl (by omega) v n xs hown ⟨q,0,none⟩ 1 1 el hel (λj u hj=>by rw[Addr.add_mid];exact hq j u hj) h1e (by unfold maxLen;omega) (by omega) hB;have hnw:∀j u,el[j]? = some u->w.cell? ((⟨q,0,none⟩:Addr).add j)=some u:=λj u hj=>by rw[Addr.add_mid];exact hq j u hj
  have hblk:v'.ownBlock=v.ownBlock∨v'.ownBlock=some w.heap.size:=by
   rcases hown.2 with⟨rfl,rfl⟩|⟨g,cap,cur,rfl,hbg,hg,hnc,hcm,hcs,htake⟩
   have h:=run_append_nil (P:=Tryz.prog) w 51 51 152 i0 _ Tryz.underlying51 hi0 hz0 ⟨q,0,none⟩ 1 1 el (by rw[hzs];exact hel) hnw (by omega) (by omega) (by rw[hzb];omega);rw[hr]at h;injection h with h _
   rw[h];exact Or.inr rfl;by_cases hroom:n+1<=cap;have h:=run_append_room (P:=Tryz.prog) w 51 51 152 i0 Tryz.underlying51 hi0 g n cap cur hg ⟨q,0,none⟩ 1 1 el (by rw[hzs];exact hel) hnw h1e hroom (by rw[hzs,hel,hcs];omega);rw[hr]at h;injection h with h _
   rw[h];exact Or.inl rfl;have h:=run_append_grow (P:=Tryz.prog) w 51 51 152 i0 _ Tryz.underlying51 hi0 hz0 ⟨g,0,none⟩ n cap xs (by rw[hzs];exact hown.1) (hown.cells rfl) ⟨q,0,none⟩ 1 1 el (by rw[hzs];exact hel) hnw (by omega) (by omega) (growslice_fits (by omega) (by rw[hzb];omega));rw[hr]at h;injection h with h _
   rw[h];exact Or.inr rfl
  have HR:=Lib.hid (And.intro h2 (And.intro h3 hblk));clear h2 h3 h4 hq h1e hnw hblk;have hc:=hown.2;go_enter Tryz.func232,Tryz.ntmps232;rcases hc with⟨rfl,rfl⟩|⟨g,cap,cur,rfl,hbg,hg,hnc,hcm,hcs,htake⟩
  . clear hown hi0 hz0 hzs hzb;go_wp2_with(at_builtin;refine Lib.wpList_append_run _ rfl _ _ _ _ rfl _ _ rfl rfl _ _ hr ?_);go_ret;exact⟨v',rfl,HR.out⟩
  . clear hown hi0 hz0 hzs hzb hg htake hcs;unfold maxLen at hcm;go_wp2_with(at_builtin;refine Lib.wpList_append_run _ rfl _ _ _ _ rfl _ _ rfl rfl _ _ hr ?_);all_goals(go_ret;exact⟨v',rfl,HR.out⟩)
variable {xs el:List Value}{n:Nat}{c1 c2:Array Value}
theorem Yek{i: Nat}(hi:i<n)(htake:cur.toList.take (n*11)=xs)(hxl:xs.length=n*11)(hel:el.length=11)(hc:(n+1)*11<=cur.size)
    (h1:c1=(cur.toList.take ((i+1)*11)++xs.drop (i*11)++cur.toList.drop ((i+1)*11+(xs.drop (i*11)).length)).toArray)
    (h2:c2=(c1.toList.take (i*11)++el++c1.toList.drop (i*11+el.length)).toArray) :
    c1.size=cur.size/\c2.size=cur.size/\c2.toList.take ((n+1)*11)=xs.take (i*11)++el++xs.drop (i*11):=by
  have hdl:(xs.drop (i*11)).length=(n-i)*11:=by rw[List.length_drop,hxl];omega
  have hL:cur.toList.length=cur.size:=Array.length_toList;have hAl:(cur.toList.take ((i+1)*11)).length=(i+1)*11:=by rw[List.length_take];omega
  have s1:c1.size=cur.size:=by rw[h1];simp only[List.size_toArray,J0s,hAl,hdl,List.length_drop];omega
  have e1:c1.toList.take (i*11)=xs.take (i*11):=by rw[h1,List.append_assoc,List.take_append_of_le_length (by rw[hAl];omega),List.take_take,<- htake,List.take_take];congr 1;omega
  have e2:c1.toList.drop (i*11+el.length)=xs.drop (i*11)++cur.toList.drop ((n+1)*11):=by rw[h1,List.append_assoc,List.drop_append_of_le_length (by rw[hAl,hel];omega),List.drop_eq_nil_of_le (by rw[hAl,hel];omega),List.nil_append,hdl];congr 2;omega
  refine⟨s1,?_,?_⟩;rw[h2,e1,e2];simp only[List.size_toArray,J0s,List.length_take,hdl,List.length_drop,hel];omega;rw[h2,e1,e2,<- List.append_assoc];have hl:(xs.take (i*11)++el++xs.drop (i*11)).length=(n+1)*11:=by simp only[J0s,List.length_take,hdl,hel];omega
  rw[<- hl];exact List.take_left
set_option maxHeartbeats 4000000 in
theorem Z6m(q g:Nat)(w:World)(n i c:Nat)(cur:Array Value)(xs el:List Value)(hg:w.heap[g]? = some (.cells cur 152))(hcs:cur.size=c*11)(htake:cur.toList.take (n*11)=xs)(hi:i<n)(hroom:n+1<=c)(hcm:c<=maxLen)
    (hq:w.heap[q]? = some (.cells el.toArray 152)) (hqg:q≠g) (hel:el.length=11) (h1x:∀u∈xs,u.oneCell' = true) (h1e:∀u∈el,u.oneCell' = true) (hn:n<=100000) :
    Calls Tryz.prog 232 #[.slice (some ⟨g,0,none⟩) n c,.int .i64 i,.slice (some ⟨q,0,none⟩) 1 1] w λe w' => e = .returned (.slice (some ⟨g,0,none⟩) (n+1) c) /\
     ∃c2:Array Value,c2.size=cur.size/\c2.toList.take ((n+1)*11)=xs.take (i*11)++el++xs.drop (i*11)/\w'.heap[g]? = some (.cells c2 152)/\w.grownBy w' (some g):=by
  have hxl:xs.length=n*11:=by rw[<- htake,List.length_take,Array.length_toList,hcs];omega
  have hdl:(xs.drop (i*11)).length=(n-i)*11:=by rw[List.length_drop,hxl];omega
  have hov:∀lb cb,(callFunc 268 #[.slice (some ⟨q,0,none⟩) 1 1,.slice (some ⟨g,(i+1)*11,none⟩) lb cb]).run Tryz.prog w = .ok (.value (.bool false)) w:=λlb cb=>by
   rw[run_callFunc_extern Tryz.func268 (by kernel_rfl) (by kernel_rfl) (by kernel_rfl) (e:=Extern.SlicesOverlaps.overlaps #[51,51] #[4]) (by kernel_rfl),
    Lib.run_overlaps_apart w 51 4 152 Tryz.underlying51 11 (λw=>by kernel_rfl) ⟨q,0,none⟩ ⟨g,(i+1)*11,none⟩ 1 1 lb cb hqg 152 152 11 cur.size (by simp[World.shape?,hq,hel]) (by simp[World.shape?,hg]) (by omega) (by simp[World.frozen?,hq]) (by simp[World.frozen?,hq])]
   rfl
  have mixed:Tryz.prog.follows .mixedOrders=true:=by kernel_rfl
  have hz2:¬((i:Int)=(n:Int)):=by omega
  have hw1:IntKind.i64.wrap ((i:Int)+(1:Int))=((i+1:Nat):Int):=by rw[IntKind.wrap_i64];omega
  unfold maxLen at hcm;have hrows:=λc1 c2 h1 h2=>Yek (cur:=cur) (c1:=c1) (c2:=c2) hi htake hxl hel (by rw[hcs];omega) h1 h2;obtain⟨c1,hc1⟩:∃c1:Array Value,c1=(cur.toList.take ((i+1)*11)++xs.drop (i*11)++cur.toList.drop ((i+1)*11+(xs.drop (i*11)).length)).toArray:=⟨_,rfl⟩;obtain⟨c2,hc2⟩:∃c2:Array Value,c2=(c1.toList.take (i*11)++el++c1.toList.drop (i*11+el.length)).toArray:=⟨_,rfl⟩;obtain⟨s1,s2,hT⟩:=hrows c1 c2 hc1 hc2;have hgd:w.drew.heap[g]? = some (.cells cur 152 (0,0)):=hg;have hcp1:∀ty dc sc,(Builtin.copy_ #[51,51] ty #[.slice (some ⟨g,(i+1)*11,none⟩) (n-i) dc,.slice (some ⟨g,i*11,none⟩) (n+1-i) sc]).run Tryz.prog w.drew = .ok (goInt (Nat.min (n+1-i) (n-i))) (w.drew.setRow g c1):=λty dc sc=>by
   have h:=Zes (P:=Tryz.prog) w.drew 51 51 ty 152 11 g ((i+1)*11) (n-i) dc ⟨g,i*11,none⟩ (n+1-i) sc cur 152 (xs.drop (i*11)) Tryz.underlying51 Qy hgd
    (by rw[hdl];simp only[Nat.min_def];split<;>congr 1<;>omega)
    (Zfz hgd (λj u hj=>by
     rw[List.getElem?_drop,<- htake,List.getElem?_take]at hj;split at hj;exact hj;cases hj)) (by rw[hdl,hcs];omega) (λu hu=>h1x u (List.mem_of_mem_drop hu))
   rw[<- hc1]at h;exact h
  have hg1:(w.drew.setRow g c1).heap[g]? = some (.cells c1 152 (0,0)):=setRow_heap w.drew g cur _ 152 _ hgd;have hq1:∀W:World,W.heap=(w.drew.setRow g c1).heap->W.heap[q]? = some (.cells el.toArray 152):=λW hW=>by rw[hW,setRow_other w.drew g q _ hqg];exact hq
  have hcp2:∀(W:World),W.heap=(w.drew.setRow g c1).heap -> ∀ty dc,(Builtin.copy_ #[51,51] ty #[.slice (some ⟨g,i*11,none⟩) (n+1-i) dc,.slice (some ⟨q,0,none⟩) 1 1]).run Tryz.prog W = .ok (goInt (Nat.min 1 (n+1-i))) (W.setRow g c2):=λW hW ty dc=>by
   have h:=Zes (P:=Tryz.prog) W 51 51 ty 152 11 g (i*11) (n+1-i) dc ⟨q,0,none⟩ 1 1 c1 152 el Tryz.underlying51 Qy (by rw[hW];exact hg1)
    (by rw[hel];simp only[Nat.min_def];split<;>omega)
    (Zfz (hq1 W hW) (λj u hj=>by rw[Nat.zero_add];exact hj)) (by rw[hel,s1,hcs];omega) h1e
   rw[<- hc2]at h;exact h
  have hfin:c2.size=cur.size/\c2.toList.take ((n+1)*11)=xs.take (i*11)++el++xs.drop (i*11)/\((w.drew.setRow g c1).setRow g c2).heap[g]? = some (.cells c2 152)/\w.grownBy ((w.drew.setRow g c1).setRow g c2) (some g):=⟨s2,hT,setRow_heap _ g c1 _ 152 _ hg1,rfl,rfl,rfl,by simp,λk _ hk=>by rw[setRow_other _ g k _ (λe=>hk (by rw[e])),setRow_other _ g k _ (λe=>hk (by rw[e]))];rfl⟩;have hb1:(0:Int)<=(i:Int)+1:=by omega
  have hin:i<=n:=by omega
  have hb2:¬(c=i+1):=by omega
  have hb4:¬(c=i):=by omega
  have hb3:(i:Int)<=(n:Int)+1:=by omega
  have HF:=Lib.hid hfin;clear hg hq h1x h1e htake hcs hrows hc1 hc2 s1 s2 hT hgd hg1 hq1 hfin;go_enter Tryz.func232,Tryz.ntmps232;go_wp2_with(simp only[hov]);go_region_law_o(refine step_copy_runI rfl _ _ 51 51 rfl _ _ (by simp[Act.eval,Act.put]) (by simp[Act.eval,Act.put]) (hcp1 _ _ _) ?_);go_wp2_with(at_builtin;refine wpList_copy_runI _ rfl _ _ 51 51 rfl _ _ rfl rfl (hcp2 _ rfl _ _) ?_);go_ret;exact⟨rfl,c2,HF.out⟩
theorem Yjo{Z: List Value}{i G: Nat}(hi:i<n)(hxl:xs.length=n*11)(hel:el.length=11)(hG:n+1<=G){c0: Array Value}(hZ:Z.length=(G-i)*11)(h0:c0=(xs.take (i*11)++Z).toArray)
    (h1:c1=(c0.toList.take (i*11)++el++c0.toList.drop (i*11+el.length)).toArray)
    (h2:c2=(c1.toList.take ((i+1)*11)++xs.drop (i*11)++c1.toList.drop ((i+1)*11+(xs.drop (i*11)).length)).toArray) :
    c0.size=G*11/\c1.size=G*11/\c2.size=G*11/\c2.toList.take ((n+1)*11)=xs.take (i*11)++el++xs.drop (i*11):=by
  have hdl:(xs.drop (i*11)).length=(n-i)*11:=by rw[List.length_drop,hxl];omega
  have htl:(xs.take (i*11)).length=i*11:=by rw[List.length_take,hxl];omega
  have s0:c0.size=G*11:=by rw[h0];simp only[List.size_toArray,J0s,htl,hZ];omega
  have e0:c0.toList.take (i*11)=xs.take (i*11):=by rw[h0,List.take_append_of_le_length (by rw[htl];omega),List.take_take,Nat.min_self]
  have l0:(c0.toList.drop (i*11+el.length)).length=(G-(i+1))*11:=by rw[List.length_drop,Array.length_toList,s0,hel];omega
  have s1:c1.size=G*11:=by rw[h1,e0];simp only[List.size_toArray,J0s,htl,l0];rw[hel];omega
  have hpl:(xs.take (i*11)++el).length=(i+1)*11:=by rw[J0s,htl,hel];omega
  have e1:c1.toList.take ((i+1)*11)=xs.take (i*11)++el:=by rw[h1,e0,<- hpl];exact List.take_left
  refine⟨s0,s1,?_,?_⟩;rw[h2,e1];simp only[List.size_toArray,J0s,htl,hel,hdl,List.length_drop,Array.length_toList,s1];omega;rw[h2,e1];have hl:(xs.take (i*11)++el++xs.drop (i*11)).length=(n+1)*11:=by simp only[J0s,htl,hdl,hel];omega
  rw[<- hl];exact List.take_left
set_option maxHeartbeats 4000000 in
theorem Yac(q g:Nat)(w:World)(n i c:Nat)(cur:Array Value)(xs el:List Value)(hg:w.heap[g]? = some (.cells cur 152))(hcs:cur.size=c*11)(htake:cur.toList.take (n*11)=xs)(hi:i<n)(hnc:n<=c)(hroom:¬n+1<=c)
    (hq:w.heap[q]? = some (.cells el.toArray 152)) (hel:el.length=11) (h1x:∀u∈xs,u.oneCell' = true) (h1e:∀u∈el,u.oneCell' = true) (hn:n<=100000) :
    Calls Tryz.prog 232 #[.slice (some ⟨g,0,none⟩) n c,.int .i64 i,.slice (some ⟨q,0,none⟩) 1 1] w λe w' => ∃G:Nat,n+1<=G/\G<=maxLen/\e = .returned (.slice (some ⟨w.heap.size,0,none⟩) (n+1) G) /\
     ∃c2:Array Value,c2.size=G*11/\c2.toList.take ((n+1)*11)=xs.take (i*11)++el++xs.drop (i*11)/\w'.heap[w.heap.size]? = some (.cells c2 152)/\w.grownBy w' none:=by
  have mixed:Tryz.prog.follows .mixedOrders=true:=by kernel_rfl
  obtain⟨i0,hi0,hz0,hzs,hzb⟩:=info_parts Zva;have hxl:xs.length=n*11:=by rw[<- htake,List.length_take,Array.length_toList,hcs];omega
  have hdl:(xs.drop (i*11)).length=(n-i)*11:=by rw[List.length_drop,hxl];omega
  have htl:(xs.take (i*11)).length=i*11:=by rw[List.length_take,hxl];omega
  have hgw:g<w.heap.size:=(Array.getElem?_eq_some_iff.1 hg).1;have hqw:q<w.heap.size:=(Array.getElem?_eq_some_iff.1 hq).1;have hz2:¬((i:Int)=(n:Int)):=by omega
  have hz3:(c:Int)<(n:Int)+1:=by omega
  have hkk:(n:Int)+1-(i:Int)=((n+1-i:Nat):Int):=by omega
  have hik:i+(n+1-i)=n+1:=by omega
  have hxc:∀j u,xs[j]? = some u->cur.toList[j]? = some u:=λj u hj=>by
   rw[<- htake,List.getElem?_take]at hj;split at hj;exact hj;cases hj
  have hold:(Builtin.firstCells i0.size i (.slice (some ⟨g,0,none⟩) i c)).run Tryz.prog w.drew = .ok (xs.take (i*11)).toArray w.drew:=by
   rw[hzs];exact run_firstCells_some w.drew 11 i ⟨g,0,none⟩ i c (xs.take (i*11)) htl (Zfz hg (λj u hj=>by
    rw[Nat.zero_add];rw[List.getElem?_take]at hj;split at hj;exact hxc j u hj;cases hj))
  obtain⟨G,hG⟩:∃G,G=grownCap w (n+1) c 152:=⟨_,rfl⟩;have hGn:n+1<=G:=by rw[hG];exact grownCap_ge w _ _ _
  have hGm:G<=maxLen:=by rw[hG];exact grownCap_le_maxLen w (n+1) c 152 (by unfold maxLen;omega)
  obtain⟨c0,hc0⟩:∃c0:Array Value,c0=(xs.take (i*11)).toArray++Builtin.zeroCells (Value.agg (Array.replicate 11 (.int .i64 0))).cells (n+1-i)++Builtin.zeroCells (Value.agg (Array.replicate 11 (.int .i64 0))).cells (G-(n+1)):=⟨_,rfl⟩;have hrz:∀ty,(Builtin.append_ #[51,3] ty #[.slice (some ⟨g,0,none⟩) i c,.int .i64 ((n:Int)+1-(i:Int))]).run Tryz.prog w = .ok (.slice (some ⟨w.heap.size,0,none⟩) (n+1) G) (w.drew.alloc (.cells c0 152)):=λty=>by have h:=Lib.run_append_grow_zeros (P:=Tryz.prog) w 51 3 ty 152 i0 _ .i64 .i64 Tryz.underlying51 Tryz.underlying3 hi0 hz0 (some ⟨g,0,none⟩) i c (xs.take (i*11)) hold (n+1-i) (by omega) (by omega) (by omega) (by omega) (by rw[hzb];omega) (by rw[hzb,hik];exact growslice_fits (by omega) (by omega));rw[hik,<- hG,<- hc0]at h;rw[hkk];exact h
  obtain⟨c1,hc1⟩:∃c1:Array Value,c1=(c0.toList.take (i*11)++el++c0.toList.drop (i*11+el.length)).toArray:=⟨_,rfl⟩;obtain⟨c2,hc2⟩:∃c2:Array Value,c2=(c1.toList.take ((i+1)*11)++xs.drop (i*11)++c1.toList.drop ((i+1)*11+(xs.drop (i*11)).length)).toArray:=⟨_,rfl⟩;have hz11:(Value.agg (Array.replicate 11 (.int .i64 0))).cells.size=11:=rfl;obtain⟨s0,s1,s2,hT⟩:=Yjo (xs:=xs) (el:=el) (Z:=(Builtin.zeroCells (Value.agg (Array.replicate 11 (.int .i64 0))).cells (n+1-i)++Builtin.zeroCells (Value.agg (Array.replicate 11 (.int .i64 0))).cells (G-(n+1))).toList) (c0:=c0) hi hxl hel hGn
   (by rw[Array.length_toList,Array.size_append,size_zeroCells,size_zeroCells,hz11];omega) (by rw[hc0];apply Array.ext';simp) hc1 hc2
  have hn0:∀W:World,W.heap=(w.drew.alloc (.cells c0 152)).heap->W.heap[w.heap.size]? = some (.cells c0 152 (0,0)):=λW hW=>by rw[hW];exact heap_alloc_new w.drew _
  have hold2:∀(W:World) (r:Array Value) (k:Nat) (o:Obj),k<w.heap.size->w.heap[k]? = some o->W.heap=((w.drew.alloc (.cells c0 152)).setRow w.heap.size r).heap->W.heap[k]? = some o:=λW r k o hk ho hW=>by rw[hW,setRow_other _ _ k _ (Nat.ne_of_lt hk),Below.heap_alloc w.drew _ k hk];exact ho
  have hcpA:∀(W:World),W.heap=(w.drew.alloc (.cells c0 152)).heap -> ∀ty dc,(Builtin.copy_ #[51,51] ty #[.slice (some ⟨w.heap.size,i*11,none⟩) (n+1-i) dc,.slice (some ⟨q,0,none⟩) 1 1]).run Tryz.prog W = .ok (goInt (Nat.min 1 (n+1-i))) (W.setRow w.heap.size c1):=λW hW ty dc=>by
   have h:=Zes (P:=Tryz.prog) W 51 51 ty 152 11 w.heap.size (i*11) (n+1-i) dc ⟨q,0,none⟩ 1 1 c0 152 el Tryz.underlying51 Qy (hn0 W hW)
    (by rw[hel];simp only[Nat.min_def];split<;>omega)
    (Zfz (cur:=el.toArray) (t:=152) (by rw[hW,Below.heap_alloc w.drew _ q hqw];exact hq) (λj u hj=>by rw[Nat.zero_add];exact hj)) (by rw[hel,s0];omega) h1e
   rw[<- hc1]at h;exact h
  have hn1:∀W:World,W.heap=((w.drew.alloc (.cells c0 152)).setRow w.heap.size c1).heap->W.heap[w.heap.size]? = some (.cells c1 152 (0,0)):=λW hW=>by rw[hW];exact setRow_heap _ _ c0 _ 152 _ (hn0 _ rfl)
  have hcpB:∀(W:World),W.heap=((w.drew.alloc (.cells c0 152)).setRow w.heap.size c1).heap -> ∀ty dc sc,(Builtin.copy_ #[51,51] ty #[.slice (some ⟨w.heap.size,(i+1)*11,none⟩) (n-i) dc,.slice (some ⟨g,i*11,none⟩) (n-i) sc]).run Tryz.prog W = .ok (goInt (Nat.min (n-i) (n-i))) (W.setRow w.heap.size c2):=λW hW ty dc sc=>by
   have h:=Zes (P:=Tryz.prog) W 51 51 ty 152 11 w.heap.size ((i+1)*11) (n-i) dc ⟨g,i*11,none⟩ (n-i) sc c1 152 (xs.drop (i*11)) Tryz.underlying51 Qy (hn1 W hW)
    (by rw[hdl];simp only[Nat.min_def];split<;>congr 1<;>omega)
    (Zfz (hold2 W c1 g _ hgw hg hW) (λj u hj=>by rw[List.getElem?_drop]at hj;exact hxc _ _ hj)) (by rw[hdl,s1];omega) (λu hu=>h1x u (List.mem_of_mem_drop hu))
   rw[<- hc2]at h;exact h
  have hG63:G<=9223372036854775807:=by unfold maxLen at hGm;omega
  have hGi:¬(G=i):=by omega
  have hGim:¬(G=i+1):=by omega
  have hci:¬(c=i):=by omega
  have hw1:IntKind.i64.wrap ((i:Int)+(1:Int))=((i+1:Nat):Int):=by rw[IntKind.wrap_i64];omega
  have hb1:(0:Int)<=(i:Int)+1:=by omega
  have hin:i<=n:=by omega
  have hb3:(i:Int)<=(n:Int):=by omega
  have HF:=Lib.hid (And.intro hGn (And.intro hGm (And.intro s2 hT)));have HN1:=Lib.hid (hn1 _ rfl);have HB:=Lib.hid (hn0 _ rfl);have hE1:((w.alloc (.cells c0 152)).drew).heap=(w.drew.alloc (.cells c0 152)).heap:=rfl;have hE2:(((w.alloc (.cells c0 152)).drew.setRow w.heap.size c1).drew).heap=((w.drew.alloc (.cells c0 152)).setRow w.heap.size c1).heap:=rfl;clear hkk hik hold hc0 hc1 hc2 hG hg hq h1x h1e htake hcs hGm s0 s1 s2 hT hn0 hn1 hold2 hxc hz11 hi0 hz0 hzs hzb;go_enter Tryz.func232,Tryz.ntmps232;go_wp2_with(first
   |(at_builtin;refine Lib.wpList_append_run _ rfl _ _ _ _ rfl _ _ rfl rfl _ _ (hrz _) ?_)|(at_builtin;refine wpList_copy_runI _ rfl _ _ 51 51 rfl _ _ rfl rfl (hcpA _ hE1 _ _) ?_))
  go_region_law_o(refine step_copy_runI rfl _ _ 51 51 rfl (.slice (some ⟨w.heap.size,(i+1)*11,none⟩) (n-i) (G-(i+1))) (.slice (some ⟨g,i*11,none⟩) (n-i) (c-i)) (by simp[Act.eval,Act.put]) (by simp[Act.eval,Act.put]) (hcpB _ hE2 3 (G-(i+1)) (c-i)) ?_);go_wp2;go_ret;obtain⟨f1,f2,f3,f4⟩:=HF.out;refine⟨G,f1,f2,rfl,c2,f3,f4,?_,?_⟩;exact setRow_heap _ _ c1 _ 152 _ HN1.out;exact⟨rfl,rfl,rfl,by simp,λk hk _=>(setRow_other _ _ k _ (Nat.ne_of_lt hk)).trans ((setRow_other _ _ k _ (Nat.ne_of_lt hk)).trans (Below.heap_alloc w.drew _ k hk))⟩
theorem Yel(B q:Nat)(w:World)(v:Value)(n i:Nat)(xs el:List Value)(hown:w.ownsRow B 152 11 v n xs)(hi:i<=n)(hq:w.heap[q]? = some (.cells el.toArray 152))(hqv:v.ownBlock≠some q)(hel:el.length=11)(h1x:∀u∈xs,u.oneCell' = true)(h1e:∀u∈el,u.oneCell' = true)(hn:n<=100000)(hB:B<=w.heap.size) :
    Calls Tryz.prog 232 #[v,.int .i64 i,.slice (some ⟨q,0,none⟩) 1 1] w λe w' => ∃v',e = .returned v' /\ w'.ownsRow B 152 11 v' (n+1) (xs.take (i*11)++el++xs.drop (i*11))/\w.grownBy w' v.ownBlock/\(v'.ownBlock=v.ownBlock∨v'.ownBlock=some w.heap.size):=by
  by_cases hin:i=n;subst hin;rw[List.take_of_length_le (by rw[hown.1];exact Nat.le_refl _),List.drop_eq_nil_of_le (by rw[hown.1];exact Nat.le_refl _),List.append_nil];exact Yej B q w v i xs el hown (λj u hj=>by rw[Nat.zero_add];exact(Yc hq (by rw[<- Array.getElem?_toList];exact hj)).1) hel h1e hn hB;have hlt:i<n:=by omega
  have hl:(xs.take (i*11)++el++xs.drop (i*11)).length=(n+1)*11:=by simp only[J0s,List.length_take,List.length_drop,hel,hown.1];omega
  rcases hown.2 with⟨rfl,rfl⟩|⟨g,cap,cur,rfl,hbg,hg,hnc,hcm,hcs,htake⟩
  omega;have hqg:q≠g:=λe=>hqv (by rw[e];rfl);by_cases hr:n+1<=cap;refine(Z6m q g w n i cap cur xs el hg hcs htake hlt hr hcm hq hqg hel h1x h1e hn).mono ?_;rintro e w' ⟨rfl,c2,a1,a2,a3,a4⟩;exact⟨_,rfl,⟨hl,.inr ⟨g,cap,c2,rfl,hbg,a3,hr,hcm,a1.trans hcs,a2⟩⟩,a4,Or.inl rfl⟩;refine(Yac q g w n i cap cur xs el hg hcs htake hlt hnc hr hq hel h1x h1e hn).mono ?_;rintro e w' ⟨G,b1,b2,rfl,c2,a1,a2,a3,a4⟩;exact⟨_,rfl,⟨hl,.inr ⟨_,G,c2,rfl,hB,a3,b1,b2,a1,a2⟩⟩,⟨a4.os,a4.tape,a4.output,a4.size,λk hk _=>a4.block k hk (by simp)⟩,Or.inr rfl⟩
end Tj
namespace Tj
open Go Go.RowKit Go.Proofs Go.Abs
set_option maxHeartbeats 4000000 in
theorem Yad(XA:Array Value)(hX:XA.size=11)(w:World) :
    Calls Tryz.prog 231 #[.slice none 0 0,.agg XA,.func (.func 183) #[] #[]] w λe w' => e = .returned (.tuple #[.int .i64 (0:Nat),.bool false])/\Below w.heap.size w w' := by
  have HN:=Lib.hid (Bx1.start w XA);go_enter Tryz.func231,Tryz.ntmps231;go_wp2;go_loopg[9,10] 0 (λkx s9 s10 wr=>s9 = .int .i64 0/\s10 = .int .i64 0/\Aside (Bx1 w wr XA))
  case atStart=>exact⟨rfl,rfl,HN.out⟩
  case round =>
   obtain⟨rfl,rfl,I⟩:=hrel;have HI:=Lib.hid I.out;clear I HN;go_upto_region 8 with fail
   refine Zrd 16 (λw' => Bx1 w w' XA) (HI.out.drew) (λhS=>?_)
   iterate 16(first|(refine R_go (v:=?_) hS rfl (by rfl) ?_ ?_;rotate_left;(focus(intro wS hSw;go_simp;(try rw[if_pos (by omega)]);(try rfl);done));try simp only[Act.put,pA,pB,pC])|(refine Zy8 hS rfl (by rfl) ?_;try simp only[Act.put,pA,pB,pC]))
   refine Zci ?_;have hN:=hS.near;go_wp2;go_ret2;exact⟨rfl,hN⟩
abbrev AccT:=Int×Int×Int×Int×Unit
def accL(a:AccT):List Value:=[.int .i64 a.1,.int .i64 a.2.1,.int .i64 a.2.2.1,.int .i64 a.2.2.2.1]
def accA(a:AccT):Array Value:=#[.int .i64 a.1,.int .i64 a.2.1,.int .i64 a.2.2.1,.int .i64 a.2.2.2.1]
def acc0(x:Ent):AccT:=(x.2.2.2.1,x.2.2.2.2.1,x.2.2.2.2.2.1,x.2.2.2.2.2.2.1,())
def acc1(x:Ent):AccT:=(x.2.2.2.2.2.2.2.1,x.2.2.2.2.2.2.2.2.1,x.2.2.2.2.2.2.2.2.2.1,x.2.2.2.2.2.2.2.2.2.2.1,())
def Zhp(x:Ent)(a b:AccT):Ent:=(x.1,x.2.1,x.2.2.1,a.1,a.2.1,a.2.2.1,a.2.2.2.1,b.1,b.2.1,b.2.2.1,b.2.2.2.1,())
theorem Yae(a b:AccT):∃r:AccT×Int,Tg.Zm7 a b=some (r.1,r.2,()):=by
 rw[Tg.Z1m,Tg.Zqw,Tg.Zqw];simp only[J0k]
 repeat' (first|exact⟨(_,_),rfl⟩|(rw[Bool.cond_eq_ite];split))
noncomputable def Zaw(a b:AccT):AccT×Int:=Classical.choose (Yae a b)
theorem Ysy(a b:AccT):Tg.Zm7 a b=some ((Zaw a b).1,(Zaw a b).2,()):=Classical.choose_spec (Yae a b)
variable {O:Nat->Prop}
theorem Yaf{w:World}(a:AccT):PARel w O (.a ([a.1,a.2.1,a.2.2.1,a.2.2.2.1].map λn=>PV.int .i64 n)) (.agg (accA a)):=.a _ _ rfl λi p v h1 h2=>Zy9 (l:=[a.1,a.2.1,a.2.2.1,a.2.2.2.1]) h1 (by rw[<- Array.getElem?_toList]at h2;exact h2)
variable {h:List AObj}{ι:Em}
theorem Z3r{w:World}{x y:AV}{v:Value}(hv:VRel h ι w O (.tuple [x,y]) v):∃a b,v = .tuple #[a,b]/\VRel h ι w O x a/\VRel h ι w O y b:=by
 cases hv with|tuple _ vs hl hr=>have h2:vs.size=2:=hl;have e0:vs[0]? = some vs[0]:=Array.getElem?_eq_getElem (by omega);have e1:vs[1]? = some vs[1]:=Array.getElem?_eq_getElem (by omega);refine⟨vs[0],vs[1],congrArg _ ?_,hr 0 _ _ rfl e0,hr 1 _ _ rfl e1⟩;grind
theorem Z3s{w:World}{l:List Int}{v:Value}(hv:VRel h ι w O (.agg (l.map λn=>AV.p (.int .i64 n))) v):v = .agg (l.map λn=>Value.int .i64 n).toArray:=by
 cases hv with
 |agg _ vs hl hr =>
  rw[List.length_map]at hl;refine congrArg _ ?_;apply Array.ext;rw[hl];simp;intro i h3 h4;have h5:i<l.length:=by omega
  have:=hr i (.p (.int .i64 l[i])) vs[i] (by simp[h5]) (Array.getElem?_eq_getElem h3);cases this with|p _ _ hp=>generalize vs[i]=u at hp;cases hp;simp
theorem Yxl(a b:AccT){W:World}(hg:Zv W.heap.size W):Calls Tryz.prog 265 #[.agg (accA a),.agg (accA b)] W λe w' => e = .returned (.tuple #[.agg (accA (Zaw a b).1),.int .i64 (Zaw a b).2])/\Below W.heap.size W w' := by
 have h:=Tg.Y0s (a,b,()) _ (Ysy a b);refine(h no W #[.agg (accA a),.agg (accA b)] (λ_ h=>h.elim) hg ⟨rfl,λi p v hp hv=>?_⟩).mono λe w' ⟨v,ι,he,_,hr,hv⟩=>?_
 match i,hp,hv with|0,hp,hv=>cases hp;cases hv;exact Yaf a|1,hp,hv=>cases hp;cases hv;exact Yaf b
 refine⟨?_,hr.below⟩;rw[he];obtain⟨p,q,rfl,h1,h2⟩:=Z3r hv;obtain rfl:=Z3s (l:=[(Zaw a b).1.1,(Zaw a b).1.2.1,(Zaw a b).1.2.2.1,(Zaw a b).1.2.2.2.1]) h1;cases h2 with|p _ _ hp=>cases hp;rfl
noncomputable def Zak(y x:Ent):Ent×Int:=(Zhp y (Zaw (acc0 y) (acc0 x)).1 (Zaw (acc1 y) (acc1 x)).1,if (Zaw (acc0 y) (acc0 x)).2=0 then(Zaw (acc1 y) (acc1 x)).2 else(Zaw (acc0 y) (acc0 x)).2)
variable {g o:Nat}{t:TypeId}{vs:List Value}
theorem Z6n{w:World}{cur:Array Value}(hg:w.heap[g]? = some (.cells cur t (0,0)))(hfit:o+vs.length<=cur.size)(h1:∀v∈vs,v.oneCell' = true) :
    w.setCells g o vs=w.setRow g (cur.toList.take o++vs++cur.toList.drop (o+vs.length)).toArray:=by
  have hc:∀j,j<vs.length->w.cell? ⟨g,o+0+j,none⟩=some (cur[o+j]?.getD undef):=λj hj=>by grind[cell_of_row]
  have a:=run_storeCells_cells (P:=Tryz.prog) g o vs 0 w (λj hj=>by rw[hc j hj];rfl) (λj hj=>by grind[World.frozen?]) h1;grind[run_storeCells_at]
variable {C:Array Value}
theorem set_mid{w:World}{Pre A Post: List Value}(hg:w.heap[g]? = some (.cells C t (0,0)))(hC:C.toList=Pre++A++Post)(ho:Pre.length=o)(hl:A.length=vs.length)(h1:∀v∈vs,v.oneCell' = true) :
    (w.setCells g o vs).heap[g]? = some (.cells (Pre++vs++Post).toArray t (0,0)):=by
  have hs:C.size=Pre.length+A.length+Post.length:=by grind[Array.length_toList]
  rw[Z6n hg (by omega) h1,setRow_heap w g C _ t _ hg,hC];grind
theorem Zf0(a b:List Ent):Ym (a++b)=Ym a++Ym b:=by grind[Ym]
theorem Zjs(x:Ent)(b:List Ent):Ym (x::b)=entL x++Ym b:=by grind[Ym]
theorem Zzc(es:List Ent)(i:Nat)(hi:i<=es.length):Ym (es.take i)=(Ym es).take (i*11):=by grind[Zf0,List.take_append_drop,Zd8]
theorem Zzd(es:List Ent)(i:Nat)(hi:i<=es.length):Ym (es.drop i)=(Ym es).drop (i*11):=by
 have h:Ym es=Ym (es.take i)++Ym (es.drop i):=by grind[Zf0,List.take_append_drop]
 grind[Zd8]
theorem Yag(x:Ent):∀v∈entL x,v.oneCell' = true:=λv hv=>by simp only[entL,List.mem_cons,List.not_mem_nil,or_false]at hv;rcases hv with h|h|h|h|h|h|h|h|h|h|h<;>rw[h]<;>rfl
theorem Zsp(es:List Ent):∀v∈Ym es,v.oneCell' = true:=λv hv=>by grind[Ym,Yag]
theorem Yem(k:Nat->Int):∀(d lo hi:Nat),hi-lo<=d->lo<=hi->bsK k lo hi<=hi
 |0,lo,hi,h1,h2=>by grind[Zu9]|d+1,lo,hi,h1,h2=>by
  by_cases h:lo<hi;by_cases hk:k ((lo+hi) / 2)<0;rw[Ypb h hk];exact Yem k d _ _ (by omega) (by omega);rw[Ypc h hk];exact Nat.le_trans (Yem k d _ _ (by omega) (by omega)) (by omega);grind[Zu9]
variable {n:Nat}
theorem Yen{w:World}{B c k: Nat}{es:List Ent}{y:Ent}(hr:EnR w B (.slice (some ⟨g,0,none⟩) n c) es)(hy:es[k]? = some y)(a b:AccT){w' : World}
    (hw:w'.heap[g]? = ((w.setCells g (k*11+3) (accL a)).setCells g (k*11+7) (accL b)).heap[g]?):EnR w' B (.slice (some ⟨g,0,none⟩) n c) (es.set k (Zhp y a b)):=by
  have hk:=(J0d.1 hy).1;have hye:=(J0d.1 hy).2;have hsp:es=es.take k++y::es.drop (k+1):=by rw[<- hye];simp
  have hpl:(Ym (es.take k)).length=k*11:=by grind[Zd8]
  rcases hr.2 with⟨h1,_⟩|⟨g',cap,cur,h1,hbg,hg,hnc,hcm,hcs,htake⟩
  cases h1;cases h1;obtain⟨rest,e0⟩:∃rest,cur.toList=Ym (es.take k)++[.int .i64 y.1,.int .i64 y.2.1,.int .i64 y.2.2.1]++accL (acc0 y)++accL (acc1 y)++(Ym (es.drop (k+1))++rest):=by
   refine⟨cur.toList.drop (es.length*11),?_⟩
   conv=>lhs;rw[<- List.take_append_drop (es.length*11) cur.toList,htake]
   conv=>lhs;lhs;rw[hsp,Zf0,Zjs]
   simp[entL,accL,acc0,acc1]
  have h3:=set_mid (w:=w) (o:=k*11+3) (Pre:=Ym (es.take k)++[.int .i64 y.1,.int .i64 y.2.1,.int .i64 y.2.2.1]) (A:=accL (acc0 y)) (Post:=accL (acc1 y)++(Ym (es.drop (k+1))++rest)) (vs:=accL a) hg (by grind) (by grind) rfl (by simp[accL,Value.oneCell']);have h4:=set_mid (w:=w.setCells g (k*11+3) (accL a)) (o:=k*11+7) (Pre:=Ym (es.take k)++[.int .i64 y.1,.int .i64 y.2.1,.int .i64 y.2.2.1]++accL a) (A:=accL (acc1 y)) (Post:=Ym (es.drop (k+1))++rest) (vs:=accL b) h3 (by grind) (by rw[J0s,J0s,hpl];rfl) rfl (by simp[accL,Value.oneCell']);have hset:es.set k (Zhp y a b)=es.take k++Zhp y a b::es.drop (k+1):=by grind[List.set_eq_take_append_cons_drop]
  have hE:Ym (es.set k (Zhp y a b))=Ym (es.take k)++[.int .i64 y.1,.int .i64 y.2.1,.int .i64 y.2.2.1]++accL a++accL b++Ym (es.drop (k+1)):=by rw[hset,Zf0,Zjs];simp[entL,accL,Zhp]
  have hL:(es.set k (Zhp y a b)).length=es.length:=List.length_set;have hEl:(Ym (es.set k (Zhp y a b))).length=es.length*11:=by rw[Zd8,hL]
  show w'.ownsRow B 152 11 _ _ _;rw[hL];refine⟨hEl,.inr ⟨g,c,_,rfl,hbg,hw.trans h4,hnc,hcm,?_,?_⟩⟩;rw[<- hcs,<- Array.length_toList (xs:=cur),e0];simp only[List.size_toArray,J0s,show(accL a).length=4 from rfl,show(accL b).length=4 from rfl,show(accL (acc0 y)).length=4 from rfl,show(accL (acc1 y)).length=4 from rfl];grind
variable {b:Nat}
theorem Zrf{w:World}(h:w.heap[b]? = some (.cells C t))(hn:o+n<=C.size):w.there b o n:=λj hj=>by have:=Yc h (Array.getElem?_eq_getElem (by omega:o+j<C.size));grind[World.frozen?]
theorem Zd9{w:World}{x:Ent}(h:w.heap[b]? = some (.cells (entA x) 152)):w.rangeAt b 0 (entL x):=λj u hj=>by rw[Nat.zero_add];exact(Yc h (by rw[<- Array.getElem?_toList];exact hj)).1
theorem Zsq{P:Program}{ops:Array Oper}{rest:List Oper}{op:Oper}{a:Act}{w:World}{Q:Exit->Act->World->Prop}(hgd:op.guard=none)(ty:TypeId)(x y:Operand)(ho:op.op = .store ty x y)
    (cells:Array Value) (hx:a.eval x = .pointer (some ⟨g,o,none⟩)) (hy:a.eval y = .agg cells) (hg:w.heap[g]? = some (.cells C t (0,0))) (C' : Array Value)
    (hC:(C.toList.take o++cells.toList++C.toList.drop (o+cells.size)).toArray=C') (hn:Nat.ble (o+cells.size) C.size=true) (hi:(P.info? ty).map (·.size)=some cells.size)
    (h:∀w',w'.heap[g]? = some (.cells C' t (0,0))->w.grownBy w' (some g)->wpList P ops Q rest (a.put op.dst undef) w') (h1:cells.all (·.oneCell')=true:=by simp[Value.oneCell']):wpList P ops Q (op::rest) a w:=by
  have hn:=Nat.le_of_ble_eq_true hn;refine wpList_store_mid hgd ty x y ho g o cells hx hy (Zrf hg hn) hi h1 (h _ ?_ (Zaa _ _ _ _));subst hC;refine set_mid (A:=(C.toList.drop o).take cells.size) hg ?_ ?_ ?_ (λv hv=>Array.all_eq_true_iff_forall_mem.1 h1 v (by simpa using hv));grind[List.drop_drop,List.take_append_drop];simp;omega;simp;omega
def acc8(x:Ent):Array Value:=(accL (acc0 x)++accL (acc1 x)).toArray
end Tj
namespace Tj
open Go Go.RowKit Go.Proofs Go.Abs
set_option maxHeartbeats 4000000 in
theorem Yxm(v:Value)(w:World)(x:Ent)(K:Nat)(F:Bool)(E:Int)(R:Value->World->Prop)(Q:World->Prop)
    (hbs:∀W,Below w.heap.size w W->Calls Tryz.prog 231 #[v,.agg (entA x),.func (.func 183) #[] #[]] W λe w' => e = .returned (.tuple #[.int .i64 K,.bool F])/\Below W.heap.size W w')
    (hins:F=false -> ∀W q,Below w.heap.size w W->w.heap.size<=q->W.heap[q]? = some (.cells (entA x) 152)->Calls Tryz.prog 232 #[v,.int .i64 K,.slice (some ⟨q,0,none⟩) 1 1] W λe w' => ∃v',e = .returned v' /\ R v' w')
    (hmrg:F=true -> ∃g n c,v = .slice (some ⟨g,0,none⟩) n c/\K<n/\n<=100000/\g<w.heap.size /\ ∀W,Below w.heap.size w W->Calls Tryz.prog 227 #[.pointer (some ⟨g,K*11,none⟩),.agg (acc8 x)] W λe w' => e = .returned (.int .i64 E)/\Q w' /\ W.grownBy w' (some g)) :
    Calls Tryz.prog 194 #[v,.agg (entA x)] w λe w' => (F=false -> ∃v',e = .returned (.tuple #[v',.int .i64 0])/\R v' w')/\(F=true->e = .returned (.tuple #[v,.int .i64 E])/\Q w'):=by
  have HB:=Lib.hid hbs;have HI:=Lib.hid hins;have HM:=Lib.hid hmrg;have hbl:w.heap.size<(w.alloc (.cells (entA x) 152)).heap.size:=by simp
  have H0:=Lib.hid (And.intro (Zdi w (.cells (entA x) 152)) (heap_alloc_new w (.cells (entA x) 152)));clear hbs hins hmrg;cases F with
  |false =>
   have HI1:=Lib.hid (HI.out rfl);clear HI HM;go_enter Tryz.func194,Tryz.ntmps194;go_wp2_with(first
    |(refine wpList_load_mid rfl 152 _ rfl w.heap.size 0 rfl (entL x) _ (Zd9 H0.out.2) Tryz.underlying152 rfl Qy ?_)|(go_at_call 231;refine(HB.out _ H0.out.1).mono ?_;rintro e w1 ⟨rfl,hb1⟩;have H1:=Lib.hid (And.intro (H0.out.1.trans (hb1.mono H0.out.1.size)) ((hb1.block _ hbl).trans H0.out.2)))|(refine wpList_load_mid rfl 152 _ rfl w.heap.size 0 rfl [.int .i64 x.1,.int .i64 x.2.1,.int .i64 x.2.2.1,.int .i64 x.2.2.2.1,.int .i64 x.2.2.2.2.1,.int .i64 x.2.2.2.2.2.1,.int .i64 x.2.2.2.2.2.2.1,.int .i64 x.2.2.2.2.2.2.2.1,.int .i64 x.2.2.2.2.2.2.2.2.1,.int .i64 x.2.2.2.2.2.2.2.2.2.1,.int .i64 x.2.2.2.2.2.2.2.2.2.2.1] _ (Zd9 H1.out.2) Tryz.underlying152 rfl Qy ?_)|(go_at_call 232;refine(HI1.out _ _ (H1.out.1.alloc H1.out.1.size _) H1.out.1.size (heap_alloc_new w1 (.cells (entA x) 152))).mono ?_;rintro e w2 ⟨v',rfl,hR⟩))
   go_ret2;exact⟨λ_=>⟨v',rfl,hR⟩,λh=>by cases h⟩
  |true =>
   obtain⟨g,n,c,rfl,hKn,hn,hgw,hM⟩:=HM.out rfl;have HM1:=Lib.hid hM;clear HI HM hM;go_enter Tryz.func194,Tryz.ntmps194;go_wp2_with(first
    |(refine wpList_load_mid rfl 152 _ rfl w.heap.size 0 rfl (entL x) _ (Zd9 H0.out.2) Tryz.underlying152 rfl Qy ?_)|(go_at_call 231;refine(HB.out _ H0.out.1).mono ?_;rintro e w1 ⟨rfl,hb1⟩;have HX:=Lib.hid (And.intro (H0.out.1.trans (hb1.mono H0.out.1.size)) ((hb1.block _ hbl).trans H0.out.2));clear HB H0 hb1 hbl))
   refine Zrd 7 (λw' => w'.heap[w.heap.size]? = some (.cells (entA x) 152)) HX.out.2 (λhS=>?_)
   iterate 4(refine R_go (v:=?_) hS rfl (by rfl) ?_ ?_;rotate_left;(focus(intro wS hSw;go_simp<;>first|rfl|rw[if_pos (by omega)]));try simp only[Act.put,pA,pB,pC])
   refine R_go (v:=.agg (acc8 x)) hS rfl (by rfl) ?_ ?_;intro wS hSw;exact Xv 150 (.tmp 25) rfl w.heap.size 3 rfl (accL (acc0 x)++accL (acc1 x)) _ (World.rangeAt_of_block hSw 3 8) Tryz.underlying150 rfl Z6l;try simp only[Act.put,pA,pB,pC]
   refine Zjr rfl (λK hK=>?_);go_simp;refine(HM1.out _ HX.out.1.drew).mono ?_;rintro e w2 ⟨rfl,hQ,hgr⟩;refine hK.out _ _ ((hgr.block _ (Zeg hS) (λe=>Nat.ne_of_gt hgw (J0a e))).trans hS) (λhS=>?_);clear hK K;try simp only[Act.put,pA,pB,pC]
   iterate 1(refine R_go (v:=?_) hS rfl (by rfl) ?_ ?_;rotate_left;(focus(intro wS hSw;go_simp<;>first|rfl|rw[if_pos (by omega)]));try simp only[Act.put,pA,pB,pC])
   refine Zci ?_;go_wp2;go_ret2;exact⟨λh=>(by cases h),λ_=>⟨rfl,hQ⟩⟩
end Tj
namespace Tj
noncomputable section
open Go Go.RowKit Go.Proofs Go.Abs
def kE(es:List Ent)(x:Ent)(i:Nat):Int:=ordI (es.getD i x) x
def putK(es:List Ent)(x:Ent):Nat:=bsK (kE es x) 0 es.length
def putF(es:List Ent)(x:Ent):Bool:=decide (putK es x<es.length)&&decide (kE es x (putK es x)=0)
def putE(es:List Ent)(x:Ent):List Ent×Int:=bif putF es x then(es.set (putK es x) (Zak (es.getD (putK es x) x) x).1,(Zak (es.getD (putK es x) x) x).2)else(es.take (putK es x)++x::es.drop (putK es x),0)
variable {B:Nat}{w':World}
theorem Y01{w: World}(h:Zv B w)(hB:B<=w.heap.size)(hb:Below B w w'):Zv w'.heap.size w' := ⟨Nat.le_trans h.1 (Nat.le_trans hB hb.size),Glob.stable w w' h.2 (hb.mono h.1)⟩
variable {W:World}{es:List Ent}
theorem EnR.near{w: World}{v:Value}(h:EnR w B v es)(hb:Below w.heap.size w W):EnR W B v es:=World.ownsRow.kept (row:=none) h ⟨hb.os,hb.tape,hb.output,hb.size,λk hk _=>hb.block k hk⟩ (by grind)
variable {r:Option Nat}
theorem Xf{w: World}(h:w.grownBy w' r)(hB:B<=w.heap.size)(hr:∀k,r=some k->B<=k):Below B w w' := ⟨h.os,h.tape,h.output,h.size,λk hk=>h.block k (Nat.lt_of_lt_of_le hk hB) (λe=>Nat.lt_irrefl _ (Nat.lt_of_lt_of_le hk (hr k e.symm)))⟩
variable {g o d:Nat}
theorem Zsr{w:World}{cs l:List Value}(h:w.rangeAt g o cs)(hl:∀j u,l[j]? = some u->cs[d+j]? = some u):w.rangeAt g (o+d) l:=λj u hj=>by rw[Nat.add_assoc];exact h (d+j) u (hl j u hj)
variable {n k:Nat}
theorem EnR.there{w:World}{c: Nat}(h:EnR w B (.slice (some ⟨g,0,none⟩) n c) es){m: Nat}(hk:k<es.length)(hd:d+m<=11):w.there g (k*11+d) m:=λj hj=>by
 rcases h.2 with⟨h1,_⟩|⟨g',cap,cur,h1,hbg,hg,hnc,hcm,hcs,htake⟩
 cases h1;cases h1;have hlt:k*11+d+j<cur.size:=by grind
 have:=Yc hg (Array.getElem?_eq_getElem hlt);grind[World.frozen?]
variable {x:Ent}
theorem getD_some{i:Nat}(h:i<es.length):es[i]? = some (es.getD i x):=by grind
theorem Ypd(w:World)(b o:Nat)(R:Nat->Array Value):mrgX w b o R 2=(w.setCells b (o+3) (R 0).toList).setCells b (o+7) (R 1).toList:=rfl
theorem Yeo{l B C:List Value}(A:List Value)(h:l=A++B++C){j:Nat}{u:Value}(hj:B[j]? = some u):l[A.length+j]? = some u:=by grind
theorem Z3t{b: Nat}{y: Ent}{w:World}(hb:b<w.heap.size)(hrg:w.rangeAt b o (entL x))(hth:∀d m,d+m<=11->w.there b (o+d) m)(hg:Zv b w) :
    Calls Tryz.prog 227 #[.pointer (some ⟨b,o,none⟩),.agg (acc8 y)] w λe w' => e = .returned (.int .i64 (Zak x y).2)/\w.grownBy w' (some b) /\
     ((Zak x y).2=0->w'.heap[b]? = ((w.setCells b (o+3) (accL (Zaw (acc0 x) (acc0 y)).1)).setCells b (o+7) (accL (Zaw (acc1 x) (acc1 y)).1)).heap[b]?):=by
  refine(Yjn b o (λi=>accA (if i=0 then acc0 x else acc1 x)) (λi=>accA (if i=0 then acc0 y else acc1 y)) (λi=>accA (if i=0 then(Zaw (acc0 x) (acc0 y)).1 else(Zaw (acc1 x) (acc1 y)).1)) (λi=>if i=0 then(Zaw (acc0 x) (acc0 y)).2 else(Zaw (acc1 x) (acc1 y)).2) w hb (acc8 y) rfl
   (λk hk w=>?_) (λk=>⟨rfl,by grind[accA,Value.oneCell']⟩) (λk=>⟨rfl,by grind[accA,Value.oneCell']⟩) (λi hi=>?_) hg (λi hi _ W hW=>?_)).mono ?_
  rcases(by omega:k=0∨k=1)with rfl|rfl<;>kernel_rfl
  rcases(by omega:i=0∨i=1)with rfl|rfl
  exact⟨rfl,Zsr (d:=3) hrg (λj u hj=>Yeo (C:=accL (acc1 x)) ((entL x).take 3) rfl hj),hth 3 4 (by omega)⟩;exact⟨rfl,Zsr (d:=7) hrg (λj u hj=>Yeo (C:=[]) ((entL x).take 7) rfl hj),hth 7 4 (by omega)⟩;grind[Yxl];rintro e w' ⟨rfl,hm⟩;refine⟨rfl,hm.grow,λh0=>?_⟩;have h1:(Zaw (acc0 x) (acc0 y)).2=0/\(Zaw (acc1 x) (acc1 y)).2=0:=by grind[Zak]
  have hk:=hm.blk;simp only[h1.1,h1.2,if_true,if_false,Nat.one_ne_zero,Ypd]at hk;exact hk
theorem Ysz{c: Nat}{y: Ent}{w:World}(hr:EnR w B (.slice (some ⟨g,0,none⟩) n c) es)(hy:es[k]? = some y)(hB:B<=w.heap.size)(hg:Zv B w) :
    Calls Tryz.prog 227 #[.pointer (some ⟨g,k*11,none⟩),.agg (acc8 x)] w λe w' =>
     e = .returned (.int .i64 (Zak y x).2)/\w.grownBy w' (some g)/\((Zak y x).2=0->EnR w' B (.slice (some ⟨g,0,none⟩) n c) (es.set k (Zak y x).1)) :=
  (Z3t (hr.lt g rfl).2 (EnR.range hr hy) (λd m h=>hr.there (J0d.1 hy).1 h) ⟨Nat.le_trans hg.1 (hr.lt g rfl).1,hg.2⟩).mono λe w' ⟨he,h1,h2⟩=>⟨he,h1,λh0=>Yen hr hy _ _ (h2 h0)⟩
theorem Zze{w: World}(hb:Below w.heap.size w W)(h:W.grownBy w' r):w.grownBy w' r:=World.grownBy.trans (b:=W) ⟨hb.os,hb.tape,hb.output,hb.size,λk hk _=>hb.block k hk⟩ h
theorem Ys0(es:List Ent)(x:Ent):putK es x<=es.length:=Yem _ _ _ _ (Nat.le_refl _) (Nat.zero_le _)
theorem Yui{v:Value}{w:World}(hr:EnR w B v es)(hn:es.length<=100000)(hB:B<=w.heap.size)(hg:Zv B w) :
    Calls Tryz.prog 194 #[v,.agg (entA x)] w λe w' => ∃v',e = .returned (.tuple #[v',.int .i64 (putE es x).2])/\Below B w w' /\ ((putE es x).2=0->EnR w' B v' (putE es x).1)/\w.grownBy w' v.ownBlock/\(∀g,g<w.heap.size->v.ownBlock≠some g->v'.ownBlock≠some g):=by
  have hle:=Ys0 es x;have hob:∀k,v.ownBlock=some k->B<=k/\k<w.heap.size:=World.ownsRow.lt hr;refine(Yxm v w x (putK es x) (putF es x) (Zak (es.getD (putK es x) x) x).2
   (λv' w' => EnR w' B v' (es.take (putK es x)++x::es.drop (putK es x))/\Below B w w' /\ w.grownBy w' v.ownBlock/\(∀g,g<w.heap.size->v.ownBlock≠some g->v'.ownBlock≠some g)) (λw' => ((Zak (es.getD (putK es x) x) x).2=0->EnR w' B v (es.set (putK es x) (Zak (es.getD (putK es x) x) x).1))/\Below B w w' /\ w.grownBy w' v.ownBlock)
   (λW hW=>?_) (λhF W q hW hq hqh=>?_) (λhF=>?_)).mono ?_
  have hrW:=hr.near hW;rcases hr.2 with⟨rfl,h0⟩|⟨g,cap,cur,rfl,hbg,hgh,hnc,hcm,hcs,htake⟩
  have he:es=[]:=List.length_eq_zero_iff.1 h0;subst he;have h1:putK [] x=0:=Zu9 (by simp);have h2:putF [] x=false:=by unfold putF;simp
  rw[h1,h2];exact Yad (entA x) rfl W;exact Z99 (entA x) rfl (kE es x) (λi=>entA (es.getD i x)) es.length g cap W hn (λi hi=>⟨rfl,EnR.range hrW (getD_some hi)⟩) (hrW.lt g rfl).2 (λi W2 hi hW2=>Ysx _ _ (Y01 hg hB ((hW.trans (hW2.mono hW.size)).mono hB)));have hrW:=hr.near hW;refine(Yel B q W v es.length (putK es x) (Ym es) (entL x) hrW hle hqh (λh=>Nat.lt_irrefl _ (Nat.lt_of_lt_of_le (hob q h).2 hq)) rfl (Zsp es) (Yag x) hn (Nat.le_trans hB hW.size)).mono ?_;grind[Xf,Zze,Zf0,Zjs,Zzc,Zzd];have hF2:=hF;unfold putF at hF2;rw[J0e,J0h]at hF2;have hk:=hF2.1;rcases hr.2 with⟨rfl,h0⟩|⟨g,cap,cur,rfl,hbg,hgh,hnc,hcm,hcs,htake⟩
  omega;refine⟨g,es.length,cap,rfl,hk,hn,(hob g rfl).2,λW hW=>?_⟩;refine(Ysz (x:=x) (hr.near hW) (getD_some (x:=x) hk) (Nat.le_trans hB hW.size) ⟨hg.1,Glob.stable w W hg.2 (hW.mono (Nat.le_trans hg.1 hB))⟩).mono ?_;rintro e w' ⟨rfl,h1,h2⟩;exact⟨rfl,⟨h2,(hW.mono hB).trans (Xf h1 (Nat.le_trans hB hW.size) (λk hk=>(hob k hk).1)),Zze hW h1⟩,h1⟩;grind[putE]
theorem Ype(es:List Ent)(x:Ent):(putE es x).1.length<=es.length+1:=by grind[putE]
end
end Tj
namespace Tj
open Go Go.RowKit Go.Proofs Go.Abs
def Ypf(y x:Ent):Bool:=decide (y.1=x.1)&&decide (y.2.1<x.2.2.1)&&decide (x.2.1<y.2.2.1)
set_option maxHeartbeats 4000000 in
theorem Ys1(y0 y1 y2 y3 y4 y5 y6 y7 y8 y9 y10 x0 x1 x2:Int)(b:Nat)(w:World)(hb:b<w.heap.size)(h0:w.cell? ⟨b,0,none⟩=some (.int .i64 x0))(h1:w.cell? ⟨b,1,none⟩=some (.int .i64 x1))(h2:w.cell? ⟨b,2,none⟩=some (.int .i64 x2)) :
    Calls Tryz.prog 226 #[.agg #[.int .i64 y0,.int .i64 y1,.int .i64 y2,.int .i64 y3,.int .i64 y4,.int .i64 y5,.int .i64 y6,.int .i64 y7,.int .i64 y8,.int .i64 y9,.int .i64 y10],.pointer (some ⟨b,0,none⟩)] w λe w' =>
     e = .returned (.bool (decide (y0=x0)&&decide (y1<x2)&&decide (x1<y2)))/\Below w.heap.size w w' := by
  have HN:=Lib.hid (Zdi w (.cells #[.int .i64 y0,.int .i64 y1,.int .i64 y2,.int .i64 y3,.int .i64 y4,.int .i64 y5,.int .i64 y6,.int .i64 y7,.int .i64 y8,.int .i64 y9,.int .i64 y10] 152));have c0:∀o,(w.alloc o).cell? ⟨b,0,none⟩=some (.int .i64 x0):=λo=>by rw[World.cell?_alloc_lt _ _ _ hb];exact h0
  have c1:∀o,(w.alloc o).cell? ⟨b,1,none⟩=some (.int .i64 x1):=λo=>by rw[World.cell?_alloc_lt _ _ _ hb];exact h1
  have c2:∀o,(w.alloc o).cell? ⟨b,2,none⟩=some (.int .i64 x2):=λo=>by rw[World.cell?_alloc_lt _ _ _ hb];exact h2
  clear h0 h1 h2;go_enter Tryz.func226,Tryz.ntmps226;by_cases a:y0=x0
  . subst a;by_cases b1:y1<x2
    . by_cases b2:x1<y2
      . go_wp2;go_ret;exact⟨by first|(simp[*];done)|(simp;omega),HN.out⟩
      . go_wp2;go_ret;exact⟨by first|(simp[*];done)|(simp;omega),HN.out⟩
    . go_wp2;go_ret;exact⟨by first|(simp[*];done)|(simp;omega),HN.out⟩
  . go_wp2;go_ret;exact⟨by first|(simp[*];done)|(simp;omega),HN.out⟩
def Zgx(p:Nat->Bool)(i n:Nat):Int:=if h:i<n then(if p i=true then(i:Int)else Zgx p (i+1) n)else -1
termination_by n-i
variable {p:Nat->Bool}{n:Nat}
theorem Z3u{i: Nat}(h:i<n)(hp:p i=true):Zgx p i n=i:=by rw[Zgx,dif_pos h,if_pos hp]
theorem Zzf{i: Nat}(h:i<n)(hp:p i=false):Zgx p i n=Zgx p (i+1) n:=by rw[Zgx,dif_pos h,if_neg (by rw[hp];exact Bool.false_ne_true)]
theorem Zn2{i: Nat}(h:¬i<n):Zgx p i n = -1:=by rw[Zgx,dif_neg h]
theorem Yah(p:Nat->Bool)(n:Nat):∀(d i:Nat),n-i<=d->Zgx p i n<n/\(-1<=Zgx p i n)
 |0,i,h=>by rw[Zn2 (by omega)];omega|d+1,i,h=>by
  by_cases hi:i<n;cases hp:p i with|true=>rw[Z3u hi hp];omega|false=>rw[Zzf hi hp];exact Yah p n d (i+1) (by omega)
  rw[Zn2 hi];omega
set_option maxHeartbeats 4000000 in
theorem Ys2(YA:Nat->Array Value)(p:Nat->Bool)(n g c b:Nat)(w:World)(hn:n<=100000)(hY:∀i,i<n->(YA i).size=11/\w.rangeAt g (i*11) (YA i).toList)(hgl:g<w.heap.size)
    (hC:∀i W,i<n->Below w.heap.size w W->Calls Tryz.prog 226 #[.agg (YA i),.pointer (some ⟨b,0,none⟩)] W λe w' => e = .returned (.bool (p i))/\Below W.heap.size W w') :
    Calls Tryz.prog 225 #[.slice (some ⟨g,0,none⟩) n c,.func (.func 226) #[] #[.pointer (some ⟨b,0,none⟩)]] w λe w' => e = .returned (.int .i64 (Zgx p 0 n))/\Below w.heap.size w w' := by
  have HY:=Lib.hid hY;have HC:=Lib.hid hC;clear hY hC;generalize hR:Zgx p 0 n=R;have H0:=Lib.hid hR;clear hR;go_enter Tryz.func225,Tryz.ntmps225;go_wp2;go_loopg[8] n (λkx s8 wr=>∃i:Nat,s8 = .int .i64 i/\i<=n/\n-i<=kx/\Aside (Zgx p i n=R/\Below w.heap.size w wr))
  case atStart=>exact⟨0,rfl,by omega,by omega,H0.out,Below.refl _ _⟩
  case round =>
   obtain⟨i,rfl,hin,hgg,I⟩:=hrel;have HI:=Lib.hid I.out;clear I H0;by_cases hlt:i<n
   . have HYi:=Lib.hid (HY.out i hlt);have HCi:=Lib.hid (HC.out i _ hlt HI.out.2);have HE:=Lib.hid (λh=>Zzf (p:=p) hlt h);have hl1:(YA i).toList.length=11:=by simpa using HYi.out.1
     cases hp:p i with
     |true =>
      have e1:R=(i:Int):=by rw[<- HI.out.1,Z3u hlt hp]
      subst e1;rw[hp]at HCi;clear hp HY HC;go_wp2_with(first
       |(refine wpList_load_mid rfl 152 _ rfl g (i*11) rfl (YA i).toList _ (Zbc HI.out.2 hgl HYi.out.2) Tryz.underlying152 rfl (by rw[hl1];exact Qy) ?_)|(go_at_call 226;refine HCi.out.mono ?_;rintro e w1 ⟨rfl,hb1⟩))
      go_ret;exact⟨rfl,HI.out.2.trans (hb1.mono HI.out.2.size)⟩
     |false =>
      have e1:Zgx p (i+1) n=R:=by rw[<- HI.out.1,Zzf hlt hp]
      have HE1:=Lib.hid e1;rw[hp]at HCi;clear hp HY HC HE e1;go_wp2_with(first
       |(refine wpList_load_mid rfl 152 _ rfl g (i*11) rfl (YA i).toList _ (Zbc HI.out.2 hgl HYi.out.2) Tryz.underlying152 rfl (by rw[hl1];exact Qy) ?_)|(go_at_call 226;refine HCi.out.mono ?_;rintro e w1 ⟨rfl,hb1⟩))
      go_roundg(n-(i+1))
      case measure=>omega
      case rel=>exact⟨i+1,rfl,by omega,Nat.le_refl _,HE1.out,HI.out.2.trans (hb1.mono HI.out.2.size)⟩
   . have eR:R = -1:=by rw[<- HI.out.1,Zn2 hlt]
     subst eR;clear HY HC;go_wp2;go_ret;exact⟨rfl,HI.out.2⟩
set_option maxHeartbeats 4000000 in
theorem Ypg(b:Nat)(w:World) :
    Calls Tryz.prog 225 #[.slice none 0 0,.func (.func 226) #[] #[.pointer (some ⟨b,0,none⟩)]] w λe w' => e = .returned (.int .i64 (-1))/\Below w.heap.size w w' := by
  have H0:=Lib.hid (Below.refl w.heap.size w);go_enter Tryz.func225,Tryz.ntmps225;go_wp2;go_loopg[8] 0 (λkx s8 wr=>s8 = .int .i64 0/\Aside (Below w.heap.size w wr))
  case atStart=>exact⟨rfl,H0.out⟩
  case round=>obtain⟨rfl,I⟩:=hrel;have HI:=Lib.hid I.out;clear I H0;go_wp2;go_ret;exact⟨rfl,HI.out⟩
end Tj
namespace Tj
open Go Go.RowKit Go.Proofs Go.Abs
theorem Zss{P:Program}{ops:Array Oper}{o:Oper}{a:Act}{w:World}{K:Act->World->Prop}{Q:Exit->Act->World->Prop}{E:Prop}
    (hg:o.guard=none) (d x:Operand) (dT sT:TypeId) (hop:o.op=Op.call { callee:=Callee.builtin Builtin.append,args:=#[d,x],argTypes:=#[dT,sT] })
    (v u:Value) (hd:a.eval d=v) (hx:a.eval x=u) {v' : Value} {w' : World} (hr:(Builtin.append_ #[dT,sT] o.type #[v,u]).run P w = .ok v' w') (hK:K (a.put o.dst v') w') :
    if Region.wanted o (yielded ops a.tmps)=true then Oper.wp P o a w K Q else E:=by
  have hw:Region.wanted o (yielded ops a.tmps)=true:=by simp[Region.wanted,hg]
  rw[if_pos hw];unfold Oper.wp;simp[execOp,hop,resolve,invoke,builtin,hd,hx,hr,Result.andThen];exact hK
def z11:List Value:=List.replicate 11 (.int .i64 0)
theorem Z6o:z11.length=11:=rfl
theorem Ys3:∀v∈z11,v.oneCell' = true:=λv hv=>by rw[List.eq_of_mem_replicate hv];rfl
theorem Z1p(w:World)(ty:TypeId)(g o c:Nat)(cur:Array Value)(hg:w.heap[g]? = some (.cells cur 152 (0,0)))(hfit:o+11<=cur.size) :
    (Builtin.clear_ #[51] ty #[.slice (some ⟨g,o,none⟩) 1 c]).run Tryz.prog w = .ok (.tuple #[]) (w.setRow g (cur.toList.take o++z11++cur.toList.drop (o+11)).toArray):=by
  have hst:=run_storeCells_at (P:=Tryz.prog) g o 152 z11 0 cur w hg (by simpa[Z6o]using hfit) Ys3;have hz:∀W,(zeroValue 152).run Tryz.prog W = .ok (.agg (Array.replicate 11 (.int .i64 0))) W:=λW=>by kernel_rfl
  have hzc:(Builtin.zeroCells (Value.agg (Array.replicate 11 (.int .i64 0))).cells 1).toList=z11:=by kernel_rfl
  simp only[Nat.add_zero,Z6o]at hst;simp[Builtin.clear_,run_underlying Tryz.underlying51,hz,hzc,hst]
set_option maxHeartbeats 4000000 in
theorem Yjp(g:Nat)(w:World)(k i c:Nat)(cur:Array Value)(xs:List Value)(hg:w.heap[g]? = some (.cells cur 152))(hcs:cur.size=c*11)(htake:cur.toList.take ((k+1)*11)=xs)(hi:i<=k)(hnc:k+1<=c)(hcm:c<=maxLen)(h1x:∀u∈xs,u.oneCell' = true)(hn:k+1<=100000) :
    Calls Tryz.prog 228 #[.slice (some ⟨g,0,none⟩) (k+1) c,.int .i64 i,.int .i64 ((i:Int)+1)] w λe w' => e = .returned (.slice (some ⟨g,0,none⟩) k c) /\
     ∃c2:Array Value,c2.size=cur.size/\c2.toList.take (k*11)=xs.take (i*11)++xs.drop ((i+1)*11)/\w'.heap[g]? = some (.cells c2 152)/\w.grownBy w' (some g):=by
  have mixed:Tryz.prog.follows .mixedOrders=true:=by kernel_rfl
  obtain⟨i0,hi0,hz0,hzs,hzb⟩:=info_parts Zva;have hL:cur.toList.length=c*11:=by rw[Array.length_toList,hcs]
  have hxl:xs.length=(k+1)*11:=by rw[<- htake,List.length_take,hL];omega
  have hdl:(xs.drop ((i+1)*11)).length=(k-i)*11:=by rw[List.length_drop,hxl];omega
  have hxc:∀j u,xs[j]? = some u->cur.toList[j]? = some u:=λj u hj=>by
   rw[<- htake,List.getElem?_take]at hj;split at hj;exact hj;cases hj
  obtain⟨c1,hc1⟩:∃c1:Array Value,c1=(cur.toList.take (i*11)++xs.drop ((i+1)*11)++cur.toList.drop (i*11+(xs.drop ((i+1)*11)).length)).toArray:=⟨_,rfl⟩;obtain⟨c2,hc2⟩:∃c2:Array Value,c2=(c1.toList.take (k*11)++z11++c1.toList.drop (k*11+11)).toArray:=⟨_,rfl⟩;have htl:(cur.toList.take (i*11)).length=i*11:=by rw[List.length_take,hL];omega
  have s1:c1.size=cur.size:=by rw[hc1,hcs];simp only[List.size_toArray,J0s,htl,hdl,List.length_drop,hL];omega
  have s2:c2.size=cur.size:=by rw[hc2];simp only[List.size_toArray,J0s,List.length_take,List.length_drop,Array.length_toList,Z6o,s1,hcs];omega
  have hfx:cur.toList.take (i*11)=xs.take (i*11):=by rw[<- htake,List.take_take];congr 1;omega
  have hT:c2.toList.take (k*11)=xs.take (i*11)++xs.drop ((i+1)*11):=by
   have l1:(c1.toList.take (k*11)).length=k*11:=by rw[List.length_take,Array.length_toList,s1,hcs];omega
   have l2:(cur.toList.take (i*11)++xs.drop ((i+1)*11)).length=k*11:=by rw[J0s,htl,hdl];omega
   rw[hc2,List.append_assoc,List.take_append_of_le_length (by rw[l1];exact Nat.le_refl _),List.take_take,Nat.min_self,hc1];rw[List.take_append_of_le_length (by rw[l2];exact Nat.le_refl _),List.take_of_length_le (by rw[l2];exact Nat.le_refl _),hfx]
  have hgd:w.drew.heap[g]? = some (.cells cur 152 (0,0)):=hg;have hap0:∀ty a sc,(∀j u,(xs.drop ((i+1)*11))[j]? = some u->w.drew.cell? (a.add j)=some u)->(Builtin.append_ #[51,51] ty #[.slice (some ⟨g,0,none⟩) i c,.slice (some a) (k-i) sc]).run Tryz.prog w.drew = .ok (.slice (some ⟨g,0,none⟩) k c) (w.drew.setRow g c1):=λty a sc ha=>by have h:=run_append_room (P:=Tryz.prog) w.drew 51 ty 152 i0 Tryz.underlying51 hi0 g i c cur hgd a (k-i) sc (xs.drop ((i+1)*11)) (by rw[hdl,hzs]) ha (λu hu=>h1x u (List.mem_of_mem_drop hu)) (by omega) (by rw[hdl,hzs,hcs];omega);rw[hzs,<- hc1,show i+(k-i)=k by omega]at h;exact h
  have hg1:∀W:World,W.heap=(w.drew.setRow g c1).heap->W.heap[g]? = some (.cells c1 152 (0,0)):=λW hW=>by rw[hW];exact setRow_heap w.drew g cur _ 152 _ hgd
  have hcl:∀(W:World),W.heap=(w.drew.setRow g c1).heap -> ∀ty cc,(Builtin.clear_ #[51] ty #[.slice (some ⟨g,k*11,none⟩) 1 cc]).run Tryz.prog W = .ok (.tuple #[]) (W.setRow g c2):=λW hW ty cc=>by have h:=Z1p W ty g (k*11) cc c1 (hg1 W hW) (by rw[s1,hcs];omega);rw[<- hc2]at h;exact h
  have hfin:c2.size=cur.size/\c2.toList.take (k*11)=xs.take (i*11)++xs.drop ((i+1)*11)/\((w.drew.setRow g c1).setRow g c2).heap[g]? = some (.cells c2 152)/\w.grownBy ((w.drew.setRow g c1).setRow g c2) (some g):=⟨s2,hT,setRow_heap _ g c1 _ 152 _ (hg1 _ rfl),rfl,rfl,rfl,by simp,λk _ hk=>by rw[setRow_other _ g k _ (λe=>hk (by rw[e])),setRow_other _ g k _ (λe=>hk (by rw[e]))];rfl⟩;have HF:=Lib.hid hfin;have hz2:¬((i:Int)=(i:Int)+1):=by omega
  have hb1:(0:Int)<=(i:Int)+1:=by omega
  have hb3:(i:Int)<=(k:Int)+1:=by omega
  have hb5:(i:Int)+1<=(k:Int)+1:=by omega
  have hic:i<=c:=by omega
  have hii:(i:Int)<=(i:Int)+1:=by omega
  have hcl1:=hcl (w.drew.setRow g c1) rfl;have hck:¬(c=k):=by omega
  unfold maxLen at hcm;by_cases hci:c=i+1
  case' pos =>
   obtain rfl:k=i:=by omega
   subst hci;have hap:∀ty sc,(Builtin.append_ #[51,51] ty #[.slice (some ⟨g,0,none⟩) k (k+1),.slice (some ⟨g,0,none⟩) 0 sc]).run Tryz.prog w.drew = .ok (.slice (some ⟨g,0,none⟩) k (k+1)) (w.drew.setRow g c1):=λty sc=>by have h:=hap0 ty ⟨g,0,none⟩ sc (λj u hj=>by have:=(J0d.1 hj).1;rw[hdl]at this;omega);rw[Nat.sub_self]at h;exact h
  case' neg=>have hap:∀ty sc,(Builtin.append_ #[51,51] ty #[.slice (some ⟨g,0,none⟩) i c,.slice (some ⟨g,(i+1)*11,none⟩) (k-i) sc]).run Tryz.prog w.drew = .ok (.slice (some ⟨g,0,none⟩) k c) (w.drew.setRow g c1):=λty sc=>hap0 ty _ sc (Zfz hgd (λj u hj=>by rw[List.getElem?_drop]at hj;exact hxc _ _ hj))
  all_goals
   clear hg h1x htake hcs hc1 hc2 s1 s2 hT hgd hg1 hfin hap0 hi0 hz0 hzs hzb hxc hdl hxl hfx htl hL;go_enter Tryz.func228,Tryz.ntmps228;go_wp2;refine Zrd 8 (λw' => True) (trivial) (λhS=>?_)
   iterate 6(refine R_go (v:=?_) hS rfl (by rfl) ?_ ?_;rotate_left;(focus(intro wS hSw;go_simp<;>first|rfl|rw[if_pos (by omega)]));try simp only[Act.put,pA,pB,pC])
   refine Zjr rfl (λK hK=>?_);refine Zss rfl _ _ 51 51 rfl _ _ rfl rfl (hap _ _) ?_;refine hK.out _ _ trivial (λhS=>?_);clear hK K;try simp only[Act.put,pA,pB,pC]
   iterate 1(refine R_go (v:=?_) hS rfl (by rfl) ?_ ?_;rotate_left;(focus(intro wS hSw;go_simp<;>first|rfl|rw[if_pos (by omega)]));try simp only[Act.put,pA,pB,pC])
   refine Zci ?_;go_wp2;go_ret;exact⟨rfl,c2,HF.out⟩
theorem Yph{B g c n i:Nat}{es:List Ent}{w:World}(hr:EnR w B (.slice (some ⟨g,0,none⟩) n c) es)(hi:i<es.length)(hn:es.length<=100000) :
    Calls Tryz.prog 228 #[.slice (some ⟨g,0,none⟩) n c,.int .i64 i,.int .i64 ((i:Int)+1)] w λe w' => e = .returned (.slice (some ⟨g,0,none⟩) (n-1) c)/\EnR w' B (.slice (some ⟨g,0,none⟩) (n-1) c) (es.take i++es.drop (i+1))/\w.grownBy w' (some g):=by
  rcases hr.2 with⟨h1,_⟩|⟨g',cap,cur,h1,hbg,hg,hnc,hcm,hcs,htake⟩
  cases h1;cases h1;obtain⟨k,hk⟩:∃k,es.length=k+1:=⟨es.length-1,by omega⟩;rw[hk]at htake hnc ⊢;refine(Yjp g w k i c cur (Ym es) hg hcs htake (by omega) hnc hcm (Zsp es) (by omega)).mono ?_;rintro e w' ⟨rfl,c2,h1,h2,h3,h4⟩;have hl:(es.take i++es.drop (i+1)).length=k:=by rw[J0s,List.length_take,List.length_drop];omega
  have hE:Ym (es.take i++es.drop (i+1))=(Ym es).take (i*11)++(Ym es).drop ((i+1)*11):=by rw[Zf0,Zzc _ _ (by omega),Zzd _ _ (by omega)]
  refine⟨rfl,?_,h4⟩;show w'.ownsRow B 152 11 _ _ _;rw[hl,Nat.add_sub_cancel];refine⟨by rw[Zd8,hl],.inr ⟨g,c,c2,rfl,hbg,h3,by omega,hcm,h1.trans hcs,by rw[h2,hE]⟩⟩
theorem Yjq{b:Nat}{x y:Ent}{w:World}(hb:w.heap[b]? = some (.cells (entA x) 152))(hg:Zv b w) :
    Calls Tryz.prog 227 #[.pointer (some ⟨b,0,none⟩),.agg (acc8 y)] w λe w' =>
     e = .returned (.int .i64 (Zak x y).2)/\w.grownBy w' (some b)/\((Zak x y).2=0->w'.heap[b]? = some (.cells (entA (Zak x y).1) 152)) :=
  (Z3t (Zeg hb) (Zd9 hb) (λd m h=>Zrf hb (show 0+d+m<=11 by omega)) hg).mono λe w' ⟨he,h1,h2⟩=>⟨he,h1,λh0=>by have h3:=set_mid (w:=w) (g:=b) (o:=0+3) (Pre:=[.int .i64 x.1,.int .i64 x.2.1,.int .i64 x.2.2.1]) (A:=accL (acc0 x)) (Post:=accL (acc1 x)) (vs:=accL (Zaw (acc0 x) (acc0 y)).1) hb rfl rfl rfl (by simp[accL,Value.oneCell']);have h4:=set_mid (g:=b) (o:=0+7) (Pre:=[.int .i64 x.1,.int .i64 x.2.1,.int .i64 x.2.2.1]++accL (Zaw (acc0 x) (acc0 y)).1) (A:=accL (acc1 x)) (Post:=[]) (vs:=accL (Zaw (acc1 x) (acc1 y)).1) h3 (by simp) rfl rfl (by simp[accL,Value.oneCell']);exact(h2 h0).trans h4⟩
end Tj
