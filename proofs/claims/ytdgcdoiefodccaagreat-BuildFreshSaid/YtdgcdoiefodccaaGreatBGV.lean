import Derived.Deep.Upon
import Derived.Test.YtdgcdoiefodccaaGreatBMW
/- ref36.Given: its walk. -/
set_option linter.unusedVariables false
set_option linter.unusedSimpArgs false
set_option maxRecDepth 100000
namespace Tj
open Go Go.RowKit Go.Proofs
theorem Yu0:(Tryz.prog.info? 82).map (fun i=>(i.zero,i.size,i.bytes))=some (some (.agg #[.bool false,.int .i64 0,.int .i64 0,.int .i64 0,.int .i64 0]),5,40):=by kernel_rfl
theorem Yu1:(Tryz.prog.info? 54).map (fun i=>(i.zero,i.size,i.bytes))=some (some (.slice none 0 0),1,24):=by kernel_rfl
theorem Zra {w:World}{B:Nat}{e:TypeId}{size:Nat}{v:Value}{n:Nat}{xs:List Value}(h:w.ownsRow B e size v n xs):∀ g,v.ownBlock=some g → ∃ c fz,w.heap[g]? = some (.cells c e fz):=by
 intro g hg
 rcases h.2 with ⟨h1,_⟩ | ⟨g',cap,cur,h1,h2,h3,_⟩
 · rw [h1] at hg;cases hg
 · rw [h1] at hg
   obtain rfl:g' = g:=by simpa [Value.ownBlock] using hg
   exact⟨_,_,h3⟩
theorem Yde {w:World}{b1 b2:Nat}{e1 e2:TypeId}{s1 s2 n1 n2:Nat}{v1 v2:Value}{x1 x2:List Value}(h1:w.ownsRow b1 e1 s1 v1 n1 x1)(h2:w.ownsRow b2 e2 s2 v2 n2 x2)(he:e1≠e2):v1.ownBlock=none∨v1.ownBlock≠v2.ownBlock:=by
 cases h:v1.ownBlock with
 | none=>exact .inl rfl
 | some g =>
  refine .inr fun hh=>?_
  obtain⟨c,fz,k1⟩:=Zra h1 g h
  obtain⟨c',fz',k2⟩:=Zra h2 g hh.symm
  rw [k1] at k2
  cases k2
  exact he rfl
abbrev Sv:=Option Addr×Nat×Nat×List Value
structure EvOk (w:World) (x:Sv):Prop where
 len:x.2.2.2.length=x.2.1 * 5
 cells:∀ (i:Nat) (v:Value),x.2.2.2[i]? = some v→v.oneCell' = true ∧ ∃ b,x.1=some b∧b.block<w.heap.size∧w.cell? (b.add i)=some v
 small:x.2.1≤100000
def srcs (L:List (Int×Sv)):List Sv:=(L.filter fun x=>x.1==1).map (·.2)
theorem Ykr {L:List (Int×Sv)}{k:Nat}{x:Int×Sv}(h:L[k]? = some x)(e:x.1=1):srcs (L.take (k+1))=srcs (L.take k)++[x.2]:=by
 unfold srcs
 rw [List.take_add_one,h,List.filter_append,List.map_append]
 simp [e]
theorem Yew {L:List (Int×Sv)}{k:Nat}{x:Int×Sv}(h:L[k]? = some x)(e:x.1≠1):srcs (L.take (k+1))=srcs (L.take k):=by
 unfold srcs
 rw [List.take_add_one,h,List.filter_append,List.map_append]
 simp [e]
theorem Yks (L:List (Int×Sv))(k:Nat):(srcs (L.take k)).length≤k:=by
 unfold srcs
 rw [List.length_map]
 exact Nat.le_trans (List.length_filter_le _ _) (by rw [List.length_take];omega)
structure GV (B:Nat) (wr:World) (v:Value) (S:List Sv):Prop where
 row:∃ vs,wr.ownsRow B 54 1 v S.length vs ∧ ∀ (j:Nat) (X:Sv) (x:Value),S[j]? = some X→vs[j]? = some x→wr.ownsRow B 82 5 x X.2.1 X.2.2.2
theorem GV.nil (B:Nat)(wr:World):GV B wr (.slice none 0 0) []:=⟨[],World.ownsRow_nil _ _ _ _,fun j X x h=>by simp at h⟩
theorem row_one {w:World}{B:Nat}{e:TypeId}{size:Nat}{v:Value}{n:Nat}{xs:List Value}(h:w.ownsRow B e size v n xs):v.oneCell' = true:=by
 rcases h.2 with ⟨h1,_⟩ | ⟨g',cap,cur,h1,_⟩ <;> rw [h1] <;> rfl
theorem GV.more {B:Nat}{wr w2 w4:World}{v v' v2:Value}{S:List Sv}{X:Sv}{vs:List Value}(hB:B≤wr.heap.size)(hown:wr.ownsRow B 54 1 v S.length vs)
    (hels:∀ (j:Nat) (X:Sv) (x:Value),S[j]? = some X→vs[j]? = some x→wr.ownsRow B 82 5 x X.2.1 X.2.2.2)
    (h2:w2.ownsRow B 82 5 v' X.2.1 X.2.2.2) (g2:(wr.alloc (.cells #[] 82)).grownBy w2 (some wr.heap.size))
    (h4:w4.ownsRow B 54 1 v2 (S.length+1) (vs++[v'])) (g4:(w2.alloc (.cells #[v'] 54)).grownBy w4 v.ownBlock):GV B w4 v2 (S++[X]):=by
  have far:∀ {e:TypeId} {size:Nat} {x:Value} {n:Nat} {xs:List Value},wr.ownsRow B e size x n xs→x.ownBlock=none∨x.ownBlock≠some wr.heap.size:=fun {e size x n xs} h=>by
   cases hx:x.ownBlock with
   | none=>exact .inl rfl
   | some g =>
    have:=(h.lt g hx).2
    exact .inr fun hh=>by have:=Option.some.inj hh;omega
  have hv2:w2.ownsRow B 54 1 v S.length vs:=(hown.alloc _).kept g2 (far hown)
  refine⟨vs++[v'],by rw [List.length_append];exact h4,fun j Y y hj hy=>?_⟩
  by_cases hlt:j<S.length
  · rw [List.getElem?_append_left hlt] at hj
    have hvl:vs.length=S.length:=by have:=hown.1;simpa using this
    rw [List.getElem?_append_left (by omega)] at hy
    have a1:=hels j Y y hj hy
    have a2:w2.ownsRow B 82 5 y Y.2.1 Y.2.2.2:=(a1.alloc _).kept g2 (far a1)
    exact (a2.alloc _).kept g4 (Yde a2 hv2 (by decide))
  · have hvl:vs.length=S.length:=by have:=hown.1;simpa using this
    rw [List.getElem?_append_right (by omega)] at hj
    rw [List.getElem?_append_right (by omega),hvl] at hy
    have hj0:j - S.length=0:=by
     have:=(List.getElem?_eq_some_iff.1 hj).1
     simp at this
     omega
    rw [hj0] at hj hy
    obtain rfl:=Option.some.inj hj
    obtain rfl:=Option.some.inj hy
    exact (h2.alloc _).kept g4 (Yde h2 hv2 (by decide))
theorem Zsg {w w' : World}{row:Option Nat}{k:Nat}{o:Obj}(g:w.grownBy w' row)(hb:w.heap[k]? = some o)(hne:some k≠row):w'.heap[k]? = some o:=by
 rw [g.block _ (Array.getElem?_eq_some_iff.1 hb).1 hne]
 exact hb
theorem Ym7 {w:World}{B:Nat}{e:TypeId}{size:Nat}{x:Value}{n:Nat}{xs:List Value}(h:w.ownsRow B e size x n xs):x.ownBlock=none∨x.ownBlock≠some w.heap.size:=by
 cases hx:x.ownBlock with
 | none=>exact .inl rfl
 | some g =>
  have:=(h.lt g hx).2
  exact .inr fun hh=>by have:=Option.some.inj hh;omega
structure MoreIn (w:World) (w2:World) (v v' : Value) (S:List Sv) (vs:List Value) (cs:Array Value):Prop where
 row:(w2.alloc (.cells #[v'] 54)).ownsRow w.heap.size 54 1 v S.length vs
 near:Below w.heap.size w (w2.alloc (.cells #[v'] 54))
 box:(w2.alloc (.cells #[v'] 54)).heap[w.heap.size]? = some (.cells cs 35 (0,0))
 size:w.heap.size≤w2.heap.size
theorem Ydf {w wr w2:World}{v v' : Value}{S:List Sv}{vs:List Value}{cs:Array Value}(hB:w.heap.size≤wr.heap.size)(hown:wr.ownsRow w.heap.size 54 1 v S.length vs)
    (hn:Below w.heap.size w wr) (hbox:wr.heap[w.heap.size]? = some (.cells cs 35 (0,0)))
    {n:Nat} {xs:List Value} (h2:w2.ownsRow w.heap.size 82 5 v' n xs) (g2:(wr.alloc (.cells #[] 82)).grownBy w2 (some wr.heap.size)):MoreIn w w2 v v' S vs cs:=by
  have hlt:=(Array.getElem?_eq_some_iff.1 hbox).1
  have n2:Below w.heap.size w w2:=(hn.alloc hB _).grown g2 (by simp;omega) (fun q hq=>by have:=Option.some.inj hq;omega)
  have b2:w2.heap[w.heap.size]? = some (.cells cs 35 (0,0)):=Zsg g2 (by rw [Below.heap_alloc _ _ _ hlt];exact hbox) (fun h=>by have:=Option.some.inj h;omega)
  have s2:=(Array.getElem?_eq_some_iff.1 b2).1
  exact⟨((hown.alloc _).kept g2 (Ym7 hown)).alloc _,n2.alloc (by omega) _,by rw [Below.heap_alloc _ _ _ s2];exact b2,by omega⟩
theorem Yex {w:World}{B:Nat}{e:TypeId}{size:Nat}{v:Value}{n:Nat}{xs:List Value}(h:w.ownsRow B e size v n xs):∃ p m c,v = .slice p m c:=by
 rcases h.2 with ⟨h1,_⟩ | ⟨g',cap,cur,h1,_⟩ <;> exact⟨_,_,_,h1⟩
theorem Zr4 {w:World}{x:Value}{t:TypeId}{j:Nat}{u:Value}(h:[x][j]? = some u):(w.alloc (.cells #[x] t)).cell? ((⟨w.heap.size,0,none⟩:Addr).add j)=some u:=by
 cases j with
 | zero =>
  simp only [List.getElem?_cons_zero,Option.some.injEq] at h
  subst h
  have hh:(w.alloc (.cells #[x] t)).heap[w.heap.size]? = some (.cells #[x] t):=heap_alloc_new w _
  show World.cell? _ ⟨w.heap.size,0,none⟩=_
  unfold World.cell?
  simp only
  rw [hh]
  rfl
 | succ j=>simp at h
theorem Z1r (w:World)(row:Option Nat):w.grownBy w row:=⟨rfl,rfl,rfl,Nat.le_refl _,fun _ _ _=>rfl⟩
end Tj

/- ref36.Given: its walk. -/
namespace Tj
open Go Go.RowKit Go.Proofs
set_option maxHeartbeats 8000000 in
theorem Yey (cs:Array Value)(a:Option Addr)(n c:Nat)(L:List (Int×Sv))(w:World)(h12:cs[12]? = some (.slice a n c))(hn:n≤1000)(hL:L.length=n)
    (hin:∀ k x,L[k]? = some x→EvOk w x.2 ∧ ∃ b,a=some b∧b.block<w.heap.size∧w.cell? (b.add (k * 9))=some (.int .u8 x.1)∧w.cell? ⟨(b.add (k * 9)).block,(b.add (k * 9)).off+6,none⟩=some (.slice x.2.1 x.2.2.1 x.2.2.2.1)) :
    Calls Tryz.prog 24 #[.agg cs] w fun e w' => ∃ v,e = .returned v∧GV w.heap.size w' v (srcs L)∧Below w.heap.size w w' := by
  obtain⟨i0,hi,hz0,hz1,hz2⟩:=info_parts Yu0
  obtain⟨i1,hi',hz0',hz1',hz2'⟩:=info_parts Yu1
  have HI:=Lib.hid hin
  have H12:=Lib.hid h12
  clear hin h12
  go_enter Tryz.func24,Tryz.ntmps24
  go_wp2
  go_loopw [3,4] (fun v i wr=>∃ k:Nat,k≤n∧i = .int .i64 k∧GV w.heap.size wr v (srcs (L.take k))∧Below w.heap.size w wr∧wr.heap[w.heap.size]? = some (.cells cs 35 (0,0))) (fun _ i _=>n - (RowKit.intOf i).toNat)
  case atStart =>
   refine⟨0,Nat.zero_le _,rfl,?_,(Below.refl _ _).alloc (Nat.le_refl _) _,heap_alloc_new w _⟩
   rw [List.take_zero]
   exact GV.nil _ _
  case round =>
   obtain⟨k,hk,rfl,hgv,hnx,hbox⟩:=hrel
   have hc12:wr.cell? ⟨w.heap.size,12,none⟩=some (.slice a n c):=by simp [World.cell?,hbox,H12.out]
   have hk0:(0:Int)≤(k:Int):=by omega
   by_cases hlt:k<n
   · have hk1:(k:Int)<(n:Int):=by omega
     obtain⟨x,hx⟩:∃ x,L[k]? = some x:=⟨_,List.getElem?_eq_getElem (by omega)⟩
     obtain⟨hev,b,rfl,hb,q1,q2⟩:=HI.out k x hx
     obtain⟨K,xa,xn,xc,xcells⟩:=x
     simp only at hev q1 q2
     have q1:=(hnx.cell (p:=b.add (k * 9)) (by rw [Ze];exact hb)).trans q1
     have q2:=(hnx.cell (p:=⟨(b.add (k * 9)).block,(b.add (k * 9)).off+6,none⟩) (by show (b.add (k * 9)).block<_;rw [Ze];exact hb)).trans q2
     have hB:=hnx.size
     have HGV:=Lib.hid hgv
     have HN:=Lib.hid hnx
     have HBOX:=Lib.hid hbox
     have HEV:=Lib.hid hev
     have HX:=Lib.hid hx
     clear hgv hnx hbox hev hx
     by_cases hK:K=1
     · subst hK
       obtain⟨vs,hown,hels⟩:=HGV.out.row
       have HOW:=Lib.hid hown
       have HEL:=Lib.hid hels
       have hbig:=Yks L k
       have x12:(wr.alloc (.cells #[] 82)).heap[w.heap.size]? = some (.cells cs 35 (0,0)):=by
        rw [Below.heap_alloc _ _ _ (by have:=(Array.getElem?_eq_some_iff.1 HBOX.out).1;omega)]
        exact HBOX.out
       have b12:(wr.alloc (.cells #[] 82)).cell? ⟨w.heap.size,12,none⟩=some (.slice (some b) n c):=by simp [World.cell?,x12,H12.out]
       have n1:Below w.heap.size w (wr.alloc (.cells #[] 82)):=HN.out.alloc hB _
       have b2:=(n1.cell (p:=⟨(b.add (k * 9)).block,(b.add (k * 9)).off+6,none⟩) (by show (b.add (k * 9)).block<_;rw [Ze];exact hb)).trans ((HN.out.cell (p:=⟨(b.add (k * 9)).block,(b.add (k * 9)).off+6,none⟩) (by show (b.add (k * 9)).block<_;rw [Ze];exact hb)).symm.trans q2)
       have hlit:(wr.alloc (.cells #[] 82)).ownsRow w.heap.size 82 5 (.slice (some ⟨wr.heap.size,0,none⟩) 0 0) 0 []:=World.ownsRow_lit wr #[] 0 hB (by unfold maxLen;omega) rfl
       have N1:=Lib.hid n1
       have HLIT:=Lib.hid hlit
       have X12:=Lib.hid x12
       clear n1 hlit x12
       have hs:=Ykr HX.out rfl
       have HS:=Lib.hid hs
       clear hs
       cases hz:xn with
       | zero =>
        subst hz
        have src:Src Tryz.prog i0.size 54 (.slice xa 0 xc) 0 [] (wr.alloc (.cells #[] 82)):=by
         cases xa with
         | none=>exact Src.ofNil _ Tryz.underlying54 xc
         | some a=>exact Src.ofSlice _ Tryz.underlying54 a 0 xc [] (by simp) (fun q u hq=>by simp at hq) (fun u hu=>by cases hu)
        have HR:=Lib.hid (run_append_nothing (P:=Tryz.prog) (wr.alloc (.cells #[] 82)) 54 54 54 82 i0 Tryz.underlying54 hi (some ⟨wr.heap.size,0,none⟩) 0 0 (Nat.le_refl _) (.slice xa 0 xc) src)
        clear src
        have hcl:xcells=[]:=List.length_eq_zero_iff.1 (by have:=HEV.out.len;simpa using this)
        have R:=Ydf hB HOW.out HN.out HBOX.out HLIT.out (Z1r _ _)
        have R:=Lib.hid R
        have r1:=R.out.row
        have r5:=R.out.size
        go_wp2_with (first | (at_builtin;refine Lib.wpList_append_run _ rfl _ _ _ _ rfl _ _ rfl rfl _ _ HR.out ?_) | (at_builtin;refine wpList_append_own _ rfl _ _ 42 rfl w.heap.size 54 i1 _ 1 24 Tryz.underlying42 hi' hz0' hz1' hz2' rfl (by decide) _ _ _ rfl r1 ⟨wr.heap.size+1,0,none⟩ 1 1 [.slice (some ⟨wr.heap.size,0,none⟩) 0 0] rfl rfl ?e1 ?e2 ?e3 ?e4 ?e5 ?_) | go_in)
        case e2=>rfl
        case e3=>unfold maxLen;omega
        case e4=>omega
        case e5=>have:=R.out.near.size;simpa using this
        intro v2 w4 h4 g4 _
        have hg:=GV.more (X:=(xa,0,xc,xcells)) hB HOW.out HEL.out (by rw [hcl];exact HLIT.out) (Z1r _ _) h4 g4
        have hnr:=R.out.near.grown g4 R.out.near.size (fun q hq=>(HOW.out.lt q hq).1)
        have hbx:=Zsg g4 R.out.box (fun h=>by
         obtain⟨c1,f1,k1⟩:=Zra r1 w.heap.size h.symm
         have:=R.out.box
         rw [k1] at this
         cases this)
        have HG:=Lib.hid hg
        have HNR:=Lib.hid hnr
        have HBX:=Lib.hid hbx
        clear hg hnr hbx h4 g4
        go_wp2
        go_roundw
        case rel=>exact⟨k+1,by omega,by go_num,by rw [HS.out];exact HG.out,HNR.out,HBX.out⟩
        case measure=>simp [RowKit.intOf];omega
       | succ m =>
        subst hz
        obtain⟨xb,hxb⟩:∃ xb,xa=some xb:=by
         obtain⟨v0,hv0⟩:∃ v0,xcells[0]? = some v0:=⟨_,List.getElem?_eq_getElem (by have:=HEV.out.len;simp only at this;omega)⟩
         obtain⟨_,b',e,_⟩:=HEV.out.cells 0 v0 hv0
         exact⟨b',e⟩
        subst hxb
        have hsm:m+1≤100000:=HEV.out.small
        go_wp2_with (first | (at_builtin;refine wpList_append_own _ rfl _ _ 54 rfl w.heap.size 82 i0 _ 5 40 Tryz.underlying54 hi hz0 hz1 hz2 rfl (by decide) _ _ _ rfl HLIT.out xb (m+1) xc xcells rfl HEV.out.len ?c1 ?c2 ?c3 ?c4 ?c5 ?_) | go_in)
        case c1 =>
         intro q u hq
         obtain⟨_,b',e,hbl,hcc⟩:=HEV.out.cells q u hq
         obtain rfl:=Option.some.inj e
         exact (N1.out.cell (p:=xb.add q) (by rw [Ze];exact hbl)).trans hcc
        case c2 =>
         intro u hu
         obtain⟨q,hq⟩:=List.getElem?_of_mem hu
         exact (HEV.out.cells q u hq).1
        case c3=>unfold maxLen;omega
        case c4=>omega
        case c5=>have:=N1.out.size;simpa using this
        intro v' w2 hown' hgrow _
        obtain⟨p',n',c',rfl⟩:=Yex hown'
        have R:=Ydf hB HOW.out HN.out HBOX.out hown' hgrow
        have R:=Lib.hid R
        have r1:=R.out.row
        have r5:=R.out.size
        have r6:=row_one hown'
        have HO2:=Lib.hid hown'
        have HG2:=Lib.hid hgrow
        clear hown' hgrow
        go_wp2_with (first | (at_builtin;refine wpList_append_own _ rfl _ _ 42 rfl w.heap.size 54 i1 _ 1 24 Tryz.underlying42 hi' hz0' hz1' hz2' rfl (by decide) _ _ _ rfl r1 ⟨w2.heap.size,0,none⟩ 1 1 [.slice p' n' c'] rfl rfl ?d1 ?d2 ?d3 ?d4 ?d5 ?_) | go_in)
        case d1=>exact fun j u hj=>Zr4 hj
        case d2=>intro u hu;obtain rfl:=List.mem_singleton.1 hu;exact r6
        case d3=>unfold maxLen;omega
        case d4=>omega
        case d5=>simp;omega
        intro v2 w4 h4 g4 _
        have hg:=GV.more (X:=(some xb,m+1,xc,xcells)) hB HOW.out HEL.out (by simpa using HO2.out) HG2.out h4 g4
        have hnr:=R.out.near.grown g4 R.out.near.size (fun q hq=>(HOW.out.lt q hq).1)
        have hbx:=Zsg g4 R.out.box (fun h=>by
         obtain⟨c1,f1,k1⟩:=Zra r1 w.heap.size h.symm
         have:=R.out.box
         rw [k1] at this
         cases this)
        have HG:=Lib.hid hg
        have HNR:=Lib.hid hnr
        have HBX:=Lib.hid hbx
        clear hg hnr hbx h4 g4
        go_wp2
        go_roundw
        case rel=>exact⟨k+1,by omega,by go_num,by rw [HS.out];exact HG.out,HNR.out,HBX.out⟩
        case measure=>simp [RowKit.intOf];omega
     · have hm:=Yew HX.out hK
       have HM:=Lib.hid hm
       clear hm
       go_wp2
       go_roundw
       case rel=>exact⟨k+1,by omega,by go_num,by rw [HM.out];exact HGV.out,HN.out,HBOX.out⟩
       case measure=>simp [RowKit.intOf];omega
   · have hkn:k=n:=by omega
     subst hkn
     have hfull:L.take L.length=L:=List.take_length
     rw [hL] at hfull
     rw [hfull] at hgv
     have HGV:=Lib.hid hgv
     have HN:=Lib.hid hnx
     clear hgv hnx
     go_wp2
     go_ret
     exact⟨_,rfl,HGV.out,HN.out⟩
end Tj

/- ref36.Given, as the machine takes it: from its walk. -/
namespace Tg
open Go Go.Abs Go.RowKit Go.Proofs
theorem Z7s {w' : World}{O:Nat→Prop}{B:Nat}{e:TypeId}{size n:Nat}{v:Value}{xs:List Value}(es:List (List PV))(hown:w'.ownsRow B e size v n xs)(hO:∀ g,O g→g<B)(hn:n=es.length)(hsz:∀ x∈es,x.length=size)
    (hrel:∀ (i:Nat) (e:List PV),es[i]? = some e → ∀ (j:Nat) (x:PV),e[j]? = some x → ∃ c,xs[i * size+j]? = some c∧PRel w' O x c):PRel w' O (.sl es) v:=by
  rcases hown.2 with ⟨rfl,h0⟩ | ⟨g,cap,cur,rfl,hg,hgh,hn1,hcm,hcs,htk⟩
  · have:es=[]:=List.length_eq_zero_iff.1 (by omega)
    subst this
    exact .nil none 0
  · have hcell:∀ (t:Nat) (c:Value),t<n * size→xs[t]? = some c→w'.cell? ⟨g,t,none⟩=some c:=fun t c hlt hc=>by
     have h3:(cur.toList.take (n * size))[t]? = some c:=by rw [htk];exact hc
     rw [List.getElem?_take_of_lt hlt] at h3
     simp only [World.cell?,hgh]
     rw [← Array.getElem?_toList]
     simpa using h3
    refine .sl _ ⟨g,0,none⟩ _ cap size (fun k j=>(xs[k * size+j]?).getD undef) (fun h=>by have:=hO _ h;simp only at this;omega) (Array.getElem?_eq_some_iff.1 hgh).1 hn hn1 (fun i e he=>?_) (fun i e he j x hx=>?_) (fun i e he j x hx=>?_)
    · exact hsz e (List.mem_of_getElem? he)
    · obtain⟨c,hc,_⟩:=hrel i e he j x hx
      have hi:=(List.getElem?_eq_some_iff.1 he).1
      have hj:=(List.getElem?_eq_some_iff.1 hx).1
      rw [hsz e (List.mem_of_getElem? he)] at hj
      have hlt:i * size+j<n * size:=by
       have:(i+1) * size≤n * size:=Nat.mul_le_mul_right _ (by omega)
       rw [Nat.add_mul] at this
       omega
      have:=hcell _ _ hlt hc
      rw [hc,show (⟨g,0,none⟩:Addr).add (i * size+j)=⟨g,i * size+j,none⟩ by unfold Addr.add;split;(rename_i h;rw [h]);simp]
      exact this
    · obtain⟨c,hc,hp⟩:=hrel i e he j x hx
      rw [hc]
      exact hp
def evT:List CT:=[.bool,.int .i64,.int .i64,.int .i64,.int .i64]
def evE (e:Evt):List PV:=[.bool e.1,.int .i64 e.2.1,.int .i64 e.2.2.1,.int .i64 e.2.2.2.1,.int .i64 e.2.2.2.2.1]
def VRel (l:List Evt)(cs:List Value):Prop:=cs.length=l.length * 5 ∧ ∀ (k:Nat) (e:Evt) (j:Nat) (p:PV),l[k]? = some e→(evE e)[j]? = some p → ∃ c,cs[k * 5+j]? = some c ∧ ∀ w O,PRel w O p c
theorem Yrh {e:Evt}{j:Nat}{p:PV}(h:(evE e)[j]? = some p){w:World}{O:Nat→Prop}{c:Value}(hc:PRel w O p c):∀ w O,PRel w O p c:=by
 match j,h with
 | 0,h=>cases h;cases hc;exact fun _ _=>.bool _
 | 1,h=>cases h;cases hc;exact fun _ _=>.int _ _
 | 2,h=>cases h;cases hc;exact fun _ _=>.int _ _
 | 3,h=>cases h;cases hc;exact fun _ _=>.int _ _
 | 4,h=>cases h;cases hc;exact fun _ _=>.int _ _
 | j+5,h=>simp [evE] at h
structure RelV (w:World) (l:List Evt) (v:Value) (x:Tj.Sv):Prop where
 val:v = .slice x.1 x.2.1 x.2.2.1
 len:x.2.1=l.length
 cells:∀ (i:Nat) (v:Value),x.2.2.2[i]? = some v→v.oneCell' = true ∧ ∃ b,x.1=some b∧b.block<w.heap.size∧w.cell? (b.add i)=some v
 rel:VRel l x.2.2.2
theorem relV {w:World}{O:Nat→Prop}{l:List Evt}{v:Value}(h:PRel w O (.sl (l.map evE)) v):∃ x,RelV w l v x:=by
 generalize hes:l.map evE=es at h
 cases h with
 | nil a c =>
  have:l=[]:=by simpa using hes
  subst this
  exact⟨(a,0,c,[]),rfl,rfl,fun i v h=>by simp at h,rfl,fun k q j p h=>by simp at h⟩
 | sl _ a n c size u hno hlt hn hc hsz hcell hr =>
  have hget:∀ (k:Nat) (q:Evt),l[k]? = some q→es[k]? = some (evE q):=fun k q hq=>by rw [← hes,List.getElem?_map,hq];rfl
  have hlen:n=l.length:=by rw [hn,← hes,List.length_map]
  have hcs:∀ t,t<n * 5→((List.range (n * 5)).map fun t=>u (t / 5) (t % 5))[t]? = some (u (t / 5) (t % 5)):=fun t ht=>by simp [ht]
  have key:∀ (k j:Nat) (q:Evt),l[k]? = some q→j<5 → ∃ p,(evE q)[j]? = some p∧w.cell? (a.add (k * 5+j))=some (u k j)∧PRel w O p (u k j):=fun k j q hq hj=>by
   have h1:size=5:=by rw [← hsz k _ (hget k q hq)];rfl
   subst h1
   obtain⟨p,hp⟩:∃ p,(evE q)[j]? = some p:=⟨_,List.getElem?_eq_getElem (by show j<5;exact hj)⟩
   exact⟨p,hp,hcell k _ (hget k q hq) j p hp,hr k _ (hget k q hq) j p hp⟩
  refine⟨(some a,n,c,(List.range (n * 5)).map fun t=>u (t / 5) (t % 5)),rfl,hlen,fun i v hi=>?_,by simp [hlen],fun k q j p hk hj=>?_⟩
  · have hi2:i<n * 5:=by simpa using (List.getElem?_eq_some_iff.1 hi).1
    simp only at hi
    rw [hcs i hi2] at hi
    obtain rfl:=Option.some.inj hi
    obtain⟨q,hq⟩:∃ q,l[i / 5]? = some q:=⟨_,List.getElem?_eq_getElem (by omega)⟩
    obtain⟨p,_,h2,h3⟩:=key (i / 5) (i % 5) q hq (by omega)
    rw [show i / 5 * 5+i % 5=i by omega] at h2
    exact⟨h3.oneCell,a,rfl,hlt,h2⟩
  · have hj2:j<5:=(List.getElem?_eq_some_iff.1 hj).1
    have hkl:=(List.getElem?_eq_some_iff.1 hk).1
    obtain⟨p',h1,h2,h3⟩:=key k j q hk hj2
    obtain rfl:=Option.some.inj (h1.symm.trans hj)
    refine⟨u k j,?_,Yrh hj h3⟩
    simp only
    rw [hcs _ (by omega),show (k * 5+j) / 5=k by omega,show (k * 5+j) % 5=j by omega]
theorem pick {α β:Type}(l:List α){P:Nat→α→β→Prop}(h:∀ i a,l[i]? = some a → ∃ b,P i a b):∃ l' : List β,l'.length=l.length ∧ ∀ i a b,l[i]? = some a→l'[i]? = some b→P i a b:=by
 have h2:∀ i:Fin l.length,∃ b,P i.val (l.get i) b:=fun i=>h i.val _ (List.getElem?_eq_getElem i.isLt)
 refine⟨List.ofFn fun i=>Classical.choose (h2 i),by simp,fun i a b ha hb=>?_⟩
 obtain⟨hi,rfl⟩:=List.getElem?_eq_some_iff.1 ha
 rw [List.getElem?_ofFn,dif_pos hi] at hb
 obtain rfl:=Option.some.inj hb
 exact Classical.choose_spec (h2 ⟨i,hi⟩)
theorem Spec.pure {P:Program}{f:FuncId}{pas:List PA}{y:PV}(h:∀ (O:Nat→Prop) (w:World) (cargs:Array Value),(∀ g,O g→g<w.heap.size)→Zi5 w O pas cargs→Calls P f cargs w fun e w' => ∃ v,e = .returned v∧Below w.heap.size w w' ∧ PRel w' O y v):Spec P f pas [.c (.c y)]:=by
 intro O w cargs hO hgl hp
 refine (h O w cargs hO hp).mono fun e w' he=>?_
 obtain⟨v,rfl,hb,hv⟩:=he
 have hown:Own 0 ⟨fun _=>undef,O,0,[]⟩=O:=by
  funext g
  unfold Own
  exact propext ⟨fun h=>by rcases h with h | ⟨t,h,_⟩;exact h;omega,.inl⟩
 refine⟨v,⟨fun _=>undef,O,0,[]⟩,rfl,rfl,⟨hb,Nat.le_refl _,hO,hgl,fun t o ho=>by simp [Za,Zfq,Y8] at ho,fun t t' g h1=>by simp [Za,Zfq,Y8] at h1⟩,.p _ _ ?_⟩
 have e:(Za [RA.c (.c y)]).length=0:=rfl
 rw [e,hown]
 exact hv
def tskT:List CT:=[.int .u8,.int .i64,.int .i64,.sl [.int .i64,.int .u8,.int .i64,.int .i64,.int .i64,.int .i64,.int .i64,.int .i64,.int .i64,.int .i64,.int .i64],.sl [.int .i64],.sl [.int .i64,.int .i64,.int .i64,.int .i64,.int .i64,.int .i64,.int .i64,.int .i64,.int .i64,.int .i64,.int .i64],.sl evT,.sl [.int .i64,.int .i64,.int .i64,.int .i64,.int .i64],.sl [.int .i64,.int .i64,.int .i64]]
def nodT:List CT:=[.int .u8,.int .i64,.int .i64,.int .i64,.int .i64]
def mchT:List CT:=[.int .u8,.sl nodT,.sl [.int .i64],.bool,.sl nodT,.int .u8,.int .i64,.int .i64,.bool,.int .u8,.sl [.int .u8,.int .i64],.sl [.int .i64,.int .i64,.int .i64,.int .i64,.int .i64],.sl tskT,.sl [.int .i64,.sl [.int .u8,.int .i64,.int .i64,.int .i64,.int .i64,.int .i64,.int .i64,.int .i64,.int .i64,.int .i64]]]
def tskE (t:Tsk):List PV:=pvL tskT t
def givL (ts:List Tsk):List (List Evt×Unit):=(ts.filter fun t=>t.1==1).map fun t=>(t.2.2.2.2.2.2.1,())
theorem Z7t:∀ (ts:List Tsk) (L:List (Int×Tj.Sv)) (Q:List Evt→Tj.Sv→Prop),L.length=ts.length→(∀ (i:Nat) (t:Tsk) (x:Int×Tj.Sv),ts[i]? = some t→L[i]? = some x→x.1=t.1∧Q t.2.2.2.2.2.2.1 x.2) →
    (Tj.srcs L).length=(givL ts).length ∧ ∀ (i:Nat) (l:List Evt×Unit) (X:Tj.Sv),(givL ts)[i]? = some l→(Tj.srcs L)[i]? = some X→Q l.1 X
  | [],[],Q,_,_=>⟨rfl,fun i l X h=>by simp [givL] at h⟩
  | t::ts,x::L,Q,hl,h=>by
   have ih:=Z7t ts L Q (by simpa using hl) fun i t x h1 h2=>h (i+1) t x (by simpa using h1) (by simpa using h2)
   obtain⟨h1,h2⟩:=h 0 t x rfl rfl
   by_cases e:t.1=1
   · have e1:Tj.srcs (x::L)=x.2::Tj.srcs L:=by unfold Tj.srcs;simp [h1,e]
     have e2:givL (t::ts)=(t.2.2.2.2.2.2.1,())::givL ts:=by unfold givL;simp [e]
     rw [e1,e2]
     refine⟨by rw [List.length_cons,List.length_cons,ih.1],fun i l X hi hj=>?_⟩
     cases i with
     | zero =>
      obtain rfl:=Option.some.inj hi
      obtain rfl:=Option.some.inj hj
      exact h2
     | succ i=>exact ih.2 i l X (by simpa using hi) (by simpa using hj)
   · have e1:Tj.srcs (x::L)=Tj.srcs L:=by unfold Tj.srcs;simp [h1,e]
     have e2:givL (t::ts)=givL ts:=by unfold givL;simp [e]
     rw [e1,e2]
     exact ih
def Ya2 (m:Mch):Option (List (List Evt×Unit)×Unit):=bif decide ((mT m).length≤1000)&&(mT m).all fun t=>decide (t.2.2.2.2.2.2.1.length≤100000) then some (givL (mT m),()) else none
noncomputable def Zbt (m:Mch):Option (List (List Evt×Unit)×Unit):=hid Ya2 m
theorem Ydg (m:Mch)(h1:(mT m).length≤1000)(h2:∀ t∈mT m,t.2.2.2.2.2.2.1.length≤100000):Zbt m=some (givL (mT m),()):=by
 rw [Zbt,Zb8,Ya2,decide_eq_true h1]
 have:((mT m).all fun t=>decide (t.2.2.2.2.2.2.1.length≤100000))=true:=by
  rw [List.all_eq_true]
  exact fun t ht=>decide_eq_true (h2 t ht)
 rw [this]
 rfl
theorem spG (m:Mch)(h1:(mT m).length≤1000)(h2:∀ t∈mT m,t.2.2.2.2.2.2.1.length≤100000):Spec Tryz.prog 24 [.a (pvL mchT m)] [.c (.c (.sl ((givL (mT m)).map fun x=>[.sl (x.1.map evE)])))]:=by
 refine Spec.pure fun O w cargs hO hp=>?_
 obtain⟨cs,v,rfl,hc,hv⟩:∃ cs v,cargs=#[.agg cs]∧cs[12]? = some v∧PRel w O (.sl ((mT m).map tskE)) v:=by
  obtain⟨h1,h2⟩:=hp
  obtain⟨l⟩:=cargs
  match l,h1 with
  | [u],_ =>
   have e1:=h2 0 _ u rfl rfl
   cases e1 with
   | a _ vs hl hr =>
    have hs:12<vs.size:=by rw [hl];show 12<14;omega
    refine⟨vs,vs[12],rfl,Array.getElem?_eq_getElem hs,?_⟩
    have:=hr 12 (.sl ((mT m).map tskE)) vs[12] rfl (Array.getElem?_eq_getElem hs)
    exact this
 obtain⟨a,n,c,L,rfl,hl,hin,hq⟩:∃ a n c,∃ L:List (Int×Tj.Sv),v = .slice a n c∧n=(mT m).length∧(L.length=n ∧ ∀ k x,L[k]? = some x→Tj.EvOk w x.2 ∧ ∃ b,a=some b∧b.block<w.heap.size∧w.cell? (b.add (k * 9))=some (.int .u8 x.1)∧w.cell? ⟨(b.add (k * 9)).block,(b.add (k * 9)).off+6,none⟩=some (.slice x.2.1 x.2.2.1 x.2.2.2.1)) ∧
     ∀ (i:Nat) (t:Tsk) (x:Int×Tj.Sv),(mT m)[i]? = some t→L[i]? = some x→x.1=t.1∧(x.2.2.1=t.2.2.2.2.2.2.1.length∧VRel t.2.2.2.2.2.2.1 x.2.2.2.2):=by
   generalize hes:((mT m).map tskE)=es at hv
   cases hv with
   | nil a c =>
    have:mT m=[]:=by simpa using hes
    rw [this]
    exact⟨a,0,c,[],rfl,rfl,⟨rfl,fun k x h=>by simp at h⟩,fun i t x h=>by simp at h⟩
   | sl _ a n c size u hno hlt hn hc hsz hcell hrl =>
    have hget:∀ (k:Nat) (t:Tsk),(mT m)[k]? = some t→es[k]? = some (tskE t):=fun k t ht=>by rw [← hes,List.getElem?_map,ht];rfl
    obtain⟨L,g1,g2⟩:=pick (α:=Tsk) (β:=Int×Tj.Sv) (mT m) (P:=fun i t x=>u i 0 = .int .u8 x.1∧x.1=t.1∧RelV w t.2.2.2.2.2.2.1 (u i 6) x.2) fun i t ht=>by
     have r0:=hrl i _ (hget i t ht) 0 _ rfl
     have r6:=hrl i _ (hget i t ht) 6 (.sl (t.2.2.2.2.2.2.1.map evE)) rfl
     obtain⟨X,hX⟩:=relV r6
     have hu:u i 0 = .int .u8 t.1:=by
      generalize u i 0=z at r0
      cases r0
      rfl
     exact⟨(t.1,X),hu,rfl,hX⟩
    refine⟨some a,n,c,L,rfl,by rw [hn,← hes,List.length_map],⟨by rw [g1,hn,← hes,List.length_map],fun k x hx=>?_⟩,fun i t x ht hx=>?_⟩
    · obtain⟨t,ht⟩:∃ t,(mT m)[k]? = some t:=⟨_,List.getElem?_eq_getElem (by rw [← g1];exact (List.getElem?_eq_some_iff.1 hx).1)⟩
      obtain⟨p1,p2,p3⟩:=g2 k t x ht hx
      have hs9:size=9:=by rw [← hsz k _ (hget k t ht)];rfl
      subst hs9
      refine⟨⟨by rw [p3.rel.1,p3.len],p3.cells,by rw [p3.len];exact h2 t (List.mem_of_getElem? ht)⟩,a,rfl,hlt,?_,?_⟩
      · rw [← p1]
        exact hcell k _ (hget k t ht) 0 _ rfl
      · rw [← p3.val]
        have:=hcell k _ (hget k t ht) 6 (.sl (t.2.2.2.2.2.2.1.map evE)) rfl
        rw [Tj.Zjp] at this
        exact this
    · obtain⟨p1,p2,p3⟩:=g2 i t x ht hx
      exact⟨p2,p3.len,p3.rel⟩
 refine (Tj.Yey cs a n c L w hc (by omega) hin.1 hin.2).mono fun e w' he=>?_
 obtain⟨v,rfl,hgv,hb⟩:=he
 refine⟨v,rfl,hb,?_⟩
 obtain⟨s1,s2⟩:=Z7t (mT m) L (fun l X=>X.2.1=l.length∧VRel l X.2.2.2) (by rw [hin.1,hl]) hq
 obtain⟨vs,hown,hels⟩:=hgv.row
 refine Z7s (size:=1) _ hown hO (by rw [List.length_map,s1]) (fun x hx=>?_) fun i e he j x hx=>?_
 · obtain⟨y,_,rfl⟩:=List.mem_map.1 hx
   rfl
 · rw [List.getElem?_map,Option.map_eq_some_iff] at he
   obtain⟨l,hli,rfl⟩:=he
   have hj:j=0:=by
    have:=(List.getElem?_eq_some_iff.1 hx).1
    simp at this
    omega
   subst hj
   obtain rfl:=Option.some.inj hx
   have hi:=(List.getElem?_eq_some_iff.1 hli).1
   have hvl:vs.length=(Tj.srcs L).length:=by have:=hown.1;simpa using this
   obtain⟨X,hX⟩:∃ X,(Tj.srcs L)[i]? = some X:=⟨_,List.getElem?_eq_getElem (by omega)⟩
   obtain⟨y,hy⟩:∃ y,vs[i]? = some y:=⟨_,List.getElem?_eq_getElem (by omega)⟩
   obtain⟨t1,t2⟩:=s2 i l X hli hX
   refine⟨y,by simpa using hy,?_⟩
   refine Z7s (size:=5) _ (hels i X y hX hy) hO (by rw [List.length_map,t1]) (fun x hx=>?_) fun k e hk q p hp=>?_
   · obtain⟨ev,_,rfl⟩:=List.mem_map.1 hx
     rfl
   · rw [List.getElem?_map,Option.map_eq_some_iff] at hk
     obtain⟨ev,hev,rfl⟩:=hk
     obtain⟨c,hc,hpc⟩:=t2.2 k ev q p hev hp
     exact⟨c,hc,hpc w' O⟩
noncomputable def Ykt:TCon:=⟨[.a mchT],[.c (.p (.sl [.sl evT]))],fun a=>Zbt a.1⟩
theorem ok24:Ykt.ok Tryz.prog 24:=fun a r h=>by
 obtain⟨m,u'⟩:=a
 have key:∀ (m:Mch) (r:List (List Evt×Unit)×Unit),Zbt m=some r→Spec Tryz.prog 24 [.a (pvL mchT m)] [.c (.c (.sl (r.1.map fun x=>[.sl (x.1.map evE)])))]:=fun m r h=>by
  rw [Zbt,Zb8,Ya2] at h
  obtain⟨hc,h⟩:=Xl h
  rw [Bool.and_eq_true,decide_eq_true_eq,List.all_eq_true] at hc
  obtain rfl:=Option.some.inj h
  exact spG m hc.1 fun t ht=>by have:=hc.2 t ht;rwa [decide_eq_true_eq] at this
 exact key m r h
end Tg
