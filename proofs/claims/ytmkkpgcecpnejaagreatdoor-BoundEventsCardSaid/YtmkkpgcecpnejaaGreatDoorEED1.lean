import Derived.Test.YtmkkpgcecpnejaaGreatDoorEWJ0
import Derived.Deep.Upon
import Derived.Lib.AppendZeros
import Derived.Deep.CutRange
/- Rows of events that a call has copied, in a row of rows of its own. -/
set_option linter.unusedVariables false
set_option linter.unusedSimpArgs false
set_option maxRecDepth 100000
namespace Tj
open Go Go.RowKit Go.Proofs
theorem Yn3:(Tryz.prog.info? 32).map (fun i=>(i.zero,i.size,i.bytes))=some (some (.agg #[.bool false,.int .i64 0,.int .i64 0,.int .i64 0,.int .i64 0]),5,40):=by kernel_rfl
theorem Yn4:(Tryz.prog.info? 36).map (fun i=>(i.zero,i.size,i.bytes))=some (some (.slice none 0 0),1,24):=by kernel_rfl
theorem Z3y {w:World}{B:Nat}{e:TypeId}{size:Nat}{v:Value}{n:Nat}{xs:List Value}(h:w.ownsRow B e size v n xs):∀ g,v.ownBlock=some g -> ∃ c fz,w.heap[g]? = some (.cells c e fz):=by
 intro g hg;rcases h.2 with ⟨h1,_⟩ | ⟨g',cap,cur,h1,h2,h3,_⟩
 . rw [h1] at hg;cases hg
 . rw [h1] at hg;obtain rfl:g' = g:=by simpa [Value.ownBlock] using hg
   exact⟨_,_,h3⟩
theorem Zle {w:World}{b1 b2:Nat}{e1 e2:TypeId}{s1 s2 n1 n2:Nat}{v1 v2:Value}{x1 x2:List Value}(h1:w.ownsRow b1 e1 s1 v1 n1 x1)(h2:w.ownsRow b2 e2 s2 v2 n2 x2)(he:e1≠e2):v1.ownBlock=none∨v1.ownBlock≠v2.ownBlock:=by
 cases h:v1.ownBlock with
 | none=>exact .inl rfl
 | some g=>refine .inr fun hh=>?_;obtain⟨c,fz,k1⟩:=Z3y h1 g h;obtain⟨c',fz',k2⟩:=Z3y h2 g hh.symm;rw [k1] at k2;cases k2;exact he rfl
abbrev Sv:=Option Addr×Nat×Nat×List Value
structure EvOk (w:World) (x:Sv):Prop where
 len:x.2.2.2.length=x.2.1 * 5
 cells:∀ (i:Nat) (v:Value),x.2.2.2[i]? = some v->v.oneCell' = true /\ ∃ b,x.1=some b/\b.block<w.heap.size/\w.cell? (b.add i)=some v
 small:x.2.1<=100000
theorem row_one {w:World}{B:Nat}{e:TypeId}{size:Nat}{v:Value}{n:Nat}{xs:List Value}(h:w.ownsRow B e size v n xs):v.oneCell' = true:=by rcases h.2 with ⟨h1,_⟩ | ⟨g',cap,cur,h1,_⟩ <;> rw [h1] <;> rfl
theorem Z0n {w:World}{B:Nat}{e:TypeId}{size:Nat}{x:Value}{n:Nat}{xs:List Value}(h:w.ownsRow B e size x n xs):x.ownBlock=none∨x.ownBlock≠some w.heap.size:=by
 cases hx:x.ownBlock with
 | none=>exact .inl rfl
 | some g=>have:=(h.lt g hx).2;exact .inr fun hh=>by have:=Option.some.inj hh;omega
theorem Zx3 {w:World}{B:Nat}{e:TypeId}{size:Nat}{v:Value}{n:Nat}{xs:List Value}(h:w.ownsRow B e size v n xs):∃ p m c,v = .slice p m c:=by rcases h.2 with ⟨h1,_⟩ | ⟨g',cap,cur,h1,_⟩ <;> exact⟨_,_,_,h1⟩
theorem Zk9 {w:World}{x:Value}{t:TypeId}{j:Nat}{u:Value}(h:[x][j]? = some u):(w.alloc (.cells #[x] t)).cell? ((⟨w.heap.size,0,none⟩:Addr).add j)=some u:=by
 cases j with
 | zero=>simp only [List.getElem?_cons_zero,Option.some.injEq] at h;subst h;have hh:(w.alloc (.cells #[x] t)).heap[w.heap.size]? = some (.cells #[x] t):=heap_alloc_new w _;show World.cell? _ ⟨w.heap.size,0,none⟩=_;unfold World.cell?;simp only;rw [hh];rfl
 | succ j=>simp at h
theorem Zx4 (w:World)(row:Option Nat):w.grownBy w row:=⟨rfl,rfl,rfl,Nat.le_refl _,fun _ _ _=>rfl⟩
structure Dst (B:Nat) (wr:World) (v:Value) (S:List Sv) (vs:List Value):Prop where
 own:wr.ownsRow B 36 1 v S.length vs
 els:∀ (j:Nat) (X:Sv) (x:Value),S[j]? = some X->vs[j]? = some x->wr.ownsRow B 32 5 x X.2.1 X.2.2.2
 apart:∀ (j k:Nat) (x y:Value),j<k->vs[j]? = some x->vs[k]? = some y->x.ownBlock=none∨x.ownBlock≠y.ownBlock
theorem Dst.alloc {B:Nat}{wr:World}{v:Value}{S:List Sv}{vs:List Value}(h:Dst B wr v S vs)(o:Obj):Dst B (wr.alloc o) v S vs:=⟨h.own.alloc o,fun j X x h1 h2=>(h.els j X x h1 h2).alloc o,h.apart⟩
theorem Dst.drew {B:Nat}{wr:World}{v:Value}{S:List Sv}{vs:List Value}(h:Dst B wr v S vs):Dst B wr.drew v S vs:=⟨h.own.drew,fun j X x h1 h2=>(h.els j X x h1 h2).drew,h.apart⟩
theorem Zoa {u v:World}{b j:Nat}(h:v.heap[b]? = u.heap[b]?):v.cell? ⟨b,j,none⟩=u.cell? ⟨b,j,none⟩:=by simp [World.cell?,h]
def GD (B:Nat)(wr:World)(v:Value)(S:List Sv):Prop:=∃ vs,Dst B wr v S vs
theorem GD.nil (B:Nat)(wr:World):GD B wr (.slice none 0 0) []:=⟨[],World.ownsRow_nil _ _ _ _,fun j X x h=>by simp at h,fun j k x y _ h=>by simp at h⟩
theorem Dst.len {B:Nat}{wr:World}{v:Value}{S:List Sv}{vs:List Value}(h:Dst B wr v S vs):vs.length=S.length:=by have:=h.own.1;simpa using this
theorem GD.more {B:Nat}{wr w2 w4:World}{v v' v2:Value}{S:List Sv}{X:Sv}{vs:List Value}(hB:B<=wr.heap.size)(h:Dst B wr v S vs)
    (h2:w2.ownsRow wr.heap.size 32 5 v' X.2.1 X.2.2.2) (g2:(wr.alloc (.cells #[] 32)).grownBy w2 (some wr.heap.size))
    (h4:w4.ownsRow B 36 1 v2 (S.length+1) (vs++[v'])) (g4:(w2.alloc (.cells #[v'] 36)).grownBy w4 v.ownBlock):GD B w4 v2 (S++[X]):=by
  have hv2:w2.ownsRow B 36 1 v S.length vs:=(h.own.alloc _).kept g2 (Z0n h.own);have hvl:=h.len;refine⟨vs++[v'],by rw [List.length_append];exact h4,fun j Y y hj hy=>?_,fun j k x y hjk hx hy=>?_⟩
  . by_cases hlt:j<S.length
    . rw [List.getElem?_append_left hlt] at hj;rw [List.getElem?_append_left (by omega)] at hy;have a1:=h.els j Y y hj hy;have a2:w2.ownsRow B 32 5 y Y.2.1 Y.2.2.2:=(a1.alloc _).kept g2 (Z0n a1);exact (a2.alloc _).kept g4 (Zle a2 hv2 (by decide))
    . rw [List.getElem?_append_right (by omega)] at hj;rw [List.getElem?_append_right (by omega),hvl] at hy;have hj0:j - S.length=0:=by have:=(List.getElem?_eq_some_iff.1 hj).1;simp at this;omega
      rw [hj0] at hj hy;obtain rfl:=Option.some.inj hj;obtain rfl:=Option.some.inj hy;have h2' := h2.mono hB;exact (h2'.alloc _).kept g4 (Zle h2' hv2 (by decide))
  . have hk:=(List.getElem?_eq_some_iff.1 hy).1;rw [List.length_append,List.length_singleton] at hk;have hj:j<vs.length:=by omega
    rw [List.getElem?_append_left hj] at hx;by_cases hkl:k<vs.length
    . rw [List.getElem?_append_left hkl] at hy;exact h.apart j k x y hjk hx hy
    . rw [List.getElem?_append_right (by omega),show k - vs.length=0 by omega] at hy;obtain rfl:=Option.some.inj hy;obtain⟨X,hX⟩:∃ X,S[j]? = some X:=⟨_,List.getElem?_eq_getElem (by omega)⟩;have a1:=h.els j X x hX hx;cases hxb:x.ownBlock with
      | none=>exact .inl rfl
      | some g=>refine .inr fun hh=>?_;have q1:=(a1.lt g hxb).2;have q2:=(h2.lt g hh.symm).1;omega
theorem GD.put {B:Nat}{wr w2:World}{v2:Value}{S:List Sv}{X Y:Sv}{vs:List Value}{x:Value}{n cap k m:Nat}(hm:m=S.length)(h:Dst B wr (.slice (some ⟨n,0,none⟩) m cap) S vs)(hk:S[k]? = some X)(hx:vs[k]? = some x)
    (h2:w2.ownsRow B 32 5 v2 Y.2.1 Y.2.2.2) (g2:wr.grownBy w2 x.ownBlock) (hn:∀ g,v2.ownBlock=some g->x.ownBlock=some g∨wr.heap.size<=g):GD B (w2.setCell ⟨n,k,none⟩ v2) (.slice (some ⟨n,0,none⟩) m cap) (S.set k Y):=by
  subst hm;have hvl:=h.len;have hkl:=(List.getElem?_eq_some_iff.1 hk).1;have hxk:=h.els k X x hk hx;have hv:w2.ownsRow B 36 1 (.slice (some ⟨n,0,none⟩) S.length cap) S.length vs:=h.own.kept g2 (Zle h.own hxk (by decide));have els2:∀ (j:Nat) (Z:Sv) (z:Value),j≠k->S[j]? = some Z->vs[j]? = some z->w2.ownsRow B 32 5 z Z.2.1 Z.2.2.2:=fun j Z z hj hZ hz=>by
   refine (h.els j Z z hZ hz).kept g2 ?_;rcases Nat.lt_or_gt_of_ne hj with hl | hl
   . exact h.apart j k z x hl hz hx
   . rcases h.apart k j x z hl hx hz with e | e
     . cases hzb:z.ownBlock with
       | none=>exact .inl rfl
       | some g=>exact .inr (by rw [e];exact fun h=>by cases h)
     . exact .inr fun hh=>e hh.symm
  have hst:=(hv.stored k v2).1;have off:∀ {z:Value} {m:Nat} {zs:List Value},w2.ownsRow B 32 5 z m zs->(w2.setCell ⟨n,k,none⟩ v2).ownsRow B 32 5 z m zs:=fun {z m zs} hz=>ownsRow_setCell_other hz (fun e=>by
   rcases Zle hz hv (by decide) with e1 | e1
   . rw [e1] at e;cases e
   . exact e1 e) _
  refine⟨vs.set k v2,by rw [List.length_set];exact hst,fun j Z z hj hz=>?_,fun i j y z hij hy hz=>?_⟩
  . by_cases e:j=k
    . subst e;rw [List.getElem?_set_self (by omega)] at hj hz;obtain rfl:=Option.some.inj hj;obtain rfl:=Option.some.inj hz;exact off h2
    . rw [List.getElem?_set_ne (by omega)] at hj hz;exact off (els2 j Z z e hj hz)
  . have old:∀ (i:Nat) (y:Value),i≠k->vs[i]? = some y->y.ownBlock=none∨(∀ g,y.ownBlock=some g->v2.ownBlock≠some g):=fun i y hi hy=>by
     obtain⟨Y',hY'⟩:∃ X,S[i]? = some X:=⟨_,List.getElem?_eq_getElem (by rw [<- hvl];exact (List.getElem?_eq_some_iff.1 hy).1)⟩;have a1:=h.els i Y' y hY' hy;refine .inr fun g hg hv2=>?_;rcases hn g hv2 with e | e
     . rcases Nat.lt_or_gt_of_ne hi with hl | hl
       . rcases h.apart i k y x hl hy hx with q | q
         . rw [q] at hg;cases hg
         . exact q (hg.trans e.symm)
       . rcases h.apart k i x y hl hx hy with q | q
         . rw [q] at e;cases e
         . exact q (e.trans hg.symm)
     . have:=(a1.lt g hg).2;omega
    by_cases e:i=k
    . subst e;rw [List.getElem?_set_self (by omega)] at hy;obtain rfl:=Option.some.inj hy;rw [List.getElem?_set_ne (by omega)] at hz;rcases old j z (by omega) hz with q | q
      . cases hb:v2.ownBlock with
        | none=>exact .inl rfl
        | some g=>exact .inr (by rw [q];exact fun h=>by cases h)
      . cases hb:v2.ownBlock with
        | none=>exact .inl rfl
        | some g=>exact .inr fun hh=>q g hh.symm hb
    . rw [List.getElem?_set_ne (by omega)] at hy;by_cases e2:j=k
      . subst e2;rw [List.getElem?_set_self (by omega)] at hz;obtain rfl:=Option.some.inj hz;rcases old i y e hy with q | q
        . exact .inl q
        . cases hb:y.ownBlock with
          | none=>exact .inl rfl
          | some g=>exact .inr fun hh=>q g hb hh.symm
      . rw [List.getElem?_set_ne (by omega)] at hz;exact h.apart i j y z hij hy hz
end Tj

/- The law BoundEvents: its walk. -/
namespace Tj
open Go Go.RowKit Go.Proofs
structure EvC (w:World) (qv iv:Value) (p r:Int) (ok:Bool) (GM M M2:World->Value->Prop) (f s1 s2 wa wb:Int) (at_:Nat):Prop where
 alive:∀ W,Below w.heap.size w W->Calls Tryz.prog 4 #[] W fun e w' => e = .returned (.bool true)/\Below W.heap.size W w'
 great:∀ W,Below w.heap.size w W->Calls Tryz.prog 5 #[qv,iv] W fun e w' => e = .returned (.bool false)/\Below W.heap.size W w'
 asked:∀ W,Below w.heap.size w W->Calls Tryz.prog 6 #[qv,iv,.int .i64 p,.int .i64 r] W fun e w' => e = .returned (.int .i64 0)/\Below W.heap.size W w'
 build:∀ W,Below w.heap.size w W->Calls Tryz.prog 7 #[qv,iv,.int .i64 p,.int .i64 r] W fun e w' => ∃ m,e = .returned (.tuple #[.agg m,.int .i64 0])/\m.size=14/\m.all (·.oneCell')=true/\M w' (.agg m)/\Below W.heap.size W w'
 more:∀ W v,Below w.heap.size w W->GM W v->Calls Tryz.prog 7 #[qv,v,.int .i64 p,.int .i64 r] W fun e w' => ∃ m,e = .returned (.tuple #[.agg m,.int .i64 f])/\m.size=14/\m.all (·.oneCell')=true/\M2 w' (.agg m)/\Below W.heap.size W w'
 gm:∀ W W' v,GM W v->Below W.heap.size W W' -> GM W' v
 m1:∀ W W' v,M W v->Below W.heap.size W W' -> M W' v
 m2:∀ W W' v,M2 W v->Below W.heap.size W W' -> M2 W' v
 steps:∀ W v,Below w.heap.size w W->M W v->Calls Tryz.prog 8 #[v] W fun e w' => e = .returned (.tuple #[.int .i64 s1,.int .i64 0])/\Below W.heap.size W w'
 steps2:f=0 -> ∀ W v,Below w.heap.size w W->M2 W v->Calls Tryz.prog 8 #[v] W fun e w' => e = .returned (.tuple #[.int .i64 s2,.int .i64 0])/\Below W.heap.size W w'
 weights:∀ W v,Below w.heap.size w W->M W v->Calls Tryz.prog 9 #[v] W fun e w' => ∃ a1 a2:Addr,∃ n c1 c2,e = .returned (.tuple #[.slice (some a1) n c1,.slice (some a2) n c2,.int .i64 0])/\at_<n/\w'.cell? (a1.add at_)=some (.int .i64 wa)/\w'.cell? (a2.add at_)=some (.int .i64 wb)/\a1.block<w'.heap.size/\a2.block<w'.heap.size/\Below W.heap.size W w'
def Bx (w:World)(qs xs:Array Value):World:=(w.alloc (.cells qs 27)).alloc (.cells xs 32)
theorem Bx.size (w:World)(qs xs:Array Value):(Bx w qs xs).heap.size=w.heap.size+2:=by simp [Bx]
theorem Bx.near (w:World)(qs xs:Array Value):Below w.heap.size w (Bx w qs xs):=((Below.refl _ _).alloc (Nat.le_refl _) _).alloc (by simp) _
theorem Bx.old {w W:World}{qs xs:Array Value}(h:Below (Bx w qs xs).heap.size (Bx w qs xs) W):Below w.heap.size w W:=(Bx.near w qs xs).trans (h.mono (Bx.near w qs xs).size)
theorem Bx.h0 {w W:World}{qs xs:Array Value}(h:Below (Bx w qs xs).heap.size (Bx w qs xs) W):W.heap[w.heap.size]? = some (.cells qs 27 (0,0)):=by rw [h.block _ (by rw [Bx.size];omega)];exact Xq _ (heap_alloc_new w _) (by simp)
theorem Bx.h1 {w W:World}{qs xs:Array Value}(h:Below (Bx w qs xs).heap.size (Bx w qs xs) W):W.heap[w.heap.size+1]? = some (.cells xs 32 (0,0)):=by rw [h.block _ (by rw [Bx.size];omega)];have:=heap_alloc_new (w.alloc (.cells qs 27)) (.cells xs 32);simpa [Bx] using this
theorem Bx.r0 {w W:World}{qs xs:Array Value}(h:Below (Bx w qs xs).heap.size (Bx w qs xs) W):W.rangeAt w.heap.size 0 qs.toList:=fun j v hv=>by rw [Nat.zero_add];exact (Q0 (Bx.h0 h) (by simpa using hv)).1
theorem Bx.r1 {w W:World}{qs xs:Array Value}(h:Below (Bx w qs xs).heap.size (Bx w qs xs) W):W.rangeAt (w.heap.size+1) 0 xs.toList:=fun j v hv=>by rw [Nat.zero_add];exact (Q0 (Bx.h1 h) (by simpa using hv)).1
structure MoreEd (w:World) (w2:World) (v v' : Value) (k:Nat) (vs:List Value) (qs xs:Array Value):Prop where
 row:(w2.alloc (.cells #[v'] 36)).ownsRow (w.heap.size+2) 36 1 v k vs
 near:Below (Bx w qs xs).heap.size (Bx w qs xs) (w2.alloc (.cells #[v'] 36))
 size:w.heap.size+2<=w2.heap.size
theorem Z84 {w wr w2:World}{v v' : Value}{k:Nat}{vs:List Value}{qs xs:Array Value}(hown:wr.ownsRow (w.heap.size+2) 36 1 v k vs)(hn:Below (Bx w qs xs).heap.size (Bx w qs xs) wr)
    (g2:(wr.alloc (.cells #[] 32)).grownBy w2 (some wr.heap.size)):MoreEd w w2 v v' k vs qs xs:=by
  have hB:w.heap.size+2<=wr.heap.size:=by have:=hn.size;rwa [Bx.size] at this
  have n2:Below (Bx w qs xs).heap.size (Bx w qs xs) w2:=(hn.alloc hn.size _).grown g2 (by have:=hn.size;simp;omega) (fun q hq=>by have:=Option.some.inj hq;have:=hn.size;omega);have s2:=n2.size;exact⟨((hown.alloc _).kept g2 (Z0n hown)).alloc _,n2.alloc s2 _,by rwa [Bx.size] at s2⟩
theorem Z3z {w w2 w4:World}{v v' : Value}{k:Nat}{vs:List Value}{qs xs:Array Value}(h:MoreEd w w2 v v' k vs qs xs)(g4:(w2.alloc (.cells #[v'] 36)).grownBy w4 v.ownBlock):Below (Bx w qs xs).heap.size (Bx w qs xs) w4:=h.near.grown g4 h.near.size (fun q hq=>by have:=(h.row.lt q hq).1;rwa [Bx.size])
theorem Zwa {P:Program}{op:Oper}{a:Act}{w:World}(ty:TypeId)(x:Operand)(ho:op.op = .load ty x)
    (b o:Nat) (hx:a.eval x = .pointer (some ⟨b,o,none⟩)) (cs:List Value) (d:TypeDesc) (hc:w.rangeAt b o cs)
    (hu:P.underlying ty=some d) (hd:d.isRow=true) (hi:(P.info? ty).map (·.size)=some cs.length):(execOp a.eval op).run P w = .ok (.value (.agg cs.toArray)) w:=by
  unfold execOp;simp only [ho,hx,Instr.loadAt,Instr.sureAddr,Sem.run_bind,Sem.run_pure,Result.andThen_ok,run_loadVar_mid w b o ty cs d hc hu hd hi]
abbrev Yfq:Array Value:=#[.int .u8 0,.slice none 0 0,.slice none 0 0,.bool false,.slice none 0 0,.int .u8 0,.int .i64 0,.int .i64 0,.bool false,.int .u8 0,.slice none 0 0,.slice none 0 0,.slice none 0 0,.slice none 0 0]
theorem Z30 {n b:Nat}{w:World}(hb:n<=b)(hw:n<=w.heap.size):∀ (vs:List Value) (o:Nat) (u:World),Below n w u->Below n w (u.setCells b o vs)
 | [],o,u,h=>h
 | v::vs,o,u,h=>Z30 hb hw vs (o+1) (u.setCell ⟨b,o,none⟩ v) (h.grown (row:=some b) ⟨rfl,rfl,rfl,by simp,fun k hk hne=>Deep.blk_setCell_other _ _ _ _ (fun e=>hne (by rw [e]))⟩ (Nat.le_trans hw h.size) (fun q hq=>by have:=Option.some.inj hq;omega))
theorem Zx5 (u:World)(Z:Array Value)(t:TypeId):(u.alloc (.cells Z t)).there u.heap.size 0 Z.size:=fun j hj=>by
 rw [Nat.zero_add];have h:=heap_alloc_new u (.cells Z t);refine⟨?_,?_⟩
 . unfold World.cell?;simp only;rw [h];simp [hj]
 . unfold World.frozen?;simp only;rw [h];simp
theorem boxed (u:World)(Z m:Array Value)(t:TypeId)(h:m.size=Z.size):Below u.heap.size u ((u.alloc (.cells Z t)).setCells u.heap.size 0 m.toList)/\((u.alloc (.cells Z t)).setCells u.heap.size 0 m.toList).rangeAt u.heap.size 0 m.toList:=⟨Z30 (Nat.le_refl _) (Nat.le_refl _) _ _ _ ((Below.refl _ _).alloc (Nat.le_refl _) _),World.rangeAt_setCells_same _ _ _ _ (by rw [Array.length_toList,h];exact Zx5 u Z t)⟩
theorem Zh7 {u v:World}{b o:Nat}{cs:List Value}(h:u.rangeAt b o cs)(hb:Below u.heap.size u v):v.rangeAt b o cs:=fun j x hj=>(hb.cell (World.block_lt_of_cell? u _ (h j x hj))).trans (h j x hj)
theorem Zdr {P:Program}{ops:Array Oper}{rest:List Oper}{op:Oper}{a:Act}{w:World}{Q:Exit->Act->World->Prop}(hw:Region.wanted op (yielded ops a.tmps)=true)(ty:TypeId)(x:Operand)(ho:op.op = .load ty x)
    (b o:Nat) (hx:a.eval x = .pointer (some ⟨b,o,none⟩)) (cs:List Value) (d:TypeDesc) (hc:w.rangeAt b o cs)
    (hu:P.underlying ty=some d) (hd:d.isRow=true) (hi:(P.info? ty).map (·.size)=some cs.length)
    (h:wpList P ops Q rest (a.put op.dst (.agg cs.toArray)) w):wpList P ops Q (op::rest) a w :=
  wpList_step fun K hK=>by rw [if_pos hw];exact wp_load_mid ty x ho b o hx cs d hc hu hd hi (hK _ _ h)
theorem Zgr:(Tryz.prog.info? 27).map (·.size)=some 10:=by kernel_rfl
theorem Yk5:(Tryz.prog.info? 32).map (·.size)=some 5:=by kernel_rfl
theorem Z0o:(Tryz.prog.info? 44).map (·.size)=some 14:=by kernel_rfl
theorem Z31 {ops:Array Oper}{rest:List Oper}{op:Oper}{a:Act}{Q:Exit->Act->World->Prop}(hgd:op.guard=none)(x y:Operand)(ho:op.op = .store 44 x y)(u:World)(m:Array Value)
    (hx:a.eval x = .pointer (some ⟨u.heap.size,0,none⟩)) (hy:a.eval y = .agg m) (hm:m.size=14) (h1:m.all (·.oneCell')=true)
    (h:∀ U,Below u.heap.size u U->U.rangeAt u.heap.size 0 m.toList->u.heap.size<U.heap.size->wpList Tryz.prog ops Q rest (a.put op.dst undef) U):wpList Tryz.prog ops Q (op::rest) a (u.alloc (.cells Yfq 44)):=by
  obtain⟨b1,b2⟩:=boxed u Yfq m 44 hm;refine wpList_store_mid hgd 44 x y ho u.heap.size 0 m hx hy (by rw [hm];exact Zx5 u Yfq 44) (by rw [hm];exact Z0o) h1 (h _ b1 b2 ?_);have:=World.block_lt_of_cell? _ _ (b2 0 m[0] (by simp));exact this
set_option maxHeartbeats 16000000 in
theorem Z6m (q0 q1 q2 q3 q4 q5 q6 q7 q8 q9 x1 x2 x3 x4:Value)(a:Option Addr)(n c:Nat)(p r:Int)(at_:Nat)(L:List Sv)(w:World)(mk:Bool)(GM M M2:World->Value->Prop)(f s1 s2 wa wb:Int)
    (hC:EvC w (.agg #[q0,q1,q2,q3,q4,q5,q6,q7,q8,q9]) (.slice a n c) p r true GM M M2 f s1 s2 wa wb at_)
    (hn:n<=1000) (hL:L.length=n) (hat:at_<n)
    (hone:∀ v∈[q0,q1,q2,q3,q4,q5,q6,q7,q8,q9,x1,x2,x3,x4],v.oneCell' = true)
    (hin:∀ k X,L[k]? = some X->EvOk w X /\ ∃ b,a=some b/\b.block<w.heap.size/\w.cell? (b.add k)=some (.slice X.1 X.2.1 X.2.2.1))
    (hgm:∀ W v X,L[at_]? = some X->GD (w.heap.size+2) W v (L.set at_ (none,X.2.1+1,0,X.2.2.2++[.bool mk,x1,x2,x3,x4]))->GM W v)
    (hs:f=0->s2=wrap64 (wrap64 (s1+2)+cond mk wb wa)) :
    Calls Tryz.prog 3 #[.agg #[q0,q1,q2,q3,q4,q5,q6,q7,q8,q9],.slice a n c,.int .i64 p,.int .i64 r,.int .i64 at_,.agg #[.bool mk,x1,x2,x3,x4]] w fun e w' => e = .returned (.bool true)/\Below w.heap.size w w' := by
  obtain⟨i0,hi,hz0,hz1,hz2⟩:=info_parts Yn3;obtain⟨i1,hi',hz0',hz1',hz2'⟩:=info_parts Yn4;have HI:=Lib.hid hin;have HC:=Lib.hid hC;have HGM:=Lib.hid hgm;have HS:=Lib.hid hs;have HONE:=Lib.hid hone;clear hin hC hgm hs hone;have hd1:decide ((n:Int)<=(at_:Int))=false:=decide_eq_false (by omega);have hd3:decide (n<=at_)=false:=decide_eq_false (by omega);have hd2:decide ((at_:Int)<0)=false:=decide_eq_false (by omega);go_enter Tryz.func3,Tryz.ntmps3;go_wp2_with (first
   | (go_at_call 4;refine (HC.out.alive (Bx w #[q0,q1,q2,q3,q4,q5,q6,q7,q8,q9] #[.bool mk,x1,x2,x3,x4]) (Bx.near _ _ _)).mono ?_;rintro e w1 ⟨rfl,hb1⟩;have n1:=Bx.old hb1;have r1:=Bx.r0 hb1)
   | (go_at_call 5;refine (HC.out.great _ n1).mono ?_;rintro e w2 ⟨rfl,hb2⟩;have nb2:=hb1.trans (hb2.mono hb1.size);have n2:=Bx.old nb2;have r2:=Bx.r0 nb2)
   | (go_at_call 6;refine (HC.out.asked _ n2).mono ?_;rintro e w3 ⟨rfl,hb3⟩;have nb3:=nb2.trans (hb3.mono nb2.size);have n3:=Bx.old nb3)
   | refine wpList_load_mid rfl 27 _ rfl w.heap.size 0 rfl [q0,q1,q2,q3,q4,q5,q6,q7,q8,q9] _ (by assumption) Tryz.underlying27 rfl Zgr ?_
   | refine Zdr (by rfl) 27 _ rfl w.heap.size 0 rfl [q0,q1,q2,q3,q4,q5,q6,q7,q8,q9] _ (by assumption) Tryz.underlying27 rfl Zgr ?_)
  go_loopw [14,15] (fun v i wr=>∃ k:Nat,k<=n/\i = .int .i64 k/\GD (w.heap.size+2) wr v (L.take k)/\Below (Bx w #[q0,q1,q2,q3,q4,q5,q6,q7,q8,q9] #[.bool mk,x1,x2,x3,x4]).heap.size (Bx w #[q0,q1,q2,q3,q4,q5,q6,q7,q8,q9] #[.bool mk,x1,x2,x3,x4]) wr) (fun _ i _=>n - (RowKit.intOf i).toNat)
  case atStart=>refine⟨0,Nat.zero_le _,rfl,?_,nb3⟩;rw [List.take_zero];exact GD.nil _ _
  case round =>
   clear r1 r2 n1 n2 n3 nb2 nb3 hb1 hb2 hb3;obtain⟨k,hk,rfl,hgd,hnb⟩:=hrel;have hnx:=Bx.old hnb;have hk0:(0:Int)<=(k:Int):=by omega
   have hB:=hnx.size;have HN:=Lib.hid hnx;have HNB:=Lib.hid hnb;clear hnx hnb;by_cases hlt:k<n
   . have hk1:(k:Int)<(n:Int):=by omega
     obtain⟨X,hX⟩:∃ X,L[k]? = some X:=⟨_,List.getElem?_eq_getElem (by omega)⟩;obtain⟨hev,b,rfl,hb,q⟩:=HI.out k X hX;obtain⟨xa,xn,xc,xcells⟩:=X;simp only at hev q;have q:=(HN.out.cell (p:=b.add k) (by rw [Ze];exact hb)).trans q;obtain⟨vs,hds⟩:=hgd;have HDS:=Lib.hid hds;have HEV:=Lib.hid hev;have HX:=Lib.hid hX;clear hds hev hX;have hlen:(L.take k).length=k:=by rw [List.length_take];omega
     have hown:=HDS.out.own;rw [hlen] at hown;have HOW:=Lib.hid hown;have n1:Below w.heap.size w (wr.alloc (.cells #[] 32)):=HN.out.alloc hB _;have hq2:=(n1.cell (p:=b.add k) (by rw [Ze];exact hb)).trans ((HN.out.cell (p:=b.add k) (by rw [Ze];exact hb)).symm.trans q);have hlit:(wr.alloc (.cells #[] 32)).ownsRow wr.heap.size 32 5 (.slice (some ⟨wr.heap.size,0,none⟩) 0 0) 0 []:=World.ownsRow_lit wr #[] 0 (Nat.le_refl _) (by unfold maxLen;omega) rfl;have htk:L.take (k+1)=L.take k++[(xa,xn,xc,xcells)]:=by rw [List.take_add_one,HX.out];rfl
     have hB2:w.heap.size+2<=wr.heap.size:=by have:=HNB.out.size;rwa [Bx.size] at this
     have N1:=Lib.hid n1;have HLIT:=Lib.hid hlit;have HTK:=Lib.hid htk;have HLEN:=Lib.hid hlen;clear n1 hlit hown htk hlen;cases hz:xn with
     | zero =>
      subst hz;have src:Src Tryz.prog i0.size 36 (.slice xa 0 xc) 0 [] (wr.alloc (.cells #[] 32)):=by
       cases xa with
       | none=>exact Src.ofNil _ Tryz.underlying36 xc
       | some a=>exact Src.ofSlice _ Tryz.underlying36 a 0 xc [] (by simp) (fun q u hq=>by simp at hq) (fun u hu=>by cases hu)
      have HR:=Lib.hid (run_append_nothing (P:=Tryz.prog) (wr.alloc (.cells #[] 32)) 36 36 36 32 i0 Tryz.underlying36 hi (some ⟨wr.heap.size,0,none⟩) 0 0 (Nat.le_refl _) (.slice xa 0 xc) src);clear src;have hcl:xcells=[]:=List.length_eq_zero_iff.1 (by have:=HEV.out.len;simpa using this);have R:=Lib.hid (Z84 (v' := .slice (some ⟨wr.heap.size,0,none⟩) 0 0) HOW.out HNB.out (Zx4 _ _));have r1:=R.out.row;have r5:=R.out.size;go_wp2_with (first | (at_builtin;refine Lib.wpList_append_run _ rfl _ _ _ _ rfl _ _ rfl rfl _ _ HR.out ?_) | (at_builtin;refine wpList_append_own _ rfl _ _ 28 rfl (w.heap.size+2) 36 i1 _ 1 24 Tryz.underlying28 hi' hz0' hz1' hz2' rfl (by decide) _ _ _ rfl r1 ⟨wr.heap.size+1,0,none⟩ 1 1 [.slice (some ⟨wr.heap.size,0,none⟩) 0 0] rfl rfl ?e1 ?e2 ?e3 ?e4 ?e5 ?_) | go_in)
      case e1=>exact fun j u hj=>by have:=Zk9 (w:=wr.alloc (.cells #[] 32)) (t:=36) hj;simpa using this
      case e2=>intro u hu;obtain rfl:=List.mem_singleton.1 hu;rfl
      case e3=>unfold maxLen;omega
      case e4=>omega
      case e5=>simp;omega
      intro v2 w4 h4 g4 _;have hg:=GD.more (X:=(xa,0,xc,xcells)) hB2 HDS.out (by rw [hcl];exact HLIT.out) (Zx4 _ _) (by rw [HLEN.out];exact h4) g4;rw [<- HTK.out] at hg;have hnr:=Z3z R.out g4;have HG:=Lib.hid hg;have HNR:=Lib.hid hnr;clear hg hnr h4 g4;go_wp2;go_roundw
      case rel=>exact⟨k+1,by omega,by go_num,HG.out,HNR.out⟩
      case measure=>simp [RowKit.intOf];omega
     | succ m =>
      subst hz;obtain⟨xb,hxb⟩:∃ xb,xa=some xb:=by obtain⟨v0,hv0⟩:∃ v0,xcells[0]? = some v0:=⟨_,List.getElem?_eq_getElem (by have:=HEV.out.len;simp only at this;omega)⟩;obtain⟨_,b',e,_⟩:=HEV.out.cells 0 v0 hv0;exact⟨b',e⟩
      subst hxb;have hsm:m+1<=100000:=HEV.out.small;go_wp2_with (first | (at_builtin;refine wpList_append_own _ rfl _ _ 36 rfl wr.heap.size 32 i0 _ 5 40 Tryz.underlying36 hi hz0 hz1 hz2 rfl (by decide) _ _ _ rfl HLIT.out xb (m+1) xc xcells rfl HEV.out.len ?c1 ?c2 ?c3 ?c4 ?c5 ?_) | go_in)
      case c1=>intro q u hq;obtain⟨_,b',e,hbl,hcc⟩:=HEV.out.cells q u hq;obtain rfl:=Option.some.inj e;exact (N1.out.cell (p:=xb.add q) (by rw [Ze];exact hbl)).trans hcc
      case c2=>intro u hu;obtain⟨q,hq⟩:=List.getElem?_of_mem hu;exact (HEV.out.cells q u hq).1
      case c3=>unfold maxLen;omega
      case c4=>omega
      case c5=>simp
      intro v' w2 hown' hgrow _;obtain⟨p',n',c',rfl⟩:=Zx3 hown';have R:=Lib.hid (Z84 (v' := .slice p' n' c') HOW.out HNB.out hgrow);have r1:=R.out.row;have r5:=R.out.size;have r6:=row_one hown';have HO2:=Lib.hid hown';have HG2:=Lib.hid hgrow;clear hown' hgrow;go_wp2_with (first | (at_builtin;refine wpList_append_own _ rfl _ _ 28 rfl (w.heap.size+2) 36 i1 _ 1 24 Tryz.underlying28 hi' hz0' hz1' hz2' rfl (by decide) _ _ _ rfl r1 ⟨w2.heap.size,0,none⟩ 1 1 [.slice p' n' c'] rfl rfl ?d1 ?d2 ?d3 ?d4 ?d5 ?_) | go_in)
      case d1=>exact fun j u hj=>Zk9 hj
      case d2=>intro u hu;obtain rfl:=List.mem_singleton.1 hu;exact r6
      case d3=>unfold maxLen;omega
      case d4=>omega
      case d5=>simp;omega
      intro v2 w4 h4 g4 _;have hg:=GD.more (X:=(some xb,m+1,xc,xcells)) hB2 HDS.out (by simpa using HO2.out) HG2.out (by rw [HLEN.out];exact h4) g4;rw [<- HTK.out] at hg;have hnr:=Z3z R.out g4;have HG:=Lib.hid hg;have HNR:=Lib.hid hnr;clear hg hnr h4 g4;go_wp2;go_roundw
      case rel=>exact⟨k+1,by omega,by go_num,HG.out,HNR.out⟩
      case measure=>simp [RowKit.intOf];omega
   . have hkn:k=n:=by omega
     subst hkn;have hLk:L.take k=L:=by rw [<- hL];exact List.take_length
     rw [hLk] at hgd;obtain⟨vs,hds⟩:=hgd;obtain⟨X,hX⟩:∃ X,L[at_]? = some X:=⟨_,List.getElem?_eq_getElem (by omega)⟩;have hown:=hds.own;rw [hL] at hown;obtain⟨gm,cm,rfl,hgm1,hgm2⟩:=hown.form (by omega);obtain⟨x,hx⟩:∃ x,vs[at_]? = some x:=⟨_,List.getElem?_eq_getElem (by have:=hds.len;omega)⟩;have hxr:=hds.els at_ X x hX hx;obtain⟨xp,xn,xc,rfl⟩:=Zx3 hxr;have hcell:wr.cell? ⟨gm,at_,none⟩=some (.slice xp xn xc):=by rw [hown.cellAt at_ (by omega)];exact hx
     have hr1:wr.rangeAt (w.heap.size+1) 0 [.bool mk,x1,x2,x3,x4]:=Bx.r1 HNB.out;have ha0:(0:Int)<=(at_:Int):=by omega
     have ha1:(at_:Int)<(k:Int):=by omega
     go_upto_region 9 with fail
     have HDS:=Lib.hid hds;have HX:=Lib.hid hX;have HXX:=Lib.hid hx;have HXR:=Lib.hid hxr;have HOWN:=Lib.hid hown;clear hds hX hx hxr hown;refine Zd0 10 11 (fun b w' => b=false->w'.cell? ⟨gm,at_,none⟩=some (.slice xp xn xc)/\w'.rangeAt (w.heap.size+1) 0 [.bool mk,x1,x2,x3,x4]) (by kernel_rfl) (by kernel_rfl) (fun _=>⟨hcell,hr1⟩) (fun hS=>?_);refine Zy (i:=0) (d:=some 70) (v:=?_) true false (fun _ _ e=>by cases e) rfl rfl (by kernel_rfl) (by kernel_rfl) (by kernel_rfl) (by kernel_rfl) (by kernel_rfl) (by kernel_rfl) (by kernel_rfl) (fun _ _ _ h=>h) hS (by rfl) ?_ ?_
     rotate_left
     . intro w hSw;obtain⟨h0,h1⟩:=hSw rfl;go_simp;try rfl
     try simp only [Act.put,List.setIfInBounds_toArray,List.set_cons_zero,List.set_cons_succ]
     refine Zy (i:=1) (d:=some 71) (v:=?_) true false (fun _ _ e=>by cases e) rfl rfl (by kernel_rfl) (by kernel_rfl) (by kernel_rfl) (by kernel_rfl) (by kernel_rfl) (by kernel_rfl) (by kernel_rfl) (fun _ _ _ h=>h) hS (by rfl) ?_ ?_
     rotate_left
     . intro w hSw;obtain⟨h0,h1⟩:=hSw rfl;go_simp;try rfl
     try simp only [Act.put,List.setIfInBounds_toArray,List.set_cons_zero,List.set_cons_succ]
     refine Zy (i:=2) (d:=some 72) (v:=?_) true false (fun _ _ e=>by cases e) rfl rfl (by kernel_rfl) (by kernel_rfl) (by kernel_rfl) (by kernel_rfl) (by kernel_rfl) (by kernel_rfl) (by kernel_rfl) (fun _ _ _ h=>h) hS (by rfl) ?_ ?_
     rotate_left
     . intro w hSw;obtain⟨h0,h1⟩:=hSw rfl;go_simp;try rfl
     try simp only [Act.put,List.setIfInBounds_toArray,List.set_cons_zero,List.set_cons_succ]
     refine Zy (i:=3) (d:=some 73) (v:=?_) true false (fun _ _ e=>by cases e) rfl rfl (by kernel_rfl) (by kernel_rfl) (by kernel_rfl) (by kernel_rfl) (by kernel_rfl) (by kernel_rfl) (by kernel_rfl) (fun _ _ _ h=>h) hS (by rfl) ?_ ?_
     rotate_left
     . intro w hSw;obtain⟨h0,h1⟩:=hSw rfl;go_simp;try rfl
     try simp only [Act.put,List.setIfInBounds_toArray,List.set_cons_zero,List.set_cons_succ]
     refine Zy (i:=4) (d:=some 74) (v:=?_) true false (fun _ _ e=>by cases e) rfl rfl (by kernel_rfl) (by kernel_rfl) (by kernel_rfl) (by kernel_rfl) (by kernel_rfl) (by kernel_rfl) (by kernel_rfl) (fun _ _ _ h=>h) hS (by rfl) ?_ ?_
     rotate_left
     . intro w hSw;obtain⟨h0,h1⟩:=hSw rfl;go_simp;try rfl
     try simp only [Act.put,List.setIfInBounds_toArray,List.set_cons_zero,List.set_cons_succ]
     refine Zy (i:=5) (d:=some 75) (v:=?_) true false (fun _ _ e=>by cases e) rfl rfl (by kernel_rfl) (by kernel_rfl) (by kernel_rfl) (by kernel_rfl) (by kernel_rfl) (by kernel_rfl) (by kernel_rfl) (fun _ _ _ h=>h) hS (by rfl) ?_ ?_
     rotate_left
     . intro w hSw;obtain⟨h0,h1⟩:=hSw rfl;go_simp;try rfl
     try simp only [Act.put,List.setIfInBounds_toArray,List.set_cons_zero,List.set_cons_succ]
     refine Zy (i:=6) (d:=some 76) (v:=.agg #[.bool mk,x1,x2,x3,x4]) true false (fun _ _ e=>by cases e) rfl rfl (by kernel_rfl) (by kernel_rfl) (by kernel_rfl) (by kernel_rfl) (by kernel_rfl) (by kernel_rfl) (by kernel_rfl) (fun _ _ _ h=>h) hS (by rfl) ?_ ?_
     . intro W hSw;obtain⟨h0,h1⟩:=hSw rfl;exact Zwa 32 (.tmp 11) rfl (w.heap.size+1) 0 rfl [.bool mk,x1,x2,x3,x4] _ h1 Tryz.underlying32 rfl Yk5
     try simp only [Act.put,List.setIfInBounds_toArray,List.set_cons_zero,List.set_cons_succ]
     refine Zv (rs:=[7]) (by kernel_rfl) (by simp) ?_;refine AllT.cons' (i:=7) false (by kernel_rfl) rfl (fun K hK=>?_) AllT.nil;go_simp;obtain⟨G,hG⟩:∃ G,G=(wr.alloc (.cells #[.bool mk,x1,x2,x3,x4] 32)).drew:=⟨_,rfl⟩;have hS0:=hS rfl;have g0:∀ b,b<wr.heap.size->G.heap[b]? = wr.heap[b]? := fun b hb=>by rw [hG];exact Below.heap_alloc _ _ _ hb
     have hN1:w.heap.size+2<=wr.heap.size:=by have:=HNB.out.size;rwa [Bx.size] at this
     have hSG:G.cell? ⟨gm,at_,none⟩=some (.slice xp xn xc)/\G.rangeAt (w.heap.size+1) 0 [.bool mk,x1,x2,x3,x4]:=⟨(Zoa (g0 gm hgm2)).trans hS0.1,fun j u hj=>(Zoa (g0 _ (by omega))).trans (hS0.2 j u hj)⟩;have hdG:Dst (w.heap.size+2) G (.slice (some ⟨gm,0,none⟩) k cm) L vs:=by rw [hG];exact (HDS.out.alloc _).drew
     have hbG:G.heap[wr.heap.size]? = some (.cells #[.bool mk,x1,x2,x3,x4] 32):=by rw [hG];exact heap_alloc_new wr _
     have hnG:Below (Bx w #[q0,q1,q2,q3,q4,q5,q6,q7,q8,q9] #[.bool mk,x1,x2,x3,x4]).heap.size (Bx w #[q0,q1,q2,q3,q4,q5,q6,q7,q8,q9] #[.bool mk,x1,x2,x3,x4]) G:=by rw [hG];exact (HNB.out.alloc HNB.out.size _).drew
     have hsG:wr.heap.size<G.heap.size:=by rw [hG];simp [World.drew]
     have hev:=(HI.out at_ X HX.out).1;refine hK.out _ _ (fun _=>by rw [<- hG];exact hSG) (fun hS=>?_);rw [<- hG];rw [<- hG] at hS;clear hK K;try simp only [Act.put,List.setIfInBounds_toArray,List.set_cons_zero,List.set_cons_succ]
     refine Zv (rs:=[8]) (by kernel_rfl) (by simp) ?_;refine AllT.cons' (i:=8) false (by kernel_rfl) rfl (fun K hK=>?_) AllT.nil;refine step_append_lies _ rfl _ _ 36 rfl (w.heap.size+2) 32 i0 _ 5 40 Tryz.underlying36 hi hz0 hz1 hz2 rfl (by decide) (.slice xp xn xc) _ _ rfl (hdG.els at_ X _ HX.out HXX.out) ⟨wr.heap.size,0,none⟩ 1 1 [.bool mk,x1,x2,x3,x4] rfl rfl (World.news_of_block (w:=G) hbG) ?o1 (by decide) (by have:=hev.small;unfold maxLen;omega) (by have:=hev.small;omega) (by omega) _ rfl ?_
     case o1 =>
      intro u hu;rcases List.mem_cons.1 hu with rfl | hu
      . rfl
      . exact HONE.out u (by simp only [List.mem_cons] at hu ⊢;grind)
     intro g1 cap1 w1 hown1 hgrow hat1 hlt1;have hxrG:=hdG.els at_ X _ HX.out HXX.out;have hne1:some gm≠(Value.slice xp xn xc).ownBlock:=by
      rcases Zle hdG.own hxrG (by decide) with e | e
      . cases e
      . exact e
     have hbk:w1.heap[gm]? = G.heap[gm]? := hgrow.block gm (by omega) hne1;have hb1' : w1.heap[w.heap.size+1]? = G.heap[w.heap.size+1]? := hgrow.block _ (by omega) (fun e=>by have:=(hxrG.lt _ e.symm).1;omega);have hS1:w1.cell? ⟨gm,at_,none⟩=some (.slice xp xn xc)/\w1.rangeAt (w.heap.size+1) 0 [.bool mk,x1,x2,x3,x4]:=⟨(Zoa hbk).trans hSG.1,fun j u hj=>(Zoa hb1').trans (hSG.2 j u hj)⟩;have hnw:Below (Bx w #[q0,q1,q2,q3,q4,q5,q6,q7,q8,q9] #[.bool mk,x1,x2,x3,x4]).heap.size (Bx w #[q0,q1,q2,q3,q4,q5,q6,q7,q8,q9] #[.bool mk,x1,x2,x3,x4]) w1:=hnG.grown hgrow hnG.size (fun q hq=>by have:=(hxrG.lt q hq).1;rwa [Bx.size]);have hfr:w1.frozen? ⟨gm,at_,none⟩=false:=by have h9:=hdG.own.kept hgrow (Zle hdG.own hxrG (by decide));rw [hL] at h9;exact h9.frozenAt at_
     have hgd2:=GD.put (Y:=(none,X.2.1+1,0,X.2.2.2++[.bool mk,x1,x2,x3,x4])) hL.symm hdG HX.out HXX.out hown1 hgrow (fun q hq=>by obtain rfl:=Option.some.inj hq;exact hat1.imp id fun e=>by show G.heap.size<=g1;omega);have HGD:=Lib.hid hgd2;have HNW:=Lib.hid hnw;have hcw:=hS1.1;clear hgd2 hnw hown1 hgrow hat1 hdG hxrG hnG hSG hS0 hev hbk hb1' g0 hbG;refine hK.out _ _ (fun _=>hS1) (fun hS=>?_);clear hK K;try simp only [Act.put,List.setIfInBounds_toArray,List.set_cons_zero,List.set_cons_succ]
     refine Zy (i:=9) (d:=some 79) (v:=?_) true false (fun _ _ e=>by cases e) rfl rfl (by kernel_rfl) (by kernel_rfl) (by kernel_rfl) (by kernel_rfl) (by kernel_rfl) (by kernel_rfl) (by kernel_rfl) (fun _ _ _ h=>h) hS (by rfl) ?_ ?_
     rotate_left
     . intro w hSw;obtain⟨h0,h1⟩:=hSw rfl;go_simp;try rfl
     try simp only [Act.put,List.setIfInBounds_toArray,List.set_cons_zero,List.set_cons_succ]
     refine Zv (rs:=[10]) (by kernel_rfl) (by simp) ?_;refine AllT.cons' (i:=10) true (by kernel_rfl) rfl (fun K hK=>?_) AllT.nil;go_simp;refine hK.out _ _ (fun e=>by cases e) (fun hS=>?_);clear hK K;try simp only [Act.put,List.setIfInBounds_toArray,List.set_cons_zero,List.set_cons_succ]
     refine Zgj (by kernel_rfl) ?_ _;obtain⟨W0,hW0⟩:∃ W0,W0=w1.setCell ⟨gm,at_,none⟩ (.slice (some ⟨g1,0,none⟩) (X.2.1+1) cap1):=⟨_,rfl⟩;have hgm0:=HGM.out W0 _ X HX.out (by rw [hW0];exact HGD.out);have hn0:Below (Bx w #[q0,q1,q2,q3,q4,q5,q6,q7,q8,q9] #[.bool mk,x1,x2,x3,x4]).heap.size (Bx w #[q0,q1,q2,q3,q4,q5,q6,q7,q8,q9] #[.bool mk,x1,x2,x3,x4]) W0:=by rw [hW0];exact HNW.out.grown (row:=some gm) ⟨rfl,rfl,rfl,by simp,fun k hk hne=>Deep.blk_setCell_other _ _ _ _ (fun e=>hne (by rw [e]))⟩ HNW.out.size (fun q hq=>by have:=Option.some.inj hq;rw [Bx.size];omega)
     try rw [<- hW0]
     have HG0:=Lib.hid hgm0;have HN0:=Lib.hid hn0;have r0:=Bx.r0 hn0;have n0:=Bx.old hn0;clear hgm0 hn0 hS hS1 hcw hfr hne1 hgm1 hgm2 hcell hr1 hG hW0;go_upto_region 12 with (first
      | (go_at_call 7;refine (HC.out.build _ n0).mono ?_;rintro e u1 ⟨m,rfl,hm,h1,hM,hb1⟩)
      | refine wpList_load_mid rfl 27 _ rfl w.heap.size 0 rfl [q0,q1,q2,q3,q4,q5,q6,q7,q8,q9] _ (by assumption) Tryz.underlying27 rfl Zgr ?_
      | (refine Z31 rfl _ _ rfl u1 m rfl rfl hm h1 ?_
         intro U hUb hUr hlt1;have b01:=hb1.trans (hUb.mono hb1.size);have HU:=Lib.hid (HN0.out.trans (b01.mono HN0.out.size));have rU:=Bx.r0 HU.out;have nU:=Bx.old HU.out;have HMU:=Lib.hid (HC.out.m1 _ _ _ hM hUb);have HGU:=Lib.hid (HC.out.gm _ _ _ HG0.out b01);have HUR:=Lib.hid hUr;clear hUb hUr hb1 hM r0 n0 b01)
      | (go_at_call 7;refine (HC.out.more _ _ nU HGU.out).mono ?_;rintro e u2 ⟨m',rfl,hm',h1',hM',hb2⟩)
      | (refine Z31 rfl _ _ rfl u2 m' rfl rfl hm' h1' ?_
         intro V hUb hUr hlt2;have b12:=hb2.trans (hUb.mono hb2.size);have HV:=Lib.hid (HU.out.trans (b12.mono HU.out.size));have nV:=Bx.old HV.out;have HMV:=Lib.hid (HC.out.m1 _ _ _ HMU.out b12);have HMW:=Lib.hid (HC.out.m2 _ _ _ hM' hUb);have rV:=Zh7 HUR.out b12;have rV2:=hUr;clear hUb hb2 hM' rU nU b12)
      )
     by_cases hf:f=0
     . subst hf;have hsf:=HS.out rfl;have HSF:=Lib.hid hsf;clear hsf;go_upto_region 17 with (first
        | (refine wpList_load_mid rfl 44 _ rfl u1.heap.size 0 rfl m.toList _ rV Tryz.underlying44 rfl (by rw [Array.length_toList,hm];exact Z0o) ?_;rw [Array.toArray_toList])
        | (go_at_call 8;refine (HC.out.steps _ _ nV HMV.out).mono ?_;rintro e v1 ⟨rfl,hb3⟩))
       have HV1:=Lib.hid (HV.out.trans (hb3.mono HV.out.size));have nV1:=Bx.old HV1.out;have HMV1:=Lib.hid (HC.out.m1 _ _ _ HMV.out hb3);have HMW1:=Lib.hid (HC.out.m2 _ _ _ HMW.out hb3);have rv1:=Zh7 rV hb3;have rv2:=Zh7 rV2 hb3;clear hb3 rV rV2;go_upto_region 18 with (first
        | (refine wpList_load_mid rfl 44 _ rfl u2.heap.size 0 rfl m'.toList _ rv2 Tryz.underlying44 rfl (by rw [Array.length_toList,hm'];exact Z0o) ?_;rw [Array.toArray_toList])
        | (go_at_call 8;refine (HC.out.steps2 rfl _ _ nV1 HMW1.out).mono ?_;rintro e v2 ⟨rfl,hb4⟩))
       have HV2:=Lib.hid (HV1.out.trans (hb4.mono HV1.out.size));have nV2:=Bx.old HV2.out;have HMV2:=Lib.hid (HC.out.m1 _ _ _ HMV1.out hb4);have rw1:=Zh7 rv1 hb4;clear hb4 rv1 rv2;go_upto_region 19 with (first
        | (refine wpList_load_mid rfl 44 _ rfl u1.heap.size 0 rfl m.toList _ rw1 Tryz.underlying44 rfl (by rw [Array.length_toList,hm];exact Z0o) ?_;rw [Array.toArray_toList])
        | (go_at_call 9;refine (HC.out.weights _ _ nV2 HMV2.out).mono ?_;rintro e v3 ⟨a1,a2,n',c1,c2,rfl,hat',hw1,hw2,hl1,hl2,hb5⟩))
       have HV3:=Lib.hid (HV2.out.trans (hb5.mono HV2.out.size));have nV3:=Bx.old HV3.out;clear hb5 rw1;have he1:(at_:Int)<(n' : Int):=by omega
       have he2:decide (n' <= at_)=false:=decide_eq_false (by omega);have x0:v3.cell? ⟨w.heap.size+1,0,none⟩=some (.bool mk):=by simpa using Bx.r1 HV3.out 0 (.bool mk) rfl
       have hq1:(Addr.mk a1.block a1.off a1.spot)=a1:=rfl;cases mk with
       | false=>simp only [cond_false] at HSF;go_wp2;go_ret;refine⟨?_,nV3⟩;have:=HSF.out;simp_all

       | true=>simp only [cond_true] at HSF;go_wp2;go_ret;refine⟨?_,nV3⟩;have:=HSF.out;simp_all

     . go_wp2;go_ret;exact⟨rfl,nV⟩
end Tj

/- The law BoundEvents: its walk where nothing is asked. -/
namespace Tj
open Go Go.RowKit Go.Proofs
set_option maxHeartbeats 4000000 in
theorem Z6n (q0 q1 q2 q3 q4 q5 q6 q7 q8 q9 x0 x1 x2 x3 x4:Value)(a:Option Addr)(n c:Nat)(p r at_ k:Int)(g:Bool)(w:World)
    (cA:∀ W,Below w.heap.size w W->Calls Tryz.prog 4 #[] W fun e w' => e = .returned (.bool true)/\Below W.heap.size W w')
    (cG:∀ W,Below w.heap.size w W->Calls Tryz.prog 5 #[.agg #[q0,q1,q2,q3,q4,q5,q6,q7,q8,q9],.slice a n c] W fun e w' => e = .returned (.bool g)/\Below W.heap.size W w')
    (cK:g=false -> ∀ W,Below w.heap.size w W->Calls Tryz.prog 6 #[.agg #[q0,q1,q2,q3,q4,q5,q6,q7,q8,q9],.slice a n c,.int .i64 p,.int .i64 r] W fun e w' => e = .returned (.int .i64 k)/\Below W.heap.size W w')
    (h:g=true∨k≠0∨at_<0∨(n:Int)<=at_) :
    Calls Tryz.prog 3 #[.agg #[q0,q1,q2,q3,q4,q5,q6,q7,q8,q9],.slice a n c,.int .i64 p,.int .i64 r,.int .i64 at_,.agg #[x0,x1,x2,x3,x4]] w fun e w' => e = .returned (.bool true)/\Below w.heap.size w w' := by
  have CA:=Lib.hid cA;have CG:=Lib.hid cG;have CK:=Lib.hid cK;clear cA cG cK;have all:∀ w3,Below w.heap.size w w3->True:=fun _ _=>trivial;cases g with
  | true =>
   go_enter Tryz.func3,Tryz.ntmps3;go_wp2_with (first
    | (go_at_call 4;refine (CA.out (Bx w #[q0,q1,q2,q3,q4,q5,q6,q7,q8,q9] #[x0,x1,x2,x3,x4]) (Bx.near _ _ _)).mono ?_;rintro e w1 ⟨rfl,hb1⟩;have n1:=Bx.old hb1;have r1:=Bx.r0 hb1)
    | (go_at_call 5;refine (CG.out _ n1).mono ?_;rintro e w2 ⟨rfl,hb2⟩;have nb2:=hb1.trans (hb2.mono hb1.size);have n2:=Bx.old nb2)
    | refine wpList_load_mid rfl 27 _ rfl w.heap.size 0 rfl [q0,q1,q2,q3,q4,q5,q6,q7,q8,q9] _ (by assumption) Tryz.underlying27 rfl Zgr ?_)
   go_ret;exact⟨rfl,n2⟩
  | false =>
   by_cases hk:k=0
   . subst hk;have h2:at_<0∨(n:Int)<=at_:=by
      rcases h with h | h | h | h
      . cases h
      . exact absurd rfl h
      . exact .inl h
      . exact .inr h
     by_cases h0:at_<0
     . have e0:decide (at_<0)=true:=decide_eq_true h0;go_enter Tryz.func3,Tryz.ntmps3;go_wp2_with (first
        | (go_at_call 4;refine (CA.out (Bx w #[q0,q1,q2,q3,q4,q5,q6,q7,q8,q9] #[x0,x1,x2,x3,x4]) (Bx.near _ _ _)).mono ?_;rintro e w1 ⟨rfl,hb1⟩;have n1:=Bx.old hb1;have r1:=Bx.r0 hb1)
        | (go_at_call 5;refine (CG.out _ n1).mono ?_;rintro e w2 ⟨rfl,hb2⟩;have nb2:=hb1.trans (hb2.mono hb1.size);have n2:=Bx.old nb2;have r2:=Bx.r0 nb2)
        | (go_at_call 6;refine (CK.out (by simp) _ n2).mono ?_;rintro e w3 ⟨rfl,hb3⟩;have n3:=Bx.old (nb2.trans (hb3.mono nb2.size)))
        | refine wpList_load_mid rfl 27 _ rfl w.heap.size 0 rfl [q0,q1,q2,q3,q4,q5,q6,q7,q8,q9] _ (by assumption) Tryz.underlying27 rfl Zgr ?_
        | refine Zdr (by rfl) 27 _ rfl w.heap.size 0 rfl [q0,q1,q2,q3,q4,q5,q6,q7,q8,q9] _ (by assumption) Tryz.underlying27 rfl Zgr ?_)
       go_ret;exact⟨rfl,n3⟩
     . have h3:(n:Int)<=at_:=by omega
       have e0:decide (at_<0)=false:=decide_eq_false h0;have e1:decide ((n:Int)<=at_)=true:=decide_eq_true h3;go_enter Tryz.func3,Tryz.ntmps3;go_wp2_with (first
        | (go_at_call 4;refine (CA.out (Bx w #[q0,q1,q2,q3,q4,q5,q6,q7,q8,q9] #[x0,x1,x2,x3,x4]) (Bx.near _ _ _)).mono ?_;rintro e w1 ⟨rfl,hb1⟩;have n1:=Bx.old hb1;have r1:=Bx.r0 hb1)
        | (go_at_call 5;refine (CG.out _ n1).mono ?_;rintro e w2 ⟨rfl,hb2⟩;have nb2:=hb1.trans (hb2.mono hb1.size);have n2:=Bx.old nb2;have r2:=Bx.r0 nb2)
        | (go_at_call 6;refine (CK.out (by simp) _ n2).mono ?_;rintro e w3 ⟨rfl,hb3⟩;have n3:=Bx.old (nb2.trans (hb3.mono nb2.size)))
        | refine wpList_load_mid rfl 27 _ rfl w.heap.size 0 rfl [q0,q1,q2,q3,q4,q5,q6,q7,q8,q9] _ (by assumption) Tryz.underlying27 rfl Zgr ?_
        | refine Zdr (by rfl) 27 _ rfl w.heap.size 0 rfl [q0,q1,q2,q3,q4,q5,q6,q7,q8,q9] _ (by assumption) Tryz.underlying27 rfl Zgr ?_)
       go_ret;exact⟨rfl,n3⟩
   . go_enter Tryz.func3,Tryz.ntmps3;go_wp2_with (first
      | (go_at_call 4;refine (CA.out (Bx w #[q0,q1,q2,q3,q4,q5,q6,q7,q8,q9] #[x0,x1,x2,x3,x4]) (Bx.near _ _ _)).mono ?_;rintro e w1 ⟨rfl,hb1⟩;have n1:=Bx.old hb1;have r1:=Bx.r0 hb1)
      | (go_at_call 5;refine (CG.out _ n1).mono ?_;rintro e w2 ⟨rfl,hb2⟩;have nb2:=hb1.trans (hb2.mono hb1.size);have n2:=Bx.old nb2;have r2:=Bx.r0 nb2)
      | (go_at_call 6;refine (CK.out (by simp) _ n2).mono ?_;rintro e w3 ⟨rfl,hb3⟩;have n3:=Bx.old (nb2.trans (hb3.mono nb2.size)))
      | refine wpList_load_mid rfl 27 _ rfl w.heap.size 0 rfl [q0,q1,q2,q3,q4,q5,q6,q7,q8,q9] _ (by assumption) Tryz.underlying27 rfl Zgr ?_
      | refine Zdr (by rfl) 27 _ rfl w.heap.size 0 rfl [q0,q1,q2,q3,q4,q5,q6,q7,q8,q9] _ (by assumption) Tryz.underlying27 rfl Zgr ?_)
     go_ret;exact⟨rfl,n3⟩
end Tj
