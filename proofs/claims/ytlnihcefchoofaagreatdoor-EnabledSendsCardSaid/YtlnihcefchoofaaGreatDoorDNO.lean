import Derived.Maps.RangeWalk
import Derived.Test.YtlnihcefchoofaaGreatDoorDHS
set_option linter.all false
namespace Tn
open Go Go.RowKit Go.Maps
abbrev Ch:=Int×Int×Int×Int×Int
def lookW(k:Int):List (Int×Int)->Option Int|[]=>none|(a,v)::r=>if a=k then some v else lookW k r
def setW(k v:Int):List (Int×Int)->List (Int×Int)|[]=>[(k,v)]|(a,u)::r=>if a=k then(k,v)::r else(a,u)::setW k v r
def Zad(k:Int):List (Int×Int)->List (Int×Int)|[]=>[]|(a,u)::r=>if a=k then r else(a,u)::Zad k r
def zer:Nat->List (Int×Int)|0=>[]|n+1=>setW n 0 (zer n)
def Za4:List Ch->List (Int×Int)->List (Int×Int)|[],W=>W|c::chs,W=>Za4 chs (setW c.2.2.1 (wrap64 ((lookW c.2.2.1 W).getD 0+1)) W)
def Zae(nx:Int):List Ch->List (Int×Int)->List (Int×Int)|[],W=>W|c::chs,W=>Zae nx chs (if c.1=nx then setW c.2.2.1 (wrap64 ((lookW c.2.2.1 W).getD 0-1)) W else W)
def Zcj:List (Int×Int)->Int|[]=>-1|(k,v)::r=>if v=0/\(Zcj r<0∨k<Zcj r)then k else Zcj r
def Zd0(chs:List Ch):Nat->List (Int×Int)->List Int->Option (List Int)
 |0,_,_=>none|n+1,W,out=>match W with
  |[]=>some out|p::W' => if Zcj (p::W')<0 then some out else Zd0 chs n (Zae (Zcj (p::W')) chs (Zad (Zcj (p::W')) (p::W'))) (out++[Zcj (p::W')])
structure MR(D:DataW Unit) (W:List (Int×Int)):Prop where
 tidy:Tidy D
 nd:(W.map (·.1)).Nodup
 has:∀k,has D (.int .i64 k)=(lookW k W).isSome
 at_:∀k v,lookW k W=some v -> ∀zd,D.atKey (.int .i64 k) zd = .lit (.int .i64 v)
 size:Maps.size D=W.length
theorem MR.empty:MR (.map []) []:=⟨tidy_empty,List.nodup_nil,λk=>rfl,λk v h=>(by cases h),rfl⟩
theorem Qf(k v:Int):∀(W:List (Int×Int)) (j:Int),lookW j (setW k v W)=if j=k then some v else lookW j W
 |[],j=>by simp only[setW,lookW];grind|(a,u)::r,j=>by
  simp only[setW];by_cases ha:a=k;subst ha;simp only[if_true,lookW];grind;rw[if_neg ha];simp only[lookW,Qf k v r j];grind
theorem Zqs(k v:Int):∀(W:List (Int×Int)) (j:Int),j∈(setW k v W).map (·.1)->j=k∨j∈W.map (·.1)
 |[],j,h=>by simpa[setW]using h|(a,u)::r,j,h=>by
  simp only[setW]at h;by_cases ha:a=k;grind;rw[if_neg ha]at h;simp only[List.map_cons,List.mem_cons]at h ⊢;rcases h with h|h
  grind;rcases Zqs k v r j h with h|h
  grind;grind
theorem Zid(k v:Int):∀(W:List (Int×Int)),(W.map (·.1)).Nodup->((setW k v W).map (·.1)).Nodup
 |[],_=>by simp[setW]|(a,u)::r,h=>by
  simp only[List.map_cons,List.nodup_cons]at h;simp only[setW];by_cases ha:a=k;grind;rw[if_neg ha];simp only[List.map_cons,List.nodup_cons];refine⟨λhm=>?_,Zid k v r h.2⟩;rcases Zqs k v r a hm with e|e
  grind;grind
theorem length_set(k v:Int):∀(W:List (Int×Int)),(setW k v W).length=if (lookW k W).isSome then W.length else W.length+1
 |[]=>rfl|(a,u)::r=>by
  by_cases ha:a=k;simp[setW,lookW,ha];have e1:setW k v ((a,u)::r)=(a,u)::setW k v r:=if_neg ha;have e2:lookW k ((a,u)::r)=lookW k r:=if_neg ha;rw[e1,e2,J0p,J0p,length_set k v r];grind
variable {D:DataW Unit}{W:List (Int×Int)}
theorem MR.set(h:MR D W)(k v:Int):MR (D.put (.int .i64 k) (.lit (.int .i64 v))) (setW k v W):=by
 have hk:WideAt.IsKeyLit (.int .i64 k):=trivial;refine⟨h.tidy.put hk _,Zid k v W h.nd,λj=>?_,λj u hj zd=>?_,?_⟩;rw[Qf];by_cases e:j=k;subst e;rw[has_put_same h.tidy.isMap hk];simp;rw[has_put_other (by grind),h.has j,if_neg e];rw[Qf]at hj;by_cases e:j=k;subst e;simp only[if_true,J0b]at hj;subst hj;exact atKey_put_same h.tidy.isMap hk _ _;rw[if_neg e]at hj;rw[atKey_put_other (by grind)];exact h.at_ j u hj zd;rw[size_put h.tidy,h.has k,length_set,h.size]
theorem Zd1(h:(W.map (·.1)).Nodup)(k j:Int):lookW j (Zad k W)=if j=k then none else lookW j W:=by
 induction W with
 |nil=>simp[Zad,lookW]|cons p r ih =>
  obtain⟨a,u⟩:=p;simp only[List.map_cons,List.nodup_cons]at h;have hnone:∀(r:List (Int×Int)) (x:Int),x ∉ r.map (·.1)->lookW x r=none:=by
   intro r x
   induction r with|nil=>intro _;rfl|cons q r ih2=>intro hx;simp only[List.map_cons,List.mem_cons,not_or]at hx;simp only[lookW];grind
  simp only[Zad];by_cases ha:a=k;subst ha;simp only[if_true,lookW];grind;rw[if_neg ha];simp only[lookW,ih h.2];grind
theorem Zr7(k:Int):∀(W:List (Int×Int)),((Zad k W).map (·.1)).Sublist (W.map (·.1))
 |[]=>List.Sublist.refl _|(a,u)::r=>by
  simp only[Zad];by_cases ha:a=k;grind;rw[if_neg ha];exact(Zr7 k r).cons_cons _
theorem length_drop(k:Int):∀(W:List (Int×Int)),(Zad k W).length+(if (lookW k W).isSome then 1 else 0)=W.length
 |[]=>rfl|(a,u)::r=>by
  by_cases ha:a=k;simp[Zad,lookW,ha];have e1:Zad k ((a,u)::r)=(a,u)::Zad k r:=if_neg ha;have e2:lookW k ((a,u)::r)=lookW k r:=if_neg ha;rw[e1,e2,J0p,J0p,<- length_drop k r];omega
theorem MR.drop(h:MR D W)(k:Int):MR (D.del (.int .i64 k)) (Zad k W):=by
 refine⟨h.tidy.del _,h.nd.sublist (Zr7 k W),λj=>?_,λj u hj zd=>?_,?_⟩;rw[Zd1 h.nd];by_cases e:j=k;subst e;rw[has_del_same];simp;rw[has_del_other (by grind),h.has j,if_neg e];rw[Zd1 h.nd]at hj;by_cases e:j=k;grind;rw[if_neg e]at hj;rw[atKey_del_other (by grind)];exact h.at_ j u hj zd;have h1:=size_del (k:=.int .i64 k) h.tidy;have h2:=length_drop k W;rw[h.has k,h.size]at h1;omega
def NX(W:List (Int×Int))(p:Int->Bool)(nx:Int):Prop:=(nx = -1 /\ ∀k,lookW k W=some 0->p k=false)∨(0<=nx/\lookW nx W=some 0/\p nx=true /\ ∀k,lookW k W=some 0->p k=true->nx<=k)
theorem NX.uniq{p:Int->Bool}{a b:Int}(ha:NX W p a)(hb:NX W p b):a=b:=by
 rcases ha with⟨rfl,h1⟩|⟨h0,h1,h2,h3⟩<;>rcases hb with⟨rfl,g1⟩|⟨g0,g1,g2,g3⟩
 rfl;grind;grind;grind
def Pos(W:List (Int×Int)):Prop:=∀k,(lookW k W).isSome=true->0<=k/\k<=1000
theorem NX.next:∀{W:List (Int×Int)},(W.map (·.1)).Nodup->Pos W->NX W (λ_=>true) (Zcj W)
 |[],_,_=>.inl ⟨rfl,λk h=>by cases h⟩|(a,v)::r,hn,hp=>by
  simp only[List.map_cons,List.nodup_cons]at hn;have hnone:∀(r:List (Int×Int)) (x:Int),x ∉ r.map (·.1)->lookW x r=none:=by
   intro r x
   induction r with|nil=>intro _;rfl|cons q r ih2=>intro hx;simp only[List.map_cons,List.mem_cons,not_or]at hx;simp only[lookW];grind
  have hp' : Pos r:=λk hk=>hp k (by simp only[lookW];grind);have ih:=NX.next hn.2 hp';have ha:0<=a:=(hp a (by simp[lookW])).1;have hla:∀k,lookW k ((a,v)::r)=if a=k then some v else lookW k r:=λk=>rfl
  have hane:∀k,lookW k r=some 0->a≠k:=λk hk e=>by grind
  simp only[Zcj];split;rename_i hc;obtain⟨rfl,hc⟩:=hc;refine .inr ⟨ha,by grind,rfl,λk hk _=>?_⟩;rw[hla]at hk;split at hk;grind;rcases ih with⟨e,h1⟩|⟨h0,h1,_,h3⟩
  grind;grind;rename_i hc;rcases ih with⟨e,h1⟩|⟨h0,h1,_,h3⟩
  refine .inl ⟨e,λk hk=>?_⟩;grind;refine .inr ⟨h0,by grind,rfl,λk hk _=>?_⟩;grind
end Tn
namespace Tn
open Go Go.RowKit Go.Maps
variable {D:DataW Unit}{W:List (Int×Int)}{k:Int}
theorem MR.val(h:MR D W){v: Int}(hv:D.atKey (.int .i64 k) (.lit (.int .i64 0)) = .lit (.int .i64 v)):v=(lookW k W).getD 0:=by
 cases hl:lookW k W with|none=>have hh:=h.has k;rw[hl]at hh;rw[atKey_of_not_has hh]at hv;grind|some u=>rw[h.at_ k u hl]at hv;grind
theorem MR.isVal(h:MR D W){c: Int}(hv:∀zd,D.atKey (.int .i64 k) zd = .lit (.int .i64 c)):lookW k W=some c:=by
 cases hl:lookW k W with|none=>have hh:=h.has k;rw[hl]at hh;have h1:=hv (.lit (.bool true));rw[atKey_of_not_has hh]at h1;cases h1|some u=>have h1:=hv (.lit (.int .i64 0));rw[h.at_ k u hl]at h1;grind
theorem Zxb(c:Ch):∀(l:List Ch) (W:List (Int×Int)),Za4 (l++[c]) W=setW c.2.2.1 (wrap64 ((lookW c.2.2.1 (Za4 l W)).getD 0+1)) (Za4 l W)|[],W=>rfl|x::l,W=>Zxb c l _
theorem Zxc(nx:Int)(c:Ch):∀(l:List Ch) (W:List (Int×Int)),Zae nx (l++[c]) W=if c.1=nx then setW c.2.2.1 (wrap64 ((lookW c.2.2.1 (Zae nx l W)).getD 0-1)) (Zae nx l W)else Zae nx l W|[],W=>rfl|x::l,W=>Zxc nx c l _
variable {j:Nat}
theorem Yci{chs:List Ch}{c:Ch}(h:chs[j]? = some c)(W:List (Int×Int)):Za4 (chs.take (j+1)) W=setW c.2.2.1 (wrap64 ((lookW c.2.2.1 (Za4 (chs.take j) W)).getD 0+1)) (Za4 (chs.take j) W):=by
 have e:chs.take (j+1)=chs.take j++[c]:=by rw[List.take_add_one,h];rfl
 rw[e,Zxb]
theorem Zxd{chs:List Ch}{c:Ch}(nx:Int)(h:chs[j]? = some c)(W:List (Int×Int)):Zae nx (chs.take (j+1)) W=if c.1=nx then setW c.2.2.1 (wrap64 ((lookW c.2.2.1 (Zae nx (chs.take j) W)).getD 0-1)) (Zae nx (chs.take j) W)else Zae nx (chs.take j) W:=by
 have e:chs.take (j+1)=chs.take j++[c]:=by rw[List.take_add_one,h];rfl
 rw[e,Zxc]
theorem Pos.set(h:Pos W)(hk:0<=k/\k<=1000)(v:Int):Pos (setW k v W):=λj hj=>by
 rw[Qf]at hj;by_cases e:j=k;grind;rw[if_neg e]at hj;exact h j hj
theorem Pos.zer:∀n,n<=1000->Pos (zer n)|0,_=>λk h=>by cases h|n+1,hn=>(Pos.zer n (by omega)).set ⟨Int.natCast_nonneg n,by omega⟩ 0
theorem Pos.incs:∀{chs:List Ch} {W:List (Int×Int)},(∀c∈chs,0<=c.2.2.1/\c.2.2.1<=1000)->Pos W->Pos (Za4 chs W)|[],W,_,h=>h|c::chs,W,hc,h=>Pos.incs (chs:=chs) (W:=setW c.2.2.1 (wrap64 ((lookW c.2.2.1 W).getD 0+1)) W) (λd hd=>hc d (List.mem_cons_of_mem _ hd)) (h.set (hc c (List.mem_cons_self ..)) _)
variable {nx:Int}
theorem Pos.decs:∀{chs:List Ch} {W:List (Int×Int)},(∀c∈chs,0<=c.2.2.1/\c.2.2.1<=1000)->Pos W->Pos (Zae nx chs W)
 |[],W,_,h=>h|c::chs,W,hc,h=>Pos.decs (chs:=chs) (W:=if c.1=nx then setW c.2.2.1 (wrap64 ((lookW c.2.2.1 W).getD 0-1)) W else W) (λd hd=>hc d (List.mem_cons_of_mem _ hd)) (by
  split;exact h.set (hc c (List.mem_cons_self ..)) _;grind)
theorem Pos.drop(hn:(W.map (·.1)).Nodup)(h:Pos W)(k:Int):Pos (Zad k W):=λj hj=>by
 rw[Zd1 hn]at hj;by_cases e:j=k;grind;rw[if_neg e]at hj;exact h j hj
variable {p:Int->Bool}
theorem NX.step{x c: Int}(hp:Pos W)(h:NX W p nx)(hx:lookW x W=some c) :
    NX W (λk=>p k||k==x) (if c=0/\(nx<0∨x<nx)then x else nx):=by
  have hx0:0<=x:=(hp x (by grind)).1;split;rename_i hc;obtain⟨rfl,hc⟩:=hc;refine .inr ⟨hx0,hx,by simp,λk hk hpk=>?_⟩;simp only[Bool.or_eq_true,beq_iff_eq]at hpk;rcases hpk with hpk|hpk
  rcases h with⟨e,h1⟩|⟨h0,h1,h2,h3⟩
  grind;grind;omega;rename_i hc;have hno:∀k,lookW k W=some 0->k=x->¬(nx<0∨x<nx):=λk hk e=>by grind
  rcases h with⟨rfl,h1⟩|⟨h0,h1,h2,h3⟩
  refine .inl ⟨rfl,λk hk=>?_⟩;grind;refine .inr ⟨h0,h1,by simp[h2],λk hk hpk=>?_⟩;grind
theorem NX.congr{q: Int->Bool}(h:NX W p nx)(hpq:∀k,(lookW k W).isSome=true->p k=q k):NX W q nx:=by
 rcases h with⟨e,h1⟩|⟨h0,h1,h2,h3⟩
 exact .inl ⟨e,λk hk=>by grind⟩;exact .inr ⟨h0,h1,by grind,λk hk hq=>h3 k hk (by grind)⟩
end Tn
namespace Tn
variable {m:Nat}{W:List (Int×Int)}{out r:List Int}
theorem Z82{chs:List Ch}(hW:W≠[])(hn:Zcj W<0)(h:Zd0 chs m W out=some r):out=r:=by
 cases m with
 |zero=>cases h|succ m=>cases W with
  |nil=>grind|cons p W=>simp only[Zd0,if_pos hn,J0b]at h;exact h
theorem Z83{chs:List Ch}(hW:W≠[])(hn:¬Zcj W<0)(h:Zd0 chs m W out=some r) :
    ∃m',m=m' + 1/\Zd0 chs m' (Zae (Zcj W) chs (Zad (Zcj W) W)) (out++[Zcj W])=some r:=by
  cases m with
  |zero=>cases h|succ m=>cases W with
   |nil=>grind|cons p W=>simp only[Zd0,if_neg hn]at h;grind
end Tn
namespace Tn
open Go Go.RowKit Go.Maps Go.Proofs
theorem law3:Keyed Tryz.prog 3:=int_keyed Tryz.underlying3
theorem Ytn(w:World):(zeroValue 3).run Tryz.prog w = .ok (.int .i64 0) w:=by kernel_rfl
def Yto(w:World)(a:Option Addr)(chs:List Ch):Prop:=∀(wr:World) (j:Nat) (c:Ch),Below w.heap.size w wr->chs[j]? = some c -> ∃b,a=some b /\
 wr.cell? (b.add (j*5))=some (.int .i64 c.1)/\wr.cell? ⟨(b.add (j*5)).block,(b.add (j*5)).off+1,none⟩=some (.int .i64 c.2.1)/\wr.cell? ⟨(b.add (j*5)).block,(b.add (j*5)).off+2,none⟩=some (.int .i64 c.2.2.1)/\wr.cell? ⟨(b.add (j*5)).block,(b.add (j*5)).off+3,none⟩=some (.int .i64 c.2.2.2.1)/\wr.cell? ⟨(b.add (j*5)).block,(b.add (j*5)).off+4,none⟩=some (.int .i64 c.2.2.2.2)
theorem Zqt{n:Int}(h1 : -1000000<=n)(h2:n<=1000000):(Lit.int .i64 n).wf=true:=by show(decide (IntKind.min .i64<=n)&&decide (n<=IntKind.max .i64))=true;rw[show IntKind.min .i64 = -9223372036854775808 from by decide,show IntKind.max .i64=9223372036854775807 from by decide,J0e];grind
def Ytp:Value->Nat|.slice _ n _=>n|_=>0
variable {n:Nat}{xs:List Value}
theorem Z84{w:World}{base base' e size: Nat}{v:Value}(h:w.ownsRow base e size v n xs)(hb:base' <= base):w.ownsRow base' e size v n xs:=by
 obtain⟨h1,h2⟩:=h;refine⟨h1,?_⟩;rcases h2 with h2|⟨g,cap,cur,a,b,c⟩
 grind;exact .inr ⟨g,cap,cur,a,by omega,c⟩
variable {g:Nat}
theorem Z85{w:World}{base e size: Nat}{v:Value}(h:w.ownsRow base e size v n xs)(hg:v.ownBlock=some g):base<=g:=by
 obtain⟨h1,h2⟩:=h;rcases h2 with⟨rfl,_⟩|⟨g',cap,cur,rfl,b,c⟩
 cases hg;simp only[Value.ownBlock,J0b]at hg;omega
theorem Z5a{w:World}{base e size: Nat}{v:Value}(h:w.ownsRow base e size v n xs):Ytp v=n:=by obtain⟨h1,h2⟩:=h;rcases h2 with⟨rfl,rfl⟩|⟨g',cap,cur,rfl,b,c⟩<;>rfl
theorem info3:∃i0,Tryz.prog.info? 3=some i0/\i0.zero=some (.int .i64 0)/\i0.size=1/\i0.bytes=8:=by
 have h:(Tryz.prog.info? 3).map (λi=>(i.zero,i.size,i.bytes))=some (some (.int .i64 0),1,8):=by kernel_rfl
 simp_all
variable {x:Value}{t:TypeId}
theorem Yi2{w:World}{j:Nat}{u:Value}(h:[x][j]? = some u):(w.alloc (.cells #[x] t)).cell? ((⟨w.heap.size,0,none⟩:Addr).add j)=some u:=by
 cases j with|zero=>simp only[J0q,J0b]at h;subst h;have hh:(w.alloc (.cells #[x] t)).heap[w.heap.size]? = some (.cells #[x] t):=heap_alloc_new w _;show World.cell? _ ⟨w.heap.size,0,none⟩=_;simp_all|succ j=>simp at h
variable {b:Nat}
theorem Yl1{w w5 w6:World}{row:Option Nat}{c v:Obj}(hg5:(w.alloc c).grownBy w5 row)(ht:w5.mapTurned w6 (b+1))(hr:some b≠row)(hb:b<w.heap.size)(hv:w.heap[b]? = some v):w6.heap[b]? = some v:=by
 have h5:w5.heap[b]? = some v:=by rw[hg5.block b (by simp;omega) hr,Below.heap_alloc _ _ _ hb];exact hv
 have hsz:=hg5.size;simp at hsz;rw[ht.grown.block b (by omega) (by simp)];exact h5
theorem Yl2{w:World}{y: Value}(h:w.heap[b]? = some (.cells #[x,y] t (0,0))):w.cell? ⟨b,1,none⟩=some y:=by simp[World.cell?,h]
theorem Yl3{w:World}{base e size: Nat}{v:Value}(h:w.ownsRow base e size v n xs)(hg:g<base):v.ownBlock=none∨v.ownBlock≠some g:=by
 by_cases hb:v.ownBlock=some g;have:=Z85 h hb;omega;grind
abbrev MapAt(wr:World)(b n:Nat)(W:List (Int×Int)):Prop:=∃D:DataW Unit,wr.ownsMap Tryz.prog 3 (plainElem (H:=Unit) Tryz.prog 3) b n D/\MR D W
set_option maxRecDepth 100000 in
set_option maxHeartbeats 2000000 in
theorem Z25(ao a2:Option Addr)(no co nc cc:Nat)(chs:List Ch)(w:World)(h1:no<=64)(h2:nc=chs.length)(h3:nc<=256)(hc:Yto w a2 chs)(hto:∀c∈chs,0<=c.2.2.1/\c.2.2.1<=1000)(r:List Int)
    (hr:Zd0 chs (no+nc+1) (Za4 chs (zer no)) []=some r) :
    Calls Tryz.prog 60 #[.agg #[.slice ao no co,.slice a2 nc cc]] w λe w' => ∃v,e = .returned v/\w'.ownsRow w.heap.size 3 1 v r.length (r.map (.int .i64))/\Below w.heap.size w w' := by
  have hmm:=@run_makeMap Tryz.prog;have HR:=Lib.hid hr;have H2:=Lib.hid h2;have HC:=Lib.hid hc;have HT:=Lib.hid hto;clear hr h2 hc hto;go_enter Tryz.func60,Tryz.ntmps60;go_wp2;go_loopw[17] (λi wr=>∃k:Nat,k<=no/\i = .int .i64 k/\MapAt wr (w.heap.size+1) k (zer k)/\Below w.heap.size w wr/\wr.heap[w.heap.size]? = some (.cells #[.slice ao no co,.slice a2 nc cc] 31 (0,0))/\w.heap.size+2<=wr.heap.size) (λi _=>no-(intOf i).toNat)
  case atStart => refine⟨0,Nat.zero_le _,rfl,⟨.map [],?_,MR.empty⟩,?_,?_,?_⟩;have:=World.ownsMap_made (H:=Unit) (w.alloc (.cells #[.slice ao no co,.slice a2 nc cc] 31)) Tryz.prog 3 (plainElem Tryz.prog 3);simp_all;refine Below.alloc (Below.alloc (Below.refl _ _) (Nat.le_refl _) _) ?_ _;simp;rw[Below.heap_alloc _ _ _ (by simp)];exact heap_alloc_new w _;simp
  case round =>
   obtain⟨k,hk,rfl,⟨D,hown,hmr⟩,hbw,hbx,hsz⟩:=hrel;have hkey:k<no->keyOf Tryz.prog 3 (.int .i64 k)=some (.int .i64 k):=λ_=>keyOf_int_mk Tryz.underlying3 (Zqt (by omega) (by omega));have hst:MR (D.put (.int .i64 k) (.lit (.int .i64 0))) (zer (k+1)):=hmr.set k 0;have HM:=Lib.hid hst;have HX:=Lib.hid hbx;have HN:=Lib.hid hmr;clear hst hmr hbx;by_cases hlt:k<no
   . go_wp2_with(first
      |(at_mapUpdate;refine wpList_mapUpdate_own _ rfl _ _ _ 203 rfl 3 3 law3 Tryz.underlying203 _ (w.heap.size+1) k _ rfl hown (by unfold maxLen;omega) _ _ _ rfl rfl (hkey hlt) _ [] (plainElem_int Tryz.underlying3 (by decide)) ?_;intro w1 hown1 hgrow1)|go_in)
     go_roundw
     case rel=>refine⟨k+1,by omega,by go_num,⟨_,hown1,HM.out⟩,hbw.grown hgrow1 (by omega) (λj hj=>by grind),?_,Nat.le_trans hsz hgrow1.size⟩;rw[hgrow1.block _ (by omega) (by simp)];exact HX.out
     case measure=>simp[intOf];omega
   . have hke:k=no:=by omega
     subst hke;have hx0:wr.cell? ⟨w.heap.size,0,none⟩=some (.slice ao k co):=by simp[World.cell?,HX.out]
     have hx1:wr.cell? ⟨w.heap.size,1,none⟩=some (.slice a2 nc cc):=by simp[World.cell?,HX.out]
     go_wp2;clear hkey hx0 hx1;have hs2:=HC.out;go_loopw[26] (λi w2=>∃j:Nat,j<=nc/\i = .int .i64 j/\MapAt w2 (w.heap.size+1) (k+j) (Za4 (chs.take j) (zer k))/\Below w.heap.size w w2/\w2.heap[w.heap.size]? = some (.cells #[.slice ao k co,.slice a2 nc cc] 31 (0,0))/\w.heap.size+2<=w2.heap.size) (λi _=>nc-(intOf i).toNat)
     case atStart=>exact⟨0,Nat.zero_le _,rfl,⟨D,hown,HN.out⟩,hbw,HX.out,hsz⟩
     case round =>
      obtain⟨j,hj,rfl,⟨D2,hown2,hmr2⟩,hbw2,hbx2,hsz2⟩:=hrel;have HX2:=Lib.hid hbx2;have HN2:=Lib.hid hmr2;clear hbx2 hmr2;by_cases hlt2:j<nc
      . obtain⟨c,hcj⟩:∃c,chs[j]? = some c:=⟨_,J0c (by rw[<- H2.out];grind)⟩;obtain⟨c1,c2,c3,c4,c5⟩:=c;obtain⟨b,rfl,G1,G2,G3,G4,G5⟩:=hs2 _ _ _ hbw2 hcj;simp only at G1 G2 G3 G4 G5;have HCJ:=Lib.hid hcj;clear hcj;have hto:=HT.out _ (J0j HCJ.out);have hkey2:keyOf Tryz.prog 3 (.int .i64 c3)=some (.int .i64 c3):=keyOf_int_mk Tryz.underlying3 (Zqt (by grind) (by grind));clear hto;go_wp2_with(first
         |(at_lookup;refine wpList_lookup_own_int _ rfl _ _ 203 rfl 3 3 .i64 law3 Tryz.underlying203 Tryz.underlying3 (Ytn _) (w.heap.size+1) (k+j) _ rfl (hown2.alloc _) _ _ rfl hkey2 ?_;intro v hat hwc;have HA:=Lib.hid hat;clear hat)|(at_mapUpdate;refine wpList_mapUpdate_own _ rfl _ _ _ 203 rfl 3 3 law3 Tryz.underlying203 _ (w.heap.size+1) (k+j) _ rfl (hown2.alloc _) (by unfold maxLen;omega) _ _ _ rfl rfl hkey2 _ [] (plainElem_int Tryz.underlying3 (wrap64_wf _)) ?_;intro w1 hown1 hgrow1)|go_in)
        go_roundw
        case rel => refine⟨j+1,by omega,by go_num,⟨_,hown1,?_⟩,?_,?_,?_⟩;rw[Yci HCJ.out,<- HN2.out.val HA.out];exact HN2.out.set _ _;exact(hbw2.alloc (by omega) _).grown hgrow1 (by simp;omega) (λj hj=>by grind);rw[hgrow1.block _ (by simp;omega) (by simp),Below.heap_alloc _ _ _ (by omega)];exact HX2.out;have:=hgrow1.size;simp at this;omega
        case measure=>simp[intOf];omega
      . have hje:j=nc:=by omega
        subst hje;have hx1:=(show wr.cell? ⟨w.heap.size,1,none⟩=some (.slice a2 j cc) by simp[World.cell?,HX2.out]);have HX1:=Lib.hid hx1;clear hx1;go_wp2;go_loopw[7] (λo w3=>∃(W:List (Int×Int)) (out:List Int) (m n:Nat),Zd0 chs m W out=some r/\out.length+m=k+j+1/\MapAt w3 (w.heap.size+1) n W/\n<=400+out.length*256/\Pos W/\w3.ownsRow (w.heap.size+2) 3 1 o out.length (out.map (.int .i64))/\Below w.heap.size w w3/\w3.heap[w.heap.size]? = some (.cells #[.slice ao k co,.slice a2 j cc] 31 (0,0))/\w.heap.size+2<=w3.heap.size) (λo _=>k+j+1-Ytp o)
        case atStart => refine⟨_,[],_,_,HR.out,by simp,⟨D2,hown2,?_⟩,by grind,?_,World.ownsRow_nil _ _ _ _,hbw2,HX2.out,hsz2⟩;have:=HN2.out;rw[H2.out,List.take_length]at this;grind;exact Pos.incs (λc hc=>HT.out c hc) (Pos.zer k (by omega))
        case round =>
         obtain⟨W,out,m,n,hord,hlen,⟨D3,hown3,hmr3⟩,hn3,hpos,hrow,hbw3,hbx3,hsz3⟩:=hrel;have hsz0:=hmr3.size;have HX3:=Lib.hid hbx3;have HR3:=Lib.hid hrow;clear hbx3 hrow;by_cases hW:W=[]
         . subst hW;obtain⟨m',rfl⟩:∃m',m=m' + 1:=by
            cases m with|zero=>cases hord|succ m=>grind
           obtain rfl:out=r:=J0a hord;simp only[List.length_nil]at hsz0;go_wp2_with(first
            |(at_len;refine wpList_len_own (H:=Unit) _ rfl _ 203 rfl 3 3 Tryz.underlying203 (plainElem Tryz.prog 3) (w.heap.size+1) n D3 rfl hown3 ?_)|go_in)
           go_ret;exact⟨_,rfl,Z84 HR3.out (by omega),hbw3⟩
         . have hwl:0<Maps.size D3:=by grind
           have hwl0:Maps.size D3≠0:=by omega
           clear hsz0;have HW:=Lib.hid hW;have HM3:=Lib.hid hmr3;have HO3:=Lib.hid hord;clear hW hmr3 hord;go_wp2_with(first
            |(at_len;refine wpList_len_own (H:=Unit) _ rfl _ 203 rfl 3 3 Tryz.underlying203 (plainElem Tryz.prog 3) (w.heap.size+1) n D3 rfl hown3 ?_)|(at_range;refine wpList_range_own _ rfl _ 203 rfl 3 3 law3 Tryz.underlying203 _ (w.heap.size+1) n _ rfl hown3 ?_;intro w0 hrg0 hg0 hs0)|go_in)
           go_frame;obtain⟨R,hR⟩:∃R,R=wr.heap.size:=⟨_,rfl⟩;rw[<- hR]at hrg0 hs0 ⊢;have HRz:=Lib.hid hR;clear hR;go_loopw[8] (λx w4=>∃(left:Lit->Bool) (cnt:Nat) (nx:Int),x = .int .i64 nx/\w4.ranges Tryz.prog 3 (plainElem Tryz.prog 3) (w.heap.size+1) R n D3 left cnt/\NX W (λz=>!left (.int .i64 z)) nx/\wr.grownBy w4 none) (λ_ w4=>w4.rangeLeft (w.heap.size+1) R)
           case atStart=>refine⟨_,_,-1,rfl,hrg0,.inl ⟨rfl,λz hz=>?_⟩,hg0⟩;have:=HM3.out.has z;simp_all
           case round =>
            obtain⟨left,cnt,nx,rfl,hrg,hnx,hgw⟩:=hrel;have HNX:=Lib.hid hnx;clear hnx;go_wp2_with(first
             |(at_next;refine wpList_next_ranges_ii _ rfl _ rfl 3 3 .i64 .i64 law3 Tryz.underlying3 Tryz.underlying3 (w.heap.size+1) R n _ _ _ rfl hrg ?_ ?_)|go_in)
            . intro _ hl0;have hnx:nx=Zcj W:=by refine NX.uniq (NX.congr HNX.out λz _=>?_) (NX.next HM3.out.nd hpos);simp_all
              clear hl0;have HNE:=Lib.hid hnx;clear hnx;have hmap:=hrg.owns;have hrow:=HR3.out.kept hgw (by cases Value.ownBlock _<;>simp);have hbw4:Below w.heap.size w wr:=hbw3.grown hgw (by omega) (λj hj=>by cases hj);have hbx4:=(hgw.block w.heap.size (by omega) (by simp)).trans HX3.out;have hsz4:w.heap.size+2<=wr.heap.size:=Nat.le_trans hsz3 hgw.size;have hrb:=λg hg=>Z85 HR3.out (g:=g) hg;have HROW:=Lib.hid hrow;have HX4:=Lib.hid hbx4;have HRB:=Lib.hid hrb;clear hrow hbx4 hrb;by_cases hneg:nx<0
              . go_wp2;go_ret;have:=Z82 HW.out (by rw[<- HNE.out];exact hneg) HO3.out;subst this;exact⟨_,rfl,Z84 HROW.out (by omega),hbw4⟩
              . obtain⟨m',rfl,hord'⟩:=Z83 HW.out (by rw[<- HNE.out];exact hneg) HO3.out;rw[<- HNE.out]at hord';have HO4:=Lib.hid hord';clear hord';have hnxs:0<=nx/\nx<=1000:=by
                 have:=NX.next HM3.out.nd hpos;rw[<- HNE.out]at this;rcases this with⟨e,_⟩|⟨_,e,_⟩
                 omega;exact hpos nx (by rw[e];rfl)
                have hkeyn:keyOf Tryz.prog 3 (.int .i64 nx)=some (.int .i64 nx):=keyOf_int_mk Tryz.underlying3 (Zqt (by omega) (by omega));obtain⟨i0,hi,hz0,hz1,hz2⟩:∃i0,Tryz.prog.info? 3=some i0/\i0.zero=some (.int .i64 0)/\i0.size=1/\i0.bytes=8:=info3;go_wp2_with(first
                 |(at_builtin;refine wpList_append_own _ rfl _ _ 23 rfl (w.heap.size+2) 3 i0 (.int .i64 0) 1 8 Tryz.underlying23 hi hz0 hz1 hz2 rfl (by decide) _ _ _ rfl (HROW.out.kept (World.grownBy_alloc _ _ none) (by cases Value.ownBlock _<;>simp)) ⟨wr.heap.size,0,none⟩ 1 1 [.int .i64 nx] rfl rfl (λj u hj=>Yi2 hj) (λx hx=>by simp at hx;subst hx;rfl) (by unfold maxLen;omega) (by omega) (by simp;omega) ?_;intro v5 w5 hrow5 hg5 hnil5)|(at_delete;refine wpList_delete_own _ rfl _ _ 203 3 rfl 3 law3 Tryz.underlying203 _ (w.heap.size+1) n _ rfl ((hmap.alloc _).kept hg5 (λe=>by have:=HRB.out _ e.symm;omega)) _ _ rfl hkeyn ?_;intro w6 hown6 hturn6;have HBX6:=Lib.hid (Yl1 hg5 hturn6 (λe=>by have:=HRB.out _ e.symm;omega) (by omega) HX4.out);have hx6:=Yl2 HBX6.out)|go_in)
                clear hx6;have hgw5:=hg5.size;have hgw6:=hturn6.grown.size;simp only[World.size_alloc]at hgw5;have hbw6:Below w.heap.size w w6:=((hbw4.alloc (by omega) _).grown hg5 (by simp;omega) (λj hj=>by have:=HRB.out _ hj;omega)).grown hturn6.grown (by omega) (λj hj=>by cases hj;omega);have hrow6:=hrow5.kept hturn6.grown (Yl3 hrow5 (by omega));have hmr6:=HM3.out.drop nx;have HM6:=Lib.hid hmr6;have HR6:=Lib.hid hrow6;have HG5:=Lib.hid hrow5;have hlv:=Z5a hrow5;clear hmr6 hrow6 hrow5 hnil5;go_loopw[69] (λi w7=>∃q:Nat,q<=j/\i = .int .i64 q/\MapAt w7 (w.heap.size+1) (n+q) (Zae nx (chs.take q) (Zad nx W))/\w7.ownsRow (w.heap.size+2) 3 1 v5 (out.length+1) (out.map (.int .i64)++[.int .i64 nx])/\Below w.heap.size w w7/\w7.heap[w.heap.size]? = some (.cells #[.slice ao k co,.slice a2 j cc] 31 (0,0))/\w.heap.size+2<=w7.heap.size) (λi _=>j-(intOf i).toNat)
                case atStart=>exact⟨0,Nat.zero_le _,rfl,⟨_,hown6,HM6.out⟩,HR6.out,hbw6,HBX6.out,by omega⟩
                case round =>
                 obtain⟨q,hq,rfl,⟨D7,hown7,hmr7⟩,hrow7,hbw7,hbx7,hsz7⟩:=hrel;have HX7:=Lib.hid hbx7;have HN7:=Lib.hid hmr7;have HR7:=Lib.hid hrow7;clear hbx7 hmr7 hrow7;by_cases hlt7:q<j
                 . obtain⟨c,hcj⟩:∃c,chs[q]? = some c:=⟨_,J0c (by rw[<- H2.out];exact hlt7)⟩;obtain⟨c1,c2,c3,c4,c5⟩:=c;obtain⟨b,rfl,G1,G2,G3,G4,G5⟩:=HC.out _ _ _ hbw7 hcj;simp only at G1 G2 G3 G4 G5;have HCJ:=Lib.hid hcj;have hto:=HT.out _ (J0j hcj);have hkey7:keyOf Tryz.prog 3 (.int .i64 c3)=some (.int .i64 c3):=keyOf_int_mk Tryz.underlying3 (Zqt (by have:=hto.1;simp only at this;omega) (by have:=hto.2;simp only at this;omega));clear hcj hto;by_cases hcn:nx=c1
                   . subst hcn;go_wp2_with(first
                      |(at_lookup;refine wpList_lookup_own_int _ rfl _ _ 203 rfl 3 3 .i64 law3 Tryz.underlying203 Tryz.underlying3 (Ytn _) (w.heap.size+1) (n+q) _ rfl (hown7.alloc _) _ _ rfl hkey7 ?_;intro v hat hwc;have HA:=Lib.hid hat;clear hat)|(at_mapUpdate;refine wpList_mapUpdate_own _ rfl _ _ _ 203 rfl 3 3 law3 Tryz.underlying203 _ (w.heap.size+1) (n+q) _ rfl (hown7.alloc _) (by unfold maxLen;omega) _ _ _ rfl rfl hkey7 _ [] (plainElem_int Tryz.underlying3 (wrap64_wf _)) ?_;intro w8 hown8 hgrow8)|go_in)
                     go_roundw
                     case rel => refine⟨q+1,by omega,by go_num,⟨_,hown8,?_⟩,?_,?_,?_,?_⟩;rw[Zxd _ HCJ.out,if_pos rfl,<- HN7.out.val HA.out];exact HN7.out.set _ _;exact(HR7.out.kept (World.grownBy_alloc _ _ none) (by cases Value.ownBlock _<;>simp)).kept hgrow8 (Yl3 HR7.out (by omega));exact(hbw7.alloc (by omega) _).grown hgrow8 (by simp;omega) (λj hj=>by cases hj;omega);rw[hgrow8.block _ (by simp;omega) (by simp),Below.heap_alloc _ _ _ (by omega)];exact HX7.out;have:=hgrow8.size;simp at this;omega
                     case measure=>simp[intOf];omega
                   . have hcb:(c1==nx)=false:=by simpa using λe=>hcn e.symm
                     go_wp2;go_roundw
                     case rel => refine⟨q+1,by omega,by go_num,⟨_,(hown7.alloc _).mono (by omega),?_⟩,?_,?_,?_,?_⟩;rw[Zxd _ HCJ.out,if_neg (λe=>hcn e.symm)];exact HN7.out;exact HR7.out.kept (World.grownBy_alloc _ _ none) (by cases Value.ownBlock _<;>simp);exact hbw7.alloc (by omega) _;rw[Below.heap_alloc _ _ _ (by omega)];exact HX7.out;simp;omega
                     case measure=>simp[intOf];omega
                 . have hqe:q=j:=by omega
                   subst hqe;go_wp2;go_roundw
                   case rel => refine⟨_,out++[nx],m',n+q,HO4.out,by simp;omega,⟨D7,hown7,?_⟩,by simp;omega,?_,?_,hbw7,HX7.out,hsz7⟩;have:=HN7.out;rw[H2.out,List.take_length]at this;exact this;exact Pos.decs (λc hc=>HT.out c hc) (hpos.drop HM3.out.nd nx);have:=HR7.out;simp_all
                   case measure=>have h7:=Z5a HR7.out;have h8:=Z5a HR3.out;simp;omega
            . intro x c w1 cnt1 hwx hwc hlx hat hrg1 hlt1 hg1 hs1 hen;have hgw1:=hgw.andThen hg1 (λj hj=>by cases hj;rw[HRz.out];simp_all);have hlw:=HM3.out.isVal hat;have hstep:=NX.step hpos HNX.out hlw;have HST:NX W (λz=>!(left (.int .i64 z) && !Lit.sameKey (.int .i64 z) (.int .i64 x))) (if c=0/\(nx<0∨x<nx)then x else nx):=by
               refine NX.congr hstep λz _=>?_;by_cases e:z=x;subst e;simp[Lit.sameKey];have:Lit.sameKey (.int .i64 z) (.int .i64 x)=false:=sameKey_ne (by simp_all);simp_all
              have HS:=Lib.hid HST;clear HST hstep hlw hat hlx hwx hwc;by_cases hc0:c=0
              . subst hc0;by_cases hn0:nx<0
                . go_wp2;all_goals
                   go_roundw
                   case rel=>exact⟨_,cnt1,_,rfl,hrg1,by have:=HS.out;simp_all,hgw1⟩
                   case measure=>rw[hrg1.left_eq,hrg.left_eq];exact hlt1
                . by_cases hn1:x<nx
                  . go_wp2;all_goals
                     go_roundw
                     case rel=>exact⟨_,cnt1,_,rfl,hrg1,by have:=HS.out;simp_all,hgw1⟩
                     case measure=>rw[hrg1.left_eq,hrg.left_eq];exact hlt1
                  . go_wp2;all_goals
                     go_roundw
                     case rel=>exact⟨_,cnt1,_,rfl,hrg1,by have:=HS.out;rw[if_neg (by omega)]at this;exact this,hgw1⟩
                     case measure=>rw[hrg1.left_eq,hrg.left_eq];exact hlt1
              . have hcb:(c==0)=false:=by simp_all
                go_wp2;all_goals
                 go_roundw
                 case rel=>exact⟨_,cnt1,_,rfl,hrg1,by have:=HS.out;simp_all,hgw1⟩
                 case measure=>rw[hrg1.left_eq,hrg.left_eq];exact hlt1
end Tn
namespace Tg
open Go Go.RowKit Tn
inductive Pth(E:List Ch):Int->Int->Prop|one (c:Ch) (h:c∈E):Pth E c.1 c.2.2.1|step (a:Int) (c:Ch) (p:Pth E a c.1) (h:c∈E):Pth E a c.2.2.1
variable {E:List Ch}{a b:Int}
theorem Pth.trans{c: Int}(h1:Pth E a b)(h2:Pth E b c):Pth E a c:=by
 induction h2 with|one x h=>exact .step a x h1 h|step b x p h ih=>exact .step a x (ih h1) h
theorem least(hE:∀x,¬Pth E x x):∀(n:Nat) (R:List Int),R.length<=n->R≠[] -> ∃m∈R,∀z∈R,¬Pth E z m:=by
 intro n
 induction n with
 |zero=>grind|succ n ih =>
  intro R h h0;cases R with
  |nil=>grind|cons x R =>
   by_cases hx:∃y∈R,Pth E y x;have hdec:∀y,Decidable (Pth E y x):=λy=>Classical.propDecidable _;let S:=R.filter λy=>@decide (Pth E y x) (hdec y);have hS:S≠[]:=by obtain⟨y,hy,hp⟩:=hx;have:y∈S:=List.mem_filter.2 ⟨hy,by grind⟩;grind
   have hl:S.length<=n:=by grind
   obtain⟨m,hm,hmin⟩:=ih S hl hS;obtain⟨hmR,hmx⟩:=List.mem_filter.1 hm;have hmx:Pth E m x:=by grind
   refine⟨m,by grind,λz hz hzm=>?_⟩;rcases List.mem_cons.1 hz with rfl|hz
   exact hE z (hzm.trans hmx);exact hmin z (List.mem_filter.2 ⟨hz,by simpa using hzm.trans hmx⟩) hzm;simp_all
theorem w64'{x:Int}(h1 : -9223372036854775808<=x)(h2:x<=9223372036854775807):RowKit.wrap64 x=x:=Go.IntWalk.wrap64_in x ⟨h1,h2⟩
def cntW(E:List Ch)(R:List Int)(k:Int):Nat:=(E.filter λc=>decide (c.2.2.1=k)&&R.contains c.1).length
theorem Yr8(E:List Ch)(R:List Int)(k:Int):cntW E R k<=E.length:=List.length_filter_le _ _
def keys(W:List (Int×Int)):List Int:=W.map (·.1)
theorem Z5{W:List (Int×Int)}(k:Int):(lookW k W).isSome=true↔k∈keys W:=by
 induction W with|nil=>simp[lookW,keys]|cons p W ih=>grind[lookW,keys]
structure Inv(E:List Ch) (W:List (Int×Int)):Prop where
 nd:(keys W).Nodup
 cnt:∀k∈keys W,lookW k W=some (cntW E (keys W) k:Int)
 cl:∀c∈E,c.1∈keys W->c.2.2.1∈keys W
 pos:Pos W
def outW(nx k:Int)(l:List Ch):Nat:=(l.filter λc=>decide (c.2.2.1=k)&&decide (c.1=nx)).length
theorem Z26(nx k:Int)(c:Ch)(l:List Ch):outW nx k (c::l)=(if c.2.2.1=k/\c.1=nx then 1 else 0)+outW nx k l:=by unfold outW;grind
theorem Zr8(nx:Int):∀(l:List Ch) (W:List (Int×Int)),(∀c∈l,c.1=nx->c.2.2.1∈keys W)->(∀k v,lookW k W=some v -> -1000000+(l.length:Int)<=v/\v<=1000000) ->
    ∀k,lookW k (Zae nx l W)=(lookW k W).map λv=>v-(outW nx k l:Int)
  |[],W,_,_,k=>by
   rw[Zae];cases lookW k W with|none=>rfl|some v=>simp[outW]
  |c::l,W,hk,hb,k=>by
   rw[Zae];by_cases hc:c.1=nx;rw[if_pos hc];have hm:=hk c (by simp) hc;obtain⟨v,hv⟩:=Option.isSome_iff_exists.1 ((Z5 c.2.2.1).2 hm);obtain⟨b1,b2⟩:=hb _ v hv;simp only[J0p]at b1;rw[hv,Option.getD_some,w64' (by omega) (by omega)];rw[Zr8 nx l (setW c.2.2.1 (v-1) W) (λd hd hn=>by rw[<- Z5,Qf];grind[Z5]) (λj u hu=>by grind[Qf]) k];grind[Qf,Z26];rw[if_neg hc,Zr8 nx l W (λd hd hn=>hk d (by simp[hd]) hn) (λj u hu=>by grind) k,Z26,if_neg (λh=>hc h.2)];simp
def toW(k:Int)(l:List Ch):Nat:=(l.filter λc=>decide (c.2.2.1=k)).length
theorem Yl4(k:Int)(c:Ch)(l:List Ch):toW k (c::l)=(if c.2.2.1=k then 1 else 0)+toW k l:=by unfold toW;grind
theorem Z27:∀(l:List Ch) (W:List (Int×Int)),(∀c∈l,c.2.2.1∈keys W)->(∀k v,lookW k W=some v->0<=v/\v+(l.length:Int)<=1000000) ->
    ∀k,lookW k (Za4 l W)=(lookW k W).map λv=>v+(toW k l:Int)
  |[],W,_,_,k=>by
   rw[Za4];cases lookW k W with|none=>rfl|some v=>simp[toW]
  |c::l,W,hk,hb,k=>by rw[Za4];obtain⟨v,hv⟩:=Option.isSome_iff_exists.1 ((Z5 c.2.2.1).2 (hk c (by simp)));obtain⟨b1,b2⟩:=hb _ v hv;simp only[J0p]at b2;rw[hv,Option.getD_some,w64' (by omega) (by omega)];rw[Z27 l (setW c.2.2.1 (v+1) W) (λd hd=>by rw[<- Z5,Qf];grind[Z5]) (λj u hu=>by grind[Qf]) k];grind[Qf,Yl4]
theorem Zxe(nx:Int):∀(l:List Ch) (W:List (Int×Int)),(keys W).Nodup->(keys (Zae nx l W)).Nodup
 |[],W,h=>h|c::l,W,h=>by
  rw[Zae];apply Zxe nx l;split;exact Zid _ _ _ h;grind
theorem Zxf:∀(l:List Ch) (W:List (Int×Int)),(keys W).Nodup->(keys (Za4 l W)).Nodup|[],W,h=>h|c::l,W,h=>by rw[Za4];exact Zxf l _ (Zid _ _ _ h)
theorem Yi3(E:List Ch)(R S:List Int)(nx k:Int)(h:∀x,x∈R↔x=nx∨x∈S)(hn:nx ∉ S):cntW E R k=cntW E S k+outW nx k E:=by
 unfold cntW outW
 induction E with|nil=>rfl|cons c E ih=>grind
variable {R:List Int}{k:Int}
theorem Yl5(h:cntW E R k=0){c:Ch}(hc:c∈E)(h1:c.2.2.1=k):c.1 ∉ R:=by intro h2;have:c∈E.filter λc=>decide (c.2.2.1=k)&&R.contains c.1:=List.mem_filter.2 ⟨hc,by grind⟩;have h3:E.filter (λc=>decide (c.2.2.1=k)&&R.contains c.1)=[]:=List.length_eq_zero_iff.1 h;grind
theorem Yr9(h:cntW E R k≠0):∃c∈E,c.2.2.1=k/\c.1∈R:=by unfold cntW at h;simp_all
theorem Yvp(hcl:∀c∈E,c.1∈R->c.2.2.1∈R)(h:Pth E a b)(ha:a∈R):b∈R:=by
 induction h with|one c h=>grind|step a c p h ih=>grind
theorem Yl6(h:Pth E a b):∃c∈E,c.2.2.1=b/\(c.1=a∨Pth E a c.1):=by
 cases h with|one c h=>grind|step a c p h=>grind
theorem kahn(hE:E.length<=1000):∀(m:Nat) (W:List (Int×Int)) (out:List Int),W.length<m->Inv E W ->
    ∃r,Zd0 E m W out=some r/\r.length<=out.length+W.length/\(r.length=out.length+W.length ↔ ∀x∈keys W,¬Pth E x x):=by
  intro m
  induction m with
  |zero=>grind|succ m ih =>
   intro W out hm hI;cases W with
   |nil=>exact⟨out,rfl,by simp,by simp[keys]⟩|cons p W' =>
    generalize hW:p::W' = W at hm hI;have hne:W≠[]:=by grind
    have hkne:keys W≠[]:=by grind[keys]
    have hdef:Zd0 E (m+1) W out=if Zcj W<0 then some out else Zd0 E m (Zae (Zcj W) E (Zad (Zcj W) W)) (out++[Zcj W]):=by rw[<- hW];rfl
    have hlen:W.length=W'.length+1:=by grind
    rcases NX.next hI.nd hI.pos with⟨h0,h1⟩|⟨h0,h1,_,_⟩
    rw[hdef,if_pos (by omega)];refine⟨out,rfl,by omega,?_⟩;constructor;grind;intro h;exfalso
    -- without circles there is a least one
    have hR:∀x,¬Pth (E.filter λc=>(keys W).contains c.1) x x:=λx hx=>by
     have hsub:∀a b,Pth (E.filter λc=>(keys W).contains c.1) a b->Pth E a b/\a∈keys W:=by
      intro a b hp
      induction hp with|one c hc=>obtain⟨g1,g2⟩:=List.mem_filter.1 hc;exact⟨.one c g1,by grind⟩|step a c p hc ih2=>exact⟨.step a c ih2.1 (List.mem_filter.1 hc).1,ih2.2⟩
     grind
    obtain⟨k,hk,hmin⟩:=least hR _ (keys W) (Nat.le_refl _) hkne;have hc:=hI.cnt k hk;by_cases hz:cntW E (keys W) k=0;grind;obtain⟨c,g1,g2,g3⟩:=Yr9 hz;refine hmin c.1 g3 ?_;rw[<- g2];exact .one c (List.mem_filter.2 ⟨g1,by grind⟩);rw[hdef,if_neg (by omega)];generalize hnx:Zcj W=nx at h0 h1;have hkn:nx∈keys W:=(Z5 nx).1 (by grind);have hcz:cntW E (keys W) nx=0:=by have:=hI.cnt nx hkn;grind
    have hself:∀c∈E,c.2.2.1=nx->c.1 ∉ keys W:=λc hc h=>Yl5 hcz hc h;have hmem:∀x,x∈keys (Zad nx W)↔x≠nx/\x∈keys W:=λx=>by rw[<- Z5,Zd1 hI.nd];grind[Z5]
    have hout:∀c∈E,c.1=nx->c.2.2.1∈keys (Zad nx W):=λc hc h=>by rw[hmem];refine⟨λe=>hself c hc e (by grind),hI.cl c hc (by grind)⟩
    have hlook:=Zr8 nx E (Zad nx W) hout (λk v hv=>by
     rw[Zd1 hI.nd]at hv;split at hv;cases hv;have hk:k∈keys W:=(Z5 k).1 (by grind);have:=hI.cnt k hk;grind[Yr8])
    have hkeys:∀x,x∈keys (Zae nx E (Zad nx W))↔x≠nx/\x∈keys W:=λx=>by rw[<- Z5,hlook,<- hmem,<- Z5];grind
    have hInd:(keys (Zae nx E (Zad nx W))).Nodup:=Zxe nx E _ (List.Nodup.sublist (Zr7 nx W) hI.nd);have hlenD:(Zae nx E (Zad nx W)).length+1=W.length:=by
     have e1:(keys W).Perm (nx::keys (Zae nx E (Zad nx W))):=by refine(List.perm_ext_iff_of_nodup hI.nd (List.nodup_cons.2 ⟨λh=>((hkeys nx).1 h).1 rfl,hInd⟩)).2 λx=>?_;grind
     have:=e1.length_eq;grind[keys]
    have hI2:Inv E (Zae nx E (Zad nx W)):=by
     refine⟨hInd,λk hk=>?_,λc hc h=>?_,λk hk=>?_⟩;obtain⟨g1,g2⟩:=(hkeys k).1 hk;rw[hlook,Zd1 hI.nd,if_neg g1,hI.cnt k g2];simp only[Option.map_some,J0b];grind[Yi3];obtain⟨g1,g2⟩:=(hkeys c.1).1 h;exact(hkeys _).2 ⟨λe=>hself c hc e g2,hI.cl c hc g2⟩;have:=(hkeys k).1 ((Z5 k).1 hk);exact hI.pos k ((Z5 k).2 this.2)
    obtain⟨r,hr1,hr2,hr3⟩:=ih (Zae nx E (Zad nx W)) (out++[nx]) (by omega) hI2;refine⟨r,hr1,by grind,?_⟩;rw[J0s]at hr3;simp only[J0p,List.length_nil]at hr3;rw[show out.length+W.length=out.length+(0+1)+(Zae nx E (Zad nx W)).length by omega,hr3];constructor;intro h x hx hp;by_cases e:x=nx;subst e;obtain⟨c,g1,g2,g3⟩:=Yl6 hp;refine hself c g1 g2 ?_;rcases g3 with g3|g3
    grind;exact Yvp hI.cl g3 hx;grind;grind
theorem Zlh:∀(n:Nat) (k:Int),lookW k (zer n)=if 0<=k/\k<n then some 0 else none|0,k=>by rw[zer,if_neg (by omega)];rfl|n+1,k=>by rw[zer,Qf,Zlh n k];grind
theorem Z28:∀n,(keys (zer n)).Nodup|0=>List.nodup_nil|n+1=>Zid _ _ _ (Z28 n)
theorem Ygt:∀n,(zer n).length=n
 |0=>rfl|n+1=>by
  have e:lookW (n:Int) (zer n)=none:=by grind[Zlh]
  rw[zer,length_set,e,Ygt n];rfl
theorem Z86:∀(l:List Ch) (W:List (Int×Int)),(∀c∈l,c.2.2.1∈keys W)->(Za4 l W).length=W.length|[],W,_=>rfl|c::l,W,h=>by rw[Za4,Z86 l _ (λd hd=>by rw[<- Z5,Qf];grind[Z5]),length_set,if_pos ((Z5 _).2 (h c (by simp)))]
theorem Yi4(n:Nat)(E:List Ch)(hn:n<=1000)(hE:E.length<=1000)(h:∀c∈E,0<=c.1/\c.1<n/\0<=c.2.2.1/\c.2.2.1<n)(m:Nat)(hm:n<m) :
    ∃r,Zd0 E m (Za4 E (zer n)) []=some r/\(r.length=n ↔ ∀x:Int,0<=x->x<n->¬Pth E x x):=by
  have hz:∀k,k∈keys (zer n)↔0<=k/\k<n:=λk=>by rw[<- Z5,Zlh];grind
  have hto:∀c∈E,c.2.2.1∈keys (zer n):=λc hc=>(hz _).2 ⟨(h c hc).2.2.1,(h c hc).2.2.2⟩;have hlook:=Z27 E (zer n) hto (λk v hv=>by grind[Zlh]);have hk:∀k,k∈keys (Za4 E (zer n))↔0<=k/\k<n:=λk=>by rw[<- Z5,hlook,<- hz,<- Z5];grind
  have hlen:(Za4 E (zer n)).length=n:=by grind[Z86,Ygt]
  have hI:Inv E (Za4 E (zer n)):=by
   refine⟨Zxf E _ (Z28 n),λk hk1=>?_,λc hc _=>(hk _).2 ⟨(h c hc).2.2.1,(h c hc).2.2.2⟩,λk hk1=>?_⟩;grind[Zlh,toW,cntW,List.filter_congr];grind[Z5]
  obtain⟨r,h1,h2,h3⟩:=kahn hE m (Za4 E (zer n)) [] (by omega) hI;grind
end Tg
namespace Tn
open Go Go.Abs Go.RowKit Go.Maps Go.Proofs Go.Hand
def Z5b:List (List PV)->Option (List (Int×Unit))
 |[]=>some []|[.int .i64 n]::l=>match Z5b l with|some r=>some ((n,())::r)|none=>none
 |_::_=>none
def Ygu:List (List PV)->Option (List Ch)
 |[]=>some []|[.int .i64 a,.int .i64 b,.int .i64 c,.int .i64 d,.int .i64 e]::l=>match Ygu l with|some r=>some ((a,b,c,d,e)::r)|none=>none
 |_::_=>none
def Zr9(es:List (List PV)):Option (List RA):=match Z5b es with
 |some l=>match l.all (λx=>Tg.in64 x.1)&&Nat.ble es.length 1000000 with
  |true=>some [.c (.c (.int .i64 (Int.ofNat (Tg.Zfc l []).length)))]|false=>none
 |none=>none
def Ycj(ops chs:List (List PV)):Option (List RA):=match Ygu chs with
 |some ch=>match ch.all (λc=>decide (0<=c.2.2.1)&&decide (c.2.2.1<=1000))&&(Nat.ble ops.length 64&&(Nat.ble chs.length 256&&Nat.blt 0 chs.length))with
  |true=>match Zd0 ch (ops.length+chs.length+1) (Za4 ch (zer ops.length)) []with
   |some l=>some [.c (.s 3 1 (l.map λn=>[.int .i64 n]))]|none=>none
  |false=>none
 |none=>none
def tabC:List (FuncId×Nat×Nat×Nat×List AV):=[
 (91,173,5,40,[.p (.int .u8 0),.p (.int .i64 0),.p (.int .i64 0),.p (.int .i64 0),.p (.int .i64 0)]),
 (92,3,1,8,[.p (.int .i64 0)]),
 (66,64,2,32,[.p (.int .i64 0),.nil]),
 (67,111,10,80,[.p (.int .u8 0),.p (.int .i64 0),.p (.int .i64 0),.p (.int .i64 0),.p (.int .i64 0),.p (.int .i64 0),.p (.int .i64 0),.p (.int .i64 0),.p (.int .i64 0),.p (.int .i64 0)]),
 (68,56,9,168,[.p (.int .u8 0),.p (.int .i64 0),.p (.int .i64 0),.nil,.nil,.nil,.nil,.nil,.nil]),
 (72,80,5,40,[.p (.bool false),.p (.int .i64 0),.p (.int .i64 0),.p (.int .i64 0),.p (.int .i64 0)]),
 (74,125,11,88,[.p (.int .i64 0),.p (.int .u8 0),.p (.int .i64 0),.p (.int .i64 0),.p (.int .i64 0),.p (.int .i64 0),.p (.int .i64 0),.p (.int .i64 0),.p (.int .i64 0),.p (.int .i64 0),.p (.int .i64 0)]),
 (75,2,1,8,[.p (.int .i64 0)]),
 (76,152,11,88,[.p (.int .i64 0),.p (.int .i64 0),.p (.int .i64 0),.p (.int .i64 0),.p (.int .i64 0),.p (.int .i64 0),.p (.int .i64 0),.p (.int .i64 0),.p (.int .i64 0),.p (.int .i64 0),.p (.int .i64 0)]),
 (77,109,5,40,[.p (.int .i64 0),.p (.int .i64 0),.p (.int .i64 0),.p (.int .i64 0),.p (.int .i64 0)]),
 (78,78,3,24,[.p (.int .i64 0),.p (.int .i64 0),.p (.int .i64 0)]),
 (262,106,2,16,[.p (.int .i64 0),.p (.int .i64 0)])]
def Zu1(f:FuncId)(es:List (List PV)):List (FuncId×Nat×Nat×Nat×List AV)->Option (List RA)
 |[]=>none|q::r=>match Nat.beq q.1 f with
  |true=>match es.all (λx=>Nat.beq x.length q.2.2.1)&&(Nat.ble (es.length*q.2.2.2.1) Zx&&Nat.ble es.length maxLen)with
   |true=>some [.c (.s q.2.1 q.2.2.1 es)]|false=>none
  |false=>Zu1 f es r
def K0(f:FuncId)(pas:List PA):Option (List RA) :=
 match pas with
 |[.c (.sl es)]=>match Nat.beq f 179 with
  |true=>Zr9 es|false=>Zu1 f es tabC
 |[.a [.sl ops,.sl chs]]=>match Nat.beq f 60 with
  |true=>Ycj ops chs|false=>none
 |[.c (.str s),.c (.int .u8 c)]=>match Nat.beq f 270 with
  |true=>some [.c (.c (.int .i64 (Lib.indexByte s c.toNat.toUInt8)))]|false=>none
 |_=>none
theorem Ysa:∀q∈tabC,Z0 Tryz.prog q.1=some (Zp6 q.2.1 q.2.2.1 q.2.2.2.1 q.2.2.2.2)/\q.2.2.2.2.length=q.2.2.1/\0<q.2.2.1:=by
 intro q hq;simp only[tabC,List.mem_cons,List.not_mem_nil,or_false]at hq;rcases hq with rfl|rfl|rfl|rfl|rfl|rfl|rfl|rfl|rfl|rfl|rfl|rfl
 all_goals exact⟨by kernel_rfl,rfl,by decide⟩
variable {es:List (List PV)}
theorem Yck{size:Nat}(h:es.all (λx=>Nat.beq x.length size)=true):Zn size (es.map (·.map AV.p))=true:=by simp only[Zn,List.all_map,List.all_eq_true]at h ⊢;intro x hx;have:=h x hx;simp only[Function.comp_apply,List.length_map,J0e,List.all_eq_true,List.mem_map,forall_exists_index,and_imp,forall_apply_eq_imp_iff₂];exact⟨by simpa using this,λa _=>rfl⟩
theorem Zoj{f:FuncId}{es:List (List PV)}{rs:List RA}:∀{l:List (FuncId×Nat×Nat×Nat×List AV)},(∀q∈l,q∈tabC)->Zu1 f es l=some rs->Spec Tryz.prog f [.c (.sl es)] rs
 |[],_,h=>by cases h|q::r,hl,h=>by
  simp only[Zu1]at h;split at h;rename_i hf;split at h;rename_i hc;simp only[J0e]at hc;obtain rfl:=J0a h;obtain⟨h1,h2,h3⟩:=Ysa q (hl q (List.mem_cons_self ..));have e:q.1=f:=Nat.eq_of_beq_eq_true hf;rw[e]at h1;exact Zv0 h1 h2 h3 (Yck hc.1) (by simpa using hc.2.1) (by simpa using hc.2.2);cases h;exact Zoj (λx hx=>hl x (List.mem_cons_of_mem _ hx)) h
variable {O:Nat->Prop}{a:PV}{cargs:Array Value}
theorem Yyj{w:World}(h:Zcb w O [.c a] cargs):∃u,cargs=#[u]/\PRel w O a u:=by
 obtain⟨h1,h2⟩:=h;obtain⟨l⟩:=cargs
 match l,h1 with|[u],_=>have e1:=h2 0 _ u rfl rfl;cases e1 with|c _ _ e1=>grind
variable {b:PV}
theorem Yyk{w:World}(h:Zcb w O [.c a,.c b] cargs):∃u v,cargs=#[u,v]/\PRel w O a u/\PRel w O b v:=by
 obtain⟨h1,h2⟩:=h;obtain⟨l⟩:=cargs
 match l,h1 with|[u,v],_=>have e1:=h2 0 _ u rfl rfl;have e2:=h2 1 _ v rfl rfl;cases e1 with|c _ _ e1=>cases e2 with|c _ _ e2=>grind
theorem Yvq{w:World}(h:Zcb w O [.a [a,b]] cargs):∃u v,cargs=#[.agg #[u,v]]/\PRel w O a u/\PRel w O b v:=by
 obtain⟨h1,h2⟩:=h;obtain⟨l⟩:=cargs
 match l,h1 with
 |[u],_ =>
  have e1:=h2 0 _ u rfl rfl;cases e1 with
  |a _ vs hl hr =>
   obtain⟨vs⟩:=vs
   match vs,hl with|[x,y],_=>exact⟨x,y,rfl,hr 0 _ x rfl rfl,hr 1 _ y rfl rfl⟩
theorem Z29:∀{es:List (List PV)} {l:List (Int×Unit)},Z5b es=some l->es=l.map Tg.pvI
 |[],l,h=>by obtain rfl:=J0a h;rfl|e::es,l,h=>by
  unfold Z5b at h;split at h;grind;rename_i n l' heq;obtain⟨rfl,rfl⟩:=List.cons.inj heq;split at h;rename_i r hr;obtain rfl:=J0a h;rw[Z29 hr];rfl;cases h;cases h
def chPV(c:Ch):List PV:=[.int .i64 c.1,.int .i64 c.2.1,.int .i64 c.2.2.1,.int .i64 c.2.2.2.1,.int .i64 c.2.2.2.2]
theorem Z87:∀{es:List (List PV)} {l:List Ch},Ygu es=some l->es=l.map chPV
 |[],l,h=>by obtain rfl:=J0a h;rfl|e::es,l,h=>by
  unfold Ygu at h;split at h;grind;rename_i a b c d e' l' heq;obtain⟨rfl,rfl⟩:=List.cons.inj heq;split at h;rename_i r hr;obtain rfl:=J0a h;rw[Z87 hr];rfl;cases h;cases h
theorem Zt7{rs:List RA}(h:Zr9 es=some rs):Spec Tryz.prog 179 [.c (.sl es)] rs:=by
 unfold Zr9 at h;split at h;rename_i l hl;split at h;rename_i hc;obtain rfl:=J0a h;rw[J0e]at hc;intro O w cargs hO hgl hp;obtain⟨u,rfl,h1⟩:=Yyj hp;have hlen:=Nat.le_of_ble_eq_true hc.2;rw[Z29 hl]at h1 hlen;rw[List.length_map]at hlen;exact(Tg.Zoi l hc.1 (by omega) O w u hO h1).mono λe w' ⟨he,hb⟩=>he▸Tg.ends hO hgl hb _;cases h;cases h
theorem Z5c{ops chs:List (List PV)}{rs:List RA}(h:Ycj ops chs=some rs):Spec Tryz.prog 60 [.a [.sl ops,.sl chs]] rs:=by
 unfold Ycj at h;split at h;rename_i ch hch;split at h;rename_i hc;split at h;rename_i l hl;obtain rfl:=J0a h;simp only[J0e]at hc;obtain⟨hc1,hc2,hc3,hc4⟩:=hc;have hchs:=Z87 hch;have hcl:chs.length=ch.length:=by rw[hchs];simp
 refine Spec.rowI λO w cargs _ hp=>?_;obtain⟨u,v,rfl,h1,h2⟩:=Yvq hp;obtain⟨ao,co,rfl⟩:∃ao co,u = .slice ao ops.length co:=by
  cases h1 with|nil a c=>grind|sl _ a n c size u hno hlt hn hc' hsz' hcell hr=>grind
 cases h2 with
 |nil a c=>simp at hc4|sl _ a n c size u hno hlt hn hc' hsz' hcell hr =>
  have hget:∀(j:Nat) (x:Ch),ch[j]? = some x -> ∀(i:Nat) (y:Int),(chPV x)[i]? = some (.int .i64 y)->w.cell? (a.add (j*5+i))=some (.int .i64 y):=λj x hx i y hy=>by
   have he:chs[j]? = some (chPV x):=by grind
   have hs1:size=5:=(hsz' j _ he).symm;subst hs1;have h3:=hcell j _ he i _ hy;have h4:=hr j _ he i _ hy;rw[h3];generalize u j i=z at h4;cases h4;rfl
  have hspot:a.spot=none:=by
   have h0:0<ch.length:=by rw[<- hcl];simpa using hc4
   have:=hget 0 ch[0] (J0c h0) 0 _ rfl;have e:a.add (0*5+0)=a:=by simp[Addr.add]
   rw[e]at this;unfold World.cell? at this;split at this;split at this;cases this;rename_i hh;simpa using hh;cases this
  obtain⟨b,off,sp⟩:=a;simp only at hspot;subst hspot;refine(Z25 ao (some ⟨b,off,none⟩) ops.length co n c ch w (by simpa using hc2) (by rw[hn,hcl]) (by rw[hn];simpa using hc3) (λwr j x hw hx=>⟨⟨b,off,none⟩,rfl,?_⟩) (λx hx=>?_) l (by rw[hn];exact hl)).mono λe w' he=>he;have g:=λi y hy=>(hw.cell (p:=(⟨b,off,none⟩:Addr).add (j*5+i)) (by grind[Addr.add_lit])).trans (hget j x hx i y hy);have g0:=g 0 _ rfl;have g1:=g 1 _ rfl;have g2:=g 2 _ rfl;have g3:=g 3 _ rfl;have g4:=g 4 _ rfl;grind[Addr.add_lit];grind
 cases h;cases h;cases h
theorem Yl7:∀f pas rs,K0 f pas=some rs->Spec Tryz.prog f pas rs:=by
 intro f pas rs h;unfold K0 at h;split at h;grind[Nat.eq_of_beq_eq_true,Zt7,Zoj];grind[Nat.eq_of_beq_eq_true,Z5c];split at h;rename_i s c _ hf;obtain rfl:f=270:=Nat.eq_of_beq_eq_true hf;obtain rfl:=J0a h;refine Spec.still (v:=.int .i64 (Lib.indexByte s c.toNat.toUInt8)) (λw O=>.int _ _) λO w cargs _ hp=>?_;obtain⟨u,v,rfl,h1,h2⟩:=Yyk hp;cases h1;cases h2;exact(Tryz.strings_IndexByte ⟨_⟩ _ w).mono λe w' he=>⟨he.1,by grind[Below.refl]⟩;cases h;cases h
def Yyl:List Nat:=[6,7,8,13,19,20,22,30,31,34,35,47,48,60,62,66,67,68,72,74,75,76,77,78,87,89,90,91,92,157,179,200,201,235,237,238,262,270,271,272,292,293,294,297,298,321]
def fzL' : List Nat:=[6,7,8,13,19,20,22,30,31,34,35,47,48,62,87,89,90,157,200,201,235,237,238]
noncomputable def VN(tab:List (FuncId×List PA×List RA)):VP:={ K:=λf pas=>match K0 f pas with|some rs=>some rs|none=>Z22 f pas tab,F:=Z0 Tryz.prog,cb:=λf=>callable Tryz.prog f,lone:=λf=>Yyl.any (λg=>Nat.beq g f),fz:=λf=>fzL'.any (λg=>Nat.beq g f) }
def rounds:Nat:=100000
set_option maxRecDepth 100000 in
theorem fact{tab:List (FuncId×List PA×List RA)}(ht:TOK Tryz.prog tab){f:FuncId}{pas:List PA}{rs:List RA}(h:Zv6 (VN tab) rounds 6 f pas=some rs):Spec Tryz.prog f pas rs :=
 Ztj (V:=VN tab) (λf pas rs h=>by
  have h:(match K0 f pas with|some rs=>some rs|none=>Z22 f pas tab)=some rs:=h;split at h;grind[Yl7];exact ht.mem _ (Zr6 h)) (λf af h=>h) (λf h=>h) rounds 6 f pas rs h
end Tn
