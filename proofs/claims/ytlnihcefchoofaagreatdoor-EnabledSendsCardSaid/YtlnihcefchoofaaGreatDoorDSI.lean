import Derived.Shelf.SlSortCmp.Small
import Derived.Shelf.SlicesG.Cmp
import Derived.Test.YtlnihcefchoofaaGreatDoorDGC
set_option linter.all false
namespace Go.Proofs
open Go.Shelf Go.Lib Go.Sort Go.RowKit
def Tryz.lays125_ren:Go.Shelf.Ren:=⟨λ|125=>80|128=>142|129=>143|n=>n,λ|46=>157|3=>3|51=>220|53=>222|4=>4|5=>5|9=>9|n=>n,λ|n=>n⟩
theorem Tryz.lays125:Go.Proofs.Lays.n125 Tryz.prog Tryz.lays125_ren:={
 mixed:=by kernel_rfl
 f125:=Tryz.func80.trans (congrArg some (by kernel_rfl))
 f128:=Tryz.func142.trans (congrArg some (by kernel_rfl))
 f129:=Tryz.func143.trans (congrArg some (by kernel_rfl))
 t3:=Tryz.underlying3
 a3:=Tryz.isAgg3
 z3:=Tryz.sizeOf3
 v3:=Tryz.zeroValue3
 t4:=Tryz.underlying4
 a4:=Tryz.isAgg4
 z4:=Tryz.sizeOf4
 v4:=Tryz.zeroValue4
 t5:=Tryz.underlying5
 a5:=Tryz.isAgg5
 z5:=Tryz.sizeOf5
 v5:=Tryz.zeroValue5
 t9:=Tryz.underlying9
 a9:=Tryz.isAgg9
 z9:=Tryz.sizeOf9
 v9:=Tryz.zeroValue9
 t46:=Tryz.underlying157
 a46:=Tryz.isAgg157
 z46:=Tryz.sizeOf157
 v46:=Tryz.zeroValue157
 t51:=Tryz.underlying220
 a51:=Tryz.isAgg220
 z51:=Tryz.sizeOf220
 v51:=Tryz.zeroValue220
 t53:=Tryz.underlying222
 a53:=Tryz.isAgg222
 z53:=Tryz.sizeOf222
 v53:=Tryz.zeroValue222 }
theorem Tryz.bits_Len(x:Int)(w:World)(h0:0<=x)(h1:x<=18446744073709551615) :
    Calls Tryz.prog 80 #[.int .u64 x] w λe w' => e = .returned (.int .i64 (Lib.bitLen x.toNat))/\w' = w:=Any.bits_Len Tryz.lays125 x w h0 h1
def Tryz.laysSlC25_f200_ren:Go.Shelf.Ren:=⟨λ|5=>44|7=>81|n=>n,λ|22=>3|3=>3|4=>4|n=>n,λ|n=>n⟩
theorem Tryz.laysSlC25_f200:Go.Proofs.SlLaysC2.n5 Tryz.prog Tryz.laysSlC25_f200_ren:={
 mixed:=by kernel_rfl
 f5:=⟨Tryz.f44.name,by decide,Tryz.func44.trans (congrArg some (by kernel_rfl))⟩
 f7:=⟨Tryz.f81.name,by decide,Tryz.func81.trans (congrArg some (by kernel_rfl))⟩
 t3:=Tryz.underlying3
 a3:=Tryz.isAgg3
 z3:=Tryz.sizeOf3
 v3:=Tryz.zeroValue3
 t4:=Tryz.underlying4
 a4:=Tryz.isAgg4
 z4:=Tryz.sizeOf4
 v4:=Tryz.zeroValue4
 t22:=Tryz.underlying3
 a22:=Tryz.isAgg3
 z22:=Tryz.sizeOf3
 v22:=Tryz.zeroValue3 }
theorem Tryz.cmp_Compare_int_f200(x y:Int)(w:World) :
    Calls Tryz.prog 44 #[.int .i64 x,.int .i64 y] w λe w' => e = .returned (.int .i64 (Lib.compareInt x y))/\w' = w:=AnyG.cmp_Compare_int Tryz.laysSlC25_f200 x y w
def Tryz.laysSlF6_f198_ren:Go.Shelf.Ren:=⟨λ|6=>42|15=>80|14=>79|28=>142|29=>143|20=>134|21=>135|22=>136|23=>137|24=>138|25=>139|26=>140|27=>141|46=>184|47=>185|48=>186|49=>187|50=>188|57=>221|n=>n,λ|22=>23|24=>3|25=>104|3=>3|39=>157|0=>0|53=>220|55=>222|4=>4|46=>213|45=>212|50=>217|5=>5|9=>9|66=>279|70=>283|76=>322|77=>118|n=>n,λ|n=>n⟩
theorem Tryz.laysSlF6_f198:Go.Proofs.SlLaysF.n6 Tryz.prog Tryz.laysSlF6_f198_ren:={
 mixed:=by kernel_rfl
 f6:=⟨Tryz.f42.name,by decide,Tryz.func42.trans (congrArg some (by kernel_rfl))⟩
 f14:=⟨Tryz.f79.name,by decide,Tryz.func79.trans (congrArg some (by kernel_rfl))⟩
 f15:=Tryz.func80.trans (congrArg some (by kernel_rfl))
 f20:=⟨Tryz.f134.name,by decide,Tryz.func134.trans (congrArg some (by kernel_rfl))⟩
 f21:=⟨Tryz.f135.name,by decide,Tryz.func135.trans (congrArg some (by kernel_rfl))⟩
 f22:=⟨Tryz.f136.name,by decide,Tryz.func136.trans (congrArg some (by kernel_rfl))⟩
 f23:=⟨Tryz.f137.name,by decide,Tryz.func137.trans (congrArg some (by kernel_rfl))⟩
 f24:=⟨Tryz.f138.name,by decide,Tryz.func138.trans (congrArg some (by kernel_rfl))⟩
 f25:=⟨Tryz.f139.name,by decide,Tryz.func139.trans (congrArg some (by kernel_rfl))⟩
 f26:=⟨Tryz.f140.name,by decide,Tryz.func140.trans (congrArg some (by kernel_rfl))⟩
 f27:=⟨Tryz.f141.name,by decide,Tryz.func141.trans (congrArg some (by kernel_rfl))⟩
 f28:=Tryz.func142.trans (congrArg some (by kernel_rfl))
 f29:=Tryz.func143.trans (congrArg some (by kernel_rfl))
 f46:=⟨Tryz.f184.name,by decide,Tryz.func184.trans (congrArg some (by kernel_rfl))⟩
 f47:=Tryz.func185.trans (congrArg some (by kernel_rfl))
 f48:=Tryz.func186.trans (congrArg some (by kernel_rfl))
 f49:=⟨Tryz.f187.name,by decide,Tryz.func187.trans (congrArg some (by kernel_rfl))⟩
 f50:=⟨Tryz.f188.name,by decide,Tryz.func188.trans (congrArg some (by kernel_rfl))⟩
 f57:=⟨Tryz.f221.name,by decide,Tryz.func221.trans (congrArg some (by kernel_rfl))⟩
 t0:=Tryz.underlying0
 a0:=Tryz.isAgg0
 z0:=Tryz.sizeOf0
 v0:=Tryz.zeroValue0
 t3:=Tryz.underlying3
 a3:=Tryz.isAgg3
 z3:=Tryz.sizeOf3
 v3:=Tryz.zeroValue3
 t4:=Tryz.underlying4
 a4:=Tryz.isAgg4
 z4:=Tryz.sizeOf4
 v4:=Tryz.zeroValue4
 t5:=Tryz.underlying5
 a5:=Tryz.isAgg5
 z5:=Tryz.sizeOf5
 v5:=Tryz.zeroValue5
 t9:=Tryz.underlying9
 a9:=Tryz.isAgg9
 z9:=Tryz.sizeOf9
 v9:=Tryz.zeroValue9
 t22:=Tryz.underlying23
 a22:=Tryz.isAgg23
 z22:=Tryz.sizeOf23
 v22:=Tryz.zeroValue23
 a24:=Tryz.isAgg3
 z24:=Tryz.sizeOf3
 t25:=Tryz.underlying104
 a25:=Tryz.isAgg104
 z25:=Tryz.sizeOf104
 v25:=Tryz.zeroValue104
 t39:=Tryz.underlying157
 a39:=Tryz.isAgg157
 z39:=Tryz.sizeOf157
 v39:=Tryz.zeroValue157
 t45:=Tryz.underlying212
 a45:=Tryz.isAgg212
 z45:=Tryz.sizeOf212
 v45:=Tryz.zeroValue212
 t46:=Tryz.underlying213
 a46:=Tryz.isAgg213
 z46:=Tryz.sizeOf213
 v46:=Tryz.zeroValue213
 t50:=Tryz.underlying217
 a50:=Tryz.isAgg217
 z50:=Tryz.sizeOf217
 v50:=Tryz.zeroValue217
 t53:=Tryz.underlying220
 a53:=Tryz.isAgg220
 z53:=Tryz.sizeOf220
 v53:=Tryz.zeroValue220
 t55:=Tryz.underlying222
 a55:=Tryz.isAgg222
 z55:=Tryz.sizeOf222
 v55:=Tryz.zeroValue222
 t66:=Tryz.underlying279
 a66:=Tryz.isAgg279
 z66:=Tryz.sizeOf279
 v66:=Tryz.zeroValue279
 t70:=Tryz.underlying283
 a70:=Tryz.isAgg283
 z70:=Tryz.sizeOf283
 v70:=Tryz.zeroValue283
 t76:=Tryz.underlying322
 a76:=Tryz.isAgg322
 z76:=Tryz.sizeOf322
 v76:=Tryz.zeroValue322
 t77:=Tryz.underlying118
 a77:=Tryz.isAgg118
 z77:=Tryz.sizeOf118
 v77:=Tryz.zeroValue118 }
theorem Tryz.slices_SortFunc_small{α:Type}[Inhabited α](enc:α->Value)(hO:OneCell enc)(cf:α->α->Int)(g:Nat)(cb:Array Value)(blk off cap:Nat)(d:Array α)(w:World)(eg:∀args w,(callFunc g args).run Tryz.prog w = .ok (.enter g args) w)(hcmp:CmpReads Tryz.prog g cb enc cf blk off d.size w)(hH:Holds enc w blk off d)(h12:d.size<=12)(hlen:∀(n:Nat) (W:World),n<=12->Calls Tryz.prog 80 #[.int .u64 n] W λe w' => (∃l:Int,e = .returned (.int .i64 l))/\w' = W) :
    Calls Tryz.prog 42 #[.slice (some ⟨blk,off,none⟩) d.size cap,.func (.func g) #[] cb] w λe w' => e = .returned (.tuple #[]) /\ ∃n,w' = (putRow enc w blk off (Sort.insertionSort (ltOf cf) d 0 d.size)).drewN n:=Any.slices_SortFunc_small Tryz.laysSlF6_f198 enc hO cf g cb blk off cap d w eg hcmp hH h12 hlen
end Go.Proofs
set_option maxRecDepth 100000
namespace Tj
open Go Go.RowKit Go.Proofs Go.Sort Go.Shelf Go.Lib
def selF(b:Bool)(c:Chn):Int:=cond b c.2.2.1 c.1
def keyF(b:Bool)(c:Chn):Int:=cond b c.2.2.2.1 c.2.1
def idxN(b:Bool)(op:Int)(chs:List Chn)(k:Nat):List Nat:=(List.range k).filter λi=>(chs[i]?).any λc=>decide (selF b c=op)
variable {b:Bool}{k:Nat}
theorem Yhb{op:Int}{chs:List Chn}{i: Nat}(h:i∈idxN b op chs k):i<k /\ ∃c,chs[i]? = some c/\selF b c=op:=by unfold idxN at h;grind
theorem Z9f{op:Int}{chs:List Chn}{c:Chn}(hc:chs[k]? = some c)(h:selF b c=op):idxN b op chs (k+1)=idxN b op chs k++[k]:=by unfold idxN;rw[List.range_succ,List.filter_append];grind
theorem Z3f{op:Int}{chs:List Chn}{c:Chn}(hc:chs[k]? = some c)(h:¬selF b c=op):idxN b op chs (k+1)=idxN b op chs k:=by unfold idxN;rw[List.range_succ,List.filter_append];grind
def iv(i:Nat):Value:=.int .i64 (i:Int)
def idxD(b:Bool)(op:Int)(chs:List Chn):Array (Fin chs.length):=((idxN b op chs chs.length).pmap (λi h=>(⟨i,h⟩:Fin chs.length)) λi h=>(Yhb h).1).toArray
def cfF(b:Bool)(chs:List Chn)(x y:Fin chs.length):Int:=Lib.compareInt (keyF b (chs.get x)) (keyF b (chs.get y))
def ev{n:Nat}(x:Fin n):Value:=.int .i64 (x.val:Int)
def sorF(b:Bool)(op:Int)(chs:List Chn):List Nat:=if h:0<chs.length then
    haveI:Inhabited (Fin chs.length):=⟨⟨0,h⟩⟩
    (Sort.insertionSort (ltOf (cfF b chs)) (idxD b op chs) 0 (idxD b op chs).size).toList.map Fin.val
  else[]
variable {α:Type}{sz n:Nat}{a:Option Addr}{w1:World}
theorem row0{w:World}{f:α->List Value}{xs:List α}(h:SlAt w sz f a n xs)(hb:Below w.heap.size w w1){x:α}(hx:xs[k]? = some x){b:Addr}(e:a=some b){v:Value}(hv:(f x)[0]? = some v):w1.cell? (b.add (k*sz))=some v:=by
 obtain⟨b',e',hl,hc⟩:=h.2 k x hx;obtain rfl:b=b' := by grind
 exact(hb.cell (p:=b.add (k*sz+0)) (by rw[Zc];exact hl)).trans (hc 0 v hv)
theorem rowS{w:World}{f:α->List Value}{xs:List α}(h:SlAt w sz f a n xs)(hb:Below w.heap.size w w1){x:α}(hx:xs[k]? = some x){b:Addr}(e:a=some b)(i:Nat){v:Value}(hv:(f x)[i+1]? = some v):w1.cell? ⟨(b.add (k*sz)).block,(b.add (k*sz)).off+(i+1),none⟩=some v:=by
 obtain⟨b',e',hl,hc⟩:=h.2 k x hx;obtain rfl:b=b' := by grind
 have:=(hb.cell (p:=b.add (k*sz+(i+1))) (by rw[Zc];exact hl)).trans (hc (i+1) v hv);rwa [Zi9]at this
theorem Z9g(a b:Int):decide (Lib.compareInt a b<0)=decide (a<b):=by unfold Lib.compareInt;grind
theorem swoF(b:Bool)(chs:List Chn):SWO (ltOf (cfF b chs)):=by
 have e:∀x y,ltOf (cfF b chs) x y=decide (keyF b (chs.get x)<keyF b (chs.get y)):=λx y=>Z9g _ _;refine⟨λx=>by grind,λx y z h1 h2=>?_,λx y z h1 h2=>?_⟩;grind;grind
theorem Zik(b:Bool)(op:Int)(chs:List Chn):(idxD b op chs).size=(idxN b op chs chs.length).length:=by simp[idxD]
theorem Ynr[Inhabited (Fin n)](d:Array (Fin n))(cur:Array Value):putCells ev 0 d cur=putCells (Value.int .i64) 0 (d.map λx=>(x.val:Int)) cur:=by
 unfold putCells;congr 1;funext k x;simp only[Array.size_map];by_cases h:0<=k/\k<0+d.size;rw[if_pos h,if_pos h];have hk:k<d.size:=by omega
 simp[hk,ev];grind
variable {g:Nat}{cur:Array Value}
theorem Ywv{w:World}{e:TypeId}{op:Int}{chs:List Chn}[Inhabited (Fin chs.length)](hb:w.heap[g]? = some (.cells cur e (0,0)))(ht:cur.toList.take (idxN b op chs chs.length).length=(idxN b op chs chs.length).map iv):Holds ev w g 0 (idxD b op chs):=by
 intro j hj;have hj' : j<(idxN b op chs chs.length).length:=by rw[<- Zik];exact hj
 refine⟨?_,by simp[World.frozen?,hb]⟩;have h1:(cur.toList.take (idxN b op chs chs.length).length)[j]? = ((idxN b op chs chs.length).map iv)[j]? := by rw[ht]
 rw[List.getElem?_take_of_lt hj']at h1;simp only[World.cell?,hb,Nat.zero_add];simp only[Option.isSome_none,J0r,if_false];rw[<- Array.getElem?_toList,h1];simp[hj',idxD,ev,iv]
theorem Zq0{op:Int}{chs:List Chn}(h:0<chs.length)[I:Inhabited (Fin chs.length)](hI:I=⟨⟨0,h⟩⟩):sorF b op chs=(Sort.insertionSort (ltOf (cfF b chs)) (idxD b op chs) 0 (idxD b op chs).size).toList.map Fin.val:=by unfold sorF;grind
theorem Zyd(b:Bool)(op:Int)(chs:List Chn):(sorF b op chs).length=(idxN b op chs chs.length).length:=by
 by_cases h:0<chs.length;obtain⟨I,hI⟩:∃I:Inhabited (Fin chs.length),I=⟨⟨0,h⟩⟩:=⟨_,rfl⟩;rw[Zq0 h hI,<- Zik];have:=(insertionSort_holds (swoF b chs) (idxD b op chs) 0 (idxD b op chs).size (Nat.zero_le _) (Nat.le_refl _)).1.1;grind;have:chs=[]:=List.length_eq_zero_iff.1 (by omega);subst this;rfl
variable {W:World}{m:Nat}
theorem Yns{cap base: Nat}{op:Int}{chs:List Chn}(h0:0<chs.length)[I:Inhabited (Fin chs.length)](hI:I=⟨⟨0,h0⟩⟩)(hb:W.heap[g]? = some (.cells cur 3 (0,0)))(hbase:base<=g)(h1:(idxN b op chs chs.length).length<=cap)(h2:cap<=maxLen)(h3:cur.size=cap*1) :
    ((putRow ev W g 0 (Sort.insertionSort (ltOf (cfF b chs)) (idxD b op chs) 0 (idxD b op chs).size)).drewN m).ownsRow base 3 1 (.slice (some ⟨g,0,none⟩) (idxN b op chs chs.length).length cap) (sorF b op chs).length ((sorF b op chs).map iv) /\
    W.grownBy ((putRow ev W g 0 (Sort.insertionSort (ltOf (cfF b chs)) (idxD b op chs) 0 (idxD b op chs).size)).drewN m) (some g):=by
  have hlen:=Zyd b op chs;have hs:=Zq0 (b:=b) (op:=op) h0 hI;generalize hd:Sort.insertionSort (ltOf (cfF b chs)) (idxD b op chs) 0 (idxD b op chs).size=d' at hs ⊢;have e1:putRow ev W g 0 d' = putRow (Value.int .i64) W g 0 (d'.map λx=>(x.val:Int)):=by unfold putRow;rw[show putCells ev 0 d' = putCells (Value.int .i64) 0 (d'.map λx=>(x.val:Int)) from funext λc=>Ynr d' c]
  have e2:(putRow ev W g 0 d').drewN m=grow (putRow (Value.int .i64) (Sort.ahead W m) g 0 ((d'.toList.map λx=>(x.val:Int)).toArray)) #[]:=by
   rw[e1,<- sortWorld_none];have:(d'.map λx=>(x.val:Int))=(d'.toList.map λx=>(x.val:Int)).toArray:=by grind
   rw[this];rfl
  rw[e2];have e3:(sorF b op chs).map iv=(d'.toList.map λx=>(x.val:Int)).map (Value.int .i64):=by rw[hs];simp[iv,Function.comp_def]
  have e4:(d'.toList.map λx=>(x.val:Int)).length=((idxN b op chs chs.length).map λi:Nat=>(i:Int)).length:=by grind
  refine⟨?_,grownBy_sortedI _⟩;rw[e3,hlen];have:=ownsRow_sortedI (w:=W) (base:=base) (n:=m) (os:=#[]) (ss:=(idxN b op chs chs.length).map λi:Nat=>(i:Int)) (ts:=d'.toList.map λx=>(x.val:Int)) e4 hbase hb (by grind) h2 h3;grind
theorem Zye[Inhabited α]{enc:α->Value}{d:Array α}{os:Array Obj}{a:Addr}(hne:a.block≠g)(hlt:a.block<W.heap.size):(sortWorld enc W g 0 m d os).cell? a=W.cell? a:=by unfold sortWorld;rw[cell?_grow _ _ _ (by simp_all),cell?_putRow_other _ _ _ _ _ _ (Or.inl hne)];rfl
set_option maxHeartbeats 2000000 in
theorem Ynt(p:Option Addr)(cap:Nat)(fv:Value)(w:World):Calls Tryz.prog 134 #[.slice p 0 cap,.int .i64 0,.int .i64 0,fv] w λe w' => e = .returned (.tuple #[])/\w' = w:=by go_enter Tryz.func134,Tryz.ntmps134;go_wp2;refine wp_loop_rounds 1 ?_;rw[rounds_succ];go_wp2;go_end0;grind
set_option maxHeartbeats 2000000 in
theorem Ynu(p:Option Addr)(cap:Nat)(lim:Int)(fv:Value)(w:World):Calls Tryz.prog 79 #[.slice p 0 cap,.int .i64 0,.int .i64 0,.int .i64 lim,fv] w λe w' => e = .returned (.tuple #[])/\w' = w:=by
 go_enter Tryz.func79,Tryz.ntmps79;go_wp2;refine wp_loop_rounds 1 ?_;rw[rounds_succ];go_wp2_with(go_at_call 134;refine(Ynt _ _ _ _).mono ?_;rintro e w' ⟨rfl,rfl⟩)
 (try simp only[Exit.inBlock,Exit.then]);refine bodyPost_ret (results_none rfl _ _ _) rfl ?_
 grind
theorem Ysl(n:Nat)(w:World)(h:n<=12):Calls Tryz.prog 80 #[.int .u64 n] w λe w' => (∃l:Int,e = .returned (.int .i64 l))/\w' = w:=(Tryz.bits_Len n w (by omega) (by omega)).mono λ_ _ ⟨he,hw⟩=>⟨⟨_,he⟩,hw⟩
set_option maxHeartbeats 2000000 in
theorem Yi9(p:Option Addr)(cap:Nat)(fv:Value)(w:World):Calls Tryz.prog 42 #[.slice p 0 cap,fv] w λe w' => e = .returned (.tuple #[])/\w' = w:=by go_enter Tryz.func42,Tryz.ntmps42;go_wp2_with(first|(go_at_call 80;refine(Tryz.bits_Len 0 _ (by omega) (by omega)).mono ?_;rintro e w' ⟨rfl,rfl⟩)|(go_at_call 79;refine(Ynu _ _ _ _ _).mono ?_;rintro e w' ⟨rfl,rfl⟩));go_end0;grind
end Tj
namespace Tj
open Go Go.RowKit Go.Proofs Go.Sort Go.Shelf Go.Lib
set_option maxHeartbeats 4000000
theorem cloB{cf off:Nat}(hf:cf=43/\off=3∨cf=64/\off=1)(B n c:Nat)(b:Addr)(x y:Nat)(kx ky:Int)(W:World)(h1:W.cell? ⟨B,1,none⟩=some (.slice (some b) n c))(hx:x<n)(hy:y<n)
    (cx:W.cell? ⟨(b.add (x*5)).block,(b.add (x*5)).off+off,none⟩=some (.int .i64 kx)) (cy:W.cell? ⟨(b.add (y*5)).block,(b.add (y*5)).off+off,none⟩=some (.int .i64 ky)) :
    Calls Tryz.prog cf #[.int .i64 (x:Int),.int .i64 (y:Int),.pointer (some ⟨B,0,none⟩)] W λe w' => e = .returned (.int .i64 (Lib.compareInt kx ky)) /\ ∃q,w' = W.drewN q:=by
  have x0:(0:Int)<=(x:Int):=by omega
  have y0:(0:Int)<=(y:Int):=by omega
  have xn:(x:Int)<(n:Int):=by omega
  have yn:(y:Int)<(n:Int):=by omega
  rcases hf with⟨rfl,rfl⟩|⟨rfl,rfl⟩
  all_goals
   (first|go_enter Tryz.func43,Tryz.ntmps43|go_enter Tryz.func64,Tryz.ntmps64)
   go_wp2_with fail;go_region_with(go_at_call 44;refine(Tryz.cmp_Compare_int_f200 _ _ _).mono ?_;rintro e w' ⟨rfl,rfl⟩);all_goals(try go_wp2)
   all_goals go_ret
   all_goals first|exact⟨rfl,1,rfl⟩|exact⟨rfl,2,rfl⟩|exact⟨rfl,0,rfl⟩
end Tj
namespace Tj
open Go Go.RowKit Go.Proofs Go.Sort Go.Shelf Go.Lib
theorem Yww:(Tryz.prog.info? 3).map (λi=>(i.zero,i.size,i.bytes))=some (some (.int .i64 0),1,8):=by kernel_rfl
variable {b:Bool}{wr:World}{u:Value}{o bx:Obj}{k:Nat}
theorem hitX{w w1: World}{v': Value}{o2: Obj}{op:Int}{chs:List Chn}{c:Chn}(hc:chs[k]? = some c)(hs:selF b c=op)
    (hown:wr.ownsRow (w.heap.size+1) 3 1 u (idxN b op chs k).length ((idxN b op chs k).map iv)) (hbox:wr.heap[w.heap.size]? = some bx) (hnx:Below w.heap.size w wr)
    (hown' : w1.ownsRow (w.heap.size+1) 3 1 v' ((idxN b op chs k).length+1) ((idxN b op chs k).map iv++[.int .i64 (k:Int)])) (hgrow:((wr.alloc o).alloc o2).grownBy w1 u.ownBlock) :
    w1.ownsRow (w.heap.size+1) 3 1 v' (idxN b op chs (k+1)).length ((idxN b op chs (k+1)).map iv)/\w1.heap[w.heap.size]? = some bx/\Below w.heap.size w w1:=by
  have hlt:w.heap.size<wr.heap.size:=(Array.getElem?_eq_some_iff.1 hbox).1;have hne:some w.heap.size≠u.ownBlock:=λh=>by have:=hown.lt _ h.symm;omega
  refine⟨by rw[Z9f hc hs];simpa[iv]using hown',?_,((hnx.alloc (by omega) o).alloc (by simp;omega) o2).grown hgrow (by simp;omega) (λj hj=>by have:=(hown.lt j hj).1;omega)⟩;rw[hgrow.block _ (by simp;omega) hne,Below.heap_alloc _ _ _ (by simp;omega),Below.heap_alloc _ _ _ hlt];grind
theorem Yz7{w: World}{op:Int}{chs:List Chn}{c:Chn}(hc:chs[k]? = some c)(hs:¬selF b c=op)
    (hown:wr.ownsRow (w.heap.size+1) 3 1 u (idxN b op chs k).length ((idxN b op chs k).map iv)) (hbox:wr.heap[w.heap.size]? = some bx) (hnx:Below w.heap.size w wr) :
    (wr.alloc o).ownsRow (w.heap.size+1) 3 1 u (idxN b op chs (k+1)).length ((idxN b op chs (k+1)).map iv)/\(wr.alloc o).heap[w.heap.size]? = some bx/\Below w.heap.size w (wr.alloc o):=by
  have hlt:w.heap.size<wr.heap.size:=(Array.getElem?_eq_some_iff.1 hbox).1;rw[Z3f hc hs];exact⟨hown.alloc _,by rw[Below.heap_alloc _ _ _ hlt];grind,hnx.alloc (by omega) o⟩
theorem Yja{w:World}{b1 b2 n:Nat}{e:TypeId}{v:Value}{xs:List Value}(hb:b2<=b1)(h:w.ownsRow b1 e 1 v n xs):w.ownsRow b2 e 1 v n xs:=by
 refine⟨h.1,?_⟩;rcases h.2 with h2|⟨g,cap,cur,h1,h2,h3⟩
 grind;exact .inr ⟨g,cap,cur,h1,Nat.le_trans hb h2,h3⟩
theorem Z9h(b:Bool)(op:Int)(chs:List Chn)(k:Nat):(idxN b op chs k).length<=k:=by unfold idxN;grind
set_option maxHeartbeats 4000000 in
theorem Ynv{f cf off:Nat}(hf:b=true/\f=20/\cf=43/\off=3∨b=false/\f=35/\cf=64/\off=1)(a1:Option Addr)(n1 c1:Nat)(a2:Option Addr)(n2 c2:Nat)(op:Int)(chs:List Chn)(w:World)(hm:n2<1000000)(hc:SlAt w 5 chC a2 n2 chs)(h12:(idxN b op chs chs.length).length<=12) :
    Calls Tryz.prog f #[.agg #[.slice a1 n1 c1,.slice a2 n2 c2],.int .i64 op] w λe w' => ∃v,e = .returned v/\w'.ownsRow w.heap.size 3 1 v (sorF b op chs).length ((sorF b op chs).map iv)/\Below w.heap.size w w' := by
  obtain⟨i0,hi,hz0,hz1,hz2⟩:=info_parts Yww;have H:=Lib.hid hc;clear hc;have hcl:cf=43/\off=3∨cf=64/\off=1:=hf.imp (λh=>h.2.2) (λh=>h.2.2);rcases hf with⟨e,rfl,hcf,hof⟩|⟨e,rfl,hcf,hof⟩
  all_goals
   have E:=Lib.hid e;have HCF:=Lib.hid hcf;have HOF:=Lib.hid hof;clear e hcf hof;first|go_enter Tryz.func20,Tryz.ntmps20|go_enter Tryz.func35,Tryz.ntmps35
   go_wp2;go_loopw[5,11] (λv i wr=>∃k:Nat,k<=n2/\i = .int .i64 k/\wr.ownsRow (w.heap.size+1) 3 1 v (idxN b op chs k).length ((idxN b op chs k).map iv)/\wr.heap[w.heap.size]? = some (.cells #[.slice a1 n1 c1,.slice a2 n2 c2] 31 (0,0))/\Below w.heap.size w wr) (λ_ i _=>n2-(RowKit.intOf i).toNat)
   case atStart=>exact⟨0,Nat.zero_le _,rfl,World.ownsRow_nil _ _ _ _,heap_alloc_new w _,(Below.refl _ _).alloc (Nat.le_refl _) _⟩
   case round =>
    obtain⟨k,hk,rfl,hown,hbox,hnx⟩:=hrel;by_cases hlt:k<n2
    . obtain⟨c,hc⟩:∃c,chs[k]? = some c:=⟨_,J0c (by rw[<- H.out.1];exact hlt)⟩;obtain⟨b1,rfl,_⟩:=H.out.2 k c hc;have hk0:(0:Int)<=(k:Int):=by omega
      have hkn:(k:Int)<(n2:Int):=by omega
      have hsz:w.heap.size<wr.heap.size:=(Array.getElem?_eq_some_iff.1 hbox).1;have hle:=Z9h b op chs k;have G0:=row0 H.out hnx hc rfl rfl;have G1:=rowS H.out hnx hc rfl 0 rfl;have G2:=rowS H.out hnx hc rfl 1 rfl;have G3:=rowS H.out hnx hc rfl 2 rfl;have G4:=rowS H.out hnx hc rfl 3 rfl;have HC:=Lib.hid hc;have HOWN:=Lib.hid hown;have HBOX:=Lib.hid hbox;have HNX:=Lib.hid hnx;clear hc hown hbox hnx;by_cases hsel:selF b c=op;all_goals
       have hsl:=hsel;rw[E.out]at hsl;simp only[selF,cond_true,cond_false]at hsl
      . go_wp2_with(at_builtin;refine wpList_append_own _ rfl _ _ 23 rfl (w.heap.size+1) 3 i0 (.int .i64 0) 1 8 Tryz.underlying23 hi hz0 hz1 hz2 rfl (by decide) _ _ _ rfl ((HOWN.out.alloc _).alloc _) ⟨wr.heap.size+1,0,none⟩ 1 1 [.int .i64 (k:Int)] rfl rfl ?c1 ?c2 ?c3 ?c4 ?c5 ?_)
        case c1 =>
         intro j u hj
         match j,hj with|0,hj=>simp at hj;subst hj;simp[Addr.add]
        case c2=>intro u hu;simp at hu;subst hu;rfl
        case c3=>unfold maxLen;omega
        case c4=>omega
        case c5=>simp;omega
        intro v' w1 hown' hgrow _;have R:=hitX HC.out hsel HOWN.out HBOX.out HNX.out hown' hgrow;clear hown' hgrow;have HR:=Lib.hid R;clear R;go_wp2;go_roundw
        case rel=>exact⟨k+1,by omega,by go_num,HR.out.1,HR.out.2.1,HR.out.2.2⟩
        case measure=>simp[RowKit.intOf];omega
      . go_wp2;go_roundw
        case rel=>exact⟨k+1,by omega,by go_num,Yz7 HC.out hsel HOWN.out HBOX.out HNX.out⟩
        case measure=>simp[RowKit.intOf];omega
    . have hkl:k=n2:=by omega
      subst hkl;have hn:=H.out.1;have hk2:k=chs.length:=hn;by_cases hL:idxN b op chs chs.length=[]
      . have HOWN:=Lib.hid hown;have HNX:=Lib.hid hnx;clear hown hnx hbox;rw[hk2,hL]at HOWN;have hv:∃p c,u5 = .slice p 0 c:=by
         rcases HOWN.out.2 with⟨e,_⟩|⟨g,cap,cur,e,_⟩
         exact⟨_,_,e⟩;exact⟨_,_,e⟩
        obtain⟨p,cp,hv⟩:=hv;have HV:=Lib.hid hv;clear hv;rw[HV.out];go_wp2_with(go_at_call 42;refine(Yi9 _ _ _ _).mono ?_;rintro e w' ⟨rfl,rfl⟩);go_ret;refine⟨_,rfl,?_,HNX.out⟩;have hz:sorF b op chs=[]:=List.length_eq_zero_iff.1 (by rw[Zyd,hL];rfl);rw[hz];have:=Yja (Nat.le_succ _) HOWN.out;rw[HV.out]at this;exact this
      . have hpos:0<(idxN b op chs chs.length).length:=List.length_pos_iff.2 hL;have h0:0<chs.length:=Nat.lt_of_lt_of_le hpos (Z9h _ _ _ _);rw[hk2]at hown;obtain⟨g,cap,cur,hv,hg,hgh,hn1,hcm,hcs,ht⟩:∃g cap cur,u5 = .slice (some ⟨g,0,none⟩) (idxN b op chs chs.length).length cap/\w.heap.size+1<=g/\wr.heap[g]? = some (.cells cur 3 (0,0))/\(idxN b op chs chs.length).length<=cap/\cap<=maxLen/\cur.size=cap*1/\cur.toList.take ((idxN b op chs chs.length).length*1)=(idxN b op chs chs.length).map iv:=by
         rcases hown.2 with⟨_,e⟩|h
         omega;exact h
        rw[Nat.mul_one]at ht;obtain⟨I,hI⟩:∃I:Inhabited (Fin chs.length),I=⟨⟨0,h0⟩⟩:=⟨_,rfl⟩;have R:=λm=>Yns (W:=wr) (g:=g) (cap:=cap) (m:=m) (base:=w.heap.size) (cur:=cur) (b:=b) (op:=op) h0 hI hgh (by omega) hn1 hcm hcs;obtain⟨b1,ha2,hb1,_⟩:=H.out.2 0 _ (J0c h0);have hbs:w.heap.size<wr.heap.size:=(Array.getElem?_eq_some_iff.1 hbox).1;have eg:∀args w,(callFunc cf args).run Tryz.prog w = .ok (.enter cf args) w:=by rw[HCF.out];first|exact enters_of Tryz.func43 (by kernel_rfl) rfl|exact enters_of Tryz.func64 (by kernel_rfl) rfl
        have hcmp:CmpReads Tryz.prog cf #[.pointer (some ⟨w.heap.size,0,none⟩)] ev (cfF b chs) g 0 (idxD b op chs).size wr:=λm os dk hdk x y=>by
         have key:∀z:Fin chs.length,(sortWorld ev wr g 0 m dk os).cell? ⟨(b1.add (z.val*5)).block,(b1.add (z.val*5)).off+off,none⟩=some (.int .i64 (keyF b (chs.get z))):=λz=>by rw[Zye (by show(b1.add (z.val*5)).block≠g;rw[Zc];omega) (by show(b1.add (z.val*5)).block<_;rw[Zc];omega)];rw[HOF.out,E.out];first|exact rowS H.out hnx (J0c z.isLt) ha2 2 rfl|exact rowS H.out hnx (J0c z.isLt) ha2 0 rfl
         have hb2:(sortWorld ev wr g 0 m dk os).cell? ⟨w.heap.size,1,none⟩=some (.slice (some b1) k c2):=by rw[Zye (by show w.heap.size≠g;omega) (by show w.heap.size<_;omega),(Yc hbox rfl).1,ha2];rfl
         exact cloB hcl w.heap.size k c2 b1 x.val y.val _ _ _ hb2 (by omega) (by omega) (key x) (key y)
        have hcon:=Tryz.slices_SortFunc_small (α:=Fin chs.length) ev (λ_=>rfl) (cfF b chs) cf #[.pointer (some ⟨w.heap.size,0,none⟩)] g 0 cap (idxD b op chs) wr eg hcmp (Ywv hgh ht) (by rw[Zik];exact h12) Ysl;rw[Zik]at hcon;have HCON:=Lib.hid (Calls.mono (R' := λe w' => e = .returned (.tuple #[])/\w'.ownsRow w.heap.size 3 1 (.slice (some ⟨g,0,none⟩) (idxN b op chs chs.length).length cap) (sorF b op chs).length ((sorF b op chs).map iv)/\wr.grownBy w' (some g)) hcon λe w' ⟨he,m,hw⟩=>⟨he,by have:=R m;rw[Zik,<- hw]at this;exact this⟩);have HV:=Lib.hid hv;have HNX:=Lib.hid hnx;clear hcon hv hnx R hcmp eg hgh ht hown hbox;rw[HV.out];obtain rfl:=HCF.out;go_wp2_with(go_at_call 42;refine HCON.out.mono ?_;rintro e w' ⟨rfl,hown2,hgr⟩);go_ret;exact⟨_,rfl,hown2,HNX.out.grown hgr (by omega) (λj hj=>by injection hj with hj;omega)⟩
end Tj
namespace Tg
noncomputable section
open Go Go.Abs Go.RowKit Go.Proofs
def Zsj(b:Bool)(x:Gr)(op:Int):Option (List (Int×Unit)×Unit):=bif decide (x.2.1.length<1000000)&&decide ((Tj.idxN b op x.2.1 x.2.1.length).length<=12)then some ((Tj.sorF b op x.2.1).map λi:Nat=>((i:Int),()),())else none
def Yo(x:Gr)(op:Int):Option (List (Int×Unit)×Unit):=hid (Zsj true) x op
def Ya(x:Gr)(op:Int):Option (List (Int×Unit)×Unit):=hid (Zsj false) x op
theorem Z1e(x:Gr)(op:Int)(h1:x.2.1.length<1000000)(h2:(Tj.idxN true op x.2.1 x.2.1.length).length<=12):Yo x op=some ((Tj.sorF true op x.2.1).map λi:Nat=>((i:Int),()),()):=by rw[Yo,Za2,Zsj,decide_eq_true h1,decide_eq_true h2];rfl
theorem Zyf(x:Gr)(op:Int)(h1:x.2.1.length<1000000)(h2:(Tj.idxN false op x.2.1 x.2.1.length).length<=12):Ya x op=some ((Tj.sorF false op x.2.1).map λi:Nat=>((i:Int),()),()):=by rw[Ya,Za2,Zsj,decide_eq_true h1,decide_eq_true h2];rfl
theorem spJ(b:Bool)(f:FuncId)(hf:∀(a1:Option Addr) (n1 c1:Nat) (a2:Option Addr) (n2 c2:Nat) (op:Int) (chs:List Tj.Chn) (w:World),n2<1000000->Tj.SlAt w 5 Tj.chC a2 n2 chs->(Tj.idxN b op chs chs.length).length<=12 ->
      Calls Tryz.prog f #[.agg #[.slice a1 n1 c1,.slice a2 n2 c2],.int .i64 op] w λe w' => ∃v,e = .returned v/\w'.ownsRow w.heap.size 3 1 v (Tj.sorF b op chs).length ((Tj.sorF b op chs).map Tj.iv)/\Below w.heap.size w w')
    (x:Gr) (op:Int) (r:List (Int×Unit)×Unit) (h:Zsj b x op=some r):Spec Tryz.prog f [.a [.sl (x.1.map opP),.sl (x.2.1.map chP)],.c (.int .i64 op)] [.c (.s 3 1 (r.1.map λy=>[.int .i64 y.1]))]:=by
  rw[Zsj]at h;obtain⟨hc,h⟩:=Qo h;rw[J0e,J0h,J0h]at hc;obtain rfl:=J0a h;have e:(((Tj.sorF b op x.2.1).map λi:Nat=>((i:Int),())).map λy=>[PV.int .i64 y.1])=(Tj.sorF b op x.2.1).map λi:Nat=>[PV.int .i64 (i:Int)]:=by simp_all
  rw[e];refine Spec.row1 (pv:=λi:Nat=>PV.int .i64 (i:Int)) (vv:=Tj.iv) (λa w O=>.int _ _) λO w cargs hg hp=>?_;obtain⟨u,v,rfl,h1,h2⟩:∃u v,cargs=#[.agg #[u,v],.int .i64 op]/\PRel w O (.sl (x.1.map opP)) u/\PRel w O (.sl (x.2.1.map chP)) v:=by
   obtain⟨h1,h2⟩:=hp;obtain⟨l⟩:=cargs
   match l,h1 with
   |[u,z],_ =>
    have e1:=h2 0 _ u rfl rfl;have e2:=h2 1 _ z rfl rfl;cases e2 with
    |c _ _ hz =>
     cases hz with
     |int =>
      cases e1 with
      |a _ vs hl hr =>
       obtain⟨vs⟩:=vs
       match vs,hl with|[x,y],_=>exact⟨x,y,rfl,hr 0 _ x rfl rfl,hr 1 _ y rfl rfl⟩
  obtain⟨a1,n1,c1,rfl,g1⟩:=Yha (f:=Tj.opC) (sz:=2) (λ_=>rfl) (λx w O i v p a b u hu=>Ynq x w O i v p a b u hu) (λ_=>rfl) h1;obtain⟨a2,n2,c2,rfl,g2⟩:=Yha (f:=Tj.chC) (sz:=5) (λ_=>rfl) (λx w O i v p a b u hu=>Ynp x w O i v p a b u hu) (λ_=>rfl) h2;have e2:=g2.1;grind
def argJ:List AT:=[.a [.sl [.int .u8,.int .i64],.sl [.int .i64,.int .i64,.int .i64,.int .i64,.int .i64]],.c (.int .i64)]
def Ynw:TCon:=⟨argJ,[.c (.s 3 1 [.int .i64])],λa=>Yo a.1 a.2.1⟩
def Ynx:TCon:=⟨argJ,[.c (.s 3 1 [.int .i64])],λa=>Ya a.1 a.2.1⟩
theorem ok20:Ynw.ok Tryz.prog 20:=λa r h=>by
 obtain⟨⟨ops,chs,u⟩,op,u'⟩:=a;have key:∀(x:Gr) (op:Int) (r:List (Int×Unit)×Unit),Yo x op=some r->Spec Tryz.prog 20 [.a [.sl (x.1.map opP),.sl (x.2.1.map chP)],.c (.int .i64 op)] [.c (.s 3 1 (r.1.map λy=>[.int .i64 y.1]))]:=λx op r h=>by rw[Yo,Za2]at h;exact spJ true 20 (λa1 n1 c1 a2 n2 c2 op chs w h1 h2 h3=>Tj.Ynv (.inl ⟨rfl,rfl,rfl,rfl⟩) a1 n1 c1 a2 n2 c2 op chs w h1 h2 h3) x op r h
 exact key (ops,chs,()) op r h
theorem ok32:Ynx.ok Tryz.prog 35:=λa r h=>by
 obtain⟨⟨ops,chs,u⟩,op,u'⟩:=a;have key:∀(x:Gr) (op:Int) (r:List (Int×Unit)×Unit),Ya x op=some r->Spec Tryz.prog 35 [.a [.sl (x.1.map opP),.sl (x.2.1.map chP)],.c (.int .i64 op)] [.c (.s 3 1 (r.1.map λy=>[.int .i64 y.1]))]:=λx op r h=>by rw[Ya,Za2]at h;exact spJ false 35 (λa1 n1 c1 a2 n2 c2 op chs w h1 h2 h3=>Tj.Ynv (.inr ⟨rfl,rfl,rfl,rfl⟩) a1 n1 c1 a2 n2 c2 op chs w h1 h2 h3) x op r h
 exact key (ops,chs,()) op r h
def Zyg:TCon:=⟨argJ,[.c (.p (.sl [.int .i64]))],Ynw.fn⟩
theorem Yhc:Zyg.ok Tryz.prog 20:=TCon.frz (c:=Ynw) ok20 rfl
def Zyh:TCon:=⟨argJ,[.c (.p (.sl [.int .i64]))],Ynx.fn⟩
theorem Yhd:Zyh.ok Tryz.prog 35:=TCon.frz (c:=Ynx) ok32 rfl
end
end Tg
