import Derived.Test.YtlnihcefchoofaaGreatDoorDAbsA3
set_option linter.all false
namespace Go.Abs
open Go.RowKit (Below)
variable [GTab] [Glob]
section
variable {P:Program} {B:Nat} {w0 w:World} {h:List AObj} {ι:Em}
def AtC(P:Program)(xs:Array Value)(off:Nat)(t:TypeId)(a:Value):Prop :=
 ∃d i,P.underlying t=some d/\P.info? t=some i /\
  (if Qm d then ∃as,a = .agg as/\as.size=i.size /\ ∀k,k<i.size->as[k]? = xs[off+k]? else xs[off]? = some a)
variable {t:TypeId}{d:TypeDesc}
theorem Zp1{i:TypeInfo}(hd:P.underlying t=some d)(hda:Qm d=true)(hi:P.info? t=some i)(cs:Array Value)(off:Nat):(part t cs off).run P w = .ok (.agg (cs.extract off (off+i.size))) w:=by simp only[part,Sem.run_bind,Znj hd,Result.andThen_ok,hda,if_true,run_sizeOf hi,Sem.run_pure]
theorem Zp2(hd:P.underlying t=some d)(hda:Qm d=false)(cs:Array Value)(off:Nat){v:Value}(hv:cs[off]? = some v):(part t cs off).run P w = .ok v w:=by grind[part,Sem.run_bind,Znj,Result.andThen_ok,Sem.run_pure]
variable {xs:Array Value}{off:Nat}
theorem Zg2{as: Array Value}{size fo: Nat}{s:Nat}(has:as.size=size)(hat:∀k,k<size->as[k]? = xs[off+k]?)(hs:Z6 P t=some s)(hd:∃d,P.underlying t=some d)(hle:fo+s<=size)(h1:0<s) :
    ∃a,(part t as fo).run P w = .ok a w/\AtC P xs (off+fo) t a:=by
  obtain⟨d,hd⟩:=hd;obtain⟨i,hi,rfl⟩:∃i,P.info? t=some i/\i.size=s:=by simpa[Z6]using hs
  by_cases hda:Qm d=true;refine⟨_,Zp1 hd hda hi as fo,d,i,hd,hi,?_⟩;grind[Array.getElem?_extract];have hda:Qm d=false:=by grind
  have hlt:fo<as.size:=by omega
  refine⟨as[fo],Zp2 hd hda as fo (Array.getElem?_eq_getElem hlt),d,i,hd,hi,?_⟩;grind
theorem Zkt(xs ys:List AV):∀(a b:List (Nat×Nat)) (r:Bool),eqIx xs ys (a++b)=some r -> ∃r1 r2,eqIx xs ys a=some r1/\eqIx xs ys b=some r2/\r=(r1&&r2)
 |[],b,r,h=>⟨true,r,rfl,h,by simp⟩|(i,kd)::a,b,r,h=>by
  simp only[List.cons_append,eqIx]at h ⊢;split at h;rename_i x y hx hy;split at h;rename_i p q hp hq;obtain rfl:=J0a h;obtain⟨r1,r2,h1,h2,rfl⟩:=Zkt xs ys a b q hq;grind;grind;grind
def kindOf:TypeDesc->Option Nat|.int _=>some 0|.bool=>some 1|.string=>some 2|_=>none
variable {kd:TypeDesc}{kn:Nat}{x:AV}{a b:Value}{r:Bool}
theorem Yj5{O:Nat->Prop}(hd:P.underlying t=some kd)(hk:kindOf kd=some kn){y: AV}(ha:VRel h ι w O x a)(hb:VRel h ι w O y b)(hr:pvEq kn x y=some r)(d:Nat) :
    (Op.equalIn (d+1) t a b).run P w = .ok r w:=by
  unfold kindOf at hk;split at hk<;>first|(obtain rfl:=J0a hk)|cases hk
  unfold pvEq at hr;split at hr<;>first|(rename_i he;exact absurd he (by decide))|skip
  split at hr;rename_i hkk;subst hkk;obtain rfl:=J0a hr;cases ha with|p _ _ ha=>cases hb with|p _ _ hb=>cases ha;cases hb;grind[run_equalIn_int]
  grind;grind;unfold pvEq at hr;split at hr<;>first|grind|skip
  obtain rfl:=J0a hr;cases ha with|p _ _ ha=>cases hb with|p _ _ hb=>cases ha;cases hb;grind[run_equalIn_bool]
  unfold pvEq at hr;split at hr<;>first|grind|skip
  obtain rfl:=J0a hr;cases ha with|p _ _ ha=>cases hb with|p _ _ hb=>cases ha;cases hb;rw[run_equalIn_string w d t _ _ hd];simp_all
theorem Zrr{ys: Array Value}{c1 c2:List AV}(h1:Zaf h ι w c1 xs)(h2:Zaf h ι w c2 ys)(hd:P.underlying t=some kd)(hk:kindOf kd=some kn)(ha:AtC P xs off t a)(hb:AtC P ys off t b)
    (hr:eqIx c1 c2 [(off,kn)]=some r) (d:Nat):(Op.equalIn (d+1) t a b).run P w = .ok r w:=by
  have hna:Qm kd=false:=by cases kd<;>simp_all[kindOf,Qm]
  obtain⟨d1,i1,e1,_,ha⟩:=ha;obtain⟨d2,i2,e2,_,hb⟩:=hb;rw[hd]at e1 e2;obtain rfl:=J0a e1;obtain rfl:=J0a e2;simp only[hna,J0r,if_false]at ha hb;simp only[eqIx]at hr;split at hr;rename_i x y hx hy;split at hr;rename_i p q hp hq;obtain rfl:=J0a hq;obtain rfl:=J0a hr;rw[Bool.and_true];exact Yj5 hd hk (h1.2 off x a hx ha) (h2.2 off y b hy hb) hp d;grind;grind
theorem Znk:∀{d:Nat} {ix:List (Nat×Nat)},Qu P d t off=some ix->(∃dd,P.underlying t=some dd):=by
 intro d ix he;cases d with|zero=>simp[Qu]at he|succ d=>grind[Qu]
theorem Zs8{xs ys:Array Value}{c1 c2:List AV}(h1:Zaf h ι w c1 xs)(h2:Zaf h ι w c2 ys)(dd:Nat):∀(d:Nat) (t:TypeId) (off:Nat) (ix:List (Nat×Nat)),Qu P d t off=some ix -> ∀(a b:Value),AtC P xs off t a->AtC P ys off t b ->
    ∀r:Bool,eqIx c1 c2 ix=some r->(Op.equalIn (dd+d) t a b).run P w = .ok r w
  |0,t,off,ix,he=>by simp[Qu]at he|d+1,t,off,ix,he=>by
   intro a b ha hb r hr;have ih:=Zs8 h1 h2 dd d;simp only[Qu]at he;rw[<- Nat.add_assoc];split at he;rename_i k hd;obtain rfl:=J0a he;exact Zrr h1 h2 hd rfl ha hb hr _;rename_i hd;obtain rfl:=J0a he;exact Zrr h1 h2 hd rfl ha hb hr _;rename_i hd;obtain rfl:=J0a he;exact Zrr h1 h2 hd rfl ha hb hr _;rename_i fs hd;split at he;rename_i size hsz;split at he;cases he;rename_i hst;have hst:P.stoodInHeld t=false:=by grind
   obtain⟨d1,i1,e1,hi1,ha⟩:=ha;obtain⟨d2,i2,e2,hi2,hb⟩:=hb;rw[hd]at e1 e2;obtain rfl:=J0a e1;obtain rfl:=J0a e2;simp only[Qm,if_true]at ha hb;obtain⟨as,rfl,hasz,haat⟩:=ha;obtain⟨bs,rfl,hbsz,hbat⟩:=hb;have hs1:i1.size=size:=by grind[Z6]
   have hs2:i2.size=size:=by grind
   rw[hs1]at hasz haat;rw[hs2]at hbsz hbat;have hfo:P.fieldsOf t=fs:=by grind[Program.fieldsOf]
   rw[run_equalIn_struct w (dd+d) t as bs (by grind) hst,hfo];have key:∀(l:List Field) (ix:List (Nat×Nat)) (r:Bool),eqFs size (Z6 P) (Qu P d) off l=some ix->eqIx c1 c2 ix=some r->(Op.eqFields (dd+d) as bs l).run P w = .ok r w:=by
    intro l
    induction l with|nil=>intro ix r hix hr;simp only[eqFs,J0b]at hix;subst hix;simp only[eqIx,J0b]at hr;subst hr;rfl|cons f l ihl => intro ix r hix hr;simp only[eqFs]at hix;simp only[Op.eqFields];split at hix;rename_i hne;rw[if_pos hne];split at hix;rename_i s ia ib hsf hia hib;split at hix;rename_i hle;obtain rfl:=J0a hix;obtain⟨r1,r2,hr1,hr2,rfl⟩:=Zkt _ _ _ _ _ hr;obtain⟨a',pa,ha'⟩:=Zg2 (w:=w) hasz haat hsf (Znk hia) hle.1 hle.2;obtain⟨b',pb,hb'⟩:=Zg2 (w:=w) hbsz hbat hsf (Znk hia) hle.1 hle.2;have h3:=ih f.type _ ia hia a' b' ha' hb' r1 hr1;simp only[Sem.run_bind,pa,pb,h3,Result.andThen_ok];cases r1;simp;grind;grind;grind;grind
   grind;grind;rename_i n e hd;split at he;rename_i size s hsz hse;split at he;rename_i hle;obtain⟨d1,i1,e1,hi1,ha⟩:=ha;obtain⟨d2,i2,e2,hi2,hb⟩:=hb;rw[hd]at e1 e2;obtain rfl:=J0a e1;obtain rfl:=J0a e2;simp only[Qm,if_true]at ha hb;obtain⟨as,rfl,hasz,haat⟩:=ha;obtain⟨bs,rfl,hbsz,hbat⟩:=hb;have hs1:i1.size=size:=by grind[Z6]
   have hs2:i2.size=size:=by grind
   rw[hs1]at hasz haat;rw[hs2]at hbsz hbat;obtain⟨ie,hie,hies⟩:∃i,P.info? e=some i/\i.size=s:=by simpa[Z6]using hse
   have hco:P.cellsOf e=s:=by grind[Program.cellsOf]
   rw[run_equalIn_array w (dd+d) as bs hd hie,hco];have key:∀(l:List Nat) (ix:List (Nat×Nat)) (r:Bool),(∀k∈l,k<n)->eqAs (Qu P d e) off s l=some ix->eqIx c1 c2 ix=some r->(Op.eqItems (dd+d) e s as bs l).run P w = .ok r w:=by
    intro l
    induction l with
    |nil=>intro ix r _ hix hr;simp only[eqAs,J0b]at hix;subst hix;simp only[eqIx,J0b]at hr;subst hr;rfl|cons k l ihl =>
     intro ix r hall hix hr;simp only[eqAs]at hix;split at hix;rename_i ia ib hia hib;obtain rfl:=J0a hix;obtain⟨r1,r2,hr1,hr2,rfl⟩:=Zkt _ _ _ _ _ hr;have hk:k*s+s<=size:=by have:(k+1)*s<=n*s:=Nat.mul_le_mul_right _ (hall k (by simp));grind
     obtain⟨a',pa,ha'⟩:=Zg2 (w:=w) hasz haat hse (Znk hia) hk hle.2;obtain⟨b',pb,hb'⟩:=Zg2 (w:=w) hbsz hbat hse (Znk hia) hk hle.2;have h3:=ih e _ ia hia a' b' ha' hb' r1 hr1;simp only[Op.eqItems,Sem.run_bind,pa,pb,h3,Result.andThen_ok];cases r1;simp;grind;grind
   grind;grind;grind;grind
variable {vx vy:Value}
theorem Yh7{size:Nat}{ix:List (Nat×Nat)}{xs ys:List AV}(hx:VR h ι w (.agg xs) vx)(hy:VR h ι w (.agg ys) vy)(hsz:Z6 P t=some size)(hl:xs.length=size/\ys.length=size)
    (he:Qu P 100 t 0=some ix) (hag:∃d,P.underlying t=some d/\Qm d=true) (hg:P.eqGuardType P.depth t=false) (hr:eqIx xs ys ix=some r) (neg:Bool) (x y:Operand) :
    (do eqGuard (if neg then .neq else .eql) t x y vx vy;binOp (if neg then .neq else .eql) t vx vy:Sem Value).run P w = .ok (.bool (if neg then !r else r)) w:=by
  cases hx with
  |agg _ as h1 h2 =>
   cases hy with
   |agg _ bs h3 h4 =>
    obtain⟨d,hd,hda⟩:=hag;obtain⟨i,hi,his⟩:∃i,P.info? t=some i/\i.size=size:=by simpa[Z6]using hsz
    have ha:AtC P as 0 t (.agg as):=⟨d,i,hd,hi,by grind⟩;have hb:AtC P bs 0 t (.agg bs):=⟨d,i,hd,hi,by grind⟩;have hrun:=Zs8 (P:=P) ⟨h1,h2⟩ ⟨h3,h4⟩ 9900 100 t 0 ix he _ _ ha hb r hr;grind[Sem.run_bind,run_eqGuard_agg,Result.andThen_ok,run_eql_struct,run_neq_struct]
theorem Yj6{op:BinOp}{y: AV}(hx:VR h ι w x vx)(hy:VR h ι w y vy){r:PV}(hr:binA op x y=some r)(ox oy:Operand) :
    ∃v,(do eqGuard op t ox oy vx vy;binOp op t vx vy:Sem Value).run P w = .ok v w/\VR h ι w (.p r) v:=by
  unfold binA at hr;split at hr
  . rename_i k a k' b;cases hx with|p _ _ hx=>cases hy with|p _ _ hy =>
     cases hx;cases hy;rw[eqGuard_at_int];split at hr
     . rename_i hs;unfold Z33 at hr;split at hr
       . cases hr
       . rename_i hb;cases op<;>simp[Zur]at hs<;>simp only[J0b]at hr<;>subst hr
         . exact⟨_,by simp[binOp,Op.shift,hb],.p _ _ (.int _ _)⟩
         . exact⟨_,by simp[binOp,Op.shift,hb],.p _ _ (.int _ _)⟩
     . rename_i hs;split at hr
       . rename_i hk;subst hk;cases op<;>simp[Zur]at hs<;>simp only[binI]at hr;all_goals first
          | (simp only[J0b]at hr;subst hr;refine⟨_,?_,.p _ _ (.int _ _)⟩;first|(simp[binOp,Op.intArith,Op.intCmp];done)|simp only[Sem.run_bind,Sem.run_pure,Result.andThen_ok,binOp_and,binOp_or,binOp_xor,binOp_andNot,intBits_and,intBits_or,intBits_xor,intBits_andNot])
          | (simp only[J0b]at hr;subst hr;refine⟨_,?_,.p _ _ (.bool _)⟩;simp[binOp,Op.intArith,Op.intCmp];done)
          | (split at hr
             . cases hr
             . rename_i h0;simp only[J0b]at hr;subst hr;exact⟨_,by simp[binOp,Op.intDiv,h0],.p _ _ (.int _ _)⟩)
          | (cases hr;done)
       grind
  . rename_i a b;cases hx with|p _ _ hx=>cases hy with|p _ _ hy =>
     cases hx;cases hy;rw[eqGuard_at_string];cases op<;>simp only[binS]at hr;all_goals first
      | (cases hr;done)
      | (simp only[J0b]at hr;subst hr;exact⟨_,by simp[binOp,Op.stringOp,ByteArray.toList_eq],.p _ _ (.bool _)⟩)
      | (split at hr
         . rename_i hle;simp only[J0b]at hr;subst hr;refine⟨.string ⟨(a++b).toArray⟩,?_,.p _ _ (.str _)⟩;have hsz:¬(((ByteArray.mk a.toArray).size+(ByteArray.mk b.toArray).size:Nat):Int)>IntKind.i64.max:=by simp[ByteArray.size,IntKind.max_i64];omega
           have hap:(ByteArray.mk a.toArray)++(ByteArray.mk b.toArray)=ByteArray.mk (a++b).toArray:=by apply ByteArray.ext;simp
           simp only[Sem.run_bind,Sem.run_pure,Result.andThen_ok,binOp,Op.stringOp];simp_all
         grind)
  grind
end
end Go.Abs
namespace Go.Abs
open Go.RowKit (Below)
variable [GTab] [Glob]
def Res(B:Nat)(h:List AObj)(ι:Em)(w:World)(T:Nat)(y:AV)(eff:Eff)(cv:Value)(w' : World):Prop := match eff with|.none=>w' = w/\VR h ι w y cv|.grow=>w.grownBy w' none/\VR h ι w' y cv|.new o=>o.ver=1 /\ ∃sv,Zn7 B h ι w o sv w' /\ ((y = .row T 1/\cv=sv)∨(y = .ptr T 1 0 0/\PtrTo o sv 0 0 cv))|.upd t o' => ∃sv,Zvf B h ι w t o' sv w' /\ ((y = .row t o'.ver/\cv=sv)∨VR h ι w y cv)
section
variable {P:Program} {B:Nat} {w0 w:World} {h:List AObj} {ι:Em}
def Xp(P:Program)(B:Nat)(h:List AObj)(ι:Em)(w:World)(T:Nat)(a:Act)(o:Oper)(y:AV)(eff:Eff):Prop:=∃cv w',((execOp a.eval o).run P w = .ok (.value cv) w' ∨ ((execOp a.eval o).run P w = .ok .skip w' /\ cv=undef))/\Res B h ι w T y eff cv w'
theorem Zh{T:Nat}{a:Act}{o:Oper}{y:AV}{eff:Eff}{s:Sem Value}(hs:execOp a.eval o=(do pure (.value (<- s)):Sem Next)){cv:Value}{w' : World}(hr:s.run P w = .ok cv w')(hres:Res B h ι w T y eff cv w'):Xp P B h ι w T a o y eff:=⟨cv,w',.inl (by simp_all),hres⟩
theorem bind_some{α β:Type}{x:Option α}{f:α->Option β}{y:β}:(x >>= f)=some y ↔ ∃a,x=some a/\f a=some y:=by cases x<;>simp[bind,Option.bind]
variable {t:TypeId}{n:Nat}
theorem X3(hs:Z6 P t=some n):∃i,P.info? t=some i/\i.size=n:=by simpa[Z6]using hs
theorem Zz2{e: TypeId}(hd:P.underlying t=some (.slice e))(w:World)(ad:Option Addr)(n c:Nat):(Op.equal t (.slice ad n c) (.slice none 0 0)).run P w = .ok ad.isNone w:=by show(Op.equalIn 10000 t (.slice ad n c) (.slice none 0 0)).run P w=_;rw[show(10000:Nat)=9999+1 from rfl,Op.equalIn];simp only[Sem.run_bind,run_underlying hd,Result.andThen_ok];cases ad<;>rfl
variable {neg b:Bool}
theorem Zt6{e: TypeId}{op:BinOp}{ad:Option Addr}{c: Nat}(hd:P.underlying t=some (.slice e))(hop:op=(if neg then .neq else .eql))(hb:ad.isNone=b)(x z:Operand) :
    (do eqGuard op t x z (.slice ad n c) (.slice none 0 0);binOp op t (.slice ad n c) (.slice none 0 0):Sem Value).run P w = .ok (.bool (if neg then !b else b)) w:=by
  subst hb;subst hop;have hg:∀(op:BinOp),(eqGuard op t x z (.slice ad n c) (.slice none 0 0)).run P w = .ok () w:=λop=>by cases op<;>rfl
  have he:=Zz2 (P:=P) hd w ad n c;rw[Sem.run_bind,hg,Result.andThen_ok];cases neg;show(do pure (.bool (<- Op.equal t (.slice ad n c) (.slice none 0 0))):Sem Value).run P w=_;simp_all;show(do pure (.bool (!(<- Op.equal t (.slice ad n c) (.slice none 0 0)))):Sem Value).run P w=_;simp_all
theorem Zvj:∀{es:List (List AV)} {l:List UInt8},Zkp es=some l -> ∃ns:List Int,es=ns.map (λn=>[AV.p (.int .u8 n)])/\l=ns.map (λn=>UInt8.ofNat n.toNat)
 |[],l,h=>by obtain rfl:=J0a h;simp_all|e::es,l,h=>by
  unfold Zkp at h;split at h;grind;rename_i n es' heq;obtain⟨rfl,rfl⟩:=List.cons.inj heq;obtain⟨l',hl',rfl⟩:=J0f.1 h;obtain⟨ns,rfl,rfl⟩:=Zvj hl';exact⟨n::ns,rfl,rfl⟩;grind
theorem Zs9:∀(ns:List Int) (r:ByteArray),ns.foldl (λr n=>r.push (UInt8.ofNat n.toNat)) r=⟨r.data++(ns.map (λn=>UInt8.ofNat n.toNat)).toArray⟩|[],r=>by simp|n::ns,r=>by simp only[List.map_cons,List.foldl_cons];rw[Zs9 ns];simp_all
variable {x:AV}{d:TypeId}
theorem Yj7(hr:HRel B w0 h ι w){v:Value}(hv:VR h ι w x v){es:List (List AV)}(he:Ye h x=some es){l:List UInt8}(hb:Zkp es=some l){s e: TypeId}(hs:P.underlying s=some (.slice e))(hu:P.underlying e=some (.int .u8))(hd:P.underlying d=some .string) :
    (convert s d v).run P w = .ok (.string ⟨l.toArray⟩) w:=by
  obtain⟨a,c,rfl,hc,hrest⟩:=Zax hr hv he;obtain⟨ns,rfl,rfl⟩:=Zvj hb;rw[run_convert_bytes_string w s d e a _ c hs hu hd];cases ns with
  |nil => cases a with|none=>rfl|some ad=>have:=run_bytesToString (P:=P) w ad 0 c [] (by rfl);exact this
  |cons n0 ns0 =>
   obtain⟨sz,ad,u,_,rfl,hel,hcell⟩:=hrest (by simp);have hsz:sz=1:=by have:=hel 0 _ rfl;grind
   subst hsz;have hl:=run_loadCells_list (P:=P) (w:=w) ad ((n0::ns0).map (Value.int .u8)) (λj v hj=>by rw[J0m,J0f]at hj;obtain⟨n,hn,rfl⟩:=hj;obtain⟨h1,h2⟩:=hcell j [AV.p (.int .u8 n)] (by grind) 0 _ rfl;rw[Nat.mul_one,Nat.add_zero]at h1;rw[h1];generalize u j 0=z at h2;cases h2 with|p _ _ h2=>cases h2;rfl);rw[List.length_map]at hl;rw[List.length_map,run_bytesToString w ad _ c (n0::ns0) hl,Zs9];simp
variable {ms:Array (String×TypeId)}{O:Nat->Prop}
theorem Z34(hd:P.underlying t=some (.interface ms))(w:World){h:List AObj}{ι:Em}{v:Value}(hv:VRel h ι w O (.ifc b) v):(Op.equal t v .nilIface).run P w = .ok (!b) w:=by show(Op.equalIn 10000 t v .nilIface).run P w=_;rw[show(10000:Nat)=9999+1 from rfl,Op.equalIn];simp only[Sem.run_bind,run_underlying hd,Result.andThen_ok];cases hv<;>rfl
theorem Yqv{op:BinOp}{v:Value}(hd:P.underlying t=some (.interface ms))(hop:op=(if neg then .neq else .eql))(hv:VRel h ι w O (.ifc b) v)(x:Operand)(zc:Value) :
    (do eqGuard op t x (.const zc) v .nilIface;binOp op t v .nilIface:Sem Value).run P w = .ok (.bool (if neg then b else !b)) w:=by
  subst hop;have he:=Z34 (P:=P) hd w hv;have hg:∀(op:BinOp),(eqGuard op t x (.const zc) v .nilIface).run P w = .ok () w:=λop=>by cases hv<;>cases op<;>cases x<;>rfl
  rw[Sem.run_bind,hg,Result.andThen_ok];cases neg;have hb:binOp .eql t v .nilIface=(do pure (.bool (<- Op.equal t v .nilIface)):Sem Value):=by cases hv<;>rfl
  simp_all;have hb:binOp .neq t v .nilIface=(do pure (.bool (!(<- Op.equal t v .nilIface))):Sem Value):=by cases hv<;>rfl
  simp_all
theorem Ybf(hr:HRel B w0 h ι w){s:List UInt8}{v:Value}(hv:VR h ι w (.p (.str s)) v){e: TypeId}(hs:P.underlying t=some .string)(hd:P.underlying d=some (.slice e))(hu:P.underlying e=some (.int .u8)) :
    ∃cv w',(convert t d v).run P w = .ok cv w' /\ w.grownBy w' none/\VR h ι w' (.p (.sl (s.map λb=>[.int .u8 b.toNat]))) cv:=by
  cases hv with|p _ _ hv=>cases hv with|str _ =>
   have hrun:=run_bytes_of_string (P:=P) w t d e ⟨s.toArray⟩ hs hd hu;have hsz:(ByteArray.mk s.toArray).size=s.length:=by simp[ByteArray.size]
   rw[hsz]at hrun;have hge:=grownCap_ge w s.length 0 e;refine⟨_,_,hrun,⟨rfl,rfl,rfl,by simp,λk hk _=>Below.heap_alloc w.drew _ k hk⟩,.p _ _ (.sl _ _ _ _ 1 (λi _=>.int .u8 ((s.getD i 0).toNat:Int)) ?_ ?_ (by simp) hge (λi e he=>?_) (λi e he j x hx=>?_) (λi e he j x hx=>?_))⟩;rintro(ho|⟨t',ht',hb⟩);have h1:=hr.old _ ho;have h2:=hr.size;simp at h1;omega;have:=(hr.own ht' hb).2;simp at this;simp;grind;rw[J0m,J0f]at he;obtain⟨b,hb,rfl⟩:=he;have hi:=(J0d.1 hb).1;cases j with|zero=>rw[Nat.mul_one,Nat.add_zero,Addr.add_lit,Nat.zero_add];generalize hO:Obj.cells (bytesRow ⟨s.toArray⟩ (grownCap w s.length 0 e)) e ((bytesRow ⟨s.toArray⟩ (grownCap w s.length 0 e)).size,(bytesRow ⟨s.toArray⟩ (grownCap w s.length 0 e)).size+1)=ob;have hh:(w.drew.alloc ob).heap[w.heap.size]? = some ob:=heap_alloc_new w.drew ob;grind[bytesRow,World.cell?]|succ j=>simp at hx
   rw[J0m,J0f]at he;obtain⟨b,hb,rfl⟩:=he;cases j with|zero=>simp only[J0q,J0b]at hx;subst hx;rw[List.getD_eq_getElem?_getD,hb];exact .int _ _|succ j=>simp at hx
theorem Yh8(hr:HRel B w0 h ι w){v:Value}(hv:VR h ι w x v)(hb:nilP h x=some b):∃q:Option Addr,v = .pointer q/\q.isNone=b:=by
 cases x
 case nptr=>cases hv;grind[nilP]
 case fptr cs=>cases hv;grind[nilP]
 case gp g off=>cases hv;grind[nilP]
 case ptr t ver i off =>
  simp only[nilP]at hb;split at hb;rename_i o hgo;simp only[J0b]at hb;subst hb;obtain⟨hot,hov⟩:=Zi hgo;cases hv with|ptr _ _ _ _ _ ht hone hob=>obtain⟨g,N,C,hsv,rfl,hil⟩:=(hob o hot).2 hov;exact⟨_,rfl,rfl⟩
  cases hb
 all_goals simp[nilP]at hb
theorem Zz3{e: TypeId}{op:BinOp}{q:Option Addr}(hd:P.underlying t=some (.pointer e))(hop:op=(if neg then .neq else .eql))(hb:q.isNone=b)(x z:Operand) :
    (do eqGuard op t x z (.pointer q) (.pointer none);binOp op t (.pointer q) (.pointer none):Sem Value).run P w = .ok (.bool (if neg then !b else b)) w:=by
  subst hb;subst hop;have hg:∀(op:BinOp),(eqGuard op t x z (.pointer q) (.pointer none)).run P w = .ok () w:=λop=>by cases op<;>rfl
  have he:(Op.equal t (.pointer q) (.pointer none)).run P w = .ok q.isNone w:=by show(Op.equalIn 10000 t (.pointer q) (.pointer none)).run P w=_;rw[show(10000:Nat)=9999+1 from rfl,Op.equalIn];simp only[Sem.run_bind,run_underlying hd,Result.andThen_ok];cases q<;>rfl
  rw[Sem.run_bind,hg,Result.andThen_ok];cases neg;show(do pure (.bool (<- Op.equal t (.pointer q) (.pointer none))):Sem Value).run P w=_;rw[Sem.run_bind,he];rfl;show(do pure (.bool (!(<- Op.equal t (.pointer q) (.pointer none)))):Sem Value).run P w=_;rw[Sem.run_bind,he];rfl
theorem Z35{ps rs:Array TypeId}{vd:Bool}{op:BinOp}{y:AV}{v:Value}(hd:P.underlying t=some (.func ps rs vd))(hop:op=(if neg then .neq else .eql))(hv:VRel h ι w O y v)(hb:nilF y=some b)(x z:Operand) :
    (do eqGuard op t x z v .nilFunc;binOp op t v .nilFunc:Sem Value).run P w = .ok (.bool (if neg then !b else b)) w:=by
  subst hop;have hg:∀(op:BinOp),(eqGuard op t x z v .nilFunc).run P w = .ok () w:=λop=>by cases hv<;>first|grind[nilF]|(cases op<;>rfl)
  have he:(Op.equal t v .nilFunc).run P w = .ok b w:=by show(Op.equalIn 10000 t v .nilFunc).run P w=_;rw[show(10000:Nat)=9999+1 from rfl,Op.equalIn];simp only[Sem.run_bind,run_underlying hd,Result.andThen_ok];cases hv<;>first|grind[nilF]|(simp only[nilF,J0b]at hb;subst hb;rfl)
  rw[Sem.run_bind,hg,Result.andThen_ok];cases neg;have hbn:binOp .eql t v .nilFunc=(do pure (.bool (<- Op.equal t v .nilFunc)):Sem Value):=by cases hv<;>first|grind[nilF]|rfl
  show(binOp .eql t v .nilFunc).run P w=_;rw[hbn,Sem.run_bind,he];rfl;have hbn:binOp .neq t v .nilFunc=(do pure (.bool (!(<- Op.equal t v .nilFunc))):Sem Value):=by cases hv<;>first|grind[nilF]|rfl
  show(binOp .neq t v .nilFunc).run P w=_;rw[hbn,Sem.run_bind,he];rfl
theorem Yh9(hr:HRel B w0 h ι w){v:Value}(hv:VR h ι w x v)(hb:nilA h x=some b):∃ad n c,v = .slice ad n c/\ad.isNone=b:=by
 cases x
 case nil=>cases hv;grind[nilA]
 case ne=>cases hv;grind[nilA]
 case nl=>cases hv;grind[nilA]
 case p u =>
  cases u with
  |sl es => cases es with|nil=>simp[nilA]at hb|cons e es=>simp only[nilA,J0b]at hb;subst hb;cases hv with|p _ _ hp=>cases hp with|sl _ ad n c size u=>grind
  |_=>simp[nilA]at hb
 case xf es => cases es with|nil=>simp[nilA]at hb|cons e es=>simp only[nilA,J0b]at hb;subst hb;cases hv with|xf _ _ _ hp=>cases hp with|sl _ ad n c size u=>grind
 case row t ver =>
  simp only[nilA]at hb;split at hb;rename_i o hgo;split at hb;cases hb;rename_i hne;simp only[J0b]at hb;subst hb;obtain⟨hot,hov⟩:=Zi hgo;cases hv with
  |row _ _ _ ht hone hob =>
   have hvt:=(hob o hot).2 hov;rcases hr.objs t o hot with⟨h0,_⟩|⟨hs,xs,ho,_⟩
   grind[Zq];rcases ho.2 with⟨_,h0⟩|⟨g,cap,cur,hv,_⟩
   grind;grind
  grind
 case sl t ver lo len ex =>
  simp only[nilA]at hb;split at hb;rename_i o hgo;split at hb;cases hb;rename_i hlen;simp only[J0b]at hb;subst hb;obtain⟨hot,hov⟩:=Zi hgo;cases hv with|sl _ _ _ _ _ _ ht hone hob=>obtain⟨g,N,C,c,hsv,hv,_⟩:=((hob o hot).2 hov).pos (.inl (by omega));grind
  grind
 all_goals simp[nilA]at hb
section
variable {slots:List AV} {a:Act} (hsl:∀(i:Nat) (x:AV) (v:Value),slots[i]? = some x->a.tmps[i]? = some v->VR h ι w x v) (hl:a.tmps.size=slots.length)
include hsl hl
theorem Z11:∀{ps:List (Nat×Operand)} {fs:Array Field} {qs:List (Nat×Nat×AOpd)},Zh4 P fs ps=some qs ->
    ps.length=qs.length/\(∀f∈ps,∃g,fs[f.1]? = some g) /\ ∀(k:Nat) (p:Nat×Value) (q:Nat×Nat×AV),(ps.map λp=>(p.1,a.eval p.2))[k]? = some p->(qs.map λq=>(q.1,q.2.1,q.2.2.eval slots))[k]? = some q ->
     (∃f,fs[p.1]? = some f/\q.1=f.offset/\Z6 P f.type=some q.2.1)/\VR h ι w q.2.2 p.2
  |[],fs,qs,hc=>by grind[Zh4]|(i,x)::ps,fs,qs,hc=>by
   simp only[Zh4]at hc;split at hc;rename_i f y r hf hy hr;split at hc;rename_i s hs;obtain rfl:=J0a hc;obtain⟨h1,h2,h3⟩:=Z11 hr;grind[Zf];grind;grind
theorem Zvk{size:Nat}:∀{ps:List (Nat×Operand)} {qs:List (Nat×Nat×AOpd)},Zf3 size ps=some qs ->
    ps.length=qs.length /\ ∀(k:Nat) (p:Nat×Value) (q:Nat×Nat×AV),(ps.map λp=>(p.1,a.eval p.2))[k]? = some p->(qs.map λq=>(q.1,q.2.1,q.2.2.eval slots))[k]? = some q ->
     (q.1=p.1*size/\q.2.1=size)/\VR h ι w q.2.2 p.2
  |[],qs,hc=>by grind[Zf3]|(i,x)::ps,qs,hc=>by
   simp only[Zf3]at hc;split at hc;rename_i y r hy hr;obtain rfl:=J0a hc;obtain⟨h1,h3⟩:=Zvk hr;refine⟨by simp[h1],λk p q hp hq=>?_⟩;grind[Zf];grind
theorem Zvl:∀{ps:List (Nat×Operand)} {qs:List (Nat×AOpd)},Zf4 ps=some qs ->
    ps.length=qs.length /\ ∀(k:Nat) (p:Nat×Value) (q:Nat×AV),(ps.map λp=>(p.1,a.eval p.2))[k]? = some p->(qs.map λq=>(q.1,q.2.eval slots))[k]? = some q ->
     p.1=q.1/\VR h ι w q.2 p.2
  |[],qs,hc=>by grind[Zf4]|(i,x)::ps,qs,hc=>by
   simp only[Zf4]at hc;split at hc;rename_i y r hy hr;obtain rfl:=J0a hc;obtain⟨h1,h3⟩:=Zvl hr;grind[Zf];grind
theorem Zku{x:Option Operand}{y:Option AOpd}(hc:optO x=some y):OptR h ι w (·.eval slots) y (x.map a.eval):=by
 cases x with|none=>simp only[optO,J0b]at hc;subst hc;trivial|some x=>simp only[optO,J0f]at hc;obtain⟨z,hz,rfl⟩:=hc;exact Zf hsl hl hz
theorem Zay{xs:List Operand}{ys:List AOpd}(hc:xs.mapM opd=some ys):(xs.map a.eval).length=(ys.map (·.eval slots)).length /\ ∀(i:Nat) (x:AV) (v:Value),(ys.map (·.eval slots))[i]? = some x->(xs.map a.eval)[i]? = some v->VR h ι w x v:=by grind[Zvh,Zf]
end
end
end Go.Abs
namespace Go.Abs
open Go.RowKit (Below)
variable [GTab] [Glob]
section
variable {P:Program} {B:Nat} {w0 w:World} {h:List AObj} {ι:Em} {slots:List AV} {a:Act} {o:Oper} {ao:AOp} {T:Nat} {y:AV} {eff:Eff}
variable (hr:HRel B w0 h ι w) (hsl:∀(i:Nat) (x:AV) (v:Value),slots[i]? = some x->a.tmps[i]? = some v->VR h ι w x v) (hl:a.tmps.size=slots.length)
variable (hc:Zo P o=some ao) (he:Zb h T (AOpd.eval slots) ao=some (y,eff))
include hr hsl hl hc he
theorem Z67{x:Operand}(hop:o.op = .move x∨o.op = .assign x):Xp P B h ι w T a o y eff:=by
 have hc' : (do return .mv (<- opd x):Option AOp)=some ao:=by grind[Zo]
 obtain⟨X,hX,rfl⟩:∃X,opd x=some X/\AOp.mv X=ao:=by grind[Option.bind_eq_some_iff]
 simp only[Zb,J0b,J0i]at he;obtain⟨rfl,rfl⟩:=he;exact⟨a.eval x,w,.inl (by rcases hop with hop|hop<;>simp[execOp,hop]),rfl,Zf hsl hl hX⟩
theorem Yj8{c x z:Operand}(hop:o.op = .pick c x z):Xp P B h ι w T a o y eff:=by
 simp only[Zo,hop]at hc;obtain⟨C,hC,X,hX,Z,hZ,rfl⟩:∃C,opd c=some C /\ ∃X,opd x=some X /\ ∃Z,opd z=some Z/\AOp.pick C X Z=ao:=by grind[Option.bind_eq_some_iff]
 simp only[Zb]at he;split at he;rename_i b hb;simp only[J0b,J0i]at he;obtain⟨rfl,rfl⟩:=he;have h1:=Zf hsl hl hC;rw[hb]at h1;generalize hv:a.eval c=cv at h1;cases h1 with|p _ _ h1=>cases h1;refine⟨if b then a.eval x else a.eval z,w,.inl (by simp[execOp,hop,hv,asBool]),rfl,?_⟩;grind[Zf]
 grind
theorem Z36{e n:Nat}{x:AOpd}{v:Value}(hao:ao = .box e n x)(hv:VR h ι w (x.eval slots) v)(hx:execOp a.eval o=(do pure (.value (<- (do pure (.pointer (some (<- newVar e v))):Sem Value))):Sem Next)):Xp P B h ι w T a o y eff:=by
 subst hao;simp only[Zb]at he;split at he;rename_i cs hcs;split at he;rename_i hcond;simp only[J0b,J0i]at he;obtain⟨rfl,rfl⟩:=he;refine Zh hx (cv:=.pointer (some ⟨w.heap.size,0,none⟩)) (w' := w.alloc (.cells v.cells e)) (by simp[newVar,newRow]) ⟨rfl,_,Yfg (e:=e) hr hv hcs hcond.1 hcond.2,.inr ⟨rfl,_,_,_,rfl,?_,by simp⟩⟩;simp;grind;grind
theorem Yqw{e:TypeId}{x:Operand}(hop:o.op = .box e x):Xp P B h ι w T a o y eff:=by
 have hc0:=hc;simp only[Zo,hop]at hc;obtain⟨n,hn,X,hX,rfl⟩:∃n,Z6 P e=some n /\ ∃X,opd x=some X/\AOp.box e n X=ao:=by grind[Option.bind_eq_some_iff]
 exact Z36 hr hsl hl hc0 he rfl (Zf hsl hl hX) (by grind[execOp,Instr.box])
theorem Yia{e:TypeId}(hop:o.op = .alloc e):Xp P B h ι w T a o y eff:=by
 simp only[Zo,hop]at hc;obtain⟨n,hn,z,hz,rfl⟩:∃n,Z6 P e=some n /\ ∃z,zeroOf P e=some z/\AOp.box e n (.c z)=ao:=by grind[Option.bind_eq_some_iff]
 simp only[Zb,AOpd.eval]at he;split at he;rename_i cs hcs;split at he;rename_i hcond;simp only[J0b,J0i]at he;obtain⟨rfl,rfl⟩:=he;obtain⟨i,zv,hi,hzv,hcr,hvr,_⟩:=Zdw (h:=h) (ι:=ι) (w:=w) hz hcs;refine Zh (s:=Instr.alloc e true (.tuple #[])) (by grind[execOp]) (cv:=.pointer (some ⟨w.heap.size,0,none⟩)) (w' := w.alloc (.cells zv.cells e)) (by simp[Instr.alloc,newVar,newRow,Zee hi hzv]) ⟨rfl,_,Yfg (e:=e) hr hvr hcs hcond.1 hcond.2,.inr ⟨rfl,_,_,_,rfl,?_,by simp⟩⟩;simp;grind;grind
variable {t:TypeId}
theorem Yj9{x:Operand}(hop:o.op = .load t x):Xp P B h ι w T a o y eff:=by
 simp only[Zo,hop]at hc;obtain⟨m,hm,X,hX,rfl⟩:∃m,Zco P t=some m /\ ∃X,opd x=some X/\AOp.load m X=ao:=by grind[Option.bind_eq_some_iff]
 obtain⟨rfl,cv,hrun,hv⟩:=Zve hr hm (Zf hsl hl hX) rfl he;exact Zh (s:=Instr.loadAt t (a.eval x)) (by grind[execOp]) hrun ⟨rfl,hv⟩
theorem Yib{p x:Operand}(hop:o.op = .store t p x):Xp P B h ι w T a o y eff:=by
 simp only[Zo,hop]at hc;obtain⟨n,hn,A,hA,X,hX,rfl⟩:∃n,Z6 P t=some n /\ ∃A,opd p=some A /\ ∃X,opd x=some X/\AOp.store n A X=ao:=by grind[Option.bind_eq_some_iff]
 obtain⟨rfl,s,o',w',rfl,hrun,hupd⟩:=Z64 hr hn (Zf hsl hl hX) (Zf hsl hl hA) rfl rfl he;exact⟨undef,w',.inr ⟨by simp[execOp,hop,hrun],rfl⟩,_,hupd,.inr .u⟩
theorem Yqx{x:Operand}(hop:o.op = .nilCheck x):Xp P B h ι w T a o y eff:=by
 simp only[Zo,hop]at hc;obtain⟨X,hX,rfl⟩:∃X,opd x=some X/\AOp.nilchk X=ao:=by grind[Option.bind_eq_some_iff]
 have h1:=Zf hsl hl hX;simp only[Zb]at he;split at he;rename_i t ver i off hx;split at he;rename_i o' hgo;simp only[J0b,J0i]at he;obtain⟨rfl,rfl⟩:=he;rw[hx]at h1;obtain⟨hot,hov⟩:=Zi hgo;have h2:=h1;cases h1 with|ptr _ _ _ _ _ ht hone hob=>obtain⟨g,N,C,hsv,hv,hil⟩:=(hob o' hot).2 hov;exact⟨_,w,.inl (by simp[execOp,hop,hv];rfl),rfl,by grind⟩
 grind;rename_i cs hx;simp only[J0b,J0i]at he;obtain⟨rfl,rfl⟩:=he;rw[hx]at h1;generalize hv:a.eval x=v at h1;have h2:=h1;cases h1 with|fptr _ ad u _ _ _ _=>exact⟨.pointer (some ad),w,.inl (by simp[execOp,hop,hv]),rfl,h2⟩
 rename_i f cs hx;simp only[J0b,J0i]at he;obtain⟨rfl,rfl⟩:=he;rw[hx]at h1;generalize hv:a.eval x=v at h1;cases h1 with|fn _ _ vs h2 h3=>exact⟨_,w,.inl (by simp[execOp,hop,hv]),rfl,.fn _ _ _ h2 h3⟩
 rename_i g off hx;simp only[J0b,J0i]at he;obtain⟨rfl,rfl⟩:=he;rw[hx]at h1;generalize hv:a.eval x=v at h1;cases h1 with|gp _ _=>exact⟨_,w,.inl (by simp[execOp,hop,hv]),rfl,.gp _ _⟩
 rename_i f cs hx;simp only[J0b,J0i]at he;obtain⟨rfl,rfl⟩:=he;rw[hx]at h1;generalize hv:a.eval x=v at h1;cases h1 with|fb _ _ vs h2 h3=>exact⟨_,w,.inl (by simp[execOp,hop,hv]),rfl,.fb _ _ _ h2 h3⟩
 grind
theorem Yuy{op:UnOp}{x:Operand}(hop:o.op = .unOp op t x):Xp P B h ι w T a o y eff:=by
 simp only[Zo,hop]at hc;obtain⟨X,hX,rfl⟩:∃X,opd x=some X/\AOp.un op X=ao:=by grind[Option.bind_eq_some_iff]
 have h1:=Zf hsl hl hX;simp only[Zb]at he;split at he;rename_i v hv;simp only[J0b,J0i]at he;obtain⟨rfl,rfl⟩:=he;generalize hev:a.eval x=cv at h1;have hx:execOp a.eval o=(do pure (.value (<- Op.unary op cv)):Sem Next):=by grind[execOp]
 unfold unA at hv;split at hv;rename_i k n hx2;rw[hx2]at h1;cases h1 with|p _ _ h1 => cases h1;split at hv;obtain rfl:=J0a hv;exact Zh hx (by simp[Op.unary,Op.intArith]) ⟨rfl,.p _ _ (.int _ _)⟩;obtain rfl:=J0a hv;exact Zh hx (by grind[Op.unary,intBits_xor,Sem.run_pure]) ⟨rfl,.p _ _ (.int _ _)⟩;grind
 rename_i b hx2;rw[hx2]at h1;cases h1 with|p _ _ h1 => cases h1;split at hv;obtain rfl:=J0a hv;exact Zh hx (by simp[Op.unary]) ⟨rfl,.p _ _ (.bool _)⟩;grind
 grind;grind
theorem Z68{s d:TypeId}{x:Operand}(hop:o.op = .convert s d x):Xp P B h ι w T a o y eff:=by
 simp only[Zo,hop]at hc;obtain⟨X,hX,hc⟩:=bind_some.1 hc;obtain⟨ds,hs,hc⟩:=bind_some.1 hc;obtain⟨dd,hd,hc⟩:=bind_some.1 hc;have h1:=Zf hsl hl hX;generalize hev:a.eval x=cv at h1;have hx:execOp a.eval o=(do pure (.value (<- convert s d cv)):Sem Next):=by grind[execOp]
 split at hc;rename_i k1 k;simp only[pure,J0b]at hc;subst hc;simp only[Zb]at he;split at he;rename_i k2 n hn;simp only[J0b,J0i]at he;obtain⟨rfl,rfl⟩:=he;rw[hn]at h1;cases h1 with|p _ _ h1=>cases h1;exact Zh hx (by simp[convert,run_underlying hs,run_underlying hd,Conv.intToInt]) ⟨rfl,.p _ _ (.int _ _)⟩
 grind;simp only[pure,J0b]at hc;subst hc;simp only[Zb]at he;split at he;rename_i n hn;simp only[J0b,J0i]at he;obtain⟨rfl,rfl⟩:=he;rw[hn]at h1;cases h1 with|p _ _ h1=>cases h1;exact Zh hx (by simp[convert,run_underlying hs,run_underlying hd]) ⟨rfl,.p _ _ (.str _)⟩
 grind;rename_i e;obtain⟨de,hu,hc⟩:=bind_some.1 hc;split at hc;simp only[pure,J0b]at hc;subst hc;simp only[Zb]at he;split at he;rename_i s hsx;simp only[J0b,J0i]at he;obtain⟨rfl,rfl⟩:=he;rw[hsx]at h1;obtain⟨cv,w',hrun,hg,hv⟩:=Ybf hr h1 hs hd hu;exact Zh hx hrun ⟨hg,hv⟩;cases he;cases hc;rename_i e;obtain⟨de,hu,hc⟩:=bind_some.1 hc;split at hc;simp only[pure,J0b]at hc;subst hc;simp only[Zb]at he;split at he;rename_i es hes;split at he;rename_i l hb;simp only[J0b,J0i]at he;obtain⟨rfl,rfl⟩:=he;exact Zh hx (Yj7 hr h1 hes hb hs hu hd) ⟨rfl,.p _ _ (.str _)⟩;grind;grind;grind;grind
theorem Yqy{op:BinOp}{t': TypeId}{x z:Operand}(hop:o.op = .binOp op t x z t'):Xp P B h ι w T a o y eff:=by
 simp only[Zo,hop]at hc;obtain⟨X,hX,hc⟩:=bind_some.1 hc;obtain⟨Z,hZ,hc⟩:=bind_some.1 hc;have h1:=Zf hsl hl hX;have h2:=Zf hsl hl hZ;have plain:ao = .bin op X Z->Xp P B h ι w T a o y eff:=by
  rintro rfl;simp only[Zb]at he;split at he;rename_i v hv;simp only[J0b,J0i]at he;obtain⟨rfl,rfl⟩:=he;obtain⟨cv,hrun,hvr⟩:=Yj6 (P:=P) (t:=t) h1 h2 hv x z;exact Zh (s:=do eqGuard op t x z (a.eval x) (a.eval z);binOp op t (a.eval x) (a.eval z)) (by grind[execOp]) hrun ⟨rfl,hvr⟩;grind
 have eq:∀neg:Bool,op=(if neg then .neq else .eql)->(∃d,P.underlying t=some d/\(d = .bool/\ao = .beq neg X Z∨Qm d=true/\P.eqGuardType P.depth t=false /\ ∃n ix,Z6 P t=some n/\Qu P 100 t 0=some ix/\ao = .eqagg neg n ix X Z))->Xp P B h ι w T a o y eff:=by
  rintro neg hopn ⟨d,hd,⟨rfl,rfl⟩|⟨hda,hg,n,ix,hn,hix,rfl⟩⟩;simp only[Zb]at he;split at he;rename_i b1 b2 hb1 hb2;simp only[J0b,J0i]at he;obtain⟨rfl,rfl⟩:=he;rw[hb1]at h1;rw[hb2]at h2;generalize hv1:a.eval x=v1 at h1;generalize hv2:a.eval z=v2 at h2;cases h1 with|p _ _ h1=>cases h2 with|p _ _ h2=>cases h1;cases h2;refine Zh (s:=do eqGuard op t x z (.bool b1) (.bool b2);binOp op t (.bool b1) (.bool b2)) (by grind[execOp]) (cv:=.bool (if neg then !(b1==b2)else b1==b2)) (w' := w) ?_ ⟨rfl,.p _ _ (.bool _)⟩;grind[eqGuard_at_bool,run_eql_bool,run_neq_bool]
  grind;simp only[Zb]at he;split at he;rename_i xs ys hb1 hb2;split at he;rename_i hlen;split at he;rename_i r hr';simp only[J0b,J0i]at he;obtain⟨rfl,rfl⟩:=he;rw[hb1]at h1;rw[hb2]at h2;have hrun:=Yh7 (P:=P) h1 h2 hn hlen hix ⟨d,hd,hda⟩ hg hr' neg x z;exact Zh (s:=do eqGuard op t x z (a.eval x) (a.eval z);binOp op t (a.eval x) (a.eval z)) (by grind[execOp]) (by grind) ⟨rfl,.p _ _ (.bool _)⟩;grind;grind;grind
 have agg:∀neg:Bool,op=(if neg then .neq else .eql)->(op == .neq)=neg->(do
     match <- P.underlying t with
     |.int _|.string=>return .bin op X Z|.bool=>return .beq (op == .neq) X Z|.slice _=>Yjz (op == .neq) X Z|.interface _=>Yj0 (op == .neq) X Z|.pointer _=>Yj1 (op == .neq) X Z|.func _ _ _=>fnOp (op == .neq) X Z|.struct _|.array _ _=>do
      if P.eqGuardType P.depth t then none else
      return .eqagg (op == .neq) (<- Z6 P t) (<- Qu P 100 t 0) X Z
     |_=>none:Option AOp)=some ao->Xp P B h ι w T a o y eff:=by
   intro neg hopn hn hc;obtain⟨d,hd,hc⟩:=bind_some.1 hc;have str:Qm d=true->(do
       if P.eqGuardType P.depth t then none else
       return .eqagg (op == .neq) (<- Z6 P t) (<- Qu P 100 t 0) X Z:Option AOp)=some ao->Xp P B h ι w T a o y eff:=by
     intro hda hc;split at hc;cases hc;rename_i hg;obtain⟨n,hn',ix,hix,rfl⟩:∃n,Z6 P t=some n /\ ∃ix,Qu P 100 t 0=some ix/\AOp.eqagg (op == .neq) n ix X Z=ao:=by simpa[J0n]using hc
     exact eq neg hopn ⟨d,hd,.inr ⟨hda,by grind,n,ix,hn',hix,by rw[hn]⟩⟩
   split at hc;grind;grind;exact eq neg hopn ⟨_,hd,.inl ⟨rfl,by grind⟩⟩;unfold Yjz at hc;split at hc;obtain rfl:=J0a hc;simp only[Zb]at he;split at he;rename_i b hb;simp only[J0b,J0i]at he;obtain⟨rfl,rfl⟩:=he;simp only[AOpd.eval]at h2;generalize hv2:a.eval z=v2 at h2;cases h2 with|nil=>obtain⟨ad,n,c,hv1,hnone⟩:=Yh9 hr h1 hb;refine Zh (s:=do eqGuard op t x z (.slice ad n c) (.slice none 0 0);binOp op t (.slice ad n c) (.slice none 0 0)) (by grind[execOp]) (cv:=.bool (if neg then !b else b)) (w' := w) ?_ ⟨rfl,by rw[hn];exact .p _ _ (.bool _)⟩;exact Zt6 hd hopn hnone x z
   grind;grind;unfold Yj0 at hc;split at hc;obtain rfl:=J0a hc;simp only[Zb]at he;split at he;rename_i b hb;simp only[J0b,J0i]at he;obtain⟨rfl,rfl⟩:=he;simp only[AOpd.eval]at h2;rw[hb]at h1;generalize hv2:a.eval z=v2 at h2;generalize hv1:a.eval x=v1 at h1;cases h2 with
   |if0 =>
    have hz:∃v,z = .const v:=by have:=hZ;unfold opd at this;grind
    obtain⟨zc,rfl⟩:=hz;refine Zh (s:=do eqGuard op t x (.const zc) v1 .nilIface;binOp op t v1 .nilIface) (by grind[execOp]) (cv:=.bool (if neg then b else !b)) (w' := w) ?_ ⟨rfl,by rw[hn];exact .p _ _ (.bool _)⟩;exact Yqv hd hopn h1 x zc
   grind;grind;unfold Yj1 at hc;split at hc;obtain rfl:=J0a hc;simp only[Zb]at he;split at he;rename_i b hb;simp only[J0b,J0i]at he;obtain⟨rfl,rfl⟩:=he;simp only[AOpd.eval]at h2;generalize hv2:a.eval z=v2 at h2;generalize hv1:a.eval x=v1 at h1;cases h2 with|nptr=>obtain⟨q,rfl,hq⟩:=Yh8 hr h1 hb;refine Zh (s:=do eqGuard op t x z (.pointer q) (.pointer none);binOp op t (.pointer q) (.pointer none)) (by grind[execOp]) (cv:=.bool (if neg then !b else b)) (w' := w) ?_ ⟨rfl,by rw[hn];exact .p _ _ (.bool _)⟩;exact Zz3 hd hopn hq x z
   cases he;cases hc;unfold fnOp at hc;split at hc;obtain rfl:=J0a hc;simp only[Zb]at he;split at he;rename_i b hb;simp only[J0b,J0i]at he;obtain⟨rfl,rfl⟩:=he;simp only[AOpd.eval]at h2;generalize hv2:a.eval z=v2 at h2;generalize hv1:a.eval x=v1 at h1;cases h2 with|nilf=>refine Zh (s:=do eqGuard op t x z v1 .nilFunc;binOp op t v1 .nilFunc) (by grind[execOp]) (cv:=.bool (if neg then !b else b)) (w' := w) ?_ ⟨rfl,by rw[hn];exact .p _ _ (.bool _)⟩;exact Z35 hd hopn h1 hb x z
   cases he;cases hc;exact str rfl hc;exact str rfl hc;grind
 grind
theorem Z69{x:Operand}{i:Nat}(hop:o.op = .extract x i):Xp P B h ι w T a o y eff:=by
 simp only[Zo,hop]at hc;obtain⟨X,hX,rfl⟩:∃X,opd x=some X/\AOp.extract i X=ao:=by grind[Option.bind_eq_some_iff]
 have h1:=Zf hsl hl hX;simp only[Zb]at he;split at he;rename_i vs hvs;split at he;rename_i v hv;simp only[J0b,J0i]at he;obtain⟨rfl,rfl⟩:=he;rw[hvs]at h1;generalize hev:a.eval x=cv at h1;cases h1 with
 |tuple _ us h2 h3 =>
  have hlt:i<us.size:=by grind
  exact Zh (s:=Instr.extract (.tuple us) i) (by grind[execOp]) (by simp[Instr.extract,Array.getElem?_eq_getElem hlt]) ⟨rfl,h3 i _ _ hv (Array.getElem?_eq_getElem hlt)⟩
 grind;grind
end
end Go.Abs
