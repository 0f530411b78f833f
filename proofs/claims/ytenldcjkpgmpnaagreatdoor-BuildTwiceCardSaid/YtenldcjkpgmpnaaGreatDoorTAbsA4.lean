/- The abstract machine and its soundness, part A4. -/
import Derived.Test.YtenldcjkpgmpnaaGreatDoorTAbsA3
set_option linter.constructorNameAsVariable false
set_option linter.unusedVariables false
set_option linter.unusedSectionVars false
set_option linter.unusedSimpArgs false
set_option linter.unnecessarySimpa false
namespace Go.Abs
open Go.RowKit (Below)
variable [GTab] [Glob]
section
variable {P:Program} {B:Nat} {w0 w:World} {h:List AObj} {ι:Em}

def AtC (P:Program)(xs:Array Value)(off:Nat)(t:TypeId)(a:Value):Prop :=
 ∃ d i,P.underlying t=some d/\P.info? t=some i /\
  (if Qz d then ∃ as,a = .agg as/\as.size=i.size /\ ∀ k,k<i.size->as[k]? = xs[off+k]? else xs[off]? = some a)

theorem Zox {t:TypeId}{d:TypeDesc}{i:TypeInfo}(hd:P.underlying t=some d)(hda:Qz d=true)(hi:P.info? t=some i)(cs:Array Value)(off:Nat):(part t cs off).run P w = .ok (.agg (cs.extract off (off+i.size))) w:=by simp only [part,Sem.run_bind,Zmk hd,Result.andThen_ok,hda,if_true,run_sizeOf hi,Sem.run_pure]

theorem Zoy {t:TypeId}{d:TypeDesc}(hd:P.underlying t=some d)(hda:Qz d=false)(cs:Array Value)(off:Nat){v:Value}(hv:cs[off]? = some v):(part t cs off).run P w = .ok v w:=by simp only [part,Sem.run_bind,Zmk hd,Result.andThen_ok,hda,J0r,if_false,hv,Sem.run_pure]

theorem Zgq {xs as:Array Value}{size off fo:Nat}{t:TypeId}{s:Nat}(has:as.size=size)(hat:∀ k,k<size->as[k]? = xs[off+k]?)(hs:Z9 P t=some s)(hd:∃ d,P.underlying t=some d)(hle:fo+s<=size)(h1:0<s) :
    ∃ a,(part t as fo).run P w = .ok a w/\AtC P xs (off+fo) t a:=by
  obtain⟨d,hd⟩:=hd;obtain⟨i,hi,rfl⟩:∃ i,P.info? t=some i/\i.size=s:=by simpa [Z9] using hs
  by_cases hda:Qz d=true
  . refine⟨_,Zox hd hda hi as fo,d,i,hd,hi,?_⟩;rw [if_pos hda];refine⟨_,rfl,by grind,fun k hk=>?_⟩;rw [Array.getElem?_extract];grind
  . have hda:Qz d=false:=by grind
    have hlt:fo<as.size:=by omega
    refine⟨as[fo],Zoy hd hda as fo (Array.getElem?_eq_getElem hlt),d,i,hd,hi,?_⟩;grind

theorem Zj2 (xs ys:List AV):∀ (a b:List (Nat×Nat)) (r:Bool),eqIx xs ys (a++b)=some r -> ∃ r1 r2,eqIx xs ys a=some r1/\eqIx xs ys b=some r2/\r=(r1&&r2)
 | [],b,r,h=>⟨true,r,rfl,h,by simp⟩
 | (i,kd)::a,b,r,h=>by
  simp only [List.cons_append,eqIx] at h ⊢;split at h
  . rename_i x y hx hy;split at h
    . rename_i p q hp hq;obtain rfl:=J0a h;obtain⟨r1,r2,h1,h2,rfl⟩:=Zj2 xs ys a b q hq;grind
    grind
  grind

def kindOf:TypeDesc->Option Nat
 | .int _=>some 0
 | .bool=>some 1
 | .string=>some 2
 | _=>none

theorem Yel {O:Nat->Prop}{t:TypeId}{kd:TypeDesc}{kn:Nat}(hd:P.underlying t=some kd)(hk:kindOf kd=some kn){x y:AV}{a b:Value}(ha:VRel h ι w O x a)(hb:VRel h ι w O y b){r:Bool}(hr:pvEq kn x y=some r)(d:Nat) :
    (Op.equalIn (d+1) t a b).run P w = .ok r w:=by
  unfold kindOf at hk;split at hk <;> first | (obtain rfl:=J0a hk) | cases hk
  . unfold pvEq at hr;split at hr <;> first | (rename_i he;exact absurd he (by decide)) | skip
    . split at hr
      . rename_i hkk;subst hkk;obtain rfl:=J0a hr;cases ha with | p _ _ ha=>cases hb with | p _ _ hb=>cases ha;cases hb;exact run_equalIn_int w d t _ _ _ _ hd
      grind
    grind
  . unfold pvEq at hr;split at hr <;> first | grind | skip
    . obtain rfl:=J0a hr;cases ha with | p _ _ ha=>cases hb with | p _ _ hb=>cases ha;cases hb;exact run_equalIn_bool w d t _ _ hd
  . unfold pvEq at hr;split at hr <;> first | grind | skip
    . obtain rfl:=J0a hr;cases ha with | p _ _ ha=>cases hb with | p _ _ hb=>cases ha;cases hb;rw [run_equalIn_string w d t _ _ hd];simp_all

theorem Zql {xs ys:Array Value}{c1 c2:List AV}(h1:Zao h ι w c1 xs)(h2:Zao h ι w c2 ys){t:TypeId}{kd:TypeDesc}{kn off:Nat}(hd:P.underlying t=some kd)(hk:kindOf kd=some kn){a b:Value}(ha:AtC P xs off t a)(hb:AtC P ys off t b)
    {r:Bool} (hr:eqIx c1 c2 [(off,kn)]=some r) (d:Nat):(Op.equalIn (d+1) t a b).run P w = .ok r w:=by
  have hna:Qz kd=false:=by cases kd <;> simp_all [kindOf,Qz]
  obtain⟨d1,i1,e1,_,ha⟩:=ha;obtain⟨d2,i2,e2,_,hb⟩:=hb;rw [hd] at e1 e2;obtain rfl:=J0a e1;obtain rfl:=J0a e2;simp only [hna,J0r,if_false] at ha hb;simp only [eqIx] at hr;split at hr
  . rename_i x y hx hy;split at hr
    . rename_i p q hp hq;obtain rfl:=J0a hq;obtain rfl:=J0a hr;rw [Bool.and_true];exact Yel hd hk (h1.2 off x a hx ha) (h2.2 off y b hy hb) hp d
    grind
  grind

theorem Zml {t:TypeId}{off:Nat}:∀ {d:Nat} {ix:List (Nat×Nat)},Q6 P d t off=some ix->(∃ dd,P.underlying t=some dd):=by
 intro d ix he;cases d with
 | zero=>simp [Q6] at he
 | succ d=>simp only [Q6] at he;grind

theorem Zrn {xs ys:Array Value}{c1 c2:List AV}(h1:Zao h ι w c1 xs)(h2:Zao h ι w c2 ys)(dd:Nat):∀ (d:Nat) (t:TypeId) (off:Nat) (ix:List (Nat×Nat)),Q6 P d t off=some ix -> ∀ (a b:Value),AtC P xs off t a->AtC P ys off t b ->
    ∀ r:Bool,eqIx c1 c2 ix=some r->(Op.equalIn (dd+d) t a b).run P w = .ok r w
  | 0,t,off,ix,he=>by simp [Q6] at he
  | d+1,t,off,ix,he=>by
   intro a b ha hb r hr;have ih:=Zrn h1 h2 dd d;simp only [Q6] at he;rw [<- Nat.add_assoc];split at he
   . rename_i k hd;obtain rfl:=J0a he;exact Zql h1 h2 hd rfl ha hb hr _
   . rename_i hd;obtain rfl:=J0a he;exact Zql h1 h2 hd rfl ha hb hr _
   . rename_i hd;obtain rfl:=J0a he;exact Zql h1 h2 hd rfl ha hb hr _
   . rename_i fs hd;split at he
     . rename_i size hsz;split at he
       . cases he
       . rename_i hst;have hst:P.stoodInHeld t=false:=by grind
         obtain⟨d1,i1,e1,hi1,ha⟩:=ha;obtain⟨d2,i2,e2,hi2,hb⟩:=hb;rw [hd] at e1 e2;obtain rfl:=J0a e1;obtain rfl:=J0a e2;simp only [Qz,if_true] at ha hb;obtain⟨as,rfl,hasz,haat⟩:=ha;obtain⟨bs,rfl,hbsz,hbat⟩:=hb;have hs1:i1.size=size:=by simpa [Z9,hi1] using hsz
         have hs2:i2.size=size:=by grind
         rw [hs1] at hasz haat;rw [hs2] at hbsz hbat;have hfo:P.fieldsOf t=fs:=by simp [Program.fieldsOf,hd]
         rw [run_equalIn_struct w (dd+d) t as bs (by grind) hst,hfo];have key:∀ (l:List Field) (ix:List (Nat×Nat)) (r:Bool),eqFs size (Z9 P) (Q6 P d) off l=some ix->eqIx c1 c2 ix=some r->(Op.eqFields (dd+d) as bs l).run P w = .ok r w:=by
          intro l
          induction l with
          | nil=>intro ix r hix hr;simp only [eqFs,J0b] at hix;subst hix;simp only [eqIx,J0b] at hr;subst hr;rfl
          | cons f l ihl =>
           intro ix r hix hr;simp only [eqFs] at hix;simp only [Op.eqFields];split at hix
           . rename_i hne;rw [if_pos hne];split at hix
             . rename_i s ia ib hsf hia hib;split at hix
               . rename_i hle;obtain rfl:=J0a hix;obtain⟨r1,r2,hr1,hr2,rfl⟩:=Zj2 _ _ _ _ _ hr;obtain⟨a',pa,ha'⟩:=Zgq (w:=w) hasz haat hsf (Zml hia) hle.1 hle.2;obtain⟨b',pb,hb'⟩:=Zgq (w:=w) hbsz hbat hsf (Zml hia) hle.1 hle.2;have h3:=ih f.type _ ia hia a' b' ha' hb' r1 hr1;simp only [Sem.run_bind,pa,pb,h3,Result.andThen_ok];cases r1
                 . simp
                 grind
               grind
             grind
           grind
         grind
     grind
   . rename_i n e hd;split at he
     . rename_i size s hsz hse;split at he
       . rename_i hle;obtain⟨d1,i1,e1,hi1,ha⟩:=ha;obtain⟨d2,i2,e2,hi2,hb⟩:=hb;rw [hd] at e1 e2;obtain rfl:=J0a e1;obtain rfl:=J0a e2;simp only [Qz,if_true] at ha hb;obtain⟨as,rfl,hasz,haat⟩:=ha;obtain⟨bs,rfl,hbsz,hbat⟩:=hb;have hs1:i1.size=size:=by simpa [Z9,hi1] using hsz
         have hs2:i2.size=size:=by grind
         rw [hs1] at hasz haat;rw [hs2] at hbsz hbat;obtain⟨ie,hie,hies⟩:∃ i,P.info? e=some i/\i.size=s:=by simpa [Z9] using hse
         have hco:P.cellsOf e=s:=by simp [Program.cellsOf,hie,hies]
         rw [run_equalIn_array w (dd+d) as bs hd hie,hco];have key:∀ (l:List Nat) (ix:List (Nat×Nat)) (r:Bool),(∀ k∈l,k<n)->eqAs (Q6 P d e) off s l=some ix->eqIx c1 c2 ix=some r->(Op.eqItems (dd+d) e s as bs l).run P w = .ok r w:=by
          intro l
          induction l with
          | nil=>intro ix r _ hix hr;simp only [eqAs,J0b] at hix;subst hix;simp only [eqIx,J0b] at hr;subst hr;rfl
          | cons k l ihl =>
           intro ix r hall hix hr;simp only [eqAs] at hix;split at hix
           . rename_i ia ib hia hib;obtain rfl:=J0a hix;obtain⟨r1,r2,hr1,hr2,rfl⟩:=Zj2 _ _ _ _ _ hr;have hk:k * s+s<=size:=by have:(k+1) * s<=n * s:=Nat.mul_le_mul_right _ (hall k (by simp));grind
             obtain⟨a',pa,ha'⟩:=Zgq (w:=w) hasz haat hse (Zml hia) hk hle.2;obtain⟨b',pb,hb'⟩:=Zgq (w:=w) hbsz hbat hse (Zml hia) hk hle.2;have h3:=ih e _ ia hia a' b' ha' hb' r1 hr1;simp only [Op.eqItems,Sem.run_bind,pa,pb,h3,Result.andThen_ok];cases r1
             . simp
             grind
           grind
         grind
       grind
     grind
   grind

theorem Ycw {t:TypeId}{size:Nat}{ix:List (Nat×Nat)}{xs ys:List AV}{vx vy:Value}(hx:VR h ι w (.agg xs) vx)(hy:VR h ι w (.agg ys) vy)(hsz:Z9 P t=some size)(hl:xs.length=size/\ys.length=size)
    (he:Q6 P 100 t 0=some ix) (hag:∃ d,P.underlying t=some d/\Qz d=true) (hg:P.eqGuardType P.depth t=false) {r:Bool} (hr:eqIx xs ys ix=some r) (neg:Bool) (x y:Operand) :
    (do eqGuard (if neg then .neq else .eql) t x y vx vy;binOp (if neg then .neq else .eql) t vx vy:Sem Value).run P w = .ok (.bool (if neg then !r else r)) w:=by
  cases hx with
  | agg _ as h1 h2 =>
   cases hy with
   | agg _ bs h3 h4 =>
    obtain⟨d,hd,hda⟩:=hag;obtain⟨i,hi,his⟩:∃ i,P.info? t=some i/\i.size=size:=by simpa [Z9] using hsz
    have ha:AtC P as 0 t (.agg as):=⟨d,i,hd,hi,by grind⟩;have hb:AtC P bs 0 t (.agg bs):=⟨d,i,hd,hi,by grind⟩;have hrun:=Zrn (P:=P) ⟨h1,h2⟩ ⟨h3,h4⟩ 9900 100 t 0 ix he _ _ ha hb r hr;simp only [Sem.run_bind,run_eqGuard_agg w _ t x y as bs hg,Result.andThen_ok];cases neg
    . simp only [J0r,if_false];rw [run_eql_struct w t as bs,hrun];rfl
    . simp only [if_true];rw [run_neq_struct w t as bs,hrun];rfl

theorem Yem {op:BinOp}{t:TypeId}{x y:AV}{vx vy:Value}(hx:VR h ι w x vx)(hy:VR h ι w y vy){r:PV}(hr:binA op x y=some r)(ox oy:Operand) :
    ∃ v,(do eqGuard op t ox oy vx vy;binOp op t vx vy:Sem Value).run P w = .ok v w/\VR h ι w (.p r) v:=by
  unfold binA at hr;split at hr
  . rename_i k a k' b;cases hx with | p _ _ hx=>cases hy with | p _ _ hy =>
     cases hx;cases hy;rw [eqGuard_at_int];split at hr
     . rename_i hs;unfold Z0r at hr;split at hr
       . cases hr
       . rename_i hb;cases op <;> simp [Zsx] at hs <;> simp only [J0b] at hr <;> subst hr
         . exact⟨_,by simp [binOp,Op.shift,hb],.p _ _ (.int _ _)⟩
         . exact⟨_,by simp [binOp,Op.shift,hb],.p _ _ (.int _ _)⟩
     . rename_i hs;split at hr
       . rename_i hk;subst hk;cases op <;> simp [Zsx] at hs <;> simp only [binI] at hr;all_goals first
          | (simp only [J0b] at hr;subst hr;refine⟨_,?_,.p _ _ (.int _ _)⟩;first | (simp [binOp,Op.intArith,Op.intCmp];done) | simp only [Sem.run_bind,Sem.run_pure,Result.andThen_ok,binOp_and,binOp_or,binOp_xor,binOp_andNot,intBits_and,intBits_or,intBits_xor,intBits_andNot])
          | (simp only [J0b] at hr;subst hr;refine⟨_,?_,.p _ _ (.bool _)⟩;simp [binOp,Op.intArith,Op.intCmp];done)
          | (split at hr
             . cases hr
             . rename_i h0;simp only [J0b] at hr;subst hr;exact⟨_,by simp [binOp,Op.intDiv,h0],.p _ _ (.int _ _)⟩)
          | (cases hr;done)
       grind
  . rename_i a b;cases hx with | p _ _ hx=>cases hy with | p _ _ hy =>
     cases hx;cases hy;rw [eqGuard_at_string];cases op <;> simp only [binS] at hr;all_goals first
      | (cases hr;done)
      | (simp only [J0b] at hr;subst hr;exact⟨_,by simp [binOp,Op.stringOp,ByteArray.toList_eq],.p _ _ (.bool _)⟩)
      | (split at hr
         . rename_i hle;simp only [J0b] at hr;subst hr;refine⟨.string ⟨(a++b).toArray⟩,?_,.p _ _ (.str _)⟩;have hsz:¬ (((ByteArray.mk a.toArray).size+(ByteArray.mk b.toArray).size:Nat):Int)>IntKind.i64.max:=by simp [ByteArray.size,IntKind.max_i64];omega
           have hap:(ByteArray.mk a.toArray)++(ByteArray.mk b.toArray)=ByteArray.mk (a++b).toArray:=by apply ByteArray.ext;simp
           simp only [Sem.run_bind,Sem.run_pure,Result.andThen_ok,binOp,Op.stringOp];simp_all
         grind)
  grind
end
end Go.Abs

namespace Go.Abs
open Go.RowKit (Below)
variable [GTab] [Glob]

def Res (B:Nat)(h:List AObj)(ι:Em)(w:World)(T:Nat)(y:AV)(eff:Eff)(cv:Value)(w' : World):Prop :=
 match eff with
 | .none=>w' = w/\VR h ι w y cv
 | .grow=>w.grownBy w' none/\VR h ι w' y cv
 | .new o=>o.ver=1 /\ ∃ sv,Zm7 B h ι w o sv w' /\ ((y = .row T 1/\cv=sv)∨(y = .ptr T 1 0 0/\PtrTo o sv 0 0 cv))
 | .upd t o' => ∃ sv,Zti B h ι w t o' sv w' /\ ((y = .row t o'.ver/\cv=sv)∨VR h ι w y cv)

section
variable {P:Program} {B:Nat} {w0 w:World} {h:List AObj} {ι:Em}

def Xz (P:Program)(B:Nat)(h:List AObj)(ι:Em)(w:World)(T:Nat)(a:Act)(o:Oper)(y:AV)(eff:Eff):Prop:=∃ cv w',((execOp a.eval o).run P w = .ok (.value cv) w' ∨ ((execOp a.eval o).run P w = .ok .skip w' /\ cv=undef))/\Res B h ι w T y eff cv w'

theorem Zi {T:Nat}{a:Act}{o:Oper}{y:AV}{eff:Eff}{s:Sem Value}(hs:execOp a.eval o=(do pure (.value (<- s)):Sem Next)){cv:Value}{w' : World}(hr:s.run P w = .ok cv w')(hres:Res B h ι w T y eff cv w'):Xz P B h ι w T a o y eff:=⟨cv,w',.inl (by simp_all),hres⟩

theorem bind_some {α β:Type}{x:Option α}{f:α->Option β}{y:β}:(x >>= f)=some y ↔ ∃ a,x=some a/\f a=some y:=by cases x <;> simp [bind,Option.bind]

theorem X9 {t:TypeId}{n:Nat}(hs:Z9 P t=some n):∃ i,P.info? t=some i/\i.size=n:=by simpa [Z9] using hs

theorem Zw1 {t e:TypeId}(hd:P.underlying t=some (.slice e))(w:World)(ad:Option Addr)(n c:Nat):(Op.equal t (.slice ad n c) (.slice none 0 0)).run P w = .ok ad.isNone w:=by show (Op.equalIn 10000 t (.slice ad n c) (.slice none 0 0)).run P w=_;rw [show (10000:Nat)=9999+1 from rfl,Op.equalIn];simp only [Sem.run_bind,run_underlying hd,Result.andThen_ok];cases ad <;> rfl

theorem Zsj {t e:TypeId}{op:BinOp}{neg b:Bool}{ad:Option Addr}{n c:Nat}(hd:P.underlying t=some (.slice e))(hop:op=(if neg then .neq else .eql))(hb:ad.isNone=b)(x z:Operand) :
    (do eqGuard op t x z (.slice ad n c) (.slice none 0 0);binOp op t (.slice ad n c) (.slice none 0 0):Sem Value).run P w = .ok (.bool (if neg then !b else b)) w:=by
  subst hb;subst hop;have hg:∀ (op:BinOp),(eqGuard op t x z (.slice ad n c) (.slice none 0 0)).run P w = .ok () w:=fun op=>by cases op <;> rfl
  have he:=Zw1 (P:=P) hd w ad n c;rw [Sem.run_bind,hg,Result.andThen_ok];cases neg
  . show (do pure (.bool (<- Op.equal t (.slice ad n c) (.slice none 0 0))):Sem Value).run P w=_;simp_all
  . show (do pure (.bool (!(<- Op.equal t (.slice ad n c) (.slice none 0 0)))):Sem Value).run P w=_;simp_all

theorem Ztl:∀ {es:List (List AV)} {l:List UInt8},Zjy es=some l -> ∃ ns:List Int,es=ns.map (fun n=>[AV.p (.int .u8 n)])/\l=ns.map (fun n=>UInt8.ofNat n.toNat)
 | [],l,h=>by obtain rfl:=J0a h;simp_all
 | e::es,l,h=>by
  unfold Zjy at h;split at h
  . grind
  . rename_i n es' heq;obtain⟨rfl,rfl⟩:=List.cons.inj heq;obtain⟨l',hl',rfl⟩:=J0f.1 h;obtain⟨ns,rfl,rfl⟩:=Ztl hl';exact⟨n::ns,rfl,rfl⟩
  grind
theorem Zro:∀ (ns:List Int) (r:ByteArray),ns.foldl (fun r n=>r.push (UInt8.ofNat n.toNat)) r=⟨r.data++(ns.map (fun n=>UInt8.ofNat n.toNat)).toArray⟩
 | [],r=>by simp
 | n::ns,r=>by simp only [List.map_cons,List.foldl_cons];rw [Zro ns];simp_all
theorem Yen (hr:HRel B w0 h ι w){x:AV}{v:Value}(hv:VR h ι w x v){es:List (List AV)}(he:Yh h x=some es){l:List UInt8}(hb:Zjy es=some l){s d e:TypeId}(hs:P.underlying s=some (.slice e))(hu:P.underlying e=some (.int .u8))(hd:P.underlying d=some .string) :
    (convert s d v).run P w = .ok (.string ⟨l.toArray⟩) w:=by
  obtain⟨a,c,rfl,hc,hrest⟩:=Za7 hr hv he;obtain⟨ns,rfl,rfl⟩:=Ztl hb;rw [run_convert_bytes_string w s d e a _ c hs hu hd];cases ns with
  | nil =>
   cases a with
   | none=>rfl
   | some ad=>have:=run_bytesToString (P:=P) w ad 0 c [] (by rfl);exact this
  | cons n0 ns0 =>
   obtain⟨sz,ad,u,_,rfl,hel,hcell⟩:=hrest (by simp);have hsz:sz=1:=by have:=hel 0 _ rfl;grind
   subst hsz;have hl:=run_loadCells_list (P:=P) (w:=w) ad ((n0::ns0).map (Value.int .u8)) (fun j v hj=>by rw [J0m,J0f] at hj;obtain⟨n,hn,rfl⟩:=hj;obtain⟨h1,h2⟩:=hcell j [AV.p (.int .u8 n)] (by grind) 0 _ rfl;rw [Nat.mul_one,Nat.add_zero] at h1;rw [h1];generalize u j 0=z at h2;cases h2 with | p _ _ h2=>cases h2;rfl);rw [List.length_map] at hl;rw [List.length_map,run_bytesToString w ad _ c (n0::ns0) hl,Zro];simp

theorem Z0s {t:TypeId}{ms:Array (String×TypeId)}(hd:P.underlying t=some (.interface ms))(w:World){h:List AObj}{ι:Em}{O:Nat->Prop}{b:Bool}{v:Value}(hv:VRel h ι w O (.ifc b) v):(Op.equal t v .nilIface).run P w = .ok (!b) w:=by show (Op.equalIn 10000 t v .nilIface).run P w=_;rw [show (10000:Nat)=9999+1 from rfl,Op.equalIn];simp only [Sem.run_bind,run_underlying hd,Result.andThen_ok];cases hv <;> rfl

theorem Ykk {t:TypeId}{ms:Array (String×TypeId)}{op:BinOp}{neg b:Bool}{v:Value}(hd:P.underlying t=some (.interface ms))(hop:op=(if neg then .neq else .eql)){O:Nat->Prop}(hv:VRel h ι w O (.ifc b) v)(x:Operand)(zc:Value) :
    (do eqGuard op t x (.const zc) v .nilIface;binOp op t v .nilIface:Sem Value).run P w = .ok (.bool (if neg then b else !b)) w:=by
  subst hop;have he:=Z0s (P:=P) hd w hv;have hg:∀ (op:BinOp),(eqGuard op t x (.const zc) v .nilIface).run P w = .ok () w:=fun op=>by cases hv <;> cases op <;> cases x <;> rfl
  rw [Sem.run_bind,hg,Result.andThen_ok];cases neg
  . have hb:binOp .eql t v .nilIface=(do pure (.bool (<- Op.equal t v .nilIface)):Sem Value):=by cases hv <;> rfl
    simp_all
  . have hb:binOp .neq t v .nilIface=(do pure (.bool (!(<- Op.equal t v .nilIface))):Sem Value):=by cases hv <;> rfl
    simp_all

theorem Z7d (hr:HRel B w0 h ι w){s:List UInt8}{v:Value}(hv:VR h ι w (.p (.str s)) v){t d e:TypeId}(hs:P.underlying t=some .string)(hd:P.underlying d=some (.slice e))(hu:P.underlying e=some (.int .u8)) :
    ∃ cv w',(convert t d v).run P w = .ok cv w' /\ w.grownBy w' none/\VR h ι w' (.p (.sl (s.map fun b=>[.int .u8 b.toNat]))) cv:=by
  cases hv with | p _ _ hv=>cases hv with | str _ =>
   have hrun:=run_bytes_of_string (P:=P) w t d e ⟨s.toArray⟩ hs hd hu;have hsz:(ByteArray.mk s.toArray).size=s.length:=by simp [ByteArray.size]
   rw [hsz] at hrun;have hge:=grownCap_ge w s.length 0 e;refine⟨_,_,hrun,⟨rfl,rfl,rfl,by simp,fun k hk _=>Below.heap_alloc w.drew _ k hk⟩,.p _ _ (.sl _ _ _ _ 1 (fun i _=>.int .u8 ((s.getD i 0).toNat:Int)) ?_ ?_ (by simp) hge (fun i e he=>?_) (fun i e he j x hx=>?_) (fun i e he j x hx=>?_))⟩
   . rintro (ho | ⟨t',ht',hb⟩)
     . have h1:=hr.old _ ho;have h2:=hr.size;simp at h1;omega
     . have:=(hr.own ht' hb).2;simp at this
   . simp
   . rw [J0m,J0f] at he;obtain⟨b,hb,rfl⟩:=he;rfl
   . rw [J0m,J0f] at he;obtain⟨b,hb,rfl⟩:=he;have hi:=(J0d.1 hb).1;cases j with
     | zero =>
      rw [Nat.mul_one,Nat.add_zero,Addr.add_lit,Nat.zero_add];generalize hO:Obj.cells (bytesRow ⟨s.toArray⟩ (grownCap w s.length 0 e)) e ((bytesRow ⟨s.toArray⟩ (grownCap w s.length 0 e)).size,(bytesRow ⟨s.toArray⟩ (grownCap w s.length 0 e)).size+1)=ob;have hh:(w.drew.alloc ob).heap[w.heap.size]? = some ob:=heap_alloc_new w.drew ob;have hc:(w.drew.alloc ob).cell? ⟨w.heap.size,i,none⟩=(bytesRow ⟨s.toArray⟩ (grownCap w s.length 0 e))[i]? := by subst hO;unfold World.cell?;simp only [hh];rfl
      rw [Nat.add_zero];rw [hc];unfold bytesRow;rw [Array.getElem?_append_left (by simpa using hi)];simp [hb,List.getD_eq_getElem?_getD]
     | succ j=>simp at hx
   . rw [J0m,J0f] at he;obtain⟨b,hb,rfl⟩:=he;cases j with
     | zero=>simp only [J0q,J0b] at hx;subst hx;rw [List.getD_eq_getElem?_getD,hb];exact .int _ _
     | succ j=>simp at hx

theorem Ycx (hr:HRel B w0 h ι w){x:AV}{v:Value}(hv:VR h ι w x v){b:Bool}(hb:nilP h x=some b):∃ q:Option Addr,v = .pointer q/\q.isNone=b:=by
 cases x
 case nptr=>cases hv;simp only [nilP,J0b] at hb;subst hb;exact⟨none,rfl,rfl⟩
 case fptr cs=>cases hv;simp only [nilP,J0b] at hb;subst hb;exact⟨_,rfl,rfl⟩
 case gp g off=>cases hv;simp only [nilP,J0b] at hb;subst hb;exact⟨_,rfl,rfl⟩
 case ptr t ver i off =>
  simp only [nilP] at hb;split at hb
  . rename_i o hgo;simp only [J0b] at hb;subst hb;obtain⟨hot,hov⟩:=Zj hgo;cases hv with
    | ptr _ _ _ _ _ ht hone hob=>obtain⟨g,N,C,hsv,rfl,hil⟩:=(hob o hot).2 hov;exact⟨_,rfl,rfl⟩
  . cases hb
 all_goals simp [nilP] at hb

theorem Zw2 {t e:TypeId}{op:BinOp}{neg b:Bool}{q:Option Addr}(hd:P.underlying t=some (.pointer e))(hop:op=(if neg then .neq else .eql))(hb:q.isNone=b)(x z:Operand) :
    (do eqGuard op t x z (.pointer q) (.pointer none);binOp op t (.pointer q) (.pointer none):Sem Value).run P w = .ok (.bool (if neg then !b else b)) w:=by
  subst hb;subst hop;have hg:∀ (op:BinOp),(eqGuard op t x z (.pointer q) (.pointer none)).run P w = .ok () w:=fun op=>by cases op <;> rfl
  have he:(Op.equal t (.pointer q) (.pointer none)).run P w = .ok q.isNone w:=by show (Op.equalIn 10000 t (.pointer q) (.pointer none)).run P w=_;rw [show (10000:Nat)=9999+1 from rfl,Op.equalIn];simp only [Sem.run_bind,run_underlying hd,Result.andThen_ok];cases q <;> rfl
  rw [Sem.run_bind,hg,Result.andThen_ok];cases neg
  . show (do pure (.bool (<- Op.equal t (.pointer q) (.pointer none))):Sem Value).run P w=_;rw [Sem.run_bind,he];rfl
  . show (do pure (.bool (!(<- Op.equal t (.pointer q) (.pointer none)))):Sem Value).run P w=_;rw [Sem.run_bind,he];rfl

theorem Z0t {t:TypeId}{ps rs:Array TypeId}{vd:Bool}{op:BinOp}{neg b:Bool}{O:Nat->Prop}{y:AV}{v:Value}(hd:P.underlying t=some (.func ps rs vd))(hop:op=(if neg then .neq else .eql))(hv:VRel h ι w O y v)(hb:nilF y=some b)(x z:Operand) :
    (do eqGuard op t x z v .nilFunc;binOp op t v .nilFunc:Sem Value).run P w = .ok (.bool (if neg then !b else b)) w:=by
  subst hop;have hg:∀ (op:BinOp),(eqGuard op t x z v .nilFunc).run P w = .ok () w:=fun op=>by cases hv <;> first | (simp [nilF] at hb;done) | (cases op <;> rfl)
  have he:(Op.equal t v .nilFunc).run P w = .ok b w:=by show (Op.equalIn 10000 t v .nilFunc).run P w=_;rw [show (10000:Nat)=9999+1 from rfl,Op.equalIn];simp only [Sem.run_bind,run_underlying hd,Result.andThen_ok];cases hv <;> first | (simp [nilF] at hb;done) | (simp only [nilF,J0b] at hb;subst hb;rfl)
  rw [Sem.run_bind,hg,Result.andThen_ok];cases neg
  . have hbn:binOp .eql t v .nilFunc=(do pure (.bool (<- Op.equal t v .nilFunc)):Sem Value):=by cases hv <;> first | (simp [nilF] at hb;done) | rfl
    show (binOp .eql t v .nilFunc).run P w=_;rw [hbn,Sem.run_bind,he];rfl
  . have hbn:binOp .neq t v .nilFunc=(do pure (.bool (!(<- Op.equal t v .nilFunc))):Sem Value):=by cases hv <;> first | (simp [nilF] at hb;done) | rfl
    show (binOp .neq t v .nilFunc).run P w=_;rw [hbn,Sem.run_bind,he];rfl

theorem Ycy (hr:HRel B w0 h ι w){x:AV}{v:Value}(hv:VR h ι w x v){b:Bool}(hb:nilA h x=some b):∃ ad n c,v = .slice ad n c/\ad.isNone=b:=by
 cases x
 case nil=>cases hv;simp only [nilA,J0b] at hb;grind
 case ne=>cases hv;simp only [nilA,J0b] at hb;grind
 case nl=>cases hv;simp only [nilA,J0b] at hb;grind
 case p u =>
  cases u with
  | sl es =>
   cases es with
   | nil=>simp [nilA] at hb
   | cons e es=>simp only [nilA,J0b] at hb;subst hb;cases hv with | p _ _ hp=>cases hp with | sl _ ad n c size u=>grind
  | _=>simp [nilA] at hb
 case xf es =>
  cases es with
  | nil=>simp [nilA] at hb
  | cons e es=>simp only [nilA,J0b] at hb;subst hb;cases hv with | xf _ _ _ hp=>cases hp with | sl _ ad n c size u=>grind
 case row t ver =>
  simp only [nilA] at hb;split at hb
  . rename_i o hgo;split at hb
    . cases hb
    . rename_i hne;simp only [J0b] at hb;subst hb;obtain⟨hot,hov⟩:=Zj hgo;cases hv with
      | row _ _ _ ht hone hob =>
       have hvt:=(hob o hot).2 hov;rcases hr.objs t o hot with ⟨h0,_⟩ | ⟨hs,xs,ho,_⟩
       . exact absurd h0 (by have:=Zt hgo;omega)
       . rcases ho.2 with ⟨_,h0⟩ | ⟨g,cap,cur,hv,_⟩
         . grind
         grind
  grind
 case sl t ver lo len ex =>
  simp only [nilA] at hb;split at hb
  . rename_i o hgo;split at hb
    . cases hb
    rename_i hlen;simp only [J0b] at hb;subst hb;obtain⟨hot,hov⟩:=Zj hgo;cases hv with
    | sl _ _ _ _ _ _ ht hone hob=>obtain⟨g,N,C,c,hsv,hv,_⟩:=((hob o hot).2 hov).pos (.inl (by omega));grind
  grind
 all_goals simp [nilA] at hb

section
variable {slots:List AV} {a:Act} (hsl:∀ (i:Nat) (x:AV) (v:Value),slots[i]? = some x->a.tmps[i]? = some v->VR h ι w x v) (hl:a.tmps.size=slots.length)
include hsl hl

theorem Zyw:∀ {ps:List (Nat×Operand)} {fs:Array Field} {qs:List (Nat×Nat×AOpd)},Zhp P fs ps=some qs ->
    ps.length=qs.length/\(∀ f∈ps,∃ g,fs[f.1]? = some g) /\ ∀ (k:Nat) (p:Nat×Value) (q:Nat×Nat×AV),(ps.map fun p=>(p.1,a.eval p.2))[k]? = some p->(qs.map fun q=>(q.1,q.2.1,q.2.2.eval slots))[k]? = some q ->
     (∃ f,fs[p.1]? = some f/\q.1=f.offset/\Z9 P f.type=some q.2.1)/\VR h ι w q.2.2 p.2
  | [],fs,qs,hc=>by simp only [Zhp,J0b] at hc;grind
  | (i,x)::ps,fs,qs,hc=>by
   simp only [Zhp] at hc;split at hc
   . rename_i f y r hf hy hr;split at hc
     . rename_i s hs;obtain rfl:=J0a hc;obtain⟨h1,h2,h3⟩:=Zyw hr;refine⟨by simp [h1],fun g hg=>?_,fun k p q hp hq=>?_⟩
       . grind
       . cases k with
         | zero=>simp at hp hq;subst hp;subst hq;exact⟨⟨f,hf,rfl,hs⟩,Zg hsl hl hy⟩
         | succ k=>grind
     grind
   grind

theorem Ztm {size:Nat}:∀ {ps:List (Nat×Operand)} {qs:List (Nat×Nat×AOpd)},Zfw size ps=some qs ->
    ps.length=qs.length /\ ∀ (k:Nat) (p:Nat×Value) (q:Nat×Nat×AV),(ps.map fun p=>(p.1,a.eval p.2))[k]? = some p->(qs.map fun q=>(q.1,q.2.1,q.2.2.eval slots))[k]? = some q ->
     (q.1=p.1 * size/\q.2.1=size)/\VR h ι w q.2.2 p.2
  | [],qs,hc=>by simp only [Zfw,J0b] at hc;grind
  | (i,x)::ps,qs,hc=>by
   simp only [Zfw] at hc;split at hc
   . rename_i y r hy hr;obtain rfl:=J0a hc;obtain⟨h1,h3⟩:=Ztm hr;refine⟨by simp [h1],fun k p q hp hq=>?_⟩;cases k with
     | zero=>simp at hp hq;subst hp;subst hq;exact⟨⟨rfl,rfl⟩,Zg hsl hl hy⟩
     | succ k=>grind
   grind

theorem Ztn:∀ {ps:List (Nat×Operand)} {qs:List (Nat×AOpd)},Zfx ps=some qs ->
    ps.length=qs.length /\ ∀ (k:Nat) (p:Nat×Value) (q:Nat×AV),(ps.map fun p=>(p.1,a.eval p.2))[k]? = some p->(qs.map fun q=>(q.1,q.2.eval slots))[k]? = some q ->
     p.1=q.1/\VR h ι w q.2 p.2
  | [],qs,hc=>by simp only [Zfx,J0b] at hc;grind
  | (i,x)::ps,qs,hc=>by
   simp only [Zfx] at hc;split at hc
   . rename_i y r hy hr;obtain rfl:=J0a hc;obtain⟨h1,h3⟩:=Ztn hr;refine⟨by simp [h1],fun k p q hp hq=>?_⟩;cases k with
     | zero=>simp at hp hq;subst hp;subst hq;exact⟨rfl,Zg hsl hl hy⟩
     | succ k=>grind
   grind

theorem Zj3 {x:Option Operand}{y:Option AOpd}(hc:optO x=some y):OptR h ι w (·.eval slots) y (x.map a.eval):=by
 cases x with
 | none=>simp only [optO,J0b] at hc;subst hc;trivial
 | some x=>simp only [optO,J0f] at hc;obtain⟨z,hz,rfl⟩:=hc;exact Zg hsl hl hz

theorem Za8 {xs:List Operand}{ys:List AOpd}(hc:xs.mapM opd=some ys):(xs.map a.eval).length=(ys.map (·.eval slots)).length /\ ∀ (i:Nat) (x:AV) (v:Value),(ys.map (·.eval slots))[i]? = some x->(xs.map a.eval)[i]? = some v->VR h ι w x v:=by obtain⟨h1,h2⟩:=Ztj hc;refine⟨by simp [h1],fun i x v hx hv=>?_⟩;rw [J0m,J0f] at hx hv;obtain⟨y,hy,rfl⟩:=hx;obtain⟨o,ho,rfl⟩:=hv;exact Zg hsl hl (h2 i o y ho hy)
end
end
end Go.Abs

namespace Go.Abs
open Go.RowKit (Below)
variable [GTab] [Glob]
section
variable {P:Program} {B:Nat} {w0 w:World} {h:List AObj} {ι:Em} {slots:List AV} {a:Act} {o:Oper} {ao:AOp} {T:Nat} {y:AV} {eff:Eff}
variable (hr:HRel B w0 h ι w) (hsl:∀ (i:Nat) (x:AV) (v:Value),slots[i]? = some x->a.tmps[i]? = some v->VR h ι w x v) (hl:a.tmps.size=slots.length)
variable (hc:Zp P o=some ao) (he:Zc h T (AOpd.eval slots) ao=some (y,eff))
include hr hsl hl hc he

theorem Z3v {x:Operand}(hop:o.op = .move x∨o.op = .assign x):Xz P B h ι w T a o y eff:=by
 have hc' : (do return .mv (<- opd x):Option AOp)=some ao:=by rcases hop with hop | hop <;> simpa only [Zp,hop] using hc
 obtain⟨X,hX,rfl⟩:∃ X,opd x=some X/\AOp.mv X=ao:=by simpa [J0n] using hc'
 simp only [Zc,J0b,J0i] at he;obtain⟨rfl,rfl⟩:=he;exact⟨a.eval x,w,.inl (by rcases hop with hop | hop <;> simp [execOp,hop]),rfl,Zg hsl hl hX⟩

theorem Yeo {c x z:Operand}(hop:o.op = .pick c x z):Xz P B h ι w T a o y eff:=by
 simp only [Zp,hop] at hc;obtain⟨C,hC,X,hX,Z,hZ,rfl⟩:∃ C,opd c=some C /\ ∃ X,opd x=some X /\ ∃ Z,opd z=some Z/\AOp.pick C X Z=ao:=by simpa [J0n] using hc
 simp only [Zc] at he;split at he
 . rename_i b hb;simp only [J0b,J0i] at he;obtain⟨rfl,rfl⟩:=he;have h1:=Zg hsl hl hC;rw [hb] at h1;generalize hv:a.eval c=cv at h1;cases h1 with
   | p _ _ h1 =>
    cases h1;refine⟨if b then a.eval x else a.eval z,w,.inl (by simp [execOp,hop,hv,asBool]),rfl,?_⟩;cases b
    . exact Zg hsl hl hZ
    . exact Zg hsl hl hX
 grind

theorem Z0u {e n:Nat}{x:AOpd}{v:Value}(hao:ao = .box e n x)(hv:VR h ι w (x.eval slots) v)(hx:execOp a.eval o=(do pure (.value (<- (do pure (.pointer (some (<- newVar e v))):Sem Value))):Sem Next)):Xz P B h ι w T a o y eff:=by
 subst hao;simp only [Zc] at he;split at he
 . rename_i cs hcs;split at he
   . rename_i hcond;simp only [J0b,J0i] at he;obtain⟨rfl,rfl⟩:=he;refine Zi hx (cv:=.pointer (some ⟨w.heap.size,0,none⟩)) (w' := w.alloc (.cells v.cells e)) (by simp [newVar,newRow]) ⟨rfl,_,Yah (e:=e) hr hv hcs hcond.1 hcond.2,.inr ⟨rfl,_,_,_,rfl,?_,by simp⟩⟩;simp
   grind
 grind

theorem Ykl {e:TypeId}{x:Operand}(hop:o.op = .box e x):Xz P B h ι w T a o y eff:=by
 have hc0:=hc;simp only [Zp,hop] at hc;obtain⟨n,hn,X,hX,rfl⟩:∃ n,Z9 P e=some n /\ ∃ X,opd x=some X/\AOp.box e n X=ao:=by simpa [J0n] using hc
 exact Z0u hr hsl hl hc0 he rfl (Zg hsl hl hX) (by simp only [execOp,hop,Instr.box])

theorem Ycz {e:TypeId}(hop:o.op = .alloc e):Xz P B h ι w T a o y eff:=by
 simp only [Zp,hop] at hc;obtain⟨n,hn,z,hz,rfl⟩:∃ n,Z9 P e=some n /\ ∃ z,zeroOf P e=some z/\AOp.box e n (.c z)=ao:=by simpa [J0n] using hc
 simp only [Zc,AOpd.eval] at he;split at he
 . rename_i cs hcs;split at he
   . rename_i hcond;simp only [J0b,J0i] at he;obtain⟨rfl,rfl⟩:=he;obtain⟨i,zv,hi,hzv,hcr,hvr,_⟩:=Zdv (h:=h) (ι:=ι) (w:=w) hz hcs;refine Zi (s:=Instr.alloc e true (.tuple #[])) (by simp only [execOp,hop]) (cv:=.pointer (some ⟨w.heap.size,0,none⟩)) (w' := w.alloc (.cells zv.cells e)) (by simp [Instr.alloc,newVar,newRow,Zea hi hzv]) ⟨rfl,_,Yah (e:=e) hr hvr hcs hcond.1 hcond.2,.inr ⟨rfl,_,_,_,rfl,?_,by simp⟩⟩;simp
   grind
 grind

theorem Yep {t:TypeId}{x:Operand}(hop:o.op = .load t x):Xz P B h ι w T a o y eff:=by
 simp only [Zp,hop] at hc;obtain⟨m,hm,X,hX,rfl⟩:∃ m,Zcs P t=some m /\ ∃ X,opd x=some X/\AOp.load m X=ao:=by simpa [J0n] using hc
 obtain⟨rfl,cv,hrun,hv⟩:=Zth hr hm (Zg hsl hl hX) rfl he;exact Zi (s:=Instr.loadAt t (a.eval x)) (by simp only [execOp,hop]) hrun ⟨rfl,hv⟩

theorem Yc0 {t:TypeId}{p x:Operand}(hop:o.op = .store t p x):Xz P B h ι w T a o y eff:=by
 simp only [Zp,hop] at hc;obtain⟨n,hn,A,hA,X,hX,rfl⟩:∃ n,Z9 P t=some n /\ ∃ A,opd p=some A /\ ∃ X,opd x=some X/\AOp.store n A X=ao:=by simpa [J0n] using hc
 obtain⟨rfl,s,o',w',rfl,hrun,hupd⟩:=Z3s hr hn (Zg hsl hl hX) (Zg hsl hl hA) rfl rfl he;exact⟨undef,w',.inr ⟨by simp [execOp,hop,hrun],rfl⟩,_,hupd,.inr .u⟩

theorem Ykm {x:Operand}(hop:o.op = .nilCheck x):Xz P B h ι w T a o y eff:=by
 simp only [Zp,hop] at hc;obtain⟨X,hX,rfl⟩:∃ X,opd x=some X/\AOp.nilchk X=ao:=by simpa [J0n] using hc
 have h1:=Zg hsl hl hX;simp only [Zc] at he;split at he
 . rename_i t ver i off hx;split at he
   . rename_i o' hgo;simp only [J0b,J0i] at he;obtain⟨rfl,rfl⟩:=he;rw [hx] at h1;obtain⟨hot,hov⟩:=Zj hgo;have h2:=h1;cases h1 with
     | ptr _ _ _ _ _ ht hone hob=>obtain⟨g,N,C,hsv,hv,hil⟩:=(hob o' hot).2 hov;exact⟨_,w,.inl (by simp [execOp,hop,hv];rfl),rfl,by grind⟩
   grind
 . rename_i cs hx;simp only [J0b,J0i] at he;obtain⟨rfl,rfl⟩:=he;rw [hx] at h1;generalize hv:a.eval x=v at h1;have h2:=h1;cases h1 with
   | fptr _ ad u _ _ _ _=>exact⟨.pointer (some ad),w,.inl (by simp [execOp,hop,hv]),rfl,h2⟩
 . rename_i f cs hx;simp only [J0b,J0i] at he;obtain⟨rfl,rfl⟩:=he;rw [hx] at h1;generalize hv:a.eval x=v at h1;cases h1 with
   | fn _ _ vs h2 h3=>exact⟨_,w,.inl (by simp [execOp,hop,hv]),rfl,.fn _ _ _ h2 h3⟩
 . rename_i g off hx;simp only [J0b,J0i] at he;obtain⟨rfl,rfl⟩:=he;rw [hx] at h1;generalize hv:a.eval x=v at h1;cases h1 with
   | gp _ _=>exact⟨_,w,.inl (by simp [execOp,hop,hv]),rfl,.gp _ _⟩
 . rename_i f cs hx;simp only [J0b,J0i] at he;obtain⟨rfl,rfl⟩:=he;rw [hx] at h1;generalize hv:a.eval x=v at h1;cases h1 with
   | fb _ _ vs h2 h3=>exact⟨_,w,.inl (by simp [execOp,hop,hv]),rfl,.fb _ _ _ h2 h3⟩
 grind

theorem Yod {op:UnOp}{t:TypeId}{x:Operand}(hop:o.op = .unOp op t x):Xz P B h ι w T a o y eff:=by
 simp only [Zp,hop] at hc;obtain⟨X,hX,rfl⟩:∃ X,opd x=some X/\AOp.un op X=ao:=by simpa [J0n] using hc
 have h1:=Zg hsl hl hX;simp only [Zc] at he;split at he
 . rename_i v hv;simp only [J0b,J0i] at he;obtain⟨rfl,rfl⟩:=he;generalize hev:a.eval x=cv at h1;have hx:execOp a.eval o=(do pure (.value (<- Op.unary op cv)):Sem Next):=by simp only [execOp,hop,hev]
   unfold unA at hv;split at hv
   . rename_i k n hx2;rw [hx2] at h1;cases h1 with | p _ _ h1 =>
      cases h1;split at hv
      . obtain rfl:=J0a hv;exact Zi hx (by simp [Op.unary,Op.intArith]) ⟨rfl,.p _ _ (.int _ _)⟩
      . obtain rfl:=J0a hv;exact Zi hx (by simp only [Op.unary,intBits_xor,Sem.run_pure]) ⟨rfl,.p _ _ (.int _ _)⟩
      grind
   . rename_i b hx2;rw [hx2] at h1;cases h1 with | p _ _ h1 =>
      cases h1;split at hv
      . obtain rfl:=J0a hv;exact Zi hx (by simp [Op.unary]) ⟨rfl,.p _ _ (.bool _)⟩
      grind
   grind
 grind

theorem Z3w {s d:TypeId}{x:Operand}(hop:o.op = .convert s d x):Xz P B h ι w T a o y eff:=by
 simp only [Zp,hop] at hc;obtain⟨X,hX,hc⟩:=bind_some.1 hc;obtain⟨ds,hs,hc⟩:=bind_some.1 hc;obtain⟨dd,hd,hc⟩:=bind_some.1 hc;have h1:=Zg hsl hl hX;generalize hev:a.eval x=cv at h1;have hx:execOp a.eval o=(do pure (.value (<- convert s d cv)):Sem Next):=by simp only [execOp,hop,hev]
 split at hc
 . rename_i k1 k;simp only [pure,J0b] at hc;subst hc;simp only [Zc] at he;split at he
   . rename_i k2 n hn;simp only [J0b,J0i] at he;obtain⟨rfl,rfl⟩:=he;rw [hn] at h1;cases h1 with | p _ _ h1=>cases h1;exact Zi hx (by simp [convert,run_underlying hs,run_underlying hd,Conv.intToInt]) ⟨rfl,.p _ _ (.int _ _)⟩
   grind
 . simp only [pure,J0b] at hc;subst hc;simp only [Zc] at he;split at he
   . rename_i n hn;simp only [J0b,J0i] at he;obtain⟨rfl,rfl⟩:=he;rw [hn] at h1;cases h1 with | p _ _ h1=>cases h1;exact Zi hx (by simp [convert,run_underlying hs,run_underlying hd]) ⟨rfl,.p _ _ (.str _)⟩
   grind
 . rename_i e;obtain⟨de,hu,hc⟩:=bind_some.1 hc;split at hc
   . simp only [pure,J0b] at hc;subst hc;simp only [Zc] at he;split at he
     . rename_i s hsx;simp only [J0b,J0i] at he;obtain⟨rfl,rfl⟩:=he;rw [hsx] at h1;obtain⟨cv,w',hrun,hg,hv⟩:=Z7d hr h1 hs hd hu;exact Zi hx hrun ⟨hg,hv⟩
     . cases he
   . cases hc
 . rename_i e;obtain⟨de,hu,hc⟩:=bind_some.1 hc;split at hc
   . simp only [pure,J0b] at hc;subst hc;simp only [Zc] at he;split at he
     . rename_i es hes;split at he
       . rename_i l hb;simp only [J0b,J0i] at he;obtain⟨rfl,rfl⟩:=he;exact Zi hx (Yen hr h1 hes hb hs hu hd) ⟨rfl,.p _ _ (.str _)⟩
       grind
     grind
   grind
 grind

theorem Ykn {op:BinOp}{t t' : TypeId}{x z:Operand}(hop:o.op = .binOp op t x z t'):Xz P B h ι w T a o y eff:=by
 simp only [Zp,hop] at hc;obtain⟨X,hX,hc⟩:=bind_some.1 hc;obtain⟨Z,hZ,hc⟩:=bind_some.1 hc;have h1:=Zg hsl hl hX;have h2:=Zg hsl hl hZ;have plain:ao = .bin op X Z->Xz P B h ι w T a o y eff:=by
  rintro rfl;simp only [Zc] at he;split at he
  . rename_i v hv;simp only [J0b,J0i] at he;obtain⟨rfl,rfl⟩:=he;obtain⟨cv,hrun,hvr⟩:=Yem (P:=P) (t:=t) h1 h2 hv x z;exact Zi (s:=do eqGuard op t x z (a.eval x) (a.eval z);binOp op t (a.eval x) (a.eval z)) (by simp only [execOp,hop]) hrun ⟨rfl,hvr⟩
  grind
 have eq:∀ neg:Bool,op=(if neg then .neq else .eql)->(∃ d,P.underlying t=some d/\(d = .bool/\ao = .beq neg X Z∨Qz d=true/\P.eqGuardType P.depth t=false /\ ∃ n ix,Z9 P t=some n/\Q6 P 100 t 0=some ix/\ao = .eqagg neg n ix X Z))->Xz P B h ι w T a o y eff:=by
  rintro neg hopn ⟨d,hd,⟨rfl,rfl⟩ | ⟨hda,hg,n,ix,hn,hix,rfl⟩⟩
  . simp only [Zc] at he;split at he
    . rename_i b1 b2 hb1 hb2;simp only [J0b,J0i] at he;obtain⟨rfl,rfl⟩:=he;rw [hb1] at h1;rw [hb2] at h2;generalize hv1:a.eval x=v1 at h1;generalize hv2:a.eval z=v2 at h2;cases h1 with | p _ _ h1=>cases h2 with | p _ _ h2 =>
       cases h1;cases h2;refine Zi (s:=do eqGuard op t x z (.bool b1) (.bool b2);binOp op t (.bool b1) (.bool b2)) (by simp only [execOp,hop,hv1,hv2]) (cv:=.bool (if neg then !(b1==b2) else b1==b2)) (w' := w) ?_ ⟨rfl,.p _ _ (.bool _)⟩;rw [eqGuard_at_bool,hopn];cases neg
       . simp [run_eql_bool w t b1 b2 hd]
       . simp [run_neq_bool w t b1 b2 hd]
    grind
  . simp only [Zc] at he;split at he
    . rename_i xs ys hb1 hb2;split at he
      . rename_i hlen;split at he
        . rename_i r hr';simp only [J0b,J0i] at he;obtain⟨rfl,rfl⟩:=he;rw [hb1] at h1;rw [hb2] at h2;have hrun:=Ycw (P:=P) h1 h2 hn hlen hix ⟨d,hd,hda⟩ hg hr' neg x z;exact Zi (s:=do eqGuard op t x z (a.eval x) (a.eval z);binOp op t (a.eval x) (a.eval z)) (by simp only [execOp,hop]) (by grind) ⟨rfl,.p _ _ (.bool _)⟩
        grind
      grind
    grind
 have agg:∀ neg:Bool,op=(if neg then .neq else .eql)->(op == .neq)=neg->(do
     match <- P.underlying t with
     | .int _ | .string=>return .bin op X Z
     | .bool=>return .beq (op == .neq) X Z
     | .slice _=>Yef (op == .neq) X Z
     | .interface _=>Yeg (op == .neq) X Z
     | .pointer _=>Yeh (op == .neq) X Z
     | .func _ _ _=>fnOp (op == .neq) X Z
     | .struct _ | .array _ _=>do
      if P.eqGuardType P.depth t then none else
      return .eqagg (op == .neq) (<- Z9 P t) (<- Q6 P 100 t 0) X Z
     | _=>none:Option AOp)=some ao->Xz P B h ι w T a o y eff:=by
   intro neg hopn hn hc;obtain⟨d,hd,hc⟩:=bind_some.1 hc;have str:Qz d=true->(do
       if P.eqGuardType P.depth t then none else
       return .eqagg (op == .neq) (<- Z9 P t) (<- Q6 P 100 t 0) X Z:Option AOp)=some ao->Xz P B h ι w T a o y eff:=by
     intro hda hc;split at hc
     . cases hc
     . rename_i hg;obtain⟨n,hn',ix,hix,rfl⟩:∃ n,Z9 P t=some n /\ ∃ ix,Q6 P 100 t 0=some ix/\AOp.eqagg (op == .neq) n ix X Z=ao:=by simpa [J0n] using hc
       exact eq neg hopn ⟨d,hd,.inr ⟨hda,by grind,n,ix,hn',hix,by rw [hn]⟩⟩
   split at hc
   . grind
   . grind
   . exact eq neg hopn ⟨_,hd,.inl ⟨rfl,by grind⟩⟩
   . unfold Yef at hc;split at hc
     . obtain rfl:=J0a hc;simp only [Zc] at he;split at he
       . rename_i b hb;simp only [J0b,J0i] at he;obtain⟨rfl,rfl⟩:=he;simp only [AOpd.eval] at h2;generalize hv2:a.eval z=v2 at h2;cases h2 with
         | nil=>obtain⟨ad,n,c,hv1,hnone⟩:=Ycy hr h1 hb;refine Zi (s:=do eqGuard op t x z (.slice ad n c) (.slice none 0 0);binOp op t (.slice ad n c) (.slice none 0 0)) (by simp only [execOp,hop,hv1,hv2]) (cv:=.bool (if neg then !b else b)) (w' := w) ?_ ⟨rfl,by rw [hn];exact .p _ _ (.bool _)⟩;exact Zsj hd hopn hnone x z
       grind
     grind
   . unfold Yeg at hc;split at hc
     . obtain rfl:=J0a hc;simp only [Zc] at he;split at he
       . rename_i b hb;simp only [J0b,J0i] at he;obtain⟨rfl,rfl⟩:=he;simp only [AOpd.eval] at h2;rw [hb] at h1;generalize hv2:a.eval z=v2 at h2;generalize hv1:a.eval x=v1 at h1;cases h2 with
         | if0 =>
          have hz:∃ v,z = .const v:=by have:=hZ;unfold opd at this;grind
          obtain⟨zc,rfl⟩:=hz;refine Zi (s:=do eqGuard op t x (.const zc) v1 .nilIface;binOp op t v1 .nilIface) (by simp only [execOp,hop,hv1,hv2]) (cv:=.bool (if neg then b else !b)) (w' := w) ?_ ⟨rfl,by rw [hn];exact .p _ _ (.bool _)⟩;exact Ykk hd hopn h1 x zc
       grind
     grind
   . unfold Yeh at hc;split at hc
     . obtain rfl:=J0a hc;simp only [Zc] at he;split at he
       . rename_i b hb;simp only [J0b,J0i] at he;obtain⟨rfl,rfl⟩:=he;simp only [AOpd.eval] at h2;generalize hv2:a.eval z=v2 at h2;generalize hv1:a.eval x=v1 at h1;cases h2 with
         | nptr=>obtain⟨q,rfl,hq⟩:=Ycx hr h1 hb;refine Zi (s:=do eqGuard op t x z (.pointer q) (.pointer none);binOp op t (.pointer q) (.pointer none)) (by simp only [execOp,hop,hv1,hv2]) (cv:=.bool (if neg then !b else b)) (w' := w) ?_ ⟨rfl,by rw [hn];exact .p _ _ (.bool _)⟩;exact Zw2 hd hopn hq x z
       . cases he
     . cases hc
   . unfold fnOp at hc;split at hc
     . obtain rfl:=J0a hc;simp only [Zc] at he;split at he
       . rename_i b hb;simp only [J0b,J0i] at he;obtain⟨rfl,rfl⟩:=he;simp only [AOpd.eval] at h2;generalize hv2:a.eval z=v2 at h2;generalize hv1:a.eval x=v1 at h1;cases h2 with
         | nilf=>refine Zi (s:=do eqGuard op t x z v1 .nilFunc;binOp op t v1 .nilFunc) (by simp only [execOp,hop,hv1,hv2]) (cv:=.bool (if neg then !b else b)) (w' := w) ?_ ⟨rfl,by rw [hn];exact .p _ _ (.bool _)⟩;exact Z0t hd hopn h1 hb x z
       . cases he
     . cases hc
   . exact str rfl hc
   . exact str rfl hc
   grind
 grind

theorem Z3x {x:Operand}{i:Nat}(hop:o.op = .extract x i):Xz P B h ι w T a o y eff:=by
 simp only [Zp,hop] at hc;obtain⟨X,hX,rfl⟩:∃ X,opd x=some X/\AOp.extract i X=ao:=by simpa [J0n] using hc
 have h1:=Zg hsl hl hX;simp only [Zc] at he;split at he
 . rename_i vs hvs;split at he
   . rename_i v hv;simp only [J0b,J0i] at he;obtain⟨rfl,rfl⟩:=he;rw [hvs] at h1;generalize hev:a.eval x=cv at h1;cases h1 with
     | tuple _ us h2 h3 =>
      have hlt:i<us.size:=by grind
      exact Zi (s:=Instr.extract (.tuple us) i) (by simp only [execOp,hop,hev]) (by simp [Instr.extract,Array.getElem?_eq_getElem hlt]) ⟨rfl,h3 i _ _ hv (Array.getElem?_eq_getElem hlt)⟩
   grind
 grind
end
end Go.Abs
