import Derived.Test.YtfnhchmemplhaaaGreatBWJ0
import Derived.Deep.Upon
import Derived.Test.YtfnhchmemplhaaaGreatBHS
/- slices.Grow and slices.Concat, at queues: the walks. -/
set_option linter.unusedVariables false
set_option linter.unusedSimpArgs false
set_option maxRecDepth 100000
namespace Tj
open Go Go.RowKit Go.Proofs
end Tj

/- slices.Concat at queues, as the machine takes it: from its walk. -/
namespace Tg
open Go Go.Abs Go.RowKit Go.Proofs
def quT:List CT:=[.int .i64,.sl [.int .u8,.int .i64,.int .i64,.int .i64,.int .i64,.int .i64,.int .i64,.int .i64,.int .i64,.int .i64]]
def quE (q:Que):List PV:=pvL quT q
theorem Yfo (q:Que):(quE q).length=2:=rfl
def QRel (w:World)(O:Nat→Prop)(l:List Que)(cs:List Value):Prop:=cs.length=l.length * 2 ∧ ∀ (k:Nat) (q:Que) (j:Nat) (p:PV),l[k]? = some q→(quE q)[j]? = some p → ∃ c,cs[k * 2+j]? = some c∧PRel w O p c
theorem QRel.append {w:World}{O:Nat→Prop}{l1 l2:List Que}{c1 c2:List Value}(h1:QRel w O l1 c1)(h2:QRel w O l2 c2):QRel w O (l1++l2) (c1++c2):=by
 refine⟨by rw [List.length_append,List.length_append,h1.1,h2.1,Nat.add_mul],fun k q j p hk hj=>?_⟩
 have hj2:j<2:=by rw [← Yfo q];exact (List.getElem?_eq_some_iff.1 hj).1
 by_cases hlt:k<l1.length
 · rw [List.getElem?_append_left hlt] at hk
   obtain⟨c,hc,hp⟩:=h1.2 k q j p hk hj
   exact⟨c,by rw [List.getElem?_append_left (by rw [h1.1];omega)];exact hc,hp⟩
 · rw [List.getElem?_append_right (by omega)] at hk
   obtain⟨c,hc,hp⟩:=h2.2 _ q j p hk hj
   refine⟨c,?_,hp⟩
   rw [List.getElem?_append_right (by rw [h1.1];omega),h1.1,← hc]
   congr 1
   rw [Nat.sub_mul]
   omega
theorem pick {α β:Type}(l:List α){P:Nat→α→β→Prop}(h:∀ i a,l[i]? = some a → ∃ b,P i a b):∃ l' : List β,l'.length=l.length ∧ ∀ i a b,l[i]? = some a→l'[i]? = some b→P i a b:=by
 have h2:∀ i:Fin l.length,∃ b,P i.val (l.get i) b:=fun i=>h i.val _ (List.getElem?_eq_getElem i.isLt)
 refine⟨List.ofFn fun i=>Classical.choose (h2 i),by simp,fun i a b ha hb=>?_⟩
 obtain⟨hi,rfl⟩:=List.getElem?_eq_some_iff.1 ha
 rw [List.getElem?_ofFn,dif_pos hi] at hb
 obtain rfl:=Option.some.inj hb
 exact Classical.choose_spec (h2 ⟨i,hi⟩)
theorem Spec.pure {P:Program}{f:FuncId}{pas:List PA}{y:PV}(h:∀ (O:Nat→Prop) (w:World) (cargs:Array Value),(∀ g,O g→g<w.heap.size)→Zhq w O pas cargs→Calls P f cargs w fun e w' => ∃ v,e = .returned v∧Below w.heap.size w w' ∧ PRel w' O y v):Spec P f pas [.c (.c y)]:=by
 intro O w cargs hO hgl hp
 refine (h O w cargs hO hp).mono fun e w' he=>?_
 obtain⟨v,rfl,hb,hv⟩:=he
 have hown:Own 0 ⟨fun _=>undef,O,0,[]⟩=O:=by
  funext g
  unfold Own
  exact propext ⟨fun h=>by rcases h with h | ⟨t,h,_⟩;exact h;omega,.inl⟩
 refine⟨v,⟨fun _=>undef,O,0,[]⟩,rfl,rfl,⟨hb,Nat.le_refl _,hO,hgl,fun t o ho=>by simp [Za,Zeb,Yk] at ho,fun t t' g h1=>by simp [Za,Zeb,Yk] at h1⟩,.p _ _ ?_⟩
 have e:(Za [RA.c (.c y)]).length=0:=rfl
 rw [e,hown]
 exact hv
end Tg
