import Derived.Test.YtlnihcefchoofaaGreatDoorDAbsA8
import Derived.LaidMore
import Derived.OpenShut
set_option linter.all false
namespace Go.Abs
open Go.ChangeShapes Go.WideShapes Go.ChangeAt Go.RowKit
variable [GTab] [Glob]
section
variable {H:Type} {enc:TypeId×Value->H} {P:Program}
theorem Ybp{f:Func}{s:ChangeSpec}{apart fresh handsOn again:Bool}{W W' : World}{args:Array Value}{v:Value}{ds gs:List (DataW H)}{before pa pv:List MemPlace}
    (hW:DataW.Whole enc P f.params.toList s.vars apart W args.toList ds gs before)
    (hres:∀(b:Nat) (sp:Nat->Bool) (hd:Bool),DataW.TrodAll enc P W' b sp hd f.resultTypes.toList (v.resultList f.resultTypes.size) (s.fn H (ds++gs)).results [])
    (hargs:∀sp:Nat->Bool,(∀p∈before,sp p.block=true)->DataW.TrodAll enc P W' 0 sp true f.params.toList args.toList (s.fn H (ds++gs)).args pa)
    (hvars:∀sp:Nat->Bool,(∀p∈before,sp p.block=true)->DataW.TrodVars enc P W' sp s.vars (s.fn H (ds++gs)).vars pv)
    (hps:before=pa++pv) (hb:Below W.heap.size W W')
    (hok:∀(j:Nat) (t:TypeId) (r:Value),f.resultTypes[j]? = some t->(v.resultList f.resultTypes.size)[j]? = some r->Value.okWide P W' .any 0 t r) :
    s.post enc P f apart fresh handsOn again W args v W' := by
  have hlt:∀p∈before,p.block<W.heap.size:=λp hp=>hW.lt p hp;have hold:∀p∈before,(λb=>decide (b<W.heap.size)) p.block=true:=λp hp=>by grind
  refine⟨ds,gs,before,[],pa,pv,hW,hres _ _ _,hargs _ hold,hvars _ hold,World.keptBut_mono (λp hp=>⟨hp,?_⟩) (hb.frame (· ∈ before)),λ_=>?_⟩;grind;obtain⟨_,_,_,_,_,hz,hn⟩:=hW;refine⟨hok,_,_,([]++pa)++pv,⟨[]++pa,pv,trodAll_append (hargs _ (λ_ _=>rfl)) (hres _ _ _),hvars _ (λ_ _=>rfl),rfl,?_,?_⟩,?_⟩;intro b off hp;have hin:MemPlace.cell b off∈before:=by grind
  rw[hb.frozen (hlt _ hin)];exact hz b off hin;grind;grind
end
theorem Ykk{P:Program}{f:FuncId}{pas:List PA}(hs:Spec P f pas [.c (.c (.bool true))])(w:World)(cargs:Array Value)(hgl:Zv w.heap.size w)(ha:Zcb w (λ_=>False) pas cargs) :
    Calls P f cargs w λe w' => e = .returned (.bool true)/\Below w.heap.size w w' :=
  (hs _ w cargs (λ_ h=>h.elim) hgl ha).mono λe w' ⟨v,ι,he,_,hh,hv⟩=>by refine⟨?_,hh.below⟩;rw[he];cases hv with|p _ _ hv=>cases hv;rfl
end Go.Abs
