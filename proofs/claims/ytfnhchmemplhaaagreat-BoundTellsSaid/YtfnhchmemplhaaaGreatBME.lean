import Derived.Test.YtfnhchmemplhaaaGreatBMW
import Derived.Test.YtfnhchmemplhaaaGreatBYb10
/- Which operators can do a step: the program and the reference say the same. -/
set_option linter.unusedVariables false
set_option linter.unusedSimpArgs false
namespace Tg
open Go
open Go.Abs (Zg Zz tmm)
end Tg

/- An operator of a right machine can do a step: the program and the reference say the same. -/
namespace Tg
open Go
open Go.Abs (Zg Zz tmm)
theorem Z8v {b:Bool}{m:Mch}(h:mchB b m=true):b=true∧Tj.Zcd (mG m).1 (mG m).2.1∧(mG m).1.length≤20∧(mG m).2.1.length≤100∧(mT m).length=(mG m).1.length∧(mU m).length=(mG m).2.1.length∧(∀ q∈mU m,queB q=true)∧(∀ (i:Nat) t,(mT m)[i]? = some t→fitB m.2.2.2.1 m.2.2.2.2.2.2.2.2.2.1 (mG m) i t=true):=by
 unfold mchB at h
 simp only [Bool.and_eq_true,beq_iff_eq] at h
 obtain⟨h1,h2,h3,h4,h5,h6⟩:=h
 obtain⟨g1,g2,g3⟩:=Zu1 h2
 refine⟨h1,Zuw g3,g1,g2,h3,h4,fun q hq=>?_,fun i t ht=>?_⟩
 · obtain⟨i,hi⟩:=List.getElem?_of_mem hq
   have:=Z0f h5 hi
   unfold queI at this
   split at this
   · cases this
   · rw [Bool.and_eq_true] at this
     exact this.2
 · have:=Z0f h6 ht
   rwa [Nat.zero_add] at this
end Tg

/- enabled.All, Left and First against the reference. -/
namespace Tg
open Go
open Go.Abs (Zg Zz tmm)
end Tg

/- enabled.First and Left against the reference. -/
namespace Tg
open Go
open Go.Abs (Zg Zz tmm)
end Tg
