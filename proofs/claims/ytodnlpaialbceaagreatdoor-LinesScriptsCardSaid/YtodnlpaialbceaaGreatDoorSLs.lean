import Derived.Test.YtodnlpaialbceaaGreatDoorP15
import Derived.Test.YtodnlpaialbceaaGreatDoorlgB3
import Derived.Test.YtodnlpaialbceaaGreatDoorAbsLaw
/- The law of LinesScripts from the contracts of its functions. -/
set_option linter.unusedVariables false
set_option linter.unusedSimpArgs false
namespace Tg
open Go Go.Abs
theorem lsSpec : ∀ pas, POKAs con3.args pas → Spec Go.Proofs.Tryz.prog 3 pas [.c (.c (.bool true))] := law_of ok3 fun a hw => by
  obtain ⟨l, s, x, u'⟩ := a
  exact scripts_true l s x
end Tg
