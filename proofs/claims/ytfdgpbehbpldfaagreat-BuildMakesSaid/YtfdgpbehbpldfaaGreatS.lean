import Derived.Test.YtfdgpbehbpldfaaGreatR
import Derived.Test.YtfdgpbehbpldfaaGreatzbB2
/- The law of the builder from the contracts of its functions. -/
set_option linter.unusedVariables false
namespace Tg
open Go.Abs
theorem bmSpec : ∀ pas, POKAs con3.args pas → Spec Go.Proofs.Tryz.prog 3 pas [.c (.c (.bool true))] := law_of ok3 fun a _ => bm_true a.1 a.2.1 a.2.2.1 a.2.2.2.1
end Tg
