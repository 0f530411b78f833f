import Derived.Test.YtiilfgphdpcioaaPW
import Derived.Test.Ytiilfgphdpcioaaw3B
/- The law of windows from the contracts of its functions. -/
set_option linter.unusedVariables false
namespace Tg
open Go.Abs
theorem law3 : ∀ pas, POKAs con3.args pas → Spec Go.Proofs.Try.prog 3 pas [.c (.c (.bool true))] := law_of ok3 fun a h => bound_true a.1 a.2.1
end Tg
