/- The law of queues First from the contracts of its functions. -/
import Derived.Test.YtfdpoliibpelaaaChP6
import Derived.Test.YtfdpoliibpelaaaChB
set_option linter.unusedVariables false
namespace Tw
open Go.Abs
theorem law5 : ∀ pas, POKAs con5.args pas → Spec Go.Proofs.Try.prog 5 pas [.c (.c (.bool true))] := law_of ok5 fun a h => firsts_true a.1 a.2.1 a.2.2.1
end Tw
