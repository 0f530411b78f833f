/- The law ChannelTakes from the contract of its function. -/
import Derived.Test.YtfdpoliibpelaaaChP2
import Derived.Test.YtfdpoliibpelaaaC3B
set_option linter.unusedVariables false
namespace Tw
open Go.Abs
theorem law3 : ∀ pas, POKAs con3.args pas → Spec Go.Proofs.Try.prog 3 pas [.c (.c (.bool true))] := law_of ok3 fun a h => takes_true a.1
end Tw
