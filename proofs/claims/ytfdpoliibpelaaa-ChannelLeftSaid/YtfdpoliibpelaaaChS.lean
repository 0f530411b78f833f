/- The laws of queues from the contracts of their functions. -/
import Derived.Test.YtfdpoliibpelaaaChP5
import Derived.Test.YtfdpoliibpelaaaChB
set_option linter.unusedVariables false
namespace Tw
open Go.Abs
theorem law4 : ∀ pas, POKAs con4.args pas → Spec Go.Proofs.Try.prog 4 pas [.c (.c (.bool true))] := law_of ok4 fun a h => puts_true a.1 a.2.1 a.2.2.1
theorem law7 : ∀ pas, POKAs con7.args pas → Spec Go.Proofs.Try.prog 7 pas [.c (.c (.bool true))] := law_of ok7 fun a h => once_true a.1 a.2.1
theorem law8 : ∀ pas, POKAs con8.args pas → Spec Go.Proofs.Try.prog 8 pas [.c (.c (.bool true))] := law_of ok8 fun a h => lefts_true a.1 a.2.1
end Tw
