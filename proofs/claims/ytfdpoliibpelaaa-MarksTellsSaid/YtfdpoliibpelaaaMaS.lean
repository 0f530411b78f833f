/- The laws of marks from the contracts of their functions. -/
import Derived.Test.YtfdpoliibpelaaaMaP3
import Derived.Test.YtfdpoliibpelaaaMaB
set_option linter.unusedVariables false
namespace Tm
open Go.Abs
theorem law9 : ∀ pas, POKAs con9.args pas → Spec Go.Proofs.Try.prog 9 pas [.c (.c (.bool true))] := law_of ok9 fun a h => raises_true a.1 a.2.1 a.2.2.1
theorem law10 : ∀ pas, POKAs con10.args pas → Spec Go.Proofs.Try.prog 10 pas [.c (.c (.bool true))] := law_of ok10 fun a h => back_true a.1 a.2.1 a.2.2.1
theorem law11 : ∀ pas, POKAs con11.args pas → Spec Go.Proofs.Try.prog 11 pas [.c (.c (.bool true))] := law_of ok11 fun a h => order_true a.1 a.2.1 a.2.2.1 a.2.2.2.1 a.2.2.2.2.1
theorem law12 : ∀ pas, POKAs con12.args pas → Spec Go.Proofs.Try.prog 12 pas [.c (.c (.bool true))] := law_of ok12 fun a h => ends_true a.1
theorem law13 : ∀ pas, POKAs con13.args pas → Spec Go.Proofs.Try.prog 13 pas [.c (.c (.bool true))] := law_of ok13 fun a h => tells_true a.1 a.2.1
end Tm
