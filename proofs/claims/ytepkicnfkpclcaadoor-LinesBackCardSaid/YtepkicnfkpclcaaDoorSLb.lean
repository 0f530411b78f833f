import Derived.Test.YtepkicnfkpclcaaDoorP11
import Derived.Test.YtepkicnfkpclcaaDoorSLo
import Derived.Test.YtepkicnfkpclcaaDoorlbB1h4
/- The law of LinesBack from the contracts of its functions. -/
set_option linter.unusedVariables false
set_option linter.unusedSimpArgs false
namespace Tg
open Go Go.Abs
theorem lbSpec : ∀ pas, POKAs con4.args pas → Spec Go.Proofs.Tryd.prog 4 pas [.c (.c (.bool true))] := law_of ok4 fun a hw => by
  obtain ⟨⟨rows, recs, u⟩, l, s, u'⟩ := a
  obtain ⟨⟨h1, h2, _⟩, _⟩ := hw
  exact back_true (rows, recs, ()) l s (rows_in h1.2) (recs_in h2.2)
end Tg
