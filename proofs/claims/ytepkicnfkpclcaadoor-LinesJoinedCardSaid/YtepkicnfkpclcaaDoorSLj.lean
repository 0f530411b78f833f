import Derived.Test.YtepkicnfkpclcaaDoorP9
import Derived.Test.YtepkicnfkpclcaaDoorSLo
import Derived.Test.YtepkicnfkpclcaaDoorljB1h5
/- The law of LinesJoined from the contracts of its functions. -/
set_option linter.unusedVariables false
set_option linter.unusedSimpArgs false
namespace Tg
open Go Go.Abs
theorem ljSpec : ∀ pas, POKAs con5.args pas → Spec Go.Proofs.Tryd.prog 5 pas [.c (.c (.bool true))] := law_of ok5 fun a hw => by
  obtain ⟨⟨rows, recs, u⟩, ⟨rows2, recs2, u2⟩, u'⟩ := a
  obtain ⟨⟨h1, h2, _⟩, ⟨h3, h4, _⟩, _⟩ := hw
  exact joined_true (rows, recs, ()) (rows2, recs2, ()) (rows_in h1.2) (recs_in h2.2) (rows_in h3.2) (recs_in h4.2)
end Tg
