import Derived.Test.YtfnhchmemplhaaaGreatBCC
import Derived.Test.YtfnhchmemplhaaaGreatBWP
/- task.asked, as the machine takes it: its walk, where all is right. -/
set_option linter.unusedVariables false
set_option linter.unusedSimpArgs false
set_option maxRecDepth 100000
namespace Tg
open Go Go.Abs Go.RowKit Go.Proofs
end Tg
