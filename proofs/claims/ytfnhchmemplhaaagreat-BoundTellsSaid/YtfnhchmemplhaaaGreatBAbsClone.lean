/- The abstract machine and its soundness, part Clone. -/
import Derived.Test.YtfnhchmemplhaaaGreatBAbsA8
set_option linter.constructorNameAsVariable false
set_option linter.unusedVariables false
set_option linter.unusedSectionVars false
set_option linter.unusedSimpArgs false
namespace Go.Abs
variable [Glob]

theorem ASteps.all {P:Program}{ss:List AStep}{st st' : St}(h:arun ss st=some ([],st')):ASteps P ss st st' := .run h (.nil _)

end Go.Abs
