import Derived.Test.YtepkicnfkpclcaaDoorAbsB6
import Derived.Test.YtepkicnfkpclcaaDoorlbA
import Derived.Test.YtepkicnfkpclcaaDoorGlT
/- Names of types and shapes. -/
set_option linter.unusedVariables false
set_option linter.unusedSimpArgs false
namespace Tg
open Go.Abs
abbrev qW1 : List CT := [.int .i64, .int .i64, .int .i64, .int .i64, .int .i64]
end Tg
