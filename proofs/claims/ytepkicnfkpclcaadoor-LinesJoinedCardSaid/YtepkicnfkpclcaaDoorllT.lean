import Derived.Test.YtepkicnfkpclcaaDoorAbsB6
import Derived.Test.YtepkicnfkpclcaaDoorllA
import Derived.Test.YtepkicnfkpclcaaDoorGlT
/- Names of types and shapes. -/
set_option linter.unusedVariables false
set_option linter.unusedSimpArgs false
namespace Tg
open Go.Abs
abbrev qY1 : List CT := [.int .i64, .int .i64, .int .i64, .int .i64, .int .i64]
abbrev qY2 : List CT := [.int .i64, .int .i64, .int .i64]
abbrev qY3 : List CT := [.int .i64, .int .i64]
abbrev qY4 : List CT := [.int .u8, .int .i64, .int .i64, .int .i64, .int .i64, .int .i64, .int .i64, .int .i64, .int .i64, .int .i64]
end Tg
