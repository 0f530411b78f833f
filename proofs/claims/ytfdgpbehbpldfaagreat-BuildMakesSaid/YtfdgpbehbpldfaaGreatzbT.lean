import Derived.Test.YtfdgpbehbpldfaaGreatAbsB6
import Derived.Test.YtfdgpbehbpldfaaGreatzbA
import Derived.Test.YtfdgpbehbpldfaaGreatGl
/- Names of types and shapes. -/
set_option linter.unusedVariables false
namespace Tg
open Go.Abs
abbrev qX2 : List CT := [.int .u8, .int .i64, .int .i64, .int .i64, .int .i64]
abbrev qX3 : List CT := [.int .i64, .int .i64, .int .i64, .int .i64, .int .i64, .int .i64, .int .i64, .int .i64, .int .i64, .int .i64, .int .i64]
abbrev qX4 : List CT := [.int .i64, .int .u8, .int .i64, .int .i64, .int .i64, .int .i64, .int .i64, .int .i64, .int .i64, .int .i64, .int .i64]
abbrev qX5 : List CT := [.int .i64, .int .i64, .int .i64, .int .i64, .int .i64]
abbrev qX6 : List CT := [.bool, .int .i64, .int .i64, .int .i64, .int .i64]
abbrev qX7 : List CT := [.int .i64, .sl [.int .u8, .int .i64, .int .i64, .int .i64, .int .i64, .int .i64, .int .i64, .int .i64, .int .i64, .int .i64]]
abbrev qX8 : List CT := [.int .u8, .sl qX2, .sl [.int .i64], .bool, .sl qX2, .int .u8, .int .i64, .int .i64, .bool, .int .u8]
abbrev qX9 : List CT := [.int .i64, .int .i64, .int .i64]
abbrev qX1 : List CT := [.int .u8, .int .i64, .int .i64, .sl qX4, .sl [.int .i64], .sl qX3, .sl qX6, .sl qX5, .sl qX9]
end Tg
