import Derived.Test.YtfdgpbehbpldfaaGreatAbsB6
import Derived.Test.YtfdgpbehbpldfaaGreatzzA
import Derived.Test.YtfdgpbehbpldfaaGreatGl
/- Names of types and shapes. -/
set_option linter.unusedVariables false
namespace Tg
open Go.Abs
abbrev qY2 : List CT := [.int .u8, .int .i64, .int .i64, .int .i64, .int .i64]
abbrev qY3 : List CT := [.int .i64, .int .i64, .int .i64, .int .i64, .int .i64]
abbrev qY4 : List CT := [.int .i64, .int .i64, .int .i64, .int .i64, .int .i64, .int .i64, .int .i64, .int .i64, .int .i64, .int .i64, .int .i64]
abbrev qY5 : List CT := [.int .i64, .int .u8, .int .i64, .int .i64, .int .i64, .int .i64, .int .i64, .int .i64, .int .i64, .int .i64, .int .i64]
abbrev qY6 : List CT := [.bool, .int .i64, .int .i64, .int .i64, .int .i64]
abbrev qY7 : List CT := [.int .u8, .int .i64, .int .i64, .int .i64, .int .i64, .int .i64, .int .i64, .int .i64, .int .i64, .int .i64]
abbrev qY9 : List CT := [.int .i64, .int .i64, .int .i64]
abbrev qY10 : List CT := [.int .u8, .int .i64]
abbrev qY11 : List CT := [.int .i64]
abbrev qY1 : List CT := [.int .u8, .int .i64, .int .i64, .sl qY5, .sl qY11, .sl qY4, .sl qY6, .sl qY3, .sl qY9]
abbrev qY8 : List CT := [.int .u8, .sl qY2, .sl qY11, .bool, .sl qY2, .int .u8, .int .i64, .int .i64, .bool, .int .u8]
abbrev qY12 : List CT := [.int .u8, .sl qY2, .sl qY11, .bool, .sl qY2, .int .u8, .int .i64, .int .i64, .bool, .int .u8, .sl qY10, .sl qY3, .sl qY1, .sl [.int .i64, .sl qY7]]
abbrev qY13 : List CT := [.sl [.int .u8], .int .u8, .sl qY2, .sl qY11, .bool, .sl qY2, .int .u8, .int .i64, .int .i64, .bool, .int .u8]
end Tg
