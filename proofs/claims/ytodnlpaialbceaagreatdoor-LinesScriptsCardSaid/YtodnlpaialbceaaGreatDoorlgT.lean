import Derived.Test.YtodnlpaialbceaaGreatDoorAbsB6
import Derived.Test.YtodnlpaialbceaaGreatDoorlgA
import Derived.Test.YtodnlpaialbceaaGreatDoorGlT
/- Names of types and shapes. -/
set_option linter.unusedVariables false
set_option linter.unusedSimpArgs false
namespace Tg
open Go.Abs
abbrev qY1 : List CT := [.int .i64, .int .i64, .int .i64, .int .i64, .int .i64]
abbrev qY2 : List CT := [.int .i64, .int .i64]
abbrev qY3 : List CT := [.sl [.int .u8, .int .i64], .sl qY1]
end Tg
