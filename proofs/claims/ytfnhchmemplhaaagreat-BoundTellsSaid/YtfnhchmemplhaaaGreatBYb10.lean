import Derived.Test.YtfnhchmemplhaaaGreatBYb9
import Derived.Test.YtfnhchmemplhaaaGreatBTA
/- Functions of the code, told plainly and checked by the kernel. -/
set_option linter.unusedVariables false
set_option linter.unusedSimpArgs false
set_option maxRecDepth 100000
namespace Tg
open Go.Abs hiding fuel
open Go.Proofs.Tryz (prog)
open Int (ofNat toNat)
open Go.IntKind (wrap)
end Tg
