import Derived.Test.Ytiilfgphdpcioaaw3B0
import Derived.Test.Ytiilfgphdpcioaaw3B1h40
import Derived.Test.Ytiilfgphdpcioaaw3B2
import Derived.Test.Ytiilfgphdpcioaaw3B1h42
import Derived.Test.Ytiilfgphdpcioaaw3B1h38
import Derived.Test.Ytiilfgphdpcioaaw3B3h20
import Derived.Test.Ytiilfgphdpcioaaw3B4
import Derived.Test.Ytiilfgphdpcioaaw3B1h15
/- The contracts of the functions, checked by the kernel. -/
namespace Tg
end Tg
