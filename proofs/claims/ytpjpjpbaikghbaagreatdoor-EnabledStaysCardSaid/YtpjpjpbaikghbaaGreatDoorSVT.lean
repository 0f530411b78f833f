import Derived.Test.YtpjpjpbaikghbaaGreatDoorSHS
set_option linter.all false
/- Names of types and shapes. -/
set_option maxRecDepth 100000
namespace Tg
open Go.Abs hiding fuel
open Int (ofNat toNat)
open Go.IntKind (wrap)
abbrev Vy1:=Int×Int×Int×Int×Int×Int×Int×Int×Int×Int×Int×Unit
abbrev Vy2:=Int×Int×Int×Int×Int×Unit
abbrev Vy4:=Int×Int×Int×Int×Int×Int×Int×Int×Int×Int×Unit
abbrev Vy5:=Bool×Int×Int×Int×Int×Unit
abbrev Vy3:=Int×Int×Int×List Vy1×List (Int×Unit)×List Vy1×List Vy5×List Vy2×List (Int×Int×Int×Unit)×Unit
abbrev Vy6:=List (Int×Int×Int×Unit)
abbrev Vy7:=List (Int×Unit)
abbrev Vy8:=Int×List Vy2×List (Int×Unit)×Bool×List Vy2×Int×Int×Int×Bool×Int×Unit
abbrev Vy9:=Int×Int×Unit
abbrev Vy10:=List (Int×Unit)×List (Int×Unit)×Bool×Unit
abbrev Vq1:List CT:=[.int .i64,.int .i64,.int .i64,.int .i64,.int .i64,.int .i64,.int .i64,.int .i64,.int .i64,.int .i64,.int .i64]
abbrev Vq3:List CT:=[.int .i64,.int .i64,.int .i64,.int .i64,.int .i64]
abbrev Vq4:List CT:=[.int .u8,.int .i64,.int .i64,.int .i64,.int .i64,.int .i64,.int .i64,.int .i64,.int .i64,.int .i64]
abbrev Vq5:List CT:=[.int .u8,.int .i64,.int .i64,.int .i64,.int .i64]
abbrev Vq6:List CT:=[.int .i64,.int .u8,.int .i64,.int .i64,.int .i64,.int .i64,.int .i64,.int .i64,.int .i64,.int .i64,.int .i64]
abbrev Vq7:List CT:=[.bool,.int .i64,.int .i64,.int .i64,.int .i64]
abbrev Vq8:List CT:=[.int .i64,.int .i64,.int .i64]
abbrev Vq10:List CT:=[.int .i64]
abbrev Vq2:List CT:=[.int .u8,.int .i64,.int .i64,.sl Vq6,.sl Vq10,.sl Vq1,.sl Vq7,.sl Vq3,.sl Vq8]
abbrev Vq9:List CT:=[.int .u8,.sl Vq5,.sl Vq10,.bool,.sl Vq5,.int .u8,.int .i64,.int .i64,.bool,.int .u8]
abbrev Vq11:List CT:=[.int .u8,.int .i64]
end Tg

/- Names of types and shapes. -/
namespace Tg
open Go.Abs hiding fuel
open Int (ofNat toNat)
open Go.IntKind (wrap)
abbrev Xy1:=List (Int×Int×Int×Int×Int×Unit)
abbrev Xy2:=Int×List (Int×Int×Int×Int×Int×Unit)×List (Int×Unit)×Bool×List (Int×Int×Int×Int×Int×Unit)×Int×Int×Int×Bool×Int×Unit
abbrev Xy3:=Int×Int×Int×Unit
abbrev Xq1:List CT:=[.int .u8,.int .i64,.int .i64,.int .i64,.int .i64]
abbrev Xq2:List CT:=[.int .i64,.int .i64,.int .i64]
end Tg

/- Names of types and shapes. -/
namespace Tg
open Go.Abs hiding fuel
open Int (ofNat toNat)
open Go.IntKind (wrap)
abbrev Yy2:=Int×Int×Int×List (Int×Int×Int×Int×Int×Int×Int×Int×Int×Int×Int×Unit)×List (Int×Unit)×List (Int×Int×Int×Int×Int×Int×Int×Int×Int×Int×Int×Unit)×List (Bool×Int×Int×Int×Int×Unit)×List (Int×Int×Int×Int×Int×Unit)×List (Int×Int×Int×Unit)×Unit
abbrev Yy3:=Int×List (Int×Int×Int×Int×Int×Int×Int×Int×Int×Int×Unit)×Unit
abbrev Yy1:=Int×List (Int×Int×Int×Int×Int×Unit)×List (Int×Unit)×Bool×List (Int×Int×Int×Int×Int×Unit)×Int×Int×Int×Bool×Int×List (Int×Int×Unit)×List (Int×Int×Int×Int×Int×Unit)×List Yy2×List Yy3×Unit
abbrev Yy4:=List (Int×Int×Int×Int×Int×Unit)
abbrev Yy5:=List (Int×Int×Int×Int×Int×Int×Int×Int×Int×Int×Int×Unit)
abbrev Yy6:=List (Int×Unit)
abbrev Yy7:=List (Int×Int×Unit)
abbrev Yq3:List CT:=[.int .i64,.sl [.int .u8,.int .i64,.int .i64,.int .i64,.int .i64,.int .i64,.int .i64,.int .i64,.int .i64,.int .i64]]
abbrev Yq4:List CT:=[.int .u8,.int .i64,.int .i64,.int .i64,.int .i64]
abbrev Yq5:List CT:=[.int .i64,.int .i64,.int .i64,.int .i64,.int .i64]
abbrev Yq6:List CT:=[.int .i64,.int .u8,.int .i64,.int .i64,.int .i64,.int .i64,.int .i64,.int .i64,.int .i64,.int .i64,.int .i64]
abbrev Yq7:List CT:=[.int .i64]
abbrev Yq2:List CT:=[.int .u8,.int .i64,.int .i64,.sl Yq6,.sl Yq7,.sl [.int .i64,.int .i64,.int .i64,.int .i64,.int .i64,.int .i64,.int .i64,.int .i64,.int .i64,.int .i64,.int .i64],.sl [.bool,.int .i64,.int .i64,.int .i64,.int .i64],.sl Yq5,.sl [.int .i64,.int .i64,.int .i64]]
abbrev Yq8:List CT:=[.int .u8,.int .i64]
abbrev Yq1:List CT:=[.int .u8,.sl Yq4,.sl Yq7,.bool,.sl Yq4,.int .u8,.int .i64,.int .i64,.bool,.int .u8,.sl Yq8,.sl Yq5,.sl Yq2,.sl Yq3]
end Tg

/- Names of types and shapes. -/
namespace Tg
open Go.Abs hiding fuel
open Int (ofNat toNat)
open Go.IntKind (wrap)
abbrev Ty3:=Int×Int×Int×Int×Int×Int×Int×Int×Int×Int×Int×Unit
abbrev Ty4:=Int×Int×Int×Int×Int×Int×Int×Int×Int×Int×Unit
abbrev Ty5:=Int×Int×Int×Int×Int×Unit
abbrev Ty6:=Int×List Ty5×List (Int×Unit)×Bool×List Ty5×Int×Int×Int×Bool×Int×Unit
abbrev Ty7:=List (Int×Unit)
abbrev Ty8:=Int×Int×Unit
abbrev Ty9:=Int×List Ty4×Unit
abbrev Ty10:=Int×Int×Int×Unit
abbrev Ty1:=Int×Int×Int×List Ty3×List (Int×Unit)×List Ty3×List (Bool×Int×Int×Int×Int×Unit)×List Ty5×List Ty10×Unit
abbrev Ty2:=Int×List Ty5×List (Int×Unit)×Bool×List Ty5×Int×Int×Int×Bool×Int×List Ty8×List Ty5×List Ty1×List Ty9×Unit
abbrev Ty11:=Ty1×Int×Unit
abbrev Ty12:=List (Bool×Int×Int×Int×Int×Unit)
abbrev Tq2:List CT:=[.int .i64,.int .i64,.int .i64,.int .i64,.int .i64,.int .i64,.int .i64,.int .i64,.int .i64,.int .i64,.int .i64]
abbrev Tq3:List CT:=[.int .i64,.int .u8,.int .i64,.int .i64,.int .i64,.int .i64,.int .i64,.int .i64,.int .i64,.int .i64,.int .i64]
abbrev Tq4:List CT:=[.int .u8,.int .i64,.int .i64,.int .i64,.int .i64,.int .i64,.int .i64,.int .i64,.int .i64,.int .i64]
abbrev Tq5:List CT:=[.int .u8,.int .i64,.int .i64,.int .i64,.int .i64]
abbrev Tq6:List CT:=[.int .i64,.int .i64,.int .i64,.int .i64,.int .i64]
abbrev Tq7:List CT:=[.bool,.int .i64,.int .i64,.int .i64,.int .i64]
abbrev Tq9:List CT:=[.int .i64,.int .i64,.int .i64]
abbrev Tq12:List CT:=[.int .u8,.int .i64,.int .i64,.int .i64,.int .i64,.int .i64,.int .i64,.int .i64,.int .i64,.int .i64]
abbrev Tq13:List CT:=[.int .i64]
abbrev Tq1:List CT:=[.int .u8,.int .i64,.int .i64,.sl Tq3,.sl Tq13,.sl Tq2,.sl Tq7,.sl Tq6,.sl Tq9]
abbrev Tq11:List CT:=[.int .u8,.sl Tq5,.sl Tq13,.bool,.sl Tq5,.int .u8,.int .i64,.int .i64,.bool,.int .u8]
abbrev Tq14:List CT:=[.int .i64,.sl Tq4]
abbrev Tq15:List CT:=[.int .i64,.int .i64,.int .i64,.int .i64,.int .i64,.int .i64,.int .i64,.int .i64,.int .i64,.int .i64,.int .i64]
abbrev Tq16:List CT:=[.int .i64,.int .u8,.int .i64,.int .i64,.int .i64,.int .i64,.int .i64,.int .i64,.int .i64,.int .i64,.int .i64]
abbrev Tq17:List CT:=[.int .u8,.int .i64]
abbrev Tq10:List CT:=[.int .u8,.sl Tq5,.sl Tq13,.bool,.sl Tq5,.int .u8,.int .i64,.int .i64,.bool,.int .u8,.sl Tq17,.sl Tq6,.sl Tq1,.sl Tq14]
abbrev Tq18:List CT:=[.int .i64,.int .i64,.int .i64,.int .i64,.int .i64]
abbrev Tq19:List CT:=[.int .i64,.int .i64]
abbrev Tq20:List CT:=[.bool,.int .i64,.int .i64,.int .i64,.int .i64]
abbrev Tq8:List CT:=[.int .u8,.int .i64,.int .i64,.sl Tq16,.sl Tq13,.sl Tq15,.sl Tq20,.sl Tq18,.sl [.int .i64,.int .i64,.int .i64]]
end Tg

/- Names of types and shapes. -/
namespace Tg
open Go.Abs hiding fuel
open Int (ofNat toNat)
open Go.IntKind (wrap)
abbrev Sy1:=Int×Int×Int×List (Int×Int×Int×Int×Int×Int×Int×Int×Int×Int×Int×Unit)×List (Int×Unit)×List (Int×Int×Int×Int×Int×Int×Int×Int×Int×Int×Int×Unit)×List (Bool×Int×Int×Int×Int×Unit)×List (Int×Int×Int×Int×Int×Unit)×List (Int×Int×Int×Unit)×Unit
abbrev Sy2:=Int×List (Int×Int×Int×Int×Int×Unit)×List (Int×Unit)×Bool×List (Int×Int×Int×Int×Int×Unit)×Int×Int×Int×Bool×Int×List (Int×Int×Unit)×List (Int×Int×Int×Int×Int×Unit)×List Sy1×List (Int×List (Int×Int×Int×Int×Int×Int×Int×Int×Int×Int×Unit)×Unit)×Unit
abbrev Sy5:=List (Int×Unit)
abbrev Sq3:List CT:=[.int .i64,.sl [.int .u8,.int .i64,.int .i64,.int .i64,.int .i64,.int .i64,.int .i64,.int .i64,.int .i64,.int .i64]]
abbrev Sq4:List CT:=[.int .u8,.int .i64,.int .i64,.int .i64,.int .i64]
abbrev Sq5:List CT:=[.int .i64,.int .i64,.int .i64,.int .i64,.int .i64]
abbrev Sq1:List CT:=[.int .u8,.int .i64,.int .i64,.sl [.int .i64,.int .u8,.int .i64,.int .i64,.int .i64,.int .i64,.int .i64,.int .i64,.int .i64,.int .i64,.int .i64],.sl [.int .i64],.sl [.int .i64,.int .i64,.int .i64,.int .i64,.int .i64,.int .i64,.int .i64,.int .i64,.int .i64,.int .i64,.int .i64],.sl [.bool,.int .i64,.int .i64,.int .i64,.int .i64],.sl Sq5,.sl [.int .i64,.int .i64,.int .i64]]
abbrev Sq2:List CT:=[.int .u8,.sl Sq4,.sl [.int .i64],.bool,.sl Sq4,.int .u8,.int .i64,.int .i64,.bool,.int .u8,.sl [.int .u8,.int .i64],.sl Sq5,.sl Sq1,.sl Sq3]
end Tg
