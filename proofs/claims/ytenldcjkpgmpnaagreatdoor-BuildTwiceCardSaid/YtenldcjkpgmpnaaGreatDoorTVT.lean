import Derived.Test.YtenldcjkpgmpnaaGreatDoorTHS
/- Names of types and shapes. -/
set_option linter.unusedVariables false
set_option linter.unusedSimpArgs false
set_option maxRecDepth 100000
namespace Tg
open Go.Abs hiding fuel
open Int (ofNat toNat)
open Go.IntKind (wrap)
abbrev Vy1:=Int×Int×Int×Int×Int×Int×Int×Int×Int×Int×Int×Unit
abbrev Vy2:=Int×Int×Int×Int×Int×Unit
abbrev Vy3:=Bool×Int×Int×Int×Int×Unit
abbrev Vy4:=Int×Int×Int×Int×Int×Int×Int×Int×Int×Int×Unit
abbrev Vy5:=List (Int×Int×Int×Unit)
abbrev Vy6:=Int×Int×Int×List Vy1×List (Int×Unit)×List Vy1×List Vy3×List Vy2×List (Int×Int×Int×Unit)×Unit
abbrev Vy7:=List (Int×Unit)
abbrev Vy8:=Int×List Vy2×List (Int×Unit)×Bool×List Vy2×Int×Int×Int×Bool×Int×Unit
abbrev Vy9:=List (Int×Unit)×List (Int×Unit)×Bool×Unit
abbrev Vq1:List CT:=[.int .i64,.int .i64,.int .i64,.int .i64,.int .i64,.int .i64,.int .i64,.int .i64,.int .i64,.int .i64,.int .i64]
abbrev Vq3:List CT:=[.int .u8,.int .i64,.int .i64,.int .i64,.int .i64,.int .i64,.int .i64,.int .i64,.int .i64,.int .i64]
abbrev Vq4:List CT:=[.int .i64,.int .i64,.int .i64,.int .i64,.int .i64]
abbrev Vq5:List CT:=[.int .u8,.int .i64,.int .i64,.int .i64,.int .i64]
abbrev Vq6:List CT:=[.int .i64,.int .u8,.int .i64,.int .i64,.int .i64,.int .i64,.int .i64,.int .i64,.int .i64,.int .i64,.int .i64]
abbrev Vq7:List CT:=[.bool,.int .i64,.int .i64,.int .i64,.int .i64]
abbrev Vq8:List CT:=[.int .i64,.int .i64,.int .i64]
abbrev Vq11:List CT:=[.int .i64]
abbrev Vq2:List CT:=[.int .u8,.int .i64,.int .i64,.sl Vq6,.sl Vq11,.sl Vq1,.sl Vq7,.sl Vq4,.sl Vq8]
abbrev Vq10:List CT:=[.int .u8,.sl Vq5,.sl Vq11,.bool,.sl Vq5,.int .u8,.int .i64,.int .i64,.bool,.int .u8]
abbrev Vq12:List CT:=[.int .i64,.sl Vq3]
abbrev Vq9:List CT:=[.int .u8,.sl Vq5,.sl Vq11,.bool,.sl Vq5,.int .u8,.int .i64,.int .i64,.bool,.int .u8,.sl [.int .u8,.int .i64],.sl Vq4,.sl Vq2,.sl Vq12]
end Tg

/- Names of types and shapes. -/
namespace Tg
open Go.Abs hiding fuel
open Int (ofNat toNat)
open Go.IntKind (wrap)
abbrev Xy1:=List (Int×Int×Int×Int×Int×Unit)
abbrev Xy2:=Int×List (Int×Int×Int×Int×Int×Unit)×List (Int×Unit)×Bool×List (Int×Int×Int×Int×Int×Unit)×Int×Int×Int×Bool×Int×Unit
abbrev Xy3:=Int×Int×Int×Unit
abbrev Xq1:List CT:=[.int .u8,.int .i64,.int .i64,.int .i64,.int .i64]
abbrev Xq2:List CT:=[.int .i64,.int .i64,.int .i64]
end Tg

/- Names of types and shapes. -/
namespace Tg
open Go.Abs hiding fuel
open Int (ofNat toNat)
open Go.IntKind (wrap)
abbrev Yy2:=Int×Int×Int×List (Int×Int×Int×Int×Int×Int×Int×Int×Int×Int×Int×Unit)×List (Int×Unit)×List (Int×Int×Int×Int×Int×Int×Int×Int×Int×Int×Int×Unit)×List (Bool×Int×Int×Int×Int×Unit)×List (Int×Int×Int×Int×Int×Unit)×List (Int×Int×Int×Unit)×Unit
abbrev Yy3:=Int×List (Int×Int×Int×Int×Int×Int×Int×Int×Int×Int×Unit)×Unit
abbrev Yy1:=Int×List (Int×Int×Int×Int×Int×Unit)×List (Int×Unit)×Bool×List (Int×Int×Int×Int×Int×Unit)×Int×Int×Int×Bool×Int×List (Int×Int×Unit)×List (Int×Int×Int×Int×Int×Unit)×List Yy2×List Yy3×Unit
abbrev Yy4:=List (Int×Int×Int×Int×Int×Unit)
abbrev Yy5:=List (Int×Int×Int×Int×Int×Int×Int×Int×Int×Int×Int×Unit)
abbrev Yq2:List CT:=[.int .i64,.sl [.int .u8,.int .i64,.int .i64,.int .i64,.int .i64,.int .i64,.int .i64,.int .i64,.int .i64,.int .i64]]
abbrev Yq4:List CT:=[.int .i64,.int .u8,.int .i64,.int .i64,.int .i64,.int .i64,.int .i64,.int .i64,.int .i64,.int .i64,.int .i64]
abbrev Yq5:List CT:=[.int .u8,.int .i64,.int .i64,.int .i64,.int .i64]
abbrev Yq6:List CT:=[.int .i64,.int .i64,.int .i64,.int .i64,.int .i64]
abbrev Yq3:List CT:=[.int .u8,.int .i64,.int .i64,.sl Yq4,.sl [.int .i64],.sl [.int .i64,.int .i64,.int .i64,.int .i64,.int .i64,.int .i64,.int .i64,.int .i64,.int .i64,.int .i64,.int .i64],.sl [.bool,.int .i64,.int .i64,.int .i64,.int .i64],.sl Yq6,.sl [.int .i64,.int .i64,.int .i64]]
abbrev Yq1:List CT:=[.int .u8,.sl Yq5,.sl [.int .i64],.bool,.sl Yq5,.int .u8,.int .i64,.int .i64,.bool,.int .u8,.sl [.int .u8,.int .i64],.sl Yq6,.sl Yq3,.sl Yq2]
end Tg

/- Names of types and shapes. -/
namespace Tg
open Go.Abs hiding fuel
open Int (ofNat toNat)
open Go.IntKind (wrap)
abbrev Qy2:=Int×Int×Int×Int×Int×Unit
abbrev Qy4:=(List (Int×Int×Unit)×List Qy2×Unit)×Int×Unit
abbrev Qy5:=List (Int×Int×Unit)
abbrev Qy6:=Bool×Int×Int×Int×Int×Unit
abbrev Qy1:=Int×Int×Int×List (Int×Int×Int×Int×Int×Int×Int×Int×Int×Int×Int×Unit)×List (Int×Unit)×List (Int×Int×Int×Int×Int×Int×Int×Int×Int×Int×Int×Unit)×List Qy6×List Qy2×List (Int×Int×Int×Unit)×Unit
abbrev Qy3:=(Int×List Qy2×List (Int×Unit)×Bool×List Qy2×Int×Int×Int×Bool×Int×List (Int×Int×Unit)×List Qy2×List Qy1×List (Int×List (Int×Int×Int×Int×Int×Int×Int×Int×Int×Int×Unit)×Unit)×Unit)×Int×Unit
abbrev Qy7:=Int×List Qy2×List (Int×Unit)×Bool×List Qy2×Int×Int×Int×Bool×Int×Unit
abbrev Qy8:=List (Int×Unit)×Int×List Qy2×List (Int×Unit)×Bool×List Qy2×Int×Int×Int×Bool×Int×Unit
abbrev Qy9:=List (Int×Unit)
abbrev Qy10:=Qy1×Int×Unit
abbrev Qy11:=List (Int×Unit)×Unit
abbrev Qq1:List CT:=[.int .i64,.int .i64,.int .i64,.int .i64,.int .i64,.int .i64,.int .i64,.int .i64,.int .i64,.int .i64,.int .i64]
abbrev Qq2:List CT:=[.int .i64,.int .u8,.int .i64,.int .i64,.int .i64,.int .i64,.int .i64,.int .i64,.int .i64,.int .i64,.int .i64]
abbrev Qq3:List CT:=[.int .i64,.int .i64,.int .i64,.int .i64,.int .i64]
abbrev Qq4:List CT:=[.bool,.int .i64,.int .i64,.int .i64,.int .i64]
abbrev Qq5:List CT:=[.int .u8,.int .i64,.int .i64,.int .i64,.int .i64]
abbrev Qq6:List CT:=[.int .i64,.int .i64,.int .i64]
abbrev Qq7:List CT:=[.int .u8,.int .i64]
abbrev Qq8:List CT:=[.int .u8,.int .i64,.int .i64,.int .i64,.int .i64,.int .i64,.int .i64,.int .i64,.int .i64,.int .i64]
abbrev Qq10:List CT:=[.int .i64]
abbrev Qq9:List CT:=[.int .u8,.int .i64,.int .i64,.sl Qq2,.sl Qq10,.sl Qq1,.sl Qq4,.sl Qq3,.sl Qq6]
abbrev Qq11:List CT:=[.int .u8,.sl Qq5,.sl Qq10,.bool,.sl Qq5,.int .u8,.int .i64,.int .i64,.bool,.int .u8]
abbrev Qq12:List CT:=[.sl [.int .u8],.int .u8,.sl Qq5,.sl Qq10,.bool,.sl Qq5,.int .u8,.int .i64,.int .i64,.bool,.int .u8]
abbrev Qq13:List CT:=[.int .u8,.int .i64,.int .i64,.int .i64,.int .i64]
abbrev Qq14:List CT:=[.bool,.int .i64,.int .i64,.int .i64,.int .i64]
end Tg

/- Names of types and shapes. -/
namespace Tg
open Go.Abs hiding fuel
open Int (ofNat toNat)
open Go.IntKind (wrap)
abbrev Ny3:=Int×List (Int×Int×Int×Int×Int×Unit)×List (Int×Unit)×Bool×List (Int×Int×Int×Int×Int×Unit)×Int×Int×Int×Bool×Int×Unit
abbrev Ny4:=Bool×Int×Int×Int×Int×Unit
abbrev Ny1:=Int×Int×Int×List (Int×Int×Int×Int×Int×Int×Int×Int×Int×Int×Int×Unit)×List (Int×Unit)×List (Int×Int×Int×Int×Int×Int×Int×Int×Int×Int×Int×Unit)×List Ny4×List (Int×Int×Int×Int×Int×Unit)×List (Int×Int×Int×Unit)×Unit
abbrev Ny2:=Int×List (Int×Int×Int×Int×Int×Unit)×List (Int×Unit)×Bool×List (Int×Int×Int×Int×Int×Unit)×Int×Int×Int×Bool×Int×List (Int×Int×Unit)×List (Int×Int×Int×Int×Int×Unit)×List Ny1×List (Int×List (Int×Int×Int×Int×Int×Int×Int×Int×Int×Int×Unit)×Unit)×Unit
abbrev Ny5:=List (Int×List (Int×Int×Int×Int×Int×Int×Int×Int×Int×Int×Unit)×Unit)
abbrev Ny6:=List (Int×Int×Int×Int×Int×Unit)
abbrev Nq4:List CT:=[.bool,.int .i64,.int .i64,.int .i64,.int .i64]
abbrev Nq5:List CT:=[.int .i64,.sl [.int .u8,.int .i64,.int .i64,.int .i64,.int .i64,.int .i64,.int .i64,.int .i64,.int .i64,.int .i64]]
abbrev Nq6:List CT:=[.int .u8,.int .i64,.int .i64,.int .i64,.int .i64]
abbrev Nq3:List CT:=[.int .u8,.sl Nq6,.sl [.int .i64],.bool,.sl Nq6,.int .u8,.int .i64,.int .i64,.bool,.int .u8]
abbrev Nq7:List CT:=[.int .i64,.int .i64,.int .i64,.int .i64,.int .i64]
abbrev Nq1:List CT:=[.int .u8,.int .i64,.int .i64,.sl [.int .i64,.int .u8,.int .i64,.int .i64,.int .i64,.int .i64,.int .i64,.int .i64,.int .i64,.int .i64,.int .i64],.sl [.int .i64],.sl [.int .i64,.int .i64,.int .i64,.int .i64,.int .i64,.int .i64,.int .i64,.int .i64,.int .i64,.int .i64,.int .i64],.sl Nq4,.sl Nq7,.sl [.int .i64,.int .i64,.int .i64]]
abbrev Nq2:List CT:=[.int .u8,.sl Nq6,.sl [.int .i64],.bool,.sl Nq6,.int .u8,.int .i64,.int .i64,.bool,.int .u8,.sl [.int .u8,.int .i64],.sl Nq7,.sl Nq1,.sl Nq5]
end Tg

/- Names of types and shapes. -/
namespace Tg
open Go.Abs hiding fuel
open Int (ofNat toNat)
open Go.IntKind (wrap)
abbrev Wy1:=Int×Int×Int×List (Int×Int×Int×Int×Int×Int×Int×Int×Int×Int×Int×Unit)×List (Int×Unit)×List (Int×Int×Int×Int×Int×Int×Int×Int×Int×Int×Int×Unit)×List (Bool×Int×Int×Int×Int×Unit)×List (Int×Int×Int×Int×Int×Unit)×List (Int×Int×Int×Unit)×Unit
abbrev Wy2:=Int×List (Int×Int×Int×Int×Int×Unit)×List (Int×Unit)×Bool×List (Int×Int×Int×Int×Int×Unit)×Int×Int×Int×Bool×Int×List (Int×Int×Unit)×List (Int×Int×Int×Int×Int×Unit)×List Wy1×List (Int×List (Int×Int×Int×Int×Int×Int×Int×Int×Int×Int×Unit)×Unit)×Unit
abbrev Wy3:=List (Int×Int×Int×Int×Int×Unit)
abbrev Wy4:=List (Int×List (Int×Int×Int×Int×Int×Int×Int×Int×Int×Int×Unit)×Unit)
abbrev Wq2:List CT:=[.int .i64,.sl [.int .u8,.int .i64,.int .i64,.int .i64,.int .i64,.int .i64,.int .i64,.int .i64,.int .i64,.int .i64]]
abbrev Wq3:List CT:=[.int .u8,.int .i64,.int .i64,.int .i64,.int .i64]
abbrev Wq5:List CT:=[.int .i64,.int .i64,.int .i64,.int .i64,.int .i64]
abbrev Wq6:List CT:=[.int .i64,.int .u8,.int .i64,.int .i64,.int .i64,.int .i64,.int .i64,.int .i64,.int .i64,.int .i64,.int .i64]
abbrev Wq7:List CT:=[.int .i64,.int .i64,.int .i64,.int .i64,.int .i64,.int .i64,.int .i64,.int .i64,.int .i64,.int .i64,.int .i64]
abbrev Wq8:List CT:=[.int .u8,.int .i64,.int .i64,.int .i64,.int .i64,.int .i64,.int .i64,.int .i64,.int .i64,.int .i64]
abbrev Wq9:List CT:=[.bool,.int .i64,.int .i64,.int .i64,.int .i64]
abbrev Wq11:List CT:=[.int .i64,.int .i64,.int .i64,.int .i64,.int .i64,.int .i64,.int .i64,.int .i64,.int .i64,.int .i64,.int .i64]
abbrev Wq12:List CT:=[.int .i64,.int .u8,.int .i64,.int .i64,.int .i64,.int .i64,.int .i64,.int .i64,.int .i64,.int .i64,.int .i64]
abbrev Wq13:List CT:=[.int .i64,.int .i64,.int .i64]
abbrev Wq14:List CT:=[.int .u8,.int .i64]
abbrev Wq15:List CT:=[.int .i64]
abbrev Wq1:List CT:=[.int .u8,.int .i64,.int .i64,.sl Wq6,.sl Wq15,.sl Wq7,.sl Wq9,.sl Wq5,.sl Wq13]
abbrev Wq10:List CT:=[.int .u8,.sl Wq3,.sl Wq15,.bool,.sl Wq3,.int .u8,.int .i64,.int .i64,.bool,.int .u8,.sl Wq14,.sl Wq5,.sl Wq1,.sl Wq2]
abbrev Wq16:List CT:=[.int .i64,.int .i64,.int .i64,.int .i64,.int .i64]
abbrev Wq4:List CT:=[.int .u8,.int .i64,.int .i64,.sl Wq12,.sl Wq15,.sl Wq11,.sl [.bool,.int .i64,.int .i64,.int .i64,.int .i64],.sl Wq16,.sl [.int .i64,.int .i64,.int .i64]]
end Tg
