import Derived.Test.YtfnhchmemplhaaaGreatBK
/- Names of types and shapes. -/
set_option linter.unusedVariables false
set_option linter.unusedSimpArgs false
set_option maxRecDepth 100000
namespace Tg
open Go.Abs hiding fuel
open Int (ofNat toNat)
open Go.IntKind (wrap)
abbrev Vy2:=Int×Int×Int×Int×Int×Unit
abbrev Vy5:=List (Bool×Int×Int×Int×Int×Unit)
abbrev Vy6:=List (Int×Int×Int×Unit)
abbrev Vy8:=Int×Int×Int×Int×Int×Int×Int×Int×Int×Int×Unit
abbrev Vy4:=Int×List Vy8×Unit
abbrev Vy9:=List (Int×Unit)
abbrev Vy10:=Int×List Vy2×List (Int×Unit)×Bool×List Vy2×Int×Int×Int×Bool×Int×Unit
abbrev Vy11:=Int×Int×Unit
abbrev Vy12:=Int×Int×Int×Int×Int×Int×Int×Int×Int×Int×Int×Unit
abbrev Vy1:=Int×Int×Int×List Vy12×List (Int×Unit)×List Vy12×List (Bool×Int×Int×Int×Int×Unit)×List Vy2×List (Int×Int×Int×Unit)×Unit
abbrev Vy3:=List Vy12
abbrev Vy7:=Int×List Vy2×List (Int×Unit)×Bool×List Vy2×Int×Int×Int×Bool×Int×List Vy11×List Vy2×List Vy1×List Vy4×Unit
abbrev Vy13:=List (Int×Unit)×List (Int×Unit)×Bool×Unit
abbrev Vy14:=List Vy11×List Vy2×Unit
abbrev Vq2:List CT:=[.int .u8,.int .i64,.int .i64,.int .i64,.int .i64,.int .i64,.int .i64,.int .i64,.int .i64,.int .i64]
abbrev Vq3:List CT:=[.int .i64,.int .i64,.int .i64,.int .i64,.int .i64,.int .i64,.int .i64,.int .i64,.int .i64,.int .i64,.int .i64]
abbrev Vq4:List CT:=[.int .i64,.int .i64,.int .i64,.int .i64,.int .i64]
abbrev Vq5:List CT:=[.int .u8,.int .i64,.int .i64,.int .i64,.int .i64]
abbrev Vq6:List CT:=[.int .i64,.int .u8,.int .i64,.int .i64,.int .i64,.int .i64,.int .i64,.int .i64,.int .i64,.int .i64,.int .i64]
abbrev Vq7:List CT:=[.bool,.int .i64,.int .i64,.int .i64,.int .i64]
abbrev Vq8:List CT:=[.int .i64,.int .i64,.int .i64]
abbrev Vq10:List CT:=[.int .i64,.sl Vq2]
abbrev Vq12:List CT:=[.int .i64]
abbrev Vq1:List CT:=[.int .u8,.int .i64,.int .i64,.sl Vq6,.sl Vq12,.sl Vq3,.sl Vq7,.sl Vq4,.sl Vq8]
abbrev Vq11:List CT:=[.int .u8,.sl Vq5,.sl Vq12,.bool,.sl Vq5,.int .u8,.int .i64,.int .i64,.bool,.int .u8]
abbrev Vq13:List CT:=[.int .u8,.int .i64]
abbrev Vq9:List CT:=[.int .u8,.sl Vq5,.sl Vq12,.bool,.sl Vq5,.int .u8,.int .i64,.int .i64,.bool,.int .u8,.sl Vq13,.sl Vq4,.sl Vq1,.sl Vq10]
end Tg

/- Names of types and shapes. -/
namespace Tg
open Go.Abs hiding fuel
open Int (ofNat toNat)
open Go.IntKind (wrap)
abbrev Xy1:=List (Int×Int×Int×Int×Int×Unit)
abbrev Xy2:=Int×List (Int×Int×Int×Int×Int×Unit)×List (Int×Unit)×Bool×List (Int×Int×Int×Int×Int×Unit)×Int×Int×Int×Bool×Int×Unit
abbrev Xy3:=Int×Int×Int×Unit
abbrev Xq1:List CT:=[.int .u8,.int .i64,.int .i64,.int .i64,.int .i64]
abbrev Xq2:List CT:=[.int .i64,.int .i64,.int .i64]
end Tg

/- Names of types and shapes. -/
namespace Tg
open Go.Abs hiding fuel
open Int (ofNat toNat)
open Go.IntKind (wrap)
abbrev Yy2:=Int×Int×Int×List (Int×Int×Int×Int×Int×Int×Int×Int×Int×Int×Int×Unit)×List (Int×Unit)×List (Int×Int×Int×Int×Int×Int×Int×Int×Int×Int×Int×Unit)×List (Bool×Int×Int×Int×Int×Unit)×List (Int×Int×Int×Int×Int×Unit)×List (Int×Int×Int×Unit)×Unit
abbrev Yy3:=Int×List (Int×Int×Int×Int×Int×Int×Int×Int×Int×Int×Unit)×Unit
abbrev Yy4:=List (Int×Int×Int×Int×Int×Unit)
abbrev Yy5:=List (Int×Int×Int×Int×Int×Int×Int×Int×Int×Int×Int×Unit)
abbrev Yy6:=List (Int×Unit)
abbrev Yy7:=Int×Int×Unit
abbrev Yy1:=Int×List (Int×Int×Int×Int×Int×Unit)×List (Int×Unit)×Bool×List (Int×Int×Int×Int×Int×Unit)×Int×Int×Int×Bool×Int×List Yy7×List (Int×Int×Int×Int×Int×Unit)×List Yy2×List Yy3×Unit
abbrev Yy9:=List (Int×Unit)×Unit
abbrev Yq3:List CT:=[.int .i64,.sl [.int .u8,.int .i64,.int .i64,.int .i64,.int .i64,.int .i64,.int .i64,.int .i64,.int .i64,.int .i64]]
abbrev Yq4:List CT:=[.int .u8,.int .i64,.int .i64,.int .i64,.int .i64]
abbrev Yq5:List CT:=[.int .i64,.int .i64,.int .i64,.int .i64,.int .i64]
abbrev Yq6:List CT:=[.int .i64,.int .u8,.int .i64,.int .i64,.int .i64,.int .i64,.int .i64,.int .i64,.int .i64,.int .i64,.int .i64]
abbrev Yq7:List CT:=[.int .i64]
abbrev Yq2:List CT:=[.int .u8,.int .i64,.int .i64,.sl Yq6,.sl Yq7,.sl [.int .i64,.int .i64,.int .i64,.int .i64,.int .i64,.int .i64,.int .i64,.int .i64,.int .i64,.int .i64,.int .i64],.sl [.bool,.int .i64,.int .i64,.int .i64,.int .i64],.sl Yq5,.sl [.int .i64,.int .i64,.int .i64]]
abbrev Yq8:List CT:=[.int .u8,.int .i64]
abbrev Yq1:List CT:=[.int .u8,.sl Yq4,.sl Yq7,.bool,.sl Yq4,.int .u8,.int .i64,.int .i64,.bool,.int .u8,.sl Yq8,.sl Yq5,.sl Yq2,.sl Yq3]
end Tg

/- Names of types and shapes. -/
namespace Tg
open Go.Abs hiding fuel
open Int (ofNat toNat)
open Go.IntKind (wrap)
abbrev Uy1:=Int×Int×Int×List (Int×Int×Int×Int×Int×Int×Int×Int×Int×Int×Int×Unit)×List (Int×Unit)×List (Int×Int×Int×Int×Int×Int×Int×Int×Int×Int×Int×Unit)×List (Bool×Int×Int×Int×Int×Unit)×List (Int×Int×Int×Int×Int×Unit)×List (Int×Int×Int×Unit)×Unit
abbrev Uy3:=List (Int×Int×Int×Int×Int×Unit)
abbrev Uy4:=List (Int×List (Int×Int×Int×Int×Int×Int×Int×Int×Int×Int×Unit)×Unit)
abbrev Uy5:=List (Int×Unit)
abbrev Uy6:=Int×Int×Unit
abbrev Uy2:=Int×List (Int×Int×Int×Int×Int×Unit)×List (Int×Unit)×Bool×List (Int×Int×Int×Int×Int×Unit)×Int×Int×Int×Bool×Int×List Uy6×List (Int×Int×Int×Int×Int×Unit)×List Uy1×List (Int×List (Int×Int×Int×Int×Int×Int×Int×Int×Int×Int×Unit)×Unit)×Unit
abbrev Uy7:=List (Int×Unit)×List (Int×Unit)×Int×Unit
abbrev Uy8:=List (Int×Int×Int×Int×Int×Int×Int×Int×Int×Int×Int×Unit)
abbrev Uy9:=List (Bool×Int×Int×Int×Int×Unit)
abbrev Uq4:List CT:=[.int .i64,.int .i64,.int .i64,.int .i64,.int .i64]
abbrev Uq5:List CT:=[.int .u8,.int .i64,.int .i64,.int .i64,.int .i64]
abbrev Uq6:List CT:=[.int .i64]
abbrev Uq7:List CT:=[.int .i64,.int .i64,.int .i64,.int .i64,.int .i64,.int .i64,.int .i64,.int .i64,.int .i64,.int .i64,.int .i64]
abbrev Uq8:List CT:=[.int .u8,.int .i64]
abbrev Uq9:List CT:=[.bool,.int .i64,.int .i64,.int .i64,.int .i64]
abbrev Uq10:List CT:=[.int .i64,.int .u8,.int .i64,.int .i64,.int .i64,.int .i64,.int .i64,.int .i64,.int .i64,.int .i64,.int .i64]
abbrev Uq1:List CT:=[.int .u8,.int .i64,.int .i64,.sl Uq10,.sl Uq6,.sl Uq7,.sl Uq9,.sl Uq4,.sl [.int .i64,.int .i64,.int .i64]]
abbrev Uq11:List CT:=[.int .u8,.int .i64,.int .i64,.int .i64,.int .i64,.int .i64,.int .i64,.int .i64,.int .i64,.int .i64]
abbrev Uq3:List CT:=[.int .i64,.sl Uq11]
abbrev Uq2:List CT:=[.int .u8,.sl Uq5,.sl Uq6,.bool,.sl Uq5,.int .u8,.int .i64,.int .i64,.bool,.int .u8,.sl Uq8,.sl Uq4,.sl Uq1,.sl Uq3]
end Tg
