import Derived.Test.YtmkkpgcecpnejaaGreatDoorEHS
/- Names of types and shapes. -/
set_option linter.unusedVariables false
set_option linter.unusedSimpArgs false
set_option maxRecDepth 100000
namespace Tg
open Go.Abs hiding fuel
open Int (ofNat toNat)
open Go.IntKind (wrap)
abbrev Vy1:=Int×Int×Int×Int×Int×Int×Int×Int×Int×Int×Int×Unit
abbrev Vy2:=Int×Int×Int×Int×Int×Unit
abbrev Vy3:=Bool×Int×Int×Int×Int×Unit
abbrev Vy4:=Int×Int×Int×Int×Int×Int×Int×Int×Int×Int×Unit
abbrev Vy5:=Int×List Vy2×List (Int×Unit)×Bool×List Vy2×Int×Int×Int×Bool×Int×Unit
abbrev Vy6:=List (Int×Int×Int×Unit)
abbrev Vy7:=List (Int×Unit)
abbrev Vy8:=List (Int×Unit)×List (Int×Unit)×Bool×Unit
abbrev Vq1:List CT:=[.int .i64,.int .i64,.int .i64,.int .i64,.int .i64,.int .i64,.int .i64,.int .i64,.int .i64,.int .i64,.int .i64]
abbrev Vq2:List CT:=[.int .u8,.int .i64,.int .i64,.int .i64,.int .i64]
abbrev Vq3:List CT:=[.int .i64,.int .u8,.int .i64,.int .i64,.int .i64,.int .i64,.int .i64,.int .i64,.int .i64,.int .i64,.int .i64]
abbrev Vq4:List CT:=[.bool,.int .i64,.int .i64,.int .i64,.int .i64]
abbrev Vq5:List CT:=[.int .i64,.int .i64,.int .i64,.int .i64,.int .i64]
abbrev Vq6:List CT:=[.int .u8,.int .i64,.int .i64,.int .i64,.int .i64,.int .i64,.int .i64,.int .i64,.int .i64,.int .i64]
abbrev Vq7:List CT:=[.int .i64,.int .i64,.int .i64]
abbrev Vq9:List CT:=[.int .i64]
abbrev Vq8:List CT:=[.int .u8,.sl Vq2,.sl Vq9,.bool,.sl Vq2,.int .u8,.int .i64,.int .i64,.bool,.int .u8]
end Tg

/- Names of types and shapes. -/
namespace Tg
open Go.Abs hiding fuel
open Int (ofNat toNat)
open Go.IntKind (wrap)
abbrev Xy1:=List (Int×Int×Int×Int×Int×Unit)
abbrev Xy2:=Int×List (Int×Int×Int×Int×Int×Unit)×List (Int×Unit)×Bool×List (Int×Int×Int×Int×Int×Unit)×Int×Int×Int×Bool×Int×Unit
abbrev Xy3:=Int×Int×Int×Unit
abbrev Xq1:List CT:=[.int .u8,.int .i64,.int .i64,.int .i64,.int .i64]
abbrev Xq2:List CT:=[.int .i64,.int .i64,.int .i64]
end Tg

/- Names of types and shapes. -/
namespace Tg
open Go.Abs hiding fuel
open Int (ofNat toNat)
open Go.IntKind (wrap)
abbrev Yy1:=Int×Int×Int×List (Int×Int×Int×Int×Int×Int×Int×Int×Int×Int×Int×Unit)×List (Int×Unit)×List (Int×Int×Int×Int×Int×Int×Int×Int×Int×Int×Int×Unit)×List (Bool×Int×Int×Int×Int×Unit)×List (Int×Int×Int×Int×Int×Unit)×List (Int×Int×Int×Unit)×Unit
abbrev Yy2:=Int×List (Int×Int×Int×Int×Int×Unit)×List (Int×Unit)×Bool×List (Int×Int×Int×Int×Int×Unit)×Int×Int×Int×Bool×Int×List (Int×Int×Unit)×List (Int×Int×Int×Int×Int×Unit)×List Yy1×List (Int×List (Int×Int×Int×Int×Int×Int×Int×Int×Int×Int×Unit)×Unit)×Unit
abbrev Yy3:=List (Int×Int×Int×Int×Int×Unit)
abbrev Yy4:=List (Int×List (Int×Int×Int×Int×Int×Int×Int×Int×Int×Int×Unit)×Unit)
abbrev Yq3:List CT:=[.int .i64,.sl [.int .u8,.int .i64,.int .i64,.int .i64,.int .i64,.int .i64,.int .i64,.int .i64,.int .i64,.int .i64]]
abbrev Yq4:List CT:=[.int .u8,.int .i64,.int .i64,.int .i64,.int .i64]
abbrev Yq5:List CT:=[.int .i64,.int .i64,.int .i64,.int .i64,.int .i64]
abbrev Yq1:List CT:=[.int .u8,.int .i64,.int .i64,.sl [.int .i64,.int .u8,.int .i64,.int .i64,.int .i64,.int .i64,.int .i64,.int .i64,.int .i64,.int .i64,.int .i64],.sl [.int .i64],.sl [.int .i64,.int .i64,.int .i64,.int .i64,.int .i64,.int .i64,.int .i64,.int .i64,.int .i64,.int .i64,.int .i64],.sl [.bool,.int .i64,.int .i64,.int .i64,.int .i64],.sl Yq5,.sl [.int .i64,.int .i64,.int .i64]]
abbrev Yq2:List CT:=[.int .u8,.sl Yq4,.sl [.int .i64],.bool,.sl Yq4,.int .u8,.int .i64,.int .i64,.bool,.int .u8,.sl [.int .u8,.int .i64],.sl Yq5,.sl Yq1,.sl Yq3]
end Tg

/- Names of types and shapes. -/
namespace Tg
open Go.Abs hiding fuel
open Int (ofNat toNat)
open Go.IntKind (wrap)
abbrev Uy2:=Int×Int×Int×Int×Int×Unit
abbrev Uy1:=Int×Int×Int×List (Int×Int×Int×Int×Int×Int×Int×Int×Int×Int×Int×Unit)×List (Int×Unit)×List (Int×Int×Int×Int×Int×Int×Int×Int×Int×Int×Int×Unit)×List (Bool×Int×Int×Int×Int×Unit)×List Uy2×List (Int×Int×Int×Unit)×Unit
abbrev Uy4:=List (Int×Unit)×List (Int×Unit)×Int×Unit
abbrev Uy5:=Int×Int×Unit
abbrev Uy6:=List (Int×Unit)
abbrev Uy7:=Int×Int×Int×Int×Int×Int×Int×Int×Int×Int×Unit
abbrev Uy3:=Int×List Uy2×List (Int×Unit)×Bool×List Uy2×Int×Int×Int×Bool×Int×List Uy5×List Uy2×List Uy1×List (Int×List Uy7×Unit)×Unit
abbrev Uy8:=List (Bool×Int×Int×Int×Int×Unit)
abbrev Uq2:List CT:=[.int .i64,.int .i64,.int .i64,.int .i64,.int .i64]
abbrev Uq4:List CT:=[.int .i64]
abbrev Uq5:List CT:=[.int .u8,.int .i64,.int .i64,.int .i64,.int .i64,.int .i64,.int .i64,.int .i64,.int .i64,.int .i64]
abbrev Uq6:List CT:=[.bool,.int .i64,.int .i64,.int .i64,.int .i64]
abbrev Uq1:List CT:=[.int .u8,.int .i64,.int .i64,.sl [.int .i64,.int .u8,.int .i64,.int .i64,.int .i64,.int .i64,.int .i64,.int .i64,.int .i64,.int .i64,.int .i64],.sl Uq4,.sl [.int .i64,.int .i64,.int .i64,.int .i64,.int .i64,.int .i64,.int .i64,.int .i64,.int .i64,.int .i64,.int .i64],.sl Uq6,.sl Uq2,.sl [.int .i64,.int .i64,.int .i64]]
abbrev Uq7:List CT:=[.int .u8,.int .i64]
abbrev Uq3:List CT:=[.int .u8,.sl [.int .u8,.int .i64,.int .i64,.int .i64,.int .i64],.sl Uq4,.bool,.sl [.int .u8,.int .i64,.int .i64,.int .i64,.int .i64],.int .u8,.int .i64,.int .i64,.bool,.int .u8,.sl Uq7,.sl Uq2,.sl Uq1,.sl [.int .i64,.sl Uq5]]
end Tg

/- Names of types and shapes. -/
namespace Tg
open Go.Abs hiding fuel
open Int (ofNat toNat)
open Go.IntKind (wrap)
abbrev Qy2:=Int×Int×Int×Int×Int×Unit
abbrev Qy4:=(List (Int×Int×Unit)×List Qy2×Unit)×Int×Unit
abbrev Qy5:=List (Int×Int×Unit)
abbrev Qy6:=Bool×Int×Int×Int×Int×Unit
abbrev Qy1:=Int×Int×Int×List (Int×Int×Int×Int×Int×Int×Int×Int×Int×Int×Int×Unit)×List (Int×Unit)×List (Int×Int×Int×Int×Int×Int×Int×Int×Int×Int×Int×Unit)×List Qy6×List Qy2×List (Int×Int×Int×Unit)×Unit
abbrev Qy3:=(Int×List Qy2×List (Int×Unit)×Bool×List Qy2×Int×Int×Int×Bool×Int×List (Int×Int×Unit)×List Qy2×List Qy1×List (Int×List (Int×Int×Int×Int×Int×Int×Int×Int×Int×Int×Unit)×Unit)×Unit)×Int×Unit
abbrev Qy7:=Int×List Qy2×List (Int×Unit)×Bool×List Qy2×Int×Int×Int×Bool×Int×Unit
abbrev Qy8:=List (Int×Unit)×Int×List Qy2×List (Int×Unit)×Bool×List Qy2×Int×Int×Int×Bool×Int×Unit
abbrev Qy9:=List (Int×Unit)
abbrev Qy10:=Qy1×Int×Unit
abbrev Qy11:=List (Int×Unit)×Unit
abbrev Qq1:List CT:=[.int .i64,.int .i64,.int .i64,.int .i64,.int .i64,.int .i64,.int .i64,.int .i64,.int .i64,.int .i64,.int .i64]
abbrev Qq2:List CT:=[.int .i64,.int .u8,.int .i64,.int .i64,.int .i64,.int .i64,.int .i64,.int .i64,.int .i64,.int .i64,.int .i64]
abbrev Qq3:List CT:=[.int .i64,.int .i64,.int .i64,.int .i64,.int .i64]
abbrev Qq4:List CT:=[.bool,.int .i64,.int .i64,.int .i64,.int .i64]
abbrev Qq5:List CT:=[.int .u8,.int .i64,.int .i64,.int .i64,.int .i64]
abbrev Qq6:List CT:=[.int .i64,.int .i64,.int .i64]
abbrev Qq7:List CT:=[.int .u8,.int .i64,.int .i64,.int .i64,.int .i64,.int .i64,.int .i64,.int .i64,.int .i64,.int .i64]
abbrev Qq9:List CT:=[.int .u8,.int .i64]
abbrev Qq10:List CT:=[.int .i64]
abbrev Qq8:List CT:=[.int .u8,.int .i64,.int .i64,.sl Qq2,.sl Qq10,.sl Qq1,.sl Qq4,.sl Qq3,.sl Qq6]
abbrev Qq11:List CT:=[.int .u8,.sl Qq5,.sl Qq10,.bool,.sl Qq5,.int .u8,.int .i64,.int .i64,.bool,.int .u8]
abbrev Qq12:List CT:=[.sl [.int .u8],.int .u8,.sl Qq5,.sl Qq10,.bool,.sl Qq5,.int .u8,.int .i64,.int .i64,.bool,.int .u8]
abbrev Qq13:List CT:=[.int .u8,.int .i64,.int .i64,.int .i64,.int .i64]
abbrev Qq14:List CT:=[.bool,.int .i64,.int .i64,.int .i64,.int .i64]
end Tg

/- Names of types and shapes. -/
namespace Tg
open Go.Abs hiding fuel
open Int (ofNat toNat)
open Go.IntKind (wrap)
abbrev Ny1:=Int×List (Int×Int×Int×Int×Int×Unit)×List (Int×Unit)×Bool×List (Int×Int×Int×Int×Int×Unit)×Int×Int×Int×Bool×Int×Unit
abbrev Ny2:=Bool×Int×Int×Int×Int×Unit
abbrev Nq1:List CT:=[.int .u8,.sl [.int .u8,.int .i64,.int .i64,.int .i64,.int .i64],.sl [.int .i64],.bool,.sl [.int .u8,.int .i64,.int .i64,.int .i64,.int .i64],.int .u8,.int .i64,.int .i64,.bool,.int .u8]
abbrev Nq2:List CT:=[.bool,.int .i64,.int .i64,.int .i64,.int .i64]
end Tg
