import Derived.Test.YtdppkfgoiagepaaGreatDoorBVb3
/- The program's checks of messages, queues, stores and tasks are the plain ones. -/
set_option linter.unusedVariables false
set_option linter.unusedSimpArgs false
namespace Tg
open Go.Abs (Ze Zt tmm)
theorem Zxs (t:Int):Za6 t=some (Zpr t,()):=by
 rw [Zl4]
 grind [Zpr]
theorem Z6b (t:Int):Zd8 t=some (Z1w t,()):=by
 rw [Zl5,Zxs]
 grind [Z1w]
theorem Z8x (e:Evt):Zb3 e=some (bif evtB e then 0 else 8,()):=by
 rw [Zne,Zuz]
 simp only [Zxs,Z6b,Option.bind_some]
 grind [evtB]
end Tg

/- The reference's checks of messages, queues, stores and tasks are the plain ones. -/
namespace Tg
open Go.Abs (Ze Zt tmm)
end Tg
