/- The contracts of the functions, checked by the kernel. -/
import Derived.Test.YtfdpoliibpelaaaAbsFreeze
import Derived.Test.YtfdpoliibpelaaaAbsCloneT
import Derived.Test.YtfdpoliibpelaaaChA
import Derived.Test.YtfdpoliibpelaaaProg
set_option linter.unusedVariables false
namespace Tw
open Go.Abs
def ctab : List (Go.FuncId × Nat × Nat × Nat × List AV) := []
theorem ctab_ok : ∀ q ∈ ctab, compFun Go.Proofs.Try.prog q.1 = some (cloneAF q.2.1 q.2.2.1 q.2.2.2.1 q.2.2.2.2) ∧ q.2.2.2.2.length = q.2.2.1 ∧ 0 < q.2.2.1 := fun q h => by cases h
def con28 : TCon := ⟨[], [.c (.p .bool)], fun _ => law26_alive⟩
theorem cb28 : callable Go.Proofs.Try.prog 28 = true := by kernel_rfl
theorem run28 : runF (cloneK ctab) (compFun Go.Proofs.Try.prog) (callable Go.Proofs.Try.prog) 200 40 28 [] = some [.c (.c (.bool true))] := by kernel_rfl
theorem ok28 : con28.ok Go.Proofs.Try.prog 28 := fun a r h => by
  obtain rfl := Option.some.inj h
  exact (run_sound (cloneK_sound ctab_ok) (fun f af h => h) (fun f h => h) 200 40).1 28 [] _ run28
/- tailwater/tailwaterref26.Great -/
def con15 : TCon := ⟨[.a [.int .i64, .sl [.int .u8, .int .i64, .int .i64, .int .i64, .int .i64, .int .i64, .int .i64, .int .i64, .int .i64, .int .i64]]], [.c (.p (.bool))], fun a => ref26_Great a.1⟩
def tab15 : List (Nat × TCon) := []
def F15 : TFun := ⟨[], [], con15.args, con15.res, List.replicate 2 (.c .any) ++ [.c (.p (.bool))] ++ List.replicate 4 (.c .any)⟩
theorem comp15 : compFun Go.Proofs.Try.prog 15 = some (afOf Go.Proofs.Try.prog 15) := by kernel_rfl
theorem s15 : ∀ J a0, seg0 (tabL tab15) F15 (afOf Go.Proofs.Try.prog 15) J (a0, ()) = ref26_Great a0 := fun _ _ => by kernel_rfl
theorem cb15 : callable Go.Proofs.Try.prog 15 = true := by kernel_rfl
theorem tok15 : TabOK Go.Proofs.Try.prog tab15 := trivial
theorem ok15 : con15.ok Go.Proofs.Try.prog 15 := fun a r h => fun_spec (f := F15) (tabL_ok tok15) (tabL_cb tok15) (by kernel_rfl) comp15 0 (a := a) ((s15 _ a.1).trans h)
/- tailwater/tailwaterref26.Twin -/
def con16 : TCon := ⟨[.a [.int .i64, .sl [.int .u8, .int .i64, .int .i64, .int .i64, .int .i64, .int .i64, .int .i64, .int .i64, .int .i64, .int .i64]]], [.a [.p (.int .i64), .s 35 10 [.int .u8, .int .i64, .int .i64, .int .i64, .int .i64, .int .i64, .int .i64, .int .i64, .int .i64, .int .i64]]], fun a => ref26_Twin a.1⟩
def tab16 : List (Nat × TCon) := []
def F16 : TFun := ⟨[], [], con16.args, con16.res, List.replicate 2 (.c .any) ++ [.boxN 24 2 [.p (.int .i64), .rowN 35 10 [.int .u8, .int .i64, .int .i64, .int .i64, .int .i64, .int .i64, .int .i64, .int .i64, .int .i64, .int .i64]]] ++ List.replicate 7 (.c .any)⟩
theorem comp16 : compFun Go.Proofs.Try.prog 16 = some (afOf Go.Proofs.Try.prog 16) := by kernel_rfl
theorem s16 : ∀ J a0, seg0 (tabL tab16) F16 (afOf Go.Proofs.Try.prog 16) J (a0, ()) = ref26_Twin a0 := fun _ _ => by kernel_rfl
theorem cb16 : callable Go.Proofs.Try.prog 16 = true := by kernel_rfl
theorem tok16 : TabOK Go.Proofs.Try.prog tab16 := trivial
theorem ok16 : con16.ok Go.Proofs.Try.prog 16 := fun a r h => fun_spec (f := F16) (tabL_ok tok16) (tabL_cb tok16) (by kernel_rfl) comp16 0 (a := a) ((s16 _ a.1).trans h)
def con16p : TCon := ⟨[.a [.int .i64, .sl [.int .u8, .int .i64, .int .i64, .int .i64, .int .i64, .int .i64, .int .i64, .int .i64, .int .i64, .int .i64]]], [.a [.p (.int .i64), .p (.sl [.int .u8, .int .i64, .int .i64, .int .i64, .int .i64, .int .i64, .int .i64, .int .i64, .int .i64, .int .i64])]], fun a => ref26_Twin a.1⟩
theorem ok16p : con16p.ok Go.Proofs.Try.prog 16 := fun a r h => TCon.frz (c := con16) ok16 rfl a r h
/- tailwater/message.isTime -/
def con55 : TCon := ⟨[.c (.int .i64)], [.c (.p (.bool))], fun a => message_isTime a.1⟩
def tab55 : List (Nat × TCon) := []
def F55 : TFun := ⟨[], [], con55.args, con55.res, List.replicate 2 (.c .any) ++ [.c (.p (.bool))] ++ List.replicate 6 (.c .any)⟩
theorem comp55 : compFun Go.Proofs.Try.prog 55 = some (afOf Go.Proofs.Try.prog 55) := by kernel_rfl
theorem s55 : ∀ J a0, seg0 (tabL tab55) F55 (afOf Go.Proofs.Try.prog 55) J (a0, ()) = message_isTime a0 := fun _ _ => by kernel_rfl
theorem cb55 : callable Go.Proofs.Try.prog 55 = true := by kernel_rfl
theorem tok55 : TabOK Go.Proofs.Try.prog tab55 := trivial
theorem ok55 : con55.ok Go.Proofs.Try.prog 55 := fun a r h => fun_spec (f := F55) (tabL_ok tok55) (tabL_cb tok55) (by kernel_rfl) comp55 0 (a := a) ((s55 _ a.1).trans h)
/- tailwater/message.isMark -/
def con56 : TCon := ⟨[.c (.int .i64)], [.c (.p (.bool))], fun a => message_isMark a.1⟩
def tab56 : List (Nat × TCon) := [(55, con55)]
def F56 : TFun := ⟨[], [], con56.args, con56.res, List.replicate 2 (.c .any) ++ [.c (.p (.bool))] ++ List.replicate 6 (.c .any)⟩
theorem comp56 : compFun Go.Proofs.Try.prog 56 = some (afOf Go.Proofs.Try.prog 56) := by kernel_rfl
theorem s56 : ∀ J a0, seg0 (tabL tab56) F56 (afOf Go.Proofs.Try.prog 56) J (a0, ()) = message_isMark a0 := fun _ _ => by kernel_rfl
theorem cb56 : callable Go.Proofs.Try.prog 56 = true := by kernel_rfl
theorem tok56 : TabOK Go.Proofs.Try.prog tab56 := ⟨ok55, cb55, trivial⟩
theorem ok56 : con56.ok Go.Proofs.Try.prog 56 := fun a r h => fun_spec (f := F56) (tabL_ok tok56) (tabL_cb tok56) (by kernel_rfl) comp56 0 (a := a) ((s56 _ a.1).trans h)
/- tailwater/message.Check -/
def con46 : TCon := ⟨[.a [.int .u8, .int .i64, .int .i64, .int .i64, .int .i64, .int .i64, .int .i64, .int .i64, .int .i64, .int .i64]], [.c (.p (.int .i64))], fun a => message_Check a.1⟩
def tab46 : List (Nat × TCon) := [(55, con55), (56, con56)]
def F46 : TFun := ⟨[5, 3], [(3, List.replicate 1 (.c .any) ++ [.boxN 35 10 [.p (.int .u8), .p (.int .i64), .p (.int .i64), .p (.int .i64), .p (.int .i64), .p (.int .i64), .p (.int .i64), .p (.int .i64), .p (.int .i64), .p (.int .i64)]] ++ List.replicate 1 (.c .any) ++ [.c (.p (.bool))] ++ [.boxN 35 10 [.p (.int .u8), .p (.int .i64), .p (.int .i64), .p (.int .i64), .p (.int .i64), .p (.int .i64), .p (.int .i64), .p (.int .i64), .p (.int .i64), .p (.int .i64)]] ++ List.replicate 54 (.c .any)), (5, List.replicate 1 (.c .any) ++ [.boxN 35 10 [.p (.int .u8), .p (.int .i64), .p (.int .i64), .p (.int .i64), .p (.int .i64), .p (.int .i64), .p (.int .i64), .p (.int .i64), .p (.int .i64), .p (.int .i64)]] ++ List.replicate 1 (.c .any) ++ [.c (.p (.bool))] ++ [.boxN 35 10 [.p (.int .u8), .p (.int .i64), .p (.int .i64), .p (.int .i64), .p (.int .i64), .p (.int .i64), .p (.int .i64), .p (.int .i64), .p (.int .i64), .p (.int .i64)]] ++ List.replicate 5 (.c .any) ++ [.c (.p (.int .u8))] ++ [.c (.p (.bool))] ++ List.replicate 47 (.c .any))], con46.args, con46.res, List.replicate 2 (.c .any) ++ [.c (.p (.int .i64))] ++ List.replicate 56 (.c .any)⟩
theorem comp46 : compFun Go.Proofs.Try.prog 46 = some (afOf Go.Proofs.Try.prog 46) := by kernel_rfl
theorem s46 : ∀ J a0, seg0 (tabL tab46) F46 (afOf Go.Proofs.Try.prog 46) J (a0, ()) = message_Check_c (fun y0 y1 y2 y3 y4 y5 y6 y7 y8 y9 y10 y11 y12 y13 y14 y15 y16 y17 y18 y19 y20 => J 3 (y0, y1, y2, y3, y4, y5, y6, y7, y8, y9, y10, y11, y12, y13, y14, y15, y16, y17, y18, y19, y20, ())) (fun y0 y1 y2 y3 y4 y5 y6 y7 y8 y9 y10 y11 y12 y13 y14 y15 y16 y17 y18 y19 y20 y21 y22 => J 5 (y0, y1, y2, y3, y4, y5, y6, y7, y8, y9, y10, y11, y12, y13, y14, y15, y16, y17, y18, y19, y20, y21, y22, ())) a0 := fun _ _ => by kernel_rfl
theorem s46_3 : ∀ J x0 x1 x2 x3 x4 x5 x6 x7 x8 x9 x10 x11 x12 x13 x14 x15 x16 x17 x18 x19 x20, seg (tabL tab46) F46 (afOf Go.Proofs.Try.prog 46) J 3 (x0, x1, x2, x3, x4, x5, x6, x7, x8, x9, x10, x11, x12, x13, x14, x15, x16, x17, x18, x19, x20, ()) = message_Check_c3 (fun y0 y1 y2 y3 y4 y5 y6 y7 y8 y9 y10 y11 y12 y13 y14 y15 y16 y17 y18 y19 y20 => J 3 (y0, y1, y2, y3, y4, y5, y6, y7, y8, y9, y10, y11, y12, y13, y14, y15, y16, y17, y18, y19, y20, ())) (fun y0 y1 y2 y3 y4 y5 y6 y7 y8 y9 y10 y11 y12 y13 y14 y15 y16 y17 y18 y19 y20 y21 y22 => J 5 (y0, y1, y2, y3, y4, y5, y6, y7, y8, y9, y10, y11, y12, y13, y14, y15, y16, y17, y18, y19, y20, y21, y22, ())) x0 x1 x2 x3 x4 x5 x6 x7 x8 x9 x10 x11 x12 x13 x14 x15 x16 x17 x18 x19 x20 := fun _ _ _ _ _ _ _ _ _ _ _ _ _ _ _ _ _ _ _ _ _ _ => by kernel_rfl
theorem s46_5 : ∀ J x0 x1 x2 x3 x4 x5 x6 x7 x8 x9 x10 x11 x12 x13 x14 x15 x16 x17 x18 x19 x20 x21 x22, seg (tabL tab46) F46 (afOf Go.Proofs.Try.prog 46) J 5 (x0, x1, x2, x3, x4, x5, x6, x7, x8, x9, x10, x11, x12, x13, x14, x15, x16, x17, x18, x19, x20, x21, x22, ()) = message_Check_c5 (fun y0 y1 y2 y3 y4 y5 y6 y7 y8 y9 y10 y11 y12 y13 y14 y15 y16 y17 y18 y19 y20 => J 3 (y0, y1, y2, y3, y4, y5, y6, y7, y8, y9, y10, y11, y12, y13, y14, y15, y16, y17, y18, y19, y20, ())) (fun y0 y1 y2 y3 y4 y5 y6 y7 y8 y9 y10 y11 y12 y13 y14 y15 y16 y17 y18 y19 y20 y21 y22 => J 5 (y0, y1, y2, y3, y4, y5, y6, y7, y8, y9, y10, y11, y12, y13, y14, y15, y16, y17, y18, y19, y20, y21, y22, ())) x0 x1 x2 x3 x4 x5 x6 x7 x8 x9 x10 x11 x12 x13 x14 x15 x16 x17 x18 x19 x20 x21 x22 := fun _ _ _ _ _ _ _ _ _ _ _ _ _ _ _ _ _ _ _ _ _ _ _ _ => by kernel_rfl
theorem i46 : ∀ n, message_Check_i3 n = (fun y0 y1 y2 y3 y4 y5 y6 y7 y8 y9 y10 y11 y12 y13 y14 y15 y16 y17 y18 y19 y20 => (iter (tabL tab46) F46 (afOf Go.Proofs.Try.prog 46) n) 3 (y0, y1, y2, y3, y4, y5, y6, y7, y8, y9, y10, y11, y12, y13, y14, y15, y16, y17, y18, y19, y20, ())) ∧ message_Check_i5 n = (fun y0 y1 y2 y3 y4 y5 y6 y7 y8 y9 y10 y11 y12 y13 y14 y15 y16 y17 y18 y19 y20 y21 y22 => (iter (tabL tab46) F46 (afOf Go.Proofs.Try.prog 46) n) 5 (y0, y1, y2, y3, y4, y5, y6, y7, y8, y9, y10, y11, y12, y13, y14, y15, y16, y17, y18, y19, y20, y21, y22, ()))
  | 0 => ⟨rfl, rfl⟩
  | n + 1 => by
    obtain ⟨h3, h5⟩ := i46 n
    exact ⟨funext fun x0 => funext fun x1 => funext fun x2 => funext fun x3 => funext fun x4 => funext fun x5 => funext fun x6 => funext fun x7 => funext fun x8 => funext fun x9 => funext fun x10 => funext fun x11 => funext fun x12 => funext fun x13 => funext fun x14 => funext fun x15 => funext fun x16 => funext fun x17 => funext fun x18 => funext fun x19 => funext fun x20 => ((s46_3 _ x0 x1 x2 x3 x4 x5 x6 x7 x8 x9 x10 x11 x12 x13 x14 x15 x16 x17 x18 x19 x20).trans (by show _ = message_Check_c3 (message_Check_i3 n) (message_Check_i5 n) x0 x1 x2 x3 x4 x5 x6 x7 x8 x9 x10 x11 x12 x13 x14 x15 x16 x17 x18 x19 x20; rw [h3, h5]; try rfl)).symm, funext fun x0 => funext fun x1 => funext fun x2 => funext fun x3 => funext fun x4 => funext fun x5 => funext fun x6 => funext fun x7 => funext fun x8 => funext fun x9 => funext fun x10 => funext fun x11 => funext fun x12 => funext fun x13 => funext fun x14 => funext fun x15 => funext fun x16 => funext fun x17 => funext fun x18 => funext fun x19 => funext fun x20 => funext fun x21 => funext fun x22 => ((s46_5 _ x0 x1 x2 x3 x4 x5 x6 x7 x8 x9 x10 x11 x12 x13 x14 x15 x16 x17 x18 x19 x20 x21 x22).trans (by show _ = message_Check_c5 (message_Check_i3 n) (message_Check_i5 n) x0 x1 x2 x3 x4 x5 x6 x7 x8 x9 x10 x11 x12 x13 x14 x15 x16 x17 x18 x19 x20 x21 x22; rw [h3, h5]; try rfl)).symm⟩
theorem cb46 : callable Go.Proofs.Try.prog 46 = true := by kernel_rfl
theorem tok46 : TabOK Go.Proofs.Try.prog tab46 := ⟨ok55, cb55, ok56, cb56, trivial⟩
theorem ok46 : con46.ok Go.Proofs.Try.prog 46 := fun a r h => by
  obtain ⟨h3, h5⟩ := i46 fuel
  refine fun_spec (f := F46) (tabL_ok tok46) (tabL_cb tok46) (by kernel_rfl) comp46 fuel (a := a) ((s46 _ a.1).trans ?_)
  have h : message_Check_c (message_Check_i3 fuel) (message_Check_i5 fuel) a.1 = some r := h
  rw [h3, h5] at h
  exact h
/- tailwater/channel.Check -/
def con26 : TCon := ⟨[.a [.int .i64, .sl [.int .u8, .int .i64, .int .i64, .int .i64, .int .i64, .int .i64, .int .i64, .int .i64, .int .i64, .int .i64]]], [.c (.p (.int .i64))], fun a => channel_Check a.1⟩
def tab26 : List (Nat × TCon) := [(46, con46)]
def F26 : TFun := ⟨[], [(6, List.replicate 23 (.c .any) ++ [.c (.p (.sl [.int .u8, .int .i64, .int .i64, .int .i64, .int .i64, .int .i64, .int .i64, .int .i64, .int .i64, .int .i64]))] ++ [.c (.p (.int .i64))] ++ [.c (.p (.int .i64))] ++ List.replicate 9 (.c .any))], con26.args, con26.res, List.replicate 2 (.c .any) ++ [.c (.p (.int .i64))] ++ List.replicate 32 (.c .any)⟩
theorem comp26 : compFun Go.Proofs.Try.prog 26 = some (afOf Go.Proofs.Try.prog 26) := by kernel_rfl
theorem s26 : ∀ J a0, seg0 (tabL tab26) F26 (afOf Go.Proofs.Try.prog 26) J (a0, ()) = channel_Check_c (fun y0 y1 y2 => J 6 (y0, y1, y2, ())) a0 := fun _ _ => by kernel_rfl
theorem s26_6 : ∀ J x0 x1 x2, seg (tabL tab26) F26 (afOf Go.Proofs.Try.prog 26) J 6 (x0, x1, x2, ()) = channel_Check_c6 (fun y0 y1 y2 => J 6 (y0, y1, y2, ())) x0 x1 x2 := fun _ _ _ _ => by kernel_rfl
theorem i26 : ∀ n, channel_Check_i6 n = (fun y0 y1 y2 => (iter (tabL tab26) F26 (afOf Go.Proofs.Try.prog 26) n) 6 (y0, y1, y2, ()))
  | 0 => rfl
  | n + 1 => by
    obtain h6 := i26 n
    exact funext fun x0 => funext fun x1 => funext fun x2 => ((s26_6 _ x0 x1 x2).trans (by show _ = channel_Check_c6 (channel_Check_i6 n) x0 x1 x2; rw [h6]; try rfl)).symm
theorem cb26 : callable Go.Proofs.Try.prog 26 = true := by kernel_rfl
theorem tok26 : TabOK Go.Proofs.Try.prog tab26 := ⟨ok46, cb46, trivial⟩
theorem ok26 : con26.ok Go.Proofs.Try.prog 26 := fun a r h => by
  obtain h6 := i26 fuel
  refine fun_spec (f := F26) (tabL_ok tok26) (tabL_cb tok26) (by kernel_rfl) comp26 fuel (a := a) ((s26 _ a.1).trans ?_)
  have h : channel_Check_c (channel_Check_i6 fuel) a.1 = some r := h
  rw [h6] at h
  exact h
/- tailwater/channel.Take -/
def con17 : TCon := ⟨[.a [.int .i64, .sl [.int .u8, .int .i64, .int .i64, .int .i64, .int .i64, .int .i64, .int .i64, .int .i64, .int .i64, .int .i64]]], [.a [.p (.int .u8), .p (.int .i64), .p (.int .i64), .p (.int .i64), .p (.int .i64), .p (.int .i64), .p (.int .i64), .p (.int .i64), .p (.int .i64), .p (.int .i64)], .a [.p (.int .i64), .p (.sl [.int .u8, .int .i64, .int .i64, .int .i64, .int .i64, .int .i64, .int .i64, .int .i64, .int .i64, .int .i64])], .c (.p (.int .i64))], fun a => channel_Take a.1⟩
def tab17 : List (Nat × TCon) := [(26, con26)]
def F17 : TFun := ⟨[], [], con17.args, con17.res, List.replicate 2 (.c .any) ++ [.boxN 35 10 [.p (.int .u8), .p (.int .i64), .p (.int .i64), .p (.int .i64), .p (.int .i64), .p (.int .i64), .p (.int .i64), .p (.int .i64), .p (.int .i64), .p (.int .i64)]] ++ [.boxN 24 2 [.p (.int .i64), .p (.sl [.int .u8, .int .i64, .int .i64, .int .i64, .int .i64, .int .i64, .int .i64, .int .i64, .int .i64, .int .i64])]] ++ [.c (.p (.int .i64))] ++ List.replicate 33 (.c .any)⟩
theorem comp17 : compFun Go.Proofs.Try.prog 17 = some (afOf Go.Proofs.Try.prog 17) := by kernel_rfl
theorem s17 : ∀ J a0, seg0 (tabL tab17) F17 (afOf Go.Proofs.Try.prog 17) J (a0, ()) = channel_Take a0 := fun _ _ => by kernel_rfl
theorem cb17 : callable Go.Proofs.Try.prog 17 = true := by kernel_rfl
theorem tok17 : TabOK Go.Proofs.Try.prog tab17 := ⟨ok26, cb26, trivial⟩
theorem ok17 : con17.ok Go.Proofs.Try.prog 17 := fun a r h => fun_spec (f := F17) (tabL_ok tok17) (tabL_cb tok17) (by kernel_rfl) comp17 0 (a := a) ((s17 _ a.1).trans h)
/- tailwater/tailwaterref25.Right -/
def con47 : TCon := ⟨[.a [.int .i64, .int .i64, .int .i64]], [.c (.p (.bool))], fun a => ref25_Right a.1⟩
def tab47 : List (Nat × TCon) := []
def F47 : TFun := ⟨[], [], con47.args, con47.res, List.replicate 2 (.c .any) ++ [.c (.p (.bool))] ++ List.replicate 8 (.c .any)⟩
theorem comp47 : compFun Go.Proofs.Try.prog 47 = some (afOf Go.Proofs.Try.prog 47) := by kernel_rfl
theorem s47 : ∀ J a0, seg0 (tabL tab47) F47 (afOf Go.Proofs.Try.prog 47) J (a0, ()) = ref25_Right a0 := fun _ _ => by kernel_rfl
theorem cb47 : callable Go.Proofs.Try.prog 47 = true := by kernel_rfl
theorem tok47 : TabOK Go.Proofs.Try.prog tab47 := trivial
theorem ok47 : con47.ok Go.Proofs.Try.prog 47 := fun a r h => fun_spec (f := F47) (tabL_ok tok47) (tabL_cb tok47) (by kernel_rfl) comp47 0 (a := a) ((s47 _ a.1).trans h)
/- tailwater/tailwaterref25.Mark -/
def con39 : TCon := ⟨[.c (.int .i64)], [.c (.p (.bool))], fun a => ref25_Mark a.1⟩
def tab39 : List (Nat × TCon) := []
def F39 : TFun := ⟨[], [], con39.args, con39.res, List.replicate 2 (.c .any) ++ [.c (.p (.bool))] ++ List.replicate 10 (.c .any)⟩
theorem comp39 : compFun Go.Proofs.Try.prog 39 = some (afOf Go.Proofs.Try.prog 39) := by kernel_rfl
theorem s39 : ∀ J a0, seg0 (tabL tab39) F39 (afOf Go.Proofs.Try.prog 39) J (a0, ()) = ref25_Mark a0 := fun _ _ => by kernel_rfl
theorem cb39 : callable Go.Proofs.Try.prog 39 = true := by kernel_rfl
theorem tok39 : TabOK Go.Proofs.Try.prog tab39 := trivial
theorem ok39 : con39.ok Go.Proofs.Try.prog 39 := fun a r h => fun_spec (f := F39) (tabL_ok tok39) (tabL_cb tok39) (by kernel_rfl) comp39 0 (a := a) ((s39 _ a.1).trans h)
/- tailwater/tailwaterref25.Row -/
def con48 : TCon := ⟨[.a [.int .i64, .int .i64, .int .i64, .int .i64, .int .i64]], [.c (.p (.bool))], fun a => ref25_Row a.1⟩
def tab48 : List (Nat × TCon) := []
def F48 : TFun := ⟨[], [], con48.args, con48.res, List.replicate 2 (.c .any) ++ [.c (.p (.bool))] ++ List.replicate 19 (.c .any)⟩
theorem comp48 : compFun Go.Proofs.Try.prog 48 = some (afOf Go.Proofs.Try.prog 48) := by kernel_rfl
theorem s48 : ∀ J a0, seg0 (tabL tab48) F48 (afOf Go.Proofs.Try.prog 48) J (a0, ()) = ref25_Row a0 := fun _ _ => by kernel_rfl
theorem cb48 : callable Go.Proofs.Try.prog 48 = true := by kernel_rfl
theorem tok48 : TabOK Go.Proofs.Try.prog tab48 := trivial
theorem ok48 : con48.ok Go.Proofs.Try.prog 48 := fun a r h => fun_spec (f := F48) (tabL_ok tok48) (tabL_cb tok48) (by kernel_rfl) comp48 0 (a := a) ((s48 _ a.1).trans h)
/- tailwater/tailwaterref25.Valid -/
def con29 : TCon := ⟨[.a [.int .u8, .int .i64, .int .i64, .int .i64, .int .i64, .int .i64, .int .i64, .int .i64, .int .i64, .int .i64]], [.c (.p (.bool))], fun a => ref25_Valid a.1⟩
def tab29 : List (Nat × TCon) := [(47, con47), (39, con39), (48, con48)]
def F29 : TFun := ⟨[3], [(3, List.replicate 1 (.c .any) ++ [.boxN 35 10 [.p (.int .u8), .p (.int .i64), .p (.int .i64), .p (.int .i64), .p (.int .i64), .p (.int .i64), .p (.int .i64), .p (.int .i64), .p (.int .i64), .p (.int .i64)]] ++ List.replicate 2 (.c .any) ++ [.c (.p (.int .u8))] ++ [.c (.p (.bool))] ++ List.replicate 42 (.c .any))], con29.args, con29.res, List.replicate 2 (.c .any) ++ [.c (.p (.bool))] ++ List.replicate 45 (.c .any)⟩
theorem comp29 : compFun Go.Proofs.Try.prog 29 = some (afOf Go.Proofs.Try.prog 29) := by kernel_rfl
theorem s29 : ∀ J a0, seg0 (tabL tab29) F29 (afOf Go.Proofs.Try.prog 29) J (a0, ()) = ref25_Valid_c (fun y0 y1 y2 y3 y4 y5 y6 y7 y8 y9 y10 y11 => J 3 (y0, y1, y2, y3, y4, y5, y6, y7, y8, y9, y10, y11, ())) a0 := fun _ _ => by kernel_rfl
theorem s29_3 : ∀ J x0 x1 x2 x3 x4 x5 x6 x7 x8 x9 x10 x11, seg (tabL tab29) F29 (afOf Go.Proofs.Try.prog 29) J 3 (x0, x1, x2, x3, x4, x5, x6, x7, x8, x9, x10, x11, ()) = ref25_Valid_c3 (fun y0 y1 y2 y3 y4 y5 y6 y7 y8 y9 y10 y11 => J 3 (y0, y1, y2, y3, y4, y5, y6, y7, y8, y9, y10, y11, ())) x0 x1 x2 x3 x4 x5 x6 x7 x8 x9 x10 x11 := fun _ _ _ _ _ _ _ _ _ _ _ _ _ => by kernel_rfl
theorem i29 : ∀ n, ref25_Valid_i3 n = (fun y0 y1 y2 y3 y4 y5 y6 y7 y8 y9 y10 y11 => (iter (tabL tab29) F29 (afOf Go.Proofs.Try.prog 29) n) 3 (y0, y1, y2, y3, y4, y5, y6, y7, y8, y9, y10, y11, ()))
  | 0 => rfl
  | n + 1 => by
    obtain h3 := i29 n
    exact funext fun x0 => funext fun x1 => funext fun x2 => funext fun x3 => funext fun x4 => funext fun x5 => funext fun x6 => funext fun x7 => funext fun x8 => funext fun x9 => funext fun x10 => funext fun x11 => ((s29_3 _ x0 x1 x2 x3 x4 x5 x6 x7 x8 x9 x10 x11).trans (by show _ = ref25_Valid_c3 (ref25_Valid_i3 n) x0 x1 x2 x3 x4 x5 x6 x7 x8 x9 x10 x11; rw [h3]; try rfl)).symm
theorem cb29 : callable Go.Proofs.Try.prog 29 = true := by kernel_rfl
theorem tok29 : TabOK Go.Proofs.Try.prog tab29 := ⟨ok47, cb47, ok39, cb39, ok48, cb48, trivial⟩
theorem ok29 : con29.ok Go.Proofs.Try.prog 29 := fun a r h => by
  obtain h3 := i29 fuel
  refine fun_spec (f := F29) (tabL_ok tok29) (tabL_cb tok29) (by kernel_rfl) comp29 fuel (a := a) ((s29 _ a.1).trans ?_)
  have h : ref25_Valid_c (ref25_Valid_i3 fuel) a.1 = some r := h
  rw [h3] at h
  exact h
/- tailwater/tailwaterref26.Check -/
def con27 : TCon := ⟨[.a [.int .i64, .sl [.int .u8, .int .i64, .int .i64, .int .i64, .int .i64, .int .i64, .int .i64, .int .i64, .int .i64, .int .i64]]], [.c (.p (.int .i64))], fun a => ref26_Check a.1⟩
def tab27 : List (Nat × TCon) := [(29, con29)]
def F27 : TFun := ⟨[], [(6, List.replicate 1 (.c .any) ++ [.boxN 24 2 [.any, .p (.sl [.int .u8, .int .i64, .int .i64, .int .i64, .int .i64, .int .i64, .int .i64, .int .i64, .int .i64, .int .i64])]] ++ List.replicate 1 (.c .any) ++ [.c (.p (.int .i64))] ++ List.replicate 30 (.c .any))], con27.args, con27.res, List.replicate 2 (.c .any) ++ [.c (.p (.int .i64))] ++ List.replicate 31 (.c .any)⟩
theorem comp27 : compFun Go.Proofs.Try.prog 27 = some (afOf Go.Proofs.Try.prog 27) := by kernel_rfl
theorem s27 : ∀ J a0, seg0 (tabL tab27) F27 (afOf Go.Proofs.Try.prog 27) J (a0, ()) = ref26_Check_c (fun y0 y1 => J 6 (y0, y1, ())) a0 := fun _ _ => by kernel_rfl
theorem s27_6 : ∀ J x0 x1, seg (tabL tab27) F27 (afOf Go.Proofs.Try.prog 27) J 6 (x0, x1, ()) = ref26_Check_c6 (fun y0 y1 => J 6 (y0, y1, ())) x0 x1 := fun _ _ _ => by kernel_rfl
theorem i27 : ∀ n, ref26_Check_i6 n = (fun y0 y1 => (iter (tabL tab27) F27 (afOf Go.Proofs.Try.prog 27) n) 6 (y0, y1, ()))
  | 0 => rfl
  | n + 1 => by
    obtain h6 := i27 n
    exact funext fun x0 => funext fun x1 => ((s27_6 _ x0 x1).trans (by show _ = ref26_Check_c6 (ref26_Check_i6 n) x0 x1; rw [h6]; try rfl)).symm
theorem cb27 : callable Go.Proofs.Try.prog 27 = true := by kernel_rfl
theorem tok27 : TabOK Go.Proofs.Try.prog tab27 := ⟨ok29, cb29, trivial⟩
theorem ok27 : con27.ok Go.Proofs.Try.prog 27 := fun a r h => by
  obtain h6 := i27 fuel
  refine fun_spec (f := F27) (tabL_ok tok27) (tabL_cb tok27) (by kernel_rfl) comp27 fuel (a := a) ((s27 _ a.1).trans ?_)
  have h : ref26_Check_c (ref26_Check_i6 fuel) a.1 = some r := h
  rw [h6] at h
  exact h
/- tailwater/tailwaterref26.Take -/
def con18 : TCon := ⟨[.a [.int .i64, .sl [.int .u8, .int .i64, .int .i64, .int .i64, .int .i64, .int .i64, .int .i64, .int .i64, .int .i64, .int .i64]]], [.a [.p (.int .u8), .p (.int .i64), .p (.int .i64), .p (.int .i64), .p (.int .i64), .p (.int .i64), .p (.int .i64), .p (.int .i64), .p (.int .i64), .p (.int .i64)], .a [.p (.int .i64), .p (.sl [.int .u8, .int .i64, .int .i64, .int .i64, .int .i64, .int .i64, .int .i64, .int .i64, .int .i64, .int .i64])], .c (.p (.int .i64))], fun a => ref26_Take a.1⟩
def tab18 : List (Nat × TCon) := [(27, con27), (16, con16p)]
def F18 : TFun := ⟨[], [], con18.args, con18.res, List.replicate 2 (.c .any) ++ [.boxN 35 10 [.p (.int .u8), .p (.int .i64), .p (.int .i64), .p (.int .i64), .p (.int .i64), .p (.int .i64), .p (.int .i64), .p (.int .i64), .p (.int .i64), .p (.int .i64)]] ++ [.boxN 24 2 [.p (.int .i64), .p (.sl [.int .u8, .int .i64, .int .i64, .int .i64, .int .i64, .int .i64, .int .i64, .int .i64, .int .i64, .int .i64])]] ++ [.c (.p (.int .i64))] ++ List.replicate 27 (.c .any)⟩
theorem comp18 : compFun Go.Proofs.Try.prog 18 = some (afOf Go.Proofs.Try.prog 18) := by kernel_rfl
theorem s18 : ∀ J a0, seg0 (tabL tab18) F18 (afOf Go.Proofs.Try.prog 18) J (a0, ()) = ref26_Take a0 := fun _ _ => by kernel_rfl
theorem cb18 : callable Go.Proofs.Try.prog 18 = true := by kernel_rfl
theorem tok18 : TabOK Go.Proofs.Try.prog tab18 := ⟨ok27, cb27, ok16p, cb16, trivial⟩
theorem ok18 : con18.ok Go.Proofs.Try.prog 18 := fun a r h => fun_spec (f := F18) (tabL_ok tok18) (tabL_cb tok18) (by kernel_rfl) comp18 0 (a := a) ((s18 _ a.1).trans h)
/- tailwater/channel.Left -/
def con19 : TCon := ⟨[.a [.int .i64, .sl [.int .u8, .int .i64, .int .i64, .int .i64, .int .i64, .int .i64, .int .i64, .int .i64, .int .i64, .int .i64]]], [.c (.p (.int .i64)), .c (.p (.int .i64))], fun a => channel_Left a.1⟩
def tab19 : List (Nat × TCon) := [(26, con26)]
def F19 : TFun := ⟨[], [], con19.args, con19.res, List.replicate 2 (.c .any) ++ [.c (.p (.int .i64))] ++ [.c (.p (.int .i64))] ++ List.replicate 12 (.c .any)⟩
theorem comp19 : compFun Go.Proofs.Try.prog 19 = some (afOf Go.Proofs.Try.prog 19) := by kernel_rfl
theorem s19 : ∀ J a0, seg0 (tabL tab19) F19 (afOf Go.Proofs.Try.prog 19) J (a0, ()) = channel_Left a0 := fun _ _ => by kernel_rfl
theorem cb19 : callable Go.Proofs.Try.prog 19 = true := by kernel_rfl
theorem tok19 : TabOK Go.Proofs.Try.prog tab19 := ⟨ok26, cb26, trivial⟩
theorem ok19 : con19.ok Go.Proofs.Try.prog 19 := fun a r h => fun_spec (f := F19) (tabL_ok tok19) (tabL_cb tok19) (by kernel_rfl) comp19 0 (a := a) ((s19 _ a.1).trans h)
/- tailwater/tailwaterref26.Left -/
def con20 : TCon := ⟨[.a [.int .i64, .sl [.int .u8, .int .i64, .int .i64, .int .i64, .int .i64, .int .i64, .int .i64, .int .i64, .int .i64, .int .i64]]], [.c (.p (.int .i64)), .c (.p (.int .i64))], fun a => ref26_Left a.1⟩
def tab20 : List (Nat × TCon) := [(27, con27)]
def F20 : TFun := ⟨[], [], con20.args, con20.res, List.replicate 2 (.c .any) ++ [.c (.p (.int .i64))] ++ [.c (.p (.int .i64))] ++ List.replicate 12 (.c .any)⟩
theorem comp20 : compFun Go.Proofs.Try.prog 20 = some (afOf Go.Proofs.Try.prog 20) := by kernel_rfl
theorem s20 : ∀ J a0, seg0 (tabL tab20) F20 (afOf Go.Proofs.Try.prog 20) J (a0, ()) = ref26_Left a0 := fun _ _ => by kernel_rfl
theorem cb20 : callable Go.Proofs.Try.prog 20 = true := by kernel_rfl
theorem tok20 : TabOK Go.Proofs.Try.prog tab20 := ⟨ok27, cb27, trivial⟩
theorem ok20 : con20.ok Go.Proofs.Try.prog 20 := fun a r h => fun_spec (f := F20) (tabL_ok tok20) (tabL_cb tok20) (by kernel_rfl) comp20 0 (a := a) ((s20 _ a.1).trans h)
/- tailwater/tailwaterref26.SameList -/
def con30 : TCon := ⟨[.c (.sl [.int .u8, .int .i64, .int .i64, .int .i64, .int .i64, .int .i64, .int .i64, .int .i64, .int .i64, .int .i64]), .c (.sl [.int .u8, .int .i64, .int .i64, .int .i64, .int .i64, .int .i64, .int .i64, .int .i64, .int .i64, .int .i64])], [.c (.p (.bool))], fun a => ref26_SameList a.1 a.2.1⟩
def tab30 : List (Nat × TCon) := []
def F30 : TFun := ⟨[], [(6, [.c (.p (.sl [.int .u8, .int .i64, .int .i64, .int .i64, .int .i64, .int .i64, .int .i64, .int .i64, .int .i64, .int .i64]))] ++ [.c (.p (.sl [.int .u8, .int .i64, .int .i64, .int .i64, .int .i64, .int .i64, .int .i64, .int .i64, .int .i64, .int .i64]))] ++ List.replicate 3 (.c .any) ++ [.c (.p (.int .i64))] ++ List.replicate 20 (.c .any))], con30.args, con30.res, List.replicate 4 (.c .any) ++ [.c (.p (.bool))] ++ List.replicate 21 (.c .any)⟩
theorem comp30 : compFun Go.Proofs.Try.prog 30 = some (afOf Go.Proofs.Try.prog 30) := by kernel_rfl
theorem s30 : ∀ J a0 a1, seg0 (tabL tab30) F30 (afOf Go.Proofs.Try.prog 30) J (a0, a1, ()) = ref26_SameList_c (fun y0 y1 y2 => J 6 (y0, y1, y2, ())) a0 a1 := fun _ _ _ => by kernel_rfl
theorem s30_6 : ∀ J x0 x1 x2, seg (tabL tab30) F30 (afOf Go.Proofs.Try.prog 30) J 6 (x0, x1, x2, ()) = ref26_SameList_c6 (fun y0 y1 y2 => J 6 (y0, y1, y2, ())) x0 x1 x2 := fun _ _ _ _ => by kernel_rfl
theorem i30 : ∀ n, ref26_SameList_i6 n = (fun y0 y1 y2 => (iter (tabL tab30) F30 (afOf Go.Proofs.Try.prog 30) n) 6 (y0, y1, y2, ()))
  | 0 => rfl
  | n + 1 => by
    obtain h6 := i30 n
    exact funext fun x0 => funext fun x1 => funext fun x2 => ((s30_6 _ x0 x1 x2).trans (by show _ = ref26_SameList_c6 (ref26_SameList_i6 n) x0 x1 x2; rw [h6]; try rfl)).symm
theorem cb30 : callable Go.Proofs.Try.prog 30 = true := by kernel_rfl
theorem tok30 : TabOK Go.Proofs.Try.prog tab30 := trivial
theorem ok30 : con30.ok Go.Proofs.Try.prog 30 := fun a r h => by
  obtain h6 := i30 fuel
  refine fun_spec (f := F30) (tabL_ok tok30) (tabL_cb tok30) (by kernel_rfl) comp30 fuel (a := a) ((s30 _ a.1 a.2.1).trans ?_)
  have h : ref26_SameList_c (ref26_SameList_i6 fuel) a.1 a.2.1 = some r := h
  rw [h6] at h
  exact h
/- tailwater/tailwaterref26.Same -/
def con21 : TCon := ⟨[.a [.int .i64, .sl [.int .u8, .int .i64, .int .i64, .int .i64, .int .i64, .int .i64, .int .i64, .int .i64, .int .i64, .int .i64]], .a [.int .i64, .sl [.int .u8, .int .i64, .int .i64, .int .i64, .int .i64, .int .i64, .int .i64, .int .i64, .int .i64, .int .i64]]], [.c (.p (.bool))], fun a => ref26_Same a.1 a.2.1⟩
def tab21 : List (Nat × TCon) := [(30, con30)]
def F21 : TFun := ⟨[], [], con21.args, con21.res, List.replicate 4 (.c .any) ++ [.c (.p (.bool))] ++ List.replicate 12 (.c .any)⟩
theorem comp21 : compFun Go.Proofs.Try.prog 21 = some (afOf Go.Proofs.Try.prog 21) := by kernel_rfl
theorem s21 : ∀ J a0 a1, seg0 (tabL tab21) F21 (afOf Go.Proofs.Try.prog 21) J (a0, a1, ()) = ref26_Same a0 a1 := fun _ _ _ => by kernel_rfl
theorem cb21 : callable Go.Proofs.Try.prog 21 = true := by kernel_rfl
theorem tok21 : TabOK Go.Proofs.Try.prog tab21 := ⟨ok30, cb30, trivial⟩
theorem ok21 : con21.ok Go.Proofs.Try.prog 21 := fun a r h => fun_spec (f := F21) (tabL_ok tok21) (tabL_cb tok21) (by kernel_rfl) comp21 0 (a := a) ((s21 _ a.1 a.2.1).trans h)
/- tailwater/tailwaterlaw26.ChannelTakes -/
def con3 : TCon := ⟨[.a [.int .i64, .sl [.int .u8, .int .i64, .int .i64, .int .i64, .int .i64, .int .i64, .int .i64, .int .i64, .int .i64, .int .i64]]], [.c (.p (.bool))], fun a => law26_ChannelTakes a.1⟩
def tab3 : List (Nat × TCon) := [(15, con15), (16, con16p), (17, con17), (18, con18), (19, con19), (20, con20), (21, con21)]
def F3 : TFun := ⟨[], [], con3.args, con3.res, List.replicate 2 (.c .any) ++ [.c (.p (.bool))] ++ List.replicate 65 (.c .any)⟩
theorem comp3 : compFun Go.Proofs.Try.prog 3 = some (afOf Go.Proofs.Try.prog 3) := by kernel_rfl
theorem s3 : ∀ J a0, seg0 (tabL tab3) F3 (afOf Go.Proofs.Try.prog 3) J (a0, ()) = law26_ChannelTakes a0 := fun _ _ => by kernel_rfl
theorem cb3 : callable Go.Proofs.Try.prog 3 = true := by kernel_rfl
theorem tok3 : TabOK Go.Proofs.Try.prog tab3 := ⟨ok15, cb15, ok16p, cb16, ok17, cb17, ok18, cb18, ok19, cb19, ok20, cb20, ok21, cb21, trivial⟩
theorem ok3 : con3.ok Go.Proofs.Try.prog 3 := fun a r h => fun_spec (f := F3) (tabL_ok tok3) (tabL_cb tok3) (by kernel_rfl) comp3 0 (a := a) ((s3 _ a.1).trans h)
/- tailwater/channel.Put -/
def con22 : TCon := ⟨[.a [.int .i64, .sl [.int .u8, .int .i64, .int .i64, .int .i64, .int .i64, .int .i64, .int .i64, .int .i64, .int .i64, .int .i64]], .a [.int .u8, .int .i64, .int .i64, .int .i64, .int .i64, .int .i64, .int .i64, .int .i64, .int .i64, .int .i64]], [.a [.p (.int .i64), .s 35 10 [.int .u8, .int .i64, .int .i64, .int .i64, .int .i64, .int .i64, .int .i64, .int .i64, .int .i64, .int .i64]], .c (.p (.int .i64))], fun a => channel_Put a.1 a.2.1⟩
def tab22 : List (Nat × TCon) := [(26, con26), (46, con46)]
def F22 : TFun := ⟨[], [], con22.args, con22.res, List.replicate 4 (.c .any) ++ [.boxN 24 2 [.p (.int .i64), .rowN 35 10 [.int .u8, .int .i64, .int .i64, .int .i64, .int .i64, .int .i64, .int .i64, .int .i64, .int .i64, .int .i64]]] ++ [.c (.p (.int .i64))] ++ List.replicate 39 (.c .any)⟩
theorem comp22 : compFun Go.Proofs.Try.prog 22 = some (afOf Go.Proofs.Try.prog 22) := by kernel_rfl
theorem s22 : ∀ J a0 a1, seg0 (tabL tab22) F22 (afOf Go.Proofs.Try.prog 22) J (a0, a1, ()) = channel_Put a0 a1 := fun _ _ _ => by kernel_rfl
theorem cb22 : callable Go.Proofs.Try.prog 22 = true := by kernel_rfl
theorem tok22 : TabOK Go.Proofs.Try.prog tab22 := ⟨ok26, cb26, ok46, cb46, trivial⟩
theorem ok22 : con22.ok Go.Proofs.Try.prog 22 := fun a r h => fun_spec (f := F22) (tabL_ok tok22) (tabL_cb tok22) (by kernel_rfl) comp22 0 (a := a) ((s22 _ a.1 a.2.1).trans h)
def con22p : TCon := ⟨[.a [.int .i64, .sl [.int .u8, .int .i64, .int .i64, .int .i64, .int .i64, .int .i64, .int .i64, .int .i64, .int .i64, .int .i64]], .a [.int .u8, .int .i64, .int .i64, .int .i64, .int .i64, .int .i64, .int .i64, .int .i64, .int .i64, .int .i64]], [.a [.p (.int .i64), .p (.sl [.int .u8, .int .i64, .int .i64, .int .i64, .int .i64, .int .i64, .int .i64, .int .i64, .int .i64, .int .i64])], .c (.p (.int .i64))], fun a => channel_Put a.1 a.2.1⟩
theorem ok22p : con22p.ok Go.Proofs.Try.prog 22 := fun a r h => TCon.frz (c := con22) ok22 rfl a r h
/- tailwater/tailwaterref26.Put -/
def con23 : TCon := ⟨[.a [.int .i64, .sl [.int .u8, .int .i64, .int .i64, .int .i64, .int .i64, .int .i64, .int .i64, .int .i64, .int .i64, .int .i64]], .a [.int .u8, .int .i64, .int .i64, .int .i64, .int .i64, .int .i64, .int .i64, .int .i64, .int .i64, .int .i64]], [.a [.p (.int .i64), .s 35 10 [.int .u8, .int .i64, .int .i64, .int .i64, .int .i64, .int .i64, .int .i64, .int .i64, .int .i64, .int .i64]], .c (.p (.int .i64))], fun a => ref26_Put a.1 a.2.1⟩
def tab23 : List (Nat × TCon) := [(27, con27), (29, con29), (16, con16)]
def F23 : TFun := ⟨[], [], con23.args, con23.res, List.replicate 4 (.c .any) ++ [.boxN 24 2 [.p (.int .i64), .rowN 35 10 [.int .u8, .int .i64, .int .i64, .int .i64, .int .i64, .int .i64, .int .i64, .int .i64, .int .i64, .int .i64]]] ++ [.c (.p (.int .i64))] ++ List.replicate 28 (.c .any)⟩
theorem comp23 : compFun Go.Proofs.Try.prog 23 = some (afOf Go.Proofs.Try.prog 23) := by kernel_rfl
theorem s23 : ∀ J a0 a1, seg0 (tabL tab23) F23 (afOf Go.Proofs.Try.prog 23) J (a0, a1, ()) = ref26_Put a0 a1 := fun _ _ _ => by kernel_rfl
theorem cb23 : callable Go.Proofs.Try.prog 23 = true := by kernel_rfl
theorem tok23 : TabOK Go.Proofs.Try.prog tab23 := ⟨ok27, cb27, ok29, cb29, ok16, cb16, trivial⟩
theorem ok23 : con23.ok Go.Proofs.Try.prog 23 := fun a r h => fun_spec (f := F23) (tabL_ok tok23) (tabL_cb tok23) (by kernel_rfl) comp23 0 (a := a) ((s23 _ a.1 a.2.1).trans h)
def con23p : TCon := ⟨[.a [.int .i64, .sl [.int .u8, .int .i64, .int .i64, .int .i64, .int .i64, .int .i64, .int .i64, .int .i64, .int .i64, .int .i64]], .a [.int .u8, .int .i64, .int .i64, .int .i64, .int .i64, .int .i64, .int .i64, .int .i64, .int .i64, .int .i64]], [.a [.p (.int .i64), .p (.sl [.int .u8, .int .i64, .int .i64, .int .i64, .int .i64, .int .i64, .int .i64, .int .i64, .int .i64, .int .i64])], .c (.p (.int .i64))], fun a => ref26_Put a.1 a.2.1⟩
theorem ok23p : con23p.ok Go.Proofs.Try.prog 23 := fun a r h => TCon.frz (c := con23) ok23 rfl a r h
/- tailwater/channel.New -/
def con24 : TCon := ⟨[.c (.int .i64)], [.a [.p (.int .i64), .p (.sl [.int .u8, .int .i64, .int .i64, .int .i64, .int .i64, .int .i64, .int .i64, .int .i64, .int .i64, .int .i64])], .c (.p (.int .i64))], fun a => channel_New a.1⟩
def tab24 : List (Nat × TCon) := []
def F24 : TFun := ⟨[], [], con24.args, con24.res, List.replicate 2 (.c .any) ++ [.boxN 24 2 [.p (.int .i64), .p (.sl [.int .u8, .int .i64, .int .i64, .int .i64, .int .i64, .int .i64, .int .i64, .int .i64, .int .i64, .int .i64])]] ++ [.c (.p (.int .i64))] ++ List.replicate 9 (.c .any)⟩
theorem comp24 : compFun Go.Proofs.Try.prog 24 = some (afOf Go.Proofs.Try.prog 24) := by kernel_rfl
theorem s24 : ∀ J a0, seg0 (tabL tab24) F24 (afOf Go.Proofs.Try.prog 24) J (a0, ()) = channel_New a0 := fun _ _ => by kernel_rfl
theorem cb24 : callable Go.Proofs.Try.prog 24 = true := by kernel_rfl
theorem tok24 : TabOK Go.Proofs.Try.prog tab24 := trivial
theorem ok24 : con24.ok Go.Proofs.Try.prog 24 := fun a r h => fun_spec (f := F24) (tabL_ok tok24) (tabL_cb tok24) (by kernel_rfl) comp24 0 (a := a) ((s24 _ a.1).trans h)
/- tailwater/tailwaterref26.New -/
def con25 : TCon := ⟨[.c (.int .i64)], [.a [.p (.int .i64), .p (.sl [.int .u8, .int .i64, .int .i64, .int .i64, .int .i64, .int .i64, .int .i64, .int .i64, .int .i64, .int .i64])], .c (.p (.int .i64))], fun a => ref26_New a.1⟩
def tab25 : List (Nat × TCon) := []
def F25 : TFun := ⟨[], [], con25.args, con25.res, List.replicate 2 (.c .any) ++ [.boxN 24 2 [.p (.int .i64), .p (.sl [.int .u8, .int .i64, .int .i64, .int .i64, .int .i64, .int .i64, .int .i64, .int .i64, .int .i64, .int .i64])]] ++ [.c (.p (.int .i64))] ++ List.replicate 9 (.c .any)⟩
theorem comp25 : compFun Go.Proofs.Try.prog 25 = some (afOf Go.Proofs.Try.prog 25) := by kernel_rfl
theorem s25 : ∀ J a0, seg0 (tabL tab25) F25 (afOf Go.Proofs.Try.prog 25) J (a0, ()) = ref26_New a0 := fun _ _ => by kernel_rfl
theorem cb25 : callable Go.Proofs.Try.prog 25 = true := by kernel_rfl
theorem tok25 : TabOK Go.Proofs.Try.prog tab25 := trivial
theorem ok25 : con25.ok Go.Proofs.Try.prog 25 := fun a r h => fun_spec (f := F25) (tabL_ok tok25) (tabL_cb tok25) (by kernel_rfl) comp25 0 (a := a) ((s25 _ a.1).trans h)
/- tailwater/tailwaterlaw26.ChannelPuts -/
def con4 : TCon := ⟨[.a [.int .i64, .sl [.int .u8, .int .i64, .int .i64, .int .i64, .int .i64, .int .i64, .int .i64, .int .i64, .int .i64, .int .i64]], .a [.int .u8, .int .i64, .int .i64, .int .i64, .int .i64, .int .i64, .int .i64, .int .i64, .int .i64, .int .i64], .c (.int .i64)], [.c (.p (.bool))], fun a => law26_ChannelPuts a.1 a.2.1 a.2.2.1⟩
def tab4 : List (Nat × TCon) := [(15, con15), (16, con16p), (22, con22p), (23, con23p), (24, con24), (25, con25), (21, con21), (26, con26), (27, con27)]
def F4 : TFun := ⟨[], [], con4.args, con4.res, List.replicate 6 (.c .any) ++ [.c (.p (.bool))] ++ List.replicate 65 (.c .any)⟩
theorem comp4 : compFun Go.Proofs.Try.prog 4 = some (afOf Go.Proofs.Try.prog 4) := by kernel_rfl
theorem s4 : ∀ J a0 a1 a2, seg0 (tabL tab4) F4 (afOf Go.Proofs.Try.prog 4) J (a0, a1, a2, ()) = law26_ChannelPuts a0 a1 a2 := fun _ _ _ _ => by kernel_rfl
theorem cb4 : callable Go.Proofs.Try.prog 4 = true := by kernel_rfl
theorem tok4 : TabOK Go.Proofs.Try.prog tab4 := ⟨ok15, cb15, ok16p, cb16, ok22p, cb22, ok23p, cb23, ok24, cb24, ok25, cb25, ok21, cb21, ok26, cb26, ok27, cb27, trivial⟩
theorem ok4 : con4.ok Go.Proofs.Try.prog 4 := fun a r h => fun_spec (f := F4) (tabL_ok tok4) (tabL_cb tok4) (by kernel_rfl) comp4 0 (a := a) ((s4 _ a.1 a.2.1 a.2.2.1).trans h)
/- tailwater/tailwaterlaw26.ChannelFirst -/
def con5 : TCon := ⟨[.a [.int .i64, .sl [.int .u8, .int .i64, .int .i64, .int .i64, .int .i64, .int .i64, .int .i64, .int .i64, .int .i64, .int .i64]], .c (.sl [.int .u8, .int .i64, .int .i64, .int .i64, .int .i64, .int .i64, .int .i64, .int .i64, .int .i64, .int .i64]), .c (.sl [.bool])], [.c (.p (.bool))], fun a => law26_ChannelFirst a.1 a.2.1 a.2.2.1⟩
def tab5 : List (Nat × TCon) := [(28, con28), (27, con27), (17, con17), (22, con22p), (29, con29), (26, con26), (30, con30)]
def F5 : TFun := ⟨[7], [(7, List.replicate 3 (.c .any) ++ [.boxN 24 2 [.p (.int .i64), .p (.sl [.int .u8, .int .i64, .int .i64, .int .i64, .int .i64, .int .i64, .int .i64, .int .i64, .int .i64, .int .i64])]] ++ List.replicate 3 (.c .any) ++ [.c (.p (.bool))] ++ [.c (.rowN 35 10 [.int .u8, .int .i64, .int .i64, .int .i64, .int .i64, .int .i64, .int .i64, .int .i64, .int .i64, .int .i64])] ++ List.replicate 1 (.c .any) ++ [.c (.p (.int .i64))] ++ List.replicate 143 (.c .any)), (9, List.replicate 1 (.c .any) ++ [.c (.p (.sl [.int .u8, .int .i64, .int .i64, .int .i64, .int .i64, .int .i64, .int .i64, .int .i64, .int .i64, .int .i64]))] ++ [.c (.p (.sl [.bool]))] ++ [.boxN 24 2 [.p (.int .i64), .p (.sl [.int .u8, .int .i64, .int .i64, .int .i64, .int .i64, .int .i64, .int .i64, .int .i64, .int .i64, .int .i64])]] ++ List.replicate 3 (.c .any) ++ [.c (.p (.bool))] ++ [.c (.rowN 35 10 [.int .u8, .int .i64, .int .i64, .int .i64, .int .i64, .int .i64, .int .i64, .int .i64, .int .i64, .int .i64])] ++ [.c (.p (.int .i64))] ++ [.c (.p (.int .i64))] ++ [.c (.p (.int .i64))] ++ List.replicate 142 (.c .any))], con5.args, con5.res, List.replicate 6 (.c .any) ++ [.c (.p (.bool))] ++ List.replicate 147 (.c .any)⟩
theorem comp5 : compFun Go.Proofs.Try.prog 5 = some (afOf Go.Proofs.Try.prog 5) := by kernel_rfl
theorem s5 : ∀ J a0 a1 a2, seg0 (tabL tab5) F5 (afOf Go.Proofs.Try.prog 5) J (a0, a1, a2, ()) = law26_ChannelFirst_c (fun y0 y1 y2 y3 y4 => J 7 (y0, y1, y2, y3, y4, ())) (fun y0 y1 y2 y3 y4 y5 y6 y7 y8 => J 9 (y0, y1, y2, y3, y4, y5, y6, y7, y8, ())) a0 a1 a2 := fun _ _ _ _ => by kernel_rfl
theorem s5_7 : ∀ J x0 x1 x2 x3 x4, seg (tabL tab5) F5 (afOf Go.Proofs.Try.prog 5) J 7 (x0, x1, x2, x3, x4, ()) = law26_ChannelFirst_c7 (fun y0 y1 y2 y3 y4 => J 7 (y0, y1, y2, y3, y4, ())) (fun y0 y1 y2 y3 y4 y5 y6 y7 y8 => J 9 (y0, y1, y2, y3, y4, y5, y6, y7, y8, ())) x0 x1 x2 x3 x4 := fun _ _ _ _ _ _ => by kernel_rfl
theorem s5_9 : ∀ J x0 x1 x2 x3 x4 x5 x6 x7 x8, seg (tabL tab5) F5 (afOf Go.Proofs.Try.prog 5) J 9 (x0, x1, x2, x3, x4, x5, x6, x7, x8, ()) = law26_ChannelFirst_c9 (fun y0 y1 y2 y3 y4 => J 7 (y0, y1, y2, y3, y4, ())) (fun y0 y1 y2 y3 y4 y5 y6 y7 y8 => J 9 (y0, y1, y2, y3, y4, y5, y6, y7, y8, ())) x0 x1 x2 x3 x4 x5 x6 x7 x8 := fun _ _ _ _ _ _ _ _ _ _ => by kernel_rfl
theorem i5 : ∀ n, law26_ChannelFirst_i7 n = (fun y0 y1 y2 y3 y4 => (iter (tabL tab5) F5 (afOf Go.Proofs.Try.prog 5) n) 7 (y0, y1, y2, y3, y4, ())) ∧ law26_ChannelFirst_i9 n = (fun y0 y1 y2 y3 y4 y5 y6 y7 y8 => (iter (tabL tab5) F5 (afOf Go.Proofs.Try.prog 5) n) 9 (y0, y1, y2, y3, y4, y5, y6, y7, y8, ()))
  | 0 => ⟨rfl, rfl⟩
  | n + 1 => by
    obtain ⟨h7, h9⟩ := i5 n
    exact ⟨funext fun x0 => funext fun x1 => funext fun x2 => funext fun x3 => funext fun x4 => ((s5_7 _ x0 x1 x2 x3 x4).trans (by show _ = law26_ChannelFirst_c7 (law26_ChannelFirst_i7 n) (law26_ChannelFirst_i9 n) x0 x1 x2 x3 x4; rw [h7, h9]; try rfl)).symm, funext fun x0 => funext fun x1 => funext fun x2 => funext fun x3 => funext fun x4 => funext fun x5 => funext fun x6 => funext fun x7 => funext fun x8 => ((s5_9 _ x0 x1 x2 x3 x4 x5 x6 x7 x8).trans (by show _ = law26_ChannelFirst_c9 (law26_ChannelFirst_i7 n) (law26_ChannelFirst_i9 n) x0 x1 x2 x3 x4 x5 x6 x7 x8; rw [h7, h9]; try rfl)).symm⟩
theorem cb5 : callable Go.Proofs.Try.prog 5 = true := by kernel_rfl
theorem tok5 : TabOK Go.Proofs.Try.prog tab5 := ⟨ok28, cb28, ok27, cb27, ok17, cb17, ok22p, cb22, ok29, cb29, ok26, cb26, ok30, cb30, trivial⟩
theorem ok5 : con5.ok Go.Proofs.Try.prog 5 := fun a r h => by
  obtain ⟨h7, h9⟩ := i5 fuel
  refine fun_spec (f := F5) (tabL_ok tok5) (tabL_cb tok5) (by kernel_rfl) comp5 fuel (a := a) ((s5 _ a.1 a.2.1 a.2.2.1).trans ?_)
  have h : law26_ChannelFirst_c (law26_ChannelFirst_i7 fuel) (law26_ChannelFirst_i9 fuel) a.1 a.2.1 a.2.2.1 = some r := h
  rw [h7, h9] at h
  exact h
/- tailwater/tailwaterlaw26.ChannelOnce -/
def con7 : TCon := ⟨[.c (.int .i64), .a [.int .u8, .int .i64, .int .i64, .int .i64, .int .i64, .int .i64, .int .i64, .int .i64, .int .i64, .int .i64]], [.c (.p (.bool))], fun a => law26_ChannelOnce a.1 a.2.1⟩
def tab7 : List (Nat × TCon) := [(28, con28), (24, con24), (22, con22p), (29, con29), (17, con17), (19, con19), (21, con21)]
def F7 : TFun := ⟨[], [], con7.args, con7.res, List.replicate 4 (.c .any) ++ [.c (.p (.bool))] ++ List.replicate 89 (.c .any)⟩
theorem comp7 : compFun Go.Proofs.Try.prog 7 = some (afOf Go.Proofs.Try.prog 7) := by kernel_rfl
theorem s7 : ∀ J a0 a1, seg0 (tabL tab7) F7 (afOf Go.Proofs.Try.prog 7) J (a0, a1, ()) = law26_ChannelOnce a0 a1 := fun _ _ _ => by kernel_rfl
theorem cb7 : callable Go.Proofs.Try.prog 7 = true := by kernel_rfl
theorem tok7 : TabOK Go.Proofs.Try.prog tab7 := ⟨ok28, cb28, ok24, cb24, ok22p, cb22, ok29, cb29, ok17, cb17, ok19, cb19, ok21, cb21, trivial⟩
theorem ok7 : con7.ok Go.Proofs.Try.prog 7 := fun a r h => fun_spec (f := F7) (tabL_ok tok7) (tabL_cb tok7) (by kernel_rfl) comp7 0 (a := a) ((s7 _ a.1 a.2.1).trans h)
/- tailwater/tailwaterlaw26.ChannelLeft -/
def con8 : TCon := ⟨[.a [.int .i64, .sl [.int .u8, .int .i64, .int .i64, .int .i64, .int .i64, .int .i64, .int .i64, .int .i64, .int .i64, .int .i64]], .a [.int .u8, .int .i64, .int .i64, .int .i64, .int .i64, .int .i64, .int .i64, .int .i64, .int .i64, .int .i64]], [.c (.p (.bool))], fun a => law26_ChannelLeft a.1 a.2.1⟩
def tab8 : List (Nat × TCon) := [(28, con28), (15, con15), (27, con27), (19, con19), (17, con17), (30, con30), (22, con22p), (29, con29)]
def F8 : TFun := ⟨[9], [(9, List.replicate 2 (.c .any) ++ [.boxN 24 2 [.p (.int .i64), .p (.sl [.int .u8, .int .i64, .int .i64, .int .i64, .int .i64, .int .i64, .int .i64, .int .i64, .int .i64, .int .i64])]] ++ [.boxN 35 10 [.p (.int .u8), .p (.int .i64), .p (.int .i64), .p (.int .i64), .p (.int .i64), .p (.int .i64), .p (.int .i64), .p (.int .i64), .p (.int .i64), .p (.int .i64)]] ++ List.replicate 1 (.c .any) ++ [.c (.p (.bool))] ++ [.c (.p (.int .i64))] ++ List.replicate 79 (.c .any))], con8.args, con8.res, List.replicate 4 (.c .any) ++ [.c (.p (.bool))] ++ List.replicate 81 (.c .any)⟩
theorem comp8 : compFun Go.Proofs.Try.prog 8 = some (afOf Go.Proofs.Try.prog 8) := by kernel_rfl
theorem s8 : ∀ J a0 a1, seg0 (tabL tab8) F8 (afOf Go.Proofs.Try.prog 8) J (a0, a1, ()) = law26_ChannelLeft_c (fun y0 y1 y2 y3 y4 y5 y6 y7 y8 y9 y10 y11 y12 y13 => J 9 (y0, y1, y2, y3, y4, y5, y6, y7, y8, y9, y10, y11, y12, y13, ())) a0 a1 := fun _ _ _ => by kernel_rfl
theorem s8_9 : ∀ J x0 x1 x2 x3 x4 x5 x6 x7 x8 x9 x10 x11 x12 x13, seg (tabL tab8) F8 (afOf Go.Proofs.Try.prog 8) J 9 (x0, x1, x2, x3, x4, x5, x6, x7, x8, x9, x10, x11, x12, x13, ()) = law26_ChannelLeft_c9 (fun y0 y1 y2 y3 y4 y5 y6 y7 y8 y9 y10 y11 y12 y13 => J 9 (y0, y1, y2, y3, y4, y5, y6, y7, y8, y9, y10, y11, y12, y13, ())) x0 x1 x2 x3 x4 x5 x6 x7 x8 x9 x10 x11 x12 x13 := fun _ _ _ _ _ _ _ _ _ _ _ _ _ _ _ => by kernel_rfl
theorem i8 : ∀ n, law26_ChannelLeft_i9 n = (fun y0 y1 y2 y3 y4 y5 y6 y7 y8 y9 y10 y11 y12 y13 => (iter (tabL tab8) F8 (afOf Go.Proofs.Try.prog 8) n) 9 (y0, y1, y2, y3, y4, y5, y6, y7, y8, y9, y10, y11, y12, y13, ()))
  | 0 => rfl
  | n + 1 => by
    obtain h9 := i8 n
    exact funext fun x0 => funext fun x1 => funext fun x2 => funext fun x3 => funext fun x4 => funext fun x5 => funext fun x6 => funext fun x7 => funext fun x8 => funext fun x9 => funext fun x10 => funext fun x11 => funext fun x12 => funext fun x13 => ((s8_9 _ x0 x1 x2 x3 x4 x5 x6 x7 x8 x9 x10 x11 x12 x13).trans (by show _ = law26_ChannelLeft_c9 (law26_ChannelLeft_i9 n) x0 x1 x2 x3 x4 x5 x6 x7 x8 x9 x10 x11 x12 x13; rw [h9]; try rfl)).symm
theorem cb8 : callable Go.Proofs.Try.prog 8 = true := by kernel_rfl
theorem tok8 : TabOK Go.Proofs.Try.prog tab8 := ⟨ok28, cb28, ok15, cb15, ok27, cb27, ok19, cb19, ok17, cb17, ok30, cb30, ok22p, cb22, ok29, cb29, trivial⟩
theorem ok8 : con8.ok Go.Proofs.Try.prog 8 := fun a r h => by
  obtain h9 := i8 fuel
  refine fun_spec (f := F8) (tabL_ok tok8) (tabL_cb tok8) (by kernel_rfl) comp8 fuel (a := a) ((s8 _ a.1 a.2.1).trans ?_)
  have h : law26_ChannelLeft_c (law26_ChannelLeft_i9 fuel) a.1 a.2.1 = some r := h
  rw [h9] at h
  exact h
end Tw
