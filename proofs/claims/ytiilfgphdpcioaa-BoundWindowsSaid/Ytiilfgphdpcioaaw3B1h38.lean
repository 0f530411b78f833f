import Derived.Test.YtiilfgphdpcioaaAbsB6
import Derived.Test.Ytiilfgphdpcioaaw3A
import Derived.Test.YtiilfgphdpcioaaHandB
import Derived.Test.YtiilfgphdpcioaaProg
import Derived.Test.Ytiilfgphdpcioaaw3B0
/- Contracts of functions, checked by the kernel. -/
set_option linter.unusedVariables false
namespace Tg
open Go.Abs
/- tailwater/tailwaterref04.Sizes -/
def con38 : TCon := ⟨[.c (.sl [.int .u8, .int .i64, .int .i64, .int .i64, .int .i64])], [.c (.s 3 1 [.int .i64]), .c (.s 3 1 [.int .i64]), .c (.p (.bool))], fun a => ref04_Sizes a.1⟩
def tab38 : List (Nat × TCon) := [(43, con43), (44, con44)]
def F38 : TFun := ⟨[11, 2], [(2, [.c (.p (.sl [.int .u8, .int .i64, .int .i64, .int .i64, .int .i64]))] ++ List.replicate 4 (.c .any) ++ [.c (.rowN 3 1 [.int .i64])] ++ [.c (.rowN 3 1 [.int .i64])] ++ List.replicate 95 (.c .any)), (4, [.c (.p (.sl [.int .u8, .int .i64, .int .i64, .int .i64, .int .i64]))] ++ List.replicate 4 (.c .any) ++ [.c (.rowN 3 1 [.int .i64])] ++ [.c (.rowN 3 1 [.int .i64])] ++ [.c (.p (.int .i64))] ++ List.replicate 94 (.c .any)), (11, [.c (.p (.sl [.int .u8, .int .i64, .int .i64, .int .i64, .int .i64]))] ++ List.replicate 4 (.c .any) ++ [.c (.rowN 3 1 [.int .i64])] ++ [.c (.rowN 3 1 [.int .i64])] ++ [.c (.p (.int .i64))] ++ [.c (.p (.int .i64))] ++ [.c (.p (.int .i64))] ++ [.c (.p (.int .i64))] ++ [.c (.p (.int .i64))] ++ List.replicate 90 (.c .any))], con38.args, con38.res, List.replicate 2 (.c .any) ++ [.c (.rowN 3 1 [.int .i64])] ++ [.c (.rowN 3 1 [.int .i64])] ++ [.c (.p (.bool))] ++ List.replicate 97 (.c .any), [], [], 0⟩
theorem comp38 : compFun Go.Proofs.Try.prog 38 = some (afOf Go.Proofs.Try.prog 38) := by kernel_rfl
theorem s38 : ∀ J a0, seg0 (tabL tab38) Go.Proofs.Try.prog F38 (afOf Go.Proofs.Try.prog 38) J (a0, ()) = ref04_Sizes_c (fun y0 y1 y2 => J 2 (y0, y1, y2, ())) (fun y0 y1 y2 y3 => J 4 (y0, y1, y2, y3, ())) (fun y0 y1 y2 y3 y4 y5 y6 y7 => J 11 (y0, y1, y2, y3, y4, y5, y6, y7, ())) a0 := fun _ _ => by kernel_rfl
theorem s38_2 : ∀ J x0 x1 x2, seg (tabL tab38) Go.Proofs.Try.prog F38 (afOf Go.Proofs.Try.prog 38) J 2 (x0, x1, x2, ()) = ref04_Sizes_c2 (fun y0 y1 y2 => J 2 (y0, y1, y2, ())) (fun y0 y1 y2 y3 => J 4 (y0, y1, y2, y3, ())) (fun y0 y1 y2 y3 y4 y5 y6 y7 => J 11 (y0, y1, y2, y3, y4, y5, y6, y7, ())) x0 x1 x2 := fun _ _ _ _ => by kernel_rfl
theorem s38_4 : ∀ J x0 x1 x2 x3, seg (tabL tab38) Go.Proofs.Try.prog F38 (afOf Go.Proofs.Try.prog 38) J 4 (x0, x1, x2, x3, ()) = ref04_Sizes_c4 (fun y0 y1 y2 => J 2 (y0, y1, y2, ())) (fun y0 y1 y2 y3 => J 4 (y0, y1, y2, y3, ())) (fun y0 y1 y2 y3 y4 y5 y6 y7 => J 11 (y0, y1, y2, y3, y4, y5, y6, y7, ())) x0 x1 x2 x3 := fun _ _ _ _ _ => by kernel_rfl
theorem s38_11 : ∀ J x0 x1 x2 x3 x4 x5 x6 x7, seg (tabL tab38) Go.Proofs.Try.prog F38 (afOf Go.Proofs.Try.prog 38) J 11 (x0, x1, x2, x3, x4, x5, x6, x7, ()) = ref04_Sizes_c11 (fun y0 y1 y2 => J 2 (y0, y1, y2, ())) (fun y0 y1 y2 y3 => J 4 (y0, y1, y2, y3, ())) (fun y0 y1 y2 y3 y4 y5 y6 y7 => J 11 (y0, y1, y2, y3, y4, y5, y6, y7, ())) x0 x1 x2 x3 x4 x5 x6 x7 := fun _ _ _ _ _ _ _ _ _ => by kernel_rfl
theorem i38 : ∀ n, ref04_Sizes_i2 n = (fun y0 y1 y2 => (iter (tabL tab38) Go.Proofs.Try.prog F38 (afOf Go.Proofs.Try.prog 38) n) 2 (y0, y1, y2, ())) ∧ ref04_Sizes_i4 n = (fun y0 y1 y2 y3 => (iter (tabL tab38) Go.Proofs.Try.prog F38 (afOf Go.Proofs.Try.prog 38) n) 4 (y0, y1, y2, y3, ())) ∧ ref04_Sizes_i11 n = (fun y0 y1 y2 y3 y4 y5 y6 y7 => (iter (tabL tab38) Go.Proofs.Try.prog F38 (afOf Go.Proofs.Try.prog 38) n) 11 (y0, y1, y2, y3, y4, y5, y6, y7, ()))
  | 0 => ⟨rfl, rfl, rfl⟩
  | n + 1 => by
    obtain ⟨h2, h4, h11⟩ := i38 n
    exact ⟨funext fun x0 => funext fun x1 => funext fun x2 => ((s38_2 _ x0 x1 x2).trans (by show _ = ref04_Sizes_c2 (ref04_Sizes_i2 n) (ref04_Sizes_i4 n) (ref04_Sizes_i11 n) x0 x1 x2; rw [h2, h4, h11]; try rfl)).symm, funext fun x0 => funext fun x1 => funext fun x2 => funext fun x3 => ((s38_4 _ x0 x1 x2 x3).trans (by show _ = ref04_Sizes_c4 (ref04_Sizes_i2 n) (ref04_Sizes_i4 n) (ref04_Sizes_i11 n) x0 x1 x2 x3; rw [h2, h4, h11]; try rfl)).symm, funext fun x0 => funext fun x1 => funext fun x2 => funext fun x3 => funext fun x4 => funext fun x5 => funext fun x6 => funext fun x7 => ((s38_11 _ x0 x1 x2 x3 x4 x5 x6 x7).trans (by show _ = ref04_Sizes_c11 (ref04_Sizes_i2 n) (ref04_Sizes_i4 n) (ref04_Sizes_i11 n) x0 x1 x2 x3 x4 x5 x6 x7; rw [h2, h4, h11]; try rfl)).symm⟩
theorem cb38 : callable Go.Proofs.Try.prog 38 = true := by kernel_rfl
theorem tok38 : TabOK Go.Proofs.Try.prog tab38 := ⟨ok43, cb43, ok44, cb44, trivial⟩
theorem ok38 : con38.ok Go.Proofs.Try.prog 38 := fun a r h => by
  obtain ⟨h2, h4, h11⟩ := i38 fuel
  refine fun_spec (f := F38) (tabL_ok tok38) (tabL_cb tok38) (by kernel_rfl) comp38 fuel (a := a) ((s38 _ a.1).trans ?_)
  have h : ref04_Sizes_c (ref04_Sizes_i2 fuel) (ref04_Sizes_i4 fuel) (ref04_Sizes_i11 fuel) a.1 = some r := h
  rw [h2, h4, h11] at h
  exact h
def con38p : TCon := ⟨[.c (.sl [.int .u8, .int .i64, .int .i64, .int .i64, .int .i64])], [.c (.p (.sl [.int .i64])), .c (.p (.sl [.int .i64])), .c (.p (.bool))], fun a => ref04_Sizes a.1⟩
theorem ok38p : con38p.ok Go.Proofs.Try.prog 38 := fun a r h => TCon.frz (c := con38) ok38 rfl a r h
end Tg
