import Derived.Test.YtiilfgphdpcioaaAbsB6
import Derived.Test.Ytiilfgphdpcioaaw3A
import Derived.Test.YtiilfgphdpcioaaHandB
import Derived.Test.YtiilfgphdpcioaaProg
import Derived.Test.Ytiilfgphdpcioaaw3B0
/- Contracts of functions, checked by the kernel. -/
set_option linter.unusedVariables false
namespace Tg
open Go.Abs
/- tailwater/slide.All -/
def con15 : TCon := ⟨[.c (.int .i64), .c (.int .i64), .c (.int .i64)], [.c (.s 43 2 [.int .i64, .int .i64]), .c (.p (.int .i64))], fun a => slide_All a.1 a.2.1 a.2.2.1⟩
def tab15 : List (Nat × TCon) := [(14, con14)]
def F15 : TFun := ⟨[10], [(10, List.replicate 6 (.c .any) ++ [.c (.nil)] ++ List.replicate 3 (.c .any) ++ [.c (.rowN 43 2 [.int .i64, .int .i64])] ++ List.replicate 59 (.c .any)), (12, [.c (.p (.int .i64))] ++ [.c (.p (.int .i64))] ++ [.c (.p (.int .i64))] ++ List.replicate 3 (.c .any) ++ [.c (.nil)] ++ List.replicate 3 (.c .any) ++ [.c (.rowN 43 2 [.int .i64, .int .i64])] ++ [.c (.p (.int .i64))] ++ List.replicate 58 (.c .any)), (24, [.c (.yl)] ++ [.boxN 34 1 [.rowN 43 2 [.int .i64, .int .i64]]] ++ List.replicate 1 (.c .any) ++ [.c (.p (.int .i64))] ++ List.replicate 15 (.c .any) ++ [.c (.k 0)] ++ List.replicate 6 (.c .any) ++ [.c (.nil)] ++ List.replicate 5 (.c .any) ++ [.boxN 34 1 [.rowN 43 2 [.int .i64, .int .i64]]] ++ List.replicate 57 (.c .any))], con15.args, con15.res, List.replicate 6 (.c .any) ++ [.c (.rowN 43 2 [.int .i64, .int .i64])] ++ [.c (.p (.int .i64))] ++ List.replicate 62 (.c .any), [(29, [4294967295]), (22, [32]), (19, [23])], [(24, [1, 70])], 8⟩
theorem comp15 : compFun Go.Proofs.Try.prog 15 = some (afOf Go.Proofs.Try.prog 15) := by kernel_rfl
theorem s15 : ∀ J a0 a1 a2, seg0 (tabL tab15) Go.Proofs.Try.prog F15 (afOf Go.Proofs.Try.prog 15) J (a0, a1, a2, ()) = slide_All_c (fun y0 => J 10 (y0, ())) (fun y0 y1 y2 y3 y4 => J 12 (y0, y1, y2, y3, y4, ())) (fun y0 y1 y2 => J 24 (y0, y1, y2, ())) a0 a1 a2 := fun _ _ _ _ => by kernel_rfl
theorem s15_10 : ∀ J x0, seg (tabL tab15) Go.Proofs.Try.prog F15 (afOf Go.Proofs.Try.prog 15) J 10 (x0, ()) = slide_All_c10 (fun y0 => J 10 (y0, ())) (fun y0 y1 y2 y3 y4 => J 12 (y0, y1, y2, y3, y4, ())) (fun y0 y1 y2 => J 24 (y0, y1, y2, ())) x0 := fun _ _ => by kernel_rfl
theorem s15_12 : ∀ J x0 x1 x2 x3 x4, seg (tabL tab15) Go.Proofs.Try.prog F15 (afOf Go.Proofs.Try.prog 15) J 12 (x0, x1, x2, x3, x4, ()) = slide_All_c12 (fun y0 => J 10 (y0, ())) (fun y0 y1 y2 y3 y4 => J 12 (y0, y1, y2, y3, y4, ())) (fun y0 y1 y2 => J 24 (y0, y1, y2, ())) x0 x1 x2 x3 x4 := fun _ _ _ _ _ _ => by kernel_rfl
theorem s15_24 : ∀ J x0 x1 x2, seg (tabL tab15) Go.Proofs.Try.prog F15 (afOf Go.Proofs.Try.prog 15) J 24 (x0, x1, x2, ()) = slide_All_c24 (fun y0 => J 10 (y0, ())) (fun y0 y1 y2 y3 y4 => J 12 (y0, y1, y2, y3, y4, ())) (fun y0 y1 y2 => J 24 (y0, y1, y2, ())) x0 x1 x2 := fun _ _ _ _ => by kernel_rfl
theorem i15 : ∀ n, slide_All_i10 n = (fun y0 => (iter (tabL tab15) Go.Proofs.Try.prog F15 (afOf Go.Proofs.Try.prog 15) n) 10 (y0, ())) ∧ slide_All_i12 n = (fun y0 y1 y2 y3 y4 => (iter (tabL tab15) Go.Proofs.Try.prog F15 (afOf Go.Proofs.Try.prog 15) n) 12 (y0, y1, y2, y3, y4, ())) ∧ slide_All_i24 n = (fun y0 y1 y2 => (iter (tabL tab15) Go.Proofs.Try.prog F15 (afOf Go.Proofs.Try.prog 15) n) 24 (y0, y1, y2, ()))
  | 0 => ⟨rfl, rfl, rfl⟩
  | n + 1 => by
    obtain ⟨h10, h12, h24⟩ := i15 n
    exact ⟨funext fun x0 => ((s15_10 _ x0).trans (by show _ = slide_All_c10 (slide_All_i10 n) (slide_All_i12 n) (slide_All_i24 n) x0; rw [h10, h12, h24]; try rfl)).symm, funext fun x0 => funext fun x1 => funext fun x2 => funext fun x3 => funext fun x4 => ((s15_12 _ x0 x1 x2 x3 x4).trans (by show _ = slide_All_c12 (slide_All_i10 n) (slide_All_i12 n) (slide_All_i24 n) x0 x1 x2 x3 x4; rw [h10, h12, h24]; try rfl)).symm, funext fun x0 => funext fun x1 => funext fun x2 => ((s15_24 _ x0 x1 x2).trans (by show _ = slide_All_c24 (slide_All_i10 n) (slide_All_i12 n) (slide_All_i24 n) x0 x1 x2; rw [h10, h12, h24]; try rfl)).symm⟩
theorem cb15 : callable Go.Proofs.Try.prog 15 = true := by kernel_rfl
theorem tok15 : TabOK Go.Proofs.Try.prog tab15 := ⟨ok14, cb14, trivial⟩
theorem ok15 : con15.ok Go.Proofs.Try.prog 15 := fun a r h => by
  obtain ⟨h10, h12, h24⟩ := i15 fuel
  refine fun_spec (f := F15) (tabL_ok tok15) (tabL_cb tok15) (by kernel_rfl) comp15 fuel (a := a) ((s15 _ a.1 a.2.1 a.2.2.1).trans ?_)
  have h : slide_All_c (slide_All_i10 fuel) (slide_All_i12 fuel) (slide_All_i24 fuel) a.1 a.2.1 a.2.2.1 = some r := h
  rw [h10, h12, h24] at h
  exact h
def con15p : TCon := ⟨[.c (.int .i64), .c (.int .i64), .c (.int .i64)], [.c (.p (.sl [.int .i64, .int .i64])), .c (.p (.int .i64))], fun a => slide_All a.1 a.2.1 a.2.2.1⟩
theorem ok15p : con15p.ok Go.Proofs.Try.prog 15 := fun a r h => TCon.frz (c := con15) ok15 rfl a r h
end Tg
