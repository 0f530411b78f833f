/- The contracts of the functions, checked by the kernel. -/
import Derived.Test.YtfdpoliibpelaaaAbsFreeze
import Derived.Test.YtfdpoliibpelaaaAbsCloneT
import Derived.Test.YtfdpoliibpelaaaMaA
import Derived.Test.YtfdpoliibpelaaaProg
set_option linter.unusedVariables false
namespace Tm
open Go.Abs
def ctab : List (Go.FuncId × Nat × Nat × Nat × List AV) := [(50, 2, 1, 8, [.p (.int .i64 0)])]
theorem ctab_ok : ∀ q ∈ ctab, compFun Go.Proofs.Try.prog q.1 = some (cloneAF q.2.1 q.2.2.1 q.2.2.2.1 q.2.2.2.2) ∧ q.2.2.2.2.length = q.2.2.1 ∧ 0 < q.2.2.1 := fun q h => by
  simp only [ctab, List.mem_cons, List.not_mem_nil, or_false] at h
  subst h
  exact ⟨by kernel_rfl, rfl, by decide⟩
def con36 : TCon := ⟨[], [.c (.p .bool)], fun _ => law31_alive⟩
theorem cb36 : callable Go.Proofs.Try.prog 36 = true := by kernel_rfl
theorem run36 : runF (cloneK ctab) (compFun Go.Proofs.Try.prog) (callable Go.Proofs.Try.prog) 200 40 36 [] = some [.c (.c (.bool true))] := by kernel_rfl
theorem ok36 : con36.ok Go.Proofs.Try.prog 36 := fun a r h => by
  obtain rfl := Option.some.inj h
  exact (run_sound (cloneK_sound ctab_ok) (fun f af h => h) (fun f h => h) 200 40).1 36 [] _ run36
/- slices.Clone[[]int64,int64] -/
def con50 : TCon := cloneCon 2 1 8 [.int .i64]
theorem cb50 : callable Go.Proofs.Try.prog 50 = true := by kernel_rfl
theorem ok50 : con50.ok Go.Proofs.Try.prog 50 := cloneCon_ok (zero := [.p (.int .i64 0)]) (by kernel_rfl) rfl (by decide) rfl
def con50p : TCon := ⟨[.c (.sl [.int .i64])], [.c (.p (.sl [.int .i64]))], con50.fn⟩
theorem ok50p : con50p.ok Go.Proofs.Try.prog 50 := fun a r h => TCon.frz (c := con50) ok50 rfl a r h
/- tailwater/message.isTime -/
def con55 : TCon := ⟨[.c (.int .i64)], [.c (.p (.bool))], fun a => message_isTime a.1⟩
def tab55 : List (Nat × TCon) := []
def F55 : TFun := ⟨[], [], con55.args, con55.res, List.replicate 2 (.c .any) ++ [.c (.p (.bool))] ++ List.replicate 6 (.c .any)⟩
theorem comp55 : compFun Go.Proofs.Try.prog 55 = some (afOf Go.Proofs.Try.prog 55) := by kernel_rfl
theorem s55 : ∀ J a0, seg0 (tabL tab55) F55 (afOf Go.Proofs.Try.prog 55) J (a0, ()) = message_isTime a0 := fun _ _ => by kernel_rfl
theorem cb55 : callable Go.Proofs.Try.prog 55 = true := by kernel_rfl
theorem tok55 : TabOK Go.Proofs.Try.prog tab55 := trivial
theorem ok55 : con55.ok Go.Proofs.Try.prog 55 := fun a r h => fun_spec (f := F55) (tabL_ok tok55) (tabL_cb tok55) (by kernel_rfl) comp55 0 (a := a) ((s55 _ a.1).trans h)
/- tailwater/message.isMark -/
def con56 : TCon := ⟨[.c (.int .i64)], [.c (.p (.bool))], fun a => message_isMark a.1⟩
def tab56 : List (Nat × TCon) := [(55, con55)]
def F56 : TFun := ⟨[], [], con56.args, con56.res, List.replicate 2 (.c .any) ++ [.c (.p (.bool))] ++ List.replicate 6 (.c .any)⟩
theorem comp56 : compFun Go.Proofs.Try.prog 56 = some (afOf Go.Proofs.Try.prog 56) := by kernel_rfl
theorem s56 : ∀ J a0, seg0 (tabL tab56) F56 (afOf Go.Proofs.Try.prog 56) J (a0, ()) = message_isMark a0 := fun _ _ => by kernel_rfl
theorem cb56 : callable Go.Proofs.Try.prog 56 = true := by kernel_rfl
theorem tok56 : TabOK Go.Proofs.Try.prog tab56 := ⟨ok55, cb55, trivial⟩
theorem ok56 : con56.ok Go.Proofs.Try.prog 56 := fun a r h => fun_spec (f := F56) (tabL_ok tok56) (tabL_cb tok56) (by kernel_rfl) comp56 0 (a := a) ((s56 _ a.1).trans h)
/- tailwater/message.Check -/
def con46 : TCon := ⟨[.a [.int .u8, .int .i64, .int .i64, .int .i64, .int .i64, .int .i64, .int .i64, .int .i64, .int .i64, .int .i64]], [.c (.p (.int .i64))], fun a => message_Check a.1⟩
def tab46 : List (Nat × TCon) := [(55, con55), (56, con56)]
def F46 : TFun := ⟨[5, 3], [(3, List.replicate 1 (.c .any) ++ [.boxN 35 10 [.p (.int .u8), .p (.int .i64), .p (.int .i64), .p (.int .i64), .p (.int .i64), .p (.int .i64), .p (.int .i64), .p (.int .i64), .p (.int .i64), .p (.int .i64)]] ++ List.replicate 1 (.c .any) ++ [.c (.p (.bool))] ++ [.boxN 35 10 [.p (.int .u8), .p (.int .i64), .p (.int .i64), .p (.int .i64), .p (.int .i64), .p (.int .i64), .p (.int .i64), .p (.int .i64), .p (.int .i64), .p (.int .i64)]] ++ List.replicate 54 (.c .any)), (5, List.replicate 1 (.c .any) ++ [.boxN 35 10 [.p (.int .u8), .p (.int .i64), .p (.int .i64), .p (.int .i64), .p (.int .i64), .p (.int .i64), .p (.int .i64), .p (.int .i64), .p (.int .i64), .p (.int .i64)]] ++ List.replicate 1 (.c .any) ++ [.c (.p (.bool))] ++ [.boxN 35 10 [.p (.int .u8), .p (.int .i64), .p (.int .i64), .p (.int .i64), .p (.int .i64), .p (.int .i64), .p (.int .i64), .p (.int .i64), .p (.int .i64), .p (.int .i64)]] ++ List.replicate 5 (.c .any) ++ [.c (.p (.int .u8))] ++ [.c (.p (.bool))] ++ List.replicate 47 (.c .any))], con46.args, con46.res, List.replicate 2 (.c .any) ++ [.c (.p (.int .i64))] ++ List.replicate 56 (.c .any)⟩
theorem comp46 : compFun Go.Proofs.Try.prog 46 = some (afOf Go.Proofs.Try.prog 46) := by kernel_rfl
theorem s46 : ∀ J a0, seg0 (tabL tab46) F46 (afOf Go.Proofs.Try.prog 46) J (a0, ()) = message_Check_c (fun y0 y1 y2 y3 y4 y5 y6 y7 y8 y9 y10 y11 y12 y13 y14 y15 y16 y17 y18 y19 y20 => J 3 (y0, y1, y2, y3, y4, y5, y6, y7, y8, y9, y10, y11, y12, y13, y14, y15, y16, y17, y18, y19, y20, ())) (fun y0 y1 y2 y3 y4 y5 y6 y7 y8 y9 y10 y11 y12 y13 y14 y15 y16 y17 y18 y19 y20 y21 y22 => J 5 (y0, y1, y2, y3, y4, y5, y6, y7, y8, y9, y10, y11, y12, y13, y14, y15, y16, y17, y18, y19, y20, y21, y22, ())) a0 := fun _ _ => by kernel_rfl
theorem s46_3 : ∀ J x0 x1 x2 x3 x4 x5 x6 x7 x8 x9 x10 x11 x12 x13 x14 x15 x16 x17 x18 x19 x20, seg (tabL tab46) F46 (afOf Go.Proofs.Try.prog 46) J 3 (x0, x1, x2, x3, x4, x5, x6, x7, x8, x9, x10, x11, x12, x13, x14, x15, x16, x17, x18, x19, x20, ()) = message_Check_c3 (fun y0 y1 y2 y3 y4 y5 y6 y7 y8 y9 y10 y11 y12 y13 y14 y15 y16 y17 y18 y19 y20 => J 3 (y0, y1, y2, y3, y4, y5, y6, y7, y8, y9, y10, y11, y12, y13, y14, y15, y16, y17, y18, y19, y20, ())) (fun y0 y1 y2 y3 y4 y5 y6 y7 y8 y9 y10 y11 y12 y13 y14 y15 y16 y17 y18 y19 y20 y21 y22 => J 5 (y0, y1, y2, y3, y4, y5, y6, y7, y8, y9, y10, y11, y12, y13, y14, y15, y16, y17, y18, y19, y20, y21, y22, ())) x0 x1 x2 x3 x4 x5 x6 x7 x8 x9 x10 x11 x12 x13 x14 x15 x16 x17 x18 x19 x20 := fun _ _ _ _ _ _ _ _ _ _ _ _ _ _ _ _ _ _ _ _ _ _ => by kernel_rfl
theorem s46_5 : ∀ J x0 x1 x2 x3 x4 x5 x6 x7 x8 x9 x10 x11 x12 x13 x14 x15 x16 x17 x18 x19 x20 x21 x22, seg (tabL tab46) F46 (afOf Go.Proofs.Try.prog 46) J 5 (x0, x1, x2, x3, x4, x5, x6, x7, x8, x9, x10, x11, x12, x13, x14, x15, x16, x17, x18, x19, x20, x21, x22, ()) = message_Check_c5 (fun y0 y1 y2 y3 y4 y5 y6 y7 y8 y9 y10 y11 y12 y13 y14 y15 y16 y17 y18 y19 y20 => J 3 (y0, y1, y2, y3, y4, y5, y6, y7, y8, y9, y10, y11, y12, y13, y14, y15, y16, y17, y18, y19, y20, ())) (fun y0 y1 y2 y3 y4 y5 y6 y7 y8 y9 y10 y11 y12 y13 y14 y15 y16 y17 y18 y19 y20 y21 y22 => J 5 (y0, y1, y2, y3, y4, y5, y6, y7, y8, y9, y10, y11, y12, y13, y14, y15, y16, y17, y18, y19, y20, y21, y22, ())) x0 x1 x2 x3 x4 x5 x6 x7 x8 x9 x10 x11 x12 x13 x14 x15 x16 x17 x18 x19 x20 x21 x22 := fun _ _ _ _ _ _ _ _ _ _ _ _ _ _ _ _ _ _ _ _ _ _ _ _ => by kernel_rfl
theorem i46 : ∀ n, message_Check_i3 n = (fun y0 y1 y2 y3 y4 y5 y6 y7 y8 y9 y10 y11 y12 y13 y14 y15 y16 y17 y18 y19 y20 => (iter (tabL tab46) F46 (afOf Go.Proofs.Try.prog 46) n) 3 (y0, y1, y2, y3, y4, y5, y6, y7, y8, y9, y10, y11, y12, y13, y14, y15, y16, y17, y18, y19, y20, ())) ∧ message_Check_i5 n = (fun y0 y1 y2 y3 y4 y5 y6 y7 y8 y9 y10 y11 y12 y13 y14 y15 y16 y17 y18 y19 y20 y21 y22 => (iter (tabL tab46) F46 (afOf Go.Proofs.Try.prog 46) n) 5 (y0, y1, y2, y3, y4, y5, y6, y7, y8, y9, y10, y11, y12, y13, y14, y15, y16, y17, y18, y19, y20, y21, y22, ()))
  | 0 => ⟨rfl, rfl⟩
  | n + 1 => by
    obtain ⟨h3, h5⟩ := i46 n
    exact ⟨funext fun x0 => funext fun x1 => funext fun x2 => funext fun x3 => funext fun x4 => funext fun x5 => funext fun x6 => funext fun x7 => funext fun x8 => funext fun x9 => funext fun x10 => funext fun x11 => funext fun x12 => funext fun x13 => funext fun x14 => funext fun x15 => funext fun x16 => funext fun x17 => funext fun x18 => funext fun x19 => funext fun x20 => ((s46_3 _ x0 x1 x2 x3 x4 x5 x6 x7 x8 x9 x10 x11 x12 x13 x14 x15 x16 x17 x18 x19 x20).trans (by show _ = message_Check_c3 (message_Check_i3 n) (message_Check_i5 n) x0 x1 x2 x3 x4 x5 x6 x7 x8 x9 x10 x11 x12 x13 x14 x15 x16 x17 x18 x19 x20; rw [h3, h5]; try rfl)).symm, funext fun x0 => funext fun x1 => funext fun x2 => funext fun x3 => funext fun x4 => funext fun x5 => funext fun x6 => funext fun x7 => funext fun x8 => funext fun x9 => funext fun x10 => funext fun x11 => funext fun x12 => funext fun x13 => funext fun x14 => funext fun x15 => funext fun x16 => funext fun x17 => funext fun x18 => funext fun x19 => funext fun x20 => funext fun x21 => funext fun x22 => ((s46_5 _ x0 x1 x2 x3 x4 x5 x6 x7 x8 x9 x10 x11 x12 x13 x14 x15 x16 x17 x18 x19 x20 x21 x22).trans (by show _ = message_Check_c5 (message_Check_i3 n) (message_Check_i5 n) x0 x1 x2 x3 x4 x5 x6 x7 x8 x9 x10 x11 x12 x13 x14 x15 x16 x17 x18 x19 x20 x21 x22; rw [h3, h5]; try rfl)).symm⟩
theorem cb46 : callable Go.Proofs.Try.prog 46 = true := by kernel_rfl
theorem tok46 : TabOK Go.Proofs.Try.prog tab46 := ⟨ok55, cb55, ok56, cb56, trivial⟩
theorem ok46 : con46.ok Go.Proofs.Try.prog 46 := fun a r h => by
  obtain ⟨h3, h5⟩ := i46 fuel
  refine fun_spec (f := F46) (tabL_ok tok46) (tabL_cb tok46) (by kernel_rfl) comp46 fuel (a := a) ((s46 _ a.1).trans ?_)
  have h : message_Check_c (message_Check_i3 fuel) (message_Check_i5 fuel) a.1 = some r := h
  rw [h3, h5] at h
  exact h
/- tailwater/marks.isMark -/
def con49 : TCon := ⟨[.c (.int .i64)], [.c (.p (.bool))], fun a => marks_isMark a.1⟩
def tab49 : List (Nat × TCon) := [(46, con46)]
def F49 : TFun := ⟨[], [], con49.args, con49.res, List.replicate 2 (.c .any) ++ [.c (.p (.bool))] ++ List.replicate 4 (.c .any)⟩
theorem comp49 : compFun Go.Proofs.Try.prog 49 = some (afOf Go.Proofs.Try.prog 49) := by kernel_rfl
theorem s49 : ∀ J a0, seg0 (tabL tab49) F49 (afOf Go.Proofs.Try.prog 49) J (a0, ()) = marks_isMark a0 := fun _ _ => by kernel_rfl
theorem cb49 : callable Go.Proofs.Try.prog 49 = true := by kernel_rfl
theorem tok49 : TabOK Go.Proofs.Try.prog tab49 := ⟨ok46, cb46, trivial⟩
theorem ok49 : con49.ok Go.Proofs.Try.prog 49 := fun a r h => fun_spec (f := F49) (tabL_ok tok49) (tabL_cb tok49) (by kernel_rfl) comp49 0 (a := a) ((s49 _ a.1).trans h)
/- tailwater/marks.Check -/
def con40 : TCon := ⟨[.c (.sl [.int .i64])], [.c (.p (.int .i64))], fun a => marks_Check a.1⟩
def tab40 : List (Nat × TCon) := [(49, con49)]
def F40 : TFun := ⟨[], [(6, List.replicate 13 (.c .any) ++ [.c (.p (.sl [.int .i64]))] ++ [.c (.p (.int .i64))] ++ [.c (.p (.int .i64))] ++ List.replicate 11 (.c .any))], con40.args, con40.res, List.replicate 2 (.c .any) ++ [.c (.p (.int .i64))] ++ List.replicate 24 (.c .any)⟩
theorem comp40 : compFun Go.Proofs.Try.prog 40 = some (afOf Go.Proofs.Try.prog 40) := by kernel_rfl
theorem s40 : ∀ J a0, seg0 (tabL tab40) F40 (afOf Go.Proofs.Try.prog 40) J (a0, ()) = marks_Check_c (fun y0 y1 y2 => J 6 (y0, y1, y2, ())) a0 := fun _ _ => by kernel_rfl
theorem s40_6 : ∀ J x0 x1 x2, seg (tabL tab40) F40 (afOf Go.Proofs.Try.prog 40) J 6 (x0, x1, x2, ()) = marks_Check_c6 (fun y0 y1 y2 => J 6 (y0, y1, y2, ())) x0 x1 x2 := fun _ _ _ _ => by kernel_rfl
theorem i40 : ∀ n, marks_Check_i6 n = (fun y0 y1 y2 => (iter (tabL tab40) F40 (afOf Go.Proofs.Try.prog 40) n) 6 (y0, y1, y2, ()))
  | 0 => rfl
  | n + 1 => by
    obtain h6 := i40 n
    exact funext fun x0 => funext fun x1 => funext fun x2 => ((s40_6 _ x0 x1 x2).trans (by show _ = marks_Check_c6 (marks_Check_i6 n) x0 x1 x2; rw [h6]; try rfl)).symm
theorem cb40 : callable Go.Proofs.Try.prog 40 = true := by kernel_rfl
theorem tok40 : TabOK Go.Proofs.Try.prog tab40 := ⟨ok49, cb49, trivial⟩
theorem ok40 : con40.ok Go.Proofs.Try.prog 40 := fun a r h => by
  obtain h6 := i40 fuel
  refine fun_spec (f := F40) (tabL_ok tok40) (tabL_cb tok40) (by kernel_rfl) comp40 fuel (a := a) ((s40 _ a.1).trans ?_)
  have h : marks_Check_c (marks_Check_i6 fuel) a.1 = some r := h
  rw [h6] at h
  exact h
/- slices.Min[[]int64,int64] -/
def con51 : TCon := ⟨[.c (.sl [.int .i64])], [.c (.p (.int .i64))], fun a => slices_Min___int64_int64_ a.1⟩
def tab51 : List (Nat × TCon) := []
def F51 : TFun := ⟨[1], [(1, [.c (.p (.sl [.int .i64]))] ++ List.replicate 24 (.c .any)), (6, [.c (.p (.sl [.int .i64]))] ++ List.replicate 2 (.c .any) ++ [.c (.p (.int .i64))] ++ [.c (.p (.int .i64))] ++ List.replicate 20 (.c .any))], con51.args, con51.res, List.replicate 2 (.c .any) ++ [.c (.p (.int .i64))] ++ List.replicate 22 (.c .any)⟩
theorem comp51 : compFun Go.Proofs.Try.prog 51 = some (afOf Go.Proofs.Try.prog 51) := by kernel_rfl
theorem s51 : ∀ J a0, seg0 (tabL tab51) F51 (afOf Go.Proofs.Try.prog 51) J (a0, ()) = slices_Min___int64_int64__c (fun y0 => J 1 (y0, ())) (fun y0 y1 y2 => J 6 (y0, y1, y2, ())) a0 := fun _ _ => by kernel_rfl
theorem s51_1 : ∀ J x0, seg (tabL tab51) F51 (afOf Go.Proofs.Try.prog 51) J 1 (x0, ()) = slices_Min___int64_int64__c1 (fun y0 => J 1 (y0, ())) (fun y0 y1 y2 => J 6 (y0, y1, y2, ())) x0 := fun _ _ => by kernel_rfl
theorem s51_6 : ∀ J x0 x1 x2, seg (tabL tab51) F51 (afOf Go.Proofs.Try.prog 51) J 6 (x0, x1, x2, ()) = slices_Min___int64_int64__c6 (fun y0 => J 1 (y0, ())) (fun y0 y1 y2 => J 6 (y0, y1, y2, ())) x0 x1 x2 := fun _ _ _ _ => by kernel_rfl
theorem i51 : ∀ n, slices_Min___int64_int64__i1 n = (fun y0 => (iter (tabL tab51) F51 (afOf Go.Proofs.Try.prog 51) n) 1 (y0, ())) ∧ slices_Min___int64_int64__i6 n = (fun y0 y1 y2 => (iter (tabL tab51) F51 (afOf Go.Proofs.Try.prog 51) n) 6 (y0, y1, y2, ()))
  | 0 => ⟨rfl, rfl⟩
  | n + 1 => by
    obtain ⟨h1, h6⟩ := i51 n
    exact ⟨funext fun x0 => ((s51_1 _ x0).trans (by show _ = slices_Min___int64_int64__c1 (slices_Min___int64_int64__i1 n) (slices_Min___int64_int64__i6 n) x0; rw [h1, h6]; try rfl)).symm, funext fun x0 => funext fun x1 => funext fun x2 => ((s51_6 _ x0 x1 x2).trans (by show _ = slices_Min___int64_int64__c6 (slices_Min___int64_int64__i1 n) (slices_Min___int64_int64__i6 n) x0 x1 x2; rw [h1, h6]; try rfl)).symm⟩
theorem cb51 : callable Go.Proofs.Try.prog 51 = true := by kernel_rfl
theorem tok51 : TabOK Go.Proofs.Try.prog tab51 := trivial
theorem ok51 : con51.ok Go.Proofs.Try.prog 51 := fun a r h => by
  obtain ⟨h1, h6⟩ := i51 fuel
  refine fun_spec (f := F51) (tabL_ok tok51) (tabL_cb tok51) (by kernel_rfl) comp51 fuel (a := a) ((s51 _ a.1).trans ?_)
  have h : slices_Min___int64_int64__c (slices_Min___int64_int64__i1 fuel) (slices_Min___int64_int64__i6 fuel) a.1 = some r := h
  rw [h1, h6] at h
  exact h
/- tailwater/marks.Least -/
def con38 : TCon := ⟨[.c (.sl [.int .i64])], [.c (.p (.int .i64)), .c (.p (.int .i64))], fun a => marks_Least a.1⟩
def tab38 : List (Nat × TCon) := [(40, con40), (51, con51)]
def F38 : TFun := ⟨[], [], con38.args, con38.res, List.replicate 2 (.c .any) ++ [.c (.p (.int .i64))] ++ [.c (.p (.int .i64))] ++ List.replicate 8 (.c .any)⟩
theorem comp38 : compFun Go.Proofs.Try.prog 38 = some (afOf Go.Proofs.Try.prog 38) := by kernel_rfl
theorem s38 : ∀ J a0, seg0 (tabL tab38) F38 (afOf Go.Proofs.Try.prog 38) J (a0, ()) = marks_Least a0 := fun _ _ => by kernel_rfl
theorem cb38 : callable Go.Proofs.Try.prog 38 = true := by kernel_rfl
theorem tok38 : TabOK Go.Proofs.Try.prog tab38 := ⟨ok40, cb40, ok51, cb51, trivial⟩
theorem ok38 : con38.ok Go.Proofs.Try.prog 38 := fun a r h => fun_spec (f := F38) (tabL_ok tok38) (tabL_cb tok38) (by kernel_rfl) comp38 0 (a := a) ((s38 _ a.1).trans h)
/- tailwater/marks.Raise -/
def con33 : TCon := ⟨[.c (.sl [.int .i64]), .c (.int .i64), .c (.int .i64)], [.c (.s 2 1 [.int .i64]), .c (.p (.bool)), .c (.p (.int .i64))], fun a => marks_Raise a.1 a.2.1 a.2.2.1⟩
def tab33 : List (Nat × TCon) := [(38, con38), (49, con49), (50, con50), (51, con51)]
def F33 : TFun := ⟨[], [], con33.args, con33.res, List.replicate 6 (.c .any) ++ [.c (.rowN 2 1 [.int .i64])] ++ [.c (.p (.bool))] ++ [.c (.p (.int .i64))] ++ List.replicate 38 (.c .any)⟩
theorem comp33 : compFun Go.Proofs.Try.prog 33 = some (afOf Go.Proofs.Try.prog 33) := by kernel_rfl
theorem s33 : ∀ J a0 a1 a2, seg0 (tabL tab33) F33 (afOf Go.Proofs.Try.prog 33) J (a0, a1, a2, ()) = marks_Raise a0 a1 a2 := fun _ _ _ _ => by kernel_rfl
theorem cb33 : callable Go.Proofs.Try.prog 33 = true := by kernel_rfl
theorem tok33 : TabOK Go.Proofs.Try.prog tab33 := ⟨ok38, cb38, ok49, cb49, ok50, cb50, ok51, cb51, trivial⟩
theorem ok33 : con33.ok Go.Proofs.Try.prog 33 := fun a r h => fun_spec (f := F33) (tabL_ok tok33) (tabL_cb tok33) (by kernel_rfl) comp33 0 (a := a) ((s33 _ a.1 a.2.1 a.2.2.1).trans h)
def con33p : TCon := ⟨[.c (.sl [.int .i64]), .c (.int .i64), .c (.int .i64)], [.c (.p (.sl [.int .i64])), .c (.p (.bool)), .c (.p (.int .i64))], fun a => marks_Raise a.1 a.2.1 a.2.2.1⟩
theorem ok33p : con33p.ok Go.Proofs.Try.prog 33 := fun a r h => TCon.frz (c := con33) ok33 rfl a r h
/- tailwater/tailwaterref25.Mark -/
def con39 : TCon := ⟨[.c (.int .i64)], [.c (.p (.bool))], fun a => ref25_Mark a.1⟩
def tab39 : List (Nat × TCon) := []
def F39 : TFun := ⟨[], [], con39.args, con39.res, List.replicate 2 (.c .any) ++ [.c (.p (.bool))] ++ List.replicate 10 (.c .any)⟩
theorem comp39 : compFun Go.Proofs.Try.prog 39 = some (afOf Go.Proofs.Try.prog 39) := by kernel_rfl
theorem s39 : ∀ J a0, seg0 (tabL tab39) F39 (afOf Go.Proofs.Try.prog 39) J (a0, ()) = ref25_Mark a0 := fun _ _ => by kernel_rfl
theorem cb39 : callable Go.Proofs.Try.prog 39 = true := by kernel_rfl
theorem tok39 : TabOK Go.Proofs.Try.prog tab39 := trivial
theorem ok39 : con39.ok Go.Proofs.Try.prog 39 := fun a r h => fun_spec (f := F39) (tabL_ok tok39) (tabL_cb tok39) (by kernel_rfl) comp39 0 (a := a) ((s39 _ a.1).trans h)
/- tailwater/tailwaterref31.Check -/
def con37 : TCon := ⟨[.c (.sl [.int .i64])], [.c (.p (.int .i64))], fun a => ref31_Check a.1⟩
def tab37 : List (Nat × TCon) := [(39, con39)]
def F37 : TFun := ⟨[], [(6, [.c (.p (.sl [.int .i64]))] ++ List.replicate 2 (.c .any) ++ [.c (.p (.int .i64))] ++ List.replicate 27 (.c .any))], con37.args, con37.res, List.replicate 2 (.c .any) ++ [.c (.p (.int .i64))] ++ List.replicate 28 (.c .any)⟩
theorem comp37 : compFun Go.Proofs.Try.prog 37 = some (afOf Go.Proofs.Try.prog 37) := by kernel_rfl
theorem s37 : ∀ J a0, seg0 (tabL tab37) F37 (afOf Go.Proofs.Try.prog 37) J (a0, ()) = ref31_Check_c (fun y0 y1 => J 6 (y0, y1, ())) a0 := fun _ _ => by kernel_rfl
theorem s37_6 : ∀ J x0 x1, seg (tabL tab37) F37 (afOf Go.Proofs.Try.prog 37) J 6 (x0, x1, ()) = ref31_Check_c6 (fun y0 y1 => J 6 (y0, y1, ())) x0 x1 := fun _ _ _ => by kernel_rfl
theorem i37 : ∀ n, ref31_Check_i6 n = (fun y0 y1 => (iter (tabL tab37) F37 (afOf Go.Proofs.Try.prog 37) n) 6 (y0, y1, ()))
  | 0 => rfl
  | n + 1 => by
    obtain h6 := i37 n
    exact funext fun x0 => funext fun x1 => ((s37_6 _ x0 x1).trans (by show _ = ref31_Check_c6 (ref31_Check_i6 n) x0 x1; rw [h6]; try rfl)).symm
theorem cb37 : callable Go.Proofs.Try.prog 37 = true := by kernel_rfl
theorem tok37 : TabOK Go.Proofs.Try.prog tab37 := ⟨ok39, cb39, trivial⟩
theorem ok37 : con37.ok Go.Proofs.Try.prog 37 := fun a r h => by
  obtain h6 := i37 fuel
  refine fun_spec (f := F37) (tabL_ok tok37) (tabL_cb tok37) (by kernel_rfl) comp37 fuel (a := a) ((s37 _ a.1).trans ?_)
  have h : ref31_Check_c (ref31_Check_i6 fuel) a.1 = some r := h
  rw [h6] at h
  exact h
/- tailwater/tailwaterref31.Lowest -/
def con54 : TCon := ⟨[.c (.sl [.int .i64])], [.c (.p (.int .i64))], fun a => ref31_Lowest a.1⟩
def tab54 : List (Nat × TCon) := []
def F54 : TFun := ⟨[], [(4, [.c (.p (.sl [.int .i64]))] ++ List.replicate 2 (.c .any) ++ [.c (.p (.int .i64))] ++ [.c (.p (.int .i64))] ++ List.replicate 16 (.c .any))], con54.args, con54.res, List.replicate 2 (.c .any) ++ [.c (.p (.int .i64))] ++ List.replicate 18 (.c .any)⟩
theorem comp54 : compFun Go.Proofs.Try.prog 54 = some (afOf Go.Proofs.Try.prog 54) := by kernel_rfl
theorem s54 : ∀ J a0, seg0 (tabL tab54) F54 (afOf Go.Proofs.Try.prog 54) J (a0, ()) = ref31_Lowest_c (fun y0 y1 y2 => J 4 (y0, y1, y2, ())) a0 := fun _ _ => by kernel_rfl
theorem s54_4 : ∀ J x0 x1 x2, seg (tabL tab54) F54 (afOf Go.Proofs.Try.prog 54) J 4 (x0, x1, x2, ()) = ref31_Lowest_c4 (fun y0 y1 y2 => J 4 (y0, y1, y2, ())) x0 x1 x2 := fun _ _ _ _ => by kernel_rfl
theorem i54 : ∀ n, ref31_Lowest_i4 n = (fun y0 y1 y2 => (iter (tabL tab54) F54 (afOf Go.Proofs.Try.prog 54) n) 4 (y0, y1, y2, ()))
  | 0 => rfl
  | n + 1 => by
    obtain h4 := i54 n
    exact funext fun x0 => funext fun x1 => funext fun x2 => ((s54_4 _ x0 x1 x2).trans (by show _ = ref31_Lowest_c4 (ref31_Lowest_i4 n) x0 x1 x2; rw [h4]; try rfl)).symm
theorem cb54 : callable Go.Proofs.Try.prog 54 = true := by kernel_rfl
theorem tok54 : TabOK Go.Proofs.Try.prog tab54 := trivial
theorem ok54 : con54.ok Go.Proofs.Try.prog 54 := fun a r h => by
  obtain h4 := i54 fuel
  refine fun_spec (f := F54) (tabL_ok tok54) (tabL_cb tok54) (by kernel_rfl) comp54 fuel (a := a) ((s54 _ a.1).trans ?_)
  have h : ref31_Lowest_c (ref31_Lowest_i4 fuel) a.1 = some r := h
  rw [h4] at h
  exact h
/- tailwater/tailwaterref31.Raised -/
def con52 : TCon := ⟨[.c (.sl [.int .i64]), .c (.int .i64), .c (.int .i64)], [.c (.s 2 1 [.int .i64]), .c (.p (.bool))], fun a => ref31_Raised a.1 a.2.1 a.2.2.1⟩
def tab52 : List (Nat × TCon) := [(54, con54)]
def F52 : TFun := ⟨[], [], con52.args, con52.res, List.replicate 6 (.c .any) ++ [.c (.rowN 2 1 [.int .i64])] ++ [.c (.p (.bool))] ++ List.replicate 19 (.c .any)⟩
theorem comp52 : compFun Go.Proofs.Try.prog 52 = some (afOf Go.Proofs.Try.prog 52) := by kernel_rfl
theorem s52 : ∀ J a0 a1 a2, seg0 (tabL tab52) F52 (afOf Go.Proofs.Try.prog 52) J (a0, a1, a2, ()) = ref31_Raised a0 a1 a2 := fun _ _ _ _ => by kernel_rfl
theorem cb52 : callable Go.Proofs.Try.prog 52 = true := by kernel_rfl
theorem tok52 : TabOK Go.Proofs.Try.prog tab52 := ⟨ok54, cb54, trivial⟩
theorem ok52 : con52.ok Go.Proofs.Try.prog 52 := fun a r h => fun_spec (f := F52) (tabL_ok tok52) (tabL_cb tok52) (by kernel_rfl) comp52 0 (a := a) ((s52 _ a.1 a.2.1 a.2.2.1).trans h)
def con52p : TCon := ⟨[.c (.sl [.int .i64]), .c (.int .i64), .c (.int .i64)], [.c (.p (.sl [.int .i64])), .c (.p (.bool))], fun a => ref31_Raised a.1 a.2.1 a.2.2.1⟩
theorem ok52p : con52p.ok Go.Proofs.Try.prog 52 := fun a r h => TCon.frz (c := con52) ok52 rfl a r h
/- tailwater/tailwaterref31.Raise -/
def con34 : TCon := ⟨[.c (.sl [.int .i64]), .c (.int .i64), .c (.int .i64)], [.c (.s 2 1 [.int .i64]), .c (.p (.bool)), .c (.p (.int .i64))], fun a => ref31_Raise a.1 a.2.1 a.2.2.1⟩
def tab34 : List (Nat × TCon) := [(37, con37), (39, con39), (52, con52)]
def F34 : TFun := ⟨[], [], con34.args, con34.res, List.replicate 6 (.c .any) ++ [.c (.rowN 2 1 [.int .i64])] ++ [.c (.p (.bool))] ++ [.c (.p (.int .i64))] ++ List.replicate 30 (.c .any)⟩
theorem comp34 : compFun Go.Proofs.Try.prog 34 = some (afOf Go.Proofs.Try.prog 34) := by kernel_rfl
theorem s34 : ∀ J a0 a1 a2, seg0 (tabL tab34) F34 (afOf Go.Proofs.Try.prog 34) J (a0, a1, a2, ()) = ref31_Raise a0 a1 a2 := fun _ _ _ _ => by kernel_rfl
theorem cb34 : callable Go.Proofs.Try.prog 34 = true := by kernel_rfl
theorem tok34 : TabOK Go.Proofs.Try.prog tab34 := ⟨ok37, cb37, ok39, cb39, ok52, cb52, trivial⟩
theorem ok34 : con34.ok Go.Proofs.Try.prog 34 := fun a r h => fun_spec (f := F34) (tabL_ok tok34) (tabL_cb tok34) (by kernel_rfl) comp34 0 (a := a) ((s34 _ a.1 a.2.1 a.2.2.1).trans h)
def con34p : TCon := ⟨[.c (.sl [.int .i64]), .c (.int .i64), .c (.int .i64)], [.c (.p (.sl [.int .i64])), .c (.p (.bool)), .c (.p (.int .i64))], fun a => ref31_Raise a.1 a.2.1 a.2.2.1⟩
theorem ok34p : con34p.ok Go.Proofs.Try.prog 34 := fun a r h => TCon.frz (c := con34) ok34 rfl a r h
/- tailwater/tailwaterref31.Same -/
def con35 : TCon := ⟨[.c (.sl [.int .i64]), .c (.sl [.int .i64])], [.c (.p (.bool))], fun a => ref31_Same a.1 a.2.1⟩
def tab35 : List (Nat × TCon) := []
def F35 : TFun := ⟨[], [(6, [.c (.p (.sl [.int .i64]))] ++ [.c (.p (.sl [.int .i64]))] ++ List.replicate 3 (.c .any) ++ [.c (.p (.int .i64))] ++ List.replicate 20 (.c .any))], con35.args, con35.res, List.replicate 4 (.c .any) ++ [.c (.p (.bool))] ++ List.replicate 21 (.c .any)⟩
theorem comp35 : compFun Go.Proofs.Try.prog 35 = some (afOf Go.Proofs.Try.prog 35) := by kernel_rfl
theorem s35 : ∀ J a0 a1, seg0 (tabL tab35) F35 (afOf Go.Proofs.Try.prog 35) J (a0, a1, ()) = ref31_Same_c (fun y0 y1 y2 => J 6 (y0, y1, y2, ())) a0 a1 := fun _ _ _ => by kernel_rfl
theorem s35_6 : ∀ J x0 x1 x2, seg (tabL tab35) F35 (afOf Go.Proofs.Try.prog 35) J 6 (x0, x1, x2, ()) = ref31_Same_c6 (fun y0 y1 y2 => J 6 (y0, y1, y2, ())) x0 x1 x2 := fun _ _ _ _ => by kernel_rfl
theorem i35 : ∀ n, ref31_Same_i6 n = (fun y0 y1 y2 => (iter (tabL tab35) F35 (afOf Go.Proofs.Try.prog 35) n) 6 (y0, y1, y2, ()))
  | 0 => rfl
  | n + 1 => by
    obtain h6 := i35 n
    exact funext fun x0 => funext fun x1 => funext fun x2 => ((s35_6 _ x0 x1 x2).trans (by show _ = ref31_Same_c6 (ref31_Same_i6 n) x0 x1 x2; rw [h6]; try rfl)).symm
theorem cb35 : callable Go.Proofs.Try.prog 35 = true := by kernel_rfl
theorem tok35 : TabOK Go.Proofs.Try.prog tab35 := trivial
theorem ok35 : con35.ok Go.Proofs.Try.prog 35 := fun a r h => by
  obtain h6 := i35 fuel
  refine fun_spec (f := F35) (tabL_ok tok35) (tabL_cb tok35) (by kernel_rfl) comp35 fuel (a := a) ((s35 _ a.1 a.2.1).trans ?_)
  have h : ref31_Same_c (ref31_Same_i6 fuel) a.1 a.2.1 = some r := h
  rw [h6] at h
  exact h
/- tailwater/tailwaterlaw31.MarksRaises -/
def con9 : TCon := ⟨[.c (.sl [.int .i64]), .c (.int .i64), .c (.int .i64)], [.c (.p (.bool))], fun a => law31_MarksRaises a.1 a.2.1 a.2.2.1⟩
def tab9 : List (Nat × TCon) := [(33, con33p), (34, con34), (35, con35)]
def F9 : TFun := ⟨[], [], con9.args, con9.res, List.replicate 6 (.c .any) ++ [.c (.p (.bool))] ++ List.replicate 47 (.c .any)⟩
theorem comp9 : compFun Go.Proofs.Try.prog 9 = some (afOf Go.Proofs.Try.prog 9) := by kernel_rfl
theorem s9 : ∀ J a0 a1 a2, seg0 (tabL tab9) F9 (afOf Go.Proofs.Try.prog 9) J (a0, a1, a2, ()) = law31_MarksRaises a0 a1 a2 := fun _ _ _ _ => by kernel_rfl
theorem cb9 : callable Go.Proofs.Try.prog 9 = true := by kernel_rfl
theorem tok9 : TabOK Go.Proofs.Try.prog tab9 := ⟨ok33p, cb33, ok34, cb34, ok35, cb35, trivial⟩
theorem ok9 : con9.ok Go.Proofs.Try.prog 9 := fun a r h => fun_spec (f := F9) (tabL_ok tok9) (tabL_cb tok9) (by kernel_rfl) comp9 0 (a := a) ((s9 _ a.1 a.2.1 a.2.2.1).trans h)
/- tailwater/tailwaterlaw31.MarksBack -/
def con10 : TCon := ⟨[.c (.sl [.int .i64]), .c (.sl [.int .i64]), .c (.sl [.int .i64])], [.c (.p (.bool))], fun a => law31_MarksBack a.1 a.2.1 a.2.2.1⟩
def tab10 : List (Nat × TCon) := [(36, con36), (37, con37), (38, con38), (33, con33p), (39, con39), (40, con40)]
def F10 : TFun := ⟨[], [(11, [.c (.p (.sl [.int .i64]))] ++ [.c (.p (.sl [.int .i64]))] ++ [.c (.p (.sl [.int .i64]))] ++ List.replicate 4 (.c .any) ++ [.c (.p (.bool))] ++ [.c (.p (.int .i64))] ++ List.replicate 1 (.c .any) ++ [.c (.p (.int .i64))] ++ List.replicate 153 (.c .any)), (27, [.c (.p (.sl [.int .i64]))] ++ [.c (.p (.sl [.int .i64]))] ++ [.c (.p (.sl [.int .i64]))] ++ List.replicate 4 (.c .any) ++ [.c (.p (.bool))] ++ List.replicate 2 (.c .any) ++ [.c (.p (.int .i64))] ++ [.c (.p (.sl [.int .i64]))] ++ List.replicate 2 (.c .any) ++ [.c (.p (.int .i64))] ++ List.replicate 1 (.c .any) ++ [.c (.p (.int .i64))] ++ List.replicate 147 (.c .any))], con10.args, con10.res, List.replicate 6 (.c .any) ++ [.c (.p (.bool))] ++ List.replicate 157 (.c .any)⟩
theorem comp10 : compFun Go.Proofs.Try.prog 10 = some (afOf Go.Proofs.Try.prog 10) := by kernel_rfl
theorem s10 : ∀ J a0 a1 a2, seg0 (tabL tab10) F10 (afOf Go.Proofs.Try.prog 10) J (a0, a1, a2, ()) = law31_MarksBack_c (fun y0 y1 y2 y3 y4 y5 => J 11 (y0, y1, y2, y3, y4, y5, ())) (fun y0 y1 y2 y3 y4 y5 y6 y7 => J 27 (y0, y1, y2, y3, y4, y5, y6, y7, ())) a0 a1 a2 := fun _ _ _ _ => by kernel_rfl
theorem s10_11 : ∀ J x0 x1 x2 x3 x4 x5, seg (tabL tab10) F10 (afOf Go.Proofs.Try.prog 10) J 11 (x0, x1, x2, x3, x4, x5, ()) = law31_MarksBack_c11 (fun y0 y1 y2 y3 y4 y5 => J 11 (y0, y1, y2, y3, y4, y5, ())) (fun y0 y1 y2 y3 y4 y5 y6 y7 => J 27 (y0, y1, y2, y3, y4, y5, y6, y7, ())) x0 x1 x2 x3 x4 x5 := fun _ _ _ _ _ _ _ => by kernel_rfl
theorem s10_27 : ∀ J x0 x1 x2 x3 x4 x5 x6 x7, seg (tabL tab10) F10 (afOf Go.Proofs.Try.prog 10) J 27 (x0, x1, x2, x3, x4, x5, x6, x7, ()) = law31_MarksBack_c27 (fun y0 y1 y2 y3 y4 y5 => J 11 (y0, y1, y2, y3, y4, y5, ())) (fun y0 y1 y2 y3 y4 y5 y6 y7 => J 27 (y0, y1, y2, y3, y4, y5, y6, y7, ())) x0 x1 x2 x3 x4 x5 x6 x7 := fun _ _ _ _ _ _ _ _ _ => by kernel_rfl
theorem i10 : ∀ n, law31_MarksBack_i11 n = (fun y0 y1 y2 y3 y4 y5 => (iter (tabL tab10) F10 (afOf Go.Proofs.Try.prog 10) n) 11 (y0, y1, y2, y3, y4, y5, ())) ∧ law31_MarksBack_i27 n = (fun y0 y1 y2 y3 y4 y5 y6 y7 => (iter (tabL tab10) F10 (afOf Go.Proofs.Try.prog 10) n) 27 (y0, y1, y2, y3, y4, y5, y6, y7, ()))
  | 0 => ⟨rfl, rfl⟩
  | n + 1 => by
    obtain ⟨h11, h27⟩ := i10 n
    exact ⟨funext fun x0 => funext fun x1 => funext fun x2 => funext fun x3 => funext fun x4 => funext fun x5 => ((s10_11 _ x0 x1 x2 x3 x4 x5).trans (by show _ = law31_MarksBack_c11 (law31_MarksBack_i11 n) (law31_MarksBack_i27 n) x0 x1 x2 x3 x4 x5; rw [h11, h27]; try rfl)).symm, funext fun x0 => funext fun x1 => funext fun x2 => funext fun x3 => funext fun x4 => funext fun x5 => funext fun x6 => funext fun x7 => ((s10_27 _ x0 x1 x2 x3 x4 x5 x6 x7).trans (by show _ = law31_MarksBack_c27 (law31_MarksBack_i11 n) (law31_MarksBack_i27 n) x0 x1 x2 x3 x4 x5 x6 x7; rw [h11, h27]; try rfl)).symm⟩
theorem cb10 : callable Go.Proofs.Try.prog 10 = true := by kernel_rfl
theorem tok10 : TabOK Go.Proofs.Try.prog tab10 := ⟨ok36, cb36, ok37, cb37, ok38, cb38, ok33p, cb33, ok39, cb39, ok40, cb40, trivial⟩
theorem ok10 : con10.ok Go.Proofs.Try.prog 10 := fun a r h => by
  obtain ⟨h11, h27⟩ := i10 fuel
  refine fun_spec (f := F10) (tabL_ok tok10) (tabL_cb tok10) (by kernel_rfl) comp10 fuel (a := a) ((s10 _ a.1 a.2.1 a.2.2.1).trans ?_)
  have h : law31_MarksBack_c (law31_MarksBack_i11 fuel) (law31_MarksBack_i27 fuel) a.1 a.2.1 a.2.2.1 = some r := h
  rw [h11, h27] at h
  exact h
/- tailwater/tailwaterlaw31.MarksOrder -/
def con11 : TCon := ⟨[.c (.sl [.int .i64]), .c (.int .i64), .c (.int .i64), .c (.int .i64), .c (.int .i64)], [.c (.p (.bool))], fun a => law31_MarksOrder a.1 a.2.1 a.2.2.1 a.2.2.2.1 a.2.2.2.2.1⟩
def tab11 : List (Nat × TCon) := [(36, con36), (37, con37), (33, con33p), (35, con35)]
def F11 : TFun := ⟨[22], [(17, [.c (.p (.sl [.int .i64]))] ++ [.c (.p (.int .i64))] ++ [.c (.p (.int .i64))] ++ [.c (.p (.int .i64))] ++ [.c (.p (.int .i64))] ++ List.replicate 6 (.c .any) ++ [.c (.p (.bool))] ++ [.c (.p (.sl [.int .i64]))] ++ List.replicate 5 (.c .any) ++ [.c (.p (.int .i64))] ++ List.replicate 90 (.c .any)), (22, [.c (.p (.sl [.int .i64]))] ++ [.c (.p (.int .i64))] ++ [.c (.p (.int .i64))] ++ [.c (.p (.int .i64))] ++ [.c (.p (.int .i64))] ++ List.replicate 6 (.c .any) ++ [.c (.p (.bool))] ++ [.c (.p (.sl [.int .i64]))] ++ List.replicate 5 (.c .any) ++ [.c (.p (.int .i64))] ++ [.c (.p (.int .i64))] ++ List.replicate 89 (.c .any))], con11.args, con11.res, List.replicate 10 (.c .any) ++ [.c (.p (.bool))] ++ List.replicate 98 (.c .any)⟩
theorem comp11 : compFun Go.Proofs.Try.prog 11 = some (afOf Go.Proofs.Try.prog 11) := by kernel_rfl
theorem s11 : ∀ J a0 a1 a2 a3 a4, seg0 (tabL tab11) F11 (afOf Go.Proofs.Try.prog 11) J (a0, a1, a2, a3, a4, ()) = law31_MarksOrder_c (fun y0 y1 y2 y3 y4 y5 y6 y7 => J 17 (y0, y1, y2, y3, y4, y5, y6, y7, ())) (fun y0 y1 y2 y3 y4 y5 y6 y7 y8 => J 22 (y0, y1, y2, y3, y4, y5, y6, y7, y8, ())) a0 a1 a2 a3 a4 := fun _ _ _ _ _ _ => by kernel_rfl
theorem s11_17 : ∀ J x0 x1 x2 x3 x4 x5 x6 x7, seg (tabL tab11) F11 (afOf Go.Proofs.Try.prog 11) J 17 (x0, x1, x2, x3, x4, x5, x6, x7, ()) = law31_MarksOrder_c17 (fun y0 y1 y2 y3 y4 y5 y6 y7 => J 17 (y0, y1, y2, y3, y4, y5, y6, y7, ())) (fun y0 y1 y2 y3 y4 y5 y6 y7 y8 => J 22 (y0, y1, y2, y3, y4, y5, y6, y7, y8, ())) x0 x1 x2 x3 x4 x5 x6 x7 := fun _ _ _ _ _ _ _ _ _ => by kernel_rfl
theorem s11_22 : ∀ J x0 x1 x2 x3 x4 x5 x6 x7 x8, seg (tabL tab11) F11 (afOf Go.Proofs.Try.prog 11) J 22 (x0, x1, x2, x3, x4, x5, x6, x7, x8, ()) = law31_MarksOrder_c22 (fun y0 y1 y2 y3 y4 y5 y6 y7 => J 17 (y0, y1, y2, y3, y4, y5, y6, y7, ())) (fun y0 y1 y2 y3 y4 y5 y6 y7 y8 => J 22 (y0, y1, y2, y3, y4, y5, y6, y7, y8, ())) x0 x1 x2 x3 x4 x5 x6 x7 x8 := fun _ _ _ _ _ _ _ _ _ _ => by kernel_rfl
theorem i11 : ∀ n, law31_MarksOrder_i17 n = (fun y0 y1 y2 y3 y4 y5 y6 y7 => (iter (tabL tab11) F11 (afOf Go.Proofs.Try.prog 11) n) 17 (y0, y1, y2, y3, y4, y5, y6, y7, ())) ∧ law31_MarksOrder_i22 n = (fun y0 y1 y2 y3 y4 y5 y6 y7 y8 => (iter (tabL tab11) F11 (afOf Go.Proofs.Try.prog 11) n) 22 (y0, y1, y2, y3, y4, y5, y6, y7, y8, ()))
  | 0 => ⟨rfl, rfl⟩
  | n + 1 => by
    obtain ⟨h17, h22⟩ := i11 n
    exact ⟨funext fun x0 => funext fun x1 => funext fun x2 => funext fun x3 => funext fun x4 => funext fun x5 => funext fun x6 => funext fun x7 => ((s11_17 _ x0 x1 x2 x3 x4 x5 x6 x7).trans (by show _ = law31_MarksOrder_c17 (law31_MarksOrder_i17 n) (law31_MarksOrder_i22 n) x0 x1 x2 x3 x4 x5 x6 x7; rw [h17, h22]; try rfl)).symm, funext fun x0 => funext fun x1 => funext fun x2 => funext fun x3 => funext fun x4 => funext fun x5 => funext fun x6 => funext fun x7 => funext fun x8 => ((s11_22 _ x0 x1 x2 x3 x4 x5 x6 x7 x8).trans (by show _ = law31_MarksOrder_c22 (law31_MarksOrder_i17 n) (law31_MarksOrder_i22 n) x0 x1 x2 x3 x4 x5 x6 x7 x8; rw [h17, h22]; try rfl)).symm⟩
theorem cb11 : callable Go.Proofs.Try.prog 11 = true := by kernel_rfl
theorem tok11 : TabOK Go.Proofs.Try.prog tab11 := ⟨ok36, cb36, ok37, cb37, ok33p, cb33, ok35, cb35, trivial⟩
theorem ok11 : con11.ok Go.Proofs.Try.prog 11 := fun a r h => by
  obtain ⟨h17, h22⟩ := i11 fuel
  refine fun_spec (f := F11) (tabL_ok tok11) (tabL_cb tok11) (by kernel_rfl) comp11 fuel (a := a) ((s11 _ a.1 a.2.1 a.2.2.1 a.2.2.2.1 a.2.2.2.2.1).trans ?_)
  have h : law31_MarksOrder_c (law31_MarksOrder_i17 fuel) (law31_MarksOrder_i22 fuel) a.1 a.2.1 a.2.2.1 a.2.2.2.1 a.2.2.2.2.1 = some r := h
  rw [h17, h22] at h
  exact h
/- tailwater/tailwaterlaw31.MarksEnds -/
def con12 : TCon := ⟨[.c (.sl [.int .i64])], [.c (.p (.bool))], fun a => law31_MarksEnds a.1⟩
def tab12 : List (Nat × TCon) := [(36, con36), (37, con37), (38, con38)]
def F12 : TFun := ⟨[7], [(7, List.replicate 3 (.c .any) ++ [.c (.p (.bool))] ++ [.c (.p (.int .i64))] ++ [.c (.p (.int .i64))] ++ [.c (.p (.bool))] ++ [.c (.p (.bool))] ++ List.replicate 54 (.c .any)), (9, [.c (.p (.sl [.int .i64]))] ++ List.replicate 2 (.c .any) ++ [.c (.p (.bool))] ++ [.c (.p (.int .i64))] ++ [.c (.p (.int .i64))] ++ [.c (.p (.bool))] ++ [.c (.p (.bool))] ++ [.c (.p (.int .i64))] ++ List.replicate 53 (.c .any))], con12.args, con12.res, List.replicate 2 (.c .any) ++ [.c (.p (.bool))] ++ List.replicate 59 (.c .any)⟩
theorem comp12 : compFun Go.Proofs.Try.prog 12 = some (afOf Go.Proofs.Try.prog 12) := by kernel_rfl
theorem s12 : ∀ J a0, seg0 (tabL tab12) F12 (afOf Go.Proofs.Try.prog 12) J (a0, ()) = law31_MarksEnds_c (fun y0 y1 y2 y3 y4 => J 7 (y0, y1, y2, y3, y4, ())) (fun y0 y1 y2 y3 y4 y5 y6 => J 9 (y0, y1, y2, y3, y4, y5, y6, ())) a0 := fun _ _ => by kernel_rfl
theorem s12_7 : ∀ J x0 x1 x2 x3 x4, seg (tabL tab12) F12 (afOf Go.Proofs.Try.prog 12) J 7 (x0, x1, x2, x3, x4, ()) = law31_MarksEnds_c7 (fun y0 y1 y2 y3 y4 => J 7 (y0, y1, y2, y3, y4, ())) (fun y0 y1 y2 y3 y4 y5 y6 => J 9 (y0, y1, y2, y3, y4, y5, y6, ())) x0 x1 x2 x3 x4 := fun _ _ _ _ _ _ => by kernel_rfl
theorem s12_9 : ∀ J x0 x1 x2 x3 x4 x5 x6, seg (tabL tab12) F12 (afOf Go.Proofs.Try.prog 12) J 9 (x0, x1, x2, x3, x4, x5, x6, ()) = law31_MarksEnds_c9 (fun y0 y1 y2 y3 y4 => J 7 (y0, y1, y2, y3, y4, ())) (fun y0 y1 y2 y3 y4 y5 y6 => J 9 (y0, y1, y2, y3, y4, y5, y6, ())) x0 x1 x2 x3 x4 x5 x6 := fun _ _ _ _ _ _ _ _ => by kernel_rfl
theorem i12 : ∀ n, law31_MarksEnds_i7 n = (fun y0 y1 y2 y3 y4 => (iter (tabL tab12) F12 (afOf Go.Proofs.Try.prog 12) n) 7 (y0, y1, y2, y3, y4, ())) ∧ law31_MarksEnds_i9 n = (fun y0 y1 y2 y3 y4 y5 y6 => (iter (tabL tab12) F12 (afOf Go.Proofs.Try.prog 12) n) 9 (y0, y1, y2, y3, y4, y5, y6, ()))
  | 0 => ⟨rfl, rfl⟩
  | n + 1 => by
    obtain ⟨h7, h9⟩ := i12 n
    exact ⟨funext fun x0 => funext fun x1 => funext fun x2 => funext fun x3 => funext fun x4 => ((s12_7 _ x0 x1 x2 x3 x4).trans (by show _ = law31_MarksEnds_c7 (law31_MarksEnds_i7 n) (law31_MarksEnds_i9 n) x0 x1 x2 x3 x4; rw [h7, h9]; try rfl)).symm, funext fun x0 => funext fun x1 => funext fun x2 => funext fun x3 => funext fun x4 => funext fun x5 => funext fun x6 => ((s12_9 _ x0 x1 x2 x3 x4 x5 x6).trans (by show _ = law31_MarksEnds_c9 (law31_MarksEnds_i7 n) (law31_MarksEnds_i9 n) x0 x1 x2 x3 x4 x5 x6; rw [h7, h9]; try rfl)).symm⟩
theorem cb12 : callable Go.Proofs.Try.prog 12 = true := by kernel_rfl
theorem tok12 : TabOK Go.Proofs.Try.prog tab12 := ⟨ok36, cb36, ok37, cb37, ok38, cb38, trivial⟩
theorem ok12 : con12.ok Go.Proofs.Try.prog 12 := fun a r h => by
  obtain ⟨h7, h9⟩ := i12 fuel
  refine fun_spec (f := F12) (tabL_ok tok12) (tabL_cb tok12) (by kernel_rfl) comp12 fuel (a := a) ((s12 _ a.1).trans ?_)
  have h : law31_MarksEnds_c (law31_MarksEnds_i7 fuel) (law31_MarksEnds_i9 fuel) a.1 = some r := h
  rw [h7, h9] at h
  exact h
/- math/bits.Mul32 -/
def con58 : TCon := ⟨[.c (.int .u32), .c (.int .u32)], [.c (.p (.int .u32)), .c (.p (.int .u32))], fun a => math_bits_Mul32 a.1 a.2.1⟩
def tab58 : List (Nat × TCon) := []
def F58 : TFun := ⟨[], [], con58.args, con58.res, List.replicate 4 (.c .any) ++ [.c (.p (.int .u32))] ++ [.c (.p (.int .u32))] ++ List.replicate 11 (.c .any)⟩
theorem comp58 : compFun Go.Proofs.Try.prog 58 = some (afOf Go.Proofs.Try.prog 58) := by kernel_rfl
theorem s58 : ∀ J a0 a1, seg0 (tabL tab58) F58 (afOf Go.Proofs.Try.prog 58) J (a0, a1, ()) = math_bits_Mul32 a0 a1 := fun _ _ _ => by kernel_rfl
theorem cb58 : callable Go.Proofs.Try.prog 58 = true := by kernel_rfl
theorem tok58 : TabOK Go.Proofs.Try.prog tab58 := trivial
theorem ok58 : con58.ok Go.Proofs.Try.prog 58 := fun a r h => fun_spec (f := F58) (tabL_ok tok58) (tabL_cb tok58) (by kernel_rfl) comp58 0 (a := a) ((s58 _ a.1 a.2.1).trans h)
/- math/bits.Mul64 -/
def con59 : TCon := ⟨[.c (.int .u64), .c (.int .u64)], [.c (.p (.int .u64)), .c (.p (.int .u64))], fun a => math_bits_Mul64 a.1 a.2.1⟩
def tab59 : List (Nat × TCon) := []
def F59 : TFun := ⟨[], [], con59.args, con59.res, List.replicate 4 (.c .any) ++ [.c (.p (.int .u64))] ++ [.c (.p (.int .u64))] ++ List.replicate 45 (.c .any)⟩
theorem comp59 : compFun Go.Proofs.Try.prog 59 = some (afOf Go.Proofs.Try.prog 59) := by kernel_rfl
theorem s59 : ∀ J a0 a1, seg0 (tabL tab59) F59 (afOf Go.Proofs.Try.prog 59) J (a0, a1, ()) = math_bits_Mul64 a0 a1 := fun _ _ _ => by kernel_rfl
theorem cb59 : callable Go.Proofs.Try.prog 59 = true := by kernel_rfl
theorem tok59 : TabOK Go.Proofs.Try.prog tab59 := trivial
theorem ok59 : con59.ok Go.Proofs.Try.prog 59 := fun a r h => fun_spec (f := F59) (tabL_ok tok59) (tabL_cb tok59) (by kernel_rfl) comp59 0 (a := a) ((s59 _ a.1 a.2.1).trans h)
/- math/bits.Mul -/
def con57 : TCon := ⟨[.c (.int .u64), .c (.int .u64)], [.c (.p (.int .u64)), .c (.p (.int .u64))], fun a => math_bits_Mul a.1 a.2.1⟩
def tab57 : List (Nat × TCon) := [(58, con58), (59, con59)]
def F57 : TFun := ⟨[], [], con57.args, con57.res, List.replicate 4 (.c .any) ++ [.c (.p (.int .u64))] ++ [.c (.p (.int .u64))] ++ List.replicate 24 (.c .any)⟩
theorem comp57 : compFun Go.Proofs.Try.prog 57 = some (afOf Go.Proofs.Try.prog 57) := by kernel_rfl
theorem s57 : ∀ J a0 a1, seg0 (tabL tab57) F57 (afOf Go.Proofs.Try.prog 57) J (a0, a1, ()) = math_bits_Mul a0 a1 := fun _ _ _ => by kernel_rfl
theorem cb57 : callable Go.Proofs.Try.prog 57 = true := by kernel_rfl
theorem tok57 : TabOK Go.Proofs.Try.prog tab57 := ⟨ok58, cb58, ok59, cb59, trivial⟩
theorem ok57 : con57.ok Go.Proofs.Try.prog 57 := fun a r h => fun_spec (f := F57) (tabL_ok tok57) (tabL_cb tok57) (by kernel_rfl) comp57 0 (a := a) ((s57 _ a.1 a.2.1).trans h)
/- slices.Repeat[[]int64,int64] -/
def con53 : TCon := ⟨[.c (.sl [.int .i64]), .c (.int .i64)], [.c (.s 2 1 [.int .i64])], fun a => slices_Repeat___int64_int64_ a.1 a.2.1⟩
def tab53 : List (Nat × TCon) := [(57, con57)]
def F53 : TFun := ⟨[1, 4], [(1, [.c (.p (.sl [.int .i64]))] ++ [.c (.p (.int .i64))] ++ List.replicate 46 (.c .any)), (4, [.c (.p (.sl [.int .i64]))] ++ List.replicate 5 (.c .any) ++ [.c (.p (.int .u64))] ++ List.replicate 41 (.c .any)), (9, List.replicate 7 (.c .any) ++ [.c (.rowN 2 1 [.int .i64])] ++ [.c (.p (.int .i64))] ++ List.replicate 39 (.c .any))], con53.args, con53.res, List.replicate 4 (.c .any) ++ [.c (.rowN 2 1 [.int .i64])] ++ List.replicate 43 (.c .any)⟩
theorem comp53 : compFun Go.Proofs.Try.prog 53 = some (afOf Go.Proofs.Try.prog 53) := by kernel_rfl
theorem s53 : ∀ J a0 a1, seg0 (tabL tab53) F53 (afOf Go.Proofs.Try.prog 53) J (a0, a1, ()) = slices_Repeat___int64_int64__c (fun y0 y1 => J 1 (y0, y1, ())) (fun y0 y1 => J 4 (y0, y1, ())) (fun y0 y1 => J 9 (y0, y1, ())) a0 a1 := fun _ _ _ => by kernel_rfl
theorem s53_1 : ∀ J x0 x1, seg (tabL tab53) F53 (afOf Go.Proofs.Try.prog 53) J 1 (x0, x1, ()) = slices_Repeat___int64_int64__c1 (fun y0 y1 => J 1 (y0, y1, ())) (fun y0 y1 => J 4 (y0, y1, ())) (fun y0 y1 => J 9 (y0, y1, ())) x0 x1 := fun _ _ _ => by kernel_rfl
theorem s53_4 : ∀ J x0 x1, seg (tabL tab53) F53 (afOf Go.Proofs.Try.prog 53) J 4 (x0, x1, ()) = slices_Repeat___int64_int64__c4 (fun y0 y1 => J 1 (y0, y1, ())) (fun y0 y1 => J 4 (y0, y1, ())) (fun y0 y1 => J 9 (y0, y1, ())) x0 x1 := fun _ _ _ => by kernel_rfl
theorem s53_9 : ∀ J x0 x1, seg (tabL tab53) F53 (afOf Go.Proofs.Try.prog 53) J 9 (x0, x1, ()) = slices_Repeat___int64_int64__c9 (fun y0 y1 => J 1 (y0, y1, ())) (fun y0 y1 => J 4 (y0, y1, ())) (fun y0 y1 => J 9 (y0, y1, ())) x0 x1 := fun _ _ _ => by kernel_rfl
theorem i53 : ∀ n, slices_Repeat___int64_int64__i1 n = (fun y0 y1 => (iter (tabL tab53) F53 (afOf Go.Proofs.Try.prog 53) n) 1 (y0, y1, ())) ∧ slices_Repeat___int64_int64__i4 n = (fun y0 y1 => (iter (tabL tab53) F53 (afOf Go.Proofs.Try.prog 53) n) 4 (y0, y1, ())) ∧ slices_Repeat___int64_int64__i9 n = (fun y0 y1 => (iter (tabL tab53) F53 (afOf Go.Proofs.Try.prog 53) n) 9 (y0, y1, ()))
  | 0 => ⟨rfl, rfl, rfl⟩
  | n + 1 => by
    obtain ⟨h1, h4, h9⟩ := i53 n
    exact ⟨funext fun x0 => funext fun x1 => ((s53_1 _ x0 x1).trans (by show _ = slices_Repeat___int64_int64__c1 (slices_Repeat___int64_int64__i1 n) (slices_Repeat___int64_int64__i4 n) (slices_Repeat___int64_int64__i9 n) x0 x1; rw [h1, h4, h9]; try rfl)).symm, funext fun x0 => funext fun x1 => ((s53_4 _ x0 x1).trans (by show _ = slices_Repeat___int64_int64__c4 (slices_Repeat___int64_int64__i1 n) (slices_Repeat___int64_int64__i4 n) (slices_Repeat___int64_int64__i9 n) x0 x1; rw [h1, h4, h9]; try rfl)).symm, funext fun x0 => funext fun x1 => ((s53_9 _ x0 x1).trans (by show _ = slices_Repeat___int64_int64__c9 (slices_Repeat___int64_int64__i1 n) (slices_Repeat___int64_int64__i4 n) (slices_Repeat___int64_int64__i9 n) x0 x1; rw [h1, h4, h9]; try rfl)).symm⟩
theorem cb53 : callable Go.Proofs.Try.prog 53 = true := by kernel_rfl
theorem tok53 : TabOK Go.Proofs.Try.prog tab53 := ⟨ok57, cb57, trivial⟩
theorem ok53 : con53.ok Go.Proofs.Try.prog 53 := fun a r h => by
  obtain ⟨h1, h4, h9⟩ := i53 fuel
  refine fun_spec (f := F53) (tabL_ok tok53) (tabL_cb tok53) (by kernel_rfl) comp53 fuel (a := a) ((s53 _ a.1 a.2.1).trans ?_)
  have h : slices_Repeat___int64_int64__c (slices_Repeat___int64_int64__i1 fuel) (slices_Repeat___int64_int64__i4 fuel) (slices_Repeat___int64_int64__i9 fuel) a.1 a.2.1 = some r := h
  rw [h1, h4, h9] at h
  exact h
def con53p : TCon := ⟨[.c (.sl [.int .i64]), .c (.int .i64)], [.c (.p (.sl [.int .i64]))], fun a => slices_Repeat___int64_int64_ a.1 a.2.1⟩
theorem ok53p : con53p.ok Go.Proofs.Try.prog 53 := fun a r h => TCon.frz (c := con53) ok53 rfl a r h
/- tailwater/marks.New -/
def con41 : TCon := ⟨[.c (.int .i64)], [.c (.s 2 1 [.int .i64]), .c (.p (.int .i64))], fun a => marks_New a.1⟩
def tab41 : List (Nat × TCon) := [(53, con53)]
def F41 : TFun := ⟨[], [], con41.args, con41.res, List.replicate 2 (.c .any) ++ [.c (.rowN 2 1 [.int .i64])] ++ [.c (.p (.int .i64))] ++ List.replicate 9 (.c .any)⟩
theorem comp41 : compFun Go.Proofs.Try.prog 41 = some (afOf Go.Proofs.Try.prog 41) := by kernel_rfl
theorem s41 : ∀ J a0, seg0 (tabL tab41) F41 (afOf Go.Proofs.Try.prog 41) J (a0, ()) = marks_New a0 := fun _ _ => by kernel_rfl
theorem cb41 : callable Go.Proofs.Try.prog 41 = true := by kernel_rfl
theorem tok41 : TabOK Go.Proofs.Try.prog tab41 := ⟨ok53, cb53, trivial⟩
theorem ok41 : con41.ok Go.Proofs.Try.prog 41 := fun a r h => fun_spec (f := F41) (tabL_ok tok41) (tabL_cb tok41) (by kernel_rfl) comp41 0 (a := a) ((s41 _ a.1).trans h)
def con41p : TCon := ⟨[.c (.int .i64)], [.c (.p (.sl [.int .i64])), .c (.p (.int .i64))], fun a => marks_New a.1⟩
theorem ok41p : con41p.ok Go.Proofs.Try.prog 41 := fun a r h => TCon.frz (c := con41) ok41 rfl a r h
/- tailwater/tailwaterref31.New -/
def con42 : TCon := ⟨[.c (.int .i64)], [.c (.s 2 1 [.int .i64]), .c (.p (.int .i64))], fun a => ref31_New a.1⟩
def tab42 : List (Nat × TCon) := []
def F42 : TFun := ⟨[], [(7, [.c (.p (.int .i64))] ++ List.replicate 3 (.c .any) ++ [.c (.rowN 2 1 [.int .i64])] ++ [.c (.p (.int .i64))] ++ List.replicate 15 (.c .any))], con42.args, con42.res, List.replicate 2 (.c .any) ++ [.c (.rowN 2 1 [.int .i64])] ++ [.c (.p (.int .i64))] ++ List.replicate 17 (.c .any)⟩
theorem comp42 : compFun Go.Proofs.Try.prog 42 = some (afOf Go.Proofs.Try.prog 42) := by kernel_rfl
theorem s42 : ∀ J a0, seg0 (tabL tab42) F42 (afOf Go.Proofs.Try.prog 42) J (a0, ()) = ref31_New_c (fun y0 y1 y2 => J 7 (y0, y1, y2, ())) a0 := fun _ _ => by kernel_rfl
theorem s42_7 : ∀ J x0 x1 x2, seg (tabL tab42) F42 (afOf Go.Proofs.Try.prog 42) J 7 (x0, x1, x2, ()) = ref31_New_c7 (fun y0 y1 y2 => J 7 (y0, y1, y2, ())) x0 x1 x2 := fun _ _ _ _ => by kernel_rfl
theorem i42 : ∀ n, ref31_New_i7 n = (fun y0 y1 y2 => (iter (tabL tab42) F42 (afOf Go.Proofs.Try.prog 42) n) 7 (y0, y1, y2, ()))
  | 0 => rfl
  | n + 1 => by
    obtain h7 := i42 n
    exact funext fun x0 => funext fun x1 => funext fun x2 => ((s42_7 _ x0 x1 x2).trans (by show _ = ref31_New_c7 (ref31_New_i7 n) x0 x1 x2; rw [h7]; try rfl)).symm
theorem cb42 : callable Go.Proofs.Try.prog 42 = true := by kernel_rfl
theorem tok42 : TabOK Go.Proofs.Try.prog tab42 := trivial
theorem ok42 : con42.ok Go.Proofs.Try.prog 42 := fun a r h => by
  obtain h7 := i42 fuel
  refine fun_spec (f := F42) (tabL_ok tok42) (tabL_cb tok42) (by kernel_rfl) comp42 fuel (a := a) ((s42 _ a.1).trans ?_)
  have h : ref31_New_c (ref31_New_i7 fuel) a.1 = some r := h
  rw [h7] at h
  exact h
def con42p : TCon := ⟨[.c (.int .i64)], [.c (.p (.sl [.int .i64])), .c (.p (.int .i64))], fun a => ref31_New a.1⟩
theorem ok42p : con42p.ok Go.Proofs.Try.prog 42 := fun a r h => TCon.frz (c := con42) ok42 rfl a r h
/- tailwater/tailwaterref31.Least -/
def con43 : TCon := ⟨[.c (.sl [.int .i64])], [.c (.p (.int .i64)), .c (.p (.int .i64))], fun a => ref31_Least a.1⟩
def tab43 : List (Nat × TCon) := [(37, con37), (54, con54)]
def F43 : TFun := ⟨[], [], con43.args, con43.res, List.replicate 2 (.c .any) ++ [.c (.p (.int .i64))] ++ [.c (.p (.int .i64))] ++ List.replicate 8 (.c .any)⟩
theorem comp43 : compFun Go.Proofs.Try.prog 43 = some (afOf Go.Proofs.Try.prog 43) := by kernel_rfl
theorem s43 : ∀ J a0, seg0 (tabL tab43) F43 (afOf Go.Proofs.Try.prog 43) J (a0, ()) = ref31_Least a0 := fun _ _ => by kernel_rfl
theorem cb43 : callable Go.Proofs.Try.prog 43 = true := by kernel_rfl
theorem tok43 : TabOK Go.Proofs.Try.prog tab43 := ⟨ok37, cb37, ok54, cb54, trivial⟩
theorem ok43 : con43.ok Go.Proofs.Try.prog 43 := fun a r h => fun_spec (f := F43) (tabL_ok tok43) (tabL_cb tok43) (by kernel_rfl) comp43 0 (a := a) ((s43 _ a.1).trans h)
/- tailwater/tailwaterlaw31.MarksTells -/
def con13 : TCon := ⟨[.c (.sl [.int .i64]), .c (.int .i64)], [.c (.p (.bool))], fun a => law31_MarksTells a.1 a.2.1⟩
def tab13 : List (Nat × TCon) := [(41, con41p), (42, con42p), (38, con38), (43, con43), (35, con35), (40, con40), (37, con37)]
def F13 : TFun := ⟨[], [], con13.args, con13.res, List.replicate 4 (.c .any) ++ [.c (.p (.bool))] ++ List.replicate 56 (.c .any)⟩
theorem comp13 : compFun Go.Proofs.Try.prog 13 = some (afOf Go.Proofs.Try.prog 13) := by kernel_rfl
theorem s13 : ∀ J a0 a1, seg0 (tabL tab13) F13 (afOf Go.Proofs.Try.prog 13) J (a0, a1, ()) = law31_MarksTells a0 a1 := fun _ _ _ => by kernel_rfl
theorem cb13 : callable Go.Proofs.Try.prog 13 = true := by kernel_rfl
theorem tok13 : TabOK Go.Proofs.Try.prog tab13 := ⟨ok41p, cb41, ok42p, cb42, ok38, cb38, ok43, cb43, ok35, cb35, ok40, cb40, ok37, cb37, trivial⟩
theorem ok13 : con13.ok Go.Proofs.Try.prog 13 := fun a r h => fun_spec (f := F13) (tabL_ok tok13) (tabL_cb tok13) (by kernel_rfl) comp13 0 (a := a) ((s13 _ a.1 a.2.1).trans h)
end Tm
