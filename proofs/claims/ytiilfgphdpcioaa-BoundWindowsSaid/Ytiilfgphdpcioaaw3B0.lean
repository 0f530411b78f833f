import Derived.Test.YtiilfgphdpcioaaAbsB6
import Derived.Test.Ytiilfgphdpcioaaw3A
import Derived.Test.YtiilfgphdpcioaaHandB
import Derived.Test.YtiilfgphdpcioaaProg
/- Contracts of functions, checked by the kernel. -/
set_option linter.unusedVariables false
namespace Tg
open Go.Abs
/- tailwater/tailwaterref04.Great -/
def con8 : TCon := ⟨[.c (.sl [.int .u8, .int .i64, .int .i64, .int .i64, .int .i64])], [.c (.p (.bool))], fun a => ref04_Great a.1⟩
def tab8 : List (Nat × TCon) := []
def F8 : TFun := ⟨[], [], con8.args, con8.res, List.replicate 2 (.c .any) ++ [.c (.p (.bool))] ++ List.replicate 3 (.c .any), [], [], 0⟩
theorem comp8 : compFun Go.Proofs.Try.prog 8 = some (afOf Go.Proofs.Try.prog 8) := by kernel_rfl
theorem s8 : ∀ J a0, seg0 (tabL tab8) Go.Proofs.Try.prog F8 (afOf Go.Proofs.Try.prog 8) J (a0, ()) = ref04_Great a0 := fun _ _ => by kernel_rfl
theorem cb8 : callable Go.Proofs.Try.prog 8 = true := by kernel_rfl
theorem tok8 : TabOK Go.Proofs.Try.prog tab8 := trivial
theorem ok8 : con8.ok Go.Proofs.Try.prog 8 := fun a r h => fun_spec (f := F8) (tabL_ok tok8) (tabL_cb tok8) (by kernel_rfl) comp8 0 (a := a) ((s8 _ a.1).trans h)
/- tailwater/tailwaterref08.Great -/
def con4 : TCon := ⟨[.a [.int .u8, .sl [.int .u8, .int .i64, .int .i64, .int .i64, .int .i64], .sl [.int .i64], .bool, .sl [.int .u8, .int .i64, .int .i64, .int .i64, .int .i64], .int .u8, .int .i64, .int .i64, .bool, .int .u8]], [.c (.p (.bool))], fun a => ref08_Great a.1⟩
def tab4 : List (Nat × TCon) := [(8, con8)]
def F4 : TFun := ⟨[], [], con4.args, con4.res, List.replicate 2 (.c .any) ++ [.c (.p (.bool))] ++ List.replicate 14 (.c .any), [], [], 0⟩
theorem comp4 : compFun Go.Proofs.Try.prog 4 = some (afOf Go.Proofs.Try.prog 4) := by kernel_rfl
theorem s4 : ∀ J a0, seg0 (tabL tab4) Go.Proofs.Try.prog F4 (afOf Go.Proofs.Try.prog 4) J (a0, ()) = ref08_Great a0 := fun _ _ => by kernel_rfl
theorem cb4 : callable Go.Proofs.Try.prog 4 = true := by kernel_rfl
theorem tok4 : TabOK Go.Proofs.Try.prog tab4 := ⟨ok8, cb8, trivial⟩
theorem ok4 : con4.ok Go.Proofs.Try.prog 4 := fun a r h => fun_spec (f := F4) (tabL_ok tok4) (tabL_cb tok4) (by kernel_rfl) comp4 0 (a := a) ((s4 _ a.1).trans h)
/- tailwater/nodes.Parts -/
def con47 : TCon := ⟨[.c (.int .u8)], [.c (.p (.int .i64)), .c (.p (.int .i64))], fun a => nodes_Parts a.1⟩
def tab47 : List (Nat × TCon) := []
def F47 : TFun := ⟨[], [], con47.args, con47.res, List.replicate 2 (.c .any) ++ [.c (.p (.int .i64))] ++ [.c (.p (.int .i64))] ++ List.replicate 21 (.c .any), [], [], 0⟩
theorem comp47 : compFun Go.Proofs.Try.prog 47 = some (afOf Go.Proofs.Try.prog 47) := by kernel_rfl
theorem s47 : ∀ J a0, seg0 (tabL tab47) Go.Proofs.Try.prog F47 (afOf Go.Proofs.Try.prog 47) J (a0, ()) = nodes_Parts a0 := fun _ _ => by kernel_rfl
theorem cb47 : callable Go.Proofs.Try.prog 47 = true := by kernel_rfl
theorem tok47 : TabOK Go.Proofs.Try.prog tab47 := trivial
theorem ok47 : con47.ok Go.Proofs.Try.prog 47 := fun a r h => fun_spec (f := F47) (tabL_ok tok47) (tabL_cb tok47) (by kernel_rfl) comp47 0 (a := a) ((s47 _ a.1).trans h)
/- tailwater/clauses.Sources -/
def con25 : TCon := ⟨[.c (.sl [.int .i64]), .c (.bool)], [.c (.p (.int .i64))], fun a => clauses_Sources a.1 a.2.1⟩
def tab25 : List (Nat × TCon) := [(36, con36)]
def F25 : TFun := ⟨[], [(14, [.c (.p (.sl [.int .i64]))] ++ [.c (.fn 34 [])] ++ List.replicate 5 (.c .any) ++ [.c (.p (.int .i64))] ++ [.c (.p (.int .i64))] ++ List.replicate 19 (.c .any) ++ [.c (.p (.sl [.int .i64]))] ++ List.replicate 19 (.c .any) ++ [.c (.p (.bool))] ++ List.replicate 9 (.c .any))], con25.args, con25.res, List.replicate 4 (.c .any) ++ [.c (.p (.int .i64))] ++ List.replicate 25 (.c .any), [(20, [34]), (10, [41]), (7, [35])], [(14, [9, 30])], 8⟩
theorem comp25 : compFun Go.Proofs.Try.prog 25 = some (afOf Go.Proofs.Try.prog 25) := by kernel_rfl
theorem s25 : ∀ J a0 a1, seg0 (tabL tab25) Go.Proofs.Try.prog F25 (afOf Go.Proofs.Try.prog 25) J (a0, a1, ()) = clauses_Sources_c (fun y0 y1 y2 y3 y4 => J 14 (y0, y1, y2, y3, y4, ())) a0 a1 := fun _ _ _ => by kernel_rfl
theorem s25_14 : ∀ J x0 x1 x2 x3 x4, seg (tabL tab25) Go.Proofs.Try.prog F25 (afOf Go.Proofs.Try.prog 25) J 14 (x0, x1, x2, x3, x4, ()) = clauses_Sources_c14 (fun y0 y1 y2 y3 y4 => J 14 (y0, y1, y2, y3, y4, ())) x0 x1 x2 x3 x4 := fun _ _ _ _ _ _ => by kernel_rfl
theorem i25 : ∀ n, clauses_Sources_i14 n = (fun y0 y1 y2 y3 y4 => (iter (tabL tab25) Go.Proofs.Try.prog F25 (afOf Go.Proofs.Try.prog 25) n) 14 (y0, y1, y2, y3, y4, ()))
  | 0 => rfl
  | n + 1 => by
    obtain h14 := i25 n
    exact funext fun x0 => funext fun x1 => funext fun x2 => funext fun x3 => funext fun x4 => ((s25_14 _ x0 x1 x2 x3 x4).trans (by show _ = clauses_Sources_c14 (clauses_Sources_i14 n) x0 x1 x2 x3 x4; rw [h14]; try rfl)).symm
theorem cb25 : callable Go.Proofs.Try.prog 25 = true := by kernel_rfl
theorem tok25 : TabOK Go.Proofs.Try.prog tab25 := ⟨ok36, cb36, trivial⟩
theorem ok25 : con25.ok Go.Proofs.Try.prog 25 := fun a r h => by
  obtain h14 := i25 fuel
  refine fun_spec (f := F25) (tabL_ok tok25) (tabL_cb tok25) (by kernel_rfl) comp25 fuel (a := a) ((s25 _ a.1 a.2.1).trans ?_)
  have h : clauses_Sources_c (clauses_Sources_i14 fuel) a.1 a.2.1 = some r := h
  rw [h14] at h
  exact h
/- tailwater/clauses.Window -/
def con13 : TCon := ⟨[.a [.int .u8, .int .i64, .int .i64]], [.c (.p (.int .i64))], fun a => clauses_Window a.1⟩
def tab13 : List (Nat × TCon) := []
def F13 : TFun := ⟨[], [], con13.args, con13.res, List.replicate 2 (.c .any) ++ [.c (.p (.int .i64))] ++ List.replicate 37 (.c .any), [], [], 0⟩
theorem comp13 : compFun Go.Proofs.Try.prog 13 = some (afOf Go.Proofs.Try.prog 13) := by kernel_rfl
theorem s13 : ∀ J a0, seg0 (tabL tab13) Go.Proofs.Try.prog F13 (afOf Go.Proofs.Try.prog 13) J (a0, ()) = clauses_Window a0 := fun _ _ => by kernel_rfl
theorem cb13 : callable Go.Proofs.Try.prog 13 = true := by kernel_rfl
theorem tok13 : TabOK Go.Proofs.Try.prog tab13 := trivial
theorem ok13 : con13.ok Go.Proofs.Try.prog 13 := fun a r h => fun_spec (f := F13) (tabL_ok tok13) (tabL_cb tok13) (by kernel_rfl) comp13 0 (a := a) ((s13 _ a.1).trans h)
/- tailwater/bound.windows -/
def con10 : TCon := ⟨[.a [.int .u8, .int .i64, .int .i64]], [.c (.p (.int .i64))], fun a => bound_windows a.1⟩
def tab10 : List (Nat × TCon) := []
def F10 : TFun := ⟨[], [], con10.args, con10.res, List.replicate 2 (.c .any) ++ [.c (.p (.int .i64))] ++ List.replicate 18 (.c .any), [], [], 0⟩
theorem comp10 : compFun Go.Proofs.Try.prog 10 = some (afOf Go.Proofs.Try.prog 10) := by kernel_rfl
theorem s10 : ∀ J a0, seg0 (tabL tab10) Go.Proofs.Try.prog F10 (afOf Go.Proofs.Try.prog 10) J (a0, ()) = bound_windows a0 := fun _ _ => by kernel_rfl
theorem cb10 : callable Go.Proofs.Try.prog 10 = true := by kernel_rfl
theorem tok10 : TabOK Go.Proofs.Try.prog tab10 := trivial
theorem ok10 : con10.ok Go.Proofs.Try.prog 10 := fun a r h => fun_spec (f := F10) (tabL_ok tok10) (tabL_cb tok10) (by kernel_rfl) comp10 0 (a := a) ((s10 _ a.1).trans h)
/- tailwater/tailwaterref04.Count -/
def con43 : TCon := ⟨[.c (.int .u8)], [.c (.p (.int .i64))], fun a => ref04_Count a.1⟩
def tab43 : List (Nat × TCon) := []
def F43 : TFun := ⟨[], [], con43.args, con43.res, List.replicate 2 (.c .any) ++ [.c (.p (.int .i64))] ++ List.replicate 4 (.c .any), [], [], 0⟩
theorem comp43 : compFun Go.Proofs.Try.prog 43 = some (afOf Go.Proofs.Try.prog 43) := by kernel_rfl
theorem s43 : ∀ J a0, seg0 (tabL tab43) Go.Proofs.Try.prog F43 (afOf Go.Proofs.Try.prog 43) J (a0, ()) = ref04_Count a0 := fun _ _ => by kernel_rfl
theorem cb43 : callable Go.Proofs.Try.prog 43 = true := by kernel_rfl
theorem tok43 : TabOK Go.Proofs.Try.prog tab43 := trivial
theorem ok43 : con43.ok Go.Proofs.Try.prog 43 := fun a r h => fun_spec (f := F43) (tabL_ok tok43) (tabL_cb tok43) (by kernel_rfl) comp43 0 (a := a) ((s43 _ a.1).trans h)
/- tailwater/tailwaterref04.right -/
def con44 : TCon := ⟨[.a [.int .u8, .int .i64, .int .i64, .int .i64, .int .i64], .c (.int .i64), .c (.int .i64)], [.c (.p (.bool))], fun a => ref04_right a.1 a.2.1 a.2.2.1⟩
def tab44 : List (Nat × TCon) := []
def F44 : TFun := ⟨[], [], con44.args, con44.res, List.replicate 6 (.c .any) ++ [.c (.p (.bool))] ++ List.replicate 45 (.c .any), [], [], 0⟩
theorem comp44 : compFun Go.Proofs.Try.prog 44 = some (afOf Go.Proofs.Try.prog 44) := by kernel_rfl
theorem s44 : ∀ J a0 a1 a2, seg0 (tabL tab44) Go.Proofs.Try.prog F44 (afOf Go.Proofs.Try.prog 44) J (a0, a1, a2, ()) = ref04_right a0 a1 a2 := fun _ _ _ _ => by kernel_rfl
theorem cb44 : callable Go.Proofs.Try.prog 44 = true := by kernel_rfl
theorem tok44 : TabOK Go.Proofs.Try.prog tab44 := trivial
theorem ok44 : con44.ok Go.Proofs.Try.prog 44 := fun a r h => fun_spec (f := F44) (tabL_ok tok44) (tabL_cb tok44) (by kernel_rfl) comp44 0 (a := a) ((s44 _ a.1 a.2.1 a.2.2.1).trans h)
/- tailwater/tailwaterref08.Sources -/
def con28 : TCon := ⟨[.c (.sl [.int .i64]), .c (.bool)], [.c (.p (.int .i64))], fun a => ref08_Sources a.1 a.2.1⟩
def tab28 : List (Nat × TCon) := []
def F28 : TFun := ⟨[7], [(7, [.c (.p (.sl [.int .i64]))] ++ List.replicate 59 (.c .any)), (9, [.c (.p (.sl [.int .i64]))] ++ List.replicate 4 (.c .any) ++ [.c (.p (.int .i64))] ++ List.replicate 54 (.c .any)), (17, [.c (.p (.sl [.int .i64]))] ++ List.replicate 5 (.c .any) ++ [.c (.p (.int .i64))] ++ List.replicate 53 (.c .any)), (22, [.c (.p (.sl [.int .i64]))] ++ List.replicate 5 (.c .any) ++ [.c (.p (.int .i64))] ++ [.c (.p (.int .i64))] ++ List.replicate 52 (.c .any))], con28.args, con28.res, List.replicate 4 (.c .any) ++ [.c (.p (.int .i64))] ++ List.replicate 55 (.c .any), [], [], 0⟩
theorem comp28 : compFun Go.Proofs.Try.prog 28 = some (afOf Go.Proofs.Try.prog 28) := by kernel_rfl
theorem s28 : ∀ J a0 a1, seg0 (tabL tab28) Go.Proofs.Try.prog F28 (afOf Go.Proofs.Try.prog 28) J (a0, a1, ()) = ref08_Sources_c (fun y0 => J 7 (y0, ())) (fun y0 y1 => J 9 (y0, y1, ())) (fun y0 y1 => J 17 (y0, y1, ())) (fun y0 y1 y2 => J 22 (y0, y1, y2, ())) a0 a1 := fun _ _ _ => by kernel_rfl
theorem s28_7 : ∀ J x0, seg (tabL tab28) Go.Proofs.Try.prog F28 (afOf Go.Proofs.Try.prog 28) J 7 (x0, ()) = ref08_Sources_c7 (fun y0 => J 7 (y0, ())) (fun y0 y1 => J 9 (y0, y1, ())) (fun y0 y1 => J 17 (y0, y1, ())) (fun y0 y1 y2 => J 22 (y0, y1, y2, ())) x0 := fun _ _ => by kernel_rfl
theorem s28_9 : ∀ J x0 x1, seg (tabL tab28) Go.Proofs.Try.prog F28 (afOf Go.Proofs.Try.prog 28) J 9 (x0, x1, ()) = ref08_Sources_c9 (fun y0 => J 7 (y0, ())) (fun y0 y1 => J 9 (y0, y1, ())) (fun y0 y1 => J 17 (y0, y1, ())) (fun y0 y1 y2 => J 22 (y0, y1, y2, ())) x0 x1 := fun _ _ _ => by kernel_rfl
theorem s28_17 : ∀ J x0 x1, seg (tabL tab28) Go.Proofs.Try.prog F28 (afOf Go.Proofs.Try.prog 28) J 17 (x0, x1, ()) = ref08_Sources_c17 (fun y0 => J 7 (y0, ())) (fun y0 y1 => J 9 (y0, y1, ())) (fun y0 y1 => J 17 (y0, y1, ())) (fun y0 y1 y2 => J 22 (y0, y1, y2, ())) x0 x1 := fun _ _ _ => by kernel_rfl
theorem s28_22 : ∀ J x0 x1 x2, seg (tabL tab28) Go.Proofs.Try.prog F28 (afOf Go.Proofs.Try.prog 28) J 22 (x0, x1, x2, ()) = ref08_Sources_c22 (fun y0 => J 7 (y0, ())) (fun y0 y1 => J 9 (y0, y1, ())) (fun y0 y1 => J 17 (y0, y1, ())) (fun y0 y1 y2 => J 22 (y0, y1, y2, ())) x0 x1 x2 := fun _ _ _ _ => by kernel_rfl
theorem i28 : ∀ n, ref08_Sources_i7 n = (fun y0 => (iter (tabL tab28) Go.Proofs.Try.prog F28 (afOf Go.Proofs.Try.prog 28) n) 7 (y0, ())) ∧ ref08_Sources_i9 n = (fun y0 y1 => (iter (tabL tab28) Go.Proofs.Try.prog F28 (afOf Go.Proofs.Try.prog 28) n) 9 (y0, y1, ())) ∧ ref08_Sources_i17 n = (fun y0 y1 => (iter (tabL tab28) Go.Proofs.Try.prog F28 (afOf Go.Proofs.Try.prog 28) n) 17 (y0, y1, ())) ∧ ref08_Sources_i22 n = (fun y0 y1 y2 => (iter (tabL tab28) Go.Proofs.Try.prog F28 (afOf Go.Proofs.Try.prog 28) n) 22 (y0, y1, y2, ()))
  | 0 => ⟨rfl, rfl, rfl, rfl⟩
  | n + 1 => by
    obtain ⟨h7, h9, h17, h22⟩ := i28 n
    exact ⟨funext fun x0 => ((s28_7 _ x0).trans (by show _ = ref08_Sources_c7 (ref08_Sources_i7 n) (ref08_Sources_i9 n) (ref08_Sources_i17 n) (ref08_Sources_i22 n) x0; rw [h7, h9, h17, h22]; try rfl)).symm, funext fun x0 => funext fun x1 => ((s28_9 _ x0 x1).trans (by show _ = ref08_Sources_c9 (ref08_Sources_i7 n) (ref08_Sources_i9 n) (ref08_Sources_i17 n) (ref08_Sources_i22 n) x0 x1; rw [h7, h9, h17, h22]; try rfl)).symm, funext fun x0 => funext fun x1 => ((s28_17 _ x0 x1).trans (by show _ = ref08_Sources_c17 (ref08_Sources_i7 n) (ref08_Sources_i9 n) (ref08_Sources_i17 n) (ref08_Sources_i22 n) x0 x1; rw [h7, h9, h17, h22]; try rfl)).symm, funext fun x0 => funext fun x1 => funext fun x2 => ((s28_22 _ x0 x1 x2).trans (by show _ = ref08_Sources_c22 (ref08_Sources_i7 n) (ref08_Sources_i9 n) (ref08_Sources_i17 n) (ref08_Sources_i22 n) x0 x1 x2; rw [h7, h9, h17, h22]; try rfl)).symm⟩
theorem cb28 : callable Go.Proofs.Try.prog 28 = true := by kernel_rfl
theorem tok28 : TabOK Go.Proofs.Try.prog tab28 := trivial
theorem ok28 : con28.ok Go.Proofs.Try.prog 28 := fun a r h => by
  obtain ⟨h7, h9, h17, h22⟩ := i28 fuel
  refine fun_spec (f := F28) (tabL_ok tok28) (tabL_cb tok28) (by kernel_rfl) comp28 fuel (a := a) ((s28 _ a.1 a.2.1).trans ?_)
  have h : ref08_Sources_c (ref08_Sources_i7 fuel) (ref08_Sources_i9 fuel) (ref08_Sources_i17 fuel) (ref08_Sources_i22 fuel) a.1 a.2.1 = some r := h
  rw [h7, h9, h17, h22] at h
  exact h
/- tailwater/tailwaterref08.Fits -/
def con29 : TCon := ⟨[.a [.int .u8, .int .i64, .int .i64]], [.c (.p (.bool))], fun a => ref08_Fits a.1⟩
def tab29 : List (Nat × TCon) := []
def F29 : TFun := ⟨[], [], con29.args, con29.res, List.replicate 2 (.c .any) ++ [.c (.p (.bool))] ++ List.replicate 42 (.c .any), [], [], 0⟩
theorem comp29 : compFun Go.Proofs.Try.prog 29 = some (afOf Go.Proofs.Try.prog 29) := by kernel_rfl
theorem s29 : ∀ J a0, seg0 (tabL tab29) Go.Proofs.Try.prog F29 (afOf Go.Proofs.Try.prog 29) J (a0, ()) = ref08_Fits a0 := fun _ _ => by kernel_rfl
theorem cb29 : callable Go.Proofs.Try.prog 29 = true := by kernel_rfl
theorem tok29 : TabOK Go.Proofs.Try.prog tab29 := trivial
theorem ok29 : con29.ok Go.Proofs.Try.prog 29 := fun a r h => fun_spec (f := F29) (tabL_ok tok29) (tabL_cb tok29) (by kernel_rfl) comp29 0 (a := a) ((s29 _ a.1).trans h)
/- tailwater/tailwaterref06.Gives -/
def con46 : TCon := ⟨[.c (.int .u8)], [.c (.p (.bool))], fun a => ref06_Gives a.1⟩
def tab46 : List (Nat × TCon) := []
def F46 : TFun := ⟨[], [], con46.args, con46.res, List.replicate 2 (.c .any) ++ [.c (.p (.bool))] ++ List.replicate 6 (.c .any), [], [], 0⟩
theorem comp46 : compFun Go.Proofs.Try.prog 46 = some (afOf Go.Proofs.Try.prog 46) := by kernel_rfl
theorem s46 : ∀ J a0, seg0 (tabL tab46) Go.Proofs.Try.prog F46 (afOf Go.Proofs.Try.prog 46) J (a0, ()) = ref06_Gives a0 := fun _ _ => by kernel_rfl
theorem cb46 : callable Go.Proofs.Try.prog 46 = true := by kernel_rfl
theorem tok46 : TabOK Go.Proofs.Try.prog tab46 := trivial
theorem ok46 : con46.ok Go.Proofs.Try.prog 46 := fun a r h => fun_spec (f := F46) (tabL_ok tok46) (tabL_cb tok46) (by kernel_rfl) comp46 0 (a := a) ((s46 _ a.1).trans h)
/- tailwater/tailwaterref06.fits -/
def con50 : TCon := ⟨[.c (.sl [.int .u8, .int .i64, .int .i64, .int .i64, .int .i64]), .c (.int .i64)], [.c (.p (.bool))], fun a => ref06_fits a.1 a.2.1⟩
def tab50 : List (Nat × TCon) := [(46, con46)]
def F50 : TFun := ⟨[], [], con50.args, con50.res, List.replicate 4 (.c .any) ++ [.c (.p (.bool))] ++ List.replicate 62 (.c .any), [], [], 0⟩
theorem comp50 : compFun Go.Proofs.Try.prog 50 = some (afOf Go.Proofs.Try.prog 50) := by kernel_rfl
theorem s50 : ∀ J a0 a1, seg0 (tabL tab50) Go.Proofs.Try.prog F50 (afOf Go.Proofs.Try.prog 50) J (a0, a1, ()) = ref06_fits a0 a1 := fun _ _ _ => by kernel_rfl
theorem cb50 : callable Go.Proofs.Try.prog 50 = true := by kernel_rfl
theorem tok50 : TabOK Go.Proofs.Try.prog tab50 := ⟨ok46, cb46, trivial⟩
theorem ok50 : con50.ok Go.Proofs.Try.prog 50 := fun a r h => fun_spec (f := F50) (tabL_ok tok50) (tabL_cb tok50) (by kernel_rfl) comp50 0 (a := a) ((s50 _ a.1 a.2.1).trans h)
/- tailwater/tailwaterref06.Wrong -/
def con45 : TCon := ⟨[.c (.sl [.int .u8, .int .i64, .int .i64, .int .i64, .int .i64])], [.c (.p (.int .i64))], fun a => ref06_Wrong a.1⟩
def tab45 : List (Nat × TCon) := [(50, con50)]
def F45 : TFun := ⟨[], [(3, [.c (.p (.sl [.int .u8, .int .i64, .int .i64, .int .i64, .int .i64]))] ++ List.replicate 2 (.c .any) ++ [.c (.p (.int .i64))] ++ List.replicate 13 (.c .any))], con45.args, con45.res, List.replicate 2 (.c .any) ++ [.c (.p (.int .i64))] ++ List.replicate 14 (.c .any), [], [], 0⟩
theorem comp45 : compFun Go.Proofs.Try.prog 45 = some (afOf Go.Proofs.Try.prog 45) := by kernel_rfl
theorem s45 : ∀ J a0, seg0 (tabL tab45) Go.Proofs.Try.prog F45 (afOf Go.Proofs.Try.prog 45) J (a0, ()) = ref06_Wrong_c (fun y0 y1 => J 3 (y0, y1, ())) a0 := fun _ _ => by kernel_rfl
theorem s45_3 : ∀ J x0 x1, seg (tabL tab45) Go.Proofs.Try.prog F45 (afOf Go.Proofs.Try.prog 45) J 3 (x0, x1, ()) = ref06_Wrong_c3 (fun y0 y1 => J 3 (y0, y1, ())) x0 x1 := fun _ _ _ => by kernel_rfl
theorem i45 : ∀ n, ref06_Wrong_i3 n = (fun y0 y1 => (iter (tabL tab45) Go.Proofs.Try.prog F45 (afOf Go.Proofs.Try.prog 45) n) 3 (y0, y1, ()))
  | 0 => rfl
  | n + 1 => by
    obtain h3 := i45 n
    exact funext fun x0 => funext fun x1 => ((s45_3 _ x0 x1).trans (by show _ = ref06_Wrong_c3 (ref06_Wrong_i3 n) x0 x1; rw [h3]; try rfl)).symm
theorem cb45 : callable Go.Proofs.Try.prog 45 = true := by kernel_rfl
theorem tok45 : TabOK Go.Proofs.Try.prog tab45 := ⟨ok50, cb50, trivial⟩
theorem ok45 : con45.ok Go.Proofs.Try.prog 45 := fun a r h => by
  obtain h3 := i45 fuel
  refine fun_spec (f := F45) (tabL_ok tok45) (tabL_cb tok45) (by kernel_rfl) comp45 fuel (a := a) ((s45 _ a.1).trans ?_)
  have h : ref06_Wrong_c (ref06_Wrong_i3 fuel) a.1 = some r := h
  rw [h3] at h
  exact h
/- tailwater/tailwaterref39.Windows -/
def con12 : TCon := ⟨[.a [.int .u8, .sl [.int .u8, .int .i64, .int .i64, .int .i64, .int .i64], .sl [.int .i64], .bool, .sl [.int .u8, .int .i64, .int .i64, .int .i64, .int .i64], .int .u8, .int .i64, .int .i64, .bool, .int .u8]], [.c (.p (.int .i64))], fun a => ref39_Windows a.1⟩
def tab12 : List (Nat × TCon) := []
def F12 : TFun := ⟨[], [], con12.args, con12.res, List.replicate 2 (.c .any) ++ [.c (.p (.int .i64))] ++ List.replicate 16 (.c .any), [], [], 0⟩
theorem comp12 : compFun Go.Proofs.Try.prog 12 = some (afOf Go.Proofs.Try.prog 12) := by kernel_rfl
theorem s12 : ∀ J a0, seg0 (tabL tab12) Go.Proofs.Try.prog F12 (afOf Go.Proofs.Try.prog 12) J (a0, ()) = ref39_Windows a0 := fun _ _ => by kernel_rfl
theorem cb12 : callable Go.Proofs.Try.prog 12 = true := by kernel_rfl
theorem tok12 : TabOK Go.Proofs.Try.prog tab12 := trivial
theorem ok12 : con12.ok Go.Proofs.Try.prog 12 := fun a r h => fun_spec (f := F12) (tabL_ok tok12) (tabL_cb tok12) (by kernel_rfl) comp12 0 (a := a) ((s12 _ a.1).trans h)
/- tailwater/tumble.check -/
def con31 : TCon := ⟨[.c (.int .i64), .c (.int .i64)], [.c (.p (.int .i64))], fun a => tumble_check a.1 a.2.1⟩
def tab31 : List (Nat × TCon) := []
def F31 : TFun := ⟨[], [], con31.args, con31.res, List.replicate 4 (.c .any) ++ [.c (.p (.int .i64))] ++ List.replicate 12 (.c .any), [], [], 0⟩
theorem comp31 : compFun Go.Proofs.Try.prog 31 = some (afOf Go.Proofs.Try.prog 31) := by kernel_rfl
theorem s31 : ∀ J a0 a1, seg0 (tabL tab31) Go.Proofs.Try.prog F31 (afOf Go.Proofs.Try.prog 31) J (a0, a1, ()) = tumble_check a0 a1 := fun _ _ _ => by kernel_rfl
theorem cb31 : callable Go.Proofs.Try.prog 31 = true := by kernel_rfl
theorem tok31 : TabOK Go.Proofs.Try.prog tab31 := trivial
theorem ok31 : con31.ok Go.Proofs.Try.prog 31 := fun a r h => fun_spec (f := F31) (tabL_ok tok31) (tabL_cb tok31) (by kernel_rfl) comp31 0 (a := a) ((s31 _ a.1 a.2.1).trans h)
/- tailwater/tumble.Number -/
def con22 : TCon := ⟨[.c (.int .i64), .c (.int .i64)], [.c (.p (.int .i64)), .c (.p (.int .i64))], fun a => tumble_Number a.1 a.2.1⟩
def tab22 : List (Nat × TCon) := [(31, con31)]
def F22 : TFun := ⟨[], [], con22.args, con22.res, List.replicate 4 (.c .any) ++ [.c (.p (.int .i64))] ++ [.c (.p (.int .i64))] ++ List.replicate 18 (.c .any), [], [], 0⟩
theorem comp22 : compFun Go.Proofs.Try.prog 22 = some (afOf Go.Proofs.Try.prog 22) := by kernel_rfl
theorem s22 : ∀ J a0 a1, seg0 (tabL tab22) Go.Proofs.Try.prog F22 (afOf Go.Proofs.Try.prog 22) J (a0, a1, ()) = tumble_Number a0 a1 := fun _ _ _ => by kernel_rfl
theorem cb22 : callable Go.Proofs.Try.prog 22 = true := by kernel_rfl
theorem tok22 : TabOK Go.Proofs.Try.prog tab22 := ⟨ok31, cb31, trivial⟩
theorem ok22 : con22.ok Go.Proofs.Try.prog 22 := fun a r h => fun_spec (f := F22) (tabL_ok tok22) (tabL_cb tok22) (by kernel_rfl) comp22 0 (a := a) ((s22 _ a.1 a.2.1).trans h)
/- tailwater/tumble.Of -/
def con14 : TCon := ⟨[.c (.int .i64), .c (.int .i64)], [.a [.p (.int .i64), .p (.int .i64)], .c (.p (.int .i64))], fun a => tumble_Of a.1 a.2.1⟩
def tab14 : List (Nat × TCon) := [(22, con22)]
def F14 : TFun := ⟨[], [], con14.args, con14.res, List.replicate 4 (.c .any) ++ [.boxN 43 2 [.p (.int .i64), .p (.int .i64)]] ++ [.c (.p (.int .i64))] ++ List.replicate 20 (.c .any), [], [], 0⟩
theorem comp14 : compFun Go.Proofs.Try.prog 14 = some (afOf Go.Proofs.Try.prog 14) := by kernel_rfl
theorem s14 : ∀ J a0 a1, seg0 (tabL tab14) Go.Proofs.Try.prog F14 (afOf Go.Proofs.Try.prog 14) J (a0, a1, ()) = tumble_Of a0 a1 := fun _ _ _ => by kernel_rfl
theorem cb14 : callable Go.Proofs.Try.prog 14 = true := by kernel_rfl
theorem tok14 : TabOK Go.Proofs.Try.prog tab14 := ⟨ok22, cb22, trivial⟩
theorem ok14 : con14.ok Go.Proofs.Try.prog 14 := fun a r h => fun_spec (f := F14) (tabL_ok tok14) (tabL_cb tok14) (by kernel_rfl) comp14 0 (a := a) ((s14 _ a.1 a.2.1).trans h)
end Tg
