import Derived.Test.YtiilfgphdpcioaaAbsB6
import Derived.Test.Ytiilfgphdpcioaaw3A
import Derived.Test.YtiilfgphdpcioaaHandB
import Derived.Test.YtiilfgphdpcioaaProg
import Derived.Test.Ytiilfgphdpcioaaw3B0
import Derived.Test.Ytiilfgphdpcioaaw3B1h15
import Derived.Test.Ytiilfgphdpcioaaw3B1h38
import Derived.Test.Ytiilfgphdpcioaaw3B1h40
import Derived.Test.Ytiilfgphdpcioaaw3B1h42
/- Contracts of functions, checked by the kernel. -/
set_option linter.unusedVariables false
namespace Tg
open Go.Abs
/- tailwater/nodes.check -/
def con33 : TCon := ⟨[.c (.sl [.int .u8, .int .i64, .int .i64, .int .i64, .int .i64])], [.c (.p (.sl [.int .i64, .int .i64, .int .i64])), .c (.p (.int .i64))], fun a => nodes_check a.1⟩
def tab33 : List (Nat × TCon) := [(40, con40p)]
def F33 : TFun := ⟨[], [], con33.args, con33.res, List.replicate 2 (.c .any) ++ [.c (.p (.sl [.int .i64, .int .i64, .int .i64]))] ++ [.c (.p (.int .i64))] ++ List.replicate 21 (.c .any), [], [], 0⟩
theorem comp33 : compFun Go.Proofs.Try.prog 33 = some (afOf Go.Proofs.Try.prog 33) := by kernel_rfl
theorem s33 : ∀ J a0, seg0 (tabL tab33) Go.Proofs.Try.prog F33 (afOf Go.Proofs.Try.prog 33) J (a0, ()) = nodes_check a0 := fun _ _ => by kernel_rfl
theorem cb33 : callable Go.Proofs.Try.prog 33 = true := by kernel_rfl
theorem tok33 : TabOK Go.Proofs.Try.prog tab33 := ⟨ok40p, cb40, trivial⟩
theorem ok33 : con33.ok Go.Proofs.Try.prog 33 := fun a r h => fun_spec (f := F33) (tabL_ok tok33) (tabL_cb tok33) (by kernel_rfl) comp33 0 (a := a) ((s33 _ a.1).trans h)
/- tailwater/nodes.Check -/
def con24 : TCon := ⟨[.c (.sl [.int .u8, .int .i64, .int .i64, .int .i64, .int .i64])], [.c (.p (.int .i64))], fun a => nodes_Check a.1⟩
def tab24 : List (Nat × TCon) := [(33, con33)]
def F24 : TFun := ⟨[], [], con24.args, con24.res, List.replicate 2 (.c .any) ++ [.c (.p (.int .i64))] ++ List.replicate 8 (.c .any), [], [], 0⟩
theorem comp24 : compFun Go.Proofs.Try.prog 24 = some (afOf Go.Proofs.Try.prog 24) := by kernel_rfl
theorem s24 : ∀ J a0, seg0 (tabL tab24) Go.Proofs.Try.prog F24 (afOf Go.Proofs.Try.prog 24) J (a0, ()) = nodes_Check a0 := fun _ _ => by kernel_rfl
theorem cb24 : callable Go.Proofs.Try.prog 24 = true := by kernel_rfl
theorem tok24 : TabOK Go.Proofs.Try.prog tab24 := ⟨ok33, cb33, trivial⟩
theorem ok24 : con24.ok Go.Proofs.Try.prog 24 := fun a r h => fun_spec (f := F24) (tabL_ok tok24) (tabL_cb tok24) (by kernel_rfl) comp24 0 (a := a) ((s24 _ a.1).trans h)
/- tailwater/clauses.Check -/
def con16 : TCon := ⟨[.a [.int .u8, .sl [.int .u8, .int .i64, .int .i64, .int .i64, .int .i64], .sl [.int .i64], .bool, .sl [.int .u8, .int .i64, .int .i64, .int .i64, .int .i64], .int .u8, .int .i64, .int .i64, .bool, .int .u8]], [.c (.p (.int .i64))], fun a => clauses_Check a.1⟩
def tab16 : List (Nat × TCon) := [(24, con24), (25, con25), (13, con13)]
def F16 : TFun := ⟨[4, 12], [(4, List.replicate 1 (.c .any) ++ [.boxN 27 10 [.any, .any, .p (.sl [.int .i64]), .p (.bool), .p (.sl [.int .u8, .int .i64, .int .i64, .int .i64, .int .i64]), .p (.int .u8), .p (.int .i64), .p (.int .i64), .any, .any]] ++ List.replicate 64 (.c .any)), (12, List.replicate 1 (.c .any) ++ [.boxN 27 10 [.any, .any, .p (.sl [.int .i64]), .p (.bool), .any, .p (.int .u8), .p (.int .i64), .p (.int .i64), .any, .any]] ++ List.replicate 64 (.c .any))], con16.args, con16.res, List.replicate 2 (.c .any) ++ [.c (.p (.int .i64))] ++ List.replicate 63 (.c .any), [], [], 0⟩
theorem comp16 : compFun Go.Proofs.Try.prog 16 = some (afOf Go.Proofs.Try.prog 16) := by kernel_rfl
theorem s16 : ∀ J a0, seg0 (tabL tab16) Go.Proofs.Try.prog F16 (afOf Go.Proofs.Try.prog 16) J (a0, ()) = clauses_Check_c (fun y0 y1 y2 y3 y4 y5 => J 4 (y0, y1, y2, y3, y4, y5, ())) (fun y0 y1 y2 y3 y4 => J 12 (y0, y1, y2, y3, y4, ())) a0 := fun _ _ => by kernel_rfl
theorem s16_4 : ∀ J x0 x1 x2 x3 x4 x5, seg (tabL tab16) Go.Proofs.Try.prog F16 (afOf Go.Proofs.Try.prog 16) J 4 (x0, x1, x2, x3, x4, x5, ()) = clauses_Check_c4 (fun y0 y1 y2 y3 y4 y5 => J 4 (y0, y1, y2, y3, y4, y5, ())) (fun y0 y1 y2 y3 y4 => J 12 (y0, y1, y2, y3, y4, ())) x0 x1 x2 x3 x4 x5 := fun _ _ _ _ _ _ _ => by kernel_rfl
theorem s16_12 : ∀ J x0 x1 x2 x3 x4, seg (tabL tab16) Go.Proofs.Try.prog F16 (afOf Go.Proofs.Try.prog 16) J 12 (x0, x1, x2, x3, x4, ()) = clauses_Check_c12 (fun y0 y1 y2 y3 y4 y5 => J 4 (y0, y1, y2, y3, y4, y5, ())) (fun y0 y1 y2 y3 y4 => J 12 (y0, y1, y2, y3, y4, ())) x0 x1 x2 x3 x4 := fun _ _ _ _ _ _ => by kernel_rfl
theorem i16 : ∀ n, clauses_Check_i4 n = (fun y0 y1 y2 y3 y4 y5 => (iter (tabL tab16) Go.Proofs.Try.prog F16 (afOf Go.Proofs.Try.prog 16) n) 4 (y0, y1, y2, y3, y4, y5, ())) ∧ clauses_Check_i12 n = (fun y0 y1 y2 y3 y4 => (iter (tabL tab16) Go.Proofs.Try.prog F16 (afOf Go.Proofs.Try.prog 16) n) 12 (y0, y1, y2, y3, y4, ()))
  | 0 => ⟨rfl, rfl⟩
  | n + 1 => by
    obtain ⟨h4, h12⟩ := i16 n
    exact ⟨funext fun x0 => funext fun x1 => funext fun x2 => funext fun x3 => funext fun x4 => funext fun x5 => ((s16_4 _ x0 x1 x2 x3 x4 x5).trans (by show _ = clauses_Check_c4 (clauses_Check_i4 n) (clauses_Check_i12 n) x0 x1 x2 x3 x4 x5; rw [h4, h12]; try rfl)).symm, funext fun x0 => funext fun x1 => funext fun x2 => funext fun x3 => funext fun x4 => ((s16_12 _ x0 x1 x2 x3 x4).trans (by show _ = clauses_Check_c12 (clauses_Check_i4 n) (clauses_Check_i12 n) x0 x1 x2 x3 x4; rw [h4, h12]; try rfl)).symm⟩
theorem cb16 : callable Go.Proofs.Try.prog 16 = true := by kernel_rfl
theorem tok16 : TabOK Go.Proofs.Try.prog tab16 := ⟨ok24, cb24, ok25, cb25, ok13, cb13, trivial⟩
theorem ok16 : con16.ok Go.Proofs.Try.prog 16 := fun a r h => by
  obtain ⟨h4, h12⟩ := i16 fuel
  refine fun_spec (f := F16) (tabL_ok tok16) (tabL_cb tok16) (by kernel_rfl) comp16 fuel (a := a) ((s16 _ a.1).trans ?_)
  have h : clauses_Check_c (clauses_Check_i4 fuel) (clauses_Check_i12 fuel) a.1 = some r := h
  rw [h4, h12] at h
  exact h
/- tailwater/kinds.Of -/
def con37 : TCon := ⟨[.c (.sl [.int .u8, .int .i64, .int .i64, .int .i64, .int .i64])], [.c (.p (.bool)), .c (.p (.int .i64)), .c (.p (.int .i64))], fun a => kinds_Of a.1⟩
def tab37 : List (Nat × TCon) := [(24, con24), (42, con42p)]
def F37 : TFun := ⟨[], [], con37.args, con37.res, List.replicate 2 (.c .any) ++ [.c (.p (.bool))] ++ [.c (.p (.int .i64))] ++ [.c (.p (.int .i64))] ++ List.replicate 25 (.c .any), [], [], 0⟩
theorem comp37 : compFun Go.Proofs.Try.prog 37 = some (afOf Go.Proofs.Try.prog 37) := by kernel_rfl
theorem s37 : ∀ J a0, seg0 (tabL tab37) Go.Proofs.Try.prog F37 (afOf Go.Proofs.Try.prog 37) J (a0, ()) = kinds_Of a0 := fun _ _ => by kernel_rfl
theorem cb37 : callable Go.Proofs.Try.prog 37 = true := by kernel_rfl
theorem tok37 : TabOK Go.Proofs.Try.prog tab37 := ⟨ok24, cb24, ok42p, cb42, trivial⟩
theorem ok37 : con37.ok Go.Proofs.Try.prog 37 := fun a r h => fun_spec (f := F37) (tabL_ok tok37) (tabL_cb tok37) (by kernel_rfl) comp37 0 (a := a) ((s37 _ a.1).trans h)
/- tailwater/kinds.want -/
def con26 : TCon := ⟨[.c (.sl [.int .u8, .int .i64, .int .i64, .int .i64, .int .i64]), .c (.bool)], [.c (.p (.int .i64)), .c (.p (.int .i64))], fun a => kinds_want a.1 a.2.1⟩
def tab26 : List (Nat × TCon) := [(37, con37)]
def F26 : TFun := ⟨[], [], con26.args, con26.res, List.replicate 4 (.c .any) ++ [.c (.p (.int .i64))] ++ [.c (.p (.int .i64))] ++ List.replicate 18 (.c .any), [], [], 0⟩
theorem comp26 : compFun Go.Proofs.Try.prog 26 = some (afOf Go.Proofs.Try.prog 26) := by kernel_rfl
theorem s26 : ∀ J a0 a1, seg0 (tabL tab26) Go.Proofs.Try.prog F26 (afOf Go.Proofs.Try.prog 26) J (a0, a1, ()) = kinds_want a0 a1 := fun _ _ _ => by kernel_rfl
theorem cb26 : callable Go.Proofs.Try.prog 26 = true := by kernel_rfl
theorem tok26 : TabOK Go.Proofs.Try.prog tab26 := ⟨ok37, cb37, trivial⟩
theorem ok26 : con26.ok Go.Proofs.Try.prog 26 := fun a r h => fun_spec (f := F26) (tabL_ok tok26) (tabL_cb tok26) (by kernel_rfl) comp26 0 (a := a) ((s26 _ a.1 a.2.1).trans h)
/- tailwater/kinds.Number -/
def con18 : TCon := ⟨[.c (.sl [.int .u8, .int .i64, .int .i64, .int .i64, .int .i64])], [.c (.p (.int .i64)), .c (.p (.int .i64))], fun a => kinds_Number a.1⟩
def tab18 : List (Nat × TCon) := [(26, con26)]
def F18 : TFun := ⟨[], [], con18.args, con18.res, List.replicate 2 (.c .any) ++ [.c (.p (.int .i64))] ++ [.c (.p (.int .i64))] ++ List.replicate 4 (.c .any), [], [], 0⟩
theorem comp18 : compFun Go.Proofs.Try.prog 18 = some (afOf Go.Proofs.Try.prog 18) := by kernel_rfl
theorem s18 : ∀ J a0, seg0 (tabL tab18) Go.Proofs.Try.prog F18 (afOf Go.Proofs.Try.prog 18) J (a0, ()) = kinds_Number a0 := fun _ _ => by kernel_rfl
theorem cb18 : callable Go.Proofs.Try.prog 18 = true := by kernel_rfl
theorem tok18 : TabOK Go.Proofs.Try.prog tab18 := ⟨ok26, cb26, trivial⟩
theorem ok18 : con18.ok Go.Proofs.Try.prog 18 := fun a r h => fun_spec (f := F18) (tabL_ok tok18) (tabL_cb tok18) (by kernel_rfl) comp18 0 (a := a) ((s18 _ a.1).trans h)
/- tailwater/kinds.Truth -/
def con19 : TCon := ⟨[.c (.sl [.int .u8, .int .i64, .int .i64, .int .i64, .int .i64])], [.c (.p (.int .i64)), .c (.p (.int .i64))], fun a => kinds_Truth a.1⟩
def tab19 : List (Nat × TCon) := [(26, con26)]
def F19 : TFun := ⟨[], [], con19.args, con19.res, List.replicate 2 (.c .any) ++ [.c (.p (.int .i64))] ++ [.c (.p (.int .i64))] ++ List.replicate 4 (.c .any), [], [], 0⟩
theorem comp19 : compFun Go.Proofs.Try.prog 19 = some (afOf Go.Proofs.Try.prog 19) := by kernel_rfl
theorem s19 : ∀ J a0, seg0 (tabL tab19) Go.Proofs.Try.prog F19 (afOf Go.Proofs.Try.prog 19) J (a0, ()) = kinds_Truth a0 := fun _ _ => by kernel_rfl
theorem cb19 : callable Go.Proofs.Try.prog 19 = true := by kernel_rfl
theorem tok19 : TabOK Go.Proofs.Try.prog tab19 := ⟨ok26, cb26, trivial⟩
theorem ok19 : con19.ok Go.Proofs.Try.prog 19 := fun a r h => fun_spec (f := F19) (tabL_ok tok19) (tabL_cb tok19) (by kernel_rfl) comp19 0 (a := a) ((s19 _ a.1).trans h)
/- tailwater/checks.Check -/
def con9 : TCon := ⟨[.a [.int .u8, .sl [.int .u8, .int .i64, .int .i64, .int .i64, .int .i64], .sl [.int .i64], .bool, .sl [.int .u8, .int .i64, .int .i64, .int .i64, .int .i64], .int .u8, .int .i64, .int .i64, .bool, .int .u8]], [.c (.p (.int .i64)), .c (.p (.int .i64))], fun a => checks_Check a.1⟩
def tab9 : List (Nat × TCon) := [(16, con16), (18, con18), (19, con19)]
def F9 : TFun := ⟨[], [], con9.args, con9.res, List.replicate 2 (.c .any) ++ [.c (.p (.int .i64))] ++ [.c (.p (.int .i64))] ++ List.replicate 16 (.c .any), [(11, [4]), (7, [17])], [], 8⟩
theorem comp9 : compFun Go.Proofs.Try.prog 9 = some (afOf Go.Proofs.Try.prog 9) := by kernel_rfl
theorem s9 : ∀ J a0, seg0 (tabL tab9) Go.Proofs.Try.prog F9 (afOf Go.Proofs.Try.prog 9) J (a0, ()) = checks_Check a0 := fun _ _ => by kernel_rfl
theorem cb9 : callable Go.Proofs.Try.prog 9 = true := by kernel_rfl
theorem tok9 : TabOK Go.Proofs.Try.prog tab9 := ⟨ok16, cb16, ok18, cb18, ok19, cb19, trivial⟩
theorem ok9 : con9.ok Go.Proofs.Try.prog 9 := fun a r h => fun_spec (f := F9) (tabL_ok tok9) (tabL_cb tok9) (by kernel_rfl) comp9 0 (a := a) ((s9 _ a.1).trans h)
/- tailwater/bound.Many -/
def con5 : TCon := ⟨[.a [.int .u8, .sl [.int .u8, .int .i64, .int .i64, .int .i64, .int .i64], .sl [.int .i64], .bool, .sl [.int .u8, .int .i64, .int .i64, .int .i64, .int .i64], .int .u8, .int .i64, .int .i64, .bool, .int .u8]], [.c (.p (.int .i64)), .c (.p (.int .i64))], fun a => bound_Many a.1⟩
def tab5 : List (Nat × TCon) := [(9, con9), (10, con10)]
def F5 : TFun := ⟨[], [], con5.args, con5.res, List.replicate 2 (.c .any) ++ [.c (.p (.int .i64))] ++ [.c (.p (.int .i64))] ++ List.replicate 13 (.c .any), [], [], 0⟩
theorem comp5 : compFun Go.Proofs.Try.prog 5 = some (afOf Go.Proofs.Try.prog 5) := by kernel_rfl
theorem s5 : ∀ J a0, seg0 (tabL tab5) Go.Proofs.Try.prog F5 (afOf Go.Proofs.Try.prog 5) J (a0, ()) = bound_Many a0 := fun _ _ => by kernel_rfl
theorem cb5 : callable Go.Proofs.Try.prog 5 = true := by kernel_rfl
theorem tok5 : TabOK Go.Proofs.Try.prog tab5 := ⟨ok9, cb9, ok10, cb10, trivial⟩
theorem ok5 : con5.ok Go.Proofs.Try.prog 5 := fun a r h => fun_spec (f := F5) (tabL_ok tok5) (tabL_cb tok5) (by kernel_rfl) comp5 0 (a := a) ((s5 _ a.1).trans h)
/- tailwater/tailwaterref04.Check -/
def con27 : TCon := ⟨[.c (.sl [.int .u8, .int .i64, .int .i64, .int .i64, .int .i64])], [.c (.p (.int .i64))], fun a => ref04_Check a.1⟩
def tab27 : List (Nat × TCon) := [(38, con38p)]
def F27 : TFun := ⟨[], [], con27.args, con27.res, List.replicate 2 (.c .any) ++ [.c (.p (.int .i64))] ++ List.replicate 21 (.c .any), [], [], 0⟩
theorem comp27 : compFun Go.Proofs.Try.prog 27 = some (afOf Go.Proofs.Try.prog 27) := by kernel_rfl
theorem s27 : ∀ J a0, seg0 (tabL tab27) Go.Proofs.Try.prog F27 (afOf Go.Proofs.Try.prog 27) J (a0, ()) = ref04_Check a0 := fun _ _ => by kernel_rfl
theorem cb27 : callable Go.Proofs.Try.prog 27 = true := by kernel_rfl
theorem tok27 : TabOK Go.Proofs.Try.prog tab27 := ⟨ok38p, cb38, trivial⟩
theorem ok27 : con27.ok Go.Proofs.Try.prog 27 := fun a r h => fun_spec (f := F27) (tabL_ok tok27) (tabL_cb tok27) (by kernel_rfl) comp27 0 (a := a) ((s27 _ a.1).trans h)
/- tailwater/tailwaterref06.Of -/
def con39 : TCon := ⟨[.c (.sl [.int .u8, .int .i64, .int .i64, .int .i64, .int .i64])], [.c (.p (.bool)), .c (.p (.int .i64)), .c (.p (.int .i64))], fun a => ref06_Of a.1⟩
def tab39 : List (Nat × TCon) := [(27, con27), (45, con45), (46, con46)]
def F39 : TFun := ⟨[], [], con39.args, con39.res, List.replicate 2 (.c .any) ++ [.c (.p (.bool))] ++ [.c (.p (.int .i64))] ++ [.c (.p (.int .i64))] ++ List.replicate 24 (.c .any), [], [], 0⟩
theorem comp39 : compFun Go.Proofs.Try.prog 39 = some (afOf Go.Proofs.Try.prog 39) := by kernel_rfl
theorem s39 : ∀ J a0, seg0 (tabL tab39) Go.Proofs.Try.prog F39 (afOf Go.Proofs.Try.prog 39) J (a0, ()) = ref06_Of a0 := fun _ _ => by kernel_rfl
theorem cb39 : callable Go.Proofs.Try.prog 39 = true := by kernel_rfl
theorem tok39 : TabOK Go.Proofs.Try.prog tab39 := ⟨ok27, cb27, ok45, cb45, ok46, cb46, trivial⟩
theorem ok39 : con39.ok Go.Proofs.Try.prog 39 := fun a r h => fun_spec (f := F39) (tabL_ok tok39) (tabL_cb tok39) (by kernel_rfl) comp39 0 (a := a) ((s39 _ a.1).trans h)
/- tailwater/tailwaterref06.Want -/
def con30 : TCon := ⟨[.c (.sl [.int .u8, .int .i64, .int .i64, .int .i64, .int .i64]), .c (.bool)], [.c (.p (.int .i64)), .c (.p (.int .i64))], fun a => ref06_Want a.1 a.2.1⟩
def tab30 : List (Nat × TCon) := [(39, con39)]
def F30 : TFun := ⟨[], [], con30.args, con30.res, List.replicate 4 (.c .any) ++ [.c (.p (.int .i64))] ++ [.c (.p (.int .i64))] ++ List.replicate 19 (.c .any), [], [], 0⟩
theorem comp30 : compFun Go.Proofs.Try.prog 30 = some (afOf Go.Proofs.Try.prog 30) := by kernel_rfl
theorem s30 : ∀ J a0 a1, seg0 (tabL tab30) Go.Proofs.Try.prog F30 (afOf Go.Proofs.Try.prog 30) J (a0, a1, ()) = ref06_Want a0 a1 := fun _ _ _ => by kernel_rfl
theorem cb30 : callable Go.Proofs.Try.prog 30 = true := by kernel_rfl
theorem tok30 : TabOK Go.Proofs.Try.prog tab30 := ⟨ok39, cb39, trivial⟩
theorem ok30 : con30.ok Go.Proofs.Try.prog 30 := fun a r h => fun_spec (f := F30) (tabL_ok tok30) (tabL_cb tok30) (by kernel_rfl) comp30 0 (a := a) ((s30 _ a.1 a.2.1).trans h)
/- tailwater/tailwaterref10.Right -/
def con21 : TCon := ⟨[.a [.int .u8, .sl [.int .u8, .int .i64, .int .i64, .int .i64, .int .i64], .sl [.int .i64], .bool, .sl [.int .u8, .int .i64, .int .i64, .int .i64, .int .i64], .int .u8, .int .i64, .int .i64, .bool, .int .u8]], [.c (.p (.int .i64)), .c (.p (.int .i64))], fun a => ref10_Right a.1⟩
def tab21 : List (Nat × TCon) := [(30, con30)]
def F21 : TFun := ⟨[1], [(1, List.replicate 1 (.c .any) ++ [.boxN 27 10 [.any, .any, .any, .any, .p (.sl [.int .u8, .int .i64, .int .i64, .int .i64, .int .i64]), .any, .any, .any, .any, .any]] ++ List.replicate 44 (.c .any))], con21.args, con21.res, List.replicate 2 (.c .any) ++ [.c (.p (.int .i64))] ++ [.c (.p (.int .i64))] ++ List.replicate 42 (.c .any), [], [], 0⟩
theorem comp21 : compFun Go.Proofs.Try.prog 21 = some (afOf Go.Proofs.Try.prog 21) := by kernel_rfl
theorem s21 : ∀ J a0, seg0 (tabL tab21) Go.Proofs.Try.prog F21 (afOf Go.Proofs.Try.prog 21) J (a0, ()) = ref10_Right_c (fun y0 => J 1 (y0, ())) a0 := fun _ _ => by kernel_rfl
theorem s21_1 : ∀ J x0, seg (tabL tab21) Go.Proofs.Try.prog F21 (afOf Go.Proofs.Try.prog 21) J 1 (x0, ()) = ref10_Right_c1 (fun y0 => J 1 (y0, ())) x0 := fun _ _ => by kernel_rfl
theorem i21 : ∀ n, ref10_Right_i1 n = (fun y0 => (iter (tabL tab21) Go.Proofs.Try.prog F21 (afOf Go.Proofs.Try.prog 21) n) 1 (y0, ()))
  | 0 => rfl
  | n + 1 => by
    obtain h1 := i21 n
    exact funext fun x0 => ((s21_1 _ x0).trans (by show _ = ref10_Right_c1 (ref10_Right_i1 n) x0; rw [h1]; try rfl)).symm
theorem cb21 : callable Go.Proofs.Try.prog 21 = true := by kernel_rfl
theorem tok21 : TabOK Go.Proofs.Try.prog tab21 := ⟨ok30, cb30, trivial⟩
theorem ok21 : con21.ok Go.Proofs.Try.prog 21 := fun a r h => by
  obtain h1 := i21 fuel
  refine fun_spec (f := F21) (tabL_ok tok21) (tabL_cb tok21) (by kernel_rfl) comp21 fuel (a := a) ((s21 _ a.1).trans ?_)
  have h : ref10_Right_c (ref10_Right_i1 fuel) a.1 = some r := h
  rw [h1] at h
  exact h
/- tailwater/slide.Of -/
def con7 : TCon := ⟨[.a [.int .u8, .int .i64, .int .i64], .c (.int .i64)], [.c (.p (.sl [.int .i64, .int .i64])), .c (.p (.int .i64))], fun a => slide_Of a.1 a.2.1⟩
def tab7 : List (Nat × TCon) := [(13, con13), (14, con14), (15, con15p)]
def F7 : TFun := ⟨[], [], con7.args, con7.res, List.replicate 4 (.c .any) ++ [.c (.p (.sl [.int .i64, .int .i64]))] ++ [.c (.p (.int .i64))] ++ List.replicate 34 (.c .any), [], [], 0⟩
theorem comp7 : compFun Go.Proofs.Try.prog 7 = some (afOf Go.Proofs.Try.prog 7) := by kernel_rfl
theorem s7 : ∀ J a0 a1, seg0 (tabL tab7) Go.Proofs.Try.prog F7 (afOf Go.Proofs.Try.prog 7) J (a0, a1, ()) = slide_Of a0 a1 := fun _ _ _ => by kernel_rfl
theorem cb7 : callable Go.Proofs.Try.prog 7 = true := by kernel_rfl
theorem tok7 : TabOK Go.Proofs.Try.prog tab7 := ⟨ok13, cb13, ok14, cb14, ok15p, cb15, trivial⟩
theorem ok7 : con7.ok Go.Proofs.Try.prog 7 := fun a r h => fun_spec (f := F7) (tabL_ok tok7) (tabL_cb tok7) (by kernel_rfl) comp7 0 (a := a) ((s7 _ a.1 a.2.1).trans h)
end Tg
