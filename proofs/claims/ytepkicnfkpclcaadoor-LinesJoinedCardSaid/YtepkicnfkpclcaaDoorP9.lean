import Derived.Test.YtepkicnfkpclcaaDoorP
import Derived.Test.YtepkicnfkpclcaaDoorljA
/- The law of LinesJoined, told plainly. -/
set_option linter.unusedVariables false
set_option linter.unusedSimpArgs false
namespace Tg
open Go
open Go.Abs (fuel bigOk)
theorem outP_small (x : Ou) (h1 : x.1.length ≤ 4000) (h2 : x.2.1.length ≤ 4000) : outP x = bif x.1.all rowOk && x.2.1.all recOk then (outT x, 0, ()) else ([], 8, ()) := by
  unfold outP
  rw [decide_eq_false (show ¬ x.1.length > 4000 by omega), decide_eq_false (show ¬ x.2.1.length > 4000 by omega)]
  rfl
theorem flat_len {α : Type} (f : α → List UInt8) (k : Nat) : ∀ (l : List α), (∀ a ∈ l, (f a).length ≤ k) → (l.flatMap f).length ≤ k * l.length
  | [], _ => by simp
  | a :: l, h => by
    have h1 := h a (by simp)
    have h2 := flat_len f k l fun b hb => h b (by simp [hb])
    rw [List.flatMap_cons, List.length_append, List.length_cons, Nat.mul_succ]
    omega
theorem outT_len (x : Ou) (h1 : x.1.all rowIn = true) (h2 : x.2.1.all recIn = true) : (outT x).length ≤ 121 * (x.1.length + x.2.1.length) := by
  have a := flat_len (fun r => rowT r ++ [10]) 121 x.1 fun r hr => by
    have := rowT_len (List.all_eq_true.1 h1 r hr)
    simp
    omega
  have b := flat_len (fun r => recT r ++ [10]) 121 x.2.1 fun r hr => by
    have := recT_len (List.all_eq_true.1 h2 r hr)
    simp
    omega
  unfold outT
  rw [List.length_append]
  omega
theorem lo_small (x : Ou) (i1 : x.1.all rowIn = true) (i2 : x.2.1.all recIn = true) (h1 : x.1.length ≤ 4000) (h2 : x.2.1.length ≤ 4000) : lines_Outputs x = some (bif x.1.all rowOk && x.2.1.all recOk then (outT x, 0, ()) else ([], 8, ())) := by
  rw [louts_eq x i1 i2 (by omega) (by omega), outP_small x h1 h2]
theorem joined_true (x y : Ou) (i1 : x.1.all rowIn = true) (i2 : x.2.1.all recIn = true) (i3 : y.1.all rowIn = true) (i4 : y.2.1.all recIn = true) : law45_LinesJoined x y = some (true, ()) := by
  obtain ⟨b1, g1, q1⟩ := great_s x
  obtain ⟨b2, g2, q2⟩ := great_s y
  obtain ⟨n, hn⟩ : ∃ n, fuel = n + 1 + 1 + 1 + 1 + 1 + 1 + 1 + 1 + 1 + 1 := ⟨1152921504606846966, rfl⟩
  unfold law45_LinesJoined law45_LinesJoined_c
  rw [hn, g1, g2]
  by_cases l1 : x.1.length > 1000
  · rw [decide_eq_true (show Int.ofNat (List.length x.1) > 1000 by simp; omega)]
    rfl
  rw [decide_eq_false (show ¬ Int.ofNat (List.length x.1) > 1000 by simp; omega), cond_false]
  by_cases l2 : y.1.length > 1000
  · rw [decide_eq_true (show Int.ofNat (List.length y.1) > 1000 by simp; omega)]
    rfl
  rw [decide_eq_false (show ¬ Int.ofNat (List.length y.1) > 1000 by simp; omega), cond_false]
  by_cases l3 : x.2.1.length > 1000
  · rw [decide_eq_true (show Int.ofNat (List.length x.2.1) > 1000 by simp; omega)]
    rfl
  rw [decide_eq_false (show ¬ Int.ofNat (List.length x.2.1) > 1000 by simp; omega), cond_false]
  by_cases l4 : y.2.1.length > 1000
  · rw [decide_eq_true (show Int.ofNat (List.length y.2.1) > 1000 by simp; omega)]
    rfl
  rw [decide_eq_false (show ¬ Int.ofNat (List.length y.2.1) > 1000 by simp; omega), cond_false]
  cases b1 with
  | true => rfl
  | false =>
    cases b2 with
    | true => rfl
    | false =>
      simp only [cond_false]
      have a1 := lo_small (x.1, [], ()) i1 rfl (by show x.1.length ≤ _; omega) (by simp)
      have a2 := lo_small (y.1, [], ()) i3 rfl (by show y.1.length ≤ _; omega) (by simp)
      have a3 := lo_small (x.1 ++ y.1, [], ()) (by simp only [List.all_append, i1, i3, Bool.and_self]) rfl (by simp; omega) (by simp)
      have a4 := lo_small ([], x.2.1, ()) rfl i2 (by simp) (by show x.2.1.length ≤ _; omega)
      have a5 := lo_small ([], y.2.1, ()) rfl i4 (by simp) (by show y.2.1.length ≤ _; omega)
      have a6 := lo_small ([], x.2.1 ++ y.2.1, ()) rfl (by simp only [List.all_append, i2, i4, Bool.and_self]) (by simp) (by simp; omega)
      have a7 := lo_small (x.1, x.2.1, ()) i1 i2 (by show x.1.length ≤ _; omega) (by show x.2.1.length ≤ _; omega)
      have t1 := outT_len (x.1, [], ()) i1 rfl
      have t2 := outT_len (y.1, [], ()) i3 rfl
      have t4 := outT_len ([], x.2.1, ()) rfl i2
      have t5 := outT_len ([], y.2.1, ()) rfl i4
      have u3 : outT (x.1 ++ y.1, [], ()) = outT (x.1, [], ()) ++ outT (y.1, [], ()) := by simp [outT]
      have u6 : outT ([], x.2.1 ++ y.2.1, ()) = outT ([], x.2.1, ()) ++ outT ([], y.2.1, ()) := by simp [outT]
      have u7 : outT (x.1, x.2.1, ()) = outT (x.1, [], ()) ++ outT ([], x.2.1, ()) := by simp [outT]
      simp only [List.all_append, List.all_nil, Bool.and_true, Bool.true_and, u3, u6, u7] at a1 a2 a3 a4 a5 a6 a7
      simp only [List.length_nil, Nat.add_zero, Nat.zero_add] at t1 t2 t4 t5
      have k1 : decide ((outT (x.1, [], ())).length + (outT (y.1, [], ())).length ≤ 9223372036854775807) = true := decide_eq_true (by omega)
      have k2 : decide ((outT ([], x.2.1, ())).length + (outT ([], y.2.1, ())).length ≤ 9223372036854775807) = true := decide_eq_true (by omega)
      have k3 : decide ((outT (x.1, [], ())).length + (outT ([], x.2.1, ())).length ≤ 9223372036854775807) = true := decide_eq_true (by omega)
      generalize outT (x.1, [], ()) = X1 at a1 a2 a3 a4 a5 a6 a7 k1 k2 k3
      generalize outT (y.1, [], ()) = X2 at a1 a2 a3 a4 a5 a6 a7 k1 k2 k3
      generalize outT ([], x.2.1, ()) = X3 at a1 a2 a3 a4 a5 a6 a7 k1 k2 k3
      generalize outT ([], y.2.1, ()) = X4 at a1 a2 a3 a4 a5 a6 a7 k1 k2 k3
      generalize x.1.all rowOk = R1 at a1 a2 a3 a4 a5 a6 a7
      generalize y.1.all rowOk = R2 at a1 a2 a3 a4 a5 a6 a7
      generalize x.2.1.all recOk = C1 at a1 a2 a3 a4 a5 a6 a7
      generalize y.2.1.all recOk = C2 at a1 a2 a3 a4 a5 a6 a7
      have m1 := big9 (n := 0 + x.1.length) (b := 40) (by omega) (by decide)
      have m2 := big9 (n := x.1.length + y.1.length) (b := 40) (by omega) (by decide)
      have m3 := big9 (n := 0 + x.2.1.length) (b := 24) (by omega) (by decide)
      have m4 := big9 (n := x.2.1.length + y.2.1.length) (b := 24) (by omega) (by decide)
      simp only [law45_LinesJoined_i3, law45_LinesJoined_c3, a1, law45_LinesJoined_i8, law45_LinesJoined_c8, a2, law45_LinesJoined_i10, law45_LinesJoined_c10, m1, m2, cond_true, a3, law45_LinesJoined_i12, law45_LinesJoined_c12, a4, law45_LinesJoined_i13, law45_LinesJoined_c13, a5, law45_LinesJoined_i15, law45_LinesJoined_c15, m3, m4, a6, law45_LinesJoined_i17, law45_LinesJoined_c17, a7, law45_LinesJoined_i18, law45_LinesJoined_c18, law45_LinesJoined_i20, law45_LinesJoined_c20]
      cases R1 <;> cases R2 <;> cases C1 <;> cases C2 <;> simp [k1, k2, k3]
end Tg
