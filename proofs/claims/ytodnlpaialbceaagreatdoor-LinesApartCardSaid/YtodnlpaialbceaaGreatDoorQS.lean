import Derived.Test.YtodnlpaialbceaaGreatDoorLA7
import Derived.Lib.ItoaLen
/- What the plain laws share. -/
set_option linter.unusedVariables false
set_option linter.unusedSimpArgs false
namespace Tg
open Go
open Go.Abs (fuel bigOk cloned tmm)
theorem fuel_s : ∃ n, fuel = n + 1000000000000 := ⟨1152920504606846976, rfl⟩
theorem w64 {x : Int} (h1 : -9223372036854775808 ≤ x) (h2 : x ≤ 9223372036854775807) : Go.IntKind.wrap Go.IntKind.i64 x = x := Go.IntWalk.i64_in _ (by omega)
theorem dT {p : Prop} [Decidable p] (h : p) : decide p = true := decide_eq_true h
theorem dF {p : Prop} [Decidable p] (h : ¬ p) : decide p = false := decide_eq_false h
theorem iL {i n : Nat} (h : i < n) : decide ((i : Int) < (n : Int)) = true := by simpa using h
theorem iG {i n : Nat} (h : ¬ i < n) : decide ((i : Int) < (n : Int)) = false := by simpa using h
theorem iN (i : Nat) : decide ((0 : Int) ≤ (i : Int)) = true := by simp
theorem wS {i : Nat} (h : i < 1000000000000) : Go.IntKind.wrap Go.IntKind.i64 ((i : Int) + 1) = ((i + 1 : Nat) : Int) := by
 rw [w64 (by omega) (by omega)]
 omega
theorem drop_get {α : Type} {s rest : List α} {i : Nat} {b : α} (h : s.drop i = b :: rest) : i < s.length ∧ s[i]? = some b ∧ s.drop (i + 1) = rest := by
 have hl : i < s.length := by
  rcases Nat.lt_or_ge i s.length with h' | h'
  · exact h'
  · rw [List.drop_eq_nil_of_le h'] at h; cases h
 rw [List.drop_eq_getElem_cons hl] at h
 obtain ⟨h1, h2⟩ := List.cons.inj h
 exact ⟨hl, by rw [List.getElem?_eq_getElem hl, h1], h2⟩
theorem drop_end {α : Type} {s : List α} {i : Nat} (h : s.drop i = []) (hi : i ≤ s.length) : i = s.length := by
 have := congrArg List.length h
 rw [List.length_drop] at this
 simp at this
 omega
end Tg

/- The reference's digits of a number that is not negative. -/
set_option linter.unusedVariables false
set_option linter.unusedSimpArgs false
namespace Tg
open Go
open Go.Abs (fuel bigOk)
theorem itoaF_len {n : Int} (h : in64 n = true) : (itoaF n).length ≤ 21 := by
 obtain ⟨h0, h1⟩ := in64_s h
 rw [itoaF_eq h0 h1]
 have := Lib.itoa_length_le n h0 h1
 omega
end Tg

/- What is in a right graph. -/
set_option linter.unusedVariables false
set_option linter.unusedSimpArgs false
namespace Tg
theorem v3_mem {n : Nat} {chs : List Cn} : ∀ (l : List Op) (i : Nat), v3 n chs i l = true → ∀ o ∈ l, 1 ≤ o.1 ∧ o.1 ≤ 7 ∧ 0 ≤ o.2.1 ∧ o.2.1 ≤ 3
 | [], _, _, _, h => by cases h
 | x :: l, i, h, o, ho => by
  simp only [v3, manyB, Bool.and_eq_true, decide_eq_true_eq] at h
  obtain ⟨⟨h1, h2⟩, ⟨⟨h3, h4⟩, _⟩, _, h5⟩ := h
  rcases List.mem_cons.1 ho with rfl | ho
  · exact ⟨h3, h4, h1, h2⟩
  · exact v3_mem l (i + 1) h5 o ho
theorem v2_mem {chs : List Cn} : ∀ (l p : List Cn), v2 chs p l = true → ∀ c ∈ l, numsOk chs c = true
 | [], _, _, _, h => by cases h
 | x :: l, p, h, c, hc => by
  simp only [v2, Bool.and_eq_true] at h
  rcases List.mem_cons.1 hc with rfl | hc
  · exact h.2.1
  · exact v2_mem l _ h.2.2 c hc
theorem cnt_le (b : Bool) (j : Int) (chs : List Cn) : cnt b j chs ≤ chs.length := List.length_filter_le _ _
theorem gchk_zero {x : Gr} (h : gChk x = 0) : x.1.length ≤ 20 ∧ x.2.1.length ≤ 100 ∧ gOkB x = true := by
 unfold gChk at h
 by_cases h1 : 20 < x.1.length
 · simp [h1] at h
 by_cases h2 : 100 < x.2.1.length
 · simp [h1, h2] at h
 refine ⟨by omega, by omega, ?_⟩
 cases hg : gOkB x with
 | true => rfl
 | false => simp [h1, h2, hg] at h
theorem gok_ops {x : Gr} (h : gOkB x = true) : ∀ o ∈ x.1, 1 ≤ o.1 ∧ o.1 ≤ 7 ∧ 0 ≤ o.2.1 ∧ o.2.1 ≤ 3 := by
 simp only [gOkB, Bool.and_eq_true] at h
 exact v3_mem x.1 0 h.2.2
theorem gok_chs {x : Gr} (h : gOkB x = true) (h1 : x.1.length ≤ 20) (h2 : x.2.1.length ≤ 100) : ∀ c ∈ x.2.1, (0 ≤ c.1 ∧ c.1 < 20) ∧ (0 ≤ c.2.1 ∧ c.2.1 < 100) ∧ (0 ≤ c.2.2.1 ∧ c.2.2.1 < 20) ∧ (0 ≤ c.2.2.2.1 ∧ c.2.2.2.1 < 100) ∧ (1 ≤ c.2.2.2.2.1 ∧ c.2.2.2.2.1 ≤ 8) := fun c hc => by
 simp only [gOkB, Bool.and_eq_true] at h
 have a := List.all_eq_true.1 h.1 c hc
 have b := v2_mem x.2.1 [] h.2.1 c hc
 simp only [okC, numsOk, Bool.and_eq_true, decide_eq_true_eq] at a b
 have e1 := cnt_le false c.1 x.2.1
 have e2 := cnt_le true c.2.2.1 x.2.1
 omega
end Tg
