/-
  RandomBelows: numbers below any limit are in range and grow with it, and are the reference's, for every seed and limits. No condition.
-/
import Derived.Test.YtpjmpmgomealmaaRax2
import Derived.Test.YtpjmpmgomealmaaRan
namespace Go.Proofs.Ytpjmpmgomealmaa.Pure
open Go.RowKit Go.Proofs.Ytpjmpmgomealmaa.Ra Go.Proofs.YtpjmpmgomealmaaW.PrintWords Go.Proofs.YtpjmpmgomealmaaW.PrintLast Go.Proofs.Ytpjmpmgomealmaa.Ran

theorem under_bd (t n : Int) (h0 : 0 ≤ t) (h1 : t < 4294967296) : 0 ≤ under t n ∧ (under t n < n ∨ n < 1 ∧ under t n = 0) := by
  unfold under
  by_cases h2 : n < 1
  · rw [if_pos h2]
    exact ⟨by omega, .inr ⟨h2, rfl⟩⟩
  · rw [if_neg h2]
    by_cases h3 : n < 2147483648
    · rw [if_pos h3]
      have hp : 0 ≤ t * n := Int.mul_nonneg h0 (by omega)
      have hq : t * n < 4294967296 * n := Int.mul_lt_mul_of_pos_right h1 (by omega)
      refine ⟨by omega, .inl ?_⟩
      omega
    · rw [if_neg h3]
      exact ⟨by omega, .inl (by omega)⟩
theorem under_low (t n : Int) (h : n < 1) : under t n = 0 := by unfold under; rw [if_pos h]
theorem under_mid (t n : Int) (h : 1 ≤ n) (h2 : n < 2147483648) : under t n = t * n / 4294967296 := by
  unfold under
  rw [if_neg (show ¬ n < 1 by omega), if_pos h2]
theorem under_high (t n : Int) (h : 2147483648 ≤ n) : under t n = t * 2147483648 / 4294967296 := by
  unfold under
  rw [if_neg (show ¬ n < 1 by omega), if_neg (show ¬ n < 2147483648 by omega)]
theorem under_mono (t n m : Int) (h0 : 0 ≤ t) (h1 : t < 4294967296) (h : n ≤ m) : under t n ≤ under t m := by
  have hm := under_bd t m h0 h1
  by_cases h2 : n < 1
  · rw [under_low t n h2]
    exact hm.1
  · by_cases h3 : m < 2147483648
    · rw [under_mid t n (by omega) (by omega), under_mid t m (by omega) h3]
      have hq : t * n ≤ t * m := Int.mul_le_mul_of_nonneg_left h h0
      exact Int.ediv_le_ediv (by omega) hq
    · rw [under_high t m (by omega)]
      by_cases h4 : n < 2147483648
      · rw [under_mid t n (by omega) h4]
        have hq : t * n ≤ t * 2147483648 := Int.mul_le_mul_of_nonneg_left (by omega) h0
        exact Int.ediv_le_ediv (by omega) hq
      · rw [under_high t n (by omega)]
        exact Int.le_refl _
theorem RandomBelows : imageeditorlaw25_RandomBelows.Pure := by
  intro s n m _ _ _
  refine ⟨10, ?_⟩
  have h0 := num_lt s n 0
  have h1 := num_lt s n m
  have hle : n ≤ mx n m := by unfold mx; split <;> omega
  have hb := under_bd (num s n 0) n h0.1 h0.2
  have hmono := under_mono (num s n 0) n (mx n m) h0.1 h0.2 hle
  unfold imageeditorlaw25_RandomBelows.f
  rw [below_f, below_f]
  simp only [bsome]
  rw [unit_f, refBelow_f]
  simp only [bsome, if_true]
  rw [refBelow_f]
  simp only [bsome, if_true]
  rw [if_pos (by omega)]
  by_cases hlt : under (num s n 0) n < n
  · rw [if_pos hlt, if_pos hmono, if_pos (by omega), if_pos (by omega), example_f]
    simp only [bsome]
  · rw [if_neg hlt, if_pos (by omega), if_pos (by omega), if_pos hmono, if_pos (by omega), if_pos (by omega), example_f]
    simp only [bsome]
end Go.Proofs.Ytpjmpmgomealmaa.Pure
