/- Comparing angles, cyclic orders and arcs: the printed functions' plain values. -/
import Derived.Test.YtkdefglfolmfbaaAngCore
import Derived.Test.YtkdefglfolmfbaaQx20
import Derived.Test.YtkdefglfolmfbaaQx12
namespace Go.Proofs.Ytkdefglfolmfbaa.Q
open Go.RowKit Go.Proofs.YtkdefglfolmfbaaW.PrintWords Go.Proofs.YtkdefglfolmfbaaW.PrintLast Go.Proofs.YtkdefglfolmfbaaW.Ext Go.Proofs.Ytkdefglfolmfbaa.Ang
set_option linter.unusedVariables false

/-- What is small enough for products: Nums and Dens below 2^31. -/
def small (n d : Int) : Prop := 0 ≤ n ∧ n ≤ 2147483648 ∧ 1 ≤ d ∧ d ≤ 2147483648
theorem isA_small {n d : Int} (h : isA n d = true) : small n d := by
  obtain ⟨a, b, c, e, _⟩ := isA_iff.1 h
  exact ⟨by omega, by omega, by omega, by omega⟩
theorem mul_in {x y : Int} (h0 : 0 ≤ x) (h1 : x ≤ 2147483648) (h2 : 0 ≤ y) (h3 : y ≤ 2147483648) : 0 ≤ x * y ∧ x * y ≤ 4611686018427387904 := by
  have a : 0 ≤ x * y := Int.mul_nonneg h0 h2
  have b : x * y ≤ 2147483648 * y := Int.mul_le_mul_of_nonneg_right h1 h2
  omega
theorem less_val {a b c d : Int} (h : small a b) (k : small c d) : spec_l01Less.f a b c d = some (decide (lt (a, b) (c, d))) := by
  obtain ⟨h1, h2, h3, h4⟩ := h
  obtain ⟨k1, k2, k3, k4⟩ := k
  have p := mul_in h1 h2 (show 0 ≤ d by omega) k4
  have q := mul_in k1 k2 (show 0 ≤ b by omega) h4
  unfold spec_l01Less.f lt
  rw [wrap_in (by omega) (by omega), wrap_in (by omega) (by omega)]
/-- -1, 0 or 1. -/
def cmpA (a b : Int × Int) : Int := if lt a b then -1 else if lt b a then 1 else 0
theorem compare_val {a b c d : Int} (h : small a b) (k : small c d) : impl_Angle_compare.f a b c d = some (cmpA (a, b) (c, d)) := by
  obtain ⟨h1, h2, h3, h4⟩ := h
  obtain ⟨k1, k2, k3, k4⟩ := k
  have p := mul_in h1 h2 (show 0 ≤ d by omega) k4
  have q := mul_in k1 k2 (show 0 ≤ b by omega) h4
  unfold impl_Angle_compare.f cmp_Compare_int64.f cmp_isNaN_int64.f cmpA lt
  rw [wrap_in (by omega) (by omega), wrap_in (by omega) (by omega)]
  simp
  by_cases e1 : a * d < c * b
  · simp [e1]
  · by_cases e2 : c * b < a * d
    · simp [e1, e2]
    · simp [e1, e2]
theorem cmpA_neg {a b : Int × Int} : cmpA a b < 0 ↔ lt a b := by
  unfold cmpA
  by_cases h : lt a b
  · simp [h]
  · by_cases k : lt b a <;> simp [h, k]
theorem cmpA_pos {a b : Int × Int} : cmpA a b > 0 ↔ lt b a := by
  unfold cmpA
  by_cases h : lt a b
  · have := lt_asymm h
    simp [h, this]
  · by_cases k : lt b a <;> simp [h, k]
theorem eq_pair {a b c d : Int} : (a == c && (b == d)) = decide ((a, b) = (c, d)) := by
  rw [Bool.eq_iff_iff]; simp
end Go.Proofs.Ytkdefglfolmfbaa.Q
