/- Distances: the printed functions' plain values. -/
import Derived.Test.YtkdefglfolmfbaaAngOrder
import Derived.Test.YtkdefglfolmfbaaQx30
import Derived.Test.YtkdefglfolmfbaaQx28
namespace Go.Proofs.Ytkdefglfolmfbaa.Q
open Go.RowKit Go.Proofs.YtkdefglfolmfbaaW.PrintWords Go.Proofs.YtkdefglfolmfbaaW.PrintLast Go.Proofs.YtkdefglfolmfbaaW.Ext Go.Proofs.Ytkdefglfolmfbaa.Ang
set_option linter.unusedVariables false

/-- The smaller way from one to the other. -/
def distV (a b : Int × Int) : Int × Int := if lt (fwd b a) (fwd a b) then fwd b a else fwd a b
theorem ev_impl_dist {a b c d : Int} (h : isA a b = true) (k : isA c d = true) : Ev (fun n => impl_Angle_distance.f n a b c d) (distV (a, b) (c, d)) := by
  unfold impl_Angle_distance.f
  refine Ev.bind (ev_minus h k) ?_
  refine Ev.bind (ev_minus k h) ?_
  simp only [compare_val (fwd_small h k) (fwd_small k h), Option.bind_some, cmpA_neg]
  unfold distV
  by_cases z : lt (fwd (c, d) (a, b)) (fwd (a, b) (c, d))
  · simp only [if_pos z]; exact Ev.now _
  · simp only [if_neg z]; exact Ev.now _
theorem fwd_back {a b : Int × Int} (ha : wide a.1 a.2) (hb : wide b.1 b.2) : ang (-(fwd a b).1) (fwd a b).2 = fwd b a := by
  have A := ha.1; have B := hb.1
  unfold fwd
  rw [ang_neg (Int.mul_pos (by omega) (by omega)), Int.neg_sub, Int.mul_comm b.2 a.2]
theorem ev_spec_dist {a b c d : Int} (h : isA a b = true) (k : isA c d = true) : Ev (fun n => spec_l01Distance.f n a b c d) (distV (a, b) (c, d)) := by
  obtain ⟨h1, h2, h3, h4, _⟩ := isA_iff.1 h
  obtain ⟨k1, k2, k3, k4, _⟩ := isA_iff.1 k
  have p1 := prod_in h3 (show a ≤ 8191 by omega) (show 0 ≤ d by omega) k2
  have p2 := prod_in k3 (show c ≤ 8191 by omega) (show 0 ≤ b by omega) h2
  have p3 := prod_in (show 0 ≤ b by omega) h2 (show 0 ≤ d by omega) k2
  have p4 : 0 < b * d := Int.mul_pos (by omega) (by omega)
  have sm := fwd_small k h
  have sm2 := fwd_small h k
  obtain ⟨s1, s2, s3, s4⟩ := sm
  unfold spec_l01Distance.f
  rw [wrap_in (x := c * b) (by omega) (by omega), wrap_in (x := a * d) (by omega) (by omega), wrap_in (x := c * b - a * d) (by omega) (by omega), wrap_in (x := b * d) (by omega) (by omega)]
  have e : ang (c * b - a * d) (b * d) = fwd (a, b) (c, d) := by unfold fwd; rw [Int.mul_comm b d]
  refine Ev.bind (a := fwd (a, b) (c, d)) (e ▸ ev_spec_Of p4 (by omega)) ?_
  rw [wrap_in (x := -(fwd (a, b) (c, d)).1) (by omega) (by omega)]
  refine Ev.bind (ev_spec_Of (by omega) (by omega)) ?_
  rw [fwd_back (isA_wide h) (isA_wide k)]
  simp only [less_val sm2 ⟨s1, s2, s3, s4⟩, Option.bind_some, decide_eq_true_eq]
  unfold distV
  by_cases z : lt (fwd (c, d) (a, b)) (fwd (a, b) (c, d))
  · simp only [if_pos z]; exact Ev.now _
  · simp only [if_neg z]; exact Ev.now _
theorem told_same (a b : Int) : ∃ r, spec_l01Told.f a b = some r ∧ impl_limited.f a b = some r := by
  unfold spec_l01Told.f impl_limited.f
  by_cases z : b > 8191
  · exact ⟨_, by rw [if_pos z], by rw [if_pos z]⟩
  · exact ⟨_, by rw [if_neg z], by rw [if_neg z]⟩
end Go.Proofs.Ytkdefglfolmfbaa.Q
