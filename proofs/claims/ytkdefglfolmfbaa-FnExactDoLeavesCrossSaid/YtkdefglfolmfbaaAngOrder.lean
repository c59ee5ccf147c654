/- Cyclic orders and arcs: the printed functions' plain values. -/
import Derived.Test.YtkdefglfolmfbaaAngCmp
import Derived.Test.YtkdefglfolmfbaaQx24
import Derived.Test.YtkdefglfolmfbaaQx14
import Derived.Test.YtkdefglfolmfbaaQx23
namespace Go.Proofs.Ytkdefglfolmfbaa.Q
open Go.RowKit Go.Proofs.YtkdefglfolmfbaaW.PrintWords Go.Proofs.YtkdefglfolmfbaaW.PrintLast Go.Proofs.YtkdefglfolmfbaaW.Ext Go.Proofs.Ytkdefglfolmfbaa.Ang
set_option linter.unusedVariables false

theorem within_val {x1 x2 a1 a2 b1 b2 : Int} (hx : small x1 x2) (ha : small a1 a2) (hb : small b1 b2) : spec_l01Within.f x1 x2 a1 a2 b1 b2 = some (within (x1, x2) (a1, a2) (b1, b2)) := by
  unfold spec_l01Within.f within
  rw [less_val ha hb, less_val ha hx, less_val hx hb]
  by_cases h : lt (a1, a2) (b1, b2) <;> by_cases k : lt (a1, a2) (x1, x2) <;> simp [h, k]

/-- Nums and Dens of angles. -/
theorem prod_in {a b : Int} (h0 : 0 ≤ a) (h1 : a ≤ 8191) (h2 : 0 ≤ b) (h3 : b ≤ 8191) : 0 ≤ a * b ∧ a * b ≤ 67092481 := by
  have x : 0 ≤ a * b := Int.mul_nonneg h0 h2
  have y : a * b ≤ 8191 * b := Int.mul_le_mul_of_nonneg_right h1 h2
  omega
/-- From b forward to a. -/
theorem ev_minus {a1 a2 b1 b2 : Int} (ha : isA a1 a2 = true) (hb : isA b1 b2 = true) : Ev (fun k => impl_Angle_minus.f k a1 a2 b1 b2) (fwd (b1, b2) (a1, a2)) := by
  obtain ⟨h1, h2, h3, h4, _⟩ := isA_iff.1 ha
  obtain ⟨k1, k2, k3, k4, _⟩ := isA_iff.1 hb
  have p1 := prod_in h3 (show a1 ≤ 8191 by omega) (show 0 ≤ b2 by omega) k2
  have p2 := prod_in k3 (show b1 ≤ 8191 by omega) (show 0 ≤ a2 by omega) h2
  have p3 := prod_in (show 0 ≤ a2 by omega) h2 (show 0 ≤ b2 by omega) k2
  have p4 : 0 < a2 * b2 := Int.mul_pos (by omega) (by omega)
  unfold impl_Angle_minus.f
  rw [wrap_in (x := a1 * b2) (by omega) (by omega), wrap_in (x := b1 * a2) (by omega) (by omega), wrap_in (x := a1 * b2 - b1 * a2) (by omega) (by omega), wrap_in (x := a2 * b2) (by omega) (by omega)]
  exact Ev.bind (ev_impl_angle p4 (by omega)) (Ev.now _)
theorem fwd_small {a1 a2 b1 b2 : Int} (ha : isA a1 a2 = true) (hb : isA b1 b2 = true) : small (fwd (b1, b2) (a1, a2)).1 (fwd (b1, b2) (a1, a2)).2 := by
  obtain ⟨h1, h2, h3, h4, _⟩ := isA_iff.1 ha
  obtain ⟨k1, k2, k3, k4, _⟩ := isA_iff.1 hb
  have p3 := prod_in (show 0 ≤ a2 by omega) h2 (show 0 ≤ b2 by omega) k2
  have p4 : 0 < a2 * b2 := Int.mul_pos (by omega) (by omega)
  have w := ang_wide (n := a1 * b2 - b1 * a2) p4
  have l := ang_den_le (n := a1 * b2 - b1 * a2) p4
  have e : fwd (b1, b2) (a1, a2) = ang (a1 * b2 - b1 * a2) (a2 * b2) := rfl
  rw [e]
  exact ⟨w.2.1, by have := w.2.2.1; omega, w.1, by omega⟩
/-- The cyclic order: 0 if two are equal, 1 if b is in the arc from a to c, else -1. -/
def ordV (a b c : Int × Int) : Int := if a = b ∨ b = c ∨ a = c then 0 else if within b a c = true then 1 else -1
theorem ev_order {a1 a2 b1 b2 c1 c2 : Int} (ha : isA a1 a2 = true) (hb : isA b1 b2 = true) (hc : isA c1 c2 = true) : Ev (fun k => impl_order.f k a1 a2 b1 b2 c1 c2) (ordV (a1, a2) (b1, b2) (c1, c2)) := by
  unfold impl_order.f
  simp only [eq_pair, decide_eq_true_eq]
  have zero : ∀ r : Int, r = 0 → Ev (fun k => impl_order.j0 k true a1 a2 b1 b2 c1 c2) r := fun r hr => Ev.step (f := fun _ => some 0) (fun k => by simp [impl_order.j0]) (hr ▸ Ev.now _)
  unfold ordV
  refine ev_if (fun h => zero _ (by simp only [h, true_or, if_true])) (fun h1 => ?_)
  refine ev_if (fun h => zero _ (by simp only [h, true_or, or_true, if_true])) (fun h2 => ?_)
  by_cases h3 : (a1, a2) = (c1, c2)
  · simp only [decide_eq_true h3]
    exact zero _ (by simp only [h3, or_true, if_true])
  · simp only [decide_eq_false h3]
    rw [if_neg (by simp only [h1, h2, h3, or_self, not_false_eq_true])]
    refine Ev.step (f := fun k => (impl_Angle_minus.f k b1 b2 a1 a2).bind fun x => (impl_Angle_minus.f k c1 c2 a1 a2).bind fun y => (impl_Angle_compare.f x.1 x.2 y.1 y.2).bind fun t => if t < 0 then some 1 else some (-1)) (fun k => by simp [impl_order.j0]) ?_
    refine Ev.bind (ev_minus hb ha) ?_
    refine Ev.bind (ev_minus hc ha) ?_
    simp only [compare_val (fwd_small hb ha) (fwd_small hc ha), Option.bind_some]
    have e := order_within (isA_wide ha) (isA_wide hb) (isA_wide hc) h1 h2 h3
    have e2 : (cmpA ((fwd (a1, a2) (b1, b2)).1, (fwd (a1, a2) (b1, b2)).2) ((fwd (a1, a2) (c1, c2)).1, (fwd (a1, a2) (c1, c2)).2) < 0) ↔ within (b1, b2) (a1, a2) (c1, c2) = true := by
      rw [cmpA_neg, ← e]
      simp
    by_cases h : within (b1, b2) (a1, a2) (c1, c2) = true
    · simp only [if_pos (e2.2 h), if_pos h]
      exact Ev.now _
    · simp only [if_neg (fun z => h (e2.1 z)), if_neg h]
      exact Ev.now _
end Go.Proofs.Ytkdefglfolmfbaa.Q
