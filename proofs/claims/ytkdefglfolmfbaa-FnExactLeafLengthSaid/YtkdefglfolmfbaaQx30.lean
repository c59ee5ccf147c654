import Derived.Test.YtkdefglfolmfbaaQx0
import Derived.Test.YtkdefglfolmfbaaQx20
import Derived.Test.YtkdefglfolmfbaaQx23
import Derived.Test.YtkdefglfolmfbaaQx30p
import Derived.Test.YtkdefglfolmfbaaQx30a
import Derived.Test.YtkdefglfolmfbaaQx30b
-- By wip/hyb/hyb.py of this session, over the kit's print.py
namespace Go.Proofs.Ytkdefglfolmfbaa.Q
open Go.Proofs.YtkdefglfolmfbaaW.Ext
open Go.RowKit Go.Proofs.YtkdefglfolmfbaaW.PrintWords Go.Proofs.YtkdefglfolmfbaaW.PrintLast Go.Proofs.YtkdefglfolmfbaaW.PrintMore
attribute [local go_sem] max2_int min2_int max_two min_two max_three min_three max_four min_four   -- for this text's walks alone
set_option linter.unusedVariables false
set_option linter.unusedSimpArgs false

/-! ### impl_Angle_distance: function 0, its ways -/
set_option maxHeartbeats 8000000 in
set_option maxRecDepth 100000 in
theorem impl_Angle_distance.calls (k : Nat) (a0_0 : Int) (a0_1 : Int) (a1_0 : Int) (a1_1 : Int) (r1 : Int) (r2 : Int) (w : World) (h : impl_Angle_distance.f k a0_0 a0_1 a1_0 a1_1 = some (r1, r2)) :
    Calls Try.prog 58 #[.agg #[.int .i64 a0_0, .int .i64 a0_1], .agg #[.int .i64 a1_0, .int .i64 a1_1]] w fun e w' => e = .returned (.agg #[.int .i64 r1, .int .i64 r2]) ∧ Below w.heap.size w w' := by
  have hu27 := Try.underlying27
  have HB := Aside0.mk (Below.refl w.heap.size w)
  have H : ((impl_Angle_minus.f k a0_0 a0_1 a1_0 a1_1).bind fun bt304 => ((impl_Angle_minus.f k a1_0 a1_1 a0_0 a0_1).bind fun bt306 => ((impl_Angle_compare.f bt304.1 bt304.2 bt306.1 bt306.2).bind fun t310 => (if t310 < 0 then (some (bt304.1, bt304.2)) else (some (bt306.1, bt306.2)))))) = some (r1, r2) := h
  clear h
  replace H := Option.bind_eq_some_iff.mp H
  obtain ⟨⟨t304, t305⟩, A30, H⟩ := H
  replace H : ((impl_Angle_minus.f k a1_0 a1_1 a0_0 a0_1).bind fun bt306 => ((impl_Angle_compare.f t304 t305 bt306.1 bt306.2).bind fun t310 => (if t310 < 0 then (some (t304, t305)) else (some (bt306.1, bt306.2))))) = some (r1, r2) := H
  have A3 := Aside0.mk A30
  clear A30
  replace H := Option.bind_eq_some_iff.mp H
  obtain ⟨⟨t306, t307⟩, A40, H⟩ := H
  replace H : ((impl_Angle_compare.f t304 t305 t306 t307).bind fun t310 => (if t310 < 0 then (some (t304, t305)) else (some (t306, t307)))) = some (r1, r2) := H
  have A4 := Aside0.mk A40
  clear A40
  replace H := Option.bind_eq_some_iff.mp H
  obtain ⟨t310, A50, H⟩ := H
  replace H : (if t310 < 0 then (some (t304, t305)) else (some (t306, t307))) = some (r1, r2) := H
  have A5 := Aside0.mk A50
  clear A50
  by_cases c6 : t310 < 0
  · rw [if_pos c6] at H
    have c6b0 : decide (t310 < 0) = true := decide_eq_true c6
    clear c6
    simp only [Option.some.injEq, Prod.mk.injEq] at H
    obtain ⟨rfl, rfl⟩ := H
    exact impl_Angle_distance.way0 k a0_0 a0_1 a1_0 a1_1 w HB t304 t305 A3 t306 t307 A4 t310 A5 c6b0
  · rw [if_neg c6] at H
    have c6b0 : decide (t310 < 0) = false := decide_eq_false c6
    clear c6
    simp only [Option.some.injEq, Prod.mk.injEq] at H
    obtain ⟨rfl, rfl⟩ := H
    exact impl_Angle_distance.way1 k a0_0 a0_1 a1_0 a1_1 w HB t304 t305 A3 t306 t307 A4 t310 A5 c6b0

end Go.Proofs.Ytkdefglfolmfbaa.Q
