import Derived.Test.YtkdefglfolmfbaaQx0
import Derived.Test.YtkdefglfolmfbaaQx2
import Derived.Test.YtkdefglfolmfbaaQx3p
import Derived.Test.YtkdefglfolmfbaaQx3a
import Derived.Test.YtkdefglfolmfbaaQx3b
-- By wip/hyb/hyb.py of this session, over the kit's print.py
namespace Go.Proofs.Ytkdefglfolmfbaa.Q
open Go.Proofs.YtkdefglfolmfbaaW.Ext
open Go.RowKit Go.Proofs.YtkdefglfolmfbaaW.PrintWords Go.Proofs.YtkdefglfolmfbaaW.PrintLast Go.Proofs.YtkdefglfolmfbaaW.PrintMore
attribute [local go_sem] max2_int min2_int max_two min_two max_three min_three max_four min_four   -- for this text's walks alone
set_option linter.unusedVariables false
set_option linter.unusedSimpArgs false

/-! ### spec_l01Halves: function 0, its ways -/
set_option maxHeartbeats 8000000 in
set_option maxRecDepth 100000 in
theorem spec_l01Halves.calls (k : Nat) (a0_0 : Int) (a0_1 : Int) (r1 : Int) (r2 : Int) (r3 : Int) (r4 : Int) (r5 : Bool) (w : World) (h : spec_l01Halves.f k a0_0 a0_1 = some (r1, r2, r3, r4, r5)) :
    Calls Try.prog 48 #[.agg #[.int .i64 a0_0, .int .i64 a0_1]] w fun e w' => e = .returned (.tuple #[.agg #[.int .i64 r1, .int .i64 r2], .agg #[.int .i64 r3, .int .i64 r4], .bool r5]) ∧ Below w.heap.size w w' := by
  have hu27 := Try.underlying27
  have HB := Aside0.mk (Below.refl w.heap.size w)
  have H : ((spec_l01Of.f k a0_0 (wrap64 (2 * a0_1))).bind fun bt110 => ((spec_l01Of.f k (wrap64 (a0_0 + a0_1)) (wrap64 (2 * a0_1))).bind fun bt112 => (if bt110.2 ≤ 8191 then (some (bt110.1, bt110.2, bt112.1, bt112.2, decide (bt112.2 ≤ 8191))) else (some (bt110.1, bt110.2, bt112.1, bt112.2, false))))) = some (r1, r2, r3, r4, r5) := h
  clear h
  replace H := Option.bind_eq_some_iff.mp H
  obtain ⟨⟨t110, t111⟩, A20, H⟩ := H
  replace H : ((spec_l01Of.f k (wrap64 (a0_0 + a0_1)) (wrap64 (2 * a0_1))).bind fun bt112 => (if t111 ≤ 8191 then (some (t110, t111, bt112.1, bt112.2, decide (bt112.2 ≤ 8191))) else (some (t110, t111, bt112.1, bt112.2, false)))) = some (r1, r2, r3, r4, r5) := H
  have A2 := Aside0.mk A20
  clear A20
  replace H := Option.bind_eq_some_iff.mp H
  obtain ⟨⟨t112, t113⟩, A30, H⟩ := H
  replace H : (if t111 ≤ 8191 then (some (t110, t111, t112, t113, decide (t113 ≤ 8191))) else (some (t110, t111, t112, t113, false))) = some (r1, r2, r3, r4, r5) := H
  have A3 := Aside0.mk A30
  clear A30
  by_cases c4 : t111 ≤ 8191
  · rw [if_pos c4] at H
    have c4b0 : decide (t111 ≤ 8191) = true := decide_eq_true c4
    clear c4
    simp only [Option.some.injEq, Prod.mk.injEq] at H
    obtain ⟨rfl, rfl, rfl, rfl, rfl⟩ := H
    exact spec_l01Halves.way0 k a0_0 a0_1 w HB t110 t111 A2 t112 t113 A3 c4b0
  · rw [if_neg c4] at H
    have c4b0 : decide (t111 ≤ 8191) = false := decide_eq_false c4
    clear c4
    simp only [Option.some.injEq, Prod.mk.injEq] at H
    obtain ⟨rfl, rfl, rfl, rfl, rfl⟩ := H
    exact spec_l01Halves.way1 k a0_0 a0_1 w HB t110 t111 A2 t112 t113 A3 c4b0

end Go.Proofs.Ytkdefglfolmfbaa.Q
