import Derived.Test.YtkdefglfolmfbaaQx0
import Derived.Test.YtkdefglfolmfbaaQx20
import Derived.Test.YtkdefglfolmfbaaQx23
-- By wip/hyb/hyb.py of this session, over the kit's print.py
namespace Go.Proofs.Ytkdefglfolmfbaa.Q
open Go.Proofs.YtkdefglfolmfbaaW.Ext
open Go.RowKit Go.Proofs.YtkdefglfolmfbaaW.PrintWords Go.Proofs.YtkdefglfolmfbaaW.PrintLast Go.Proofs.YtkdefglfolmfbaaW.PrintMore
attribute [local go_sem] max2_int min2_int max_two min_two max_three min_three max_four min_four   -- for this text's walks alone
set_option linter.unusedVariables false
set_option linter.unusedSimpArgs false

/-! ### impl_Angle_distance: function 58 -/
def impl_Angle_distance.f (k : Nat) (a0_0 : Int) (a0_1 : Int) (a1_0 : Int) (a1_1 : Int) : Option (Int × Int) := (impl_Angle_minus.f k a0_0 a0_1 a1_0 a1_1).bind fun bt304 => ((impl_Angle_minus.f k a1_0 a1_1 a0_0 a0_1).bind fun bt306 => ((impl_Angle_compare.f bt304.1 bt304.2 bt306.1 bt306.2).bind fun t310 => (if t310 < 0 then (some (bt304.1, bt304.2)) else (some (bt306.1, bt306.2)))))
theorem impl_Angle_distance.mono : ∀ a0 a1 a2 a3 k, LeO (impl_Angle_distance.f k a0 a1 a2 a3) (impl_Angle_distance.f (k + 1) a0 a1 a2 a3) := by
  intro a0 a1 a2 a3 k
  unfold impl_Angle_distance.f
  repeat' first
      | (with_reducible exact impl_Angle_minus.mono _ _ _ _ _)
      | (with_reducible exact LeO.refl _)
      | (with_reducible exact LeO.none _)
      | (with_reducible refine LeO.ite ?_ ?_)
      | (with_reducible refine LeO.bind ?_ (fun _ => ?_))
      | exact impl_Angle_minus.mono _ _ _ _ _
      | exact LeO.none _
      | refine LeO.ite ?_ ?_
      | refine LeO.bind ?_ (fun _ => ?_)
def impl_Angle_distance.T1 : Bool × List (List Nat × List Nat) := (true, [([], []), ([], []), ([0, 1], [0, 1]), ([], []), ([], []), ([3, 4, 2], [3, 4]), ([], []), ([], []), ([6, 2, 5, 0, 1, 2, 6, 7], [2, 6]), ([7, 5, 8, 0, 1, 2, 3, 4, 5, 6, 7, 8], [5, 7])])
def impl_Angle_distance.B1 : List Nat := [0, 0, 3, 0, 0, 31, 0, 0, 255, 511]
theorem impl_Angle_distance.tab1 : rtab .any (opsOf Try.f58 1) = impl_Angle_distance.T1 := by kernel_rfl
theorem impl_Angle_distance.bits1 : waitsOk impl_Angle_distance.T1.2 impl_Angle_distance.B1 = true := by kernel_rfl
end Go.Proofs.Ytkdefglfolmfbaa.Q
