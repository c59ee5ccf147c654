import Derived.Test.YtkdefglfolmfbaaQx0
import Derived.Test.YtkdefglfolmfbaaQx2
-- By wip/hyb/hyb.py of this session, over the kit's print.py
namespace Go.Proofs.Ytkdefglfolmfbaa.Q
open Go.Proofs.YtkdefglfolmfbaaW.Ext
open Go.RowKit Go.Proofs.YtkdefglfolmfbaaW.PrintWords Go.Proofs.YtkdefglfolmfbaaW.PrintLast Go.Proofs.YtkdefglfolmfbaaW.PrintMore
attribute [local go_sem] max2_int min2_int max_two min_two max_three min_three max_four min_four   -- for this text's walks alone
set_option linter.unusedVariables false
set_option linter.unusedSimpArgs false

/-! ### spec_l01Halves: function 48 -/
def spec_l01Halves.f (k : Nat) (a0_0 : Int) (a0_1 : Int) : Option (Int × Int × Int × Int × Bool) := (spec_l01Of.f k a0_0 (wrap64 (2 * a0_1))).bind fun bt110 => ((spec_l01Of.f k (wrap64 (a0_0 + a0_1)) (wrap64 (2 * a0_1))).bind fun bt112 => (if bt110.2 ≤ 8191 then (some (bt110.1, bt110.2, bt112.1, bt112.2, decide (bt112.2 ≤ 8191))) else (some (bt110.1, bt110.2, bt112.1, bt112.2, false))))
theorem spec_l01Halves.mono : ∀ a0 a1 k, LeO (spec_l01Halves.f k a0 a1) (spec_l01Halves.f (k + 1) a0 a1) := by
  intro a0 a1 k
  unfold spec_l01Halves.f
  repeat' first
      | (with_reducible exact spec_l01Of.mono _ _ _)
      | (with_reducible exact LeO.refl _)
      | (with_reducible exact LeO.none _)
      | (with_reducible refine LeO.ite ?_ ?_)
      | (with_reducible refine LeO.bind ?_ (fun _ => ?_))
      | exact spec_l01Of.mono _ _ _
      | exact LeO.none _
      | refine LeO.ite ?_ ?_
      | refine LeO.bind ?_ (fun _ => ?_)
def spec_l01Halves.T1 : Bool × List (List Nat × List Nat) := (true, [([], []), ([0], [0]), ([], []), ([2], [2]), ([3], [3]), ([1, 4], [1, 4]), ([], []), ([6], [6]), ([], []), ([8], [8]), ([7, 9], [7, 9]), ([], []), ([11], [11]), ([12], [12]), ([10, 13, 5], [10, 13]), ([], []), ([], []), ([15, 5, 14, 0, 1, 2, 3, 4, 5, 15, 16], [5, 15]), ([16, 14, 17, 0, 1, 2, 3, 4, 5, 6, 7, 8, 9, 10, 11, 12, 13, 14, 15, 16, 17], [14, 16])])
def spec_l01Halves.B1 : List Nat := [0, 1, 0, 4, 12, 31, 0, 64, 0, 256, 960, 0, 2048, 6144, 16383, 0, 0, 131071, 262143]
theorem spec_l01Halves.tab1 : rtab .any (opsOf Try.f48 1) = spec_l01Halves.T1 := by kernel_rfl
theorem spec_l01Halves.bits1 : waitsOk spec_l01Halves.T1.2 spec_l01Halves.B1 = true := by kernel_rfl
def spec_l01Halves.T2 : Bool × List (List Nat × List Nat) := (true, [([], []), ([], []), ([], []), ([2], [2]), ([3], [3]), ([4], [4]), ([5], [5]), ([6, 5], [5, 6]), ([7, 5], [5, 7]), ([5, 8], [5, 8]), ([0, 5, 0], [0]), ([1, 10, 0, 1, 10], [1]), ([9, 11, 0, 1, 2, 3, 4, 5, 6, 7, 8, 9, 10, 11], [9])])
def spec_l01Halves.B2 : List Nat := [0, 0, 0, 4, 12, 28, 60, 124, 252, 508, 61, 1087, 4095]
theorem spec_l01Halves.tab2 : rtab .any (opsOf Try.f48 2) = spec_l01Halves.T2 := by kernel_rfl
theorem spec_l01Halves.bits2 : waitsOk spec_l01Halves.T2.2 spec_l01Halves.B2 = true := by kernel_rfl
end Go.Proofs.Ytkdefglfolmfbaa.Q
