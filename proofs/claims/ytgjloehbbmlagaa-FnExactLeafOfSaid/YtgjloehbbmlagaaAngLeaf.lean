/- Leaves of two angles: the printed functions' plain values. -/
import Derived.Test.YtgjloehbbmlagaaAngOrder
import Derived.Test.YtgjloehbbmlagaaQx52
import Derived.Test.YtgjloehbbmlagaaQx54
namespace Go.Proofs.Ytgjloehbbmlagaa.Q
open Go.RowKit Go.Proofs.YtgjloehbbmlagaaW.PrintWords Go.Proofs.YtgjloehbbmlagaaW.PrintLast Go.Proofs.YtgjloehbbmlagaaW.Ext Go.Proofs.Ytgjloehbbmlagaa.Ang
set_option linter.unusedVariables false

/-- The leaf that joins two angles. -/
def leafV (a b : Int × Int) : Int × Int × Int × Int := if lt b a then (b.1, b.2, a.1, a.2) else (a.1, a.2, b.1, b.2)
theorem spec_leaf_val {a b c d : Int} (h : small a b) (k : small c d) : spec_l03Of.f a b c d = some (leafV (a, b) (c, d)) := by
  unfold spec_l03Of.f leafV
  rw [less_val k h]
  by_cases z : lt (c, d) (a, b) <;> simp [z]
theorem impl_leaf_val {a b c d : Int} (h : small a b) (k : small c d) : impl_leaf.f a b c d = some (leafV (a, b) (c, d)) := by
  unfold impl_leaf.f leafV
  rw [compare_val h k]
  simp only [Option.bind_some, cmpA_pos]
  by_cases z : lt (c, d) (a, b) <;> simp [z]
end Go.Proofs.Ytgjloehbbmlagaa.Q
