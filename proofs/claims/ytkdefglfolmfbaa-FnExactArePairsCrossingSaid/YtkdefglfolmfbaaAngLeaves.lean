/- Leaves, and whether they cross: the printed functions' plain values. -/
import Derived.Test.YtkdefglfolmfbaaAngOrder
import Derived.Test.YtkdefglfolmfbaaQx13
import Derived.Test.YtkdefglfolmfbaaQx21
namespace Go.Proofs.Ytkdefglfolmfbaa.Q
open Go.RowKit Go.Proofs.YtkdefglfolmfbaaW.PrintWords Go.Proofs.YtkdefglfolmfbaaW.PrintLast Go.Proofs.YtkdefglfolmfbaaW.Ext Go.Proofs.Ytkdefglfolmfbaa.Ang
set_option linter.unusedVariables false

/-- Is it a leaf. -/
def isL (a b c d : Int) : Bool := isA a b && isA c d && decide (lt (a, b) (c, d))
theorem isL_iff {a b c d : Int} : isL a b c d = true ↔ isA a b = true ∧ isA c d = true ∧ lt (a, b) (c, d) := by
  unfold isL
  simp [and_assoc]
theorem ev_spec_l03Is (a b c d : Int) : Ev (fun k => spec_l03Is.f k a b c d) (isL a b c d) := by
  unfold spec_l03Is.f isL
  refine Ev.bind (ev_spec_Is a b) ?_
  cases h : isA a b with
  | false => simp; exact Ev.now _
  | true =>
    simp only [if_true, Bool.true_and]
    refine Ev.bind (ev_spec_Is c d) ?_
    cases k : isA c d with
    | false => simp; exact Ev.now _
    | true => simp only [if_true, Bool.true_and, less_val (isA_small h) (isA_small k), Option.bind_some]; exact Ev.now _
theorem ev_impl_IsLeaf (a b c d : Int) : Ev (fun k => impl_IsLeaf.f k a b c d) (isL a b c d) := by
  unfold impl_IsLeaf.f isL
  refine Ev.bind (ev_impl_IsAngle a b) ?_
  cases h : isA a b with
  | false => simp; exact Ev.now _
  | true =>
    simp only [if_true, Bool.true_and]
    refine Ev.bind (ev_impl_IsAngle c d) ?_
    cases k : isA c d with
    | false => simp; exact Ev.now _
    | true => simp only [if_true, Bool.true_and, compare_val (isA_small h) (isA_small k), Option.bind_some, cmpA_neg]; exact Ev.now _
end Go.Proofs.Ytkdefglfolmfbaa.Q
