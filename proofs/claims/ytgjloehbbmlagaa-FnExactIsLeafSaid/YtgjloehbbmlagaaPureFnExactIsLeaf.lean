/- The pure statement of FnExactIsLeaf: both say whether two angles in order are given. -/
import Derived.Test.YtgjloehbbmlagaaAngCmp
import Derived.Test.YtgjloehbbmlagaaQx23
import Derived.Test.YtgjloehbbmlagaaQx17
import Derived.Test.YtgjloehbbmlagaaQx16
import Derived.Test.YtgjloehbbmlagaaQx22
import Derived.Test.YtgjloehbbmlagaaQx18
namespace Go.Proofs.Ytgjloehbbmlagaa.Q
open Go.RowKit Go.Proofs.YtgjloehbbmlagaaW.PrintWords Go.Proofs.YtgjloehbbmlagaaW.PrintLast Go.Proofs.YtgjloehbbmlagaaW.Ext Go.Proofs.Ytgjloehbbmlagaa.Ang
set_option linter.unusedVariables false

theorem pure_FnExactIsLeaf (a b c d : Int) : ∃ k, laws_FnExactIsLeaf.f k a b c d = some true := by
  refine Ev.rounds (g := fun k => laws_FnExactIsLeaf.f k a b c d) ?_
  unfold laws_FnExactIsLeaf.f laws_toLeaf.f laws_toAngle.f
  simp only [Option.bind_some]
  have hs : Ev (fun k => spec_IsLeaf.f k a b c d) (isA a b && isA c d && decide (lt (a, b) (c, d))) := by
    unfold spec_IsLeaf.f spec_l03Is.f
    refine Ev.bind (Ev.bind (ev_spec_Is a b) ?_) (Ev.now _)
    cases h : isA a b with
    | false => simp; exact Ev.now _
    | true =>
      simp only [if_true, Bool.true_and]
      refine Ev.bind (ev_spec_Is c d) ?_
      cases k : isA c d with
      | false => simp; exact Ev.now _
      | true => simp only [if_true, Bool.true_and, less_val (isA_small h) (isA_small k), Option.bind_some]; exact Ev.now _
  have hi : Ev (fun k => impl_IsLeaf.f k a b c d) (isA a b && isA c d && decide (lt (a, b) (c, d))) := by
    unfold impl_IsLeaf.f
    refine Ev.bind (ev_impl_IsAngle a b) ?_
    cases h : isA a b with
    | false => simp; exact Ev.now _
    | true =>
      simp only [if_true, Bool.true_and]
      refine Ev.bind (ev_impl_IsAngle c d) ?_
      cases k : isA c d with
      | false => simp; exact Ev.now _
      | true => simp only [if_true, Bool.true_and, compare_val (isA_small h) (isA_small k), Option.bind_some, cmpA_neg]; exact Ev.now _
  refine Ev.bind hs ?_
  refine Ev.bind hi ?_
  simp
  exact Ev.now _
end Go.Proofs.Ytgjloehbbmlagaa.Q
