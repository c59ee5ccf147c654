/- The pure statement of FnExactIsAngle: both say whether the angle is in lowest terms and in its range. -/
import Derived.Test.YtgjloehbbmlagaaAngCore
import Derived.Test.YtgjloehbbmlagaaQx5
namespace Go.Proofs.Ytgjloehbbmlagaa.Q
open Go.RowKit Go.Proofs.YtgjloehbbmlagaaW.PrintWords Go.Proofs.YtgjloehbbmlagaaW.PrintLast Go.Proofs.YtgjloehbbmlagaaW.Ext Go.Proofs.Ytgjloehbbmlagaa.Ang
set_option linter.unusedVariables false

theorem pure_FnExactIsAngle (a b : Int) : ∃ k, laws_FnExactIsAngle.f k a b = some true := by
  refine Ev.rounds (g := fun k => laws_FnExactIsAngle.f k a b) ?_
  unfold laws_FnExactIsAngle.f laws_toAngle.f spec_IsAngle.f
  simp only [Option.bind_some]
  refine Ev.bind (Ev.bind (ev_spec_Is a b) (Ev.now _)) ?_
  refine Ev.bind (ev_impl_IsAngle a b) ?_
  simp
  exact Ev.now _
end Go.Proofs.Ytgjloehbbmlagaa.Q
