/- The pure statement of FnExactOppositeAngle: both give what is lacking, in lowest terms, or the same error. -/
import Derived.Test.YtgjloehbbmlagaaAngCore
import Derived.Test.YtgjloehbbmlagaaQx34
import Derived.Test.YtgjloehbbmlagaaQx31
import Derived.Test.YtgjloehbbmlagaaQx33
import Derived.Test.YtgjloehbbmlagaaQx30
import Derived.Test.YtgjloehbbmlagaaQx32
namespace Go.Proofs.Ytgjloehbbmlagaa.Q
open Go.RowKit Go.Proofs.YtgjloehbbmlagaaW.PrintWords Go.Proofs.YtgjloehbbmlagaaW.PrintLast Go.Proofs.YtgjloehbbmlagaaW.Ext Go.Proofs.Ytgjloehbbmlagaa.Ang
set_option linter.unusedVariables false

theorem pure_FnExactOppositeAngle (a b : Int) : ∃ k, laws_FnExactOppositeAngle.f k a b = some true := by
  refine Ev.rounds (g := fun k => laws_FnExactOppositeAngle.f k a b) ?_
  unfold laws_FnExactOppositeAngle.f laws_toAngle.f
  simp only [Option.bind_some]
  have hi := ev_anglesCode [⟨a, b⟩]
  simp only [allA, List.all_cons, List.all_nil, Bool.and_true] at hi
  unfold spec_OppositeAngle.f impl_OppositeAngle.f spec_l10Opposite.f impl_Angle_opposite.f
  by_cases h : isA a b = true
  · rw [h] at hi
    obtain ⟨h1, h2, h3, h4, _⟩ := isA_iff.1 h
    rw [wrap_in (x := -a) (by omega) (by omega)]
    refine Ev.bind (Ev.bind (ev_spec_Is a b) (r := ((ang (-a) b).1, (ang (-a) b).2, 0)) ?_) ?_
    · simp only [h, if_true]
      exact Ev.bind (Ev.bind (ev_spec_Of (by omega) (by omega)) (Ev.now _)) (Ev.now _)
    refine Ev.bind (Ev.bind hi (r := ((ang (-a) b).1, (ang (-a) b).2, 0)) ?_) ?_
    · simp only [if_true]
      exact Ev.bind (Ev.bind (ev_impl_angle (by omega) (by omega)) (Ev.now _)) (Ev.now _)
    simp [laws_eqAngle.f]
    exact Ev.now _
  · have h' : isA a b = false := by simpa using h
    rw [h'] at hi
    refine Ev.bind (Ev.bind (ev_spec_Is a b) (r := (0, 0, 1)) ?_) ?_
    · simp only [h', Bool.false_eq_true, if_false]
      exact Ev.now _
    refine Ev.bind (Ev.bind hi (r := (0, 0, 1)) ?_) ?_
    · simp
      exact Ev.now _
    simp [laws_eqAngle.f]
    exact Ev.now _
end Go.Proofs.Ytgjloehbbmlagaa.Q
