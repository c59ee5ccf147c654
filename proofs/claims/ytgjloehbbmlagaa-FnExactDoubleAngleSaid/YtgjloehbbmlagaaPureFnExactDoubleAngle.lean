/- The pure statement of FnExactDoubleAngle: both give the double in lowest terms, or the same error. -/
import Derived.Test.YtgjloehbbmlagaaAngDouble
import Derived.Test.YtgjloehbbmlagaaQx29
import Derived.Test.YtgjloehbbmlagaaQx25
import Derived.Test.YtgjloehbbmlagaaQx28
namespace Go.Proofs.Ytgjloehbbmlagaa.Q
open Go.RowKit Go.Proofs.YtgjloehbbmlagaaW.PrintWords Go.Proofs.YtgjloehbbmlagaaW.PrintLast Go.Proofs.YtgjloehbbmlagaaW.Ext Go.Proofs.Ytgjloehbbmlagaa.Ang
set_option linter.unusedVariables false

theorem pure_FnExactDoubleAngle (a b : Int) : ∃ k, laws_FnExactDoubleAngle.f k a b = some true := by
  refine Ev.rounds (g := fun k => laws_FnExactDoubleAngle.f k a b) ?_
  unfold laws_FnExactDoubleAngle.f laws_toAngle.f
  simp only [Option.bind_some]
  have hi := ev_anglesCode [⟨a, b⟩]
  simp only [allA, List.all_cons, List.all_nil, Bool.and_true] at hi
  unfold spec_DoubleAngle.f impl_DoubleAngle.f
  by_cases h : isA a b = true
  · rw [h] at hi
    refine Ev.bind (Ev.bind (ev_spec_Is a b) (r := ((dbl (a, b)).1, (dbl (a, b)).2, 0)) ?_) ?_
    · simp only [h, if_true]
      exact Ev.bind (ev_spec_Double h) (Ev.now _)
    refine Ev.bind (Ev.bind hi (r := ((dbl (a, b)).1, (dbl (a, b)).2, 0)) ?_) ?_
    · simp only [if_true]
      exact Ev.bind (ev_impl_double h) (Ev.now _)
    simp [laws_eqAngle.f]
    exact Ev.now _
  · have h' : isA a b = false := by simpa using h
    rw [h'] at hi
    refine Ev.bind (Ev.bind (ev_spec_Is a b) (r := (0, 0, 1)) ?_) ?_
    · simp only [h', Bool.false_eq_true, if_false]
      exact Ev.now _
    refine Ev.bind (Ev.bind hi (r := (0, 0, 1)) ?_) ?_
    · simp
      exact Ev.now _
    simp [laws_eqAngle.f]
    exact Ev.now _
end Go.Proofs.Ytgjloehbbmlagaa.Q
