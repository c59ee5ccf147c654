/- The pure statement of FnExactLeafOf: both give the leaf of two angles, or the same error. -/
import Derived.Test.YtgjloehbbmlagaaAngLeaf
import Derived.Test.YtgjloehbbmlagaaQx57
import Derived.Test.YtgjloehbbmlagaaQx53
import Derived.Test.YtgjloehbbmlagaaQx55
import Derived.Test.YtgjloehbbmlagaaQx56
namespace Go.Proofs.Ytgjloehbbmlagaa.Q
open Go.RowKit Go.Proofs.YtgjloehbbmlagaaW.PrintWords Go.Proofs.YtgjloehbbmlagaaW.PrintLast Go.Proofs.YtgjloehbbmlagaaW.Ext Go.Proofs.Ytgjloehbbmlagaa.Ang
set_option linter.unusedVariables false

theorem pure_FnExactLeafOf (a b c d : Int) : ∃ k, laws_FnExactLeafOf.f k a b c d = some true := by
  refine Ev.rounds (g := fun k => laws_FnExactLeafOf.f k a b c d) ?_
  unfold laws_FnExactLeafOf.f laws_toAngle.f
  simp only [Option.bind_some]
  have hi := ev_anglesCode [⟨a, b⟩, ⟨c, d⟩]
  simp only [allA, List.all_cons, List.all_nil, Bool.and_true] at hi
  have fin : ∀ r : Int × Int × Int × Int × Int, Ev (fun k => spec_LeafOf.f k a b c d) r → Ev (fun k => impl_LeafOf.f k a b c d) r → Ev (fun k => (spec_LeafOf.f k a b c d).bind fun x => (impl_LeafOf.f k a b c d).bind fun y => (laws_eqLeaf.f y.1 y.2.1 y.2.2.1 y.2.2.2.1 x.1 x.2.1 x.2.2.1 x.2.2.2.1).bind fun t => if t = true then (if y.2.2.2.2 = x.2.2.2.2 then some true else some false) else some false) true := by
    intro r h1 h2
    refine Ev.bind h1 (Ev.bind h2 ?_)
    simp [laws_eqLeaf.f, laws_eqAngle.f]
    exact Ev.now _
  have sbad : Ev (fun k => spec_LeafOf.j0 k true a b c d) (0, 0, 0, 0, 1) := Ev.step (f := fun _ => some (0, 0, 0, 0, 1)) (fun k => by simp [spec_LeafOf.j0]) (Ev.now _)
  by_cases hall : isA a b = true ∧ isA c d = true
  · obtain ⟨h1, h2⟩ := hall
    rw [h1, h2] at hi
    refine fin (if (a, b) = (c, d) then (0, 0, 0, 0, 5) else ((leafV (a, b) (c, d)).1, (leafV (a, b) (c, d)).2.1, (leafV (a, b) (c, d)).2.2.1, (leafV (a, b) (c, d)).2.2.2, 0)) ?_ ?_
    · unfold spec_LeafOf.f
      refine Ev.bind (ev_spec_Is a b) ?_
      simp only [h1, if_true]
      refine Ev.bind (ev_spec_Is c d) ?_
      simp only [h2, Bool.not_true]
      refine Ev.step (f := fun _ => if (a, b) = (c, d) then some (0, 0, 0, 0, 5) else some ((leafV (a, b) (c, d)).1, (leafV (a, b) (c, d)).2.1, (leafV (a, b) (c, d)).2.2.1, (leafV (a, b) (c, d)).2.2.2, 0)) (fun k => by simp only [spec_LeafOf.j0, eq_pair, decide_eq_true_eq, Bool.false_eq_true, if_false, spec_leaf_val (isA_small h1) (isA_small h2), Option.bind_some]) ?_
      by_cases h : (a, b) = (c, d)
      · simp only [if_pos h]; exact Ev.now _
      · simp only [if_neg h]; exact Ev.now _
    · unfold impl_LeafOf.f
      refine Ev.bind hi ?_
      simp only [Bool.and_self, if_true, eq_pair, decide_eq_true_eq, impl_leaf_val (isA_small h1) (isA_small h2), Option.bind_some]
      by_cases h : (a, b) = (c, d)
      · simp only [if_pos h]; exact Ev.now _
      · simp only [if_neg h]; exact Ev.now _
  · have hb : (isA a b && isA c d) = false := by
      cases h1 : isA a b <;> cases h2 : isA c d <;> simp_all
    rw [hb] at hi
    refine fin (0, 0, 0, 0, 1) ?_ ?_
    · unfold spec_LeafOf.f
      refine Ev.bind (ev_spec_Is a b) ?_
      cases h1 : isA a b with
      | false => simp only [Bool.false_eq_true, if_false]; exact sbad
      | true =>
        have h2 : isA c d = false := by simpa [h1] using hb
        simp only [if_true]
        refine Ev.bind (ev_spec_Is c d) ?_
        simp only [h2, Bool.not_false]
        exact sbad
    · unfold impl_LeafOf.f
      refine Ev.bind hi ?_
      simp
      exact Ev.now _
end Go.Proofs.Ytgjloehbbmlagaa.Q
