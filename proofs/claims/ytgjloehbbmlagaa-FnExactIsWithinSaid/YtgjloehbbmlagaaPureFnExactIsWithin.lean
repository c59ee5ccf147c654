/- The pure statement of FnExactIsWithin: both say whether the angle is in the arc, or give the same error. -/
import Derived.Test.YtgjloehbbmlagaaAngOrder
import Derived.Test.YtgjloehbbmlagaaQx51
import Derived.Test.YtgjloehbbmlagaaQx49
import Derived.Test.YtgjloehbbmlagaaQx50
namespace Go.Proofs.Ytgjloehbbmlagaa.Q
open Go.RowKit Go.Proofs.YtgjloehbbmlagaaW.PrintWords Go.Proofs.YtgjloehbbmlagaaW.PrintLast Go.Proofs.YtgjloehbbmlagaaW.Ext Go.Proofs.Ytgjloehbbmlagaa.Ang
set_option linter.unusedVariables false

theorem pure_FnExactIsWithin (a b c d e f : Int) : ∃ k, laws_FnExactIsWithin.f k a b c d e f = some true := by
  refine Ev.rounds (g := fun k => laws_FnExactIsWithin.f k a b c d e f) ?_
  unfold laws_FnExactIsWithin.f laws_toAngle.f
  simp only [Option.bind_some]
  have hi := ev_anglesCode [⟨a, b⟩, ⟨c, d⟩, ⟨e, f⟩]
  simp only [allA, List.all_cons, List.all_nil, Bool.and_true] at hi
  have fin : ∀ r : Bool × Int, Ev (fun k => spec_IsWithin.f k a b c d e f) r → Ev (fun k => impl_IsWithin.f k a b c d e f) r → Ev (fun k => (spec_IsWithin.f k a b c d e f).bind fun x => (impl_IsWithin.f k a b c d e f).bind fun y => if (y.1 != x.1) = true then some false else if y.2 = x.2 then some true else some false) true := by
    intro r h1 h2
    refine Ev.bind h1 (Ev.bind h2 ?_)
    simp
    exact Ev.now _
  have sbad : Ev (fun k => spec_IsWithin.j0 k true a b c d e f) (false, 1) := Ev.step (f := fun _ => some (false, 1)) (fun k => by simp [spec_IsWithin.j0]) (Ev.now _)
  by_cases hall : isA a b = true ∧ isA c d = true ∧ isA e f = true
  · obtain ⟨h1, h2, h3⟩ := hall
    rw [h1, h2, h3] at hi
    refine fin (if (c, d) = (e, f) then (false, 5) else (within (a, b) (c, d) (e, f), 0)) ?_ ?_
    · unfold spec_IsWithin.f
      refine Ev.bind (ev_spec_Is a b) ?_
      simp only [h1, if_true]
      refine Ev.bind (ev_spec_Is c d) ?_
      simp only [h2, if_true]
      refine Ev.bind (ev_spec_Is e f) ?_
      simp only [h3, Bool.not_true]
      refine Ev.step (f := fun _ => if (c, d) = (e, f) then some (false, 5) else some (within (a, b) (c, d) (e, f), 0)) (fun k => by simp only [spec_IsWithin.j0, eq_pair, decide_eq_true_eq, Bool.false_eq_true, if_false, within_val (isA_small h1) (isA_small h2) (isA_small h3), Option.bind_some]) ?_
      by_cases h : (c, d) = (e, f)
      · simp only [if_pos h]; exact Ev.now _
      · simp only [if_neg h]; exact Ev.now _
    · unfold impl_IsWithin.f
      refine Ev.bind hi ?_
      simp only [Bool.and_self, if_true, eq_pair, decide_eq_true_eq]
      by_cases h : (c, d) = (e, f)
      · simp only [if_pos h]; exact Ev.now _
      · simp only [if_neg h]
        refine Ev.bind (ev_order h2 h1 h3) ?_
        have ew : (ordV (c, d) (a, b) (e, f) == 1) = within (a, b) (c, d) (e, f) := by
          unfold ordV
          cases hw : within (a, b) (c, d) (e, f) with
          | true =>
            obtain ⟨n1, n2⟩ := order_within_ne (isA_wide h2) (isA_wide h1) (isA_wide h3) h hw
            rw [if_neg (by simp only [n1, n2, h, or_self, not_false_eq_true])]
            simp
          | false =>
            by_cases z : (c, d) = (a, b) ∨ (a, b) = (e, f) ∨ (c, d) = (e, f)
            · rw [if_pos z]; rfl
            · rw [if_neg z]; rfl
        simp only [ew]
        exact Ev.now _
  · have hb : (isA a b && (isA c d && isA e f)) = false := by
      cases h1 : isA a b <;> cases h2 : isA c d <;> cases h3 : isA e f <;> simp_all
    rw [hb] at hi
    refine fin (false, 1) ?_ ?_
    · unfold spec_IsWithin.f
      refine Ev.bind (ev_spec_Is a b) ?_
      cases h1 : isA a b with
      | false => simp only [Bool.false_eq_true, if_false]; exact sbad
      | true =>
        simp only [if_true]
        refine Ev.bind (ev_spec_Is c d) ?_
        cases h2 : isA c d with
        | false => simp only [Bool.false_eq_true, if_false]; exact sbad
        | true =>
          have h3 : isA e f = false := by simpa [h1, h2] using hb
          simp only [if_true]
          refine Ev.bind (ev_spec_Is e f) ?_
          simp only [h3, Bool.not_false]
          exact sbad
    · unfold impl_IsWithin.f
      refine Ev.bind hi ?_
      simp
      exact Ev.now _
end Go.Proofs.Ytgjloehbbmlagaa.Q
