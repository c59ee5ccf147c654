/- The pure statement of FnExactAddAngles: both give the sum in lowest terms, or the same error. -/
import Derived.Test.YtgjloehbbmlagaaAngOrder
import Derived.Test.YtgjloehbbmlagaaQx42
import Derived.Test.YtgjloehbbmlagaaQx39
import Derived.Test.YtgjloehbbmlagaaQx41
import Derived.Test.YtgjloehbbmlagaaQx38
import Derived.Test.YtgjloehbbmlagaaQx40
namespace Go.Proofs.Ytgjloehbbmlagaa.Q
open Go.RowKit Go.Proofs.YtgjloehbbmlagaaW.PrintWords Go.Proofs.YtgjloehbbmlagaaW.PrintLast Go.Proofs.YtgjloehbbmlagaaW.Ext Go.Proofs.Ytgjloehbbmlagaa.Ang
set_option linter.unusedVariables false

theorem pure_FnExactAddAngles (a b c d : Int) : ∃ k, laws_FnExactAddAngles.f k a b c d = some true := by
  refine Ev.rounds (g := fun k => laws_FnExactAddAngles.f k a b c d) ?_
  unfold laws_FnExactAddAngles.f laws_toAngle.f
  simp only [Option.bind_some]
  have hi := ev_anglesCode [⟨a, b⟩, ⟨c, d⟩]
  simp only [allA, List.all_cons, List.all_nil, Bool.and_true] at hi
  have fin : ∀ r : Int × Int × Int, Ev (fun k => spec_AddAngles.f k a b c d) r → Ev (fun k => impl_AddAngles.f k a b c d) r → Ev (fun k => (spec_AddAngles.f k a b c d).bind fun x => (impl_AddAngles.f k a b c d).bind fun y => (laws_eqAngle.f y.1 y.2.1 x.1 x.2.1).bind fun t => if t = true then (if y.2.2 = x.2.2 then some true else some false) else some false) true := by
    intro r h1 h2
    refine Ev.bind h1 (Ev.bind h2 ?_)
    simp [laws_eqAngle.f]
    exact Ev.now _
  have sbad : Ev (fun k => spec_AddAngles.j0 k true a b c d) (0, 0, 1) := Ev.step (f := fun _ => some (0, 0, 1)) (fun k => by simp [spec_AddAngles.j0]) (Ev.now _)
  by_cases h : isA a b = true ∧ isA c d = true
  · obtain ⟨h, k⟩ := h
    rw [h, k] at hi
    obtain ⟨h1, h2, h3, h4, _⟩ := isA_iff.1 h
    obtain ⟨k1, k2, k3, k4, _⟩ := isA_iff.1 k
    have p1 := prod_in h3 (show a ≤ 8191 by omega) (show 0 ≤ d by omega) k2
    have p2 := prod_in k3 (show c ≤ 8191 by omega) (show 0 ≤ b by omega) h2
    have p3 := prod_in (show 0 ≤ b by omega) h2 (show 0 ≤ d by omega) k2
    have p4 : 0 < b * d := Int.mul_pos (by omega) (by omega)
    have e : ∃ r, spec_l01Told.f (ang (a * d + c * b) (b * d)).1 (ang (a * d + c * b) (b * d)).2 = some r ∧ impl_limited.f (ang (a * d + c * b) (b * d)).1 (ang (a * d + c * b) (b * d)).2 = some r := by
      unfold spec_l01Told.f impl_limited.f
      by_cases z : (ang (a * d + c * b) (b * d)).2 > 8191
      · exact ⟨_, by rw [if_pos z], by rw [if_pos z]⟩
      · exact ⟨_, by rw [if_neg z], by rw [if_neg z]⟩
    obtain ⟨r, r1, r2⟩ := e
    refine fin r ?_ ?_
    · unfold spec_AddAngles.f
      refine Ev.bind (ev_spec_Is a b) ?_
      simp only [h, if_true]
      refine Ev.bind (ev_spec_Is c d) ?_
      simp only [k, Bool.not_true]
      refine Ev.step (f := fun k => (spec_l01Sum.f k a b c d).bind fun x => (spec_l01Told.f x.1 x.2).bind fun y => some (y.1, y.2.1, y.2.2)) (fun k => by simp [spec_AddAngles.j0]) ?_
      unfold spec_l01Sum.f
      rw [wrap_in (x := a * d) (by omega) (by omega), wrap_in (x := c * b) (by omega) (by omega), wrap_in (x := a * d + c * b) (by omega) (by omega), wrap_in (x := b * d) (by omega) (by omega)]
      refine Ev.bind (Ev.bind (ev_spec_Of p4 (by omega)) (Ev.now _)) ?_
      simp only [r1, Option.bind_some]
      exact Ev.now _
    · unfold impl_AddAngles.f
      refine Ev.bind hi ?_
      simp only [Bool.and_self, if_true]
      unfold impl_Angle_plus.f
      rw [wrap_in (x := a * d) (by omega) (by omega), wrap_in (x := c * b) (by omega) (by omega), wrap_in (x := a * d + c * b) (by omega) (by omega), wrap_in (x := b * d) (by omega) (by omega)]
      refine Ev.bind (Ev.bind (ev_impl_angle p4 (by omega)) (Ev.now _)) ?_
      simp only [r2, Option.bind_some]
      exact Ev.now _
  · have hb : (isA a b && isA c d) = false := by
      cases h1 : isA a b <;> cases h2 : isA c d <;> simp_all
    rw [hb] at hi
    refine fin (0, 0, 1) ?_ ?_
    · unfold spec_AddAngles.f
      refine Ev.bind (ev_spec_Is a b) ?_
      cases h1 : isA a b with
      | false => simp only [Bool.false_eq_true, if_false]; exact sbad
      | true =>
        have h2 : isA c d = false := by simpa [h1] using hb
        simp only [if_true]
        refine Ev.bind (ev_spec_Is c d) ?_
        simp only [h2, Bool.not_false]
        exact sbad
    · unfold impl_AddAngles.f
      refine Ev.bind hi ?_
      simp
      exact Ev.now _
end Go.Proofs.Ytgjloehbbmlagaa.Q
