/- The pure statement of FnExactHalvesOf: both give both halves, or the same error. -/
import Derived.Test.YtkdefglfolmfbaaLawAngles
import Derived.Test.YtkdefglfolmfbaaQx11
import Derived.Test.YtkdefglfolmfbaaQx4
import Derived.Test.YtkdefglfolmfbaaQx7
import Derived.Test.YtkdefglfolmfbaaQx3
import Derived.Test.YtkdefglfolmfbaaQx6
namespace Go.Proofs.Ytkdefglfolmfbaa.Q
open Go.RowKit Go.Proofs.YtkdefglfolmfbaaW.PrintWords Go.Proofs.YtkdefglfolmfbaaW.PrintLast Go.Proofs.YtkdefglfolmfbaaW.Ext Go.Proofs.Ytkdefglfolmfbaa.Ang
set_option linter.unusedVariables false
set_option linter.unusedSimpArgs false

theorem pure_FnExactHalvesOf (a b : Int) : ∃ k, laws_FnExactHalvesOf.f k a b = some true := by
  refine Ev.rounds (g := fun k => laws_FnExactHalvesOf.f k a b) ?_
  have fin : ∀ r : List S27 × Int, r.1.length ≤ 1099511627776 → Ev (fun k => spec_HalvesOf.f k a b) r → Ev (fun k => impl_HalvesOf.f k a b) r → Ev (fun k => laws_FnExactHalvesOf.f k a b) true := by
    intro r hr h1 h2
    unfold laws_FnExactHalvesOf.f laws_toAngle.f
    simp only [Option.bind_some]
    refine Ev.bind h1 (Ev.bind h2 (Ev.bind (ev_eqAngleS r.1 hr) ?_))
    simp only [if_true]
    refine Ev.step (f := fun k => (laws_markAngleS.f k r.1 1).bind fun x => (laws_heldAngleS.f k x.2 1).bind fun t => if t < 0 then some false else if t = x.1 then (laws_toAngle.f a b).bind fun y => (impl_HalvesOf.f k y.1 y.2).bind fun z => (laws_eqAngleS.f k z.1 r.1).bind fun t => if t = true then laws_FnExactHalvesOf.j1 k x.2 x.1 (z.2 != r.2) else laws_FnExactHalvesOf.j1 k x.2 x.1 true else some false) (fun k => by simp [laws_FnExactHalvesOf.j0]) ?_
    refine Ev.bind (ev_markAngleS r.1 hr) ?_
    refine Ev.bind (ev_heldAngleS r.1 hr) ?_
    simp only [if_neg (show ¬ (1 + 2 * (r.1.length : Int) < 0) by omega), if_true, laws_toAngle.f, Option.bind_some]
    refine Ev.bind h2 (Ev.bind (ev_eqAngleS r.1 hr) ?_)
    simp only [if_true]
    refine Ev.step (f := fun k => (laws_heldAngleS.f k (markedA 1 r.1) 1).bind fun t => if t < 0 then some false else if t = 1 + 2 * (r.1.length : Int) then some true else some false) (fun k => by simp [laws_FnExactHalvesOf.j1]) ?_
    refine Ev.bind (ev_heldAngleS r.1 hr) ?_
    simp only [if_neg (show ¬ (1 + 2 * (r.1.length : Int) < 0) by omega), if_true]
    exact Ev.now _
  have hi := ev_anglesCode [⟨a, b⟩]
  simp only [allA, List.all_cons, List.all_nil, Bool.and_true] at hi
  cases h : isA a b with
  | true =>
    rw [h] at hi
    obtain ⟨h1, h2, h3, h4, _⟩ := isA_iff.1 h
    have w1 : wrap64 (2 * b) = 2 * b := wrap_in (by omega) (by omega)
    have w2 : wrap64 (a + b) = a + b := wrap_in (by omega) (by omega)
    have hs : Ev (fun k => spec_l01Halves.f k a b) ((ang a (2 * b)).1, (ang a (2 * b)).2, (ang (a + b) (2 * b)).1, (ang (a + b) (2 * b)).2, decide ((ang a (2 * b)).2 ≤ 8191 ∧ (ang (a + b) (2 * b)).2 ≤ 8191)) := by
      unfold spec_l01Halves.f
      rw [w1, w2]
      refine Ev.bind (ev_spec_Of (by omega) (by omega)) ?_
      refine Ev.bind (ev_spec_Of (by omega) (by omega)) ?_
      by_cases z : (ang a (2 * b)).2 ≤ 8191
      · simp only [if_pos z, z, true_and]; exact Ev.now _
      · simp only [if_neg z, z, false_and, decide_false]; exact Ev.now _
    have hh : Ev (fun k => impl_Angle_halves.f k a b) ((ang a (2 * b)).1, (ang a (2 * b)).2, (ang (a + b) (2 * b)).1, (ang (a + b) (2 * b)).2) := by
      unfold impl_Angle_halves.f
      rw [w1, w2]
      refine Ev.bind (ev_impl_angle (by omega) (by omega)) ?_
      refine Ev.bind (ev_impl_angle (by omega) (by omega)) ?_
      exact Ev.now _
    by_cases z : (ang a (2 * b)).2 ≤ 8191 ∧ (ang (a + b) (2 * b)).2 ≤ 8191
    · refine fin ([⟨(ang a (2 * b)).1, (ang a (2 * b)).2⟩, ⟨(ang (a + b) (2 * b)).1, (ang (a + b) (2 * b)).2⟩], 0) (by simp) ?_ ?_
      · unfold spec_HalvesOf.f
        refine Ev.bind (ev_spec_Is a b) ?_
        simp only [h, if_true]
        refine Ev.bind hs ?_
        simp only [decide_eq_true z, if_true]
        exact Ev.now _
      · unfold impl_HalvesOf.f
        refine Ev.bind hi ?_
        simp only [if_true]
        refine Ev.bind hh ?_
        simp only [if_neg (show ¬ (mx (ang a (2 * b)).2 (ang (a + b) (2 * b)).2 > 8191) by unfold mx; split <;> omega)]
        exact Ev.now _
    · refine fin ([], 3) (by simp) ?_ ?_
      · unfold spec_HalvesOf.f
        refine Ev.bind (ev_spec_Is a b) ?_
        simp only [h, if_true]
        refine Ev.bind hs ?_
        simp only [decide_eq_false z, Bool.false_eq_true, if_false]
        exact Ev.now _
      · unfold impl_HalvesOf.f
        refine Ev.bind hi ?_
        simp only [if_true]
        refine Ev.bind hh ?_
        simp only [if_pos (show mx (ang a (2 * b)).2 (ang (a + b) (2 * b)).2 > 8191 by unfold mx; split <;> omega)]
        exact Ev.now _
  | false =>
    rw [h] at hi
    refine fin ([], 1) (by simp) ?_ ?_
    · unfold spec_HalvesOf.f
      refine Ev.bind (ev_spec_Is a b) ?_
      simp only [h, Bool.false_eq_true, if_false]
      exact Ev.now _
    · unfold impl_HalvesOf.f
      refine Ev.bind hi ?_
      simp
      exact Ev.now _
end Go.Proofs.Ytkdefglfolmfbaa.Q
