/- The pure statement of FnExactAnglesOfPeriod: both give the same list, or the same error. -/
import Derived.Test.YtkdefglfolmfbaaLawAngles
import Derived.Test.YtkdefglfolmfbaaAngPeriod
import Derived.Test.YtkdefglfolmfbaaQx76
import Derived.Test.YtkdefglfolmfbaaQx72
import Derived.Test.YtkdefglfolmfbaaQx75
namespace Go.Proofs.Ytkdefglfolmfbaa.Q
open Go.RowKit Go.Proofs.YtkdefglfolmfbaaW.PrintWords Go.Proofs.YtkdefglfolmfbaaW.PrintLast Go.Proofs.YtkdefglfolmfbaaW.Ext Go.Proofs.Ytkdefglfolmfbaa.Ang
set_option linter.unusedVariables false
set_option linter.unusedSimpArgs false

theorem pure_FnExactAnglesOfPeriod (a : Int) : ∃ k, laws_FnExactAnglesOfPeriod.f k a = some true := by
  refine Ev.rounds (g := fun k => laws_FnExactAnglesOfPeriod.f k a) ?_
  have fin : ∀ r : List S27 × Int, r.1.length ≤ 1099511627776 → Ev (fun k => spec_AnglesOfPeriod.f k a) r → Ev (fun k => impl_AnglesOfPeriod.f k a) r → Ev (fun k => laws_FnExactAnglesOfPeriod.f k a) true := by
    intro r hr h1 h2
    unfold laws_FnExactAnglesOfPeriod.f
    refine Ev.bind h1 (Ev.bind h2 (Ev.bind (ev_eqAngleS r.1 hr) ?_))
    simp only [if_true]
    refine Ev.step (f := fun k => (laws_markAngleS.f k r.1 1).bind fun x => (laws_heldAngleS.f k x.2 1).bind fun t => if t < 0 then some false else if t = x.1 then (impl_AnglesOfPeriod.f k a).bind fun z => (laws_eqAngleS.f k z.1 r.1).bind fun t => if t = true then laws_FnExactAnglesOfPeriod.j1 k x.2 x.1 (z.2 != r.2) else laws_FnExactAnglesOfPeriod.j1 k x.2 x.1 true else some false) (fun k => by simp [laws_FnExactAnglesOfPeriod.j0]) ?_
    refine Ev.bind (ev_markAngleS r.1 hr) ?_
    refine Ev.bind (ev_heldAngleS r.1 hr) ?_
    simp only [if_neg (show ¬ (1 + 2 * (r.1.length : Int) < 0) by omega), if_true]
    refine Ev.bind h2 (Ev.bind (ev_eqAngleS r.1 hr) ?_)
    simp only [if_true]
    refine Ev.step (f := fun k => (laws_heldAngleS.f k (markedA 1 r.1) 1).bind fun t => if t < 0 then some false else if t = 1 + 2 * (r.1.length : Int) then some true else some false) (fun k => by simp [laws_FnExactAnglesOfPeriod.j1]) ?_
    refine Ev.bind (ev_heldAngleS r.1 hr) ?_
    simp only [if_neg (show ¬ (1 + 2 * (r.1.length : Int) < 0) by omega), if_true]
    exact Ev.now _
  by_cases h : 1 ≤ a ∧ a ≤ 8
  · obtain ⟨r, hl, hs, hi⟩ := both_angles a h.1 h.2
    refine fin (r, 0) (by simp; omega) ?_ ?_
    · unfold spec_AnglesOfPeriod.f spec_l01In.f
      rw [if_pos (show a ≥ 1 by omega)]
      simp only [decide_eq_true h.2, Option.bind_some, if_true]
      exact Ev.bind hs (Ev.now _)
    · unfold impl_AnglesOfPeriod.f impl_within.f
      rw [if_pos h.1]
      simp only [decide_eq_true h.2, Option.bind_some, if_true]
      exact Ev.bind hi (Ev.now _)
  · refine fin ([], 2) (by simp) ?_ ?_
    · unfold spec_AnglesOfPeriod.f spec_l01In.f
      by_cases z : a ≥ 1
      · rw [if_pos z, decide_eq_false (show ¬ a ≤ 8 by omega)]
        exact Ev.now _
      · rw [if_neg z]
        exact Ev.now _
    · unfold impl_AnglesOfPeriod.f impl_within.f
      by_cases z : 1 ≤ a
      · rw [if_pos z, decide_eq_false (show ¬ a ≤ 8 by omega)]
        exact Ev.now _
      · rw [if_neg z]
        exact Ev.now _
end Go.Proofs.Ytkdefglfolmfbaa.Q
