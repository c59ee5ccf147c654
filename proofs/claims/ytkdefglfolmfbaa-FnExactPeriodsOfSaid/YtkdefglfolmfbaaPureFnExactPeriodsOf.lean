/- The pure statement of FnExactPeriodsOf: both give the preperiod and the period, or the same error. -/
import Derived.Test.YtkdefglfolmfbaaLawInts
import Derived.Test.YtkdefglfolmfbaaAngOrbitSpec
import Derived.Test.YtkdefglfolmfbaaAngOrbitImpl
import Derived.Test.YtkdefglfolmfbaaQx66
import Derived.Test.YtkdefglfolmfbaaQx58
import Derived.Test.YtkdefglfolmfbaaQx62
import Derived.Test.YtkdefglfolmfbaaQx61
namespace Go.Proofs.Ytkdefglfolmfbaa.Q
open Go.RowKit Go.Proofs.YtkdefglfolmfbaaW.PrintWords Go.Proofs.YtkdefglfolmfbaaW.PrintLast Go.Proofs.YtkdefglfolmfbaaW.Ext Go.Proofs.Ytkdefglfolmfbaa.Ang
set_option linter.unusedVariables false
set_option linter.unusedSimpArgs false

theorem pure_FnExactPeriodsOf (a b : Int) : ∃ k, laws_FnExactPeriodsOf.f k a b = some true := by
  refine Ev.rounds (g := fun k => laws_FnExactPeriodsOf.f k a b) ?_
  have fin : ∀ r : List Int × Int, r.1.length ≤ 1099511627776 → Ev (fun k => spec_PeriodsOf.f k a b) r → Ev (fun k => impl_PeriodsOf.f k a b) r → Ev (fun k => laws_FnExactPeriodsOf.f k a b) true := by
    intro r hr h1 h2
    unfold laws_FnExactPeriodsOf.f laws_toAngle.f
    simp only [Option.bind_some]
    refine Ev.bind h1 (Ev.bind h2 (Ev.bind (ev_eqInt64S r.1 hr) ?_))
    simp only [if_true]
    refine Ev.step (f := fun k => (laws_markInt64S.f k r.1 1).bind fun x => (laws_heldInt64S.f k x.2 1).bind fun t => if t < 0 then some false else if t = x.1 then (laws_toAngle.f a b).bind fun y => (impl_PeriodsOf.f k y.1 y.2).bind fun z => (laws_eqInt64S.f k z.1 r.1).bind fun t => if t = true then laws_FnExactPeriodsOf.j1 k x.2 x.1 (z.2 != r.2) else laws_FnExactPeriodsOf.j1 k x.2 x.1 true else some false) (fun k => by simp [laws_FnExactPeriodsOf.j0]) ?_
    refine Ev.bind (ev_markInt64S r.1 hr) ?_
    refine Ev.bind (ev_heldInt64S r.1 hr) ?_
    simp only [if_neg (show ¬ (1 + (r.1.length : Int) < 0) by omega), if_true, laws_toAngle.f, Option.bind_some]
    refine Ev.bind h2 (Ev.bind (ev_eqInt64S r.1 hr) ?_)
    simp only [if_true]
    refine Ev.step (f := fun k => (laws_heldInt64S.f k (markedI 1 r.1) 1).bind fun t => if t < 0 then some false else if t = 1 + (r.1.length : Int) then some true else some false) (fun k => by simp [laws_FnExactPeriodsOf.j1]) ?_
    refine Ev.bind (ev_heldInt64S r.1 hr) ?_
    simp only [if_neg (show ¬ (1 + (r.1.length : Int) < 0) by omega), if_true]
    exact Ev.now _
  cases h : isA a b with
  | true =>
    have hb := isA_bd h
    obtain ⟨p, q, e, hq⟩ := exists_odd b.toNat (by omega)
    have hx : b = 2 ^ p * q := by rw [← e]; omega
    have hs := ev_spec_orbit h hx hq
    have hi := ev_impl_orbit h hx hq
    generalize orbGo (a, b) p 65 0 = o at hs hi
    refine fin (if o.2.2 = true then ([o.2.1, wrap64 ((o.1.length : Int) - o.2.1)], 0) else ([], 3)) (by split <;> simp) ?_ ?_
    · unfold spec_PeriodsOf.f
      refine Ev.bind (ev_spec_Is a b) ?_
      simp only [h, if_true]
      refine Ev.bind hs ?_
      cases o.2.2 <;> exact Ev.now _
    · unfold impl_PeriodsOf.f impl_orbitOf.f
      refine Ev.bind (a := if o.2.2 = true then (o.1, o.2.1, 0) else ([], 0, 3)) ?_ ?_
      · refine Ev.bind (ev_impl_IsAngle a b) ?_
        simp only [h, if_true]
        refine Ev.bind hi ?_
        cases o.2.2 <;> exact Ev.now _
      · cases o.2.2 <;> exact Ev.now _
  | false =>
    refine fin ([], 1) (by simp) ?_ ?_
    · unfold spec_PeriodsOf.f
      refine Ev.bind (ev_spec_Is a b) ?_
      simp only [h, Bool.false_eq_true, if_false]
      exact Ev.now _
    · unfold impl_PeriodsOf.f impl_orbitOf.f
      refine Ev.bind (a := ([], 0, 1)) ?_ ?_
      · refine Ev.bind (ev_impl_IsAngle a b) ?_
        simp only [h, Bool.false_eq_true, if_false]
        exact Ev.now _
      · exact Ev.now _
end Go.Proofs.Ytkdefglfolmfbaa.Q
