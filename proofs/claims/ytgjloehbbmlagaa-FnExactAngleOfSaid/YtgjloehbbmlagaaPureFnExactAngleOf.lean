/- The pure statement of FnExactAngleOf: both give the fraction in lowest terms, or the same error. -/
import Derived.Test.YtgjloehbbmlagaaAngCore
import Derived.Test.YtgjloehbbmlagaaQx14
import Derived.Test.YtgjloehbbmlagaaQx12
import Derived.Test.YtgjloehbbmlagaaQx13
namespace Go.Proofs.Ytgjloehbbmlagaa.Q
open Go.RowKit Go.Proofs.YtgjloehbbmlagaaW.PrintWords Go.Proofs.YtgjloehbbmlagaaW.PrintLast Go.Proofs.YtgjloehbbmlagaaW.Ext Go.Proofs.Ytgjloehbbmlagaa.Ang
set_option linter.unusedVariables false

theorem pure_FnExactAngleOf (a b : Int) : ∃ k, laws_FnExactAngleOf.f k a b = some true := by
  refine Ev.rounds (g := fun k => laws_FnExactAngleOf.f k a b) ?_
  unfold laws_FnExactAngleOf.f
  have hs : ∀ r : Int × Int × Int, (¬ (-1000000000 ≤ a ∧ a ≤ 1000000000 ∧ 1 ≤ b ∧ b ≤ 1000000000) → r = (0, 0, 2)) → ((-1000000000 ≤ a ∧ a ≤ 1000000000 ∧ 1 ≤ b ∧ b ≤ 1000000000) → spec_l01Told.f (ang a b).1 (ang a b).2 = some r) → Ev (fun k => spec_AngleOf.f k a b) r := by
    intro r h1 h2
    unfold spec_AngleOf.f spec_l01In.f
    have bad : (¬ (-1000000000 ≤ a ∧ a ≤ 1000000000 ∧ 1 ≤ b ∧ b ≤ 1000000000)) → Ev (fun k => spec_AngleOf.j0 k a b true) r := fun h => by
      rw [h1 h]
      exact Ev.step (f := fun _ => some (0, 0, 2)) (fun k => by simp [spec_AngleOf.j0]) (Ev.now _)
    by_cases c1 : -1000000000 ≤ a <;> by_cases c2 : a ≤ 1000000000 <;> by_cases c3 : 1 ≤ b <;> by_cases c4 : b ≤ 1000000000 <;> simp [c1, c2, c3, c4] <;> try exact bad (by omega)
    refine Ev.step (f := fun k => (spec_l01Of.f k a b).bind fun x => (spec_l01Told.f x.1 x.2).bind fun y => some (y.1, y.2.1, y.2.2)) (fun k => by simp [spec_AngleOf.j0]) ?_
    refine Ev.bind (ev_spec_Of (by omega) (by omega)) ?_
    simp only [h2 ⟨c1, c2, c3, c4⟩, Option.bind_some]
    exact Ev.now _
  have hi : ∀ r : Int × Int × Int, (¬ (-1000000000 ≤ a ∧ a ≤ 1000000000 ∧ 1 ≤ b ∧ b ≤ 1000000000) → r = (0, 0, 2)) → ((-1000000000 ≤ a ∧ a ≤ 1000000000 ∧ 1 ≤ b ∧ b ≤ 1000000000) → impl_limited.f (ang a b).1 (ang a b).2 = some r) → Ev (fun k => impl_AngleOf.f k a b) r := by
    intro r h1 h2
    unfold impl_AngleOf.f impl_within.f
    have bad : (¬ (-1000000000 ≤ a ∧ a ≤ 1000000000 ∧ 1 ≤ b ∧ b ≤ 1000000000)) → Ev (fun k => impl_AngleOf.j0 k a b true) r := fun h => by
      rw [h1 h]
      exact Ev.step (f := fun _ => some (0, 0, 2)) (fun k => by simp [impl_AngleOf.j0]) (Ev.now _)
    by_cases c1 : -1000000000 ≤ a <;> by_cases c2 : a ≤ 1000000000 <;> by_cases c3 : 1 ≤ b <;> by_cases c4 : b ≤ 1000000000 <;> simp [c1, c2, c3, c4] <;> try exact bad (by omega)
    refine Ev.step (f := fun k => (impl_angle.f k a b).bind fun x => (impl_limited.f x.1 x.2).bind fun y => some (y.1, y.2.1, y.2.2)) (fun k => by simp [impl_AngleOf.j0]) ?_
    refine Ev.bind (ev_impl_angle (by omega) (by omega)) ?_
    simp only [h2 ⟨c1, c2, c3, c4⟩, Option.bind_some]
    exact Ev.now _
  by_cases c : -1000000000 ≤ a ∧ a ≤ 1000000000 ∧ 1 ≤ b ∧ b ≤ 1000000000
  · have e : ∃ r, spec_l01Told.f (ang a b).1 (ang a b).2 = some r ∧ impl_limited.f (ang a b).1 (ang a b).2 = some r := by
      unfold spec_l01Told.f impl_limited.f
      by_cases z : (ang a b).2 > 8191
      · exact ⟨_, by rw [if_pos z], by rw [if_pos z]⟩
      · exact ⟨_, by rw [if_neg z], by rw [if_neg z]⟩
    obtain ⟨r, r1, r2⟩ := e
    refine Ev.bind (hs r (fun z => absurd c z) (fun _ => r1)) ?_
    refine Ev.bind (hi r (fun z => absurd c z) (fun _ => r2)) ?_
    simp [laws_eqAngle.f]
    exact Ev.now _
  · refine Ev.bind (hs _ (fun _ => rfl) (fun z => absurd z c)) ?_
    refine Ev.bind (hi _ (fun _ => rfl) (fun z => absurd z c)) ?_
    simp [laws_eqAngle.f]
    exact Ev.now _
end Go.Proofs.Ytgjloehbbmlagaa.Q
