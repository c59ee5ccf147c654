/- The pure statement of FnExactDistanceOf: both give the distance of two angles, or the same error. -/
import Derived.Test.YtkdefglfolmfbaaAngDist
import Derived.Test.YtkdefglfolmfbaaQx32
import Derived.Test.YtkdefglfolmfbaaQx29
import Derived.Test.YtkdefglfolmfbaaQx31
namespace Go.Proofs.Ytkdefglfolmfbaa.Q
open Go.RowKit Go.Proofs.YtkdefglfolmfbaaW.PrintWords Go.Proofs.YtkdefglfolmfbaaW.PrintLast Go.Proofs.YtkdefglfolmfbaaW.Ext Go.Proofs.Ytkdefglfolmfbaa.Ang
set_option linter.unusedVariables false
set_option linter.unusedSimpArgs false

theorem pure_FnExactDistanceOf (a b c d : Int) : ∃ k, laws_FnExactDistanceOf.f k a b c d = some true := by
  refine Ev.rounds (g := fun k => laws_FnExactDistanceOf.f k a b c d) ?_
  unfold laws_FnExactDistanceOf.f laws_toAngle.f
  simp only [Option.bind_some]
  have hi := ev_anglesCode [⟨a, b⟩, ⟨c, d⟩]
  simp only [allA, List.all_cons, List.all_nil, Bool.and_true] at hi
  have fin : ∀ r : Int × Int × Int, Ev (fun k => spec_DistanceOf.f k a b c d) r → Ev (fun k => impl_DistanceOf.f k a b c d) r → Ev (fun k => (spec_DistanceOf.f k a b c d).bind fun x => (impl_DistanceOf.f k a b c d).bind fun y => (laws_eqAngle.f y.1 y.2.1 x.1 x.2.1).bind fun t => if t = true then (if y.2.2 = x.2.2 then some true else some false) else some false) true := by
    intro r h1 h2
    refine Ev.bind h1 (Ev.bind h2 ?_)
    simp [laws_eqAngle.f]
    exact Ev.now _
  have sbad : Ev (fun k => spec_DistanceOf.j0 k true a b c d) (0, 0, 1) := Ev.step (f := fun _ => some (0, 0, 1)) (fun k => by simp [spec_DistanceOf.j0]) (Ev.now _)
  by_cases hall : isA a b = true ∧ isA c d = true
  · obtain ⟨h, k⟩ := hall
    rw [h, k] at hi
    obtain ⟨r, r1, r2⟩ := told_same (distV (a, b) (c, d)).1 (distV (a, b) (c, d)).2
    refine fin r ?_ ?_
    · unfold spec_DistanceOf.f
      refine Ev.bind (ev_spec_Is a b) ?_
      simp only [h, if_true]
      refine Ev.bind (ev_spec_Is c d) ?_
      simp only [k, Bool.not_true]
      refine Ev.step (f := fun k => (spec_l01Distance.f k a b c d).bind fun x => (spec_l01Told.f x.1 x.2).bind fun y => some (y.1, y.2.1, y.2.2)) (fun k => by simp [spec_DistanceOf.j0]) ?_
      refine Ev.bind (ev_spec_dist h k) ?_
      simp only [r1, Option.bind_some]
      exact Ev.now _
    · unfold impl_DistanceOf.f
      refine Ev.bind hi ?_
      simp only [Bool.and_self, if_true]
      refine Ev.bind (ev_impl_dist h k) ?_
      simp only [r2, Option.bind_some]
      exact Ev.now _
  · have hb : (isA a b && isA c d) = false := by
      cases h1 : isA a b <;> cases h2 : isA c d <;> simp_all
    rw [hb] at hi
    refine fin (0, 0, 1) ?_ ?_
    · unfold spec_DistanceOf.f
      refine Ev.bind (ev_spec_Is a b) ?_
      cases h1 : isA a b with
      | false => simp only [Bool.false_eq_true, if_false]; exact sbad
      | true =>
        have h2 : isA c d = false := by simpa [h1] using hb
        simp only [if_true]
        refine Ev.bind (ev_spec_Is c d) ?_
        simp only [h2, Bool.not_false]
        exact sbad
    · unfold impl_DistanceOf.f
      refine Ev.bind hi ?_
      simp
      exact Ev.now _
end Go.Proofs.Ytkdefglfolmfbaa.Q
