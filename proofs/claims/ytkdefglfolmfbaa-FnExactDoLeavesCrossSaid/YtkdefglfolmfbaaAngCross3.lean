/- Whether two leaves cross: the reference's plain value. -/
import Derived.Test.YtkdefglfolmfbaaAngCross
import Derived.Test.YtkdefglfolmfbaaQx15
namespace Go.Proofs.Ytkdefglfolmfbaa.Q
open Go.RowKit Go.Proofs.YtkdefglfolmfbaaW.PrintWords Go.Proofs.YtkdefglfolmfbaaW.PrintLast Go.Proofs.YtkdefglfolmfbaaW.Ext Go.Proofs.Ytkdefglfolmfbaa.Ang
set_option linter.unusedVariables false
set_option linter.unusedSimpArgs false

theorem ev_spec_cross {p1 p2 q1 q2 r1 r2 s1 s2 : Int} (hp : isA p1 p2 = true) (hq : isA q1 q2 = true) (hr : isA r1 r2 = true) (hs : isA s1 s2 = true) :
    Ev (fun n => spec_l03Cross.f n p1 p2 q1 q2 r1 r2 s1 s2) (crossV (p1, p2) (q1, q2) (r1, r2) (s1, s2)) := by
  unfold spec_l03Cross.f
  simp only [eq_pair, decide_eq_true_eq]
  have zero : (((p1, p2) = (r1, r2)) ∨ ((p1, p2) = (s1, s2)) ∨ ((q1, q2) = (r1, r2)) ∨ ((q1, q2) = (s1, s2))) → Ev (fun n => spec_l03Cross.j0 n true p1 p2 q1 q2 r1 r2 s1 s2) (crossV (p1, p2) (q1, q2) (r1, r2) (s1, s2)) := fun z => by
    unfold crossV
    rw [if_pos z]
    exact Ev.step (f := fun _ => some false) (fun k => by simp [spec_l03Cross.j0]) (Ev.now _)
  refine ev_if (fun h => zero (.inl h)) (fun h1 => ?_)
  refine ev_if (fun h => zero (.inr (.inl h))) (fun h2 => ?_)
  refine ev_if (fun h => zero (.inr (.inr (.inl h)))) (fun h3 => ?_)
  by_cases h4 : (q1, q2) = (s1, s2)
  · simp only [decide_eq_true h4]
    exact zero (.inr (.inr (.inr h4)))
  · simp only [decide_eq_false h4]
    unfold crossV
    rw [if_neg (by simp only [h1, h2, h3, h4, or_self, not_false_eq_true])]
    exact Ev.step (f := fun _ => some (within (p1, p2) (r1, r2) (s1, s2) != within (q1, q2) (r1, r2) (s1, s2))) (fun k => by simp [spec_l03Cross.j0, within_val (isA_small hp) (isA_small hr) (isA_small hs), within_val (isA_small hq) (isA_small hr) (isA_small hs)]) (Ev.now _)
end Go.Proofs.Ytkdefglfolmfbaa.Q
