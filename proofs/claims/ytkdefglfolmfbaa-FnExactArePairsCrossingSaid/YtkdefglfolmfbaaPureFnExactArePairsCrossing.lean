/- The pure statement of FnExactArePairsCrossing: both say whether two pairs cross, or give the same error. -/
import Derived.Test.YtkdefglfolmfbaaAngCross4
import Derived.Test.YtkdefglfolmfbaaQx39
import Derived.Test.YtkdefglfolmfbaaQx35
import Derived.Test.YtkdefglfolmfbaaQx38
import Derived.Test.YtkdefglfolmfbaaQx36
import Derived.Test.YtkdefglfolmfbaaQx37
namespace Go.Proofs.Ytkdefglfolmfbaa.Q
open Go.RowKit Go.Proofs.YtkdefglfolmfbaaW.PrintWords Go.Proofs.YtkdefglfolmfbaaW.PrintLast Go.Proofs.YtkdefglfolmfbaaW.Ext Go.Proofs.Ytkdefglfolmfbaa.Ang
set_option linter.unusedVariables false
set_option linter.unusedSimpArgs false

theorem pure_FnExactArePairsCrossing (a b c d e f g h : Int) : ∃ k, laws_FnExactArePairsCrossing.f k a b c d e f g h = some true := by
  refine Ev.rounds (g := fun k => laws_FnExactArePairsCrossing.f k a b c d e f g h) ?_
  unfold laws_FnExactArePairsCrossing.f laws_toRayPair.f laws_toAngle.f
  simp only [Option.bind_some]
  have hi := ev_anglesCode [⟨a, b⟩, ⟨c, d⟩, ⟨e, f⟩, ⟨g, h⟩]
  simp only [allA, List.all_cons, List.all_nil, Bool.and_true] at hi
  have fin : ∀ r : Bool × Int, Ev (fun k => spec_ArePairsCrossing.f k a b c d e f g h) r → Ev (fun k => impl_ArePairsCrossing.f k a b c d e f g h) r → Ev (fun k => (spec_ArePairsCrossing.f k a b c d e f g h).bind fun x => (impl_ArePairsCrossing.f k a b c d e f g h).bind fun y => if (y.1 != x.1) = true then some false else if y.2 = x.2 then some true else some false) true := by
    intro r h1 h2
    refine Ev.bind h1 (Ev.bind h2 ?_)
    simp
    exact Ev.now _
  have sbad : Ev (fun k => spec_ArePairsCrossing.j0 k true a b c d e f g h) (false, 1) := Ev.step (f := fun _ => some (false, 1)) (fun k => by simp [spec_ArePairsCrossing.j0]) (Ev.now _)
  by_cases hall : isA a b = true ∧ isA c d = true ∧ isA e f = true ∧ isA g h = true
  · obtain ⟨h1, h2, h3, h4⟩ := hall
    rw [h1, h2, h3, h4] at hi
    have two : Ev (fun k => impl_ArePairsCrossing.j0 k true a b c d e f g h) (false, 2) := Ev.step (f := fun _ => some (false, 2)) (fun k => by simp [impl_ArePairsCrossing.j0]) (Ev.now _)
    have hl1 : isL a b c d = decide (lt (a, b) (c, d)) := by unfold isL; rw [h1, h2]; simp
    have hl2 : isL e f g h = decide (lt (e, f) (g, h)) := by unfold isL; rw [h3, h4]; simp
    refine fin (if lt (a, b) (c, d) ∧ lt (e, f) (g, h) then (crossV (a, b) (c, d) (e, f) (g, h), 0) else (false, 2)) ?_ ?_
    · unfold spec_ArePairsCrossing.f
      refine Ev.bind (ev_spec_Is a b) ?_
      simp only [h1, if_true]
      refine Ev.bind (ev_spec_Is c d) ?_
      simp only [h2, if_true]
      refine Ev.bind (ev_spec_Is e f) ?_
      simp only [h3, if_true]
      refine Ev.bind (ev_spec_Is g h) ?_
      simp only [h4, Bool.not_true]
      refine Ev.step (f := fun k => if lt (a, b) (c, d) then (if lt (e, f) (g, h) then (spec_l04Cross.f k a b c d e f g h).bind fun t => some (t, 0) else some (false, 2)) else some (false, 2)) (fun k => by simp only [spec_ArePairsCrossing.j0, Bool.false_eq_true, if_false, less_val (isA_small h1) (isA_small h2), less_val (isA_small h3) (isA_small h4), Option.bind_some, decide_eq_true_eq]) ?_
      by_cases u : lt (a, b) (c, d)
      · by_cases v : lt (e, f) (g, h)
        · simp only [u, v, and_self, if_true]
          exact Ev.bind (ev_spec_cross4 h1 h2 h3 h4) (Ev.now _)
        · simp only [u, v, and_false, if_true, if_false]; exact Ev.now _
      · simp only [u, false_and, if_false]; exact Ev.now _
    · unfold impl_ArePairsCrossing.f impl_RayPair_leaf.f
      refine Ev.bind hi ?_
      simp only [Bool.and_self, if_true, Option.bind_some]
      refine Ev.bind (ev_impl_IsLeaf a b c d) ?_
      rw [hl1]
      by_cases u : lt (a, b) (c, d)
      · simp only [u, decide_true, if_true, true_and]
        refine Ev.bind (ev_impl_IsLeaf e f g h) ?_
        rw [hl2]
        by_cases v : lt (e, f) (g, h)
        · simp only [v, decide_true, Bool.not_true, if_true]
          refine Ev.step (f := fun k => (impl_Leaf_cross.f k a b c d e f g h).bind fun t => some (t, 0)) (fun k => by simp [impl_ArePairsCrossing.j0, impl_RayPair_leaf.f]) ?_
          exact Ev.bind (ev_impl_cross h1 h2 h3 h4 u v) (Ev.now _)
        · simp only [v, decide_false, Bool.not_false, if_false]
          exact two
      · simp only [u, decide_false, Bool.false_eq_true, if_false, false_and]
        exact two
  · have hb : (isA a b && (isA c d && (isA e f && isA g h))) = false := by
      cases h1 : isA a b <;> cases h2 : isA c d <;> cases h3 : isA e f <;> cases h4 : isA g h <;> simp_all
    rw [hb] at hi
    refine fin (false, 1) ?_ ?_
    · unfold spec_ArePairsCrossing.f
      refine Ev.bind (ev_spec_Is a b) ?_
      cases h1 : isA a b with
      | false => simp only [Bool.false_eq_true, if_false]; exact sbad
      | true =>
        simp only [if_true]
        refine Ev.bind (ev_spec_Is c d) ?_
        cases h2 : isA c d with
        | false => simp only [Bool.false_eq_true, if_false]; exact sbad
        | true =>
          simp only [if_true]
          refine Ev.bind (ev_spec_Is e f) ?_
          cases h3 : isA e f with
          | false => simp only [Bool.false_eq_true, if_false]; exact sbad
          | true =>
            have h4 : isA g h = false := by simpa [h1, h2, h3] using hb
            simp only [if_true]
            refine Ev.bind (ev_spec_Is g h) ?_
            simp only [h4, Bool.not_false]
            exact sbad
    · unfold impl_ArePairsCrossing.f
      refine Ev.bind hi ?_
      simp
      exact Ev.now _
end Go.Proofs.Ytkdefglfolmfbaa.Q
