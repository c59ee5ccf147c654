/- The pure statement of FnExactDoLeavesCross: both say whether two leaves cross, or give the same error. -/
import Derived.Test.YtkdefglfolmfbaaAngCross3
import Derived.Test.YtkdefglfolmfbaaAngLeafCode
import Derived.Test.YtkdefglfolmfbaaQx27
import Derived.Test.YtkdefglfolmfbaaQx16
import Derived.Test.YtkdefglfolmfbaaQx26
import Derived.Test.YtkdefglfolmfbaaQx17
namespace Go.Proofs.Ytkdefglfolmfbaa.Q
open Go.RowKit Go.Proofs.YtkdefglfolmfbaaW.PrintWords Go.Proofs.YtkdefglfolmfbaaW.PrintLast Go.Proofs.YtkdefglfolmfbaaW.Ext Go.Proofs.Ytkdefglfolmfbaa.Ang
set_option linter.unusedVariables false
set_option linter.unusedSimpArgs false

theorem pure_FnExactDoLeavesCross (a b c d e f g h : Int) : ∃ k, laws_FnExactDoLeavesCross.f k a b c d e f g h = some true := by
  refine Ev.rounds (g := fun k => laws_FnExactDoLeavesCross.f k a b c d e f g h) ?_
  unfold laws_FnExactDoLeavesCross.f laws_toLeaf.f laws_toAngle.f
  simp only [Option.bind_some]
  have hi := ev_leavesCode [⟨⟨a, b⟩, ⟨c, d⟩⟩, ⟨⟨e, f⟩, ⟨g, h⟩⟩]
  simp only [allL, List.all_cons, List.all_nil, Bool.and_true] at hi
  have fin : ∀ r : Bool × Int, Ev (fun k => spec_DoLeavesCross.f k a b c d e f g h) r → Ev (fun k => impl_DoLeavesCross.f k a b c d e f g h) r → Ev (fun k => (spec_DoLeavesCross.f k a b c d e f g h).bind fun x => (impl_DoLeavesCross.f k a b c d e f g h).bind fun y => if (y.1 != x.1) = true then some false else if y.2 = x.2 then some true else some false) true := by
    intro r h1 h2
    refine Ev.bind h1 (Ev.bind h2 ?_)
    simp
    exact Ev.now _
  by_cases hall : isL a b c d = true ∧ isL e f g h = true
  · obtain ⟨h1, h2⟩ := hall
    rw [h1, h2] at hi
    obtain ⟨a1, a2, a3⟩ := isL_iff.1 h1
    obtain ⟨b1, b2, b3⟩ := isL_iff.1 h2
    refine fin (crossV (a, b) (c, d) (e, f) (g, h), 0) ?_ ?_
    · unfold spec_DoLeavesCross.f
      refine Ev.bind (ev_spec_l03Is a b c d) ?_
      simp only [h1, if_true]
      refine Ev.bind (ev_spec_l03Is e f g h) ?_
      simp only [h2, if_true]
      exact Ev.bind (ev_spec_cross a1 a2 b1 b2) (Ev.now _)
    · unfold impl_DoLeavesCross.f
      refine Ev.bind hi ?_
      simp only [Bool.and_self, if_true]
      exact Ev.bind (ev_impl_cross a1 a2 b1 b2 a3 b3) (Ev.now _)
  · have hb : (isL a b c d && isL e f g h) = false := by
      cases h1 : isL a b c d <;> cases h2 : isL e f g h <;> simp_all
    rw [hb] at hi
    refine fin (false, 1) ?_ ?_
    · unfold spec_DoLeavesCross.f
      refine Ev.bind (ev_spec_l03Is a b c d) ?_
      cases h1 : isL a b c d with
      | false => simp only [Bool.false_eq_true, if_false]; exact Ev.now _
      | true =>
        have h2 : isL e f g h = false := by simpa [h1] using hb
        simp only [if_true]
        refine Ev.bind (ev_spec_l03Is e f g h) ?_
        simp only [h2, Bool.false_eq_true, if_false]
        exact Ev.now _
    · unfold impl_DoLeavesCross.f
      refine Ev.bind hi ?_
      simp
      exact Ev.now _
end Go.Proofs.Ytkdefglfolmfbaa.Q
