/- The pure statement of FnExactLeafLength: both give the length of a leaf, or the same error. -/
import Derived.Test.YtkdefglfolmfbaaAngDist
import Derived.Test.YtkdefglfolmfbaaAngLeafCode
import Derived.Test.YtkdefglfolmfbaaQx43
import Derived.Test.YtkdefglfolmfbaaQx40
import Derived.Test.YtkdefglfolmfbaaQx42
import Derived.Test.YtkdefglfolmfbaaQx41
import Derived.Test.YtkdefglfolmfbaaQx17
namespace Go.Proofs.Ytkdefglfolmfbaa.Q
open Go.RowKit Go.Proofs.YtkdefglfolmfbaaW.PrintWords Go.Proofs.YtkdefglfolmfbaaW.PrintLast Go.Proofs.YtkdefglfolmfbaaW.Ext Go.Proofs.Ytkdefglfolmfbaa.Ang
set_option linter.unusedVariables false
set_option linter.unusedSimpArgs false

theorem pure_FnExactLeafLength (a b c d : Int) : ∃ k, laws_FnExactLeafLength.f k a b c d = some true := by
  refine Ev.rounds (g := fun k => laws_FnExactLeafLength.f k a b c d) ?_
  unfold laws_FnExactLeafLength.f laws_toLeaf.f laws_toAngle.f
  simp only [Option.bind_some]
  have hi := ev_leavesCode [⟨⟨a, b⟩, ⟨c, d⟩⟩]
  simp only [allL, List.all_cons, List.all_nil, Bool.and_true] at hi
  have fin : ∀ r : Int × Int × Int, Ev (fun k => spec_LeafLength.f k a b c d) r → Ev (fun k => impl_LeafLength.f k a b c d) r → Ev (fun k => (spec_LeafLength.f k a b c d).bind fun x => (impl_LeafLength.f k a b c d).bind fun y => (laws_eqAngle.f y.1 y.2.1 x.1 x.2.1).bind fun t => if t = true then (if y.2.2 = x.2.2 then some true else some false) else some false) true := by
    intro r h1 h2
    refine Ev.bind h1 (Ev.bind h2 ?_)
    simp [laws_eqAngle.f]
    exact Ev.now _
  unfold spec_LeafLength.f impl_LeafLength.f impl_Leaf_size.f at fin ⊢
  cases hl : isL a b c d with
  | true =>
    rw [hl] at hi
    obtain ⟨a1, a2, a3⟩ := isL_iff.1 hl
    obtain ⟨r, r1, r2⟩ := told_same (distV (a, b) (c, d)).1 (distV (a, b) (c, d)).2
    refine fin r ?_ ?_
    · refine Ev.bind (ev_spec_l03Is a b c d) ?_
      simp only [hl, if_true]
      refine Ev.bind (ev_spec_dist a1 a2) ?_
      simp only [r1, Option.bind_some]
      exact Ev.now _
    · refine Ev.bind hi ?_
      simp only [if_true]
      refine Ev.bind (Ev.bind (ev_impl_dist a1 a2) (Ev.now _)) ?_
      simp only [r2, Option.bind_some]
      exact Ev.now _
  | false =>
    rw [hl] at hi
    refine fin (0, 0, 1) ?_ ?_
    · refine Ev.bind (ev_spec_l03Is a b c d) ?_
      simp only [hl, Bool.false_eq_true, if_false]
      exact Ev.now _
    · refine Ev.bind hi ?_
      simp
      exact Ev.now _
end Go.Proofs.Ytkdefglfolmfbaa.Q
