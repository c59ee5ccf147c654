/- The pure statement of FnExactPairsOfOrbit. -/
import Derived.Test.YtngffoffjiofbaaAngPairs
import Derived.Test.YtngffoffjiofbaaQx73
import Derived.Test.YtngffoffjiofbaaQx71
import Derived.Test.YtngffoffjiofbaaQx72
namespace Go.Proofs.Ytngffoffjiofbaa.Q
open Go.RowKit Go.Proofs.YtngffoffjiofbaaW.PrintWords Go.Proofs.YtngffoffjiofbaaW.PrintLast Go.Proofs.YtngffoffjiofbaaW.Ext Go.Proofs.Ytngffoffjiofbaa.Ang
set_option linter.unusedVariables false
set_option linter.unusedSimpArgs false

theorem pure_FnExactPairsOfOrbit (a b : Int) : ∃ k, laws_FnExactPairsOfOrbit.f k a b = some true := by
  refine Ev.rounds (g := fun k => laws_FnExactPairsOfOrbit.f k a b) ?_
  obtain ⟨o, L, c, h1, h2, h3, h4, h5⟩ := both_pairing a b
  have hi : Ev (fun k => impl_PairsOfOrbit.f k a b) (if c = 0 then (L, 0) else ([], c)) := by
    unfold impl_PairsOfOrbit.f
    refine Ev.bind h1 ?_
    split <;> exact Ev.now _
  have hs : Ev (fun k => spec_PairsOfOrbit.f k a b) (if c = 0 then (L, 0) else ([], c)) := by
    unfold spec_PairsOfOrbit.f
    refine Ev.bind h2 ?_
    split
    · rename_i hc
      exact Ev.bind (h5 hc).2.1 (Ev.now _)
    · exact Ev.now _
  have hl : (if c = 0 then (L, (0 : Int)) else ([], c)).1.length ≤ 100 := by split <;> simp <;> omega
  have ht : tot (if c = 0 then (L, (0 : Int)) else ([], c)).1 ≤ 100 := by
    split
    · exact h4
    · simp [tot]
  generalize (if c = 0 then (L, (0 : Int)) else ([], c)) = r at hi hs hl ht
  unfold laws_FnExactPairsOfOrbit.f laws_toAngle.f
  simp only [Option.bind_some]
  refine Ev.bind hs (Ev.bind hi (Ev.bind (ev_eqInt64SS r.1 (by omega) (by omega)) ?_))
  simp only [if_true]
  refine Ev.bind (ev_markInt64SS r.1 1 (by omega) (by omega) (by omega) (by omega)) (Ev.bind (ev_heldInt64SS r.1 1 (by omega) (by omega) (by omega) (by omega)) ?_)
  simp only [if_neg (show ¬ (1 + (tot r.1 : Int) < 0) by omega), if_true]
  exact Ev.now _
end Go.Proofs.Ytngffoffjiofbaa.Q
