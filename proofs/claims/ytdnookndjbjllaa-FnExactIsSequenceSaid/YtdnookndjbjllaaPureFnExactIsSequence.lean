/- HYPS: no string is longer than Go's longest. The pure statement of FnExactIsSequence. -/
import Derived.Test.YtdnookndjbjllaaSeqIs
import Derived.Test.YtdnookndjbjllaaQx24
import Derived.Test.YtdnookndjbjllaaQx21
import Derived.Test.YtdnookndjbjllaaQx22
namespace Go.Proofs.Ytdnookndjbjllaa.Q
open Go.RowKit Go.Proofs.YtdnookndjbjllaaW.PrintWords Go.Proofs.YtdnookndjbjllaaW.PrintLast Go.Proofs.YtdnookndjbjllaaW.Ext
set_option linter.unusedVariables false
set_option linter.unusedSimpArgs false

theorem pure_FnExactIsSequence (a b : ByteArray) (ha : a.size ≤ maxLen) (hb : b.size ≤ maxLen) : ∃ k, laws_FnExactIsSequence.f k a b = some true := by
  refine Ev.rounds (g := fun k => laws_FnExactIsSequence.f k a b) ?_
  unfold laws_FnExactIsSequence.f
  simp only [laws_toSequence.f, Option.bind_some]
  refine sz_frame ha hb fun h => ?_
  obtain ⟨r, hs, hi, _⟩ := both_seq a b h
  refine Ev.bind (a := r) (by unfold spec_IsSequence.f; exact Ev.bind hs (Ev.now _)) ?_
  refine Ev.bind hi ?_
  simp
  exact Ev.now _
end Go.Proofs.Ytdnookndjbjllaa.Q
