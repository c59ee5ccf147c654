/- HYPS: no string is longer than Go's longest. The pure statement of FnExactShiftSequence. -/
import Derived.Test.YtdnookndjbjllaaSeqIs
import Derived.Test.YtdnookndjbjllaaQx35
import Derived.Test.YtdnookndjbjllaaQx32
import Derived.Test.YtdnookndjbjllaaQx34
import Derived.Test.YtdnookndjbjllaaQx17
import Derived.Test.YtdnookndjbjllaaQx22
namespace Go.Proofs.Ytdnookndjbjllaa.Q
open Go.RowKit Go.Proofs.YtdnookndjbjllaaW.PrintWords Go.Proofs.YtdnookndjbjllaaW.PrintLast Go.Proofs.YtdnookndjbjllaaW.Ext
set_option linter.unusedVariables false
set_option linter.unusedSimpArgs false

theorem pure_FnExactShiftSequence (a b : ByteArray) (ha : a.size ≤ maxLen) (hb : b.size ≤ maxLen) : ∃ k, laws_FnExactShiftSequence.f k a b = some true := by
  refine Ev.rounds (g := fun k => laws_FnExactShiftSequence.f k a b) ?_
  unfold laws_FnExactShiftSequence.f
  simp only [laws_toSequence.f, Option.bind_some]
  refine sz_frame ha hb fun h => ?_
  obtain ⟨r, hs, hi, hr⟩ := both_seq a b h
  have hc := ev_code1 true hi
  have fin : ∀ v : ByteArray × ByteArray × Int, Ev (fun k => spec_ShiftSequence.f k a b) v → Ev (fun k => impl_ShiftSequence.f k a b) v → Ev (fun k => (spec_ShiftSequence.f k a b).bind fun bt201 => ((impl_ShiftSequence.f k a b).bind fun bt207 => ((laws_eqSequence.f bt207.1 bt207.2.1 bt201.1 bt201.2.1).bind fun t211 => (if t211 = true then (if bt207.2.2 = bt201.2.2 then (some true) else (some false)) else (some false))))) true := by
    intro v h1 h2
    refine Ev.bind h1 (Ev.bind h2 ?_)
    simp only [laws_eqSequence.f, if_true, Option.bind_some]
    exact Ev.now _
  cases r with
  | false =>
    refine fin (⟨#[]⟩, ⟨#[]⟩, 1) ?_ ?_
    · unfold spec_ShiftSequence.f
      refine Ev.bind hs ?_
      simp only [Bool.false_eq_true, if_false]
      exact Ev.now _
    · unfold impl_ShiftSequence.f
      refine Ev.bind hc ?_
      simp
      exact Ev.now _
  | true =>
    obtain ⟨l1, l2, l3, l4⟩ := hr rfl
    obtain ⟨v, hv⟩ : ∃ v, spec_l01Shift.f a b = some v := by
      unfold spec_l01Shift.f
      by_cases hz : a.size = 0
      · rw [if_pos ((nil_iff a).2 hz), if_pos (by omega), if_pos (by omega), if_pos (by simp; omega)]
        exact ⟨_, rfl⟩
      · rw [if_neg (fun z => hz ((nil_iff a).1 z)), if_pos (by omega)]
        exact ⟨_, rfl⟩
    have hv' : impl_Sequence_shift.f a b = some v := hv
    refine fin (v.1, v.2, 0) ?_ ?_
    · unfold spec_ShiftSequence.f
      refine Ev.bind hs ?_
      simp only [if_true, hv, Option.bind_some]
      exact Ev.now _
    · unfold impl_ShiftSequence.f
      refine Ev.bind hc ?_
      simp only [if_true, hv', Option.bind_some]
      exact Ev.now _
end Go.Proofs.Ytdnookndjbjllaa.Q
