/- HYPS: no string is longer than Go's longest. The pure statement of FnExactLetterAt. -/
import Derived.Test.YtdnookndjbjllaaSeqIs
import Derived.Test.YtdnookndjbjllaaQx30
import Derived.Test.YtdnookndjbjllaaQx26
import Derived.Test.YtdnookndjbjllaaQx29
import Derived.Test.YtdnookndjbjllaaQx22
namespace Go.Proofs.Ytdnookndjbjllaa.Q
open Go.RowKit Go.Proofs.YtdnookndjbjllaaW.PrintWords Go.Proofs.YtdnookndjbjllaaW.PrintLast Go.Proofs.YtdnookndjbjllaaW.Ext
set_option linter.unusedVariables false
set_option linter.unusedSimpArgs false

theorem enc_letter {t : Int} (h : t = 48 ∨ t = 49 ∨ t = 42) : (Utf8.encode t).toList = (strOfNums [t]).toList := by
  rcases h with z | z | z <;> rw [z] <;> decide +kernel
theorem pure_FnExactLetterAt (a b : ByteArray) (n : Int) (ha : a.size ≤ maxLen) (hb : b.size ≤ maxLen) (hn : (Lit.int .i64 n).wf = true) : ∃ k, laws_FnExactLetterAt.f k a b n = some true := by
  refine Ev.rounds (g := fun k => laws_FnExactLetterAt.f k a b n) ?_
  unfold laws_FnExactLetterAt.f
  simp only [laws_toSequence.f, Option.bind_some]
  refine sz_frame ha hb fun h => ?_
  obtain ⟨r, hs, hi, hr⟩ := both_seq a b h
  have hc := ev_code1 (decide (0 ≤ n ∧ n ≤ 1000000)) hi
  cases r with
  | false =>
    refine Ev.bind (a := (⟨#[]⟩, 1)) ?_ (Ev.bind (a := (⟨#[]⟩, 1)) ?_ ?_)
    · unfold spec_LetterAt.f
      refine Ev.bind hs ?_
      simp only [Bool.false_eq_true, if_false]
      exact Ev.now _
    · unfold impl_LetterAt.f
      simp only [in_val', Option.bind_some]
      refine Ev.bind hc ?_
      simp
      exact Ev.now _
    · simp
      exact Ev.now _
  | true =>
    obtain ⟨l1, l2, l3, l4⟩ := hr rfl
    by_cases hd : 0 ≤ n ∧ n ≤ 1000000
    · obtain ⟨m, rfl⟩ := Int.eq_ofNat_of_zero_le hd.1
      refine Ev.bind (a := (strOfNums [atV a b m], 0)) ?_ (Ev.bind (a := (Utf8.encode (atV a b m), 0)) ?_ ?_)
      · unfold spec_LetterAt.f
        refine Ev.bind hs ?_
        simp only [in_val, decide_eq_true hd, Option.bind_some, if_true, at_val a b m l3 (by omega) (by omega)]
        exact Ev.now _
      · unfold impl_LetterAt.f
        simp only [in_val', Option.bind_some]
        refine Ev.bind hc ?_
        simp only [decide_eq_true hd, if_true, at_val' a b m l3 (by omega) (by omega), Option.bind_some]
        exact Ev.now _
      · simp only [enc_letter (at_letter l1 l2 l3 m), if_true]
        exact Ev.now _
    · refine Ev.bind (a := (⟨#[]⟩, 2)) ?_ (Ev.bind (a := (⟨#[]⟩, 2)) ?_ ?_)
      · unfold spec_LetterAt.f
        refine Ev.bind hs ?_
        simp only [in_val, decide_eq_false hd, Option.bind_some, if_true, Bool.false_eq_true, if_false]
        exact Ev.now _
      · unfold impl_LetterAt.f
        simp only [in_val', Option.bind_some]
        refine Ev.bind hc ?_
        simp [decide_eq_false hd]
        exact Ev.now _
      · simp
        exact Ev.now _
end Go.Proofs.Ytdnookndjbjllaa.Q
