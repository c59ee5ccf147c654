/- The pure statement of FnExactLetterOf: both give the letter of an angle for another one, or the same error. -/
import Derived.Test.YtgjloehbbmlagaaAngLetter
import Derived.Test.YtgjloehbbmlagaaQx39
import Derived.Test.YtgjloehbbmlagaaQx36
import Derived.Test.YtgjloehbbmlagaaQx38
namespace Go.Proofs.Ytgjloehbbmlagaa.Q
open Go.RowKit Go.Proofs.YtgjloehbbmlagaaW.PrintWords Go.Proofs.YtgjloehbbmlagaaW.PrintLast Go.Proofs.YtgjloehbbmlagaaW.Ext Go.Proofs.Ytgjloehbbmlagaa.Ang
set_option linter.unusedVariables false

theorem pure_FnExactLetterOf (a b c d : Int) : ∃ k, laws_FnExactLetterOf.f k a b c d = some true := by
  refine Ev.rounds (g := fun k => laws_FnExactLetterOf.f k a b c d) ?_
  unfold laws_FnExactLetterOf.f laws_toAngle.f
  simp only [Option.bind_some]
  have hi := ev_anglesCode [⟨a, b⟩, ⟨c, d⟩]
  simp only [allA, List.all_cons, List.all_nil, Bool.and_true] at hi
  by_cases hall : isA a b = true ∧ isA c d = true
  · obtain ⟨h1, h2⟩ := hall
    rw [h1, h2] at hi
    refine Ev.bind (a := (strOfNums [letV (a, b) (c, d)], 0)) ?_ ?_
    · unfold spec_LetterOf.f
      refine Ev.bind (ev_spec_Is a b) ?_
      simp only [h1, if_true]
      refine Ev.bind (ev_spec_Is c d) ?_
      simp only [h2, if_true]
      exact Ev.bind (ev_spec_letter h1 h2) (Ev.now _)
    · refine Ev.bind (a := (Utf8.encode (letV (a, b) (c, d)), 0)) ?_ ?_
      · unfold impl_LetterOf.f
        refine Ev.bind hi ?_
        simp only [Bool.and_self, if_true]
        exact Ev.bind (ev_impl_letter h1 h2) (Ev.now _)
      · have e : (Utf8.encode (letV (a, b) (c, d))).toList = (strOfNums [letV (a, b) (c, d)]).toList := by
          rcases letV_three (a, b) (c, d) with z | z | z <;> rw [z] <;> decide +kernel
        simp only [e, if_true]
        exact Ev.now _
  · have hb : (isA a b && isA c d) = false := by
      cases h1 : isA a b <;> cases h2 : isA c d <;> simp_all
    rw [hb] at hi
    refine Ev.bind (a := ((⟨#[]⟩ : ByteArray), 1)) ?_ ?_
    · unfold spec_LetterOf.f
      refine Ev.bind (ev_spec_Is a b) ?_
      cases h1 : isA a b with
      | false => simp only [Bool.false_eq_true, if_false]; exact Ev.now _
      | true =>
        have h2 : isA c d = false := by simpa [h1] using hb
        simp only [if_true]
        refine Ev.bind (ev_spec_Is c d) ?_
        simp only [h2, Bool.false_eq_true, if_false]
        exact Ev.now _
    · refine Ev.bind (a := ((⟨#[]⟩ : ByteArray), 1)) ?_ ?_
      · unfold impl_LetterOf.f
        refine Ev.bind hi ?_
        simp
        exact Ev.now _
      · simp
        exact Ev.now _
end Go.Proofs.Ytgjloehbbmlagaa.Q
