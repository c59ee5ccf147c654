/- HYPS: no string is longer than Go's longest. The pure statement of FnExactSequenceOf. -/
import Derived.Test.YtdnookndjbjllaaSeqIs
import Derived.Test.YtdnookndjbjllaaQx18
import Derived.Test.YtdnookndjbjllaaQx5
import Derived.Test.YtdnookndjbjllaaQx16
import Derived.Test.YtdnookndjbjllaaQx17
namespace Go.Proofs.Ytdnookndjbjllaa.Q
open Go.RowKit Go.Proofs.YtdnookndjbjllaaW.PrintWords Go.Proofs.YtdnookndjbjllaaW.PrintLast Go.Proofs.YtdnookndjbjllaaW.Ext
set_option linter.unusedVariables false
set_option linter.unusedSimpArgs false

theorem pure_FnExactSequenceOf (a b : ByteArray) (ha : a.size ≤ maxLen) (hb : b.size ≤ maxLen) : ∃ k, laws_FnExactSequenceOf.f k a b = some true := by
  refine Ev.rounds (g := fun k => laws_FnExactSequenceOf.f k a b) ?_
  unfold laws_FnExactSequenceOf.f
  by_cases h1 : (a.size : Int) > 1048576
  · simp only [if_pos h1]; exact Ev.now _
  · by_cases h2 : (b.size : Int) > 1048576
    · simp only [if_neg h1, if_pos h2]; exact Ev.now _
    · simp only [if_neg h1, if_neg h2]
      have fin : ∀ r : ByteArray × ByteArray × Int, Ev (fun k => spec_SequenceOf.f k a b) r → Ev (fun k => impl_SequenceOf.f k a b) r → Ev (fun k => (spec_SequenceOf.f k a b).bind fun bt121 => ((impl_SequenceOf.f k a b).bind fun bt125 => ((laws_eqSequence.f bt125.1 bt125.2.1 bt121.1 bt121.2.1).bind fun t129 => (if t129 = true then (if bt125.2.2 = bt121.2.2 then (some true) else (some false)) else (some false))))) true := by
        intro r hs hi
        refine Ev.bind hs (Ev.bind hi ?_)
        simp only [laws_eqSequence.f, if_true, Option.bind_some]
        exact Ev.now _
      have la := ev_spec_letters a (by omega)
      have lb := ev_spec_letters b (by omega)
      have ia := impl_letters a (by omega)
      have ib := impl_letters b (by omega)
      cases ea : lettersB a with
      | false =>
        refine fin (⟨#[]⟩, ⟨#[]⟩, 1) ?_ ?_
        · unfold spec_SequenceOf.f
          refine Ev.bind la ?_
          simp only [ea, Bool.false_eq_true, if_false]
          exact Ev.step (f := fun _ => some (⟨#[]⟩, ⟨#[]⟩, 1)) (fun k => by rw [spec_SequenceOf.j0, if_pos rfl]) (Ev.now _)
        · unfold impl_SequenceOf.f
          simp only [ia, ea, Option.bind_some, Bool.false_eq_true, if_false]
          exact Ev.step (f := fun _ => some (⟨#[]⟩, ⟨#[]⟩, 1)) (fun k => by rw [impl_SequenceOf.j0, if_pos rfl]) (Ev.now _)
      | true =>
        cases eb : lettersB b with
        | false =>
          refine fin (⟨#[]⟩, ⟨#[]⟩, 1) ?_ ?_
          · unfold spec_SequenceOf.f
            refine Ev.bind la ?_
            simp only [ea, if_true]
            refine Ev.bind lb ?_
            simp only [eb, Bool.false_eq_true, if_false]
            exact Ev.step (f := fun _ => some (⟨#[]⟩, ⟨#[]⟩, 1)) (fun k => by rw [spec_SequenceOf.j0, if_pos rfl]) (Ev.now _)
          · unfold impl_SequenceOf.f
            simp only [ia, ib, ea, eb, Option.bind_some, Bool.false_eq_true, if_false, if_true]
            exact Ev.step (f := fun _ => some (⟨#[]⟩, ⟨#[]⟩, 1)) (fun k => by rw [impl_SequenceOf.j0, if_pos rfl]) (Ev.now _)
        | true =>
          have main : ∀ r, Ev (fun k => spec_SequenceOf.j0 k a b (b.toList == ([] : List UInt8))) r → Ev (fun k => impl_SequenceOf.j0 k a b (b.toList == ([] : List UInt8))) r → Ev (fun k => (spec_SequenceOf.f k a b).bind fun bt121 => ((impl_SequenceOf.f k a b).bind fun bt125 => ((laws_eqSequence.f bt125.1 bt125.2.1 bt121.1 bt121.2.1).bind fun t129 => (if t129 = true then (if bt125.2.2 = bt121.2.2 then (some true) else (some false)) else (some false))))) true := by
            intro r hs hi
            refine fin r ?_ ?_
            · unfold spec_SequenceOf.f
              refine Ev.bind la ?_
              simp only [ea, if_true]
              refine Ev.bind lb ?_
              simp only [eb, if_true]
              exact hs
            · unfold impl_SequenceOf.f
              simp only [ia, ib, ea, eb, Option.bind_some, if_true]
              exact hi
          by_cases hz : b.size = 0
          · have e : (b.toList == ([] : List UInt8)) = true := beq_iff_eq.2 ((nil_iff b).2 hz)
            rw [e] at main
            exact main (⟨#[]⟩, ⟨#[]⟩, 1) (Ev.step (f := fun _ => some (⟨#[]⟩, ⟨#[]⟩, 1)) (fun k => by rw [spec_SequenceOf.j0, if_pos rfl]) (Ev.now _)) (Ev.step (f := fun _ => some (⟨#[]⟩, ⟨#[]⟩, 1)) (fun k => by rw [impl_SequenceOf.j0, if_pos rfl]) (Ev.now _))
          · have e : (b.toList == ([] : List UInt8)) = false := beq_eq_false_iff_ne.2 (fun z => hz ((nil_iff b).1 z))
            rw [e] at main
            by_cases h64 : a.size + b.size ≤ 64
            · obtain ⟨c, c1, c2, _⟩ := both_canon a b (by omega) h64
              refine main (c.1, c.2, 0) ?_ ?_
              · refine Ev.step (f := fun k => (spec_l01Canonical.f k a b).bind fun bt105 => some (bt105.1, bt105.2, 0)) (fun k => ?_) (Ev.bind c1 (Ev.now _))
                rw [spec_SequenceOf.j0, if_neg (by decide), wrS (by omega) (by omega), if_neg (by omega)]
              · refine Ev.step (f := fun k => (impl_sequence.f k a b).bind fun bt105 => some (bt105.1, bt105.2, 0)) (fun k => ?_) (Ev.bind c2 (Ev.now _))
                rw [impl_SequenceOf.j0, if_neg (by decide), given_val a b (by omega), Option.bind_some, if_pos (decide_eq_true ⟨by omega, h64⟩)]
            · refine main (⟨#[]⟩, ⟨#[]⟩, 3) ?_ ?_
              · refine Ev.step (f := fun _ => some (⟨#[]⟩, ⟨#[]⟩, 3)) (fun k => ?_) (Ev.now _)
                rw [spec_SequenceOf.j0, if_neg (by decide), wrS (by omega) (by omega), if_pos (by omega)]
              · refine Ev.step (f := fun _ => some (⟨#[]⟩, ⟨#[]⟩, 3)) (fun k => ?_) (Ev.now _)
                rw [impl_SequenceOf.j0, if_neg (by decide), given_val a b (by omega), Option.bind_some, if_neg (by simp; omega)]
end Go.Proofs.Ytdnookndjbjllaa.Q
