/- The pure statement of FnExactSequenceOfAddress: both give the same word, or the same error. -/
import Derived.Test.YtnbaembdmfiimaaSeqAddr
import Derived.Test.YtnbaembdmfiimaaLawIntsTo
import Derived.Test.YtnbaembdmfiimaaQx36
import Derived.Test.YtnbaembdmfiimaaQx22
import Derived.Test.YtnbaembdmfiimaaQx33
import Derived.Test.YtnbaembdmfiimaaQx34
namespace Go.Proofs.Ytnbaembdmfiimaa.Q
open Go.RowKit Go.Proofs.YtnbaembdmfiimaaW.PrintWords Go.Proofs.YtnbaembdmfiimaaW.PrintLast Go.Proofs.YtnbaembdmfiimaaW.Ext
set_option linter.unusedVariables false
set_option linter.unusedSimpArgs false

theorem both_seqaddr (l : List Int) (hl : l.length ≤ 1048576) : ∃ r : ByteArray × ByteArray × Int, Ev (fun k => spec_SequenceOfAddress.f k l) r ∧ Ev (fun k => impl_SequenceOfAddress.f k l) r := by
  obtain ⟨q, q1, q2, q3⟩ := both_addr hl
  cases q with
  | false =>
    refine ⟨(⟨#[]⟩, ⟨#[]⟩, 2), ?_, ?_⟩
    · unfold spec_SequenceOfAddress.f
      refine Ev.bind q1 ?_
      simp only [Bool.false_eq_true, if_false]
      exact Ev.now _
    · unfold impl_SequenceOfAddress.f
      refine Ev.bind q2 ?_
      simp only [Bool.false_eq_true, if_false]
      exact Ev.now _
  | true =>
    obtain ⟨a1, a2, a3, a4, a5⟩ := q3 rfl
    by_cases h1 : l.length = 1
    · refine ⟨(⟨#[]⟩, ⟨#[42]⟩, 0), ?_, ?_⟩
      · unfold spec_SequenceOfAddress.f
        refine Ev.bind q1 ?_
        simp only [if_true]
        refine Ev.step (f := fun _ => some (⟨#[]⟩, ⟨#[42]⟩, 0)) (fun k => ?_) (Ev.now _)
        rw [spec_SequenceOfAddress.l0, wrS (x := (l.length : Int) - 1) (by omega) (by omega), if_neg (by omega), if_neg (by omega), wrS (x := ((([49] : List Int).length : Nat) : Int) - 1) (by decide) (by decide)]
        rfl
      · unfold impl_SequenceOfAddress.f
        refine Ev.bind q2 ?_
        simp only [if_true]
        refine Ev.step (f := fun k => impl_SequenceOfAddress.l0 k l (⟨#[42]⟩ : ByteArray) l (l.length : Int) 1) (fun k => ?_) (Ev.step (f := fun _ => some (⟨#[]⟩, ⟨#[42]⟩, 0)) (fun k => by rw [impl_SequenceOfAddress.l0, if_neg (by omega)]) (Ev.now _))
        rw [impl_SequenceOfAddress.l0, if_pos (by omega), if_pos (by omega), if_pos (by omega), if_pos (by omega), wrS (x := (0 : Int) + 1) (by omega) (by omega)]
        rfl
    · have up : ∀ t : Nat, t < l.length → 1 ≤ rd l (t : Int) := by
        intro t
        induction t with
        | zero =>
          intro _
          have e : rd l ((0 : Nat) : Int) = 1 := a3
          omega
        | succ t ih =>
          intro ht
          have g := ih (by omega)
          have g2 := a5 (t + 1) (by omega) ht
          simp only [Nat.add_sub_cancel] at g2
          omega
      have down : ∀ d t : Nat, t + d = l.length - 1 → rd l (t : Int) ≤ 40 := by
        intro d
        induction d with
        | zero =>
          intro t h
          obtain rfl : t = l.length - 1 := by omega
          exact a4
        | succ d ih =>
          intro t h
          have g := ih (t + 1) (by omega)
          have g2 := a5 (t + 1) (by omega) (by omega)
          simp only [Nat.add_sub_cancel] at g2
          omega
      have e49 : bytesOf (⟨#[49]⟩ : ByteArray) = [49] := rfl
      obtain ⟨r, r1, r2⟩ := both_words (l := l) (by omega) a2 (fun t t1 t2 => ⟨up t t2, down (l.length - 1 - t) t (by omega)⟩) (l.length - 2) 1 (⟨#[49]⟩ : ByteArray) (by omega) (by omega) (by decide) (by decide) (by rw [e49]; intro x hx; right; exact List.mem_singleton.1 hx)
      refine ⟨(⟨#[]⟩, r, 0), ?_, ?_⟩
      · unfold spec_SequenceOfAddress.f
        refine Ev.bind q1 ?_
        simp only [if_true]
        exact r1
      · unfold impl_SequenceOfAddress.f
        refine Ev.bind q2 ?_
        simp only [if_true]
        refine Ev.step (f := fun k => impl_SequenceOfAddress.l0 k l (⟨#[49]⟩ : ByteArray) l (l.length : Int) 1) (fun k => ?_) r2
        rw [impl_SequenceOfAddress.l0, if_pos (by omega), if_pos (by omega), if_pos (by omega), if_neg (by omega), if_pos rfl, wrS (x := (0 : Int) + 1) (by omega) (by omega)]
        rfl
end Go.Proofs.Ytnbaembdmfiimaa.Q
namespace Go.Proofs.Ytnbaembdmfiimaa.Pure
open Go.RowKit Go.Proofs.Ytnbaembdmfiimaa.Q Go.Proofs.YtnbaembdmfiimaaW.PrintWords Go.Proofs.YtnbaembdmfiimaaW.PrintLast
theorem FnExactSequenceOfAddress : laws_FnExactSequenceOfAddress.Pure := by
  intro l _ _ _
  refine Ev.rounds (g := fun k => laws_FnExactSequenceOfAddress.f k l) ?_
  unfold laws_FnExactSequenceOfAddress.f
  by_cases h : (l.length : Int) > 1048576
  · simp only [if_pos h]; exact Ev.now _
  · simp only [if_neg h]
    obtain ⟨r, r1, r2⟩ := both_seqaddr l (by omega)
    have ht := ev_toInt64S l (by omega)
    refine Ev.bind ht (Ev.bind r1 (Ev.bind ht (Ev.bind r2 ?_)))
    simp only [laws_eqSequence.f, if_true, Option.bind_some]
    refine Ev.step (f := fun k => (laws_toInt64S.f k l).bind fun t271 => ((laws_eqInt64S.f k l t271).bind fun t274 => (if t274 = true then (some true) else (some false)))) (fun k => by rw [laws_FnExactSequenceOfAddress.j0, if_neg (by simp)]) ?_
    refine Ev.bind ht (Ev.bind (ev_eqInt64S l (by omega)) ?_)
    simp only [if_true]
    exact Ev.now _
end Go.Proofs.Ytnbaembdmfiimaa.Pure
