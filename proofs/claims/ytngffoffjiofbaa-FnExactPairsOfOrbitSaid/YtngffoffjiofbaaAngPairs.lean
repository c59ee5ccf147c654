/- The orbit and its pairs: both sides. -/
import Derived.Test.YtngffoffjiofbaaAngOrbitSpec
import Derived.Test.YtngffoffjiofbaaAngOrbitImpl
import Derived.Test.YtngffoffjiofbaaLawIntsSS
import Derived.Test.YtngffoffjiofbaaQx63
import Derived.Test.YtngffoffjiofbaaQx64
import Derived.Test.YtngffoffjiofbaaQx69
namespace Go.Proofs.Ytngffoffjiofbaa.Q
open Go.RowKit Go.Proofs.YtngffoffjiofbaaW.PrintWords Go.Proofs.YtngffoffjiofbaaW.PrintLast Go.Proofs.YtngffoffjiofbaaW.Ext Go.Proofs.Ytngffoffjiofbaa.Ang
set_option linter.unusedVariables false
set_option linter.unusedSimpArgs false

def okPairs (m : Nat) : Bool := match spec_l08Pairs.f 100 (m : Int), impl_pairingOf.l0 100 (m : Int) [] 0 with
  | some a, some b => (a == b) && decide (a.length ≤ 100) && decide (tot a ≤ 100) && a.all (fun p => p.length == 2 && decide (1 ≤ p.getD 0 0) && decide (p.getD 0 0 ≤ m) && decide (1 ≤ p.getD 1 0) && decide (p.getD 1 0 ≤ m))
  | _, _ => false
set_option maxRecDepth 100000 in
theorem okPairs_all : ∀ m : Nat, m < 8 → okPairs m = true := by decide +kernel
theorem both_pairs (m : Nat) (hm : m < 8) : ∃ L : List (List Int), Ev (fun k => spec_l08Pairs.f k (m : Int)) L ∧ Ev (fun k => impl_pairingOf.l0 k (m : Int) [] 0) L ∧ L.length ≤ 100 ∧ tot L ≤ 100 ∧ ∀ p, p ∈ L → ∃ a b : Int, p = [a, b] ∧ 1 ≤ a ∧ a ≤ m ∧ 1 ≤ b ∧ b ≤ m := by
  have h := okPairs_all m hm
  unfold okPairs at h
  split at h
  · rename_i a b ha hb
    simp only [Bool.and_eq_true, beq_iff_eq, decide_eq_true_eq, List.all_eq_true] at h
    obtain ⟨⟨⟨rfl, h1⟩, h2⟩, h3⟩ := h
    refine ⟨a, Ev.of (spec_l08Pairs.mono _) ha, Ev.of (fun k => (impl_pairingOf.mono_l k).1 _ _ _) hb, h1, h2, fun p hp => ?_⟩
    obtain ⟨⟨⟨⟨p1, p2⟩, p3⟩, p4⟩, p5⟩ := h3 p hp
    match p, p1 with
    | [x, y], _ => exact ⟨x, y, rfl, by simpa using p2, by simpa using p3, by simpa using p4, by simpa using p5⟩
  · cases h
/-- What both make of an angle: the orbit, the pairs, the code. -/
theorem both_pairing (a b : Int) : ∃ (o : List S51) (L : List (List Int)) (c : Int), Ev (fun k => impl_pairingOf.f k a b) (o, L, c) ∧ Ev (fun k => spec_l08Orbit.f k a b) (o, c) ∧ L.length ≤ 100 ∧ tot L ≤ 100 ∧
    (c = 0 → o.length < 8 ∧ Ev (fun k => spec_l08Pairs.f k (o.length : Int)) L ∧ (∀ p, p ∈ L → ∃ i j : Int, p = [i, j] ∧ 1 ≤ i ∧ i ≤ o.length ∧ 1 ≤ j ∧ j ≤ o.length) ∧ isA a b = true ∧ ∃ (p q : _) , b = 2 ^ p * q ∧ q % 2 = 1 ∧ (orbGo (a, b) p 65 0).1 = o ∧ (orbGo (a, b) p 65 0).2.2 = true) := by
  cases h : isA a b with
  | false =>
    refine ⟨[], [], 1, ?_, ?_, by simp, by simp [tot], fun h => by omega⟩
    · unfold impl_pairingOf.f
      refine Ev.bind (ev_impl_IsAngle a b) ?_
      simp only [h, Bool.false_eq_true, if_false]
      exact Ev.now _
    · unfold spec_l08Orbit.f
      refine Ev.bind (ev_spec_Is a b) ?_
      simp only [h, Bool.false_eq_true, if_false]
      exact Ev.now _
  | true =>
    have hb := isA_bd h
    obtain ⟨p, q, e, hq⟩ := exists_odd b.toNat (by omega)
    have hx : b = 2 ^ p * q := by rw [← e]; omega
    have hs := ev_spec_orbit h hx hq
    have hi := ev_impl_orbit h hx hq
    generalize ho : orbGo (a, b) p 65 0 = o at hs hi
    by_cases h2 : o.2.2 = true
    · by_cases h7 : (o.1.length : Int) > 7
      · refine ⟨[], [], 2, ?_, ?_, by simp, by simp [tot], fun h => by omega⟩
        · unfold impl_pairingOf.f
          refine Ev.bind (ev_impl_IsAngle a b) ?_
          simp only [h, if_true]
          refine Ev.bind hi ?_
          simp only [h2, if_true, if_pos h7]
          exact Ev.now _
        · unfold spec_l08Orbit.f
          refine Ev.bind (ev_spec_Is a b) ?_
          simp only [h, if_true]
          refine Ev.bind hs ?_
          simp only [h2, if_true, if_pos h7]
          exact Ev.now _
      · obtain ⟨L, l1, l2, l3, l4, l5⟩ := both_pairs o.1.length (by omega)
        refine ⟨o.1, L, 0, ?_, ?_, l3, l4, fun _ => ⟨by omega, l1, l5, rfl, p, q, hx, hq, by rw [ho], by rw [ho]; exact h2⟩⟩
        · unfold impl_pairingOf.f
          refine Ev.bind (ev_impl_IsAngle a b) ?_
          simp only [h, if_true]
          refine Ev.bind hi ?_
          simp only [h2, if_true, if_neg h7]
          exact Ev.bind l2 (Ev.now _)
        · unfold spec_l08Orbit.f
          refine Ev.bind (ev_spec_Is a b) ?_
          simp only [h, if_true]
          refine Ev.bind hs ?_
          simp only [h2, if_true, if_neg h7]
          exact Ev.now _
    · refine ⟨[], [], 2, ?_, ?_, by simp, by simp [tot], fun h => by omega⟩
      · unfold impl_pairingOf.f
        refine Ev.bind (ev_impl_IsAngle a b) ?_
        simp only [h, if_true]
        refine Ev.bind hi ?_
        simp only [if_neg h2]
        exact Ev.now _
      · unfold spec_l08Orbit.f
        refine Ev.bind (ev_spec_Is a b) ?_
        simp only [h, if_true]
        refine Ev.bind hs ?_
        simp only [if_neg h2]
        exact Ev.now _
end Go.Proofs.Ytngffoffjiofbaa.Q
