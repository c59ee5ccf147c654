/- The pure statement of FnExactCyclicOrder: both give the cyclic order, or the same error. -/
import Derived.Test.YtgjloehbbmlagaaAngOrder
import Derived.Test.YtgjloehbbmlagaaQx48
import Derived.Test.YtgjloehbbmlagaaQx44
import Derived.Test.YtgjloehbbmlagaaQx47
namespace Go.Proofs.Ytgjloehbbmlagaa.Q
open Go.RowKit Go.Proofs.YtgjloehbbmlagaaW.PrintWords Go.Proofs.YtgjloehbbmlagaaW.PrintLast Go.Proofs.YtgjloehbbmlagaaW.Ext Go.Proofs.Ytgjloehbbmlagaa.Ang
set_option linter.unusedVariables false

theorem pure_FnExactCyclicOrder (a b c d e f : Int) : ∃ k, laws_FnExactCyclicOrder.f k a b c d e f = some true := by
  refine Ev.rounds (g := fun k => laws_FnExactCyclicOrder.f k a b c d e f) ?_
  unfold laws_FnExactCyclicOrder.f laws_toAngle.f
  simp only [Option.bind_some]
  have hi := ev_anglesCode [⟨a, b⟩, ⟨c, d⟩, ⟨e, f⟩]
  simp only [allA, List.all_cons, List.all_nil, Bool.and_true] at hi
  have fin : ∀ r : Int × Int, Ev (fun k => spec_CyclicOrder.f k a b c d e f) r → Ev (fun k => impl_CyclicOrder.f k a b c d e f) r → Ev (fun k => (spec_CyclicOrder.f k a b c d e f).bind fun x => (impl_CyclicOrder.f k a b c d e f).bind fun y => if y.1 = x.1 then (if y.2 = x.2 then some true else some false) else some false) true := by
    intro r h1 h2
    refine Ev.bind h1 (Ev.bind h2 ?_)
    simp
    exact Ev.now _
  have sbad : Ev (fun k => spec_CyclicOrder.j0 k true a b c d e f) (0, 1) := Ev.step (f := fun _ => some (0, 1)) (fun k => by simp [spec_CyclicOrder.j0]) (Ev.now _)
  by_cases hall : isA a b = true ∧ isA c d = true ∧ isA e f = true
  · obtain ⟨h1, h2, h3⟩ := hall
    rw [h1, h2, h3] at hi
    refine fin (ordV (a, b) (c, d) (e, f), 0) ?_ ?_
    · unfold spec_CyclicOrder.f
      refine Ev.bind (ev_spec_Is a b) ?_
      simp only [h1, if_true]
      refine Ev.bind (ev_spec_Is c d) ?_
      simp only [h2, if_true]
      refine Ev.bind (ev_spec_Is e f) ?_
      simp only [h3, Bool.not_true]
      have z : Ev (fun k => spec_CyclicOrder.j1 k true a b c d e f) (0, 0) := Ev.step (f := fun _ => some (0, 0)) (fun k => by simp [spec_CyclicOrder.j1]) (Ev.now _)
      refine Ev.step (f := fun k => if (a, b) = (c, d) then spec_CyclicOrder.j1 k true a b c d e f else if (c, d) = (e, f) then spec_CyclicOrder.j1 k true a b c d e f else spec_CyclicOrder.j1 k (decide ((a, b) = (e, f))) a b c d e f) (fun k => by simp only [spec_CyclicOrder.j0, eq_pair, decide_eq_true_eq, Bool.false_eq_true, if_false]) ?_
      unfold ordV
      refine ev_if (fun h => by simp only [h, true_or, if_true]; exact z) (fun n1 => ?_)
      refine ev_if (fun h => by simp only [h, true_or, or_true, if_true]; exact z) (fun n2 => ?_)
      by_cases n3 : (a, b) = (e, f)
      · simp only [decide_eq_true n3]
        simp only [n3, or_true, if_true]
        simp only [Prod.mk.injEq] at n3
        obtain ⟨rfl, rfl⟩ := n3
        exact z
      · simp only [decide_eq_false n3]
        rw [if_neg (by simp only [n1, n2, n3, or_self, not_false_eq_true])]
        refine Ev.step (f := fun _ => if within (c, d) (a, b) (e, f) = true then some (1, 0) else some (-1, 0)) (fun k => by simp [spec_CyclicOrder.j1, within_val (isA_small h2) (isA_small h1) (isA_small h3)]) ?_
        by_cases h : within (c, d) (a, b) (e, f) = true
        · simp only [h, if_true]; exact Ev.now _
        · simp only [h, if_false, Bool.false_eq_true]; exact Ev.now _
    · unfold impl_CyclicOrder.f
      refine Ev.bind hi ?_
      simp only [Bool.and_self, if_true]
      exact Ev.bind (ev_order h1 h2 h3) (Ev.now _)
  · have hb : (isA a b && (isA c d && isA e f)) = false := by
      cases h1 : isA a b <;> cases h2 : isA c d <;> cases h3 : isA e f <;> simp_all
    rw [hb] at hi
    refine fin (0, 1) ?_ ?_
    · unfold spec_CyclicOrder.f
      refine Ev.bind (ev_spec_Is a b) ?_
      cases h1 : isA a b with
      | false => simp only [Bool.false_eq_true, if_false]; exact sbad
      | true =>
        simp only [if_true]
        refine Ev.bind (ev_spec_Is c d) ?_
        cases h2 : isA c d with
        | false => simp only [Bool.false_eq_true, if_false]; exact sbad
        | true =>
          have h3 : isA e f = false := by simpa [h1, h2] using hb
          simp only [if_true]
          refine Ev.bind (ev_spec_Is e f) ?_
          simp only [h3, Bool.not_false]
          exact sbad
    · unfold impl_CyclicOrder.f
      refine Ev.bind hi ?_
      simp
      exact Ev.now _
end Go.Proofs.Ytgjloehbbmlagaa.Q
