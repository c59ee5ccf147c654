/- What the laws ask of lists of angles: equal lists, marks laid and found again. -/
import Derived.Test.YteckdlmepgdlnaaAngCore
import Derived.Test.YteckdlmepgdlnaaQx11
import Derived.Test.YteckdlmepgdlnaaQx12
import Derived.Test.YteckdlmepgdlnaaQx13
namespace Go.Proofs.Yteckdlmepgdlnaa.Q
open Go.RowKit Go.Proofs.YteckdlmepgdlnaaW.PrintWords Go.Proofs.YteckdlmepgdlnaaW.PrintLast Go.Proofs.YteckdlmepgdlnaaW.Ext Go.Proofs.Yteckdlmepgdlnaa.Ang
set_option linter.unusedVariables false

theorem rd_at (pre rest : List S33) (x : S33) : rd_T33 (pre ++ x :: rest) (pre.length : Int) = x := by simp [rd_T33]
theorem set_at {α : Type} (pre rest : List α) (x y : α) : (pre ++ x :: rest).set pre.length y = pre ++ y :: rest := by simp
theorem ev_eqAngleS (l : List S33) (hl : l.length ≤ 1099511627776) : Ev (fun k => laws_eqAngleS.f k l l) true := by
  unfold laws_eqAngleS.f
  simp only [if_true]
  have key : ∀ (rest pre : List S33), (pre ++ rest).length ≤ 1099511627776 → Ev (fun k => laws_eqAngleS.l0 k (pre ++ rest) (pre ++ rest) (pre.length : Int)) true := by
    intro rest
    induction rest with
    | nil =>
      intro pre _
      exact Ev.step (f := fun _ => some true) (fun k => by simp [laws_eqAngleS.l0]) (Ev.now _)
    | cons x xs ih =>
      intro pre hp
      have hlen : (pre.length : Int) < ((pre ++ x :: xs).length : Int) := by simp <;> omega
      have hp2 : (pre.length : Int) ≤ 1099511627776 := by simp at hp; omega
      refine Ev.step (f := fun k => laws_eqAngleS.l0 k (pre ++ x :: xs) (pre ++ x :: xs) ((pre ++ [x]).length : Int)) (fun k => ?_) ?_
      · rw [laws_eqAngleS.l0, if_pos hlen, if_pos (by omega), if_pos hlen, rd_at, eqAngle_same]
        simp only [Option.bind_some, if_true]
        rw [wrap_in (by omega) (by omega)]
        simp
      · have := ih (pre ++ [x]) (by simpa using hp)
        simpa using this
  simpa using key l [] (by simpa using hl)
/-- The marks c, c + 1, .. on a list of angles. -/
def markedA : Int → List S33 → List S33
  | _, [] => []
  | c, _ :: xs => ⟨c, c + 1⟩ :: markedA (c + 2) xs
theorem markedA_length : ∀ (l : List S33) (c : Int), (markedA c l).length = l.length
  | [], _ => rfl
  | _ :: xs, c => by simp [markedA, markedA_length xs]
theorem ev_markAngleS (l : List S33) (hl : l.length ≤ 1099511627776) : Ev (fun k => laws_markAngleS.f k l 1) (1 + 2 * (l.length : Int), markedA 1 l) := by
  unfold laws_markAngleS.f
  have key : ∀ (rest pre : List S33) (c : Int), 0 ≤ c → c ≤ 1 + 2 * (pre.length : Int) → (pre ++ rest).length ≤ 1099511627776 →
      Ev (fun k => laws_markAngleS.l0 k (pre ++ rest) c (pre.length : Int)) (c + 2 * (rest.length : Int), pre ++ markedA c rest) := by
    intro rest
    induction rest with
    | nil =>
      intro pre c _ _ _
      exact Ev.step (f := fun _ => some (c + 2 * (([] : List S33).length : Int), pre ++ markedA c [])) (fun k => by simp [laws_markAngleS.l0, markedA]) (Ev.now _)
    | cons x xs ih =>
      intro pre c h0 h1 hp
      have hlen : (pre.length : Int) < ((pre ++ x :: xs).length : Int) := by simp <;> omega
      have hp2 : (pre.length : Int) ≤ 1099511627776 := by simp at hp; omega
      refine Ev.step (f := fun k => laws_markAngleS.l0 k ((pre ++ [⟨c, c + 1⟩]) ++ xs) (c + 2) ((pre ++ [(⟨c, c + 1⟩ : S33)]).length : Int)) (fun k => ?_) ?_
      · rw [laws_markAngleS.l0, if_pos hlen, if_pos (by omega), wrap_in (x := c + 1) (by omega) (by omega), wrap_in (x := c + 1 + 1) (by omega) (by omega), wrap_in (x := (pre.length : Int) + 1) (by omega) (by omega)]
        simp only [Option.bind_some, Int.toNat_natCast, rd_at, set_at]
        rw [show c + 1 + 1 = c + 2 by omega]
        simp
      · have := ih (pre ++ [⟨c, c + 1⟩]) (c + 2) (by omega) (by simp; omega) (by simpa using hp)
        have e : c + 2 + 2 * (xs.length : Int) = c + 2 * ((x :: xs).length : Int) := by simp; omega
        rw [e] at this
        simpa [markedA] using this
  simpa using key l [] 1 (by omega) (by simp) (by simpa using hl)
theorem ev_heldAngleS (l : List S33) (hl : l.length ≤ 1099511627776) : Ev (fun k => laws_heldAngleS.f k (markedA 1 l) 1) (1 + 2 * (l.length : Int)) := by
  unfold laws_heldAngleS.f
  have key : ∀ (rest pre : List S33) (c : Int), 0 ≤ c → c ≤ 1 + 2 * (pre.length : Int) → (pre ++ rest).length ≤ 1099511627776 →
      Ev (fun k => laws_heldAngleS.l0 k (pre ++ markedA c rest) c (pre.length : Int)) (c + 2 * (rest.length : Int)) := by
    intro rest
    induction rest with
    | nil =>
      intro pre c _ _ _
      exact Ev.step (f := fun _ => some (c + 2 * (([] : List S33).length : Int))) (fun k => by simp [laws_heldAngleS.l0, markedA]) (Ev.now _)
    | cons x xs ih =>
      intro pre c h0 h1 hp
      unfold markedA
      have hlen : (pre.length : Int) < ((pre ++ ⟨c, c + 1⟩ :: markedA (c + 2) xs).length : Int) := by simp <;> omega
      have hp2 : (pre.length : Int) ≤ 1099511627776 := by simp at hp; omega
      refine Ev.step (f := fun k => laws_heldAngleS.l0 k ((pre ++ [⟨c, c + 1⟩]) ++ markedA (c + 2) xs) (c + 2) ((pre ++ [(⟨c, c + 1⟩ : S33)]).length : Int)) (fun k => ?_) ?_
      · rw [laws_heldAngleS.l0, if_pos hlen, if_pos (by omega), rd_at, wrap_in (x := c + 1) (by omega) (by omega), wrap_in (x := c + 1 + 1) (by omega) (by omega), wrap_in (x := (pre.length : Int) + 1) (by omega) (by omega), if_pos rfl, if_pos rfl]
        rw [show c + 1 + 1 = c + 2 by omega]
        simp
      · have := ih (pre ++ [⟨c, c + 1⟩]) (c + 2) (by omega) (by simp; omega) (by simpa using hp)
        have e : c + 2 + 2 * (xs.length : Int) = c + 2 * ((x :: xs).length : Int) := by simp; omega
        rw [e] at this
        simpa using this
  simpa using key l [] 1 (by omega) (by simp) (by simpa using hl)
end Go.Proofs.Yteckdlmepgdlnaa.Q
