/- What the laws ask of lists of numbers: equal lists, marks laid and found again. -/
import Derived.Test.YtkdefglfolmfbaaAngCore
import Derived.Test.YtkdefglfolmfbaaQx63
import Derived.Test.YtkdefglfolmfbaaQx64
import Derived.Test.YtkdefglfolmfbaaQx65
namespace Go.Proofs.Ytkdefglfolmfbaa.Q
open Go.RowKit Go.Proofs.YtkdefglfolmfbaaW.PrintWords Go.Proofs.YtkdefglfolmfbaaW.PrintLast Go.Proofs.YtkdefglfolmfbaaW.Ext Go.Proofs.Ytkdefglfolmfbaa.Ang
set_option linter.unusedVariables false

theorem rdI_at (pre rest : List Int) (x : Int) : rd (pre ++ x :: rest) (pre.length : Int) = x := by simp [rd]
theorem setI_at {α : Type} (pre rest : List α) (x y : α) : (pre ++ x :: rest).set pre.length y = pre ++ y :: rest := by simp
theorem ev_eqInt64S (l : List Int) (hl : l.length ≤ 1099511627776) : Ev (fun k => laws_eqInt64S.f k l l) true := by
  unfold laws_eqInt64S.f
  simp only [if_true]
  have key : ∀ (rest pre : List Int), (pre ++ rest).length ≤ 1099511627776 → Ev (fun k => laws_eqInt64S.l0 k (pre ++ rest) (pre ++ rest) (pre.length : Int)) true := by
    intro rest
    induction rest with
    | nil =>
      intro pre _
      exact Ev.step (f := fun _ => some true) (fun k => by simp [laws_eqInt64S.l0]) (Ev.now _)
    | cons x xs ih =>
      intro pre hp
      have hlen : (pre.length : Int) < ((pre ++ x :: xs).length : Int) := by simp <;> omega
      have hp2 : (pre.length : Int) ≤ 1099511627776 := by simp at hp; omega
      refine Ev.step (f := fun k => laws_eqInt64S.l0 k (pre ++ x :: xs) (pre ++ x :: xs) ((pre ++ [x]).length : Int)) (fun k => ?_) ?_
      · rw [laws_eqInt64S.l0, if_pos hlen, if_pos (by omega), if_pos hlen, rdI_at, if_pos rfl, wrap_in (by omega) (by omega)]
        simp
      · have := ih (pre ++ [x]) (by simpa using hp)
        simpa using this
  simpa using key l [] (by simpa using hl)
/-- The marks c, c + 1, .. on a list of numbers. -/
def markedI : Int → List Int → List Int
  | _, [] => []
  | c, _ :: xs => c :: markedI (c + 1) xs
theorem ev_markInt64S (l : List Int) (hl : l.length ≤ 1099511627776) : Ev (fun k => laws_markInt64S.f k l 1) (1 + (l.length : Int), markedI 1 l) := by
  unfold laws_markInt64S.f
  have key : ∀ (rest pre : List Int) (c : Int), 0 ≤ c → c ≤ 1 + (pre.length : Int) → (pre ++ rest).length ≤ 1099511627776 →
      Ev (fun k => laws_markInt64S.l0 k (pre ++ rest) c (pre.length : Int)) (c + (rest.length : Int), pre ++ markedI c rest) := by
    intro rest
    induction rest with
    | nil =>
      intro pre c _ _ _
      exact Ev.step (f := fun _ => some (c + (([] : List Int).length : Int), pre ++ markedI c [])) (fun k => by simp [laws_markInt64S.l0, markedI]) (Ev.now _)
    | cons x xs ih =>
      intro pre c h0 h1 hp
      have hlen : (pre.length : Int) < ((pre ++ x :: xs).length : Int) := by simp <;> omega
      have hp2 : (pre.length : Int) ≤ 1099511627776 := by simp at hp; omega
      refine Ev.step (f := fun k => laws_markInt64S.l0 k ((pre ++ [c]) ++ xs) (c + 1) ((pre ++ [c]).length : Int)) (fun k => ?_) ?_
      · rw [laws_markInt64S.l0, if_pos hlen, if_pos (by omega), wrap_in (x := c + 1) (by omega) (by omega), wrap_in (x := (pre.length : Int) + 1) (by omega) (by omega)]
        simp only [Int.toNat_natCast, setI_at]
        simp
      · have := ih (pre ++ [c]) (c + 1) (by omega) (by simp; omega) (by simpa using hp)
        have e : c + 1 + (xs.length : Int) = c + ((x :: xs).length : Int) := by simp; omega
        rw [e] at this
        simpa [markedI] using this
  simpa using key l [] 1 (by omega) (by simp) (by simpa using hl)
theorem ev_heldInt64S (l : List Int) (hl : l.length ≤ 1099511627776) : Ev (fun k => laws_heldInt64S.f k (markedI 1 l) 1) (1 + (l.length : Int)) := by
  unfold laws_heldInt64S.f
  have key : ∀ (rest pre : List Int) (c : Int), 0 ≤ c → c ≤ 1 + (pre.length : Int) → (pre ++ rest).length ≤ 1099511627776 →
      Ev (fun k => laws_heldInt64S.l0 k (pre ++ markedI c rest) c (pre.length : Int)) (c + (rest.length : Int)) := by
    intro rest
    induction rest with
    | nil =>
      intro pre c _ _ _
      exact Ev.step (f := fun _ => some (c + (([] : List Int).length : Int))) (fun k => by simp [laws_heldInt64S.l0, markedI]) (Ev.now _)
    | cons x xs ih =>
      intro pre c h0 h1 hp
      unfold markedI
      have hlen : (pre.length : Int) < ((pre ++ c :: markedI (c + 1) xs).length : Int) := by simp <;> omega
      have hp2 : (pre.length : Int) ≤ 1099511627776 := by simp at hp; omega
      refine Ev.step (f := fun k => laws_heldInt64S.l0 k ((pre ++ [c]) ++ markedI (c + 1) xs) (c + 1) ((pre ++ [c]).length : Int)) (fun k => ?_) ?_
      · rw [laws_heldInt64S.l0, if_pos hlen, if_pos (by omega), rdI_at, wrap_in (x := c + 1) (by omega) (by omega), wrap_in (x := (pre.length : Int) + 1) (by omega) (by omega), if_pos rfl]
        simp
      · have := ih (pre ++ [c]) (c + 1) (by omega) (by simp; omega) (by simpa using hp)
        have e : c + 1 + (xs.length : Int) = c + ((x :: xs).length : Int) := by simp; omega
        rw [e] at this
        simpa using this
  simpa using key l [] 1 (by omega) (by simp) (by simpa using hl)
end Go.Proofs.Ytkdefglfolmfbaa.Q
