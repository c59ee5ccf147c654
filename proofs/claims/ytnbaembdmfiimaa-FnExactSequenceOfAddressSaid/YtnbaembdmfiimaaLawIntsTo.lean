/- What the laws ask of lists of numbers: equal lists, marks laid and found again. -/
import Derived.Test.YtnbaembdmfiimaaSeqLite
import Derived.Test.YtnbaembdmfiimaaQx35
import Derived.Test.YtnbaembdmfiimaaQx23
namespace Go.Proofs.Ytnbaembdmfiimaa.Q
open Go.RowKit Go.Proofs.YtnbaembdmfiimaaW.PrintWords Go.Proofs.YtnbaembdmfiimaaW.PrintLast Go.Proofs.YtnbaembdmfiimaaW.Ext
set_option linter.unusedVariables false

theorem rdI_at (pre rest : List Int) (x : Int) : rd (pre ++ x :: rest) (pre.length : Int) = x := by simp [rd]
theorem setI_at {α : Type} (pre rest : List α) (x y : α) : (pre ++ x :: rest).set pre.length y = pre ++ y :: rest := by simp
theorem ev_eqInt64S (l : List Int) (hl : l.length ≤ 1099511627776) : Ev (fun k => laws_eqInt64S.f k l l) true := by
  unfold laws_eqInt64S.f
  simp only [if_true]
  have key : ∀ (rest pre : List Int), (pre ++ rest).length ≤ 1099511627776 → Ev (fun k => laws_eqInt64S.l0 k (pre ++ rest) (pre ++ rest) (pre.length : Int)) true := by
    intro rest
    induction rest with
    | nil =>
      intro pre _
      exact Ev.step (f := fun _ => some true) (fun k => by simp [laws_eqInt64S.l0]) (Ev.now _)
    | cons x xs ih =>
      intro pre hp
      have hlen : (pre.length : Int) < ((pre ++ x :: xs).length : Int) := by simp <;> omega
      have hp2 : (pre.length : Int) ≤ 1099511627776 := by simp at hp; omega
      refine Ev.step (f := fun k => laws_eqInt64S.l0 k (pre ++ x :: xs) (pre ++ x :: xs) ((pre ++ [x]).length : Int)) (fun k => ?_) ?_
      · rw [laws_eqInt64S.l0, if_pos hlen, if_pos (by omega), if_pos hlen, rdI_at, if_pos rfl, wrS (by omega) (by omega)]
        simp
      · have := ih (pre ++ [x]) (by simpa using hp)
        simpa using this
  simpa using key l [] (by simpa using hl)
theorem ev_toInt64S (l : List Int) (hl : l.length ≤ 1048576) : Ev (fun k => laws_toInt64S.f k l) l := by
  unfold laws_toInt64S.f
  have key : ∀ d i : Nat, i + d = l.length → Ev (fun k => laws_toInt64S.l0 k l (l.take i ++ List.replicate (l.length - i) 0) (i : Int)) l := by
    intro d
    induction d with
    | zero =>
      intro i h
      obtain rfl : i = l.length := by omega
      refine Ev.step (f := fun _ => some l) (fun k => ?_) (Ev.now _)
      rw [laws_toInt64S.l0, if_neg (by omega)]
      simp
    | succ d ih =>
      intro i h
      have hi : i < l.length := by omega
      refine Ev.step (f := fun k => laws_toInt64S.l0 k l (l.take (i + 1) ++ List.replicate (l.length - (i + 1)) 0) ((i + 1 : Nat) : Int)) (fun k => ?_) (ih (i + 1) (by omega))
      have hlen : (l.take i ++ List.replicate (l.length - i) (0 : Int)).length = l.length := by simp; omega
      have e : rd l (i : Int) = l[i] := by simp [rd, hi]
      rw [laws_toInt64S.l0, if_pos (by omega), if_pos (by omega), if_pos (by rw [hlen]; omega), Int.toNat_natCast, wrS (x := (i : Int) + 1) (by omega) (by omega), e]
      have e2 : (l.take i ++ List.replicate (l.length - i) (0 : Int)).set i l[i] = l.take (i + 1) ++ List.replicate (l.length - (i + 1)) 0 := by
        rw [List.set_append_right _ _ (by simp; omega), List.length_take, Nat.min_eq_left (by omega), Nat.sub_self, show l.length - i = (l.length - (i + 1)) + 1 by omega, List.replicate_succ, List.set_cons_zero, List.take_succ_eq_append_getElem hi, List.append_assoc]
        rfl
      rw [e2]
      rfl
  have := key l.length 0 (by omega)
  simp only [if_pos (show 0 ≤ (l.length : Int) by omega), Int.toNat_natCast, if_pos (show l.length ≤ 35184372088832 by omega)]
  simpa using this
end Go.Proofs.Ytnbaembdmfiimaa.Q
