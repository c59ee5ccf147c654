/- What the laws ask of lists of angles that came in: their sizes, and copies of them. -/
import Derived.Test.YteckdlmepgdlnaaAngCore
import Derived.Test.YteckdlmepgdlnaaQx11
import Derived.Test.YteckdlmepgdlnaaQx7
import Derived.Test.YteckdlmepgdlnaaQx3
namespace Go.Proofs.Yteckdlmepgdlnaa.Q
open Go.RowKit Go.Proofs.YteckdlmepgdlnaaW.PrintWords Go.Proofs.YteckdlmepgdlnaaW.PrintLast Go.Proofs.YteckdlmepgdlnaaW.Ext Go.Proofs.Yteckdlmepgdlnaa.Ang
set_option linter.unusedVariables false
set_option linter.unusedSimpArgs false

theorem rdA_at (pre rest : List S33) (x : S33) : rd_T33 (pre ++ x :: rest) (pre.length : Int) = x := by simp [rd_T33]
theorem rdLA_at (pre rest : List S36) (x : S36) : rd_T36 (pre ++ x :: rest) (pre.length : Int) = x := by simp [rd_T36]
theorem setA_at {α : Type} (pre rest : List α) (x y : α) : (pre ++ x :: rest).set pre.length y = pre ++ y :: rest := by simp
theorem ev_eqAngles (l : List S33) (hl : l.length ≤ 1099511627776) : Ev (fun k => laws_eqAngleS.f k l l) true := by
  unfold laws_eqAngleS.f
  simp only [if_true]
  have key : ∀ (rest pre : List S33), (pre ++ rest).length ≤ 1099511627776 → Ev (fun k => laws_eqAngleS.l0 k (pre ++ rest) (pre ++ rest) (pre.length : Int)) true := by
    intro rest
    induction rest with
    | nil =>
      intro pre _
      exact Ev.step (f := fun _ => some true) (fun k => by simp [laws_eqAngleS.l0]) (Ev.now _)
    | cons x xs ih =>
      intro pre hp
      have hlen : (pre.length : Int) < ((pre ++ x :: xs).length : Int) := by simp <;> omega
      have hp2 : (pre.length : Int) ≤ 1099511627776 := by simp at hp; omega
      refine Ev.step (f := fun k => laws_eqAngleS.l0 k (pre ++ x :: xs) (pre ++ x :: xs) ((pre ++ [x]).length : Int)) (fun k => ?_) ?_
      · rw [laws_eqAngleS.l0, if_pos hlen, if_pos (by omega), if_pos hlen, rdA_at, eqAngle_same]
        simp only [Option.bind_some, if_true]
        rw [wrap_in (by omega) (by omega)]
        simp
      · have := ih (pre ++ [x]) (by simpa using hp)
        simpa using this
  simpa using key l [] (by simpa using hl)
/-- The same angles, as the program has them. -/
def cpA (l : List S36) : List S33 := l.map fun x => ⟨x.f0, x.f1⟩
theorem cpA_length (l : List S36) : (cpA l).length = l.length := by simp [cpA]
theorem ev_toAngles (l : List S36) (hl : l.length ≤ 1048576) : Ev (fun k => laws_toAngleS.f k l) (cpA l) := by
  unfold laws_toAngleS.f
  simp only [Int.toNat_natCast]
  simp only [if_pos (show (0 : Int) ≤ (l.length : Int) by omega), if_pos (show l.length ≤ 8796093022208 by omega), if_pos (show l.length ≤ 17592186044416 by omega)]
  have key : ∀ (rest pre : List S36), (pre ++ rest).length ≤ 1048576 →
      Ev (fun k => laws_toAngleS.l0 k (pre ++ rest) (cpA pre ++ List.replicate rest.length z33) (pre.length : Int)) (cpA (pre ++ rest)) := by
    intro rest
    induction rest with
    | nil =>
      intro pre _
      exact Ev.step (f := fun _ => some (cpA (pre ++ []))) (fun k => by simp [laws_toAngleS.l0, cpA]) (Ev.now _)
    | cons x xs ih =>
      intro pre hp
      have hlen : (pre.length : Int) < ((pre ++ x :: xs).length : Int) := by simp <;> omega
      have hp2 : (pre.length : Int) ≤ 1048576 := by simp at hp; omega
      refine Ev.step (f := fun k => laws_toAngleS.l0 k ((pre ++ [x]) ++ xs) (cpA (pre ++ [x]) ++ List.replicate xs.length z33) ((pre ++ [x]).length : Int)) (fun k => ?_) ?_
      · have hl2 : (pre.length : Int) < ((cpA pre ++ List.replicate (x :: xs).length z33).length : Int) := by simp [cpA] <;> omega
        rw [laws_toAngleS.l0, if_pos hlen, if_pos (by omega), rdLA_at]
        simp only [laws_toAngle.f, Option.bind_some]
        rw [if_pos hl2, wrap_in (by omega) (by omega)]
        have e : (cpA pre ++ List.replicate (x :: xs).length z33).set pre.length ⟨x.f0, x.f1⟩ = cpA (pre ++ [x]) ++ List.replicate xs.length z33 := by
          have h := setA_at (cpA pre) (List.replicate xs.length z33) z33 (⟨x.f0, x.f1⟩ : S33)
          rw [cpA_length] at h
          rw [List.length_cons, List.replicate_succ, h]
          simp [cpA]
        rw [Int.toNat_natCast, e]
        simp
      · have := ih (pre ++ [x]) (by simpa using hp)
        simpa using this
  simpa [cpA] using key l [] (by simpa using hl)
theorem szA_frame {l : List S36} {g : Nat → Option Bool} (hm : l.length ≤ 9223372036854775807) (h : l.length ≤ 1048576 → Ev g true) :
    Ev (fun k => (laws_szAngleS.f l 1048576).bind fun t => if t < 0 then some true else g k) true := by
  unfold laws_szAngleS.f
  rw [wrap_in (by omega) (by omega)]
  by_cases hl : (1048576 : Int) - (l.length : Int) < 0
  · rw [if_pos hl]
    simp
    exact Ev.now _
  · rw [if_neg hl]
    simp only [Option.bind_some, if_neg hl]
    exact h (by omega)
end Go.Proofs.Yteckdlmepgdlnaa.Q
