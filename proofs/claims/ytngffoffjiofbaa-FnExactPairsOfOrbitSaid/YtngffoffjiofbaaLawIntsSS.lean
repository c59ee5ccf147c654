/- What the laws ask of lists of lists of numbers: equal lists, marks laid and found again. -/
import Derived.Test.YtngffoffjiofbaaAngCore
import Derived.Test.YtngffoffjiofbaaQx57
import Derived.Test.YtngffoffjiofbaaQx59
import Derived.Test.YtngffoffjiofbaaQx61
import Derived.Test.YtngffoffjiofbaaQx58
import Derived.Test.YtngffoffjiofbaaQx60
import Derived.Test.YtngffoffjiofbaaQx70
namespace Go.Proofs.Ytngffoffjiofbaa.Q
open Go.RowKit Go.Proofs.YtngffoffjiofbaaW.PrintWords Go.Proofs.YtngffoffjiofbaaW.PrintLast Go.Proofs.YtngffoffjiofbaaW.Ext Go.Proofs.Ytngffoffjiofbaa.Ang
set_option linter.unusedVariables false

theorem rdI_at (pre rest : List Int) (x : Int) : rd (pre ++ x :: rest) (pre.length : Int) = x := by simp [rd]
theorem rdL_at (pre rest : List (List Int)) (x : List Int) : rd_L8 (pre ++ x :: rest) (pre.length : Int) = x := by simp [rd_L8]
theorem setI_at {α : Type} (pre rest : List α) (x y : α) : (pre ++ x :: rest).set pre.length y = pre ++ y :: rest := by simp
theorem ev_eqInt64S (l : List Int) (hl : l.length ≤ 1099511627776) : Ev (fun k => laws_eqInt64S.f k l l) true := by
  unfold laws_eqInt64S.f
  simp only [if_true]
  have key : ∀ (rest pre : List Int), (pre ++ rest).length ≤ 1099511627776 → Ev (fun k => laws_eqInt64S.l0 k (pre ++ rest) (pre ++ rest) (pre.length : Int)) true := by
    intro rest
    induction rest with
    | nil =>
      intro pre _
      exact Ev.step (f := fun _ => some true) (fun k => by simp [laws_eqInt64S.l0]) (Ev.now _)
    | cons x xs ih =>
      intro pre hp
      have hlen : (pre.length : Int) < ((pre ++ x :: xs).length : Int) := by simp <;> omega
      have hp2 : (pre.length : Int) ≤ 1099511627776 := by simp at hp; omega
      refine Ev.step (f := fun k => laws_eqInt64S.l0 k (pre ++ x :: xs) (pre ++ x :: xs) ((pre ++ [x]).length : Int)) (fun k => ?_) ?_
      · rw [laws_eqInt64S.l0, if_pos hlen, if_pos (by omega), if_pos hlen, rdI_at, if_pos rfl, wrap_in (by omega) (by omega)]
        simp
      · have := ih (pre ++ [x]) (by simpa using hp)
        simpa using this
  simpa using key l [] (by simpa using hl)
/-- The marks c, c + 1, .. on a list of numbers. -/
def markedI : Int → List Int → List Int
  | _, [] => []
  | c, _ :: xs => c :: markedI (c + 1) xs
theorem ev_markInt64S (l : List Int) (c0 : Int) (h0 : 0 ≤ c0) (h1 : c0 ≤ 1099511627776) (hl : l.length ≤ 1099511627776) : Ev (fun k => laws_markInt64S.f k l c0) (c0 + (l.length : Int), markedI c0 l) := by
  unfold laws_markInt64S.f
  have key : ∀ (rest pre : List Int) (c : Int), 0 ≤ c → c ≤ c0 + (pre.length : Int) → (pre ++ rest).length ≤ 1099511627776 →
      Ev (fun k => laws_markInt64S.l0 k (pre ++ rest) c (pre.length : Int)) (c + (rest.length : Int), pre ++ markedI c rest) := by
    intro rest
    induction rest with
    | nil =>
      intro pre c _ _ _
      exact Ev.step (f := fun _ => some (c + (([] : List Int).length : Int), pre ++ markedI c [])) (fun k => by simp [laws_markInt64S.l0, markedI]) (Ev.now _)
    | cons x xs ih =>
      intro pre c h0 h1 hp
      have hlen : (pre.length : Int) < ((pre ++ x :: xs).length : Int) := by simp <;> omega
      have hp2 : (pre.length : Int) ≤ 1099511627776 := by simp at hp; omega
      refine Ev.step (f := fun k => laws_markInt64S.l0 k ((pre ++ [c]) ++ xs) (c + 1) ((pre ++ [c]).length : Int)) (fun k => ?_) ?_
      · rw [laws_markInt64S.l0, if_pos hlen, if_pos (by omega), wrap_in (x := c + 1) (by omega) (by omega), wrap_in (x := (pre.length : Int) + 1) (by omega) (by omega)]
        simp only [Int.toNat_natCast, setI_at]
        simp
      · have := ih (pre ++ [c]) (c + 1) (by omega) (by simp; omega) (by simpa using hp)
        have e : c + 1 + (xs.length : Int) = c + ((x :: xs).length : Int) := by simp; omega
        rw [e] at this
        simpa [markedI] using this
  simpa using key l [] c0 h0 (by simp) (by simpa using hl)
theorem ev_heldInt64S (l : List Int) (c0 : Int) (h0 : 0 ≤ c0) (h1 : c0 ≤ 1099511627776) (hl : l.length ≤ 1099511627776) : Ev (fun k => laws_heldInt64S.f k (markedI c0 l) c0) (c0 + (l.length : Int)) := by
  unfold laws_heldInt64S.f
  have key : ∀ (rest pre : List Int) (c : Int), 0 ≤ c → c ≤ c0 + (pre.length : Int) → (pre ++ rest).length ≤ 1099511627776 →
      Ev (fun k => laws_heldInt64S.l0 k (pre ++ markedI c rest) c (pre.length : Int)) (c + (rest.length : Int)) := by
    intro rest
    induction rest with
    | nil =>
      intro pre c _ _ _
      exact Ev.step (f := fun _ => some (c + (([] : List Int).length : Int))) (fun k => by simp [laws_heldInt64S.l0, markedI]) (Ev.now _)
    | cons x xs ih =>
      intro pre c h0 h1 hp
      unfold markedI
      have hlen : (pre.length : Int) < ((pre ++ c :: markedI (c + 1) xs).length : Int) := by simp <;> omega
      have hp2 : (pre.length : Int) ≤ 1099511627776 := by simp at hp; omega
      refine Ev.step (f := fun k => laws_heldInt64S.l0 k ((pre ++ [c]) ++ markedI (c + 1) xs) (c + 1) ((pre ++ [c]).length : Int)) (fun k => ?_) ?_
      · rw [laws_heldInt64S.l0, if_pos hlen, if_pos (by omega), rdI_at, wrap_in (x := c + 1) (by omega) (by omega), wrap_in (x := (pre.length : Int) + 1) (by omega) (by omega), if_pos rfl]
        simp
      · have := ih (pre ++ [c]) (c + 1) (by omega) (by simp; omega) (by simpa using hp)
        have e : c + 1 + (xs.length : Int) = c + ((x :: xs).length : Int) := by simp; omega
        rw [e] at this
        simpa using this
  simpa using key l [] c0 h0 (by simp) (by simpa using hl)
/-- How many numbers. -/
def tot : List (List Int) → Nat
  | [] => 0
  | r :: l => r.length + tot l
theorem tot_app (a b : List (List Int)) : tot (a ++ b) = tot a + tot b := by
  induction a with
  | nil => simp [tot]
  | cons r a ih => simp only [List.cons_append, tot, ih]; omega
def markedL : Int → List (List Int) → List (List Int)
  | _, [] => []
  | c, r :: l => markedI c r :: markedL (c + (r.length : Int)) l
theorem ev_eqInt64SS (l : List (List Int)) (hl : l.length ≤ 1099511627776) (ht : tot l ≤ 1099511627776) : Ev (fun k => laws_eqInt64SS.f k l l) true := by
  unfold laws_eqInt64SS.f
  simp only [if_true]
  have key : ∀ (rest pre : List (List Int)), (pre ++ rest).length ≤ 1099511627776 → tot (pre ++ rest) ≤ 1099511627776 → Ev (fun k => laws_eqInt64SS.l0 k (pre ++ rest) (pre ++ rest) (pre.length : Int)) true := by
    intro rest
    induction rest with
    | nil =>
      intro pre _ _
      exact Ev.step (f := fun _ => some true) (fun k => by simp [laws_eqInt64SS.l0]) (Ev.now _)
    | cons x xs ih =>
      intro pre hp hq
      have hlen : (pre.length : Int) < ((pre ++ x :: xs).length : Int) := by simp <;> omega
      have hp2 : (pre.length : Int) ≤ 1099511627776 := by simp at hp; omega
      have hx : x.length ≤ 1099511627776 := by rw [tot_app] at hq; simp only [tot] at hq; omega
      refine Ev.step (f := fun k => (laws_eqInt64S.f k x x).bind fun t => if t = true then laws_eqInt64SS.l0 k (pre ++ x :: xs) (pre ++ x :: xs) ((pre ++ [x]).length : Int) else some false) (fun k => ?_) ?_
      · rw [laws_eqInt64SS.l0, if_pos hlen, if_pos (by omega), if_pos hlen, rdL_at, wrap_in (by omega) (by omega)]
        simp
      · refine Ev.bind (ev_eqInt64S x hx) ?_
        simp only [if_true]
        have := ih (pre ++ [x]) (by simpa using hp) (by simpa using hq)
        simpa using this
  simpa using key l [] (by simpa using hl) (by simpa using ht)
theorem ev_markInt64SS (l : List (List Int)) (c0 : Int) (h0 : 0 ≤ c0) (h1 : c0 ≤ 10) (hl : l.length ≤ 1099511627776) (ht : tot l ≤ 1099511627000) : Ev (fun k => laws_markInt64SS.f k l c0) (c0 + (tot l : Int), markedL c0 l) := by
  unfold laws_markInt64SS.f
  have key : ∀ (rest pre : List (List Int)) (c : Int), 0 ≤ c → c ≤ c0 + (tot pre : Int) → (pre ++ rest).length ≤ 1099511627776 → tot (pre ++ rest) ≤ 1099511627000 →
      Ev (fun k => laws_markInt64SS.l0 k (pre ++ rest) c (pre.length : Int)) (c + (tot rest : Int), pre ++ markedL c rest) := by
    intro rest
    induction rest with
    | nil =>
      intro pre c _ _ _ _
      exact Ev.step (f := fun _ => some (c + (tot ([] : List (List Int)) : Int), pre ++ markedL c [])) (fun k => by simp [laws_markInt64SS.l0, markedL, tot]) (Ev.now _)
    | cons x xs ih =>
      intro pre c h0 h2 hp hq
      have hlen : (pre.length : Int) < ((pre ++ x :: xs).length : Int) := by simp <;> omega
      have hp2 : (pre.length : Int) ≤ 1099511627776 := by simp at hp; omega
      have hq2 := hq
      rw [tot_app] at hq2
      simp only [tot] at hq2
      refine Ev.step (f := fun k => (laws_markInt64S.f k x c).bind fun t => laws_markInt64SS.l0 k ((pre ++ [t.2]) ++ xs) t.1 ((pre ++ [x]).length : Int)) (fun k => ?_) ?_
      · rw [laws_markInt64SS.l0, if_pos hlen, if_pos (by omega), rdL_at, wrap_in (x := (pre.length : Int) + 1) (by omega) (by omega)]
        simp only [Int.toNat_natCast, setI_at]
        simp
      · refine Ev.bind (ev_markInt64S x c h0 (by omega) (by omega)) ?_
        have hm : (markedI c x).length = x.length := by
          have g : ∀ (l : List Int) (c : Int), (markedI c l).length = l.length := by
            intro l
            induction l with
            | nil => intro c; rfl
            | cons y ys ih => intro c; simp only [markedI, List.length_cons, ih]
          exact g x c
        have ht2 : tot (pre ++ [markedI c x]) = tot pre + x.length := by rw [tot_app]; simp [tot, hm]
        have := ih (pre ++ [markedI c x]) (c + (x.length : Int)) (by omega) (by rw [ht2]; omega) (by simpa using hp) (by rw [tot_app, ht2]; omega)
        have e : c + (x.length : Int) + (tot xs : Int) = c + (tot (x :: xs) : Int) := by simp only [tot]; omega
        rw [e] at this
        simpa [markedL] using this
  simpa using key l [] c0 h0 (by simp [tot]) (by simpa using hl) (by simpa using ht)
theorem ev_heldInt64SS (l : List (List Int)) (c0 : Int) (h0 : 0 ≤ c0) (h1 : c0 ≤ 10) (hl : l.length ≤ 1099511627776) (ht : tot l ≤ 1099511627000) : Ev (fun k => laws_heldInt64SS.f k (markedL c0 l) c0) (c0 + (tot l : Int)) := by
  unfold laws_heldInt64SS.f
  have key : ∀ (rest pre : List (List Int)) (c : Int), 0 ≤ c → c ≤ c0 + (tot pre : Int) → (pre ++ rest).length ≤ 1099511627776 → tot (pre ++ rest) ≤ 1099511627000 →
      Ev (fun k => laws_heldInt64SS.l0 k (pre ++ markedL c rest) c (pre.length : Int)) (c + (tot rest : Int)) := by
    intro rest
    induction rest with
    | nil =>
      intro pre c _ _ _ _
      exact Ev.step (f := fun _ => some (c + (tot ([] : List (List Int)) : Int))) (fun k => by simp [laws_heldInt64SS.l0, markedL, tot]) (Ev.now _)
    | cons x xs ih =>
      intro pre c h0 h2 hp hq
      have hq2 := hq
      rw [tot_app] at hq2
      simp only [tot] at hq2
      unfold markedL
      have hlen : (pre.length : Int) < ((pre ++ markedI c x :: markedL (c + (x.length : Int)) xs).length : Int) := by simp <;> omega
      have hp2 : (pre.length : Int) ≤ 1099511627776 := by simp at hp; omega
      refine Ev.step (f := fun k => (laws_heldInt64S.f k (markedI c x) c).bind fun t => if t < 0 then some (-1) else laws_heldInt64SS.l0 k ((pre ++ [markedI c x]) ++ markedL (c + (x.length : Int)) xs) t ((pre ++ [x]).length : Int)) (fun k => ?_) ?_
      · rw [laws_heldInt64SS.l0, if_pos hlen, if_pos (by omega), rdL_at, wrap_in (x := (pre.length : Int) + 1) (by omega) (by omega)]
        simp
      · refine Ev.bind (ev_heldInt64S x c h0 (by omega) (by omega)) ?_
        simp only [if_neg (show ¬ c + (x.length : Int) < 0 by omega)]
        have hm : (markedI c x).length = x.length := by
          have g : ∀ (l : List Int) (c : Int), (markedI c l).length = l.length := by
            intro l
            induction l with
            | nil => intro c; rfl
            | cons y ys ih => intro c; simp only [markedI, List.length_cons, ih]
          exact g x c
        have ht2 : tot (pre ++ [markedI c x]) = tot pre + x.length := by rw [tot_app]; simp [tot, hm]
        have := ih (pre ++ [markedI c x]) (c + (x.length : Int)) (by omega) (by rw [ht2]; omega) (by simpa using hp) (by rw [tot_app, ht2]; omega)
        have e : c + (x.length : Int) + (tot xs : Int) = c + (tot (x :: xs) : Int) := by simp only [tot]; omega
        rw [e] at this
        simpa using this
  simpa using key l [] c0 h0 (by simp [tot]) (by simpa using hl) (by simpa using ht)
end Go.Proofs.Ytngffoffjiofbaa.Q
