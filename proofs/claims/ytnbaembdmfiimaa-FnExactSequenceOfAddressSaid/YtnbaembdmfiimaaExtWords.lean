/- Small words for functions that are handed a predicate: a search that stops at the first hit, and its law of rounds. -/
import Derived.Test.YtnbaembdmfiimaaWMore
import Derived.Shelf.Abstract
import Derived.Laws.Runes
namespace Go.Proofs.YtnbaembdmfiimaaW.Ext
open Go.RowKit Go.Proofs.YtnbaembdmfiimaaW.PrintWords Go.Proofs.YtnbaembdmfiimaaW.PrintLast

/-- The first place at which p holds, from i on; p may have no answer. -/
def idxGo {α : Type} (p : α → Option Bool) : Int → List α → Option Int
  | _, [] => some (-1)
  | i, x :: xs => (p x).bind fun b => if b = true then some i else idxGo p (i + 1) xs

/-- Does p hold of all, asked in order up to the first that fails. -/
def allM {α : Type} (p : α → Option Bool) : List α → Option Bool
  | [] => some true
  | x :: xs => (p x).bind fun b => if b = true then allM p xs else some false

/-- Does p hold of one, asked in order up to the first. -/
def anyM {α : Type} (p : α → Option Bool) : List α → Option Bool
  | [] => some false
  | x :: xs => (p x).bind fun b => if b = true then some true else anyM p xs

theorem allM_idx {α : Type} (p : α → Option Bool) : ∀ (l : List α) (j : Int) (r : Bool), 0 ≤ j → allM p l = some r →
    ∃ i, idxGo (fun x => (p x).map (fun b => !b)) j l = some i ∧ decide (0 ≤ i) = !r := by
  intro l
  induction l with
  | nil =>
    intro j r _ h
    have hr : true = r := Option.some.inj h
    subst hr
    exact ⟨-1, rfl, rfl⟩
  | cons x xs ih =>
    intro j r hj h
    unfold allM at h
    unfold idxGo
    cases hp : p x with
    | none => rw [hp] at h; simp at h
    | some b =>
      rw [hp] at h
      cases b with
      | true =>
        simp only [Option.bind_some, if_true] at h
        obtain ⟨i, h1, h2⟩ := ih (j + 1) r (by omega) h
        exact ⟨i, by simpa using h1, h2⟩
      | false =>
        have hr : false = r := by simpa using h
        subst hr
        exact ⟨j, by simp, by simpa using hj⟩

theorem anyM_idx {α : Type} (p : α → Option Bool) : ∀ (l : List α) (j : Int) (r : Bool), 0 ≤ j → anyM p l = some r →
    ∃ i, idxGo p j l = some i ∧ decide (0 ≤ i) = r := by
  intro l
  induction l with
  | nil =>
    intro j r _ h
    have hr : false = r := Option.some.inj h
    subst hr
    exact ⟨-1, rfl, rfl⟩
  | cons x xs ih =>
    intro j r hj h
    unfold anyM at h
    unfold idxGo
    cases hp : p x with
    | none => rw [hp] at h; simp at h
    | some b =>
      rw [hp] at h
      cases b with
      | true =>
        have hr : true = r := by simpa using h
        subst hr
        exact ⟨j, by simp, by simpa using hj⟩
      | false =>
        simp only [Option.bind_some, Bool.false_eq_true, if_false] at h
        obtain ⟨i, h1, h2⟩ := ih (j + 1) r (by omega) h
        exact ⟨i, by simpa using h1, h2⟩

theorem allM_mono {α : Type} {p q : α → Option Bool} (hpq : ∀ x, LeO (p x) (q x)) : ∀ l : List α, LeO (allM p l) (allM q l)
  | [] => fun r h => h
  | x :: xs => fun r h => by
    unfold allM at h ⊢
    cases hp : p x with
    | none => rw [hp] at h; simp at h
    | some b =>
      rw [hpq x b hp]
      rw [hp] at h
      simp only [Option.bind_some] at h ⊢
      cases b with
      | true => simp only [if_true] at h ⊢; exact allM_mono hpq xs r h
      | false => exact h

theorem anyM_mono {α : Type} {p q : α → Option Bool} (hpq : ∀ x, LeO (p x) (q x)) : ∀ l : List α, LeO (anyM p l) (anyM q l)
  | [] => fun r h => h
  | x :: xs => fun r h => by
    unfold anyM at h ⊢
    cases hp : p x with
    | none => rw [hp] at h; simp at h
    | some b =>
      rw [hpq x b hp]
      rw [hp] at h
      simp only [Option.bind_some] at h ⊢
      cases b with
      | true => exact h
      | false => simp only [Bool.false_eq_true, if_false] at h ⊢; exact anyM_mono hpq xs r h

/-- One step of the search. -/
theorem idxGo_drop {α : Type} (p : α → Option Bool) (l : List α) (k : Nat) (i r : Int) (hk : k < l.length) (h : idxGo p i (l.drop k) = some r) :
    ∃ b, p l[k] = some b ∧ ((b = true ∧ r = i) ∨ (b = false ∧ idxGo p (i + 1) (l.drop (k + 1)) = some r)) := by
  rw [List.drop_eq_getElem_cons hk] at h
  unfold idxGo at h
  cases hp : p l[k] with
  | none => rw [hp] at h; simp at h
  | some b =>
    rw [hp] at h
    refine ⟨b, rfl, ?_⟩
    cases b with
    | true => left; simp at h; exact ⟨rfl, h.symm⟩
    | false => right; simp at h; exact ⟨rfl, h⟩

theorem idxGo_end {α : Type} (p : α → Option Bool) (l : List α) (k : Nat) (i r : Int) (hk : l.length ≤ k) (h : idxGo p i (l.drop k) = some r) : r = -1 := by
  rw [List.drop_of_length_le hk] at h
  simp [idxGo] at h
  exact h.symm
end Go.Proofs.YtnbaembdmfiimaaW.Ext
