/- Plain lists: putting in one by one without doubles is sorting and striking doubles. No program in sight. -/
import Derived.Test.YteckdlmepgdlnaaAngCore
namespace Go.Proofs.Yteckdlmepgdlnaa.SortMath
set_option linter.unusedSectionVars false
variable {α : Type} [DecidableEq α]
/-- Puts one in, where it is not yet. -/
def insD (lt : α → α → Bool) (a : α) : List α → List α
  | [] => [a]
  | x :: xs => if lt x a = true then x :: insD lt a xs else if x = a then x :: xs else a :: x :: xs
/-- Strikes what equals its neighbour. -/
def compactL : List α → List α
  | [] => []
  | x :: xs => match compactL xs with
    | [] => [x]
    | y :: ys => if x = y then y :: ys else x :: y :: ys
theorem mem_insD (lt : α → α → Bool) (a z : α) : ∀ l, z ∈ insD lt a l ↔ z = a ∨ z ∈ l
  | [] => by simp [insD]
  | x :: xs => by
    unfold insD
    split
    · rw [List.mem_cons, mem_insD lt a z xs, List.mem_cons]
      constructor
      · rintro (h | h | h)
        · exact Or.inr (Or.inl h)
        · exact Or.inl h
        · exact Or.inr (Or.inr h)
      · rintro (h | h | h)
        · exact Or.inr (Or.inl h)
        · exact Or.inl h
        · exact Or.inr (Or.inr h)
    · split
      · rename_i h
        subst h
        simp
      · simp
structure Strict (lt : α → α → Bool) : Prop where
  irr : ∀ x, lt x x = false
  trans : ∀ x y z, lt x y = true → lt y z = true → lt x z = true
  total : ∀ x y, lt x y = false → lt y x = false → x = y
variable {lt : α → α → Bool}
theorem insD_strict (S : Strict lt) (a : α) : ∀ l, l.Pairwise (fun x y => lt x y = true) → (insD lt a l).Pairwise (fun x y => lt x y = true)
  | [], _ => by simp [insD]
  | x :: xs, h => by
    obtain ⟨h1, h2⟩ := List.pairwise_cons.1 h
    unfold insD
    split
    · rename_i hx
      refine List.pairwise_cons.2 ⟨fun z hz => ?_, insD_strict S a xs h2⟩
      rcases (mem_insD lt a z xs).1 hz with rfl | hz
      · exact hx
      · exact h1 z hz
    · rename_i hx
      split
      · exact h
      · rename_i hn
        have hax : lt a x = true := by
          cases ha : lt a x with
          | true => rfl
          | false => exact absurd (S.total x a (by simpa using hx) ha) hn
        refine List.pairwise_cons.2 ⟨fun z hz => ?_, h⟩
        rcases List.mem_cons.1 hz with rfl | hz
        · exact hax
        · exact S.trans _ _ _ hax (h1 z hz)
theorem fold_insD (S : Strict lt) : ∀ (l acc : List α), acc.Pairwise (fun x y => lt x y = true) →
    (l.foldl (fun o a => insD lt a o) acc).Pairwise (fun x y => lt x y = true) ∧ ∀ z, z ∈ l.foldl (fun o a => insD lt a o) acc ↔ z ∈ acc ∨ z ∈ l
  | [], acc, h => ⟨h, fun z => by simp⟩
  | a :: l, acc, h => by
    obtain ⟨h1, h2⟩ := fold_insD S l (insD lt a acc) (insD_strict S a acc h)
    refine ⟨h1, fun z => ?_⟩
    rw [List.foldl_cons, h2 z, mem_insD, List.mem_cons]
    constructor
    · rintro ((h | h) | h)
      · exact Or.inr (Or.inl h)
      · exact Or.inl h
      · exact Or.inr (Or.inr h)
    · rintro (h | h | h)
      · exact Or.inl (Or.inr h)
      · exact Or.inl (Or.inl h)
      · exact Or.inr h
theorem mem_compactL (z : α) : ∀ l : List α, z ∈ compactL l ↔ z ∈ l
  | [] => by simp [compactL]
  | x :: xs => by
    have ih := mem_compactL z xs
    unfold compactL
    rw [List.mem_cons, ← ih]
    split
    · rename_i h
      simp [h]
    · rename_i y ys h
      rw [h]
      split
      · rename_i hx
        subst hx
        simp
      · simp
theorem compactL_strict (S : Strict lt) : ∀ l : List α, l.Pairwise (fun x y => lt y x = false) → (compactL l).Pairwise (fun x y => lt x y = true)
  | [], _ => by simp [compactL]
  | x :: xs, h => by
    obtain ⟨h1, h2⟩ := List.pairwise_cons.1 h
    have ih := compactL_strict S xs h2
    have hm := fun z => mem_compactL z xs
    unfold compactL
    split
    · simp
    · rename_i y ys hc
      rw [hc] at ih hm
      split
      · exact ih
      · rename_i hn
        have hxy : lt x y = true := by
          cases ha : lt x y with
          | true => rfl
          | false => exact absurd (S.total x y ha (h1 y ((hm y).1 List.mem_cons_self))) hn
        refine List.pairwise_cons.2 ⟨fun z hz => ?_, ih⟩
        rcases List.mem_cons.1 hz with rfl | hz
        · exact hxy
        · exact S.trans _ _ _ hxy ((List.pairwise_cons.1 ih).1 z hz)
theorem strict_unique (S : Strict lt) : ∀ l1 l2 : List α, l1.Pairwise (fun x y => lt x y = true) → l2.Pairwise (fun x y => lt x y = true) → (∀ z, z ∈ l1 ↔ z ∈ l2) → l1 = l2
  | [], [], _, _, _ => rfl
  | [], y :: ys, _, _, h => by have := (h y).2 List.mem_cons_self; cases this
  | x :: xs, [], _, _, h => by have := (h x).1 List.mem_cons_self; cases this
  | x :: xs, y :: ys, h1, h2, h => by
    obtain ⟨p1, q1⟩ := List.pairwise_cons.1 h1
    obtain ⟨p2, q2⟩ := List.pairwise_cons.1 h2
    have hxy : x = y := by
      rcases List.mem_cons.1 ((h x).1 List.mem_cons_self) with e | hx
      · exact e
      · rcases List.mem_cons.1 ((h y).2 List.mem_cons_self) with e | hy
        · exact e.symm
        · have := S.trans _ _ _ (p2 x hx) (p1 y hy)
          rw [S.irr] at this
          cases this
    subst hxy
    refine congrArg (x :: ·) (strict_unique S xs ys q1 q2 fun z => ⟨fun hz => ?_, fun hz => ?_⟩)
    · rcases List.mem_cons.1 ((h z).1 (List.mem_cons_of_mem _ hz)) with rfl | h'
      · have := p1 z hz
        rw [S.irr] at this
        cases this
      · exact h'
    · rcases List.mem_cons.1 ((h z).2 (List.mem_cons_of_mem _ hz)) with rfl | h'
      · have := p2 z hz
        rw [S.irr] at this
        cases this
      · exact h'
/-- Both roads end at one list. -/
theorem sorted_both (S : Strict lt) (l : List α) : l.foldl (fun o a => insD lt a o) [] = compactL (l.mergeSort fun x y => !(lt y x)) := by
  obtain ⟨h1, h2⟩ := fold_insD S l [] List.Pairwise.nil
  have hs : (l.mergeSort fun x y => !(lt y x)).Pairwise (fun x y => lt y x = false) := by
    have := List.pairwise_mergeSort (le := fun x y => !(lt y x)) (fun a b c hab hbc => by
      simp only [Bool.not_eq_true'] at hab hbc ⊢
      cases hca : lt c a with
      | false => rfl
      | true =>
        exfalso
        by_cases hcb : lt c b = true
        · rw [hcb] at hbc; cases hbc
        · have e : b = c := S.total b c (by
            cases hb : lt b c with
            | false => rfl
            | true =>
              have := S.trans _ _ _ hb hca
              rw [hab] at this
              cases this) (by simpa using hcb)
          subst e
          rw [hab] at hca
          cases hca) (fun a b => by
      cases hba : lt b a with
      | false => simp
      | true =>
        cases hab : lt a b with
        | false => simp
        | true =>
          have := S.trans _ _ _ hba hab
          rw [S.irr] at this
          cases this) l
    exact this.imp (fun h => by simpa using h)
  refine strict_unique S _ _ h1 (compactL_strict S _ hs) fun z => ?_
  rw [h2, mem_compactL, List.mem_mergeSort]
  simp
end Go.Proofs.Yteckdlmepgdlnaa.SortMath
