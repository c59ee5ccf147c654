/- Small words for functions that are handed a predicate: a search that stops at the first hit, and its law of rounds. -/
import Derived.Test.YthljodbopmcgeaaDoorWMore
import Derived.Shelf.Abstract
import Derived.Laws.Runes
namespace Go.Proofs.YthljodbopmcgeaaDoorW.Ext
open Go.RowKit Go.Proofs.YthljodbopmcgeaaDoorW.PrintWords Go.Proofs.YthljodbopmcgeaaDoorW.PrintLast

/-- The first place at which p holds, from i on; p may have no answer. -/
def idxGo {α : Type} (p : α → Option Bool) : Int → List α → Option Int
  | _, [] => some (-1)
  | i, x :: xs => (p x).bind fun b => if b = true then some i else idxGo p (i + 1) xs

/-- Does p hold of all, asked in order up to the first that fails. -/
def allM {α : Type} (p : α → Option Bool) : List α → Option Bool
  | [] => some true
  | x :: xs => (p x).bind fun b => if b = true then allM p xs else some false

/-- Does p hold of one, asked in order up to the first. -/
def anyM {α : Type} (p : α → Option Bool) : List α → Option Bool
  | [] => some false
  | x :: xs => (p x).bind fun b => if b = true then some true else anyM p xs

theorem allM_idx {α : Type} (p : α → Option Bool) : ∀ (l : List α) (j : Int) (r : Bool), 0 ≤ j → allM p l = some r →
    ∃ i, idxGo (fun x => (p x).map (fun b => !b)) j l = some i ∧ decide (0 ≤ i) = !r := by
  intro l
  induction l with
  | nil =>
    intro j r _ h
    have hr : true = r := Option.some.inj h
    subst hr
    exact ⟨-1, rfl, rfl⟩
  | cons x xs ih =>
    intro j r hj h
    unfold allM at h
    unfold idxGo
    cases hp : p x with
    | none => rw [hp] at h; simp at h
    | some b =>
      rw [hp] at h
      cases b with
      | true =>
        simp only [Option.bind_some, if_true] at h
        obtain ⟨i, h1, h2⟩ := ih (j + 1) r (by omega) h
        exact ⟨i, by simpa using h1, h2⟩
      | false =>
        have hr : false = r := by simpa using h
        subst hr
        exact ⟨j, by simp, by simpa using hj⟩

theorem anyM_idx {α : Type} (p : α → Option Bool) : ∀ (l : List α) (j : Int) (r : Bool), 0 ≤ j → anyM p l = some r →
    ∃ i, idxGo p j l = some i ∧ decide (0 ≤ i) = r := by
  intro l
  induction l with
  | nil =>
    intro j r _ h
    have hr : false = r := Option.some.inj h
    subst hr
    exact ⟨-1, rfl, rfl⟩
  | cons x xs ih =>
    intro j r hj h
    unfold anyM at h
    unfold idxGo
    cases hp : p x with
    | none => rw [hp] at h; simp at h
    | some b =>
      rw [hp] at h
      cases b with
      | true =>
        have hr : true = r := by simpa using h
        subst hr
        exact ⟨j, by simp, by simpa using hj⟩
      | false =>
        simp only [Option.bind_some, Bool.false_eq_true, if_false] at h
        obtain ⟨i, h1, h2⟩ := ih (j + 1) r (by omega) h
        exact ⟨i, by simpa using h1, h2⟩

theorem allM_mono {α : Type} {p q : α → Option Bool} (hpq : ∀ x, LeO (p x) (q x)) : ∀ l : List α, LeO (allM p l) (allM q l)
  | [] => fun r h => h
  | x :: xs => fun r h => by
    unfold allM at h ⊢
    cases hp : p x with
    | none => rw [hp] at h; simp at h
    | some b =>
      rw [hpq x b hp]
      rw [hp] at h
      simp only [Option.bind_some] at h ⊢
      cases b with
      | true => simp only [if_true] at h ⊢; exact allM_mono hpq xs r h
      | false => exact h

theorem anyM_mono {α : Type} {p q : α → Option Bool} (hpq : ∀ x, LeO (p x) (q x)) : ∀ l : List α, LeO (anyM p l) (anyM q l)
  | [] => fun r h => h
  | x :: xs => fun r h => by
    unfold anyM at h ⊢
    cases hp : p x with
    | none => rw [hp] at h; simp at h
    | some b =>
      rw [hpq x b hp]
      rw [hp] at h
      simp only [Option.bind_some] at h ⊢
      cases b with
      | true => exact h
      | false => simp only [Bool.false_eq_true, if_false] at h ⊢; exact anyM_mono hpq xs r h

/-- One step of the search. -/
theorem idxGo_drop {α : Type} (p : α → Option Bool) (l : List α) (k : Nat) (i r : Int) (hk : k < l.length) (h : idxGo p i (l.drop k) = some r) :
    ∃ b, p l[k] = some b ∧ ((b = true ∧ r = i) ∨ (b = false ∧ idxGo p (i + 1) (l.drop (k + 1)) = some r)) := by
  rw [List.drop_eq_getElem_cons hk] at h
  unfold idxGo at h
  cases hp : p l[k] with
  | none => rw [hp] at h; simp at h
  | some b =>
    rw [hp] at h
    refine ⟨b, rfl, ?_⟩
    cases b with
    | true => left; simp at h; exact ⟨rfl, h.symm⟩
    | false => right; simp at h; exact ⟨rfl, h⟩

theorem idxGo_end {α : Type} (p : α → Option Bool) (l : List α) (k : Nat) (i r : Int) (hk : l.length ≤ k) (h : idxGo p i (l.drop k) = some r) : r = -1 := by
  rw [List.drop_of_length_le hk] at h
  simp [idxGo] at h
  exact h.symm

/-- The second world is the first one with draws and allocations since. -/
class Sf (W V : World) : Prop where k : Below W.heap.size W V
instance Sf.r (W : World) : Sf W W := ⟨Below.refl _ _⟩
instance Sf.n (W V : World) (n : Nat) [h : Sf W V] : Sf W (V.drewN n) := ⟨pw_below_drewN h.k n⟩
instance Sf.d (W V : World) [h : Sf W V] : Sf W V.drew := ⟨below_drew1 h.k⟩
instance Sf.a (W V : World) (o : Obj) [h : Sf W V] : Sf W (V.alloc o) := ⟨below_alloc h.k o⟩
/-- .. and writes into the block b. -/
class Sg (W V : World) (b : Nat) : Prop where
  s : W.heap.size ≤ V.heap.size
  k : ∀ g, g < W.heap.size → g ≠ b → V.heap[g]? = W.heap[g]?
  m : ∀ w : World, Below w.heap.size w W → w.heap.size ≤ b → Below w.heap.size w V
instance Sg.f (W V : World) (b : Nat) [h : Sf W V] : Sg W V b := ⟨h.k.size, fun g hg _ => h.k.block g hg, fun _ x _ => below_step x h.k⟩
instance Sg.w (W V : World) (b j : Nat) (v : Value) [h : Sg W V b] : Sg W (V.setCell ⟨b, j, none⟩ v) b :=
  ⟨by simpa using h.s, fun g hg hn => (Below.heap_setCell V ⟨b, j, none⟩ v g hn).trans (h.k g hg hn), fun w x hb => below_set (h.m w x hb) hb⟩
instance Sg.n (W V : World) (b n : Nat) [h : Sg W V b] : Sg W (V.drewN n) b := ⟨h.s, h.k, fun w x hb => pw_below_drewN (h.m w x hb) n⟩
instance Sg.d (W V : World) (b : Nat) [h : Sg W V b] : Sg W V.drew b := ⟨h.s, h.k, fun w x hb => below_drew1 (h.m w x hb)⟩
instance Sg.a (W V : World) (b : Nat) (o : Obj) [h : Sg W V b] : Sg W (V.alloc o) b :=
  ⟨Nat.le_trans h.s (by simp), fun g hg hn => (Below.heap_alloc V o g (Nat.lt_of_lt_of_le hg h.s)).trans (h.k g hg hn), fun w x hb => below_alloc (h.m w x hb) o⟩
section
variable {W V V2 w : World} {g b : Nat} {o : Obj}
theorem bk [s : Sf W V] (h : Aside0 (W.heap[g]? = some o)) : V.heap[g]? = some o := blk_below h.out s.k
theorem ak [s : Sf W V] (h : Aside0 (W.heap[g]? = some o)) : Aside0 (V.heap[g]? = some o) := ⟨bk h⟩
theorem kb [s : Sf W V] (h : Aside0 (W.heap[g]? = some o)) (b : Below V.heap.size V V2) : Aside0 (V2.heap[g]? = some o) := ⟨blk_below (bk h) b⟩
theorem bb [s : Sf W V] (h : Aside0 (Below w.heap.size w W)) : Below w.heap.size w V := below_step h.out s.k
theorem bs [s : Sf W V] (h : Aside0 (Below w.heap.size w W)) (b : Below V.heap.size V V2) : Aside0 (Below w.heap.size w V2) := ⟨below_step (bb h) b⟩
theorem bg [s : Sg W V b] (h : Aside0 (Below w.heap.size w W)) (x : Aside0 (w.heap.size ≤ b)) : Below w.heap.size w V := s.m w h.out x.out
theorem wl [s : Sf W V] (e : g = V.heap.size) (h : Aside0 (Below w.heap.size w W)) : Aside0 (w.heap.size ≤ g) := ⟨e ▸ below_size (bb (V := V) h)⟩
theorem nl [s : Sf W V] (e : b = V.heap.size) (h : Aside0 (W.heap[g]? = some o)) : Aside0 (g ≠ b) := ⟨e ▸ Nat.ne_of_lt (blk_lt (bk (V := V) h))⟩
theorem nr [s : Sf W V] (e : b = V.heap.size) (h : Aside0 (W.heap[g]? = some o)) : Aside0 (b ≠ g) := ⟨(nl e h).out.symm⟩
theorem bf [s : Sg W V b] (h : Aside0 (W.heap[g]? = some o)) (x : Aside0 (g ≠ b)) : V.heap[g]? = some o := (s.k g (blk_lt h.out) x.out).trans h.out
theorem kf [s : Sg W V b] (h : Aside0 (W.heap[g]? = some o)) (x : Aside0 (g ≠ b)) (y : Below V.heap.size V V2) : Aside0 (V2.heap[g]? = some o) := ⟨blk_below (bf h x) y⟩
end
section
variable {α : Type} {d : Kd α} {e base n : Nat} {ok : Nat → Prop} {W V V2 : World} {v : Value} {xs : List α} {A : Option Addr} [s : Sf W V]
theorem rk (h : Aside0 (d.R e W base ok v xs)) : d.R e V base ok v xs := Kd.R_below h.out s.k
theorem ko (h : Aside0 (d.R e W base ok v xs)) (b : Below V.heap.size V V2) : Aside0 (d.R e V2 base ok v xs) := ⟨Kd.R_below (rk h) b⟩
theorem ck (h : Aside0 (d.C W A n xs)) : d.C V A n xs := Kd.C_below h.out s.k
theorem kc (h : Aside0 (d.C W A n xs)) (b : Below V.heap.size V V2) : Aside0 (d.C V2 A n xs) := ⟨Kd.C_below (ck h) b⟩
end
theorem q1 {w : World} {g t : Nat} {x0 : Value} (h : Aside0 (w.heap[g]? = some (.cells #[x0] t (0, 0)))) : w.cell? ⟨g, 0, none⟩ = some x0 := (blk_cell h.out 0).trans rfl
theorem q1f {w : World} {g t : Nat} {x0 : Value} (h : Aside0 (w.heap[g]? = some (.cells #[x0] t (0, 0)))) : w.cell? ⟨g, 0, none⟩ = some x0 ∧ w.frozen? ⟨g, 0, none⟩ = false := ⟨(blk_cell h.out 0).trans rfl, blk_frozen h.out 0⟩
theorem q2 {w : World} {g t : Nat} {x0 x1 : Value} (h : Aside0 (w.heap[g]? = some (.cells #[x0, x1] t (0, 0)))) : w.cell? ⟨g, 0, none⟩ = some x0 ∧ w.cell? ⟨g, 1, none⟩ = some x1 := ⟨(blk_cell h.out 0).trans rfl, (blk_cell h.out 1).trans rfl⟩
theorem q2f {w : World} {g t : Nat} {x0 x1 : Value} (h : Aside0 (w.heap[g]? = some (.cells #[x0, x1] t (0, 0)))) : w.cell? ⟨g, 0, none⟩ = some x0 ∧ w.cell? ⟨g, 1, none⟩ = some x1 ∧ w.frozen? ⟨g, 0, none⟩ = false ∧ w.frozen? ⟨g, 1, none⟩ = false := ⟨(blk_cell h.out 0).trans rfl, (blk_cell h.out 1).trans rfl, blk_frozen h.out 0, blk_frozen h.out 1⟩
theorem q3 {w : World} {g t : Nat} {x0 x1 x2 : Value} (h : Aside0 (w.heap[g]? = some (.cells #[x0, x1, x2] t (0, 0)))) : w.cell? ⟨g, 0, none⟩ = some x0 ∧ w.cell? ⟨g, 1, none⟩ = some x1 ∧ w.cell? ⟨g, 2, none⟩ = some x2 := ⟨(blk_cell h.out 0).trans rfl, (blk_cell h.out 1).trans rfl, (blk_cell h.out 2).trans rfl⟩
theorem q3f {w : World} {g t : Nat} {x0 x1 x2 : Value} (h : Aside0 (w.heap[g]? = some (.cells #[x0, x1, x2] t (0, 0)))) : w.cell? ⟨g, 0, none⟩ = some x0 ∧ w.cell? ⟨g, 1, none⟩ = some x1 ∧ w.cell? ⟨g, 2, none⟩ = some x2 ∧ w.frozen? ⟨g, 0, none⟩ = false ∧ w.frozen? ⟨g, 1, none⟩ = false ∧ w.frozen? ⟨g, 2, none⟩ = false := ⟨(blk_cell h.out 0).trans rfl, (blk_cell h.out 1).trans rfl, (blk_cell h.out 2).trans rfl, blk_frozen h.out 0, blk_frozen h.out 1, blk_frozen h.out 2⟩
theorem q4 {w : World} {g t : Nat} {x0 x1 x2 x3 : Value} (h : Aside0 (w.heap[g]? = some (.cells #[x0, x1, x2, x3] t (0, 0)))) : w.cell? ⟨g, 0, none⟩ = some x0 ∧ w.cell? ⟨g, 1, none⟩ = some x1 ∧ w.cell? ⟨g, 2, none⟩ = some x2 ∧ w.cell? ⟨g, 3, none⟩ = some x3 := ⟨(blk_cell h.out 0).trans rfl, (blk_cell h.out 1).trans rfl, (blk_cell h.out 2).trans rfl, (blk_cell h.out 3).trans rfl⟩
theorem q4f {w : World} {g t : Nat} {x0 x1 x2 x3 : Value} (h : Aside0 (w.heap[g]? = some (.cells #[x0, x1, x2, x3] t (0, 0)))) : w.cell? ⟨g, 0, none⟩ = some x0 ∧ w.cell? ⟨g, 1, none⟩ = some x1 ∧ w.cell? ⟨g, 2, none⟩ = some x2 ∧ w.cell? ⟨g, 3, none⟩ = some x3 ∧ w.frozen? ⟨g, 0, none⟩ = false ∧ w.frozen? ⟨g, 1, none⟩ = false ∧ w.frozen? ⟨g, 2, none⟩ = false ∧ w.frozen? ⟨g, 3, none⟩ = false := ⟨(blk_cell h.out 0).trans rfl, (blk_cell h.out 1).trans rfl, (blk_cell h.out 2).trans rfl, (blk_cell h.out 3).trans rfl, blk_frozen h.out 0, blk_frozen h.out 1, blk_frozen h.out 2, blk_frozen h.out 3⟩
theorem q5 {w : World} {g t : Nat} {x0 x1 x2 x3 x4 : Value} (h : Aside0 (w.heap[g]? = some (.cells #[x0, x1, x2, x3, x4] t (0, 0)))) : w.cell? ⟨g, 0, none⟩ = some x0 ∧ w.cell? ⟨g, 1, none⟩ = some x1 ∧ w.cell? ⟨g, 2, none⟩ = some x2 ∧ w.cell? ⟨g, 3, none⟩ = some x3 ∧ w.cell? ⟨g, 4, none⟩ = some x4 := ⟨(blk_cell h.out 0).trans rfl, (blk_cell h.out 1).trans rfl, (blk_cell h.out 2).trans rfl, (blk_cell h.out 3).trans rfl, (blk_cell h.out 4).trans rfl⟩
theorem q5f {w : World} {g t : Nat} {x0 x1 x2 x3 x4 : Value} (h : Aside0 (w.heap[g]? = some (.cells #[x0, x1, x2, x3, x4] t (0, 0)))) : w.cell? ⟨g, 0, none⟩ = some x0 ∧ w.cell? ⟨g, 1, none⟩ = some x1 ∧ w.cell? ⟨g, 2, none⟩ = some x2 ∧ w.cell? ⟨g, 3, none⟩ = some x3 ∧ w.cell? ⟨g, 4, none⟩ = some x4 ∧ w.frozen? ⟨g, 0, none⟩ = false ∧ w.frozen? ⟨g, 1, none⟩ = false ∧ w.frozen? ⟨g, 2, none⟩ = false ∧ w.frozen? ⟨g, 3, none⟩ = false ∧ w.frozen? ⟨g, 4, none⟩ = false := ⟨(blk_cell h.out 0).trans rfl, (blk_cell h.out 1).trans rfl, (blk_cell h.out 2).trans rfl, (blk_cell h.out 3).trans rfl, (blk_cell h.out 4).trans rfl, blk_frozen h.out 0, blk_frozen h.out 1, blk_frozen h.out 2, blk_frozen h.out 3, blk_frozen h.out 4⟩
theorem q6 {w : World} {g t : Nat} {x0 x1 x2 x3 x4 x5 : Value} (h : Aside0 (w.heap[g]? = some (.cells #[x0, x1, x2, x3, x4, x5] t (0, 0)))) : w.cell? ⟨g, 0, none⟩ = some x0 ∧ w.cell? ⟨g, 1, none⟩ = some x1 ∧ w.cell? ⟨g, 2, none⟩ = some x2 ∧ w.cell? ⟨g, 3, none⟩ = some x3 ∧ w.cell? ⟨g, 4, none⟩ = some x4 ∧ w.cell? ⟨g, 5, none⟩ = some x5 := ⟨(blk_cell h.out 0).trans rfl, (blk_cell h.out 1).trans rfl, (blk_cell h.out 2).trans rfl, (blk_cell h.out 3).trans rfl, (blk_cell h.out 4).trans rfl, (blk_cell h.out 5).trans rfl⟩
theorem q6f {w : World} {g t : Nat} {x0 x1 x2 x3 x4 x5 : Value} (h : Aside0 (w.heap[g]? = some (.cells #[x0, x1, x2, x3, x4, x5] t (0, 0)))) : w.cell? ⟨g, 0, none⟩ = some x0 ∧ w.cell? ⟨g, 1, none⟩ = some x1 ∧ w.cell? ⟨g, 2, none⟩ = some x2 ∧ w.cell? ⟨g, 3, none⟩ = some x3 ∧ w.cell? ⟨g, 4, none⟩ = some x4 ∧ w.cell? ⟨g, 5, none⟩ = some x5 ∧ w.frozen? ⟨g, 0, none⟩ = false ∧ w.frozen? ⟨g, 1, none⟩ = false ∧ w.frozen? ⟨g, 2, none⟩ = false ∧ w.frozen? ⟨g, 3, none⟩ = false ∧ w.frozen? ⟨g, 4, none⟩ = false ∧ w.frozen? ⟨g, 5, none⟩ = false := ⟨(blk_cell h.out 0).trans rfl, (blk_cell h.out 1).trans rfl, (blk_cell h.out 2).trans rfl, (blk_cell h.out 3).trans rfl, (blk_cell h.out 4).trans rfl, (blk_cell h.out 5).trans rfl, blk_frozen h.out 0, blk_frozen h.out 1, blk_frozen h.out 2, blk_frozen h.out 3, blk_frozen h.out 4, blk_frozen h.out 5⟩
section
variable {α : Type} {d : Kd α} {e base M : Nat} {ok : Nat → Prop} {W V V2 : World} {v : Value} {xs : List α} [s : Sf W V]
theorem sk (h : Aside0 (Kd.S d e W base ok v xs)) : Kd.S d e V base ok v xs := Kd.S_below h.out s.k
theorem nk (h : Aside0 (Kd.N d e W base ok v xs)) : Kd.N d e V base ok v xs := Kd.N_below h.out s.k
theorem mk_ (h : Aside0 (M ≤ W.heap.size)) : M ≤ V.heap.size := Nat.le_trans h.out s.k.size
theorem ml (h : Aside0 (M ≤ W.heap.size)) (b : Below V.heap.size V V2) : Aside0 (M ≤ V2.heap.size) := ⟨Nat.le_trans (mk_ h) b.size⟩
end
end Go.Proofs.YthljodbopmcgeaaDoorW.Ext
