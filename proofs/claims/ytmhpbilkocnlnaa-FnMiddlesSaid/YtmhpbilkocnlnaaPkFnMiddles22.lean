/- Joined texts: ExtWords, Shelf, Rep, RepAll, Qx0, Qx18, Qx25, Qx8, Qx32, Qx33, Qx34, Qx26, SeqCoreW, Qx1, Qx19, Qx35, Qx42, Qx39, SeqIsM, AngMath, Qx4, AngCoreS, Qx9, AngDoubleS, Qx3, Qx11, AngLetterS -/
import Derived.Test.YtmhpbilkocnlnaaPkFnMiddles10
import Derived.Shelf.Abstract
import Derived.Laws.Runes
import Derived.Shelf.Strings.Builder1
import Derived.Shelf.Strings.Builder2
import Derived.Shelf.Small.Strs
import Derived.Shelf.Strings.BuilderF
import Derived.Shelf.Strings.Search1
import Derived.Shelf.Strings.Prefix
import Derived.Shelf.Bits.Mul64
import Derived.Test.YtmhpbilkocnlnaaProg
import Derived.Lib.FrozenHead
import Derived.Lib.RepeatB
import Derived.Laws.Strings3
import Derived.Deep.LoopGhost
import Derived.Deep.DeepCutAuto
import Derived.Deep.DeepFit
import Derived.Deep.CutBlock
import Derived.Test.YtmhpbilkocnlnaaChecked
import Derived.Maps.OwnOps
import Derived.Maps.OwnSet
import Derived.DeepKeys4
import Derived.Below
import Derived.Deep.Draws
import Derived.Deep.AppendLies
import Derived.Maps.AppendAt
import Derived.OwnWalk
import Derived.Laws.BytesArg
import Derived.Laws.MakeOwn
import Derived.Laws.OwnMore
import Derived.Deep.OwnRows
import Derived.Tactics
import Derived.Lib.ConvBytes
import Derived.Laws.Slices
import Derived.WalkKit
import Derived.KernelRfl
import Derived.RowKit3
import Derived.Deep.QuietTactic
import Derived.BigQuiet
import Derived.WideLaws
import Derived.Deep.RegionHeld3
import Derived.Laws.Rows
import Derived.Lib.AppendStr
import Derived.ArgAppend
import Derived.Laws.IdiomCopy
import Derived.OrdersHeld
import Derived.Laws.BitsLemmas
import Derived.RowKit
import Derived.Test.YtmhpbilkocnlnaaPkFnMiddles21
import Derived.Test.YtmhpbilkocnlnaaPkFnMiddles20
import Derived.Test.YtmhpbilkocnlnaaPkFnMiddles9
import Derived.Test.YtmhpbilkocnlnaaPkFnMiddles8
import Derived.Test.YtmhpbilkocnlnaaPkFnMiddles19
import Derived.Test.YtmhpbilkocnlnaaPkFnMiddles18
import Derived.Test.YtmhpbilkocnlnaaPkFnMiddles17
import Derived.Test.YtmhpbilkocnlnaaPkFnMiddles16
import Derived.Test.YtmhpbilkocnlnaaPkFnMiddles15
import Derived.Test.YtmhpbilkocnlnaaPkFnMiddles14
import Derived.Test.YtmhpbilkocnlnaaPkFnMiddles13
import Derived.Test.YtmhpbilkocnlnaaPkFnMiddles12
import Derived.Test.YtmhpbilkocnlnaaPkFnMiddles7
import Derived.Test.YtmhpbilkocnlnaaPkFnMiddles6
import Derived.Test.YtmhpbilkocnlnaaPkFnMiddles5
import Derived.Test.YtmhpbilkocnlnaaPkFnMiddles4
import Derived.Test.YtmhpbilkocnlnaaPkFnMiddles3
import Derived.Test.YtmhpbilkocnlnaaPkFnMiddles2
import Derived.Test.YtmhpbilkocnlnaaPkFnMiddles1
import Derived.Test.YtmhpbilkocnlnaaPkFnMiddles11
import Derived.Test.YtmhpbilkocnlnaaPkFnMiddles0
section
namespace Go.Proofs.YtmhpbilkocnlnaaW.Ext
open Go.RowKit Go.Proofs.YtmhpbilkocnlnaaW.PrintWords Go.Proofs.YtmhpbilkocnlnaaW.PrintLast
def idxGo {α : Type} (p : α → Option Bool) : Int → List α → Option Int
  | _, [] => some (-1)
  | i, x :: xs => (p x).bind fun b => if b = true then some i else idxGo p (i + 1) xs
def allM {α : Type} (p : α → Option Bool) : List α → Option Bool
  | [] => some true
  | x :: xs => (p x).bind fun b => if b = true then allM p xs else some false
theorem allM_idx {α : Type} (p : α → Option Bool) : ∀ (l : List α) (j : Int) (r : Bool), 0 ≤ j → allM p l = some r →
    ∃ i, idxGo (fun x => (p x).map (fun b => !b)) j l = some i ∧ decide (0 ≤ i) = !r := by
  intro l
  induction l with
  | nil =>
    intro j r _ h
    have hr : true = r := Option.some.inj h
    subst hr
    exact ⟨-1, rfl, rfl⟩
  | cons x xs ih =>
    intro j r hj h
    unfold allM at h
    unfold idxGo
    cases hp : p x with
    | none => rw [hp] at h; simp at h
    | some b =>
      rw [hp] at h
      cases b with
      | true =>
        simp only [Option.bind_some, if_true] at h
        obtain ⟨i, h1, h2⟩ := ih (j + 1) r (by omega) h
        exact ⟨i, by simpa using h1, h2⟩
      | false =>
        have hr : false = r := by simpa using h
        subst hr
        exact ⟨j, by simp, by simpa using hj⟩
theorem allM_mono {α : Type} {p q : α → Option Bool} (hpq : ∀ x, LeO (p x) (q x)) : ∀ l : List α, LeO (allM p l) (allM q l)
  | [] => fun r h => h
  | x :: xs => fun r h => by
    unfold allM at h ⊢
    cases hp : p x with
    | none => rw [hp] at h; simp at h
    | some b =>
      rw [hpq x b hp]
      rw [hp] at h
      simp only [Option.bind_some] at h ⊢
      cases b with
      | true => simp only [if_true] at h ⊢; exact allM_mono hpq xs r h
      | false => exact h
theorem idxGo_drop {α : Type} (p : α → Option Bool) (l : List α) (k : Nat) (i r : Int) (hk : k < l.length) (h : idxGo p i (l.drop k) = some r) :
    ∃ b, p l[k] = some b ∧ ((b = true ∧ r = i) ∨ (b = false ∧ idxGo p (i + 1) (l.drop (k + 1)) = some r)) := by
  rw [List.drop_eq_getElem_cons hk] at h
  unfold idxGo at h
  cases hp : p l[k] with
  | none => rw [hp] at h; simp at h
  | some b =>
    rw [hp] at h
    refine ⟨b, rfl, ?_⟩
    cases b with
    | true => left; simp at h; exact ⟨rfl, h.symm⟩
    | false => right; simp at h; exact ⟨rfl, h⟩
theorem idxGo_end {α : Type} (p : α → Option Bool) (l : List α) (k : Nat) (i r : Int) (hk : l.length ≤ k) (h : idxGo p i (l.drop k) = some r) : r = -1 := by
  rw [List.drop_of_length_le hk] at h
  simp [idxGo] at h
  exact h.symm
class Sf (W V : World) : Prop where k : Below W.heap.size W V
instance Sf.r (W : World) : Sf W W := ⟨Below.refl _ _⟩
instance Sf.n (W V : World) (n : Nat) [h : Sf W V] : Sf W (V.drewN n) := ⟨pw_below_drewN h.k n⟩
instance Sf.d (W V : World) [h : Sf W V] : Sf W V.drew := ⟨below_drew1 h.k⟩
instance Sf.a (W V : World) (o : Obj) [h : Sf W V] : Sf W (V.alloc o) := ⟨below_alloc h.k o⟩
class Sg (W V : World) (b : Nat) : Prop where
  s : W.heap.size ≤ V.heap.size
  k : ∀ g, g < W.heap.size → g ≠ b → V.heap[g]? = W.heap[g]?
  m : ∀ w : World, Below w.heap.size w W → w.heap.size ≤ b → Below w.heap.size w V
instance Sg.f (W V : World) (b : Nat) [h : Sf W V] : Sg W V b := ⟨h.k.size, fun g hg _ => h.k.block g hg, fun _ x _ => below_step x h.k⟩
instance Sg.w (W V : World) (b j : Nat) (v : Value) [h : Sg W V b] : Sg W (V.setCell ⟨b, j, none⟩ v) b :=
  ⟨by simpa using h.s, fun g hg hn => (Below.heap_setCell V ⟨b, j, none⟩ v g hn).trans (h.k g hg hn), fun w x hb => below_set (h.m w x hb) hb⟩
instance Sg.n (W V : World) (b n : Nat) [h : Sg W V b] : Sg W (V.drewN n) b := ⟨h.s, h.k, fun w x hb => pw_below_drewN (h.m w x hb) n⟩
instance Sg.d (W V : World) (b : Nat) [h : Sg W V b] : Sg W V.drew b := ⟨h.s, h.k, fun w x hb => below_drew1 (h.m w x hb)⟩
instance Sg.a (W V : World) (b : Nat) (o : Obj) [h : Sg W V b] : Sg W (V.alloc o) b :=
  ⟨Nat.le_trans h.s (by simp), fun g hg hn => (Below.heap_alloc V o g (Nat.lt_of_lt_of_le hg h.s)).trans (h.k g hg hn), fun w x hb => below_alloc (h.m w x hb) o⟩
section
variable {W V V2 w : World} {g b : Nat} {o : Obj}
theorem bk [s : Sf W V] (h : Aside0 (W.heap[g]? = some o)) : V.heap[g]? = some o := blk_below h.out s.k
theorem kb [s : Sf W V] (h : Aside0 (W.heap[g]? = some o)) (b : Below V.heap.size V V2) : Aside0 (V2.heap[g]? = some o) := ⟨blk_below (bk h) b⟩
theorem bb [s : Sf W V] (h : Aside0 (Below w.heap.size w W)) : Below w.heap.size w V := below_step h.out s.k
theorem bs [s : Sf W V] (h : Aside0 (Below w.heap.size w W)) (b : Below V.heap.size V V2) : Aside0 (Below w.heap.size w V2) := ⟨below_step (bb h) b⟩
theorem bg [s : Sg W V b] (h : Aside0 (Below w.heap.size w W)) (x : Aside0 (w.heap.size ≤ b)) : Below w.heap.size w V := s.m w h.out x.out
theorem wl [s : Sf W V] (e : g = V.heap.size) (h : Aside0 (Below w.heap.size w W)) : Aside0 (w.heap.size ≤ g) := ⟨e ▸ below_size (bb (V := V) h)⟩
theorem nl [s : Sf W V] (e : b = V.heap.size) (h : Aside0 (W.heap[g]? = some o)) : Aside0 (g ≠ b) := ⟨e ▸ Nat.ne_of_lt (blk_lt (bk (V := V) h))⟩
theorem nr [s : Sf W V] (e : b = V.heap.size) (h : Aside0 (W.heap[g]? = some o)) : Aside0 (b ≠ g) := ⟨(nl e h).out.symm⟩
theorem bf [s : Sg W V b] (h : Aside0 (W.heap[g]? = some o)) (x : Aside0 (g ≠ b)) : V.heap[g]? = some o := (s.k g (blk_lt h.out) x.out).trans h.out
theorem kf [s : Sg W V b] (h : Aside0 (W.heap[g]? = some o)) (x : Aside0 (g ≠ b)) (y : Below V.heap.size V V2) : Aside0 (V2.heap[g]? = some o) := ⟨blk_below (bf h x) y⟩
end
section
variable {α : Type} {d : Kd α} {e base n : Nat} {ok : Nat → Prop} {W V V2 : World} {v : Value} {xs : List α} {A : Option Addr} [s : Sf W V]
theorem rk (h : Aside0 (d.R e W base ok v xs)) : d.R e V base ok v xs := Kd.R_below h.out s.k
theorem ko (h : Aside0 (d.R e W base ok v xs)) (b : Below V.heap.size V V2) : Aside0 (d.R e V2 base ok v xs) := ⟨Kd.R_below (rk h) b⟩
theorem ck (h : Aside0 (d.C W A n xs)) : d.C V A n xs := Kd.C_below h.out s.k
end
theorem q1 {w : World} {g t : Nat} {x0 : Value} (h : Aside0 (w.heap[g]? = some (.cells #[x0] t (0, 0)))) : w.cell? ⟨g, 0, none⟩ = some x0 := (blk_cell h.out 0).trans rfl
theorem q2 {w : World} {g t : Nat} {x0 x1 : Value} (h : Aside0 (w.heap[g]? = some (.cells #[x0, x1] t (0, 0)))) : w.cell? ⟨g, 0, none⟩ = some x0 ∧ w.cell? ⟨g, 1, none⟩ = some x1 := ⟨(blk_cell h.out 0).trans rfl, (blk_cell h.out 1).trans rfl⟩
theorem q2f {w : World} {g t : Nat} {x0 x1 : Value} (h : Aside0 (w.heap[g]? = some (.cells #[x0, x1] t (0, 0)))) : w.cell? ⟨g, 0, none⟩ = some x0 ∧ w.cell? ⟨g, 1, none⟩ = some x1 ∧ w.frozen? ⟨g, 0, none⟩ = false ∧ w.frozen? ⟨g, 1, none⟩ = false := ⟨(blk_cell h.out 0).trans rfl, (blk_cell h.out 1).trans rfl, blk_frozen h.out 0, blk_frozen h.out 1⟩
theorem q3 {w : World} {g t : Nat} {x0 x1 x2 : Value} (h : Aside0 (w.heap[g]? = some (.cells #[x0, x1, x2] t (0, 0)))) : w.cell? ⟨g, 0, none⟩ = some x0 ∧ w.cell? ⟨g, 1, none⟩ = some x1 ∧ w.cell? ⟨g, 2, none⟩ = some x2 := ⟨(blk_cell h.out 0).trans rfl, (blk_cell h.out 1).trans rfl, (blk_cell h.out 2).trans rfl⟩
theorem q4 {w : World} {g t : Nat} {x0 x1 x2 x3 : Value} (h : Aside0 (w.heap[g]? = some (.cells #[x0, x1, x2, x3] t (0, 0)))) : w.cell? ⟨g, 0, none⟩ = some x0 ∧ w.cell? ⟨g, 1, none⟩ = some x1 ∧ w.cell? ⟨g, 2, none⟩ = some x2 ∧ w.cell? ⟨g, 3, none⟩ = some x3 := ⟨(blk_cell h.out 0).trans rfl, (blk_cell h.out 1).trans rfl, (blk_cell h.out 2).trans rfl, (blk_cell h.out 3).trans rfl⟩
theorem q5 {w : World} {g t : Nat} {x0 x1 x2 x3 x4 : Value} (h : Aside0 (w.heap[g]? = some (.cells #[x0, x1, x2, x3, x4] t (0, 0)))) : w.cell? ⟨g, 0, none⟩ = some x0 ∧ w.cell? ⟨g, 1, none⟩ = some x1 ∧ w.cell? ⟨g, 2, none⟩ = some x2 ∧ w.cell? ⟨g, 3, none⟩ = some x3 ∧ w.cell? ⟨g, 4, none⟩ = some x4 := ⟨(blk_cell h.out 0).trans rfl, (blk_cell h.out 1).trans rfl, (blk_cell h.out 2).trans rfl, (blk_cell h.out 3).trans rfl, (blk_cell h.out 4).trans rfl⟩
theorem q6 {w : World} {g t : Nat} {x0 x1 x2 x3 x4 x5 : Value} (h : Aside0 (w.heap[g]? = some (.cells #[x0, x1, x2, x3, x4, x5] t (0, 0)))) : w.cell? ⟨g, 0, none⟩ = some x0 ∧ w.cell? ⟨g, 1, none⟩ = some x1 ∧ w.cell? ⟨g, 2, none⟩ = some x2 ∧ w.cell? ⟨g, 3, none⟩ = some x3 ∧ w.cell? ⟨g, 4, none⟩ = some x4 ∧ w.cell? ⟨g, 5, none⟩ = some x5 := ⟨(blk_cell h.out 0).trans rfl, (blk_cell h.out 1).trans rfl, (blk_cell h.out 2).trans rfl, (blk_cell h.out 3).trans rfl, (blk_cell h.out 4).trans rfl, (blk_cell h.out 5).trans rfl⟩
theorem q6f {w : World} {g t : Nat} {x0 x1 x2 x3 x4 x5 : Value} (h : Aside0 (w.heap[g]? = some (.cells #[x0, x1, x2, x3, x4, x5] t (0, 0)))) : w.cell? ⟨g, 0, none⟩ = some x0 ∧ w.cell? ⟨g, 1, none⟩ = some x1 ∧ w.cell? ⟨g, 2, none⟩ = some x2 ∧ w.cell? ⟨g, 3, none⟩ = some x3 ∧ w.cell? ⟨g, 4, none⟩ = some x4 ∧ w.cell? ⟨g, 5, none⟩ = some x5 ∧ w.frozen? ⟨g, 0, none⟩ = false ∧ w.frozen? ⟨g, 1, none⟩ = false ∧ w.frozen? ⟨g, 2, none⟩ = false ∧ w.frozen? ⟨g, 3, none⟩ = false ∧ w.frozen? ⟨g, 4, none⟩ = false ∧ w.frozen? ⟨g, 5, none⟩ = false := ⟨(blk_cell h.out 0).trans rfl, (blk_cell h.out 1).trans rfl, (blk_cell h.out 2).trans rfl, (blk_cell h.out 3).trans rfl, (blk_cell h.out 4).trans rfl, (blk_cell h.out 5).trans rfl, blk_frozen h.out 0, blk_frozen h.out 1, blk_frozen h.out 2, blk_frozen h.out 3, blk_frozen h.out 4, blk_frozen h.out 5⟩
section
variable {α : Type} {d : Kd α} {e base M : Nat} {ok : Nat → Prop} {W V V2 : World} {v : Value} {xs : List α} [s : Sf W V]
end
end Go.Proofs.YtmhpbilkocnlnaaW.Ext
end
section
namespace Go.Proofs
open Go.Shelf
open Go.RowKit in
open Go.RowKit in
open Go.RowKit in
open Go.RowKit in
open Go.RowKit in
def Try.lays165_ren : Go.Shelf.Ren := ⟨fun | 165 => 78 | 240 => 85 | 241 => 86 | 276 => 87 | 277 => 88 | n => n, fun | 70 => 105 | 3 => 3 | 0 => 0 | 4 => 4 | 9 => 9 | 20 => 20 | 72 => 107 | 37 => 22 | 164 => 121 | 5 => 5 | n => n, fun | n => n⟩
theorem Try.lays165 : Go.Proofs.Lays.n165 Try.prog Try.lays165_ren := {
  mixed := by kernel_rfl
  f165 := Try.func78.trans (congrArg some (by kernel_rfl))
  f240 := Try.func85.trans (congrArg some (by kernel_rfl))
  f241 := Try.func86.trans (congrArg some (by kernel_rfl))
  f276 := Try.func87.trans (congrArg some (by kernel_rfl))
  f277 := Try.func88.trans (congrArg some (by kernel_rfl))
  t0 := Try.underlying0
  a0 := Try.isAgg0
  z0 := Try.sizeOf0
  v0 := Try.zeroValue0
  t3 := Try.underlying3
  a3 := Try.isAgg3
  z3 := Try.sizeOf3
  v3 := Try.zeroValue3
  t4 := Try.underlying4
  a4 := Try.isAgg4
  z4 := Try.sizeOf4
  v4 := Try.zeroValue4
  t9 := Try.underlying9
  a9 := Try.isAgg9
  z9 := Try.sizeOf9
  v9 := Try.zeroValue9
  t20 := Try.underlying20
  a20 := Try.isAgg20
  z20 := Try.sizeOf20
  v20 := Try.zeroValue20
  t37 := Try.underlying22
  a37 := Try.isAgg22
  z37 := Try.sizeOf22
  v37 := Try.zeroValue22
  t70 := Try.underlying105
  a70 := Try.isAgg105
  z70 := Try.sizeOf105
  v70 := Try.zeroValue105
  t72 := Try.underlying107
  a72 := Try.isAgg107
  z72 := Try.sizeOf107
  v72 := Try.zeroValue107
  t164 := Try.underlying121
  a164 := Try.isAgg121
  z164 := Try.sizeOf121
  v164 := Try.zeroValue121 }
theorem Try.Builder_Extra_165 : Builder.Extra Try.prog Try.lays165_ren := {
  sizeBuilder := by kernel_rfl
  liesBuilder := by kernel_rfl
  t5 := Try.underlying5
  a5 := Try.isAgg5
  z5 := Try.sizeOf5
  v5 := Try.zeroValue5
  infoByte := by kernel_rfl
  cellsByte := by kernel_rfl
  sizeByte := by kernel_rfl
  neB5 := by decide }
open Go.RowKit in
theorem Try.Builder_Grow_fresh (B b n : Nat) (w : World) (hB : B ≤ b) (hbk : w.heap[b]? = some (.cells #[.pointer none, .slice none 0 0] 107 (0, 0))) (hBw : B ≤ w.heap.size) (hn : n ≤ 281474976710656) :
    Calls Try.prog 78 #[.pointer (some ⟨b, 0, none⟩), .int .i64 n] w fun e w' => e = .returned (.tuple #[]) ∧ (Lib.BuilderAt 107 5 B b (.pointer (some ⟨b, 0, none⟩)) [] w' ∧ Below B w w') := Any.Builder_Grow_fresh Try.lays165 Try.Builder_Extra_165 B b n w hB hbk hBw hn
def Try.lays137_ren : Go.Shelf.Ren := ⟨fun | 137 => 44 | 217 => 66 | 266 => 73 | n => n, fun | 9 => 9 | 5 => 5 | 3 => 3 | n => n, fun | n => n⟩
theorem Try.lays137 : Go.Proofs.Lays.n137 Try.prog Try.lays137_ren := {
  mixed := by kernel_rfl
  f137 := Try.func44.trans (congrArg some (by kernel_rfl))
  f217 := Try.func66.trans (congrArg some (by kernel_rfl))
  f266 := Try.func73.trans (congrArg some (by kernel_rfl))
  t3 := Try.underlying3
  a3 := Try.isAgg3
  z3 := Try.sizeOf3
  v3 := Try.zeroValue3
  t5 := Try.underlying5
  a5 := Try.isAgg5
  z5 := Try.sizeOf5
  v5 := Try.zeroValue5
  t9 := Try.underlying9
  a9 := Try.isAgg9
  z9 := Try.sizeOf9
  v9 := Try.zeroValue9 }
open Go.RowKit in
theorem Try.strings_IndexByte (s : ByteArray) (c : Int) (w : World) :
    Calls Try.prog 44 #[.string s, .int .u8 c] w fun e w' => e = .returned (.int .i64 (Lib.indexByte s.data.toList c.toNat.toUInt8)) ∧ w' = w := Any.strings_IndexByte Try.lays137 s c w
open Go.RowKit in
open Go.RowKit in
open Go.RowKit in
open Go.RowKit in
open Go.RowKit Go.Lib in
open Go.RowKit Go.Lib in
open Go.RowKit Go.Lib in
open Go.RowKit Go.Lib in
def Try.lays212_ren : Go.Shelf.Ren := ⟨fun | 212 => 76 | 263 => 82 | 264 => 83 | n => n, fun | 46 => 87 | 51 => 115 | 146 => 116 | 53 => 57 | 148 => 118 | n => n, fun | n => n⟩
theorem Try.lays212 : Go.Proofs.Lays.n212 Try.prog Try.lays212_ren := {
  mixed := by kernel_rfl
  f212 := Try.func76.trans (congrArg some (by kernel_rfl))
  f263 := Try.func82.trans (congrArg some (by kernel_rfl))
  f264 := Try.func83.trans (congrArg some (by kernel_rfl))
  t46 := Try.underlying87
  a46 := Try.isAgg87
  z46 := Try.sizeOf87
  v46 := Try.zeroValue87
  t51 := Try.underlying115
  a51 := Try.isAgg115
  z51 := Try.sizeOf115
  v51 := Try.zeroValue115
  t53 := Try.underlying57
  a53 := Try.isAgg57
  z53 := Try.sizeOf57
  v53 := Try.zeroValue57
  t146 := Try.underlying116
  a146 := Try.isAgg116
  z146 := Try.sizeOf116
  v146 := Try.zeroValue116
  t148 := Try.underlying118
  a148 := Try.isAgg118
  z148 := Try.sizeOf118
  v148 := Try.zeroValue118 }
open Go.RowKit Go.Lib in
theorem Try.bits_Mul (x y : Nat) (hx : x < 18446744073709551616) (hy : y < 18446744073709551616) (w : World) :
    Calls Try.prog 76 #[.int .u64 x, .int .u64 y] w fun e w' => e = .returned (.tuple #[.int .u64 ((x * y / 18446744073709551616 : Nat) : Int), .int .u64 ((x * y % 18446744073709551616 : Nat) : Int)]) ∧ w' = w := Any.bits_Mul Try.lays212 x y hx hy w
end Go.Proofs
end
section
namespace Go.Proofs.Ytmhpbilkocnlnaa.Rep
open Go.Shelf Go.RowKit Go.Proofs
set_option linter.unusedVariables false
set_option linter.unusedSimpArgs false
abbrev TB : TypeId := 107
abbrev TU : TypeId := 5
theorem size_builder : (Try.prog.info? TB).map (·.size) = some 2 := by kernel_rfl
theorem lies_builder : liesAt Try.prog Try.prog.depth TB (2 / Try.prog.cellsOf TB) 0 TB 1 = true := by kernel_rfl
theorem info_byte : (Try.prog.info? TU).map (fun i => (i.zero, i.size, i.bytes)) = some (some (.int .u8 0), 1, 1) := by kernel_rfl
theorem cells_byte : Try.prog.cellsOf TU = 1 := by kernel_rfl
theorem ne_bu : TB ≠ TU := by decide
theorem mixed : Try.prog.follows .mixedOrders = true := by kernel_rfl
set_option maxHeartbeats 1000000 in
set_option maxRecDepth 100000 in
theorem check_used (b : Nat) (w : World) (h0 : w.cell? ⟨b, 0, none⟩ = some (.pointer (some ⟨b, 0, none⟩))) :
    Calls Try.prog 85 #[.pointer (some ⟨b, 0, none⟩)] w fun e w' => e = .returned (.tuple #[]) ∧ w' = w := by
  obtain ⟨j, hj, _⟩ := Option.map_eq_some_iff.1 size_builder
  go_enter Try.func85, Try.ntmps85
  go_wp2
  rw [Lib.run_neq_ptr_same w _ Try.underlying105 hj]
  go_wp2
  go_end0
  exact ⟨rfl, rfl⟩
set_option maxHeartbeats 1000000 in
set_option maxRecDepth 100000 in
theorem check_fresh (b : Nat) (w : World) (h0 : w.cell? ⟨b, 0, none⟩ = some (.pointer none)) (hsh : w.shape? b = some (TB, 2)) (hfz : w.frozen? ⟨b, 0, none⟩ = false) :
    Calls Try.prog 85 #[.pointer (some ⟨b, 0, none⟩)] w fun e w' => e = .returned (.tuple #[]) ∧ w' = w.setCell ⟨b, 0, none⟩ (.pointer (some ⟨b, 0, none⟩)) := by
  obtain ⟨j, hj, hjs⟩ := Option.map_eq_some_iff.1 size_builder
  go_enter Try.func85, Try.ntmps85
  go_wp2
  rw [Lib.run_to_unsafe w ⟨b, 0, none⟩ Try.underlying105 Try.underlying121 hj (by rw [hjs]; decide) hsh (Nat.zero_lt_succ 1)]
  simp only [Result.andThen]
  rw [Oper.upon_value]
  go_wp2
  rw [run_callFunc_extern Try.func87 (by kernel_rfl) (by kernel_rfl) (by kernel_rfl) (e := Extern.AbiNoEscape.same) (by kernel_rfl)]
  rw [Lib.run_noEscape]
  simp only [Result.andThen]
  rw [Oper.upon_value]
  go_wp2
  rw [Lib.run_from_unsafe w ⟨b, 0, none⟩ Try.underlying121 Try.underlying105 hj hsh lies_builder]
  simp only [Result.andThen]
  rw [Oper.upon_value]
  go_wp2
  go_end0
  exact ⟨rfl, rfl⟩
theorem check (B b : Nat) (bs : List Value) (w : World) (h : Lib.IsBuilderF TB TU B b bs w) :
    Calls Try.prog 85 #[.pointer (some ⟨b, 0, none⟩)] w fun e w' => e = .returned (.tuple #[]) ∧ (Lib.BuilderAtF TB TU B b (.pointer (some ⟨b, 0, none⟩)) bs w' ∧ Below B w w') := by
  rcases h with h | h
  · refine (check_fresh b w h.cell0 h.shape h.frozen0).mono ?_
    rintro e w' ⟨rfl, rfl⟩
    exact ⟨rfl, h.used _, (Below.refl B w).setCell (p := ⟨b, 0, none⟩) h.1 _⟩
  · refine (check_used b w h.cell0).mono ?_
    rintro e w' ⟨rfl, rfl⟩
    exact ⟨rfl, h, Below.refl B _⟩
theorem atF {B b : Nat} {bs : List Value} {w : World} (h : Lib.IsBuilderF TB TU B b bs w) : ∃ p, (p = .pointer none ∨ p = .pointer (some ⟨b, 0, none⟩)) ∧ Lib.BuilderAtF TB TU B b p bs w := by
  rcases h with h | h
  · exact ⟨_, .inl rfl, h⟩
  · exact ⟨_, .inr rfl, h⟩
set_option maxHeartbeats 1000000 in
set_option maxRecDepth 100000 in
theorem len (B b : Nat) (bs : List Value) (w : World) (h : Lib.IsBuilderF TB TU B b bs w) :
    Calls Try.prog 80 #[.pointer (some ⟨b, 0, none⟩)] w fun e w' => e = .returned (.int .i64 bs.length) ∧ w' = w := by
  obtain ⟨p, _, hB, v, hbk, hown, hne⟩ := atF h
  obtain ⟨ao, cap, rfl⟩ : ∃ ao cap, v = .slice ao bs.length cap := by
    rcases hown.2 with ⟨hv, h0⟩ | ⟨g, cap, cur, fz, hv, _⟩
    · exact ⟨none, 0, by rw [hv, h0]⟩
    · exact ⟨_, _, hv⟩
  have c1 : w.cell? ⟨b, 1, none⟩ = some (.slice ao bs.length cap) := by rw [Lib.cell_of_heap hbk]; rfl
  go_enter Try.func80, Try.ntmps80
  go_wp2
  go_ret
  exact ⟨rfl, rfl⟩
set_option maxHeartbeats 2000000 in
set_option maxRecDepth 100000 in
theorem write (B b : Nat) (bs : List Value) (s : ByteArray) (w : World) (h : Lib.IsBuilderF TB TU B b bs w) (hlen : bs.length + s.size ≤ 140737488355328) (hBw : B ≤ w.heap.size) :
    Calls Try.prog 79 #[.pointer (some ⟨b, 0, none⟩), .string s] w fun e w' => e = .returned (.tuple #[.int .i64 s.size, .nilIface]) ∧ (Lib.BuilderAtF TB TU B b (.pointer (some ⟨b, 0, none⟩)) (bs ++ Lib.strCells s) w' ∧ Below B w w') := by
  obtain ⟨i0, hi, hz0, hz1, hz2⟩ := info_parts info_byte
  have hc := check B b bs w h
  go_enter Try.func79, Try.ntmps79
  go_wp2_with (go_at_call 85; refine hc.mono ?_)
  rintro e w1 ⟨rfl, h1, hb1⟩
  obtain ⟨hB, v, hbk, hown, hne⟩ := h1
  have c0 : w1.cell? ⟨b, 0, none⟩ = some (.pointer (some ⟨b, 0, none⟩)) := by rw [Lib.cell_of_heap hbk]; rfl
  have c1 : w1.cell? ⟨b, 1, none⟩ = some v := by rw [Lib.cell_of_heap hbk]; rfl
  go_wp2_with (at_builtin; refine Lib.wpList_append_own_stringF _ rfl _ _ 22 9 rfl B TU i0 Try.underlying22 Try.underlying9 hi hz0 hz1 hz2 _ _ _ rfl hown s rfl ?c3 ?c4 ?c5 ?_)
  case c3 => unfold maxLen; omega
  case c4 => omega
  case c5 => have := hb1.size; omega
  intro v' w2 hown' hgrow _
  have hlt : b < w1.heap.size := by
    rcases Nat.lt_or_ge b w1.heap.size with h' | h'
    · exact h'
    · simp [Array.getElem?_eq_none h'] at hbk
  have hb2 : w2.heap[b]? = some (.cells #[.pointer (some ⟨b, 0, none⟩), v] TB (0, 0)) := by
    rw [hgrow.block b hlt (fun e => hne e.symm)]
    exact hbk
  have d0 : w2.cell? ⟨b, 0, none⟩ = some (.pointer (some ⟨b, 0, none⟩)) := by rw [Lib.cell_of_heap hb2]; rfl
  have d1 : w2.cell? ⟨b, 1, none⟩ = some v := by rw [Lib.cell_of_heap hb2]; rfl
  have f1 : w2.frozen? ⟨b, 1, none⟩ = false := Lib.frozen_of_heap hb2 1
  obtain ⟨ao, n', cap, rfl⟩ : ∃ ao n' cap, v' = .slice ao n' cap := by
    rcases hown'.2 with ⟨hv, _⟩ | ⟨g, cap, cur, fz, hv, _⟩
    · exact ⟨_, _, _, hv⟩
    · exact ⟨_, _, _, hv⟩
  go_wp2
  go_ret2
  refine ⟨rfl, ?_, ?_⟩
  · exact Lib.BuilderAtF.put (T := TB) (e := TU) hB hb2 (bs' := bs ++ Lib.strCells s) (by simpa [Lib.strCells_length] using hown') ne_bu
  · exact (hb1.grown hgrow (by have := hb1.size; omega) (fun k hk => (hown.lt k hk).1)).setCell (p := ⟨b, 1, none⟩) hB _
set_option maxHeartbeats 1000000 in
set_option maxRecDepth 100000 in
theorem str (B b : Nat) (l : List UInt8) (w : World) (h : Lib.IsBuilderF TB TU B b (Lib.byteCells l) w) (h0 : l ≠ []) :
    Calls Try.prog 81 #[.pointer (some ⟨b, 0, none⟩)] w fun e w' => e = .returned (.string ⟨l.toArray⟩) ∧ (Lib.IsBuilderF TB TU B b (Lib.byteCells l) w' ∧ Below B w w') := by
  obtain ⟨p, hp, hAt⟩ := atF h
  obtain ⟨hB, v, hbk, hown, hne⟩ := hAt
  have hl0 : l.length ≠ 0 := by simpa using h0
  rw [Lib.byteCells_length] at hown
  obtain ⟨g, cap, cur, fz, rfl, hbg, hg, hfz, hnc, hcm, hcs, htake⟩ : ∃ g cap cur fz, v = .slice (some ⟨g, 0, none⟩) l.length cap ∧ B ≤ g ∧ w.heap[g]? = some (.cells cur TU fz) ∧ fz.2 ≤ l.length * 1 ∧ l.length ≤ cap ∧ cap ≤ maxLen ∧ cur.size = cap * 1 ∧ cur.toList.take (l.length * 1) = Lib.byteCells l := by
    rcases hown.2 with ⟨_, hz⟩ | ⟨g, cap, cur, fz, hv, r⟩
    · exact absurd hz hl0
    · exact ⟨g, cap, cur, fz, hv, r⟩
  have c1 : w.drew.cell? ⟨b, 1, none⟩ = some (.slice (some ⟨g, 0, none⟩) l.length cap) := by
    have : w.drew.heap[b]? = some (.cells #[p, .slice (some ⟨g, 0, none⟩) l.length cap] TB (0, 0)) := hbk
    rw [Lib.cell_of_heap this]; rfl
  have hSD : (Builtin.unsafeSliceData_ #[22] 120 #[.slice (some ⟨g, 0, none⟩) l.length cap]).run Try.prog w.drew = .ok (.pointer (some ⟨g, 0, none⟩)) w.drew :=
    Lib.run_unsafeSliceData_row _ _ _ _ _ _ (by omega)
  have hUS : (Builtin.unsafeString_ #[120, 3] 9 #[.pointer (some ⟨g, 0, none⟩), .int .i64 l.length]).run Try.prog w.drew = .ok (.string ⟨l.toArray⟩) (w.drew.freeze ⟨g, 0, none⟩ l.length) := by
    refine Lib.run_unsafeString_row w.drew 120 3 9 TU Try.underlying120 cells_byte g cur.size (by have hg' : w.drew.heap[g]? = some (.cells cur TU fz) := hg; simp [World.shape?, hg']) l h0 (by omega) (by unfold maxLen at hcm; omega) ?_
    intro j x hx
    exact hown.cells (g := g) rfl j (.int .u8 x.toNat) (by simp [Lib.byteCells, hx])
  have hkeep : Lib.IsBuilderF TB TU B b (Lib.byteCells l) (w.drew.freeze ⟨g, 0, none⟩ l.length) := by
    have hA : Lib.BuilderAtF TB TU B b p (Lib.byteCells l) w.drew := ⟨hB, _, hbk, by rw [Lib.byteCells_length]; exact hown, hne⟩
    have hF := hA.froze (g := g) (cap := cap) (by rw [Lib.byteCells_length]; exact c1)
    rw [Lib.byteCells_length] at hF
    rcases hp with rfl | rfl
    · exact .inl hF
    · exact .inr hF
  have mixed := mixed
  go_enter Try.func81, Try.ntmps81
  go_wp2
  go_region_o
  all_goals (go_wp2; go_ret; exact ⟨rfl, hkeep, Lib.below_freeze (Below.drew (Below.refl B w)) (p := ⟨g, 0, none⟩) hbg _⟩)
set_option maxHeartbeats 1000000 in
theorem litePrefix (s p : ByteArray) (w : World) :
    Calls Try.prog 84 #[.string s, .string p] w fun e w' => e = .returned (.bool (Lib.hasPrefix s.data.toList p.data.toList)) ∧ w' = w := by
  rw [← Lib.hasPrefix_of_take, ← Lib.size_eq, ← Lib.size_eq]
  go_enter Try.func84, Try.ntmps84
  go_wp2
  · rename_i h
    go_ret
    refine ⟨?_, rfl⟩
    show Ending.returned (Value.bool ((s.extract 0 p.size).toList == p.toList)) = _
    rw [Lib.extract_toList, Lib.toList_data]
    simp [h]
  · rename_i h
    go_ret
    refine ⟨?_, rfl⟩
    show Ending.returned (Value.bool false) = _
    simp [h]
set_option maxHeartbeats 1000000 in
theorem hasPrefix (s p : ByteArray) (w : World) :
    Calls Try.prog 77 #[.string s, .string p] w fun e w' => e = .returned (.bool (Lib.hasPrefix s.data.toList p.data.toList)) ∧ w' = w := by
  have hc := litePrefix s p w
  go_enter Try.func77, Try.ntmps77
  go_wp2_with (go_at_call 84; refine hc.mono ?_; rintro e w' ⟨rfl, rfl⟩)
  go_ret
  exact ⟨rfl, rfl⟩
theorem min3 {P : Program} {w : World} (ts : Array TypeId) (t : TypeId) (x y z : Int) :
    (Builtin.min_ ts t #[.int .i64 x, .int .i64 y, .int .i64 z]).run P w = .ok (.int .i64 (min (min x y) z)) w := by
  simp [Builtin.min_, Builtin.min2]
  repeat' split
  all_goals (congr 2; omega)
set_option maxHeartbeats 1600000 in
set_option maxRecDepth 1000000 in
theorem main (s : ByteArray) (c : Nat) (w : World) (hc2 : 2 ≤ c) (hlen : s.size * c ≤ 8192) (h0 : 0 < s.size) :
    Calls Try.prog 72 #[.string s, .int .i64 c] w fun e w' => e = .returned (.string ⟨(Lib.repeatL s.data.toList c).toArray⟩) ∧ Below w.heap.size w w' := by
  have hc : c ≤ 8192 := Nat.le_trans (Nat.le_mul_of_pos_left _ h0) hlen
  have hsz : s.size ≤ 8192 := Nat.le_trans (Nat.le_mul_of_pos_right _ (by omega)) hlen
  have hMul := Try.bits_Mul s.size c (by omega) (by omega) w
  rw [Nat.div_eq_of_lt (by omega : s.size * c < 18446744073709551616), Nat.mod_eq_of_lt (by omega : s.size * c < 18446744073709551616)] at hMul
  obtain ⟨n, hn⟩ : ∃ n, s.size * c = n := ⟨_, rfl⟩
  rw [hn] at hMul hlen
  have HN : Aside (s.size * c = n) := hn
  clear hn
  have mixed := mixed
  go_enter Try.func72, Try.ntmps72
  go_upto_block 1 with (go_at_call 76; refine hMul.mono ?_; rintro e w' ⟨rfl, hw⟩; rw [hw])
  clear hMul
  go_cut [] (fun wx => w = wx)
  case first =>
    go_upto_if 43 with fail
    go_cut [43] (fun s43 wx => w = wx ∧ ∃ B : Bool, s43 = .bool B)
    case first =>
      go_wp2
      all_goals (go_meet; exact ⟨rfl, _, rfl⟩)
    case rest =>
      obtain ⟨rfl, B, rfl⟩ := hcut
      cases B
      · go_wp2
        go_meet
        rfl
      · go_wp2_with (go_at_call 77; refine (hasPrefix _ _ _).mono ?_; rintro e w' ⟨rfl, hw⟩; rw [hw])
        all_goals (first
          | (go_meet; rfl)
          | (go_ret; first
              | exact ⟨by rw [Lib.fast_ok _ 32 128 (by rfl) s c n HN.out (by omega) (by assumption)] <;> rfl, Below.refl _ _⟩
              | exact ⟨by rw [Lib.fast_ok _ 45 128 (by rfl) s c n HN.out (by omega) (by assumption)] <;> rfl, Below.refl _ _⟩
              | exact ⟨by rw [Lib.fast_ok _ 48 64 (by rfl) s c n HN.out (by omega) (by assumption)] <;> rfl, Below.refl _ _⟩
              | exact ⟨by rw [Lib.fast_ok _ 61 128 (by rfl) s c n HN.out (by omega) (by assumption)] <;> rfl, Below.refl _ _⟩
              | exact ⟨by rw [Lib.fast_ok _ 9 64 (by rfl) s c n HN.out (by omega) (by assumption)] <;> rfl, Below.refl _ _⟩))
  case rest =>
    obtain rfl := hcut
    have b0 : Below w.heap.size w (w.alloc (.cells #[.pointer none, .slice none 0 0] TB)) := (Below.refl _ w).alloc (Nat.le_refl _) _
    have cG := Try.Builder_Grow_fresh w.heap.size w.heap.size n (w.alloc (.cells #[.pointer none, .slice none 0 0] TB)) (Nat.le_refl _) (heap_alloc_new w _) b0.size (by omega)
    go_wp2_with (go_at_call 78; refine cG.mono ?_; rintro e W1 ⟨rfl, h1, b1⟩)
    clear cG
    have cW := write w.heap.size w.heap.size [] s W1 (Lib.IsBuilderF.of (Or.inr h1)) (by simp; omega) (Nat.le_trans b0.size b1.size)
    go_wp2_with (go_at_call 79; refine cW.mono ?_; rintro e W2 ⟨rfl, h2, b2⟩)
    clear cW h1
    have h2' : Lib.IsBuilderF TB TU w.heap.size w.heap.size (Lib.byteCells (Lib.repeatL s.data.toList 1)) W2 := by
      rw [List.nil_append, Lib.strCells_eq] at h2
      rw [Lib.repeatL_one]
      exact Or.inr h2
    have b02 : Below w.heap.size w W2 := b0.trans (b1.trans b2)
    clear h2 b0 b1 b2
    go_loopg [] (c - 1) (fun g wx => ∃ q : Nat, 1 ≤ q ∧ q + g = c ∧ Lib.IsBuilderF TB TU w.heap.size w.heap.size (Lib.byteCells (Lib.repeatL s.data.toList q)) wx ∧ Below w.heap.size w wx)
    case atStart => exact ⟨1, Nat.le_refl _, by omega, h2', b02⟩
    case round =>
      obtain ⟨q, hq1, hqg, hB, hbx⟩ := hrel
      have hnc : c * s.size = n := by rw [Nat.mul_comm]; exact HN.out
      obtain ⟨Q, hQ⟩ : ∃ Q, q * s.size = Q := ⟨_, rfl⟩
      obtain ⟨S, hS⟩ : ∃ S : ByteArray, (⟨(Lib.repeatL s.data.toList q).toArray⟩ : ByteArray) = S := ⟨_, rfl⟩
      have hSd : S.data.toList = Lib.repeatL s.data.toList q := by rw [← hS]
      have hlq : (Lib.byteCells (Lib.repeatL s.data.toList q)).length = Q := by rw [Lib.byteCells_length, Lib.repeatL_length, ← Lib.size_eq, hQ]
      have hSz : S.size = Q := by rw [Lib.size_eq, hSd, Lib.repeatL_length, ← Lib.size_eq, hQ]
      have hne : Lib.repeatL s.data.toList q ≠ [] := by
        intro h
        have hl := Lib.repeatL_length s.data.toList q
        rw [h, ← Lib.size_eq] at hl
        have := Nat.mul_pos (show 0 < q by omega) h0
        simp at hl
        omega
      have cLen := len w.heap.size w.heap.size _ wr hB
      rw [hlq] at cLen
      have cStr := str w.heap.size w.heap.size (Lib.repeatL s.data.toList q) wr hB hne
      rw [hS] at cStr
      cases gk with
      | zero =>
        obtain rfl : q = c := by omega
        have hQn : ¬ ((Q : Int) < (n : Int)) := by omega
        go_wp2_with (first
          | (go_at_call 80; refine cLen.mono ?_; rintro e w' ⟨rfl, hw⟩; rw [hw])
          | (go_at_call 81; refine cStr.mono ?_; rintro e W3 ⟨rfl, h3, b3⟩))
        go_ret
        exact ⟨by rw [hS] <;> rfl, hbx.trans b3⟩
      | succ g =>
        have hqc : q < c := by omega
        obtain ⟨k, hk1, hkq, hkc, hmin⟩ := Lib.chunk_ok c q c s.size hq1 hqc (by omega)
        rw [hnc, hQ] at hmin
        obtain ⟨CH, hCH⟩ : ∃ CH, k * s.size = CH := ⟨_, rfl⟩
        rw [hCH] at hmin
        have hsum : Q + CH ≤ n := by
          have h1 : (q + k) * s.size ≤ c * s.size := Nat.mul_le_mul_right _ hkc
          rw [Nat.add_mul, hQ, hCH, hnc] at h1
          exact h1
        have hCH1 : 1 ≤ CH := by
          rw [← hCH]
          exact Nat.mul_pos hk1 h0
        have hCHQ : CH ≤ Q := by rw [← hCH, ← hQ]; exact Nat.mul_le_mul_right _ hkq
        have hQn : (Q : Int) < (n : Int) := by omega
        have hmin3 : ∀ (ts : Array TypeId) (t : TypeId) (W : World), (Builtin.min_ ts t #[.int .i64 ((n : Int) - (Q : Int)), .int .i64 (Q : Int), .int .i64 (n : Int)]).run Try.prog W = .ok (.int .i64 (CH : Int)) W := fun ts t W => by
          rw [min3]
          congr 2
          omega
        clear hmin
        go_wp2_with (first
          | (go_at_call 80; refine cLen.mono ?_; rintro e w' ⟨rfl, hw⟩; rw [hw])
          | (go_at_call 81; refine cStr.mono ?_; rintro e W3 ⟨rfl, h3, b3⟩))
        have cWr := write w.heap.size w.heap.size _ (S.extract 0 CH) W3 h3 (by
          rw [hlq, Lib.size_eq, Lib.extract_data, hSd]
          simp only [List.drop_zero, Nat.sub_zero, List.length_take, Lib.repeatL_length]
          omega) (Nat.le_trans hbx.size b3.size)
        go_wp2_with (go_at_call 79; refine cWr.mono ?_; rintro e W4 ⟨rfl, h4, b4⟩)
        go_roundg (c - (q + k))
        case measure => omega
        case rel =>
          refine ⟨q + k, by omega, by omega, Or.inr ?_, hbx.trans (b3.trans b4)⟩
          rw [Lib.strCells_eq, ← Lib.byteCells_append, Lib.extract_data, hSd] at h4
          simp only [List.drop_zero, Nat.sub_zero] at h4
          rw [← hCH, Lib.size_eq, Lib.step_ok _ _ _ hkq] at h4
          exact h4
set_option maxRecDepth 1000000 in
theorem zero (s : ByteArray) (w : World) : Calls Try.prog 72 #[.string s, .int .i64 0] w fun e w' => e = .returned (.string ⟨#[]⟩) ∧ w' = w := by
  have mixed := mixed
  go_enter Try.func72, Try.ntmps72
  go_wp2
  go_ret
  exact ⟨rfl, rfl⟩
set_option maxRecDepth 1000000 in
theorem one (s : ByteArray) (w : World) : Calls Try.prog 72 #[.string s, .int .i64 1] w fun e w' => e = .returned (.string s) ∧ w' = w := by
  have mixed := mixed
  go_enter Try.func72, Try.ntmps72
  go_wp2
  go_ret
  exact ⟨rfl, rfl⟩
set_option maxHeartbeats 800000 in
set_option maxRecDepth 1000000 in
theorem none (s : ByteArray) (c : Nat) (w : World) (hc2 : 2 ≤ c) (hc : c ≤ 9223372036854775807) (h0 : s.size = 0) :
    Calls Try.prog 72 #[.string s, .int .i64 c] w fun e w' => e = .returned (.string ⟨#[]⟩) ∧ w' = w := by
  have hMul := Try.bits_Mul s.size c (by omega) (by omega) w
  rw [h0, Nat.zero_mul] at hMul
  have mixed := mixed
  go_enter Try.func72, Try.ntmps72
  go_wp2_with (go_at_call 76; refine hMul.mono ?_; rintro e w' ⟨rfl, hw⟩; rw [hw])
  go_ret
  exact ⟨rfl, rfl⟩
def val (s : ByteArray) (c : Int) : ByteArray := ⟨(Lib.repeatL s.data.toList c.toNat).toArray⟩
theorem calls (s : ByteArray) (c : Int) (w : World) (hc : 0 ≤ c) (hm : c ≤ 9223372036854775807) (hlen : s.size * c.toNat ≤ 8192) :
    Calls Try.prog 72 #[.string s, .int .i64 c] w fun e w' => e = .returned (.string (val s c)) ∧ Below w.heap.size w w' := by
  obtain ⟨n, rfl⟩ : ∃ n : Nat, c = (n : Int) := ⟨c.toNat, by omega⟩
  rw [Int.toNat_natCast] at hlen
  unfold val
  rw [Int.toNat_natCast]
  rcases (show n = 0 ∨ n = 1 ∨ 2 ≤ n by omega) with rfl | rfl | h2
  · refine (zero s w).mono ?_
    rintro e w' ⟨rfl, rfl⟩
    exact ⟨rfl, Below.refl _ _⟩
  · refine (one s w).mono ?_
    rintro e w' ⟨rfl, rfl⟩
    exact ⟨by simp [Lib.repeatL], Below.refl _ _⟩
  · rcases (show s.size = 0 ∨ 0 < s.size by omega) with h0 | h0
    · refine (none s n w h2 (by omega) h0).mono ?_
      rintro e w' ⟨rfl, rfl⟩
      refine ⟨?_, Below.refl _ _⟩
      have hl := Lib.repeatL_length s.data.toList n
      rw [← Lib.size_eq, h0, Nat.mul_zero] at hl
      rw [List.eq_nil_of_length_eq_zero hl]
    · exact main s n w h2 hlen h0
end Go.Proofs.Ytmhpbilkocnlnaa.Rep
end
section
namespace Go.Proofs.Ytmhpbilkocnlnaa.Q
open Go.Proofs.YtmhpbilkocnlnaaW.Ext
open Go.RowKit Go.Proofs.YtmhpbilkocnlnaaW.PrintWords Go.Proofs.YtmhpbilkocnlnaaW.PrintLast Go.Proofs.YtmhpbilkocnlnaaW.PrintMore
attribute [local go_sem] max2_int min2_int max_two min_two max_three min_three max_four min_four   -- for this text's walks alone
set_option linter.unusedVariables false
set_option linter.unusedSimpArgs false
def errW : Option Int → Value
  | none => .nilIface
  | some c => .iface 0 (.int .i64 c)
theorem errW_none : errW none = .nilIface := rfl
theorem errW_some (c : Int) : errW (some c) = .iface 0 (.int .i64 c) := rfl
theorem info5 : (Try.prog.info? 5).map (fun i => (i.zero, i.size, i.bytes)) = some (some (.int .u8 0), 1, 1) := by kernel_rfl
theorem info25 : (Try.prog.info? 25).map (fun i => (i.zero, i.size, i.bytes)) = some (some (.agg #[(.string ⟨#[]⟩), (.string ⟨#[]⟩)]), 2, 32) := by kernel_rfl
theorem info50 : (Try.prog.info? 50).map (fun i => (i.zero, i.size, i.bytes)) = some (some (.agg #[(.string ⟨#[]⟩), (.string ⟨#[]⟩), (.string ⟨#[]⟩), (.string ⟨#[]⟩), (.string ⟨#[]⟩), (.string ⟨#[]⟩)]), 6, 96) := by kernel_rfl
theorem info63 : (Try.prog.info? 63).map (fun i => (i.zero, i.size, i.bytes)) = some (some (.agg #[(.int .i64 0), (.int .i64 0)]), 2, 16) := by kernel_rfl
structure S63 where
  f0 : Int
  f1 : Int
def z63 : S63 := ⟨(0 : Int), (0 : Int)⟩
def k63 : Kd S63 := Kd.iso (Kd.pair (Kd.int .i64) (Kd.int .i64)) (fun x : S63 => (x.f0, x.f1))
theorem k63_open {w : World} {x : S63} {cs : List Value} (h : k63.K w x cs) : cs = [.int .i64 x.f0, .int .i64 x.f1] := by
  obtain ⟨_, _, rfl, rfl, rfl⟩ := h
  exact rfl
theorem k63_mkM (w : World) (base : Nat) (ok : Nat → Prop) (x : S63)  : k63.M w base ok x [.int .i64 x.f0, .int .i64 x.f1] := ⟨[.int .i64 x.f0], [.int .i64 x.f1], rfl, rfl, rfl⟩
def rd_T63 (xs : List S63) (i : Int) : S63 := xs.getD i.toNat z63
theorem at_T63 {w : World} {A : Option Addr} {n : Nat} {xs : List S63} (h : Kd.C k63 w A n xs) (i : Int) (h0 : 0 ≤ i) (h1 : i < n) : ∃ ad , A = some ad ∧ w.cell? (ad.add (i.toNat * 2)) = some (.int .i64 (rd_T63 xs i).f0) ∧ w.cell? ⟨(ad.add (i.toNat * 2)).block, (ad.add (i.toNat * 2)).off + 1, none⟩ = some (.int .i64 (rd_T63 xs i).f1) := by
  obtain ⟨ad, c, e, _, hK, hc0⟩ := Kd.C_get h z63 i h0 h1
  have hc : ∀ j u, c[j]? = some u → w.cell? (ad.add (i.toNat * 2 + j)) = some u := hc0
  obtain rfl := k63_open hK
  exact ⟨ad, e, hc 0 _ rfl, by rw [← add_field _ _ 1 (by omega)]; exact hc 1 _ rfl⟩
structure S25 where
  f0 : ByteArray
  f1 : ByteArray
def z25 : S25 := ⟨(⟨#[]⟩ : ByteArray), (⟨#[]⟩ : ByteArray)⟩
def k25 : Kd S25 := Kd.iso (Kd.pair Kd.string Kd.string) (fun x : S25 => (x.f0, x.f1))
theorem k25_open {w : World} {x : S25} {cs : List Value} (h : k25.K w x cs) : cs = [.string x.f0, .string x.f1] := by
  obtain ⟨_, _, rfl, rfl, rfl⟩ := h
  exact rfl
theorem k25_mk (w : World) (x : S25)  : k25.K w x [.string x.f0, .string x.f1] := ⟨[.string x.f0], [.string x.f1], rfl, rfl, rfl⟩
theorem k25_mkM (w : World) (base : Nat) (ok : Nat → Prop) (x : S25)  : k25.M w base ok x [.string x.f0, .string x.f1] := ⟨[.string x.f0], [.string x.f1], rfl, rfl, rfl⟩
def rd_T25 (xs : List S25) (i : Int) : S25 := xs.getD i.toNat z25
theorem at_T25 {w : World} {A : Option Addr} {n : Nat} {xs : List S25} (h : Kd.C k25 w A n xs) (i : Int) (h0 : 0 ≤ i) (h1 : i < n) : ∃ ad , A = some ad ∧ w.cell? (ad.add (i.toNat * 2)) = some (.string (rd_T25 xs i).f0) ∧ w.cell? ⟨(ad.add (i.toNat * 2)).block, (ad.add (i.toNat * 2)).off + 1, none⟩ = some (.string (rd_T25 xs i).f1) := by
  obtain ⟨ad, c, e, _, hK, hc0⟩ := Kd.C_get h z25 i h0 h1
  have hc : ∀ j u, c[j]? = some u → w.cell? (ad.add (i.toNat * 2 + j)) = some u := hc0
  obtain rfl := k25_open hK
  exact ⟨ad, e, hc 0 _ rfl, by rw [← add_field _ _ 1 (by omega)]; exact hc 1 _ rfl⟩
structure S51 where
  f0 : S25
  f1 : S25
  f2 : S25
def z51 : S51 := ⟨z25, z25, z25⟩
structure S50 where
  f0 : S25
  f1 : S25
  f2 : S25
def z50 : S50 := ⟨z25, z25, z25⟩
def k50 : Kd S50 := Kd.iso (Kd.pair k25 (Kd.pair k25 k25)) (fun x : S50 => (x.f0, x.f1, x.f2))
theorem k50_open {w : World} {x : S50} {cs : List Value} (h : k50.K w x cs) : cs = [.string x.f0.f0, .string x.f0.f1, .string x.f1.f0, .string x.f1.f1, .string x.f2.f0, .string x.f2.f1] := by
  obtain ⟨_, _, rfl, s0, ⟨_, _, rfl, s2, s4⟩⟩ := h
  obtain rfl := k25_open s0
  obtain rfl := k25_open s2
  obtain rfl := k25_open s4
  exact rfl
theorem k50_mkM (w : World) (base : Nat) (ok : Nat → Prop) (x : S50)  : k50.M w base ok x [.string x.f0.f0, .string x.f0.f1, .string x.f1.f0, .string x.f1.f1, .string x.f2.f0, .string x.f2.f1] := ⟨[.string x.f0.f0, .string x.f0.f1], [.string x.f1.f0, .string x.f1.f1, .string x.f2.f0, .string x.f2.f1], rfl, (k25_mkM w base ok x.f0 ), ⟨[.string x.f1.f0, .string x.f1.f1], [.string x.f2.f0, .string x.f2.f1], rfl, (k25_mkM w base ok x.f1 ), (k25_mkM w base ok x.f2 )⟩⟩
def rd_T50 (xs : List S50) (i : Int) : S50 := xs.getD i.toNat z50
theorem at_T50 {w : World} {A : Option Addr} {n : Nat} {xs : List S50} (h : Kd.C k50 w A n xs) (i : Int) (h0 : 0 ≤ i) (h1 : i < n) : ∃ ad , A = some ad ∧ w.cell? (ad.add (i.toNat * 6)) = some (.string (rd_T50 xs i).f0.f0) ∧ w.cell? ⟨(ad.add (i.toNat * 6)).block, (ad.add (i.toNat * 6)).off + 1, none⟩ = some (.string (rd_T50 xs i).f0.f1) ∧ w.cell? ⟨(ad.add (i.toNat * 6)).block, (ad.add (i.toNat * 6)).off + 2, none⟩ = some (.string (rd_T50 xs i).f1.f0) ∧ w.cell? ⟨(ad.add (i.toNat * 6)).block, (ad.add (i.toNat * 6)).off + 3, none⟩ = some (.string (rd_T50 xs i).f1.f1) ∧ w.cell? ⟨(ad.add (i.toNat * 6)).block, (ad.add (i.toNat * 6)).off + 4, none⟩ = some (.string (rd_T50 xs i).f2.f0) ∧ w.cell? ⟨(ad.add (i.toNat * 6)).block, (ad.add (i.toNat * 6)).off + 5, none⟩ = some (.string (rd_T50 xs i).f2.f1) := by
  obtain ⟨ad, c, e, _, hK, hc0⟩ := Kd.C_get h z50 i h0 h1
  have hc : ∀ j u, c[j]? = some u → w.cell? (ad.add (i.toNat * 6 + j)) = some u := hc0
  obtain rfl := k50_open hK
  exact ⟨ad, e, hc 0 _ rfl, by rw [← add_field _ _ 1 (by omega)]; exact hc 1 _ rfl, by rw [← add_field _ _ 2 (by omega)]; exact hc 2 _ rfl, by rw [← add_field _ _ 3 (by omega)]; exact hc 3 _ rfl, by rw [← add_field _ _ 4 (by omega)]; exact hc 4 _ rfl, by rw [← add_field _ _ 5 (by omega)]; exact hc 5 _ rfl⟩
abbrev zN := @pw_below_drewN
abbrev zD := @below_drew1
abbrev zA := @below_alloc
abbrev zS := @below_set
abbrev yN := @blk_drewN
abbrev yD := @blk_drew
abbrev yA := @blk_alloc
abbrev kS := @KeepBut.set_
abbrev kN := @keep_drewN
abbrev kD := @keep_drew
abbrev kA := @keep_alloc
abbrev rA := @Kd.R_alloc
abbrev rN := @Kd.R_drewN
abbrev rD := @Kd.R_drew
abbrev cA := @Kd.C_alloc
abbrev cN := @Kd.C_drewN
abbrev cD := @Kd.C_drew
abbrev sI := @List.setIfInBounds_toArray
abbrev sZ := @List.set_cons_zero
abbrev sS := @List.set_cons_succ
abbrev sM := @List.map_toArray
abbrev sC := @List.map_cons
abbrev sN := @List.map_nil
abbrev aM {p : Prop} (h : p) : Aside0 p := ⟨h⟩
abbrev tT := true
abbrev fF := false
class Sf (W V : World) : Prop where k : Below W.heap.size W V
instance Sf.r (W : World) : Sf W W := ⟨Below.refl _ _⟩
instance Sf.n (W V : World) (n : Nat) [h : Sf W V] : Sf W (V.drewN n) := ⟨pw_below_drewN h.k n⟩
instance Sf.d (W V : World) [h : Sf W V] : Sf W V.drew := ⟨below_drew1 h.k⟩
instance Sf.a (W V : World) (o : Obj) [h : Sf W V] : Sf W (V.alloc o) := ⟨below_alloc h.k o⟩
class Sg (W V : World) (b : Nat) : Prop where
  s : W.heap.size ≤ V.heap.size
  k : ∀ g, g < W.heap.size → g ≠ b → V.heap[g]? = W.heap[g]?
  m : ∀ w : World, Below w.heap.size w W → w.heap.size ≤ b → Below w.heap.size w V
instance Sg.f (W V : World) (b : Nat) [h : Sf W V] : Sg W V b := ⟨h.k.size, fun g hg _ => h.k.block g hg, fun _ x _ => below_step x h.k⟩
instance Sg.w (W V : World) (b j : Nat) (v : Value) [h : Sg W V b] : Sg W (V.setCell ⟨b, j, none⟩ v) b :=
  ⟨by simpa using h.s, fun g hg hn => (Below.heap_setCell V ⟨b, j, none⟩ v g hn).trans (h.k g hg hn), fun w x hb => below_set (h.m w x hb) hb⟩
instance Sg.n (W V : World) (b n : Nat) [h : Sg W V b] : Sg W (V.drewN n) b := ⟨h.s, h.k, fun w x hb => pw_below_drewN (h.m w x hb) n⟩
instance Sg.d (W V : World) (b : Nat) [h : Sg W V b] : Sg W V.drew b := ⟨h.s, h.k, fun w x hb => below_drew1 (h.m w x hb)⟩
instance Sg.a (W V : World) (b : Nat) (o : Obj) [h : Sg W V b] : Sg W (V.alloc o) b :=
  ⟨Nat.le_trans h.s (by simp), fun g hg hn => (Below.heap_alloc V o g (Nat.lt_of_lt_of_le hg h.s)).trans (h.k g hg hn), fun w x hb => below_alloc (h.m w x hb) o⟩
section
variable {W V V2 w : World} {g b : Nat} {o : Obj}
theorem bk [s : Sf W V] (h : Aside0 (W.heap[g]? = some o)) : V.heap[g]? = some o := blk_below h.out s.k
theorem kb [s : Sf W V] (h : Aside0 (W.heap[g]? = some o)) (b : Below V.heap.size V V2) : Aside0 (V2.heap[g]? = some o) := ⟨blk_below (bk h) b⟩
theorem bb [s : Sf W V] (h : Aside0 (Below w.heap.size w W)) : Below w.heap.size w V := below_step h.out s.k
theorem bs [s : Sf W V] (h : Aside0 (Below w.heap.size w W)) (b : Below V.heap.size V V2) : Aside0 (Below w.heap.size w V2) := ⟨below_step (bb h) b⟩
theorem bg [s : Sg W V b] (h : Aside0 (Below w.heap.size w W)) (x : Aside0 (w.heap.size ≤ b)) : Below w.heap.size w V := s.m w h.out x.out
theorem wl [s : Sf W V] (e : g = V.heap.size) (h : Aside0 (Below w.heap.size w W)) : Aside0 (w.heap.size ≤ g) := ⟨e ▸ below_size (bb (V := V) h)⟩
theorem nl [s : Sf W V] (e : b = V.heap.size) (h : Aside0 (W.heap[g]? = some o)) : Aside0 (g ≠ b) := ⟨e ▸ Nat.ne_of_lt (blk_lt (bk (V := V) h))⟩
theorem nr [s : Sf W V] (e : b = V.heap.size) (h : Aside0 (W.heap[g]? = some o)) : Aside0 (b ≠ g) := ⟨(nl e h).out.symm⟩
theorem bf [s : Sg W V b] (h : Aside0 (W.heap[g]? = some o)) (x : Aside0 (g ≠ b)) : V.heap[g]? = some o := (s.k g (blk_lt h.out) x.out).trans h.out
theorem kf [s : Sg W V b] (h : Aside0 (W.heap[g]? = some o)) (x : Aside0 (g ≠ b)) (y : Below V.heap.size V V2) : Aside0 (V2.heap[g]? = some o) := ⟨blk_below (bf h x) y⟩
end
section
variable {α : Type} {d : Kd α} {e base n : Nat} {ok : Nat → Prop} {W V V2 : World} {v : Value} {xs : List α} {A : Option Addr} [s : Sf W V]
theorem rk (h : Aside0 (d.R e W base ok v xs)) : d.R e V base ok v xs := Kd.R_below h.out s.k
theorem ko (h : Aside0 (d.R e W base ok v xs)) (b : Below V.heap.size V V2) : Aside0 (d.R e V2 base ok v xs) := ⟨Kd.R_below (rk h) b⟩
theorem ck (h : Aside0 (d.C W A n xs)) : d.C V A n xs := Kd.C_below h.out s.k
end
theorem q1 {w : World} {g t : Nat} {x0 : Value} (h : Aside0 (w.heap[g]? = some (.cells #[x0] t (0, 0)))) : w.cell? ⟨g, 0, none⟩ = some x0 := (blk_cell h.out 0).trans rfl
theorem q2 {w : World} {g t : Nat} {x0 x1 : Value} (h : Aside0 (w.heap[g]? = some (.cells #[x0, x1] t (0, 0)))) : w.cell? ⟨g, 0, none⟩ = some x0 ∧ w.cell? ⟨g, 1, none⟩ = some x1 := ⟨(blk_cell h.out 0).trans rfl, (blk_cell h.out 1).trans rfl⟩
theorem q2f {w : World} {g t : Nat} {x0 x1 : Value} (h : Aside0 (w.heap[g]? = some (.cells #[x0, x1] t (0, 0)))) : w.cell? ⟨g, 0, none⟩ = some x0 ∧ w.cell? ⟨g, 1, none⟩ = some x1 ∧ w.frozen? ⟨g, 0, none⟩ = false ∧ w.frozen? ⟨g, 1, none⟩ = false := ⟨(blk_cell h.out 0).trans rfl, (blk_cell h.out 1).trans rfl, blk_frozen h.out 0, blk_frozen h.out 1⟩
theorem q3 {w : World} {g t : Nat} {x0 x1 x2 : Value} (h : Aside0 (w.heap[g]? = some (.cells #[x0, x1, x2] t (0, 0)))) : w.cell? ⟨g, 0, none⟩ = some x0 ∧ w.cell? ⟨g, 1, none⟩ = some x1 ∧ w.cell? ⟨g, 2, none⟩ = some x2 := ⟨(blk_cell h.out 0).trans rfl, (blk_cell h.out 1).trans rfl, (blk_cell h.out 2).trans rfl⟩
theorem q4 {w : World} {g t : Nat} {x0 x1 x2 x3 : Value} (h : Aside0 (w.heap[g]? = some (.cells #[x0, x1, x2, x3] t (0, 0)))) : w.cell? ⟨g, 0, none⟩ = some x0 ∧ w.cell? ⟨g, 1, none⟩ = some x1 ∧ w.cell? ⟨g, 2, none⟩ = some x2 ∧ w.cell? ⟨g, 3, none⟩ = some x3 := ⟨(blk_cell h.out 0).trans rfl, (blk_cell h.out 1).trans rfl, (blk_cell h.out 2).trans rfl, (blk_cell h.out 3).trans rfl⟩
theorem q5 {w : World} {g t : Nat} {x0 x1 x2 x3 x4 : Value} (h : Aside0 (w.heap[g]? = some (.cells #[x0, x1, x2, x3, x4] t (0, 0)))) : w.cell? ⟨g, 0, none⟩ = some x0 ∧ w.cell? ⟨g, 1, none⟩ = some x1 ∧ w.cell? ⟨g, 2, none⟩ = some x2 ∧ w.cell? ⟨g, 3, none⟩ = some x3 ∧ w.cell? ⟨g, 4, none⟩ = some x4 := ⟨(blk_cell h.out 0).trans rfl, (blk_cell h.out 1).trans rfl, (blk_cell h.out 2).trans rfl, (blk_cell h.out 3).trans rfl, (blk_cell h.out 4).trans rfl⟩
theorem q6 {w : World} {g t : Nat} {x0 x1 x2 x3 x4 x5 : Value} (h : Aside0 (w.heap[g]? = some (.cells #[x0, x1, x2, x3, x4, x5] t (0, 0)))) : w.cell? ⟨g, 0, none⟩ = some x0 ∧ w.cell? ⟨g, 1, none⟩ = some x1 ∧ w.cell? ⟨g, 2, none⟩ = some x2 ∧ w.cell? ⟨g, 3, none⟩ = some x3 ∧ w.cell? ⟨g, 4, none⟩ = some x4 ∧ w.cell? ⟨g, 5, none⟩ = some x5 := ⟨(blk_cell h.out 0).trans rfl, (blk_cell h.out 1).trans rfl, (blk_cell h.out 2).trans rfl, (blk_cell h.out 3).trans rfl, (blk_cell h.out 4).trans rfl, (blk_cell h.out 5).trans rfl⟩
theorem q6f {w : World} {g t : Nat} {x0 x1 x2 x3 x4 x5 : Value} (h : Aside0 (w.heap[g]? = some (.cells #[x0, x1, x2, x3, x4, x5] t (0, 0)))) : w.cell? ⟨g, 0, none⟩ = some x0 ∧ w.cell? ⟨g, 1, none⟩ = some x1 ∧ w.cell? ⟨g, 2, none⟩ = some x2 ∧ w.cell? ⟨g, 3, none⟩ = some x3 ∧ w.cell? ⟨g, 4, none⟩ = some x4 ∧ w.cell? ⟨g, 5, none⟩ = some x5 ∧ w.frozen? ⟨g, 0, none⟩ = false ∧ w.frozen? ⟨g, 1, none⟩ = false ∧ w.frozen? ⟨g, 2, none⟩ = false ∧ w.frozen? ⟨g, 3, none⟩ = false ∧ w.frozen? ⟨g, 4, none⟩ = false ∧ w.frozen? ⟨g, 5, none⟩ = false := ⟨(blk_cell h.out 0).trans rfl, (blk_cell h.out 1).trans rfl, (blk_cell h.out 2).trans rfl, (blk_cell h.out 3).trans rfl, (blk_cell h.out 4).trans rfl, (blk_cell h.out 5).trans rfl, blk_frozen h.out 0, blk_frozen h.out 1, blk_frozen h.out 2, blk_frozen h.out 3, blk_frozen h.out 4, blk_frozen h.out 5⟩
section
variable {P : Program} {md : Region.Mode} {ops : Array Oper} {Q : Exit → Act → World → Prop} {S : World → Prop} {ds : List Nat} {T : Bool × List (List Nat × List Nat)} {B : List Nat} {oi : Oper} {v : Value} {fuel : Nat} {l : Array Bool} {a a' : Act} {w : World}
theorem pz (n i : Nat) (l' : Array Bool) (HT : Aside0 (rtab md ops = T)) (hi : ops[i]? = some oi) (hN : oi.dst = some n) (h : anyT T l.toList l'.toList i = true) (hQ : ∀ c a w, Q (.panic c) (a.put oi.dst v) w → Q (.panic c) a w)
    (hw : Region.wanted oi (yielded ops a.tmps) = true) (hy : ∀ w', (execOp a.eval oi).run P w' = .ok (.value v) w') (ha : a.put (some n) v = a') (k : wpAnyLast P md ops Q S ds fuel l' a' w) : wpAnyLast P md ops Q S ds (fuel + 1) l a w :=
  pure_ l' hi hN (any_of HT.out h) hQ (Or.inl ⟨hw, hy⟩) ha k
theorem pu (n i : Nat) (l' : Array Bool) (HT : Aside0 (rtab md ops = T)) (hi : ops[i]? = some oi) (hN : oi.dst = some n) (h : anyT T l.toList l'.toList i = true) (hQ : ∀ c a w, Q (.panic c) (a.put oi.dst undef) w → Q (.panic c) a w)
    (hw : Region.wanted oi (yielded ops a.tmps) = false) (ha : a.put (some n) undef = a') (k : wpAnyLast P md ops Q S ds fuel l' a' w) : wpAnyLast P md ops Q S ds (fuel + 1) l a w :=
  pure_ l' hi hN (any_of HT.out h) hQ (Or.inr ⟨hw, rfl⟩) ha k
theorem tz (n i : Nat) (l' : Array Bool) (HT : Aside0 (rtab md ops = T)) (HW : Aside0 (waitsOk T.2 B = true)) (hS : S w) (hi : ops[i]? = some oi) (hN : oi.dst = some n) (h : takeW T B ds l.toList l'.toList i = true) (hQ : ∀ c a w, Q (.panic c) (a.put oi.dst v) w → Q (.panic c) a w)
    (hw : Region.wanted oi (yielded ops a.tmps) = true) (hy : ∀ w', S w' → (execOp a.eval oi).run P w' = .ok (.value v) w') (ha : a.put (some n) v = a') (k : wpAnyLast P md ops Q S ds fuel l' a' w) : wpAnyLast P md ops Q S ds (fuel + 1) l a w :=
  take_ l' hi hN (take_ofW HT.out HW.out h) hQ (Or.inl ⟨hw, hy⟩) hS ha k
end
def spec_l01Letters.l0:Nat → ByteArray → Int → Option (Bool)
 | 0,_,_=>none
 | k + 1,x0,x3=>if x3 < (x0.size:Int) then (if 0 ≤ x3 then (if (bt x0 x3) = 48 then (spec_l01Letters.l0 k x0 (wrap64 (x3 + 1))) else (if (bt x0 x3) = 49 then (spec_l01Letters.l0 k x0 (wrap64 (x3 + 1))) else (if (bt x0 x3) = 42 then (spec_l01Letters.l0 k x0 (wrap64 (x3 + 1))) else (some false)))) else (none)) else (some true)
def spec_l01Letters.f (k:Nat) (a0:ByteArray):Option (Bool):=spec_l01Letters.l0 k a0 0
theorem spec_l01Letters.mono_l:∀ k,(∀ y0 y1,LeO (spec_l01Letters.l0 k y0 y1) (spec_l01Letters.l0 (k + 1) y0 y1))
 | 0=>fun _ _ r h=>by simp [spec_l01Letters.l0] at h
 | k + 1=>by
  have ih0:=spec_l01Letters.mono_l k
  ·intro y0 y1
   unfold spec_l01Letters.l0
   repeat' first
   | (with_reducible exact ih0 _ _)
   | (with_reducible exact LeO.refl _)
   | (with_reducible exact LeO.none _)
   | (with_reducible refine LeO.ite ?_ ?_)
   | (with_reducible refine LeO.bind ?_ (fun _=>?_))
   | exact ih0 _ _
   | exact LeO.none _
   | refine LeO.ite ?_ ?_
   | refine LeO.bind ?_ (fun _=>?_)
theorem spec_l01Letters.mono:∀ a0 k,LeO (spec_l01Letters.f k a0) (spec_l01Letters.f (k + 1) a0):=by
 intro a0 k
 have ih0:=spec_l01Letters.mono_l k
 unfold spec_l01Letters.f
 repeat' first
   | (with_reducible exact ih0 _ _)
   | (with_reducible exact LeO.refl _)
   | (with_reducible exact LeO.none _)
   | (with_reducible refine LeO.ite ?_ ?_)
   | (with_reducible refine LeO.bind ?_ (fun _=>?_))
   | exact ih0 _ _
   | exact LeO.none _
   | refine LeO.ite ?_ ?_
   | refine LeO.bind ?_ (fun _=>?_)
set_option maxHeartbeats 8000000 in
set_option maxRecDepth 100000 in
theorem spec_l01Letters.calls (k:Nat) (a0:ByteArray) (r:Bool) (w:World) (h:spec_l01Letters.f k a0 = some r) :
  Calls Try.prog 47 #[.string a0] w fun e w'=>e = .returned (.bool r) ∧ Drawn0 w w':=by
 have H:(spec_l01Letters.l0 k a0 0) = some r:=h
 clear h
 have H':=aM H
 clear H
 go_enter Try.func47,Try.ntmps47
 go_wp2
 go_loopg [3] k (fun kq v3 w'=>∃ (x3_1:Int),v3 = .int .i64 x3_1 ∧ Aside0 (spec_l01Letters.l0 kq a0 x3_1 = some r) ∧ Aside0 (kq ≤ k) ∧ Drawn0 w w')
 case atStart=>exact ⟨(0),(by first|rfl|(simp;done)|(simp [*];done)),H',⟨Nat.le_refl _⟩,by repeat (first|exact Drawn0.refl _|apply Drawn0.step)⟩
 case round =>
  clear H'
  obtain ⟨x3_1,rfl,HA,HK1,⟨m1,rfl⟩⟩:=hrel
  cases gk with
  | zero=>exact absurd HA.out (by simp [spec_l01Letters.l0])
  | succ k1 =>
   have H:=HA.out
   clear HA
   simp only [spec_l01Letters.l0] at H
   by_cases c2:x3_1 < (a0.size:Int)
   ·rw [if_pos c2] at H
    have c2b0:decide (x3_1 < (a0.size:Int)) = true:=decide_eq_true c2
    clear c2
    by_cases c3:0 ≤ x3_1
    ·rw [if_pos c3] at H
     have c3b0:decide (0 ≤ x3_1) = true:=decide_eq_true c3
     clear c3
     by_cases c5:(bt a0 x3_1) = 48
     ·rw [if_pos c5] at H
      have c5b0:((bt a0 x3_1) == 48) = true:=beq_iff_eq.mpr c5
      have c5b1:((bt a0 x3_1) != 48) = false:=bne_eq_false_iff_eq.mpr c5
      clear c5
      have H':=aM H
      clear H
      have p4:0 ≤ (x3_1:Int):=of_decide_eq_true (by assumption)
      have q4:x3_1 < (a0.size:Int):=of_decide_eq_true (by assumption)
      have hx4:=bt_at a0 x3_1
      replace p4:=eq_true p4;replace q4:=eq_true q4
      go_wp2
      go_roundg k1
      case measure=>have:=HK1.out;omega
      case rel=>exact ⟨(wrap64 (x3_1 + 1)),(by first|rfl|(simp;done)|(simp [*];done)),H',⟨by have:=HK1.out;omega⟩,by repeat (first|exact Drawn0.refl _|apply Drawn0.step)⟩
     ·rw [if_neg c5] at H
      have c5b0:((bt a0 x3_1) == 48) = false:=beq_eq_false_iff_ne.mpr c5
      have c5b1:((bt a0 x3_1) != 48) = true:=bne_iff_ne.mpr c5
      by_cases c7:(bt a0 x3_1) = 49
      ·rw [if_pos c7] at H
       have c7b0:((bt a0 x3_1) == 49) = true:=beq_iff_eq.mpr c7
       have c7b1:((bt a0 x3_1) != 49) = false:=bne_eq_false_iff_eq.mpr c7
       clear c7
       have H':=aM H
       clear H
       have p4:0 ≤ (x3_1:Int):=of_decide_eq_true (by assumption)
       have q4:x3_1 < (a0.size:Int):=of_decide_eq_true (by assumption)
       have hx4:=bt_at a0 x3_1
       replace p4:=eq_true p4;replace q4:=eq_true q4
       have p6:0 ≤ (x3_1:Int):=of_decide_eq_true (by assumption)
       have q6:x3_1 < (a0.size:Int):=of_decide_eq_true (by assumption)
       have hx6:=bt_at a0 x3_1
       replace p6:=eq_true p6;replace q6:=eq_true q6
       go_wp2
       go_roundg k1
       case measure=>have:=HK1.out;omega
       case rel=>exact ⟨(wrap64 (x3_1 + 1)),(by first|rfl|(simp;done)|(simp [*];done)),H',⟨by have:=HK1.out;omega⟩,by repeat (first|exact Drawn0.refl _|apply Drawn0.step)⟩
      ·rw [if_neg c7] at H
       have c7b0:((bt a0 x3_1) == 49) = false:=beq_eq_false_iff_ne.mpr c7
       have c7b1:((bt a0 x3_1) != 49) = true:=bne_iff_ne.mpr c7
       by_cases c9:(bt a0 x3_1) = 42
       ·rw [if_pos c9] at H
        have c9b0:((bt a0 x3_1) == 42) = true:=beq_iff_eq.mpr c9
        have c9b1:((bt a0 x3_1) != 42) = false:=bne_eq_false_iff_eq.mpr c9
        clear c9
        have H':=aM H
        clear H
        have p4:0 ≤ (x3_1:Int):=of_decide_eq_true (by assumption)
        have q4:x3_1 < (a0.size:Int):=of_decide_eq_true (by assumption)
        have hx4:=bt_at a0 x3_1
        replace p4:=eq_true p4;replace q4:=eq_true q4
        have p6:0 ≤ (x3_1:Int):=of_decide_eq_true (by assumption)
        have q6:x3_1 < (a0.size:Int):=of_decide_eq_true (by assumption)
        have hx6:=bt_at a0 x3_1
        replace p6:=eq_true p6;replace q6:=eq_true q6
        have p8:0 ≤ (x3_1:Int):=of_decide_eq_true (by assumption)
        have q8:x3_1 < (a0.size:Int):=of_decide_eq_true (by assumption)
        have hx8:=bt_at a0 x3_1
        replace p8:=eq_true p8;replace q8:=eq_true q8
        go_wp2
        go_roundg k1
        case measure=>have:=HK1.out;omega
        case rel=>exact ⟨(wrap64 (x3_1 + 1)),(by first|rfl|(simp;done)|(simp [*];done)),H',⟨by have:=HK1.out;omega⟩,by repeat (first|exact Drawn0.refl _|apply Drawn0.step)⟩
       ·rw [if_neg c9] at H
        have c9b0:((bt a0 x3_1) == 42) = false:=beq_eq_false_iff_ne.mpr c9
        have c9b1:((bt a0 x3_1) != 42) = true:=bne_iff_ne.mpr c9
        obtain rfl:=Option.some.inj H
        have p4:0 ≤ (x3_1:Int):=of_decide_eq_true (by assumption)
        have q4:x3_1 < (a0.size:Int):=of_decide_eq_true (by assumption)
        have hx4:=bt_at a0 x3_1
        replace p4:=eq_true p4;replace q4:=eq_true q4
        have p6:0 ≤ (x3_1:Int):=of_decide_eq_true (by assumption)
        have q6:x3_1 < (a0.size:Int):=of_decide_eq_true (by assumption)
        have hx6:=bt_at a0 x3_1
        replace p6:=eq_true p6;replace q6:=eq_true q6
        have p8:0 ≤ (x3_1:Int):=of_decide_eq_true (by assumption)
        have q8:x3_1 < (a0.size:Int):=of_decide_eq_true (by assumption)
        have hx8:=bt_at a0 x3_1
        replace p8:=eq_true p8;replace q8:=eq_true q8
        go_wp2
        go_ret
        exact ⟨by first|rfl|(simp;done)|(simp [*];done),by repeat (first|exact Drawn0.refl _|apply Drawn0.step)⟩
    ·rw [if_neg c3] at H
     exact absurd H (by simp)
   ·rw [if_neg c2] at H
    have c2b0:decide (x3_1 < (a0.size:Int)) = false:=decide_eq_false c2
    clear c2
    obtain rfl:=Option.some.inj H
    go_wp2
    go_ret
    exact ⟨by first|rfl|(simp;done)|(simp [*];done),by repeat (first|exact Drawn0.refl _|apply Drawn0.step)⟩
set_option maxHeartbeats 1000000 in
theorem indexFunc_byte.calls (g:Nat) (lb:Array Value) (eg:∀ args w,(callFunc g args).run Try.prog w = .ok (.enter g args) w) (p:Int → Option Bool) (A0:Option Addr) (c0:Nat) (l0:List Int) (r:Int) (w:World)
  (hr0:Kd.C (Kd.int .u8) w A0 l0.length l0) (hc0:l0.length ≤ c0)
  (hp:∀ W x b,Below w.heap.size w W → p x = some b → Calls Try.prog g (#[.int .u8 x] ++ lb) W fun e w'=>e = .returned (.bool b) ∧ Below W.heap.size W w')
  (h:idxGo p 0 l0 = some r) :
  Calls Try.prog 75 #[.slice A0 l0.length c0,.func (.func g) #[] lb] w fun e w'=>e = .returned (.int .i64 r) ∧ Below w.heap.size w w':=by
 have hm:=Kd.C_max hr0
 have HR:=aM hr0;have H0:=aM h;have HP:=aM hp
 clear hr0 h hp
 go_enter Try.func75,Try.ntmps75
 go_wp2
 go_loopg [8] l0.length (fun gg i wr=>∃ k:Nat,k ≤ l0.length ∧ l0.length - k ≤ gg ∧ i = .int .i64 k ∧ Aside0 (idxGo p k (l0.drop k) = some r) ∧ Aside0 (Below w.heap.size w wr))
 case atStart=>exact ⟨0,Nat.zero_le _,by omega,rfl,aM (by simpa using H0.out),aM (Below.refl _ _)⟩
 case round =>
  obtain ⟨k,hk,hg,rfl,HJ,HB⟩:=hrel
  clear H0
  by_cases hlt:k < l0.length
  ·have hlti:(k:Int) < (l0.length:Int):=by omega
   obtain ⟨b,hb,hstep⟩:=idxGo_drop p l0 k k r hlt HJ.out
   obtain ⟨ad,e,e0⟩:=Kd.at_int (Kd.C_below HR.out HB.out) (k:Int) (by omega) hlti
   have hx:rd l0 (k:Int) = l0[k]:=by simp [rd,hlt]
   rw [hx] at e0
   simp only [Int.toNat_natCast] at e0
   generalize l0[k] = x at hb e0
   have hcall:=HP.out wr x b HB.out hb
   subst e
   rcases hstep with ⟨rfl,rfl⟩|⟨rfl,hj⟩
   ·have HC:=aM hcall
    have HB1:=HB.out
    clear hcall hb hx HP HJ
    go_wp2_with (go_at_fn g;refine HC.out.mono ?_;rintro e w' ⟨rfl,hb'⟩)
    go_ret
    exact ⟨rfl,HB1.trans (hb'.mono HB1.size)⟩
   ·have HC:=aM hcall
    have HJ2:=aM hj
    clear hcall hb hx hj
    go_wp2_with (go_at_fn g;refine HC.out.mono ?_;rintro e w' ⟨rfl,hb'⟩)
    go_roundg (l0.length - (k + 1))
    case measure=>omega
    case rel=>exact ⟨k + 1,by omega,by omega,by go_num,⟨by simpa using HJ2.out⟩,⟨HB.out.trans (hb'.mono HB.out.size)⟩⟩
  ·have hlti:¬ (k:Int) < (l0.length:Int):=by omega
   have hr:r = -1:=idxGo_end p l0 k k r (by omega) HJ.out
   have HR1:=aM hr
   have HB1:=HB.out
   clear hr HP HJ
   go_wp2
   go_ret
   exact ⟨by rw [HR1.out];rfl,HB1⟩
set_option maxHeartbeats 1000000 in
theorem containsFunc_byte.calls (g:Nat) (lb:Array Value) (eg:∀ args w,(callFunc g args).run Try.prog w = .ok (.enter g args) w) (p:Int → Option Bool) (A0:Option Addr) (c0:Nat) (l0:List Int) (r:Int) (w:World)
  (hr0:Kd.C (Kd.int .u8) w A0 l0.length l0) (hc0:l0.length ≤ c0)
  (hp:∀ W x b,Below w.heap.size w W → p x = some b → Calls Try.prog g (#[.int .u8 x] ++ lb) W fun e w'=>e = .returned (.bool b) ∧ Below W.heap.size W w')
  (h:idxGo p 0 l0 = some r) :
  Calls Try.prog 70 #[.slice A0 l0.length c0,.func (.func g) #[] lb] w fun e w'=>e = .returned (.bool (decide (0 ≤ r))) ∧ Below w.heap.size w w':=by
 have hcon:=indexFunc_byte.calls g lb eg p A0 c0 l0 r w hr0 hc0 hp h
 have HC:=aM hcon
 clear hcon hp h hr0
 go_enter Try.func70,Try.ntmps70
 go_wp2_with (go_at_call 75;refine HC.out.mono ?_;rintro e w' ⟨rfl,hb'⟩)
 go_ret
 exact ⟨rfl,hb'⟩
set_option maxHeartbeats 1000000 in
theorem notIs_byte.calls (g:Nat) (eg:∀ args w,(callFunc g args).run Try.prog w = .ok (.enter g args) w) (B:Nat) (w:World) (hcell:w.cell? ⟨B,0,none⟩ = some (.func (.func g) #[] #[])) (hB:B < w.heap.size) (x:Int) (b:Bool)
  (hp:∀ W,Below w.heap.size w W → Calls Try.prog g #[.int .u8 x] W fun e w'=>e = .returned (.bool b) ∧ Below W.heap.size W w') :
  Calls Try.prog 71 #[.int .u8 x,.pointer (some ⟨B,0,none⟩)] w fun e w'=>e = .returned (.bool (!b)) ∧ Below w.heap.size w w':=by
 have HP:=aM hp
 have hu:=Try.underlying5
 clear hp
 go_enter Try.func71,Try.ntmps71
 go_wp2_with (go_at_fn g;refine (HP.out _ (Below.refl _ _)).mono ?_;rintro e w' ⟨rfl,hb'⟩)
 go_ret
 exact ⟨rfl,hb'⟩
set_option maxHeartbeats 1000000 in
theorem areAll_byte.calls (g:Nat) (eg:∀ args w,(callFunc g args).run Try.prog w = .ok (.enter g args) w) (p:Int → Option Bool) (A0:Option Addr) (c0:Nat) (l0:List Int) (r:Bool) (w:World)
  (hr0:Kd.C (Kd.int .u8) w A0 l0.length l0) (hc0:l0.length ≤ c0)
  (hp:∀ W x b,Below w.heap.size w W → p x = some b → Calls Try.prog g #[.int .u8 x] W fun e w'=>e = .returned (.bool b) ∧ Below W.heap.size W w')
  (h:allM p l0 = some r) :
  Calls Try.prog 63 #[.slice A0 l0.length c0,.func (.func g) #[] #[]] w fun e w'=>e = .returned (.bool r) ∧ Below w.heap.size w w':=by
 obtain ⟨i,h1,h2⟩:=allM_idx p l0 0 r (by omega) h
 have hw1:Below w.heap.size w (w.alloc (.cells #[.func (.func g) #[] #[]] 96)):=(Below.refl _ w).alloc (Nat.le_refl _) _
 have hcon:=containsFunc_byte.calls 71 #[.pointer (some ⟨w.heap.size,0,none⟩)] (enters_of Try.func71 (by kernel_rfl) rfl)
  (fun x=>(p x).map (fun b=>!b)) A0 c0 l0 i (w.alloc (.cells #[.func (.func g) #[] #[]] 96)) (Kd.C_below hr0 hw1) hc0
  (fun W x b hW hx=>by
   obtain ⟨q,hq,rfl⟩:=Option.map_eq_some_iff.1 hx
   have hcell:W.cell? ⟨w.heap.size,0,none⟩ = some (.func (.func g) #[] #[]):=(hW.cell (p:=⟨w.heap.size,0,none⟩) (by simp)).trans (by simp)
   exact notIs_byte.calls g eg w.heap.size W hcell (by have:=hW.size;simp at this;omega) x q (fun W' hW'=>hp W' x q (hw1.trans ((hW.mono (by simp)).trans (hW'.mono (by have:=hW.size;simp at this;omega)))) hq)) h1
 have HC:=aM hcon;have H2:=aM h2
 clear hcon hp h hr0 h1 h2
 go_enter Try.func63,Try.ntmps63
 go_wp2_with (go_at_call 70;refine HC.out.mono ?_;rintro e w' ⟨rfl,hb'⟩)
 go_ret
 exact ⟨by rw [H2.out];simp,hw1.trans (hb'.mono (by simp))⟩
def isLetterN (x:Int):Bool:=decide (x = 48) || (decide (x = 49) || decide (x = 42))
theorem allM_some {α:Type} (q:α → Bool):∀ l:List α,allM (fun x=>some (q x)) l = some (l.all q)
 | []=>rfl
 | x :: xs=>by
  unfold allM
  simp only [Option.bind_some,List.all_cons]
  cases h:q x
  ·simp
  ·simpa using allM_some q xs
set_option maxHeartbeats 1000000 in
theorem isLetterN.calls (x:Int) (w:World) :
  Calls Try.prog 64 #[.int .u8 x] w fun e w'=>e = .returned (.bool (isLetterN x)) ∧ Below w.heap.size w w':=by
 go_enter Try.func64,Try.ntmps64
 go_wp2
 all_goals (go_ret;refine ⟨?_,Below.refl _ _⟩;unfold isLetterN;first|(simp_all;done)|(simp_all;rw [Bool.eq_iff_iff];simp;omega))
def impl_areLetters.f (a0:ByteArray):Option Bool:=if a0.size ≤ 9223372036854775807 then some ((bytesOf a0).all isLetterN) else none
set_option maxHeartbeats 1000000 in
theorem impl_areLetters.calls (a0:ByteArray) (r:Bool) (w:World) (h:impl_areLetters.f a0 = some r) :
  Calls Try.prog 41 #[.string a0] w fun e w'=>e = .returned (.bool r) ∧ Below w.heap.size w w':=by
 unfold impl_areLetters.f at h
 by_cases hs:a0.size ≤ 9223372036854775807
 ·rw [if_pos hs] at h
  have hcv:=print_bytes (P:=Try.prog) 9 22 5 Try.underlying9 Try.underlying22 Try.underlying5 a0 w
  have hrd:Kd.C (Kd.int .u8) (Lib.bytesWorld w 5 a0) (some ⟨w.heap.size,0,none⟩) (bytesOf a0).length (bytesOf a0):=by
   rw [bytesOf_length]
   exact Kd.C_of_reads (enc:=Value.int .u8) (d:=(0:Int)) (h1:=fun _=>rfl) (bytes_reads w 5 a0 hs)
  have hb:=bytes_below (Below.refl w.heap.size w) (Nat.le_refl _) 5 a0
  have hcap:(bytesOf a0).length ≤ grownCap w a0.size 0 5:=by rw [bytesOf_length];exact grownCap_ge w a0.size 0 5
  have hall:=areAll_byte.calls 64 (enters_of Try.func64 (by kernel_rfl) rfl) (fun x=>some (isLetterN x)) (some ⟨w.heap.size,0,none⟩) (grownCap w a0.size 0 5) (bytesOf a0) r (Lib.bytesWorld w 5 a0) hrd hcap
   (fun W x b _ hx=>by
    obtain rfl:=Option.some.inj hx
    exact isLetterN.calls x W) (by rw [allM_some];exact h)
  rw [bytesOf_length] at hall
  have HC:=aM hall;have HB:=aM hb
  clear hall hb hrd h hcap
  generalize Lib.bytesWorld w 5 a0 = W1 at hcv HC HB
  generalize grownCap w a0.size 0 5 = cap at hcv HC
  go_enter Try.func41,Try.ntmps41
  go_wp2_with (go_at_call 63;refine HC.out.mono ?_;rintro e w' ⟨rfl,hb'⟩)
  go_ret
  exact ⟨rfl,HB.out.trans (hb'.mono HB.out.size)⟩
 ·rw [if_neg hs] at h
  cases h
mutual
def spec_l01Canonical.j2:Nat → ByteArray → ByteArray → Option (ByteArray × ByteArray)
 | 0,_,_=>none
 | k + 1,x0,x1=>spec_l01Canonical.l2 k x0 x1
def spec_l01Canonical.l2:Nat → ByteArray → ByteArray → Option (ByteArray × ByteArray)
 | 0,_,_=>none
 | k + 1,x0,x1=>if (x0.size:Int) > 0 then (if 0 ≤ (wrap64 ((x0.size:Int) - 1)) then (if (wrap64 ((x0.size:Int) - 1)) < (x0.size:Int) then (if 0 ≤ (wrap64 ((x1.size:Int) - 1)) then (if (wrap64 ((x1.size:Int) - 1)) < (x1.size:Int) then (if (bt x0 (wrap64 ((x0.size:Int) - 1))) = (bt x1 (wrap64 ((x1.size:Int) - 1))) then (if (wrap64 ((x1.size:Int) - 1)) ≤ (x1.size:Int) then (if (x1.extract ((wrap64 ((x1.size:Int) - 1)):Int).toNat x1.size).size + (x1.extract 0 ((wrap64 ((x1.size:Int) - 1)):Int).toNat).size ≤ 9223372036854775807 then (if (wrap64 ((x0.size:Int) - 1)) ≤ (x0.size:Int) then (spec_l01Canonical.l2 k (x0.extract 0 ((wrap64 ((x0.size:Int) - 1)):Int).toNat) ((x1.extract ((wrap64 ((x1.size:Int) - 1)):Int).toNat x1.size) ++ (x1.extract 0 ((wrap64 ((x1.size:Int) - 1)):Int).toNat))) else (none)) else (none)) else (none)) else (some (x0,x1))) else (none)) else (none)) else (none)) else (none)) else (some (x0,x1))
def spec_l01Canonical.l0:Nat → ByteArray → ByteArray → Int → Int → Option (ByteArray × ByteArray)
 | 0,_,_,_,_=>none
 | k + 1,x0,x1,x5,x6=>if x6 ≤ x5 then (if x6 = 0 then (none) else (if (Int.tmod x5 x6) = 0 then (spec_l01Canonical.l1 k x0 x1 x5 x6 true x6) else (spec_l01Canonical.l0 k x0 x1 x5 (wrap64 (x6 + 1))))) else (spec_l01Canonical.j2 k x0 x1)
def spec_l01Canonical.l1:Nat → ByteArray → ByteArray → Int → Int → Bool → Int → Option (ByteArray × ByteArray)
 | 0,_,_,_,_,_,_=>none
 | k + 1,x0,x1,x5,x6,x7,x8=>if x8 < x5 then (if x7 = true then (if 0 ≤ x8 then (if x8 < (x1.size:Int) then (if 0 ≤ (wrap64 (x8 - x6)) then (if (wrap64 (x8 - x6)) < (x1.size:Int) then (spec_l01Canonical.l1 k x0 x1 x5 x6 ((bt x1 x8) == (bt x1 (wrap64 (x8 - x6)))) (wrap64 (x8 + 1))) else (none)) else (none)) else (none)) else (none)) else (spec_l01Canonical.l1 k x0 x1 x5 x6 false (wrap64 (x8 + 1)))) else (if x7 = true then (if 0 ≤ x6 then (if x6 ≤ (x1.size:Int) then (spec_l01Canonical.j2 k x0 (x1.extract 0 (x6:Int).toNat)) else (none)) else (none)) else (spec_l01Canonical.l0 k x0 x1 x5 (wrap64 (x6 + 1))))
end
def spec_l01Canonical.f (k:Nat) (a0:ByteArray) (a1:ByteArray):Option (ByteArray × ByteArray):=spec_l01Canonical.l0 k a0 a1 (a1.size:Int) 1
theorem spec_l01Canonical.mono_l:∀ k,(∀ y0 y1,LeO (spec_l01Canonical.j2 k y0 y1) (spec_l01Canonical.j2 (k + 1) y0 y1)) ∧ (∀ y0 y1,LeO (spec_l01Canonical.l2 k y0 y1) (spec_l01Canonical.l2 (k + 1) y0 y1)) ∧ (∀ y0 y1 y2 y3,LeO (spec_l01Canonical.l0 k y0 y1 y2 y3) (spec_l01Canonical.l0 (k + 1) y0 y1 y2 y3)) ∧ (∀ y0 y1 y2 y3 y4 y5,LeO (spec_l01Canonical.l1 k y0 y1 y2 y3 y4 y5) (spec_l01Canonical.l1 (k + 1) y0 y1 y2 y3 y4 y5))
 | 0=>⟨fun _ _ r h=>by simp [spec_l01Canonical.j2] at h,fun _ _ r h=>by simp [spec_l01Canonical.l2] at h,fun _ _ _ _ r h=>by simp [spec_l01Canonical.l0] at h,fun _ _ _ _ _ _ r h=>by simp [spec_l01Canonical.l1] at h⟩
 | k + 1=>by
  obtain ⟨ih0,ih1,ih2,ih3⟩:=spec_l01Canonical.mono_l k
  refine ⟨?_,?_,?_,?_⟩
  ·intro y0 y1
   unfold spec_l01Canonical.j2
   repeat' first
   | (with_reducible exact ih0 _ _)
   | (with_reducible exact ih1 _ _)
   | (with_reducible exact ih2 _ _ _ _)
   | (with_reducible exact ih3 _ _ _ _ _ _)
   | (with_reducible exact LeO.refl _)
   | (with_reducible exact LeO.none _)
   | (with_reducible refine LeO.ite ?_ ?_)
   | (with_reducible refine LeO.bind ?_ (fun _=>?_))
   | exact ih0 _ _
   | exact ih1 _ _
   | exact ih2 _ _ _ _
   | exact ih3 _ _ _ _ _ _
   | exact LeO.none _
   | refine LeO.ite ?_ ?_
   | refine LeO.bind ?_ (fun _=>?_)
  ·intro y0 y1
   unfold spec_l01Canonical.l2
   repeat' first
   | (with_reducible exact ih0 _ _)
   | (with_reducible exact ih1 _ _)
   | (with_reducible exact ih2 _ _ _ _)
   | (with_reducible exact ih3 _ _ _ _ _ _)
   | (with_reducible exact LeO.refl _)
   | (with_reducible exact LeO.none _)
   | (with_reducible refine LeO.ite ?_ ?_)
   | (with_reducible refine LeO.bind ?_ (fun _=>?_))
   | exact ih0 _ _
   | exact ih1 _ _
   | exact ih2 _ _ _ _
   | exact ih3 _ _ _ _ _ _
   | exact LeO.none _
   | refine LeO.ite ?_ ?_
   | refine LeO.bind ?_ (fun _=>?_)
  ·intro y0 y1 y2 y3
   unfold spec_l01Canonical.l0
   repeat' first
   | (with_reducible exact ih0 _ _)
   | (with_reducible exact ih1 _ _)
   | (with_reducible exact ih2 _ _ _ _)
   | (with_reducible exact ih3 _ _ _ _ _ _)
   | (with_reducible exact LeO.refl _)
   | (with_reducible exact LeO.none _)
   | (with_reducible refine LeO.ite ?_ ?_)
   | (with_reducible refine LeO.bind ?_ (fun _=>?_))
   | exact ih0 _ _
   | exact ih1 _ _
   | exact ih2 _ _ _ _
   | exact ih3 _ _ _ _ _ _
   | exact LeO.none _
   | refine LeO.ite ?_ ?_
   | refine LeO.bind ?_ (fun _=>?_)
  ·intro y0 y1 y2 y3 y4 y5
   unfold spec_l01Canonical.l1
   repeat' first
   | (with_reducible exact ih0 _ _)
   | (with_reducible exact ih1 _ _)
   | (with_reducible exact ih2 _ _ _ _)
   | (with_reducible exact ih3 _ _ _ _ _ _)
   | (with_reducible exact LeO.refl _)
   | (with_reducible exact LeO.none _)
   | (with_reducible refine LeO.ite ?_ ?_)
   | (with_reducible refine LeO.bind ?_ (fun _=>?_))
   | exact ih0 _ _
   | exact ih1 _ _
   | exact ih2 _ _ _ _
   | exact ih3 _ _ _ _ _ _
   | exact LeO.none _
   | refine LeO.ite ?_ ?_
   | refine LeO.bind ?_ (fun _=>?_)
theorem spec_l01Canonical.mono:∀ a0 a1 k,LeO (spec_l01Canonical.f k a0 a1) (spec_l01Canonical.f (k + 1) a0 a1):=by
 intro a0 a1 k
 obtain ⟨ih0,ih1,ih2,ih3⟩:=spec_l01Canonical.mono_l k
 unfold spec_l01Canonical.f
 repeat' first
   | (with_reducible exact ih0 _ _)
   | (with_reducible exact ih1 _ _)
   | (with_reducible exact ih2 _ _ _ _)
   | (with_reducible exact ih3 _ _ _ _ _ _)
   | (with_reducible exact LeO.refl _)
   | (with_reducible exact LeO.none _)
   | (with_reducible refine LeO.ite ?_ ?_)
   | (with_reducible refine LeO.bind ?_ (fun _=>?_))
   | exact ih0 _ _
   | exact ih1 _ _
   | exact ih2 _ _ _ _
   | exact ih3 _ _ _ _ _ _
   | exact LeO.none _
   | refine LeO.ite ?_ ?_
   | refine LeO.bind ?_ (fun _=>?_)
set_option maxHeartbeats 8000000 in
set_option maxRecDepth 100000 in
theorem spec_l01Canonical.calls (k:Nat) (a0:ByteArray) (a1:ByteArray) (r1:ByteArray) (r2:ByteArray) (w:World) (h:spec_l01Canonical.f k a0 a1 = some (r1,r2)) :
  Calls Try.prog 40 #[.string a0,.string a1] w fun e w'=>e = .returned (.agg #[.string r1,.string r2]) ∧ Below w.heap.size w w':=by
 have hu25:=Try.underlying25
 have HB:=aM (Below.refl w.heap.size w)
 have H:(spec_l01Canonical.l0 k a0 a1 (a1.size:Int) 1) = some (r1,r2):=h
 clear h
 have HC3:=aM H
 clear H
 go_enter Try.func40,Try.ntmps40
 go_upto_block 0 with (first|((with_reducible refine gate_dst (N:=4) rfl ?_);(try (refine gate_guard (by rfl) ?_;dsimp only));refine box_event rfl (N:=4) rfl (cs:=#[.string ⟨#[]⟩,.string ⟨#[]⟩]) (t:=25) (by first|(go_simp;done)|(go_simp;rfl)) ?_;intro gb104 hg w4 hbox hb;have BK104:=aM (hbox);have GW104:=wl hg HB;have GE104:=wl hg HB;replace HB:=bs HB hb;clear hb hbox hg))
 repeat (go_quiet (first|((with_reducible refine gate_dst (N:=4) rfl ?_);(try (refine gate_guard (by rfl) ?_;dsimp only));refine box_event rfl (N:=4) rfl (cs:=#[.string ⟨#[]⟩,.string ⟨#[]⟩]) (t:=25) (by first|(go_simp;done)|(go_simp;rfl)) ?_;intro gb104 hg w4 hbox hb;have BK104:=aM (hbox);have GW104:=wl hg HB;have GE104:=wl hg HB;replace HB:=bs HB hb;clear hb hbox hg));go_upto_block 0 with (first|((with_reducible refine gate_dst (N:=4) rfl ?_);(try (refine gate_guard (by rfl) ?_;dsimp only));refine box_event rfl (N:=4) rfl (cs:=#[.string ⟨#[]⟩,.string ⟨#[]⟩]) (t:=25) (by first|(go_simp;done)|(go_simp;rfl)) ?_;intro gb104 hg w4 hbox hb;have BK104:=aM (hbox);have GW104:=wl hg HB;have GE104:=wl hg HB;replace HB:=bs HB hb;clear hb hbox hg)))
 (try simp only [Act.put,sI,sZ,sS])
 go_cut [1] (fun v1 wc=>∃ (kq:Nat) (x1_2:ByteArray),v1 = .string x1_2 ∧ Aside0 (spec_l01Canonical.j2 kq a0 x1_2 = some (r1,r2)) ∧ Aside0 (kq ≤ k) ∧ Aside0 (wc.heap[gb104]? = some (.cells #[.string ⟨#[]⟩,.string ⟨#[]⟩] 25 (0,0))) ∧ Aside0 (Below w.heap.size w wc))
 case first =>
  have H:=HC3.out
  clear HC3
  have H':=aM H
  clear H
  go_wp2
  repeat (go_quiet (fail);try go_wp2)
  go_loopg [1,6] k (fun kq v1 v6 w'=>∃ (x1_1:ByteArray) (x6_1:Int),v1 = .string x1_1 ∧ v6 = .int .i64 x6_1 ∧ Aside0 (spec_l01Canonical.l0 kq a0 x1_1 (a1.size:Int) x6_1 = some (r1,r2)) ∧ Aside0 (kq ≤ k) ∧ Aside0 (w'.heap[gb104]? = some (.cells #[.string ⟨#[]⟩,.string ⟨#[]⟩] 25 (0,0))) ∧ Aside0 (Below w.heap.size w w'))
  case atStart=>exact ⟨(a1),(1),(by first|rfl|(simp;done)|(simp [*];done)),(by first|rfl|(simp;done)|(simp [*];done)),H',⟨Nat.le_refl _⟩,⟨bk BK104⟩,⟨bb HB⟩⟩
  case round =>
   clear H'
   try clear p2
   try clear c4
   obtain ⟨x1_1,x6_1,rfl,rfl,HA,HK1,BK104,HB⟩:=hrel
   cases gk with
   | zero=>exact absurd HA.out (by simp [spec_l01Canonical.l0])
   | succ k1 =>
    have H:=HA.out
    clear HA
    simp only [spec_l01Canonical.l0] at H
    by_cases c5:x6_1 ≤ (a1.size:Int)
    ·rw [if_pos c5] at H
     have c5b0:decide (x6_1 ≤ (a1.size:Int)) = true:=decide_eq_true c5
     clear c5
     (first|rw [c5b0]|(simp only [i64_w,i32_w];rw [c5b0])|skip)
     by_cases c6:x6_1 = 0
     ·rw [if_pos c6] at H
      exact absurd H (by simp)
     ·rw [if_neg c6] at H
      have c6b0:(x6_1 == 0) = false:=beq_eq_false_iff_ne.mpr c6
      have c6b1:(x6_1 != 0) = true:=bne_iff_ne.mpr c6
      have c7t:=Int.tmod_eq_emod_of_nonneg (a:=(a1.size:Int)) (b:=x6_1) (by omega)
      by_cases c7:(Int.tmod (a1.size:Int) x6_1) = 0
      ·rw [if_pos c7] at H
       have c7b0:((Int.tmod (a1.size:Int) x6_1) == 0) = true:=beq_iff_eq.mpr c7
       have c7b1:((Int.tmod (a1.size:Int) x6_1) != 0) = false:=bne_eq_false_iff_eq.mpr c7
       try (have c7u:=c7b0;rw [c7t] at c7u;have c7v:=c7b1;rw [c7t] at c7v)
       clear c7
       have H':=aM H
       clear H
       go_wp2
       repeat (go_quiet (fail);try go_wp2)
       go_loopg [7,8] k1 (fun kq v7 v8 w'=>∃ (x7_2:Bool) (x8_2:Int),v7 = .bool x7_2 ∧ v8 = .int .i64 x8_2 ∧ Aside0 (spec_l01Canonical.l1 kq a0 x1_1 (a1.size:Int) x6_1 x7_2 x8_2 = some (r1,r2)) ∧ Aside0 (kq ≤ k1) ∧ Aside0 (w'.heap[gb104]? = some (.cells #[.string ⟨#[]⟩,.string ⟨#[]⟩] 25 (0,0))) ∧ Aside0 (Below w.heap.size w w'))
       case atStart=>exact ⟨(true),(x6_1),(by first|rfl|(simp;done)|(simp [*];done)),(by first|rfl|(simp;done)|(simp [*];done)),H',⟨Nat.le_refl _⟩,⟨bk BK104⟩,⟨bb HB⟩⟩
       case round =>
        clear H'
        try clear p2
        try clear c4
        try clear c5
        try clear c5b0
        try clear c6
        try clear c6b0
        try clear c6b1
        try clear c7
        try clear c7b0
        try clear c7b1
        try clear p2
        obtain ⟨x7_2,x8_2,rfl,rfl,HA,HK2,BK104,HB⟩:=hrel
        cases gk with
        | zero=>exact absurd HA.out (by simp [spec_l01Canonical.l1])
        | succ k2 =>
         have H:=HA.out
         clear HA
         simp only [spec_l01Canonical.l1] at H
         by_cases c8:x8_2 < (a1.size:Int)
         ·rw [if_pos c8] at H
          have c8b0:decide (x8_2 < (a1.size:Int)) = true:=decide_eq_true c8
          clear c8
          by_cases c9:x7_2 = true
          ·subst c9
           have H1:(if 0 ≤ x8_2 then (if x8_2 < (x1_1.size:Int) then (if 0 ≤ (wrap64 (x8_2 - x6_1)) then (if (wrap64 (x8_2 - x6_1)) < (x1_1.size:Int) then (spec_l01Canonical.l1 k2 a0 x1_1 (a1.size:Int) x6_1 ((bt x1_1 x8_2) == (bt x1_1 (wrap64 (x8_2 - x6_1)))) (wrap64 (x8_2 + 1))) else (none)) else (none)) else (none)) else (none)) = some (r1,r2):=by rw [if_pos rfl] at H;exact H
           clear H
           have H:=H1
           clear H1
           by_cases c10:0 ≤ x8_2
           ·rw [if_pos c10] at H
            have c10b0:decide (0 ≤ x8_2) = true:=decide_eq_true c10
            clear c10
            by_cases c11:x8_2 < (x1_1.size:Int)
            ·rw [if_pos c11] at H
             have c11b0:decide (x8_2 < (x1_1.size:Int)) = true:=decide_eq_true c11
             clear c11
             obtain ⟨ji13,hji13⟩:∃ j_:Int,(wrap64 (x8_2 - x6_1)) = j_:=⟨_,rfl⟩
             replace H:(if 0 ≤ (ji13) then (if (ji13) < (x1_1.size:Int) then (spec_l01Canonical.l1 k2 a0 x1_1 (a1.size:Int) x6_1 ((bt x1_1 x8_2) == (bt x1_1 (ji13))) (wrap64 (x8_2 + 1))) else (none)) else (none)) = some (r1,r2):=by first|(rw [hji13] at H;exact H)|(simp only [hji13] at H ⊢;exact H)
             have hji13w:(IntKind.i64.wrap (x8_2 - x6_1)) = ji13:=(i64_w _).trans hji13
             by_cases c14:0 ≤ (ji13)
             ·rw [if_pos c14] at H
              have c14b0:decide (0 ≤ (ji13)) = true:=decide_eq_true c14
              clear c14
              by_cases c15:(ji13) < (x1_1.size:Int)
              ·rw [if_pos c15] at H
               have c15b0:decide ((ji13) < (x1_1.size:Int)) = true:=decide_eq_true c15
               clear c15
               have H':=aM H
               clear H
               have p12:0 ≤ (x8_2:Int):=of_decide_eq_true (by assumption)
               have q12:x8_2 < (x1_1.size:Int):=of_decide_eq_true (by assumption)
               have hx12:=bt_at x1_1 x8_2
               replace p12:=eq_true p12;replace q12:=eq_true q12
               have p16:0 ≤ ((ji13):Int):=of_decide_eq_true (by assumption)
               have q16:(ji13) < (x1_1.size:Int):=of_decide_eq_true (by assumption)
               have hx16:=bt_at x1_1 (ji13)
               replace p16:=eq_true p16;replace q16:=eq_true q16
               go_wp2
               repeat (go_quiet (fail);try go_wp2)
               go_roundg k2
               case measure=>have:=HK1.out;have:=HK2.out;omega
               case rel=>exact ⟨(((bt x1_1 x8_2) == (bt x1_1 (ji13)))),(wrap64 (x8_2 + 1)),(by first|rfl|(simp;done)|(simp only [← hji13] <;> (first|rfl|simp))|(simp [*];done)),(by first|rfl|(simp;done)|(simp [*];done)),H',⟨by have:=HK1.out;have:=HK2.out;omega⟩,⟨bk BK104⟩,⟨bb HB⟩⟩
              ·rw [if_neg c15] at H
               exact absurd H (by simp)
             ·rw [if_neg c14] at H
              exact absurd H (by simp)
            ·rw [if_neg c11] at H
             exact absurd H (by simp)
           ·rw [if_neg c10] at H
            exact absurd H (by simp)
          ·replace c9:=Bool.eq_false_iff.mpr c9
           subst c9
           have H1:(spec_l01Canonical.l1 k2 a0 x1_1 (a1.size:Int) x6_1 false (wrap64 (x8_2 + 1))) = some (r1,r2):=by rw [if_neg (show ¬ (false = true) by decide)] at H;exact H
           clear H
           have H:=H1
           clear H1
           have H':=aM H
           clear H
           go_wp2
           repeat (go_quiet (fail);try go_wp2)
           go_roundg k2
           case measure=>have:=HK1.out;have:=HK2.out;omega
           case rel=>exact ⟨(false),(wrap64 (x8_2 + 1)),(by first|rfl|(simp;done)|(simp [*];done)),(by first|rfl|(simp;done)|(simp [*];done)),H',⟨by have:=HK1.out;have:=HK2.out;omega⟩,⟨bk BK104⟩,⟨bb HB⟩⟩
         ·rw [if_neg c8] at H
          have c8b0:decide (x8_2 < (a1.size:Int)) = false:=decide_eq_false c8
          clear c8
          by_cases c17:x7_2 = true
          ·subst c17
           have H1:(if 0 ≤ x6_1 then (if x6_1 ≤ (x1_1.size:Int) then (spec_l01Canonical.j2 k2 a0 (x1_1.extract 0 (x6_1:Int).toNat)) else (none)) else (none)) = some (r1,r2):=by rw [if_pos rfl] at H;exact H
           clear H
           have H:=H1
           clear H1
           by_cases c18:0 ≤ x6_1
           ·rw [if_pos c18] at H
            have c18b0:=eq_true c18
            have c18b1:decide (0 ≤ x6_1) = true:=decide_eq_true c18
            clear c18
            by_cases c19:x6_1 ≤ (x1_1.size:Int)
            ·rw [if_pos c19] at H
             have c19b0:=eq_true c19
             have c19b1:decide (x6_1 ≤ (x1_1.size:Int)) = true:=decide_eq_true c19
             clear c19
             have H':=aM H
             clear H
             go_wp2
             repeat (go_quiet (fail);try go_wp2)
             go_meet
             case rel=>exact ⟨_,(x1_1.extract 0 (x6_1:Int).toNat),(by first|rfl|(simp;done)|(simp [*];done)),H',⟨by have:=HK1.out;have:=HK2.out;first|omega|exact Nat.le_refl _⟩,⟨bk BK104⟩,⟨bb HB⟩⟩
            ·rw [if_neg c19] at H
             exact absurd H (by simp)
           ·rw [if_neg c18] at H
            exact absurd H (by simp)
          ·replace c17:=Bool.eq_false_iff.mpr c17
           subst c17
           have H1:(spec_l01Canonical.l0 k2 a0 x1_1 (a1.size:Int) (wrap64 (x6_1 + 1))) = some (r1,r2):=by rw [if_neg (show ¬ (false = true) by decide)] at H;exact H
           clear H
           have H:=H1
           clear H1
           have H':=aM H
           clear H
           go_wp2
           repeat (go_quiet (fail);try go_wp2)
           go_roundg k2
           case measure=>have:=HK1.out;have:=HK2.out;omega
           case rel=>exact ⟨(x1_1),(wrap64 (x6_1 + 1)),(by first|rfl|(simp;done)|(simp [*];done)),(by first|rfl|(simp;done)|(simp [*];done)),H',⟨by have:=HK1.out;have:=HK2.out;omega⟩,⟨bk BK104⟩,⟨bb HB⟩⟩
      ·rw [if_neg c7] at H
       have c7b0:((Int.tmod (a1.size:Int) x6_1) == 0) = false:=beq_eq_false_iff_ne.mpr c7
       have c7b1:((Int.tmod (a1.size:Int) x6_1) != 0) = true:=bne_iff_ne.mpr c7
       try (have c7u:=c7b0;rw [c7t] at c7u;have c7v:=c7b1;rw [c7t] at c7v)
       have H':=aM H
       clear H
       go_wp2
       repeat (go_quiet (fail);try go_wp2)
       go_roundg k1
       case measure=>have:=HK1.out;omega
       case rel=>exact ⟨(x1_1),(wrap64 (x6_1 + 1)),(by first|rfl|(simp;done)|(simp [*];done)),(by first|rfl|(simp;done)|(simp [*];done)),H',⟨by have:=HK1.out;omega⟩,⟨bk BK104⟩,⟨bb HB⟩⟩
    ·rw [if_neg c5] at H
     have c5b0:decide (x6_1 ≤ (a1.size:Int)) = false:=decide_eq_false c5
     clear c5
     (first|rw [c5b0]|(simp only [i64_w,i32_w];rw [c5b0])|skip)
     have H':=aM H
     clear H
     go_wp2
     repeat (go_quiet (fail);try go_wp2)
     go_meet
     case rel=>exact ⟨_,(x1_1),(by first|rfl|(simp;done)|(simp [*];done)),H',⟨by have:=HK1.out;first|omega|exact Nat.le_refl _⟩,⟨bk BK104⟩,⟨bb HB⟩⟩
 case rest =>
  clear HC3
  try clear c1
  try clear p1
  try clear q1
  try clear hx1
  try clear p2
  try clear c4
  try clear c5
  try clear c5b0
  try clear c6
  try clear c6b0
  try clear c6b1
  try clear p6
  try clear c7
  try clear c7b0
  try clear c7b1
  try clear c8
  try clear c8b0
  try clear c9
  try clear c10
  try clear c10b0
  try clear c11
  try clear c11b0
  try clear p12
  try clear q12
  try clear hx12
  try clear c14
  try clear c14b0
  try clear c15
  try clear c15b0
  try clear p16
  try clear q16
  try clear hx16
  try clear c17
  try clear c18
  try clear c18b0
  try clear c18b1
  try clear c19
  try clear c19b0
  try clear c19b1
  try clear p12
  try clear p16
  try clear p2
  try clear q12
  try clear q16
  obtain ⟨kq,x1_2,rfl,HA,HJ2,BK104,HB⟩:=hcut
  cases kq with
  | zero=>exact absurd HA.out (by simp [spec_l01Canonical.j2])
  | succ kj2 =>
   have H:=HA.out
   clear HA
   simp only [spec_l01Canonical.j2] at H
   have H':=aM H
   clear H
   go_wp2
   repeat (go_quiet (fail);try go_wp2)
   go_loopg [0,1] kj2 (fun kq v0 v1 w'=>∃ (x0_2:ByteArray) (x1_2:ByteArray),v0 = .string x0_2 ∧ v1 = .string x1_2 ∧ Aside0 (spec_l01Canonical.l2 kq x0_2 x1_2 = some (r1,r2)) ∧ Aside0 (kq ≤ kj2) ∧ Aside0 (w'.heap[gb104]? = some (.cells #[.string ⟨#[]⟩,.string ⟨#[]⟩] 25 (0,0))) ∧ Aside0 (Below w.heap.size w w'))
   case atStart=>exact ⟨(a0),(x1_2),(by first|rfl|(simp;done)|(simp [*];done)),(by first|rfl|(simp;done)|(simp [*];done)),H',⟨Nat.le_refl _⟩,⟨bk BK104⟩,⟨bb HB⟩⟩
   case round =>
    clear H'
    try clear c1
    try clear p1
    try clear q1
    try clear hx1
    try clear p2
    try clear c4
    try clear c5
    try clear c5b0
    try clear c6
    try clear c6b0
    try clear c6b1
    try clear p6
    try clear c7
    try clear c7b0
    try clear c7b1
    try clear c8
    try clear c8b0
    try clear c9
    try clear c10
    try clear c10b0
    try clear c11
    try clear c11b0
    try clear p12
    try clear q12
    try clear hx12
    try clear c14
    try clear c14b0
    try clear c15
    try clear c15b0
    try clear p16
    try clear q16
    try clear hx16
    try clear c17
    try clear c18
    try clear c18b0
    try clear c18b1
    try clear c19
    try clear c19b0
    try clear c19b1
    try clear p1
    try clear p12
    try clear p16
    try clear p2
    try clear p6
    try clear q1
    try clear q12
    try clear q16
    obtain ⟨x0_2,x1_2,rfl,rfl,HA,HK2,BK104,HB⟩:=hrel
    cases gk with
    | zero=>exact absurd HA.out (by simp [spec_l01Canonical.l2])
    | succ k2 =>
     have H:=HA.out
     clear HA
     simp only [spec_l01Canonical.l2] at H
     by_cases c20:(x0_2.size:Int) > 0
     ·rw [if_pos c20] at H
      have c20b0:decide (0 < (x0_2.size:Int)) = true:=decide_eq_true c20
      have c20b1:decide (0 < x0_2.size) = true:=decide_eq_true (by omega)
      clear c20
      obtain ⟨ji21,hji21⟩:∃ j_:Int,(wrap64 ((x0_2.size:Int) - 1)) = j_:=⟨_,rfl⟩
      replace H:(if 0 ≤ (ji21) then (if (ji21) < (x0_2.size:Int) then (if 0 ≤ (wrap64 ((x1_2.size:Int) - 1)) then (if (wrap64 ((x1_2.size:Int) - 1)) < (x1_2.size:Int) then (if (bt x0_2 (ji21)) = (bt x1_2 (wrap64 ((x1_2.size:Int) - 1))) then (if (wrap64 ((x1_2.size:Int) - 1)) ≤ (x1_2.size:Int) then (if (x1_2.extract ((wrap64 ((x1_2.size:Int) - 1)):Int).toNat x1_2.size).size + (x1_2.extract 0 ((wrap64 ((x1_2.size:Int) - 1)):Int).toNat).size ≤ 9223372036854775807 then (if (ji21) ≤ (x0_2.size:Int) then (spec_l01Canonical.l2 k2 (x0_2.extract 0 ((ji21):Int).toNat) ((x1_2.extract ((wrap64 ((x1_2.size:Int) - 1)):Int).toNat x1_2.size) ++ (x1_2.extract 0 ((wrap64 ((x1_2.size:Int) - 1)):Int).toNat))) else (none)) else (none)) else (none)) else (some (x0_2,x1_2))) else (none)) else (none)) else (none)) else (none)) = some (r1,r2):=by first|(rw [hji21] at H;exact H)|(simp only [hji21] at H ⊢;exact H)
      have hji21w:(IntKind.i64.wrap ((x0_2.size:Int) - 1)) = ji21:=(i64_w _).trans hji21
      by_cases c22:0 ≤ (ji21)
      ·rw [if_pos c22] at H
       have c22b0:decide (0 ≤ (ji21)) = true:=decide_eq_true c22
       clear c22
       by_cases c23:(ji21) < (x0_2.size:Int)
       ·rw [if_pos c23] at H
        have c23b0:decide ((ji21) < (x0_2.size:Int)) = true:=decide_eq_true c23
        clear c23
        obtain ⟨ji25,hji25⟩:∃ j_:Int,(wrap64 ((x1_2.size:Int) - 1)) = j_:=⟨_,rfl⟩
        replace H:(if 0 ≤ (ji25) then (if (ji25) < (x1_2.size:Int) then (if (bt x0_2 (ji21)) = (bt x1_2 (ji25)) then (if (ji25) ≤ (x1_2.size:Int) then (if (x1_2.extract ((ji25):Int).toNat x1_2.size).size + (x1_2.extract 0 ((ji25):Int).toNat).size ≤ 9223372036854775807 then (if (ji21) ≤ (x0_2.size:Int) then (spec_l01Canonical.l2 k2 (x0_2.extract 0 ((ji21):Int).toNat) ((x1_2.extract ((ji25):Int).toNat x1_2.size) ++ (x1_2.extract 0 ((ji25):Int).toNat))) else (none)) else (none)) else (none)) else (some (x0_2,x1_2))) else (none)) else (none)) = some (r1,r2):=by first|(rw [hji25] at H;exact H)|(simp only [hji25] at H ⊢;exact H)
        have hji25w:(IntKind.i64.wrap ((x1_2.size:Int) - 1)) = ji25:=(i64_w _).trans hji25
        by_cases c26:0 ≤ (ji25)
        ·rw [if_pos c26] at H
         have c26b0:decide (0 ≤ (ji25)) = true:=decide_eq_true c26
         clear c26
         by_cases c27:(ji25) < (x1_2.size:Int)
         ·rw [if_pos c27] at H
          have c27b0:decide ((ji25) < (x1_2.size:Int)) = true:=decide_eq_true c27
          clear c27
          by_cases c29:(bt x0_2 (ji21)) = (bt x1_2 (ji25))
          ·rw [if_pos c29] at H
           have c29b0:((bt x0_2 (ji21)) == (bt x1_2 (ji25))) = true:=beq_iff_eq.mpr c29
           have c29b1:((bt x0_2 (ji21)) != (bt x1_2 (ji25))) = false:=bne_eq_false_iff_eq.mpr c29
           clear c29
           have c30b0:=eq_true (of_decide_eq_true (by assumption):0 ≤ (ji25))
           by_cases c31:(ji25) ≤ (x1_2.size:Int)
           ·rw [if_pos c31] at H
            have c31b0:=eq_true c31
            have c31b1:decide ((ji25) ≤ (x1_2.size:Int)) = true:=decide_eq_true c31
            clear c31
            have c32b0:=eq_true (of_decide_eq_true (by assumption):0 ≤ (ji25))
            have c33b0:=eq_true (of_decide_eq_true (by assumption):(ji25) ≤ (x1_2.size:Int))
            by_cases c34:(x1_2.extract ((ji25):Int).toNat x1_2.size).size + (x1_2.extract 0 ((ji25):Int).toNat).size ≤ 9223372036854775807
            ·rw [if_pos c34] at H
             have c34b0:=eq_true c34
             have c34b1:decide ((x1_2.extract ((ji25):Int).toNat x1_2.size).size + (x1_2.extract 0 ((ji25):Int).toNat).size ≤ 9223372036854775807) = true:=decide_eq_true c34
             try have c34b2:(9223372036854775807 < (x1_2.extract ((ji25):Int).toNat x1_2.size).size + (x1_2.extract 0 ((ji25):Int).toNat).size) = False:=eq_false (Nat.not_lt.2 c34)
             try (have c34b3:=c34;simp at c34b3;have c34b4:=eq_false (Nat.not_lt.2 c34b3))
             have c35b0:=eq_true (of_decide_eq_true (by assumption):0 ≤ (ji21))
             by_cases c36:(ji21) ≤ (x0_2.size:Int)
             ·rw [if_pos c36] at H
              have c36b0:=eq_true c36
              have c36b1:decide ((ji21) ≤ (x0_2.size:Int)) = true:=decide_eq_true c36
              clear c36
              have H':=aM H
              clear H
              have p24:0 ≤ ((ji21):Int):=of_decide_eq_true (by assumption)
              have q24:(ji21) < (x0_2.size:Int):=of_decide_eq_true (by assumption)
              have hx24:=bt_at x0_2 (ji21)
              replace p24:=eq_true p24;replace q24:=eq_true q24
              have p28:0 ≤ ((ji25):Int):=of_decide_eq_true (by assumption)
              have q28:(ji25) < (x1_2.size:Int):=of_decide_eq_true (by assumption)
              have hx28:=bt_at x1_2 (ji25)
              replace p28:=eq_true p28;replace q28:=eq_true q28
              go_wp2
              repeat (go_quiet (fail);try go_wp2)
              go_roundg k2
              case measure=>have:=HJ2.out;have:=HK2.out;omega
              case rel=>exact ⟨(x0_2.extract 0 ((ji21):Int).toNat),((x1_2.extract ((ji25):Int).toNat x1_2.size) ++ (x1_2.extract 0 ((ji25):Int).toNat)),(by first|rfl|(simp;done)|(simp only [← hji21] <;> (first|rfl|simp))|(simp [*];done)),(by first|rfl|(simp;done)|(simp only [← hji25] <;> (first|rfl|simp))|(simp [*];done)),H',⟨by have:=HJ2.out;have:=HK2.out;omega⟩,⟨bk BK104⟩,⟨bb HB⟩⟩
             ·rw [if_neg c36] at H
              exact absurd H (by simp)
            ·rw [if_neg c34] at H
             exact absurd H (by simp)
           ·rw [if_neg c31] at H
            exact absurd H (by simp)
          ·rw [if_neg c29] at H
           have c29b0:((bt x0_2 (ji21)) == (bt x1_2 (ji25))) = false:=beq_eq_false_iff_ne.mpr c29
           have c29b1:((bt x0_2 (ji21)) != (bt x1_2 (ji25))) = true:=bne_iff_ne.mpr c29
           simp only [Option.some.injEq,Prod.mk.injEq] at H
           obtain ⟨rfl,rfl⟩:=H
           have p24:0 ≤ ((ji21):Int):=of_decide_eq_true (by assumption)
           have q24:(ji21) < (x0_2.size:Int):=of_decide_eq_true (by assumption)
           have hx24:=bt_at x0_2 (ji21)
           replace p24:=eq_true p24;replace q24:=eq_true q24
           have p28:0 ≤ ((ji25):Int):=of_decide_eq_true (by assumption)
           have q28:(ji25) < (x1_2.size:Int):=of_decide_eq_true (by assumption)
           have hx28:=bt_at x1_2 (ji25)
           replace p28:=eq_true p28;replace q28:=eq_true q28;have⟨a0,a1,b0,b1⟩:=q2f BK104
           go_wp2
           repeat (go_quiet (fail);try go_wp2)
           refine bodyPost_ret (results_cell_row rfl _ _ gb104 25 #[.string x0_2,.string x1_2] (0,0) _ rfl (by (with_reducible repeat (first|apply yN|apply yD|apply yA));refine blk_put (cs:=#[.string x0_2,.string ⟨#[]⟩]) ?_ 1 _ rfl;(with_reducible repeat (first|apply yN|apply yD|apply yA));refine blk_put (cs:=#[.string ⟨#[]⟩,.string ⟨#[]⟩]) ?_ 0 _ rfl;(with_reducible repeat (first|apply yN|apply yD|apply yA));exact BK104.out) Try.underlying25 rfl (by kernel_rfl)) rfl ?_
           exact ⟨by first|rfl|(simp [errW_none,errW_some] <;> rfl)|(simp only [← hji21,← hji25];first|rfl|(simp [errW_none,errW_some] <;> rfl))|(simp [*,errW_none,errW_some] <;> rfl),by first|exact bb HB|exact bg HB GE104⟩
         ·rw [if_neg c27] at H
          exact absurd H (by simp)
        ·rw [if_neg c26] at H
         exact absurd H (by simp)
       ·rw [if_neg c23] at H
        exact absurd H (by simp)
      ·rw [if_neg c22] at H
       exact absurd H (by simp)
     ·rw [if_neg c20] at H
      have c20b0:decide (0 < (x0_2.size:Int)) = false:=decide_eq_false c20
      have c20b1:decide (0 < x0_2.size) = false:=decide_eq_false (by omega)
      clear c20
      simp only [Option.some.injEq,Prod.mk.injEq] at H
      obtain ⟨rfl,rfl⟩:=H
      have⟨a0,a1,b0,b1⟩:=q2f BK104
      go_wp2
      repeat (go_quiet (fail);try go_wp2)
      refine bodyPost_ret (results_cell_row rfl _ _ gb104 25 #[.string x0_2,.string x1_2] (0,0) _ rfl (by (with_reducible repeat (first|apply yN|apply yD|apply yA));refine blk_put (cs:=#[.string x0_2,.string ⟨#[]⟩]) ?_ 1 _ rfl;(with_reducible repeat (first|apply yN|apply yD|apply yA));refine blk_put (cs:=#[.string ⟨#[]⟩,.string ⟨#[]⟩]) ?_ 0 _ rfl;(with_reducible repeat (first|apply yN|apply yD|apply yA));exact BK104.out) Try.underlying25 rfl (by kernel_rfl)) rfl ?_
      exact ⟨rfl,by first|exact bb HB|exact bg HB GE104⟩
def strings_Repeat.f (a0:ByteArray) (a1:Int):Option ByteArray:=if 0 ≤ a1 ∧ a1 ≤ 9223372036854775807 ∧ a0.size * a1.toNat ≤ 8192 then some (Go.Proofs.Ytmhpbilkocnlnaa.Rep.val a0 a1) else none
theorem strings_Repeat.calls (a0:ByteArray) (a1:Int) (r:ByteArray) (w:World) (h:strings_Repeat.f a0 a1 = some r) :
  Calls Try.prog 72 #[.string a0,.int .i64 a1] w fun e w'=>e = .returned (.string r) ∧ Below w.heap.size w w':=by
 unfold strings_Repeat.f at h
 split at h
 ·rename_i hc
  obtain rfl:=Option.some.inj h
  exact Go.Proofs.Ytmhpbilkocnlnaa.Rep.calls a0 a1 w hc.1 hc.2.1 hc.2.2
 ·cases h
def impl_root.l0:Nat → ByteArray → Int → Option (ByteArray)
 | 0,_,_=>none
 | k + 1,x0,x3=>if x3 = 0 then (none) else (if ((x0.size:Int) % x3) = 0 then (if 0 ≤ x3 then (if x3 ≤ (x0.size:Int) then ((strings_Repeat.f (x0.extract 0 (x3:Int).toNat) (wrap64 ((x0.size:Int) / x3))).bind fun t414=>(if t414.toList = x0.toList then (some (x0.extract 0 (x3:Int).toNat)) else (impl_root.l0 k x0 (wrap64 (x3 + 1))))) else (none)) else (none)) else (impl_root.l0 k x0 (wrap64 (x3 + 1))))
def impl_root.f (k:Nat) (a0:ByteArray):Option (ByteArray):=impl_root.l0 k a0 1
theorem impl_root.mono_l:∀ k,(∀ y0 y1,LeO (impl_root.l0 k y0 y1) (impl_root.l0 (k + 1) y0 y1))
 | 0=>fun _ _ r h=>by simp [impl_root.l0] at h
 | k + 1=>by
  have ih0:=impl_root.mono_l k
  ·intro y0 y1
   unfold impl_root.l0
   repeat' first
   | (with_reducible exact ih0 _ _)
   | (with_reducible exact LeO.refl _)
   | (with_reducible exact LeO.none _)
   | (with_reducible refine LeO.ite ?_ ?_)
   | (with_reducible refine LeO.bind ?_ (fun _=>?_))
   | exact ih0 _ _
   | exact LeO.none _
   | refine LeO.ite ?_ ?_
   | refine LeO.bind ?_ (fun _=>?_)
theorem impl_root.mono:∀ a0 k,LeO (impl_root.f k a0) (impl_root.f (k + 1) a0):=by
 intro a0 k
 have ih0:=impl_root.mono_l k
 unfold impl_root.f
 repeat' first
   | (with_reducible exact ih0 _ _)
   | (with_reducible exact LeO.refl _)
   | (with_reducible exact LeO.none _)
   | (with_reducible refine LeO.ite ?_ ?_)
   | (with_reducible refine LeO.bind ?_ (fun _=>?_))
   | exact ih0 _ _
   | exact LeO.none _
   | refine LeO.ite ?_ ?_
   | refine LeO.bind ?_ (fun _=>?_)
def impl_root.T2:Bool × List (List Nat × List Nat):=(true,[([],[]),([0],[0]),([],[]),([1,2],[1,2]),([3],[3]),([4],[4]),([5],[5]),([5],[5]),([6,7,5],[5,6,7]),([5],[5]),([9,5],[5,9]),([5],[5]),([10,11,5],[5,10,11]),([8,12,5,5],[5,8,12]),([5],[5]),([13,14,5],[5,13,14]),([5,15],[5,15])])
def impl_root.B2:List Nat:=[0,1,0,7,15,31,63,63,255,63,575,63,3647,8191,63,32767,65535]
theorem impl_root.tab2:rtab .any (opsOf Try.f65 2) = impl_root.T2:=by kernel_rfl
theorem impl_root.bits2:waitsOk impl_root.T2.2 impl_root.B2 = true:=by kernel_rfl
set_option maxHeartbeats 8000000 in
set_option maxRecDepth 100000 in
theorem impl_root.calls (k:Nat) (a0:ByteArray) (r:ByteArray) (w:World) (h:impl_root.f k a0 = some r) :
  Calls Try.prog 65 #[.string a0] w fun e w'=>e = .returned (.string r) ∧ Below w.heap.size w w':=by
 have HB:=aM (Below.refl w.heap.size w)
 have H:(impl_root.l0 k a0 1) = some r:=h
 clear h
 have H':=aM H
 clear H
 go_enter Try.func65,Try.ntmps65
 go_wp2
 go_loopg [3] k (fun kq v3 w'=>∃ (x3_1:Int),v3 = .int .i64 x3_1 ∧ Aside0 (impl_root.l0 kq a0 x3_1 = some r) ∧ Aside0 (kq ≤ k) ∧ Aside0 (Below w.heap.size w w'))
 case atStart=>exact ⟨(1),(by first|rfl|(simp;done)|(simp [*];done)),H',⟨Nat.le_refl _⟩,⟨bb HB⟩⟩
 case round =>
  clear H'
  obtain ⟨x3_1,rfl,HA,HK1,HB⟩:=hrel
  cases gk with
  | zero=>exact absurd HA.out (by simp [impl_root.l0])
  | succ k1 =>
   have H:=HA.out
   clear HA
   simp only [impl_root.l0] at H
   by_cases c2:x3_1 = 0
   ·rw [if_pos c2] at H
    exact absurd H (by simp)
   ·rw [if_neg c2] at H
    have c2b0:(x3_1 == 0) = false:=beq_eq_false_iff_ne.mpr c2
    have c2b1:(x3_1 != 0) = true:=bne_iff_ne.mpr c2
    have c3t:=Int.tmod_eq_emod_of_nonneg (a:=(a0.size:Int)) (b:=x3_1) (by omega)
    by_cases c3:((a0.size:Int) % x3_1) = 0
    ·rw [if_pos c3] at H
     have c3b0:(((a0.size:Int) % x3_1) == 0) = true:=beq_iff_eq.mpr c3
     have c3b1:(((a0.size:Int) % x3_1) != 0) = false:=bne_eq_false_iff_eq.mpr c3
     try (have c3u:=c3b0;rw [c3t] at c3u;have c3v:=c3b1;rw [c3t] at c3v)
     clear c3
     by_cases c4:0 ≤ x3_1
     ·rw [if_pos c4] at H
      have c4b0:=eq_true c4
      have c4b1:decide (0 ≤ x3_1) = true:=decide_eq_true c4
      clear c4
      by_cases c5:x3_1 ≤ (a0.size:Int)
      ·rw [if_pos c5] at H
       have c5b0:=eq_true c5
       have c5b1:decide (x3_1 ≤ (a0.size:Int)) = true:=decide_eq_true c5
       clear c5
       replace H:=Option.bind_eq_some_iff.mp H
       obtain ⟨t414,A60,H⟩:=H
       replace H:(if t414.toList = a0.toList then (some (a0.extract 0 (x3_1:Int).toNat)) else (impl_root.l0 k1 a0 (wrap64 (x3_1 + 1)))) = some r:=H;have A6:=aM A60
       clear A60
       by_cases c7:t414.toList = a0.toList
       ·rw [if_pos c7] at H
        have c7b0:(t414.toList == a0.toList) = true:=beq_iff_eq.mpr c7
        have c7b1:(t414.toList != a0.toList) = false:=bne_eq_false_iff_eq.mpr c7
        clear c7
        have c8b0:=eq_true (of_decide_eq_true (by assumption):0 ≤ x3_1)
        have c9b0:=eq_true (of_decide_eq_true (by assumption):x3_1 ≤ (a0.size:Int))
        obtain rfl:=Option.some.inj H
        try go_wp2
        replace HB:=aM (zD HB.out)
        refine start_ (n:=17) (S:=fun w'=>True) (ds:=[]) #[fF,fF,fF,fF,fF,fF,fF,fF,fF,fF,fF,fF,fF,fF,fF,fF,fF] (by kernel_rfl) rfl rfl trivial (fun hHeld=>?_);refine with_tabW impl_root.tab2 impl_root.bits2 (fun HT_ HW_=>?_)
        generalize wr.drew = w10 at HB hHeld ⊢
        refine pz 4 0 #[tT,fF,fF,fF,fF,fF,fF,fF,fF,fF,fF,fF,fF,fF,fF,fF,fF] HT_ rfl rfl (by kernel_rfl) (fun _ _ _ h=>h) (by rfl) (by intro w';go_simp;with_reducible rfl) (by simp only [Act.put,sI,sZ,sS,i64_w,i32_w];rfl) ?_
        refine pz 5 1 #[tT,tT,fF,fF,fF,fF,fF,fF,fF,fF,fF,fF,fF,fF,fF,fF,fF] HT_ rfl rfl (by kernel_rfl) (fun _ _ _ h=>h) (by rfl) (by intro w';go_simp;with_reducible rfl) (by simp only [Act.put,sI,sZ,sS,i64_w,i32_w];rfl) ?_
        refine pz 6 2 #[tT,tT,tT,fF,fF,fF,fF,fF,fF,fF,fF,fF,fF,fF,fF,fF,fF] HT_ rfl rfl (by kernel_rfl) (fun _ _ _ h=>h) (by rfl) (by intro w';go_simp;with_reducible rfl) (by simp only [Act.put,sI,sZ,sS,i64_w,i32_w];rfl) ?_
        refine pz 7 3 #[tT,tT,tT,tT,fF,fF,fF,fF,fF,fF,fF,fF,fF,fF,fF,fF,fF] HT_ rfl rfl (by kernel_rfl) (fun _ _ _ h=>h) (by rfl) (by intro w';go_simp;with_reducible rfl) (by simp only [Act.put,sI,sZ,sS,i64_w,i32_w];rfl) ?_
        refine pz 8 4 #[tT,tT,tT,tT,tT,fF,fF,fF,fF,fF,fF,fF,fF,fF,fF,fF,fF] HT_ rfl rfl (by kernel_rfl) (fun _ _ _ h=>h) (by rfl) (by intro w';go_simp;with_reducible rfl) (by simp only [Act.put,sI,sZ,sS,i64_w,i32_w];rfl) ?_
        refine pz 9 5 #[tT,tT,tT,tT,tT,tT,fF,fF,fF,fF,fF,fF,fF,fF,fF,fF,fF] HT_ rfl rfl (by kernel_rfl) (fun _ _ _ h=>h) (by rfl) (by intro w';go_simp;with_reducible rfl) (by simp only [Act.put,sI,sZ,sS,i64_w,i32_w];rfl) ?_
        refine pz 10 6 #[tT,tT,tT,tT,tT,tT,tT,fF,fF,fF,fF,fF,fF,fF,fF,fF,fF] HT_ rfl rfl (by kernel_rfl) (fun _ _ _ h=>h) (by rfl) (by intro w';go_simp;with_reducible rfl) (by simp only [Act.put,sI,sZ,sS,i64_w,i32_w];rfl) ?_
        refine pz 11 7 #[tT,tT,tT,tT,tT,tT,tT,tT,fF,fF,fF,fF,fF,fF,fF,fF,fF] HT_ rfl rfl (by kernel_rfl) (fun _ _ _ h=>h) (by rfl) (by intro w';go_simp;with_reducible rfl) (by simp only [Act.put,sI,sZ,sS,i64_w,i32_w];rfl) ?_
        refine pz 12 8 #[tT,tT,tT,tT,tT,tT,tT,tT,tT,fF,fF,fF,fF,fF,fF,fF,fF] HT_ rfl rfl (by kernel_rfl) (fun _ _ _ h=>h) (by rfl) (by intro w';go_simp;with_reducible rfl) (by simp only [Act.put,sI,sZ,sS,i64_w,i32_w];rfl) ?_
        refine pz 13 9 #[tT,tT,tT,tT,tT,tT,tT,tT,tT,tT,fF,fF,fF,fF,fF,fF,fF] HT_ rfl rfl (by kernel_rfl) (fun _ _ _ h=>h) (by rfl) (by intro w';go_simp;with_reducible rfl) (by simp only [Act.put,sI,sZ,sS,i64_w,i32_w];rfl) ?_
        refine pz 14 10 #[tT,tT,tT,tT,tT,tT,tT,tT,tT,tT,tT,fF,fF,fF,fF,fF,fF] HT_ rfl rfl (by kernel_rfl) (fun _ _ _ h=>h) (by rfl) (by intro w';go_simp;with_reducible rfl) (by simp only [Act.put,sI,sZ,sS,i64_w,i32_w];rfl) ?_
        refine pz 15 11 #[tT,tT,tT,tT,tT,tT,tT,tT,tT,tT,tT,tT,fF,fF,fF,fF,fF] HT_ rfl rfl (by kernel_rfl) (fun _ _ _ h=>h) (by rfl) (by intro w';go_simp;with_reducible rfl) (by simp only [Act.put,sI,sZ,sS,i64_w,i32_w];rfl) ?_
        refine pz 16 12 #[tT,tT,tT,tT,tT,tT,tT,tT,tT,tT,tT,tT,tT,fF,fF,fF,fF] HT_ rfl rfl (by kernel_rfl) (fun _ _ _ h=>h) (by rfl) (by intro w';go_simp;with_reducible rfl) (by simp only [Act.put,sI,sZ,sS,i64_w,i32_w];rfl) ?_
        refine pz 18 14 #[tT,tT,tT,tT,tT,tT,tT,tT,tT,tT,tT,tT,tT,fF,tT,fF,fF] HT_ rfl rfl (by kernel_rfl) (fun _ _ _ h=>h) (by rfl) (by intro w';go_simp;with_reducible rfl) (by simp only [Act.put,sI,sZ,sS,i64_w,i32_w];rfl) ?_
        refine one_ (i:=13) (N:=some 17) #[tT,tT,tT,tT,tT,tT,tT,tT,tT,tT,tT,tT,tT,tT,tT,fF,fF] rfl rfl (one_of HT_.out (by kernel_rfl)) (by decide) (fun K hK=>?_)
        refine goes_ Try.func72 (by kernel_rfl) rfl #[.string (a0.extract 0 (x3_1:Int).toNat),.int .i64 (wrap64 ((a0.size:Int) / x3_1))] (by rfl) rfl rfl (by (try simp only [sM,sC,sN]);first|done|rfl) ?_
        with_reducible refine (strings_Repeat.calls (a0.extract 0 (x3_1:Int).toNat) (wrap64 ((a0.size:Int) / x3_1)) t414 _ A6.out).mono ?_
        rintro e w11 ⟨rfl,hb⟩
        refine ⟨_,rfl,?_⟩
        replace HB:=bs HB hb;(try clear hb)
        refine hK.out _ _ trivial (fun hHeld=>?_)
        clear hK K
        refine norm_ (a':=_) (by show Act.put _ _ _=_;simp only [Act.put,sI,sZ,sS,i64_w,i32_w];rfl) ?_
        refine pz 19 15 #[tT,tT,tT,tT,tT,tT,tT,tT,tT,tT,tT,tT,tT,tT,tT,tT,fF] HT_ rfl rfl (by kernel_rfl) (fun _ _ _ h=>h) (by rfl) (by intro w';go_simp;with_reducible rfl) (by simp only [Act.put,sI,sZ,sS,i64_w,i32_w];rfl) ?_
        refine pz 20 16 #[tT,tT,tT,tT,tT,tT,tT,tT,tT,tT,tT,tT,tT,tT,tT,tT,tT] HT_ rfl rfl (by kernel_rfl) (fun _ _ _ h=>h) (by rfl) (by intro w';go_simp;with_reducible rfl) (by simp only [Act.put,sI,sZ,sS,i64_w,i32_w];rfl) ?_
        refine done_ (done_of HT_.out (by kernel_rfl)) ?_
        try go_wp2
        go_ret
        exact ⟨rfl,bb HB⟩
       ·rw [if_neg c7] at H
        have c7b0:(t414.toList == a0.toList) = false:=beq_eq_false_iff_ne.mpr c7
        have c7b1:(t414.toList != a0.toList) = true:=bne_iff_ne.mpr c7
        have H':=aM H
        clear H
        try go_wp2
        replace HB:=aM (zD HB.out)
        refine start_ (n:=17) (S:=fun w'=>True) (ds:=[]) #[fF,fF,fF,fF,fF,fF,fF,fF,fF,fF,fF,fF,fF,fF,fF,fF,fF] (by kernel_rfl) rfl rfl trivial (fun hHeld=>?_);refine with_tabW impl_root.tab2 impl_root.bits2 (fun HT_ HW_=>?_)
        generalize wr.drew = w12 at HB hHeld ⊢
        refine pz 4 0 #[tT,fF,fF,fF,fF,fF,fF,fF,fF,fF,fF,fF,fF,fF,fF,fF,fF] HT_ rfl rfl (by kernel_rfl) (fun _ _ _ h=>h) (by rfl) (by intro w';go_simp;with_reducible rfl) (by simp only [Act.put,sI,sZ,sS,i64_w,i32_w];rfl) ?_
        refine pz 5 1 #[tT,tT,fF,fF,fF,fF,fF,fF,fF,fF,fF,fF,fF,fF,fF,fF,fF] HT_ rfl rfl (by kernel_rfl) (fun _ _ _ h=>h) (by rfl) (by intro w';go_simp;with_reducible rfl) (by simp only [Act.put,sI,sZ,sS,i64_w,i32_w];rfl) ?_
        refine pz 6 2 #[tT,tT,tT,fF,fF,fF,fF,fF,fF,fF,fF,fF,fF,fF,fF,fF,fF] HT_ rfl rfl (by kernel_rfl) (fun _ _ _ h=>h) (by rfl) (by intro w';go_simp;with_reducible rfl) (by simp only [Act.put,sI,sZ,sS,i64_w,i32_w];rfl) ?_
        refine pz 7 3 #[tT,tT,tT,tT,fF,fF,fF,fF,fF,fF,fF,fF,fF,fF,fF,fF,fF] HT_ rfl rfl (by kernel_rfl) (fun _ _ _ h=>h) (by rfl) (by intro w';go_simp;with_reducible rfl) (by simp only [Act.put,sI,sZ,sS,i64_w,i32_w];rfl) ?_
        refine pz 8 4 #[tT,tT,tT,tT,tT,fF,fF,fF,fF,fF,fF,fF,fF,fF,fF,fF,fF] HT_ rfl rfl (by kernel_rfl) (fun _ _ _ h=>h) (by rfl) (by intro w';go_simp;with_reducible rfl) (by simp only [Act.put,sI,sZ,sS,i64_w,i32_w];rfl) ?_
        refine pz 9 5 #[tT,tT,tT,tT,tT,tT,fF,fF,fF,fF,fF,fF,fF,fF,fF,fF,fF] HT_ rfl rfl (by kernel_rfl) (fun _ _ _ h=>h) (by rfl) (by intro w';go_simp;with_reducible rfl) (by simp only [Act.put,sI,sZ,sS,i64_w,i32_w];rfl) ?_
        refine pz 10 6 #[tT,tT,tT,tT,tT,tT,tT,fF,fF,fF,fF,fF,fF,fF,fF,fF,fF] HT_ rfl rfl (by kernel_rfl) (fun _ _ _ h=>h) (by rfl) (by intro w';go_simp;with_reducible rfl) (by simp only [Act.put,sI,sZ,sS,i64_w,i32_w];rfl) ?_
        refine pz 11 7 #[tT,tT,tT,tT,tT,tT,tT,tT,fF,fF,fF,fF,fF,fF,fF,fF,fF] HT_ rfl rfl (by kernel_rfl) (fun _ _ _ h=>h) (by rfl) (by intro w';go_simp;with_reducible rfl) (by simp only [Act.put,sI,sZ,sS,i64_w,i32_w];rfl) ?_
        refine pz 12 8 #[tT,tT,tT,tT,tT,tT,tT,tT,tT,fF,fF,fF,fF,fF,fF,fF,fF] HT_ rfl rfl (by kernel_rfl) (fun _ _ _ h=>h) (by rfl) (by intro w';go_simp;with_reducible rfl) (by simp only [Act.put,sI,sZ,sS,i64_w,i32_w];rfl) ?_
        refine pz 13 9 #[tT,tT,tT,tT,tT,tT,tT,tT,tT,tT,fF,fF,fF,fF,fF,fF,fF] HT_ rfl rfl (by kernel_rfl) (fun _ _ _ h=>h) (by rfl) (by intro w';go_simp;with_reducible rfl) (by simp only [Act.put,sI,sZ,sS,i64_w,i32_w];rfl) ?_
        refine pz 14 10 #[tT,tT,tT,tT,tT,tT,tT,tT,tT,tT,tT,fF,fF,fF,fF,fF,fF] HT_ rfl rfl (by kernel_rfl) (fun _ _ _ h=>h) (by rfl) (by intro w';go_simp;with_reducible rfl) (by simp only [Act.put,sI,sZ,sS,i64_w,i32_w];rfl) ?_
        refine pz 15 11 #[tT,tT,tT,tT,tT,tT,tT,tT,tT,tT,tT,tT,fF,fF,fF,fF,fF] HT_ rfl rfl (by kernel_rfl) (fun _ _ _ h=>h) (by rfl) (by intro w';go_simp;with_reducible rfl) (by simp only [Act.put,sI,sZ,sS,i64_w,i32_w];rfl) ?_
        refine pz 16 12 #[tT,tT,tT,tT,tT,tT,tT,tT,tT,tT,tT,tT,tT,fF,fF,fF,fF] HT_ rfl rfl (by kernel_rfl) (fun _ _ _ h=>h) (by rfl) (by intro w';go_simp;with_reducible rfl) (by simp only [Act.put,sI,sZ,sS,i64_w,i32_w];rfl) ?_
        refine pz 18 14 #[tT,tT,tT,tT,tT,tT,tT,tT,tT,tT,tT,tT,tT,fF,tT,fF,fF] HT_ rfl rfl (by kernel_rfl) (fun _ _ _ h=>h) (by rfl) (by intro w';go_simp;with_reducible rfl) (by simp only [Act.put,sI,sZ,sS,i64_w,i32_w];rfl) ?_
        refine one_ (i:=13) (N:=some 17) #[tT,tT,tT,tT,tT,tT,tT,tT,tT,tT,tT,tT,tT,tT,tT,fF,fF] rfl rfl (one_of HT_.out (by kernel_rfl)) (by decide) (fun K hK=>?_)
        refine goes_ Try.func72 (by kernel_rfl) rfl #[.string (a0.extract 0 (x3_1:Int).toNat),.int .i64 (wrap64 ((a0.size:Int) / x3_1))] (by rfl) rfl rfl (by (try simp only [sM,sC,sN]);first|done|rfl) ?_
        with_reducible refine (strings_Repeat.calls (a0.extract 0 (x3_1:Int).toNat) (wrap64 ((a0.size:Int) / x3_1)) t414 _ A6.out).mono ?_
        rintro e w13 ⟨rfl,hb⟩
        refine ⟨_,rfl,?_⟩
        replace HB:=bs HB hb;(try clear hb)
        refine hK.out _ _ trivial (fun hHeld=>?_)
        clear hK K
        refine norm_ (a':=_) (by show Act.put _ _ _=_;simp only [Act.put,sI,sZ,sS,i64_w,i32_w];rfl) ?_
        refine pz 19 15 #[tT,tT,tT,tT,tT,tT,tT,tT,tT,tT,tT,tT,tT,tT,tT,tT,fF] HT_ rfl rfl (by kernel_rfl) (fun _ _ _ h=>h) (by rfl) (by intro w';go_simp;with_reducible rfl) (by simp only [Act.put,sI,sZ,sS,i64_w,i32_w];rfl) ?_
        refine pz 20 16 #[tT,tT,tT,tT,tT,tT,tT,tT,tT,tT,tT,tT,tT,tT,tT,tT,tT] HT_ rfl rfl (by kernel_rfl) (fun _ _ _ h=>h) (by rfl) (by intro w';go_simp;with_reducible rfl) (by simp only [Act.put,sI,sZ,sS,i64_w,i32_w];rfl) ?_
        refine done_ (done_of HT_.out (by kernel_rfl)) ?_
        try go_wp2
        go_roundg k1
        case measure=>have:=HK1.out;omega
        case rel=>exact ⟨(wrap64 (x3_1 + 1)),(by first|rfl|(simp;done)|(simp [*];done)),H',⟨by have:=HK1.out;omega⟩,⟨bb HB⟩⟩
      ·rw [if_neg c5] at H
       exact absurd H (by simp)
     ·rw [if_neg c4] at H
      exact absurd H (by simp)
    ·rw [if_neg c3] at H
     have c3b0:(((a0.size:Int) % x3_1) == 0) = false:=beq_eq_false_iff_ne.mpr c3
     have c3b1:(((a0.size:Int) % x3_1) != 0) = true:=bne_iff_ne.mpr c3
     try (have c3u:=c3b0;rw [c3t] at c3u;have c3v:=c3b1;rw [c3t] at c3v)
     have H':=aM H
     clear H
     try go_wp2
     replace HB:=aM (zD HB.out)
     refine start_ (n:=17) (S:=fun w'=>True) (ds:=[]) #[fF,fF,fF,fF,fF,fF,fF,fF,fF,fF,fF,fF,fF,fF,fF,fF,fF] (by kernel_rfl) rfl rfl trivial (fun hHeld=>?_);refine with_tabW impl_root.tab2 impl_root.bits2 (fun HT_ HW_=>?_)
     generalize wr.drew = w14 at HB hHeld ⊢
     refine pz 4 0 #[tT,fF,fF,fF,fF,fF,fF,fF,fF,fF,fF,fF,fF,fF,fF,fF,fF] HT_ rfl rfl (by kernel_rfl) (fun _ _ _ h=>h) (by rfl) (by intro w';go_simp;with_reducible rfl) (by simp only [Act.put,sI,sZ,sS,i64_w,i32_w];rfl) ?_
     refine pz 5 1 #[tT,tT,fF,fF,fF,fF,fF,fF,fF,fF,fF,fF,fF,fF,fF,fF,fF] HT_ rfl rfl (by kernel_rfl) (fun _ _ _ h=>h) (by rfl) (by intro w';go_simp;with_reducible rfl) (by simp only [Act.put,sI,sZ,sS,i64_w,i32_w];rfl) ?_
     refine pz 6 2 #[tT,tT,tT,fF,fF,fF,fF,fF,fF,fF,fF,fF,fF,fF,fF,fF,fF] HT_ rfl rfl (by kernel_rfl) (fun _ _ _ h=>h) (by rfl) (by intro w';go_simp;with_reducible rfl) (by simp only [Act.put,sI,sZ,sS,i64_w,i32_w];rfl) ?_
     refine pz 7 3 #[tT,tT,tT,tT,fF,fF,fF,fF,fF,fF,fF,fF,fF,fF,fF,fF,fF] HT_ rfl rfl (by kernel_rfl) (fun _ _ _ h=>h) (by rfl) (by intro w';go_simp;with_reducible rfl) (by simp only [Act.put,sI,sZ,sS,i64_w,i32_w];rfl) ?_
     refine pz 8 4 #[tT,tT,tT,tT,tT,fF,fF,fF,fF,fF,fF,fF,fF,fF,fF,fF,fF] HT_ rfl rfl (by kernel_rfl) (fun _ _ _ h=>h) (by rfl) (by intro w';go_simp;with_reducible rfl) (by simp only [Act.put,sI,sZ,sS,i64_w,i32_w];rfl) ?_
     refine pz 9 5 #[tT,tT,tT,tT,tT,tT,fF,fF,fF,fF,fF,fF,fF,fF,fF,fF,fF] HT_ rfl rfl (by kernel_rfl) (fun _ _ _ h=>h) (by rfl) (by intro w';go_simp;with_reducible rfl) (by simp only [Act.put,sI,sZ,sS,i64_w,i32_w];rfl) ?_
     refine pu 10 6 #[tT,tT,tT,tT,tT,tT,tT,fF,fF,fF,fF,fF,fF,fF,fF,fF,fF] HT_ rfl rfl (by kernel_rfl) (fun _ _ _ h=>h) (by rfl) (by simp only [Act.put,sI,sZ,sS,i64_w,i32_w];rfl) ?_
     refine pu 11 7 #[tT,tT,tT,tT,tT,tT,tT,tT,fF,fF,fF,fF,fF,fF,fF,fF,fF] HT_ rfl rfl (by kernel_rfl) (fun _ _ _ h=>h) (by rfl) (by simp only [Act.put,sI,sZ,sS,i64_w,i32_w];rfl) ?_
     refine pu 12 8 #[tT,tT,tT,tT,tT,tT,tT,tT,tT,fF,fF,fF,fF,fF,fF,fF,fF] HT_ rfl rfl (by kernel_rfl) (fun _ _ _ h=>h) (by rfl) (by simp only [Act.put,sI,sZ,sS,i64_w,i32_w];rfl) ?_
     refine pu 13 9 #[tT,tT,tT,tT,tT,tT,tT,tT,tT,tT,fF,fF,fF,fF,fF,fF,fF] HT_ rfl rfl (by kernel_rfl) (fun _ _ _ h=>h) (by rfl) (by simp only [Act.put,sI,sZ,sS,i64_w,i32_w];rfl) ?_
     refine pu 14 10 #[tT,tT,tT,tT,tT,tT,tT,tT,tT,tT,tT,fF,fF,fF,fF,fF,fF] HT_ rfl rfl (by kernel_rfl) (fun _ _ _ h=>h) (by rfl) (by simp only [Act.put,sI,sZ,sS,i64_w,i32_w];rfl) ?_
     refine pu 15 11 #[tT,tT,tT,tT,tT,tT,tT,tT,tT,tT,tT,tT,fF,fF,fF,fF,fF] HT_ rfl rfl (by kernel_rfl) (fun _ _ _ h=>h) (by rfl) (by simp only [Act.put,sI,sZ,sS,i64_w,i32_w];rfl) ?_
     refine pu 16 12 #[tT,tT,tT,tT,tT,tT,tT,tT,tT,tT,tT,tT,tT,fF,fF,fF,fF] HT_ rfl rfl (by kernel_rfl) (fun _ _ _ h=>h) (by rfl) (by simp only [Act.put,sI,sZ,sS,i64_w,i32_w];rfl) ?_
     refine pu 17 13 #[tT,tT,tT,tT,tT,tT,tT,tT,tT,tT,tT,tT,tT,tT,fF,fF,fF] HT_ rfl rfl (by kernel_rfl) (fun _ _ _ h=>h) (by rfl) (by simp only [Act.put,sI,sZ,sS,i64_w,i32_w];rfl) ?_
     refine pu 18 14 #[tT,tT,tT,tT,tT,tT,tT,tT,tT,tT,tT,tT,tT,tT,tT,fF,fF] HT_ rfl rfl (by kernel_rfl) (fun _ _ _ h=>h) (by rfl) (by simp only [Act.put,sI,sZ,sS,i64_w,i32_w];rfl) ?_
     refine pu 19 15 #[tT,tT,tT,tT,tT,tT,tT,tT,tT,tT,tT,tT,tT,tT,tT,tT,fF] HT_ rfl rfl (by kernel_rfl) (fun _ _ _ h=>h) (by rfl) (by simp only [Act.put,sI,sZ,sS,i64_w,i32_w];rfl) ?_
     refine pz 20 16 #[tT,tT,tT,tT,tT,tT,tT,tT,tT,tT,tT,tT,tT,tT,tT,tT,tT] HT_ rfl rfl (by kernel_rfl) (fun _ _ _ h=>h) (by rfl) (by intro w';go_simp;with_reducible rfl) (by simp only [Act.put,sI,sZ,sS,i64_w,i32_w];rfl) ?_
     refine done_ (done_of HT_.out (by kernel_rfl)) ?_
     try go_wp2
     go_roundg k1
     case measure=>have:=HK1.out;omega
     case rel=>exact ⟨(wrap64 (x3_1 + 1)),(by first|rfl|(simp;done)|(simp [*];done)),H',⟨by have:=HK1.out;omega⟩,⟨bb HB⟩⟩
def impl_sequence.l0:Nat → ByteArray → ByteArray → Option (ByteArray × ByteArray)
 | 0,_,_=>none
 | k + 1,x0,x1=>if x0.toList = ([]:List UInt8) then (some (x0,x1)) else (if 0 ≤ (wrap64 ((x0.size:Int) - 1)) then (if (wrap64 ((x0.size:Int) - 1)) < (x0.size:Int) then (if 0 ≤ (wrap64 ((x1.size:Int) - 1)) then (if (wrap64 ((x1.size:Int) - 1)) < (x1.size:Int) then (if (bt x0 (wrap64 ((x0.size:Int) - 1))) = (bt x1 (wrap64 ((x1.size:Int) - 1))) then (if (wrap64 ((x0.size:Int) - 1)) ≤ (x0.size:Int) then (if (wrap64 ((x1.size:Int) - 1)) ≤ (x1.size:Int) then (if (x1.extract ((wrap64 ((x1.size:Int) - 1)):Int).toNat x1.size).size + (x1.extract 0 ((wrap64 ((x1.size:Int) - 1)):Int).toNat).size ≤ 9223372036854775807 then (impl_sequence.l0 k (x0.extract 0 ((wrap64 ((x0.size:Int) - 1)):Int).toNat) ((x1.extract ((wrap64 ((x1.size:Int) - 1)):Int).toNat x1.size) ++ (x1.extract 0 ((wrap64 ((x1.size:Int) - 1)):Int).toNat))) else (none)) else (none)) else (none)) else (some (x0,x1))) else (none)) else (none)) else (none)) else (none))
def impl_sequence.f (k:Nat) (a0:ByteArray) (a1:ByteArray):Option (ByteArray × ByteArray):=(impl_root.f k a1).bind fun t416=>(impl_sequence.l0 k a0 t416)
theorem impl_sequence.mono_l:∀ k,(∀ y0 y1,LeO (impl_sequence.l0 k y0 y1) (impl_sequence.l0 (k + 1) y0 y1))
 | 0=>fun _ _ r h=>by simp [impl_sequence.l0] at h
 | k + 1=>by
  have ih0:=impl_sequence.mono_l k
  ·intro y0 y1
   unfold impl_sequence.l0
   repeat' first
   | (with_reducible exact ih0 _ _)
   | (with_reducible exact impl_root.mono _ _)
   | (with_reducible exact LeO.refl _)
   | (with_reducible exact LeO.none _)
   | (with_reducible refine LeO.ite ?_ ?_)
   | (with_reducible refine LeO.bind ?_ (fun _=>?_))
   | exact ih0 _ _
   | exact impl_root.mono _ _
   | exact LeO.none _
   | refine LeO.ite ?_ ?_
   | refine LeO.bind ?_ (fun _=>?_)
theorem impl_sequence.mono:∀ a0 a1 k,LeO (impl_sequence.f k a0 a1) (impl_sequence.f (k + 1) a0 a1):=by
 intro a0 a1 k
 have ih0:=impl_sequence.mono_l k
 unfold impl_sequence.f
 repeat' first
   | (with_reducible exact ih0 _ _)
   | (with_reducible exact impl_root.mono _ _)
   | (with_reducible exact LeO.refl _)
   | (with_reducible exact LeO.none _)
   | (with_reducible refine LeO.ite ?_ ?_)
   | (with_reducible refine LeO.bind ?_ (fun _=>?_))
   | exact ih0 _ _
   | exact impl_root.mono _ _
   | exact LeO.none _
   | refine LeO.ite ?_ ?_
   | refine LeO.bind ?_ (fun _=>?_)
set_option maxHeartbeats 8000000 in
set_option maxRecDepth 100000 in
theorem impl_sequence.calls (k:Nat) (a0:ByteArray) (a1:ByteArray) (r1:ByteArray) (r2:ByteArray) (w:World) (h:impl_sequence.f k a0 a1 = some (r1,r2)) :
  Calls Try.prog 43 #[.string a0,.string a1] w fun e w'=>e = .returned (.agg #[.string r1,.string r2]) ∧ Below w.heap.size w w':=by
 have hu25:=Try.underlying25
 have HB:=aM (Below.refl w.heap.size w)
 have H:((impl_root.f k a1).bind fun t416=>(impl_sequence.l0 k a0 t416)) = some (r1,r2):=h
 clear h
 replace H:=Option.bind_eq_some_iff.mp H
 obtain ⟨t416,A30,H⟩:=H
 replace H:(impl_sequence.l0 k a0 t416) = some (r1,r2):=H;have A3:=aM A30
 clear A30
 have H':=aM H
 clear H
 go_enter Try.func43,Try.ntmps43
 go_wp2_with (first|((with_reducible refine gate_dst (N:=4) rfl ?_);(try (refine gate_guard (by rfl) ?_;dsimp only));refine box_event rfl (N:=4) rfl (cs:=#[.string ⟨#[]⟩,.string ⟨#[]⟩]) (t:=25) (by first|(go_simp;done)|(go_simp;rfl)) ?_;intro gb415 hg w4 hbox hb;have BK415:=aM (hbox);have GW415:=wl hg HB;have GE415:=wl hg HB;replace HB:=bs HB hb;clear hb hbox hg)|(go_at_call 65;(with_reducible refine (impl_root.calls k a1 t416 _ A3.out).mono ?_);rintro e w5 ⟨rfl,hb⟩;replace BK415:=kb BK415 hb;replace HB:=bs HB hb;(try clear hb)))
 repeat (go_quiet (first|((with_reducible refine gate_dst (N:=4) rfl ?_);(try (refine gate_guard (by rfl) ?_;dsimp only));refine box_event rfl (N:=4) rfl (cs:=#[.string ⟨#[]⟩,.string ⟨#[]⟩]) (t:=25) (by first|(go_simp;done)|(go_simp;rfl)) ?_;intro gb415 hg w4 hbox hb;have BK415:=aM (hbox);have GW415:=wl hg HB;have GE415:=wl hg HB;replace HB:=bs HB hb;clear hb hbox hg)|(go_at_call 65;(with_reducible refine (impl_root.calls k a1 t416 _ A3.out).mono ?_);rintro e w5 ⟨rfl,hb⟩;replace BK415:=kb BK415 hb;replace HB:=bs HB hb;(try clear hb)));try go_wp2_with (first|((with_reducible refine gate_dst (N:=4) rfl ?_);(try (refine gate_guard (by rfl) ?_;dsimp only));refine box_event rfl (N:=4) rfl (cs:=#[.string ⟨#[]⟩,.string ⟨#[]⟩]) (t:=25) (by first|(go_simp;done)|(go_simp;rfl)) ?_;intro gb415 hg w4 hbox hb;have BK415:=aM (hbox);have GW415:=wl hg HB;have GE415:=wl hg HB;replace HB:=bs HB hb;clear hb hbox hg)|(go_at_call 65;(with_reducible refine (impl_root.calls k a1 t416 _ A3.out).mono ?_);rintro e w5 ⟨rfl,hb⟩;replace BK415:=kb BK415 hb;replace HB:=bs HB hb;(try clear hb))))
 go_loopg [0,1] k (fun kq v0 v1 w'=>∃ (x0_1:ByteArray) (x1_1:ByteArray),v0 = .string x0_1 ∧ v1 = .string x1_1 ∧ Aside0 (impl_sequence.l0 kq x0_1 x1_1 = some (r1,r2)) ∧ Aside0 (kq ≤ k) ∧ Aside0 (w'.heap[gb415]? = some (.cells #[.string ⟨#[]⟩,.string ⟨#[]⟩] 25 (0,0))) ∧ Aside0 (Below w.heap.size w w'))
 case atStart=>exact ⟨(a0),(t416),(by first|rfl|(simp;done)|(simp [*];done)),(by first|rfl|(simp;done)|(simp [*];done)),H',⟨Nat.le_refl _⟩,⟨bk BK415⟩,⟨bb HB⟩⟩
 case round =>
  clear H'
  try clear p2
  try clear c4
  obtain ⟨x0_1,x1_1,rfl,rfl,HA,HK1,BK415,HB⟩:=hrel
  cases gk with
  | zero=>exact absurd HA.out (by simp [impl_sequence.l0])
  | succ k1 =>
   have H:=HA.out
   clear HA
   simp only [impl_sequence.l0] at H
   by_cases c6:x0_1.toList = ([]:List UInt8)
   ·rw [if_pos c6] at H
    have c6b0:(x0_1.toList == ([]:List UInt8)) = true:=beq_iff_eq.mpr c6
    have c6b1:(x0_1.toList != ([]:List UInt8)) = false:=bne_eq_false_iff_eq.mpr c6
    clear c6
    simp only [Option.some.injEq,Prod.mk.injEq] at H
    obtain ⟨rfl,rfl⟩:=H
    have⟨a0,a1,b0,b1⟩:=q2f BK415
    go_wp2
    repeat (go_quiet (fail);try go_wp2)
    refine bodyPost_ret (results_cell_row rfl _ _ gb415 25 #[.string x0_1,.string x1_1] (0,0) _ rfl (by (with_reducible repeat (first|apply yN|apply yD|apply yA));refine blk_put (cs:=#[.string x0_1,.string ⟨#[]⟩]) ?_ 1 _ rfl;(with_reducible repeat (first|apply yN|apply yD|apply yA));refine blk_put (cs:=#[.string ⟨#[]⟩,.string ⟨#[]⟩]) ?_ 0 _ rfl;(with_reducible repeat (first|apply yN|apply yD|apply yA));exact BK415.out) Try.underlying25 rfl (by kernel_rfl)) rfl ?_
    exact ⟨rfl,by first|exact bb HB|exact bg HB GE415⟩
   ·rw [if_neg c6] at H
    have c6b0:(x0_1.toList == ([]:List UInt8)) = false:=beq_eq_false_iff_ne.mpr c6
    have c6b1:(x0_1.toList != ([]:List UInt8)) = true:=bne_iff_ne.mpr c6
    obtain ⟨ji8,hji8⟩:∃ j_:Int,(wrap64 ((x0_1.size:Int) - 1)) = j_:=⟨_,rfl⟩
    replace H:(if 0 ≤ (ji8) then (if (ji8) < (x0_1.size:Int) then (if 0 ≤ (wrap64 ((x1_1.size:Int) - 1)) then (if (wrap64 ((x1_1.size:Int) - 1)) < (x1_1.size:Int) then (if (bt x0_1 (ji8)) = (bt x1_1 (wrap64 ((x1_1.size:Int) - 1))) then (if (ji8) ≤ (x0_1.size:Int) then (if (wrap64 ((x1_1.size:Int) - 1)) ≤ (x1_1.size:Int) then (if (x1_1.extract ((wrap64 ((x1_1.size:Int) - 1)):Int).toNat x1_1.size).size + (x1_1.extract 0 ((wrap64 ((x1_1.size:Int) - 1)):Int).toNat).size ≤ 9223372036854775807 then (impl_sequence.l0 k1 (x0_1.extract 0 ((ji8):Int).toNat) ((x1_1.extract ((wrap64 ((x1_1.size:Int) - 1)):Int).toNat x1_1.size) ++ (x1_1.extract 0 ((wrap64 ((x1_1.size:Int) - 1)):Int).toNat))) else (none)) else (none)) else (none)) else (some (x0_1,x1_1))) else (none)) else (none)) else (none)) else (none)) = some (r1,r2):=by first|(rw [hji8] at H;exact H)|(simp only [hji8] at H ⊢;exact H)
    have hji8w:(IntKind.i64.wrap ((x0_1.size:Int) - 1)) = ji8:=(i64_w _).trans hji8
    by_cases c9:0 ≤ (ji8)
    ·rw [if_pos c9] at H
     have c9b0:decide (0 ≤ (ji8)) = true:=decide_eq_true c9
     clear c9
     by_cases c10:(ji8) < (x0_1.size:Int)
     ·rw [if_pos c10] at H
      have c10b0:decide ((ji8) < (x0_1.size:Int)) = true:=decide_eq_true c10
      clear c10
      obtain ⟨ji12,hji12⟩:∃ j_:Int,(wrap64 ((x1_1.size:Int) - 1)) = j_:=⟨_,rfl⟩
      replace H:(if 0 ≤ (ji12) then (if (ji12) < (x1_1.size:Int) then (if (bt x0_1 (ji8)) = (bt x1_1 (ji12)) then (if (ji8) ≤ (x0_1.size:Int) then (if (ji12) ≤ (x1_1.size:Int) then (if (x1_1.extract ((ji12):Int).toNat x1_1.size).size + (x1_1.extract 0 ((ji12):Int).toNat).size ≤ 9223372036854775807 then (impl_sequence.l0 k1 (x0_1.extract 0 ((ji8):Int).toNat) ((x1_1.extract ((ji12):Int).toNat x1_1.size) ++ (x1_1.extract 0 ((ji12):Int).toNat))) else (none)) else (none)) else (none)) else (some (x0_1,x1_1))) else (none)) else (none)) = some (r1,r2):=by first|(rw [hji12] at H;exact H)|(simp only [hji12] at H ⊢;exact H)
      have hji12w:(IntKind.i64.wrap ((x1_1.size:Int) - 1)) = ji12:=(i64_w _).trans hji12
      by_cases c13:0 ≤ (ji12)
      ·rw [if_pos c13] at H
       have c13b0:decide (0 ≤ (ji12)) = true:=decide_eq_true c13
       clear c13
       by_cases c14:(ji12) < (x1_1.size:Int)
       ·rw [if_pos c14] at H
        have c14b0:decide ((ji12) < (x1_1.size:Int)) = true:=decide_eq_true c14
        clear c14
        by_cases c16:(bt x0_1 (ji8)) = (bt x1_1 (ji12))
        ·rw [if_pos c16] at H
         have c16b0:((bt x0_1 (ji8)) == (bt x1_1 (ji12))) = true:=beq_iff_eq.mpr c16
         have c16b1:((bt x0_1 (ji8)) != (bt x1_1 (ji12))) = false:=bne_eq_false_iff_eq.mpr c16
         clear c16
         have c17b0:=eq_true (of_decide_eq_true (by assumption):0 ≤ (ji8))
         by_cases c18:(ji8) ≤ (x0_1.size:Int)
         ·rw [if_pos c18] at H
          have c18b0:=eq_true c18
          have c18b1:decide ((ji8) ≤ (x0_1.size:Int)) = true:=decide_eq_true c18
          clear c18
          have c19b0:=eq_true (of_decide_eq_true (by assumption):0 ≤ (ji12))
          by_cases c20:(ji12) ≤ (x1_1.size:Int)
          ·rw [if_pos c20] at H
           have c20b0:=eq_true c20
           have c20b1:decide ((ji12) ≤ (x1_1.size:Int)) = true:=decide_eq_true c20
           clear c20
           have c21b0:=eq_true (of_decide_eq_true (by assumption):0 ≤ (ji12))
           have c22b0:=eq_true (of_decide_eq_true (by assumption):(ji12) ≤ (x1_1.size:Int))
           by_cases c23:(x1_1.extract ((ji12):Int).toNat x1_1.size).size + (x1_1.extract 0 ((ji12):Int).toNat).size ≤ 9223372036854775807
           ·rw [if_pos c23] at H
            have c23b0:=eq_true c23
            have c23b1:decide ((x1_1.extract ((ji12):Int).toNat x1_1.size).size + (x1_1.extract 0 ((ji12):Int).toNat).size ≤ 9223372036854775807) = true:=decide_eq_true c23
            try have c23b2:(9223372036854775807 < (x1_1.extract ((ji12):Int).toNat x1_1.size).size + (x1_1.extract 0 ((ji12):Int).toNat).size) = False:=eq_false (Nat.not_lt.2 c23)
            try (have c23b3:=c23;simp at c23b3;have c23b4:=eq_false (Nat.not_lt.2 c23b3))
            have H':=aM H
            clear H
            have p11:0 ≤ ((ji8):Int):=of_decide_eq_true (by assumption)
            have q11:(ji8) < (x0_1.size:Int):=of_decide_eq_true (by assumption)
            have hx11:=bt_at x0_1 (ji8)
            replace p11:=eq_true p11;replace q11:=eq_true q11
            have p15:0 ≤ ((ji12):Int):=of_decide_eq_true (by assumption)
            have q15:(ji12) < (x1_1.size:Int):=of_decide_eq_true (by assumption)
            have hx15:=bt_at x1_1 (ji12)
            replace p15:=eq_true p15;replace q15:=eq_true q15
            go_wp2
            repeat (go_quiet (fail);try go_wp2)
            go_roundg k1
            case measure=>have:=HK1.out;omega
            case rel=>exact ⟨(x0_1.extract 0 ((ji8):Int).toNat),((x1_1.extract ((ji12):Int).toNat x1_1.size) ++ (x1_1.extract 0 ((ji12):Int).toNat)),(by first|rfl|(simp;done)|(simp only [← hji8] <;> (first|rfl|simp))|(simp [*];done)),(by first|rfl|(simp;done)|(simp only [← hji12] <;> (first|rfl|simp))|(simp [*];done)),H',⟨by have:=HK1.out;omega⟩,⟨bk BK415⟩,⟨bb HB⟩⟩
           ·rw [if_neg c23] at H
            exact absurd H (by simp)
          ·rw [if_neg c20] at H
           exact absurd H (by simp)
         ·rw [if_neg c18] at H
          exact absurd H (by simp)
        ·rw [if_neg c16] at H
         have c16b0:((bt x0_1 (ji8)) == (bt x1_1 (ji12))) = false:=beq_eq_false_iff_ne.mpr c16
         have c16b1:((bt x0_1 (ji8)) != (bt x1_1 (ji12))) = true:=bne_iff_ne.mpr c16
         simp only [Option.some.injEq,Prod.mk.injEq] at H
         obtain ⟨rfl,rfl⟩:=H
         have p11:0 ≤ ((ji8):Int):=of_decide_eq_true (by assumption)
         have q11:(ji8) < (x0_1.size:Int):=of_decide_eq_true (by assumption)
         have hx11:=bt_at x0_1 (ji8)
         replace p11:=eq_true p11;replace q11:=eq_true q11
         have p15:0 ≤ ((ji12):Int):=of_decide_eq_true (by assumption)
         have q15:(ji12) < (x1_1.size:Int):=of_decide_eq_true (by assumption)
         have hx15:=bt_at x1_1 (ji12)
         replace p15:=eq_true p15;replace q15:=eq_true q15;have⟨a0,a1,b0,b1⟩:=q2f BK415
         go_wp2
         repeat (go_quiet (fail);try go_wp2)
         refine bodyPost_ret (results_cell_row rfl _ _ gb415 25 #[.string x0_1,.string x1_1] (0,0) _ rfl (by (with_reducible repeat (first|apply yN|apply yD|apply yA));refine blk_put (cs:=#[.string x0_1,.string ⟨#[]⟩]) ?_ 1 _ rfl;(with_reducible repeat (first|apply yN|apply yD|apply yA));refine blk_put (cs:=#[.string ⟨#[]⟩,.string ⟨#[]⟩]) ?_ 0 _ rfl;(with_reducible repeat (first|apply yN|apply yD|apply yA));exact BK415.out) Try.underlying25 rfl (by kernel_rfl)) rfl ?_
         exact ⟨by first|rfl|(simp [errW_none,errW_some] <;> rfl)|(simp only [← hji8,← hji12];first|rfl|(simp [errW_none,errW_some] <;> rfl))|(simp [*,errW_none,errW_some] <;> rfl),by first|exact bb HB|exact bg HB GE415⟩
       ·rw [if_neg c14] at H
        exact absurd H (by simp)
      ·rw [if_neg c13] at H
       exact absurd H (by simp)
     ·rw [if_neg c10] at H
      exact absurd H (by simp)
    ·rw [if_neg c9] at H
     exact absurd H (by simp)
def impl_areGiven.f (a0:ByteArray) (a1:ByteArray):Option (Bool):=if a1.toList = ([]:List UInt8) then (some false) else (some (decide ((wrap64 ((a0.size:Int) + (a1.size:Int))) ≤ 64)))
set_option maxHeartbeats 8000000 in
set_option maxRecDepth 100000 in
theorem impl_areGiven.calls (a0:ByteArray) (a1:ByteArray) (r:Bool) (w:World) (h:impl_areGiven.f a0 a1 = some r) :
  Calls Try.prog 42 #[.string a0,.string a1] w fun e w'=>e = .returned (.bool r) ∧ Drawn0 w w':=by
 have H:(if a1.toList = ([]:List UInt8) then (some false) else (some (decide ((wrap64 ((a0.size:Int) + (a1.size:Int))) ≤ 64)))) = some r:=h
 clear h
 by_cases c3:a1.toList = ([]:List UInt8)
 ·rw [if_pos c3] at H
  have c3b0:(a1.toList == ([]:List UInt8)) = true:=beq_iff_eq.mpr c3
  have c3b1:(a1.toList != ([]:List UInt8)) = false:=bne_eq_false_iff_eq.mpr c3
  clear c3
  obtain rfl:=Option.some.inj H
  go_enter Try.func42,Try.ntmps42
  go_wp2
  go_ret
  exact ⟨by first|rfl|(simp;done)|(simp [*];done),by repeat (first|exact Drawn0.refl _|apply Drawn0.step)⟩
 ·rw [if_neg c3] at H
  have c3b0:(a1.toList == ([]:List UInt8)) = false:=beq_eq_false_iff_ne.mpr c3
  have c3b1:(a1.toList != ([]:List UInt8)) = true:=bne_iff_ne.mpr c3
  obtain rfl:=Option.some.inj H
  go_enter Try.func42,Try.ntmps42
  go_wp2
  go_ret
  exact ⟨by first|rfl|(simp;done)|(simp [*];done),by repeat (first|exact Drawn0.refl _|apply Drawn0.step)⟩
end Go.Proofs.Ytmhpbilkocnlnaa.Q
end
section
namespace Go.Proofs.Ytmhpbilkocnlnaa.Q
open Go.RowKit Go.Proofs.YtmhpbilkocnlnaaW.PrintWords Go.Proofs.YtmhpbilkocnlnaaW.PrintLast Go.Proofs.YtmhpbilkocnlnaaW.Ext
set_option linter.unusedVariables false
set_option linter.unusedSimpArgs false
theorem wrS {x : Int} (h0 : -9223372036854775808 ≤ x) (h1 : x ≤ 9223372036854775807) : wrap64 x = x := by unfold wrap64; omega
def lettersB (s : ByteArray) : Bool := (bytesOf s).all isLetterN
theorem get_bytesOf (s : ByteArray) (i : Nat) (hi : i < (bytesOf s).length) : (bytesOf s)[i] = bt s (i : Int) := by
  rw [← rd_bytesOf]
  simp [rd, hi]
theorem ev_spec_letters (s : ByteArray) (hs : s.size ≤ 1048576) : Ev (fun k => spec_l01Letters.f k s) (lettersB s) := by
  unfold spec_l01Letters.f lettersB
  have key : ∀ d i : Nat, i + d = s.size → Ev (fun k => spec_l01Letters.l0 k s (i : Int)) (((bytesOf s).drop i).all isLetterN) := by
    intro d
    induction d with
    | zero =>
      intro i h
      refine Ev.step (f := fun _ => some true) (fun k => by rw [spec_l01Letters.l0, if_neg (by omega)]) ?_
      rw [List.drop_of_length_le (by rw [bytesOf_length]; omega)]
      exact Ev.now _
    | succ d ih =>
      intro i h
      have hi : i < (bytesOf s).length := by rw [bytesOf_length]; omega
      refine Ev.step (f := fun k => if isLetterN (bt s (i : Int)) = true then spec_l01Letters.l0 k s ((i + 1 : Nat) : Int) else some false) (fun k => ?_) ?_
      · rw [spec_l01Letters.l0, if_pos (by omega), if_pos (by omega), wrS (x := (i : Int) + 1) (by omega) (by omega)]
        rw [show ((i : Int) + 1) = ((i + 1 : Nat) : Int) by omega]
        unfold isLetterN
        by_cases h1 : bt s (i : Int) = 48
        · simp [h1]
        · by_cases h2 : bt s (i : Int) = 49
          · simp [h2]
          · by_cases h3 : bt s (i : Int) = 42
            · simp [h3]
            · simp [h1, h2, h3]
      · rw [List.drop_eq_getElem_cons hi, List.all_cons, get_bytesOf s i hi]
        cases hl : isLetterN (bt s (i : Int)) with
        | true => simpa using ih (i + 1) (by omega)
        | false => simpa using Ev.now false
  simpa using key s.size 0 (by omega)
theorem impl_letters (s : ByteArray) (hs : s.size ≤ 1048576 + 1048576) : impl_areLetters.f s = some (lettersB s) := by
  unfold impl_areLetters.f lettersB
  rw [if_pos (by omega)]
theorem letters_append (a b : ByteArray) : lettersB (a ++ b) = (lettersB a && lettersB b) := by
  unfold lettersB bytesOf
  rw [← List.all_append, ← List.map_append]
  simp
def perP (s : ByteArray) (m : Nat) : Prop := s.size % m = 0 ∧ ∀ i : Nat, m ≤ i → i < s.size → bt s (i : Int) = bt s ((i - m : Nat) : Int)
theorem leastS {P : Nat → Prop} : ∀ n, 1 ≤ n → P n → ∃ M, 1 ≤ M ∧ M ≤ n ∧ P M ∧ ∀ j, 1 ≤ j → j < M → ¬ P j := by
  intro n
  induction n using Nat.strongRecOn with
  | _ n ih =>
    intro h1 hn
    by_cases h : ∃ j, 1 ≤ j ∧ j < n ∧ P j
    · obtain ⟨j, a, b, c⟩ := h
      obtain ⟨M, m1, m2, m3, m4⟩ := ih j b a c
      exact ⟨M, m1, by omega, m3, m4⟩
    · exact ⟨n, h1, Nat.le_refl _, hn, fun j a b c => h ⟨j, a, b, c⟩⟩
theorem perP_least (s : ByteArray) (h : 1 ≤ s.size) : ∃ M, 1 ≤ M ∧ M ≤ s.size ∧ perP s M ∧ ∀ j, 1 ≤ j → j < M → ¬ perP s j :=
  leastS s.size h ⟨Nat.mod_self _, fun i h1 h2 => by omega⟩
section
variable {s x : ByteArray} {r : ByteArray × ByteArray}
theorem in_false (hs : s.size ≤ 1048576) {c : Nat} (h1 : 1 ≤ c) (hc : c < s.size) (hr : Ev (fun k => spec_l01Canonical.l0 k x s (s.size : Int) ((c + 1 : Nat) : Int)) r) :
    ∀ d i : Nat, i + d = s.size → Ev (fun k => spec_l01Canonical.l1 k x s (s.size : Int) (c : Int) false (i : Int)) r := by
  intro d
  induction d with
  | zero =>
    intro i h
    refine Ev.step (f := fun k => spec_l01Canonical.l0 k x s (s.size : Int) ((c + 1 : Nat) : Int)) (fun k => ?_) hr
    rw [spec_l01Canonical.l1, if_neg (by omega), if_neg (by decide), wrS (x := (c : Int) + 1) (by omega) (by omega)]
    rw [show (c : Int) + 1 = ((c + 1 : Nat) : Int) by omega]
  | succ d ih =>
    intro i h
    refine Ev.step (f := fun k => spec_l01Canonical.l1 k x s (s.size : Int) (c : Int) false ((i + 1 : Nat) : Int)) (fun k => ?_) (ih (i + 1) (by omega))
    rw [spec_l01Canonical.l1, if_pos (by omega), if_neg (by decide), wrS (x := (i : Int) + 1) (by omega) (by omega)]
    rw [show (i : Int) + 1 = ((i + 1 : Nat) : Int) by omega]
theorem in_step (hs : s.size ≤ 1048576) {c i : Nat} (h1 : 1 ≤ c) (hi : i < s.size) (hc : c ≤ i) (k : Nat) :
    spec_l01Canonical.l1 (k + 1) x s (s.size : Int) (c : Int) true (i : Int) = spec_l01Canonical.l1 k x s (s.size : Int) (c : Int) (bt s (i : Int) == bt s ((i - c : Nat) : Int)) ((i + 1 : Nat) : Int) := by
  rw [spec_l01Canonical.l1, if_pos (by omega), if_pos rfl, if_pos (by omega), if_pos (by omega), wrS (x := (i : Int) - (c : Int)) (by omega) (by omega), if_pos (by omega), if_pos (by omega), wrS (x := (i : Int) + 1) (by omega) (by omega)]
  rw [show (i : Int) + 1 = ((i + 1 : Nat) : Int) by omega, show (i : Int) - (c : Int) = ((i - c : Nat) : Int) by omega]
theorem in_all (hs : s.size ≤ 1048576) {c : Nat} (h1 : 1 ≤ c) (hc : c ≤ s.size) (hp : ∀ i : Nat, c ≤ i → i < s.size → bt s (i : Int) = bt s ((i - c : Nat) : Int)) (hr : Ev (fun k => spec_l01Canonical.j2 k x (s.extract 0 c)) r) :
    ∀ d i : Nat, i + d = s.size → c ≤ i → Ev (fun k => spec_l01Canonical.l1 k x s (s.size : Int) (c : Int) true (i : Int)) r := by
  intro d
  induction d with
  | zero =>
    intro i h _
    refine Ev.step (f := fun k => spec_l01Canonical.j2 k x (s.extract 0 c)) (fun k => ?_) hr
    rw [spec_l01Canonical.l1, if_neg (by omega), if_pos rfl, if_pos (by omega), if_pos (by omega), Int.toNat_natCast]
  | succ d ih =>
    intro i h hci
    refine Ev.step (f := fun k => spec_l01Canonical.l1 k x s (s.size : Int) (c : Int) true ((i + 1 : Nat) : Int)) (fun k => ?_) (ih (i + 1) (by omega) (by omega))
    rw [in_step hs h1 (by omega) hci, hp i hci (by omega)]
    simp
theorem in_some (hs : s.size ≤ 1048576) {c : Nat} (h1 : 1 ≤ c) (hc : c < s.size) (hr : Ev (fun k => spec_l01Canonical.l0 k x s (s.size : Int) ((c + 1 : Nat) : Int)) r) :
    ∀ d i : Nat, i + d = s.size → c ≤ i → (∃ t, i ≤ t ∧ t < s.size ∧ bt s (t : Int) ≠ bt s ((t - c : Nat) : Int)) → Ev (fun k => spec_l01Canonical.l1 k x s (s.size : Int) (c : Int) true (i : Int)) r := by
  intro d
  induction d with
  | zero =>
    intro i h _ ht
    obtain ⟨t, t1, t2, _⟩ := ht
    omega
  | succ d ih =>
    intro i h hci ht
    obtain ⟨t, t1, t2, t3⟩ := ht
    by_cases e : bt s (i : Int) = bt s ((i - c : Nat) : Int)
    · refine Ev.step (f := fun k => spec_l01Canonical.l1 k x s (s.size : Int) (c : Int) true ((i + 1 : Nat) : Int)) (fun k => ?_) (ih (i + 1) (by omega) (by omega) ⟨t, ?_, t2, t3⟩)
      · rw [in_step hs h1 (by omega) hci, e]
        simp
      · rcases Nat.lt_or_ge i t with h' | h'
        · exact h'
        · have : t = i := by omega
          subst this
          exact absurd e t3
    · refine Ev.step (f := fun k => spec_l01Canonical.l1 k x s (s.size : Int) (c : Int) false ((i + 1 : Nat) : Int)) (fun k => ?_) (in_false hs h1 hc hr d (i + 1) (by omega))
      rw [in_step hs h1 (by omega) hci, beq_eq_false_iff_ne.2 e]
theorem not_perP {c : Nat} (h : ¬ perP s c) (hd : s.size % c = 0) : ∃ t, c ≤ t ∧ t < s.size ∧ bt s (t : Int) ≠ bt s ((t - c : Nat) : Int) := by
  by_cases g : ∃ t, c ≤ t ∧ t < s.size ∧ bt s (t : Int) ≠ bt s ((t - c : Nat) : Int)
  · exact g
  · exfalso
    refine h ⟨hd, fun i h1 h2 => ?_⟩
    by_cases e : bt s (i : Int) = bt s ((i - c : Nat) : Int)
    · exact e
    · exact absurd ⟨i, h1, h2, e⟩ g
theorem tmod_nat (a b : Nat) : Int.tmod (a : Int) (b : Int) = ((a % b : Nat) : Int) := by
  rw [Int.tmod_eq_emod_of_nonneg (by omega)]
  omega
theorem out_root (hs : s.size ≤ 1048576) {m : Nat} (m1 : 1 ≤ m) (m2 : m ≤ s.size) (hp : perP s m) (hl : ∀ j, 1 ≤ j → j < m → ¬ perP s j) (hr : Ev (fun k => spec_l01Canonical.j2 k x (s.extract 0 m)) r) :
    ∀ d c : Nat, c + d = m → 1 ≤ c → Ev (fun k => spec_l01Canonical.l0 k x s (s.size : Int) (c : Int)) r := by
  intro d
  induction d with
  | zero =>
    intro c h h1
    obtain rfl : c = m := by omega
    refine Ev.step (f := fun k => spec_l01Canonical.l1 k x s (s.size : Int) (c : Int) true (c : Int)) (fun k => ?_) (in_all hs h1 m2 hp.2 hr (s.size - c) c (by omega) (Nat.le_refl _))
    rw [spec_l01Canonical.l0, if_pos (by omega), if_neg (by omega), tmod_nat, hp.1, if_pos (by omega)]
  | succ d ih =>
    intro c h h1
    have next := ih (c + 1) (by omega) (by omega)
    by_cases hd : s.size % c = 0
    · refine Ev.step (f := fun k => spec_l01Canonical.l1 k x s (s.size : Int) (c : Int) true (c : Int)) (fun k => ?_) (in_some hs h1 (by omega) next (s.size - c) c (by omega) (Nat.le_refl _) (not_perP (hl c h1 (by omega)) hd))
      rw [spec_l01Canonical.l0, if_pos (by omega), if_neg (by omega), tmod_nat, hd, if_pos (by omega)]
    · refine Ev.step (f := fun k => spec_l01Canonical.l0 k x s (s.size : Int) ((c + 1 : Nat) : Int)) (fun k => ?_) next
      rw [spec_l01Canonical.l0, if_pos (by omega), if_neg (by omega), tmod_nat, if_neg (by omega), wrS (x := (c : Int) + 1) (by omega) (by omega)]
      rw [show (c : Int) + 1 = ((c + 1 : Nat) : Int) by omega]
end
theorem rep_get (l : List UInt8) (hl : 0 < l.length) : ∀ c i, i < c * l.length → (Lib.repeatL l c)[i]? = l[i % l.length]? := by
  intro c
  induction c with
  | zero => intro i h; omega
  | succ c ih =>
    intro i h
    show (l ++ Lib.repeatL l c)[i]? = _
    rw [Nat.succ_mul] at h
    by_cases hi : i < l.length
    · rw [List.getElem?_append_left hi, Nat.mod_eq_of_lt hi]
    · rw [List.getElem?_append_right (by omega), ih (i - l.length) (by omega), ← Nat.mod_eq_sub_mod (by omega)]
theorem bt_eq (s t : ByteArray) (i j : Nat) (hi : i < s.size) (hj : j < t.size) : bt s (i : Int) = bt t (j : Int) ↔ s.data.toList[i]? = t.data.toList[j]? := by
  have hi' : i < s.data.toList.length := by rw [← Lib.size_eq]; exact hi
  have hj' : j < t.data.toList.length := by rw [← Lib.size_eq]; exact hj
  rw [List.getElem?_eq_getElem hi', List.getElem?_eq_getElem hj']
  unfold bt
  rw [Int.toNat_natCast, Int.toNat_natCast, dif_pos hi, dif_pos hj]
  have e1 : s[i] = s.data.toList[i] := by simp [ByteArray.getElem_eq_getElem_data]
  have e2 : t[j] = t.data.toList[j] := by simp [ByteArray.getElem_eq_getElem_data]
  rw [e1, e2]
  constructor
  · intro h
    have : s.data.toList[i].toNat = t.data.toList[j].toNat := by omega
    rw [UInt8.toNat_inj.1 this]
  · intro h
    rw [Option.some.inj h]
theorem per_mod {s : ByteArray} {c : Nat} (h1 : 1 ≤ c) (hc : c ≤ s.size) : (∀ i : Nat, c ≤ i → i < s.size → bt s (i : Int) = bt s ((i - c : Nat) : Int)) ↔ (∀ i : Nat, i < s.size → bt s (i : Int) = bt s ((i % c : Nat) : Int)) := by
  constructor
  · intro h i
    induction i using Nat.strongRecOn with
    | _ i ih =>
      intro hi
      by_cases hci : c ≤ i
      · rw [h i hci hi, ih (i - c) (by omega) (by omega), ← Nat.mod_eq_sub_mod hci]
      · rw [Nat.mod_eq_of_lt (by omega)]
  · intro h i hci hi
    rw [h i hi, h (i - c) (by omega), ← Nat.mod_eq_sub_mod hci]
theorem rep_iff {s : ByteArray} {c : Nat} (h1 : 1 ≤ c) (hc : c ≤ s.size) (hd : s.size % c = 0) :
    (Go.Proofs.Ytmhpbilkocnlnaa.Rep.val (s.extract 0 c) ((s.size / c : Nat) : Int)).toList = s.toList ↔ ∀ i : Nat, c ≤ i → i < s.size → bt s (i : Int) = bt s ((i - c : Nat) : Int) := by
  rw [per_mod h1 hc, Lib.toList_data, Lib.toList_data]
  unfold Go.Proofs.Ytmhpbilkocnlnaa.Rep.val
  rw [Int.toNat_natCast, Lib.extract_data]
  simp only [List.drop_zero, Nat.sub_zero]
  have hL : s.data.toList.length = s.size := (Lib.size_eq s).symm
  have hl : (s.data.toList.take c).length = c := by rw [List.length_take, hL]; omega
  have hn : s.size / c * c = s.size := Nat.div_mul_cancel (Nat.dvd_of_mod_eq_zero hd)
  have hlen : (Lib.repeatL (s.data.toList.take c) (s.size / c)).length = s.size := by rw [Lib.repeatL_length, hl, hn]
  have get : ∀ i, i < s.size → (Lib.repeatL (s.data.toList.take c) (s.size / c))[i]? = s.data.toList[i % c]? := by
    intro i hi
    rw [rep_get _ (by omega) _ _ (by rw [hl, hn]; exact hi), hl, List.getElem?_take, if_pos (Nat.mod_lt _ (by omega))]
  constructor
  · intro h i hi
    have hm : i % c < s.size := Nat.lt_of_lt_of_le (Nat.mod_lt _ (by omega)) hc
    rw [bt_eq s s i (i % c) hi hm, ← get i hi, h]
  · intro h
    refine List.ext_getElem? fun i => ?_
    by_cases hi : i < s.size
    · have hm : i % c < s.size := Nat.lt_of_lt_of_le (Nat.mod_lt _ (by omega)) hc
      have := (bt_eq s s i (i % c) hi hm).1 (h i hi)
      rw [this]
      exact get i hi
    · rw [List.getElem?_eq_none (by show _ ≤ _; simp only [hlen]; omega), List.getElem?_eq_none (by omega)]
theorem ev_impl_root {s : ByteArray} (hs : s.size ≤ 8192) {m : Nat} (m1 : 1 ≤ m) (m2 : m ≤ s.size) (hp : perP s m) (hl : ∀ j, 1 ≤ j → j < m → ¬ perP s j) :
    Ev (fun k => impl_root.f k s) (s.extract 0 m) := by
  unfold impl_root.f
  have key : ∀ d c : Nat, c + d = m → 1 ≤ c → Ev (fun k => impl_root.l0 k s (c : Int)) (s.extract 0 m) := by
    intro d
    have ev : ∀ c : Nat, 1 ≤ c → c ≤ s.size → s.size % c = 0 → ∀ k, impl_root.l0 (k + 1) s (c : Int) = if (Go.Proofs.Ytmhpbilkocnlnaa.Rep.val (s.extract 0 c) ((s.size / c : Nat) : Int)).toList = s.toList then some (s.extract 0 c) else impl_root.l0 k s ((c + 1 : Nat) : Int) := by
      intro c h1 hc hd k
      have hq : s.size / c * c = s.size := Nat.div_mul_cancel (Nat.dvd_of_mod_eq_zero hd)
      have hq2 : s.size / c ≤ s.size := Nat.div_le_self _ _
      have hx : (s.extract 0 c).size = c := by simp; omega
      rw [impl_root.l0, if_neg (by omega), if_pos (by omega), if_pos (by omega), if_pos (by omega)]
      unfold strings_Repeat.f
      rw [show ((s.size : Nat) : Int) / (c : Int) = ((s.size / c : Nat) : Int) from (Int.natCast_ediv _ _).symm]
      generalize s.size / c = q at *
      rw [wrS (x := (q : Int)) (by omega) (by omega), Int.toNat_natCast, Int.toNat_natCast, if_pos ⟨by omega, by omega, by rw [hx, Nat.mul_comm, hq]; omega⟩]
      rw [wrS (x := (c : Int) + 1) (by omega) (by omega), show (c : Int) + 1 = ((c + 1 : Nat) : Int) by omega]
      rfl
    induction d with
    | zero =>
      intro c h h1
      obtain rfl : c = m := by omega
      refine Ev.step (f := fun k => some (s.extract 0 c)) (fun k => ?_) (Ev.now _)
      rw [ev c h1 m2 hp.1, if_pos ((rep_iff h1 m2 hp.1).2 hp.2)]
    | succ d ih =>
      intro c h h1
      have next := ih (c + 1) (by omega) (by omega)
      refine Ev.step (f := fun k => impl_root.l0 k s ((c + 1 : Nat) : Int)) (fun k => ?_) next
      by_cases hd : s.size % c = 0
      · rw [ev c h1 (by omega) hd, if_neg (fun e => hl c h1 (by omega) ⟨hd, (rep_iff h1 (by omega) hd).1 e⟩)]
      · rw [impl_root.l0, if_neg (by omega), if_neg (by omega), wrS (x := (c : Int) + 1) (by omega) (by omega)]
        rw [show (c : Int) + 1 = ((c + 1 : Nat) : Int) by omega]
  exact key (m - 1) 1 (by omega) (by omega)
def rotB : Nat → ByteArray → ByteArray → ByteArray × ByteArray
  | 0, x, y => (x, y)
  | n + 1, x, y => if bt x (n : Int) = bt y ((y.size - 1 : Nat) : Int) then rotB n (x.extract 0 n) (y.extract (y.size - 1) y.size ++ y.extract 0 (y.size - 1)) else (x, y)
theorem rot_size (y : ByteArray) (h : 1 ≤ y.size) : (y.extract (y.size - 1) y.size ++ y.extract 0 (y.size - 1)).size = y.size := by
  simp <;> omega
theorem rotB_size : ∀ n x y, x.size = n → 1 ≤ y.size → (rotB n x y).1.size ≤ n ∧ (rotB n x y).2.size = y.size := by
  intro n
  induction n with
  | zero => intro x y hx hy; simp [rotB, hx]
  | succ n ih =>
    intro x y hx hy
    unfold rotB
    split
    · have := ih (x.extract 0 n) (y.extract (y.size - 1) y.size ++ y.extract 0 (y.size - 1)) (by simp; omega) (by rw [rot_size y hy]; exact hy)
      rw [rot_size y hy] at this
      omega
    · simp [hx]
theorem nil_iff (x : ByteArray) : x.toList = ([] : List UInt8) ↔ x.size = 0 := by
  rw [Lib.toList_data, Lib.size_eq]
  exact List.length_eq_zero_iff.symm
theorem ev_spec_rot : ∀ n x y, x.size = n → n ≤ 4096 → 1 ≤ y.size → y.size ≤ 4096 → Ev (fun k => spec_l01Canonical.l2 k x y) (rotB n x y) := by
  intro n
  induction n with
  | zero =>
    intro x y hx _ _ _
    exact Ev.step (f := fun _ => some (x, y)) (fun k => by rw [spec_l01Canonical.l2, if_neg (by omega)]) (Ev.now _)
  | succ n ih =>
    intro x y hx hn hy hy64
    refine Ev.step (f := fun k => if bt x (n : Int) = bt y ((y.size - 1 : Nat) : Int) then spec_l01Canonical.l2 k (x.extract 0 n) (y.extract (y.size - 1) y.size ++ y.extract 0 (y.size - 1)) else some (x, y)) (fun k => ?_) ?_
    · have e := rot_size y hy
      rw [ByteArray.size_append] at e
      rw [spec_l01Canonical.l2, if_pos (by omega), wrS (x := (x.size : Int) - 1) (by omega) (by omega), wrS (x := (y.size : Int) - 1) (by omega) (by omega), show (x.size : Int) - 1 = (n : Int) by omega, show (y.size : Int) - 1 = ((y.size - 1 : Nat) : Int) by omega]
      rw [if_pos (by omega), if_pos (by omega), if_pos (by omega), if_pos (by omega), if_pos (show ((y.size - 1 : Nat) : Int) ≤ (y.size : Int) by omega), Int.toNat_natCast, Int.toNat_natCast, if_pos (show (y.extract (y.size - 1) y.size).size + (y.extract 0 (y.size - 1)).size ≤ 9223372036854775807 by omega), if_pos (show (n : Int) ≤ (x.size : Int) by omega)]
    · unfold rotB
      by_cases h : bt x (n : Int) = bt y ((y.size - 1 : Nat) : Int)
      · simp only [if_pos h]
        exact ih _ _ (by simp; omega) (by omega) (by rw [rot_size y hy]; exact hy) (by rw [rot_size y hy]; exact hy64)
      · simp only [if_neg h]
        exact Ev.now _
theorem ev_impl_rot : ∀ n x y, x.size = n → n ≤ 4096 → 1 ≤ y.size → y.size ≤ 4096 → Ev (fun k => impl_sequence.l0 k x y) (rotB n x y) := by
  intro n
  induction n with
  | zero =>
    intro x y hx _ _ _
    exact Ev.step (f := fun _ => some (x, y)) (fun k => by rw [impl_sequence.l0, if_pos ((nil_iff x).2 hx)]) (Ev.now _)
  | succ n ih =>
    intro x y hx hn hy hy64
    refine Ev.step (f := fun k => if bt x (n : Int) = bt y ((y.size - 1 : Nat) : Int) then impl_sequence.l0 k (x.extract 0 n) (y.extract (y.size - 1) y.size ++ y.extract 0 (y.size - 1)) else some (x, y)) (fun k => ?_) ?_
    · have e := rot_size y hy
      rw [ByteArray.size_append] at e
      rw [impl_sequence.l0, if_neg (fun z => by have := (nil_iff x).1 z; omega), wrS (x := (x.size : Int) - 1) (by omega) (by omega), wrS (x := (y.size : Int) - 1) (by omega) (by omega), show (x.size : Int) - 1 = (n : Int) by omega, show (y.size : Int) - 1 = ((y.size - 1 : Nat) : Int) by omega]
      rw [if_pos (by omega), if_pos (by omega), if_pos (by omega), if_pos (by omega), if_pos (show (n : Int) ≤ (x.size : Int) by omega), if_pos (show ((y.size - 1 : Nat) : Int) ≤ (y.size : Int) by omega), Int.toNat_natCast, Int.toNat_natCast, if_pos (show (y.extract (y.size - 1) y.size).size + (y.extract 0 (y.size - 1)).size ≤ 9223372036854775807 by omega)]
    · unfold rotB
      by_cases h : bt x (n : Int) = bt y ((y.size - 1 : Nat) : Int)
      · simp only [if_pos h]
        exact ih _ _ (by simp; omega) (by omega) (by rw [rot_size y hy]; exact hy) (by rw [rot_size y hy]; exact hy64)
      · simp only [if_neg h]
        exact Ev.now _
def Cn (x y : ByteArray) : Prop := x.size = 0 ∨ bt x ((x.size - 1 : Nat) : Int) ≠ bt y ((y.size - 1 : Nat) : Int)
theorem rot_cn (x y z : ByteArray) (hz : 1 ≤ z.size) (h1 : (rotB x.size x z).1 = x) (h2 : (rotB x.size x z).2 = y) : Cn x y := by
  cases hn : x.size with
  | zero => exact .inl hn
  | succ n =>
    right
    rw [hn, rotB] at h1 h2
    by_cases e : bt x (n : Int) = bt z ((z.size - 1 : Nat) : Int)
    · rw [if_pos e] at h1
      have := (rotB_size n (x.extract 0 n) (z.extract (z.size - 1) z.size ++ z.extract 0 (z.size - 1)) (by simp; omega) (by rw [rot_size z hz]; exact hz)).1
      rw [h1] at this
      omega
    · rw [if_neg e] at h2
      have h2 : z = y := h2
      subst h2
      rw [hn, Nat.add_sub_cancel]
      exact e
theorem both_canon (x y : ByteArray) (hy : 1 ≤ y.size) (h64 : x.size + y.size ≤ 4096) :
    ∃ c : ByteArray × ByteArray, Ev (fun k => spec_l01Canonical.f k x y) c ∧ Ev (fun k => impl_sequence.f k x y) c ∧ c.1.size ≤ x.size ∧ 1 ≤ c.2.size ∧ c.2.size ≤ y.size ∧ (c.1 = x → c.2 = y → Cn x y) := by
  obtain ⟨m, m1, m2, hp, hl⟩ := perP_least y hy
  have hz : (y.extract 0 m).size = m := by simp; omega
  have sz := rotB_size x.size x (y.extract 0 m) rfl (by omega)
  refine ⟨rotB x.size x (y.extract 0 m), ?_, ?_, sz.1, by omega, by omega, rot_cn x y (y.extract 0 m) (by omega)⟩
  · unfold spec_l01Canonical.f
    have hr : Ev (fun k => spec_l01Canonical.j2 k x (y.extract 0 m)) (rotB x.size x (y.extract 0 m)) :=
      Ev.step (f := fun k => spec_l01Canonical.l2 k x (y.extract 0 m)) (fun k => by rw [spec_l01Canonical.j2]) (ev_spec_rot x.size x (y.extract 0 m) rfl (by omega) (by omega) (by omega))
    exact out_root (by omega) m1 m2 hp hl hr (m - 1) 1 (by omega) (by omega)
  · unfold impl_sequence.f
    refine Ev.bind (ev_impl_root (by omega) m1 m2 hp hl) ?_
    exact ev_impl_rot x.size x (y.extract 0 m) rfl (by omega) (by omega) (by omega)
end Go.Proofs.Ytmhpbilkocnlnaa.Q
end
section
namespace Go.Proofs.Ytmhpbilkocnlnaa.Q
open Go.Proofs.YtmhpbilkocnlnaaW.Ext
open Go.RowKit Go.Proofs.YtmhpbilkocnlnaaW.PrintWords Go.Proofs.YtmhpbilkocnlnaaW.PrintLast Go.Proofs.YtmhpbilkocnlnaaW.PrintMore
attribute [local go_sem] max2_int min2_int max_two min_two max_three min_three max_four min_four   -- for this text's walks alone
set_option linter.unusedVariables false
set_option linter.unusedSimpArgs false
theorem eqA25 (d:Nat) (w:World) (x0 y0:ByteArray) (x1 y1:ByteArray) :
  (Op.equalIn (d + 2) 25 (.agg #[.string x0,.string x1]) (.agg #[.string y0,.string y1])).run Try.prog w = .ok (x0.toList == y0.toList && (x1.toList == y1.toList)) w:=by
 refine eqA_of Try.underlying25 (by kernel_rfl) ?_
 refine eqf_cons (by rfl) (by go_simp;rfl) (by go_simp;rfl) (by go_simp) ?_
 exact eqf_last (by rfl) (by go_simp;rfl) (by go_simp;rfl) (by go_simp)
end Go.Proofs.Ytmhpbilkocnlnaa.Q
end
section
namespace Go.Proofs.Ytmhpbilkocnlnaa.Q
open Go.Proofs.YtmhpbilkocnlnaaW.Ext
open Go.RowKit Go.Proofs.YtmhpbilkocnlnaaW.PrintWords Go.Proofs.YtmhpbilkocnlnaaW.PrintLast Go.Proofs.YtmhpbilkocnlnaaW.PrintMore
attribute [local go_sem] max2_int min2_int max_two min_two max_three min_three max_four min_four   -- for this text's walks alone
set_option linter.unusedVariables false
set_option linter.unusedSimpArgs false
attribute [local go_sem high] eqA25
def spec_l01Seq.f (k:Nat) (a0_0:ByteArray) (a0_1:ByteArray):Option (Bool):=(spec_l01Letters.f k a0_0).bind fun t329=>(if t329 = true then ((spec_l01Letters.f k a0_1).bind fun t330=>(if t330 = true then (if a0_1.toList = ([]:List UInt8) then (some false) else (if (wrap64 ((a0_0.size:Int) + (a0_1.size:Int))) > 64 then (some false) else ((spec_l01Canonical.f k a0_0 a0_1).bind fun bt331=>(some (bt331.1.toList == a0_0.toList && (bt331.2.toList == a0_1.toList)))))) else (some false))) else (some false))
theorem spec_l01Seq.mono:∀ a0 a1 k,LeO (spec_l01Seq.f k a0 a1) (spec_l01Seq.f (k + 1) a0 a1):=by
 intro a0 a1 k
 unfold spec_l01Seq.f
 repeat' first
   | (with_reducible exact spec_l01Canonical.mono _ _ _)
   | (with_reducible exact spec_l01Letters.mono _ _)
   | (with_reducible exact LeO.refl _)
   | (with_reducible exact LeO.none _)
   | (with_reducible refine LeO.ite ?_ ?_)
   | (with_reducible refine LeO.bind ?_ (fun _=>?_))
   | exact spec_l01Canonical.mono _ _ _
   | exact spec_l01Letters.mono _ _
   | exact LeO.none _
   | refine LeO.ite ?_ ?_
   | refine LeO.bind ?_ (fun _=>?_)
def spec_l01Seq.T3:Bool × List (List Nat × List Nat):=(true,[([],[]),([0],[0]),([],[]),([2],[2]),([1,3],[1,3]),([],[]),([4,5],[4,5]),([6,4,0,1,2,3,4,5,6],[6])])
def spec_l01Seq.B3:List Nat:=[0,1,0,4,15,0,63,127]
theorem spec_l01Seq.tab3:rtab .any (opsOf Try.f23 3) = spec_l01Seq.T3:=by kernel_rfl
theorem spec_l01Seq.bits3:waitsOk spec_l01Seq.T3.2 spec_l01Seq.B3 = true:=by kernel_rfl
set_option maxHeartbeats 8000000 in
set_option maxRecDepth 100000 in
theorem spec_l01Seq.calls (k:Nat) (a0_0:ByteArray) (a0_1:ByteArray) (r:Bool) (w:World) (h:spec_l01Seq.f k a0_0 a0_1 = some r) :
  Calls Try.prog 23 #[.agg #[.string a0_0,.string a0_1]] w fun e w'=>e = .returned (.bool r) ∧ Below w.heap.size w w':=by
 have hu25:=Try.underlying25
 have HB:=aM (Below.refl w.heap.size w)
 have H:((spec_l01Letters.f k a0_0).bind fun t329=>(if t329 = true then ((spec_l01Letters.f k a0_1).bind fun t330=>(if t330 = true then (if a0_1.toList = ([]:List UInt8) then (some false) else (if (wrap64 ((a0_0.size:Int) + (a0_1.size:Int))) > 64 then (some false) else ((spec_l01Canonical.f k a0_0 a0_1).bind fun bt331=>(some (bt331.1.toList == a0_0.toList && (bt331.2.toList == a0_1.toList)))))) else (some false))) else (some false))) = some r:=h
 clear h
 replace H:=Option.bind_eq_some_iff.mp H
 obtain ⟨t329,A20,H⟩:=H
 replace H:(if t329 = true then ((spec_l01Letters.f k a0_1).bind fun t330=>(if t330 = true then (if a0_1.toList = ([]:List UInt8) then (some false) else (if (wrap64 ((a0_0.size:Int) + (a0_1.size:Int))) > 64 then (some false) else ((spec_l01Canonical.f k a0_0 a0_1).bind fun bt331=>(some (bt331.1.toList == a0_0.toList && (bt331.2.toList == a0_1.toList)))))) else (some false))) else (some false)) = some r:=H;have A2:=aM A20
 clear A20
 by_cases c3:t329 = true
 ·subst c3
  have H1:((spec_l01Letters.f k a0_1).bind fun t330=>(if t330 = true then (if a0_1.toList = ([]:List UInt8) then (some false) else (if (wrap64 ((a0_0.size:Int) + (a0_1.size:Int))) > 64 then (some false) else ((spec_l01Canonical.f k a0_0 a0_1).bind fun bt331=>(some (bt331.1.toList == a0_0.toList && (bt331.2.toList == a0_1.toList)))))) else (some false))) = some r:=by rw [if_pos rfl] at H;exact H
  clear H
  have H:=H1
  clear H1
  replace H:=Option.bind_eq_some_iff.mp H
  obtain ⟨t330,A40,H⟩:=H
  replace H:(if t330 = true then (if a0_1.toList = ([]:List UInt8) then (some false) else (if (wrap64 ((a0_0.size:Int) + (a0_1.size:Int))) > 64 then (some false) else ((spec_l01Canonical.f k a0_0 a0_1).bind fun bt331=>(some (bt331.1.toList == a0_0.toList && (bt331.2.toList == a0_1.toList)))))) else (some false)) = some r:=H;have A4:=aM A40
  clear A40
  by_cases c5:t330 = true
  ·subst c5
   have H1:(if a0_1.toList = ([]:List UInt8) then (some false) else (if (wrap64 ((a0_0.size:Int) + (a0_1.size:Int))) > 64 then (some false) else ((spec_l01Canonical.f k a0_0 a0_1).bind fun bt331=>(some (bt331.1.toList == a0_0.toList && (bt331.2.toList == a0_1.toList)))))) = some r:=by rw [if_pos rfl] at H;exact H
   clear H
   have H:=H1
   clear H1
   by_cases c6:a0_1.toList = ([]:List UInt8)
   ·rw [if_pos c6] at H
    have c6b0:(a0_1.toList == ([]:List UInt8)) = true:=beq_iff_eq.mpr c6
    have c6b1:(a0_1.toList != ([]:List UInt8)) = false:=bne_eq_false_iff_eq.mpr c6
    clear c6
    obtain rfl:=Option.some.inj H
    go_enter Try.func23,Try.ntmps23
    go_wp2_with (first|((with_reducible refine gate_dst (N:=1) rfl ?_);(try (refine gate_guard (by rfl) ?_;dsimp only));refine box_event rfl (N:=1) rfl (cs:=#[.string a0_0,.string a0_1]) (t:=25) (by first|(go_simp;done)|(go_simp;rfl)) ?_;intro gb328 hg w7 hbox hb;have BK328:=aM (hbox);have GW328:=wl hg HB;have GE328:=wl hg HB;replace HB:=bs HB hb;clear hb hbox hg;have⟨a0,a1,b0,b1⟩:=q2f BK328)|((with_reducible refine gate_callee (f:=47) rfl ?_);refine goesL_ (some 5) rfl rfl Try.func47 (by kernel_rfl) rfl #[.string a0_0] rfl (by (try simp only [sM,sC,sN]);first|done|rfl) ?_;(with_reducible refine (spec_l01Letters.calls k a0_0 true _ A2.out).mono ?_);rintro e w' ⟨rfl,⟨nd,rfl⟩⟩;refine ⟨_,rfl,?_⟩)|(go_at_call 47;(with_reducible refine (spec_l01Letters.calls k a0_1 true _ A4.out).mono ?_);rintro e w' ⟨rfl,⟨nd,rfl⟩⟩))
    go_ret
    exact ⟨rfl,bb HB⟩
   ·rw [if_neg c6] at H
    have c6b0:(a0_1.toList == ([]:List UInt8)) = false:=beq_eq_false_iff_ne.mpr c6
    have c6b1:(a0_1.toList != ([]:List UInt8)) = true:=bne_iff_ne.mpr c6
    by_cases c9:(wrap64 ((a0_0.size:Int) + (a0_1.size:Int))) > 64
    ·rw [if_pos c9] at H
     have c9b0:decide (64 < (wrap64 ((a0_0.size:Int) + (a0_1.size:Int)))) = true:=decide_eq_true c9
     clear c9
     obtain rfl:=Option.some.inj H
     go_enter Try.func23,Try.ntmps23
     go_wp2_with (first|((with_reducible refine gate_dst (N:=1) rfl ?_);(try (refine gate_guard (by rfl) ?_;dsimp only));refine box_event rfl (N:=1) rfl (cs:=#[.string a0_0,.string a0_1]) (t:=25) (by first|(go_simp;done)|(go_simp;rfl)) ?_;intro gb328 hg w10 hbox hb;have BK328:=aM (hbox);have GW328:=wl hg HB;have GE328:=wl hg HB;replace HB:=bs HB hb;clear hb hbox hg;have⟨a0,a1,b0,b1⟩:=q2f BK328)|((with_reducible refine gate_callee (f:=47) rfl ?_);refine goesL_ (some 5) rfl rfl Try.func47 (by kernel_rfl) rfl #[.string a0_0] rfl (by (try simp only [sM,sC,sN]);first|done|rfl) ?_;(with_reducible refine (spec_l01Letters.calls k a0_0 true _ A2.out).mono ?_);rintro e w' ⟨rfl,⟨nd,rfl⟩⟩;refine ⟨_,rfl,?_⟩)|(go_at_call 47;(with_reducible refine (spec_l01Letters.calls k a0_1 true _ A4.out).mono ?_);rintro e w' ⟨rfl,⟨nd,rfl⟩⟩))
     go_ret
     exact ⟨rfl,bb HB⟩
    ·rw [if_neg c9] at H
     have c9b0:decide (64 < (wrap64 ((a0_0.size:Int) + (a0_1.size:Int)))) = false:=decide_eq_false c9
     clear c9
     replace H:=Option.bind_eq_some_iff.mp H
     obtain ⟨⟨t331,t332⟩,A120,H⟩:=H
     replace H:(some (t331.toList == a0_0.toList && (t332.toList == a0_1.toList))) = some r:=H;have A12:=aM A120
     clear A120
     obtain rfl:=Option.some.inj H
     go_enter Try.func23,Try.ntmps23
     try go_wp2_with (first|((with_reducible refine gate_dst (N:=1) rfl ?_);(try (refine gate_guard (by rfl) ?_;dsimp only));refine box_event rfl (N:=1) rfl (cs:=#[.string a0_0,.string a0_1]) (t:=25) (by first|(go_simp;done)|(go_simp;rfl)) ?_;intro gb328 hg w13 hbox hb;have BK328:=aM (hbox);have GW328:=wl hg HB;have GE328:=wl hg HB;replace HB:=bs HB hb;clear hb hbox hg;have⟨a0,a1,b0,b1⟩:=q2f BK328)|((with_reducible refine gate_callee (f:=47) rfl ?_);refine goesL_ (some 5) rfl rfl Try.func47 (by kernel_rfl) rfl #[.string a0_0] rfl (by (try simp only [sM,sC,sN]);first|done|rfl) ?_;(with_reducible refine (spec_l01Letters.calls k a0_0 true _ A2.out).mono ?_);rintro e w' ⟨rfl,⟨nd,rfl⟩⟩;refine ⟨_,rfl,?_⟩)|(go_at_call 47;(with_reducible refine (spec_l01Letters.calls k a0_1 true _ A4.out).mono ?_);rintro e w' ⟨rfl,⟨nd,rfl⟩⟩))
     (try (rw [drewN_self w13];generalize hq_:World.drewN w13 _ = w13;have n0_:Aside0 (w13.heap[gb328]? = some (.cells #[.string a0_0,.string a0_1] 25 (0,0))):=⟨by rw [← hq_];exact (bk BK328)⟩;have n1_:Aside0 (Below w.heap.size w w13):=⟨by rw [← hq_];exact (bb HB)⟩;clear BK328 HB hq_;have BK328:=n0_;have HB:=n1_;clear n0_ n1_))
     replace BK328:=aM (yD BK328.out);replace HB:=aM (zD HB.out)
     refine start_ (n:=8) (S:=fun w'=>w'.cell? ⟨gb328,0,none⟩ = some (.string a0_0) ∧ w'.cell? ⟨gb328,1,none⟩ = some (.string a0_1)) (ds:=[]) #[fF,fF,fF,fF,fF,fF,fF,fF] (by kernel_rfl) rfl rfl ⟨(blk_cell BK328.out 0).trans rfl,(blk_cell BK328.out 1).trans rfl⟩ (fun hHeld=>?_);refine with_tabW spec_l01Seq.tab3 spec_l01Seq.bits3 (fun HT_ HW_=>?_)
     generalize w13.drew = w15 at BK328 HB hHeld ⊢
     refine pz 28 0 #[tT,fF,fF,fF,fF,fF,fF,fF] HT_ rfl rfl (by kernel_rfl) (fun _ _ _ h=>h) (by rfl) (by intro w';go_simp;with_reducible rfl) (by simp only [Act.put,sI,sZ,sS,i64_w,i32_w];rfl) ?_
     refine pz 30 2 #[tT,fF,tT,fF,fF,fF,fF,fF] HT_ rfl rfl (by kernel_rfl) (fun _ _ _ h=>h) (by rfl) (by intro w';go_simp;with_reducible rfl) (by simp only [Act.put,sI,sZ,sS,i64_w,i32_w];rfl) ?_
     refine tz 29 1 #[tT,tT,tT,fF,fF,fF,fF,fF] HT_ HW_ hHeld rfl rfl (by kernel_rfl) (fun _ _ _ h=>h) (by rfl) (by rintro w' ⟨s0,s1⟩;go_simp;with_reducible rfl) (by simp only [Act.put,sI,sZ,sS,i64_w,i32_w];rfl) ?_
     refine tz 31 3 #[tT,tT,tT,tT,fF,fF,fF,fF] HT_ HW_ hHeld rfl rfl (by kernel_rfl) (fun _ _ _ h=>h) (by rfl) (by rintro w' ⟨s0,s1⟩;go_simp;with_reducible rfl) (by simp only [Act.put,sI,sZ,sS,i64_w,i32_w];rfl) ?_
     refine tz 33 5 #[tT,tT,tT,tT,fF,tT,fF,fF] HT_ HW_ hHeld rfl rfl (by kernel_rfl) (fun _ _ _ h=>h) (by rfl) (by rintro w' ⟨s0,s1⟩;go_simp;with_reducible rfl) (by simp only [Act.put,sI,sZ,sS,i64_w,i32_w];rfl) ?_
     refine one_ (i:=4) (N:=some 32) #[tT,tT,tT,tT,tT,tT,fF,fF] rfl rfl (one_of HT_.out (by kernel_rfl)) (by decide) (fun K hK=>?_)
     refine goes_ Try.func40 (by kernel_rfl) rfl #[.string a0_0,.string a0_1] (by rfl) rfl rfl (by (try simp only [sM,sC,sN]);first|done|rfl) ?_
     with_reducible refine (spec_l01Canonical.calls k a0_0 a0_1 t331 t332 _ A12.out).mono ?_
     rintro e w16 ⟨rfl,hb⟩
     refine ⟨_,rfl,?_⟩
     replace BK328:=kb BK328 hb;replace HB:=bs HB hb;(try clear hb)
     refine hK.out _ _ ⟨(blk_cell BK328.out 0).trans rfl,(blk_cell BK328.out 1).trans rfl⟩ (fun hHeld=>?_)
     clear hK K
     refine norm_ (a':=_) (by show Act.put _ _ _=_;simp only [Act.put,sI,sZ,sS,i64_w,i32_w];rfl) ?_
     refine pz 34 6 #[tT,tT,tT,tT,tT,tT,tT,fF] HT_ rfl rfl (by kernel_rfl) (fun _ _ _ h=>h) (by rfl) (by intro w';go_simp;with_reducible rfl) (by simp only [Act.put,sI,sZ,sS,i64_w,i32_w];rfl) ?_
     refine pz 2 7 #[tT,tT,tT,tT,tT,tT,tT,tT] HT_ rfl rfl (by kernel_rfl) (fun _ _ _ h=>h) (by rfl) (by intro w';go_simp;with_reducible rfl) (by simp only [Act.put,sI,sZ,sS,i64_w,i32_w];rfl) ?_
     refine done_ (done_of HT_.out (by kernel_rfl)) ?_
     try go_wp2
     go_ret
     exact ⟨rfl,bb HB⟩
  ·replace c5:=Bool.eq_false_iff.mpr c5
   subst c5
   have H1:(some false) = some r:=by rw [if_neg (show ¬ (false = true) by decide)] at H;exact H
   clear H
   have H:=H1
   clear H1
   obtain rfl:=Option.some.inj H
   go_enter Try.func23,Try.ntmps23
   go_wp2_with (first|((with_reducible refine gate_dst (N:=1) rfl ?_);(try (refine gate_guard (by rfl) ?_;dsimp only));refine box_event rfl (N:=1) rfl (cs:=#[.string a0_0,.string a0_1]) (t:=25) (by first|(go_simp;done)|(go_simp;rfl)) ?_;intro gb328 hg w17 hbox hb;have BK328:=aM (hbox);have GW328:=wl hg HB;have GE328:=wl hg HB;replace HB:=bs HB hb;clear hb hbox hg;have⟨a0,a1,b0,b1⟩:=q2f BK328)|((with_reducible refine gate_callee (f:=47) rfl ?_);refine goesL_ (some 5) rfl rfl Try.func47 (by kernel_rfl) rfl #[.string a0_0] rfl (by (try simp only [sM,sC,sN]);first|done|rfl) ?_;(with_reducible refine (spec_l01Letters.calls k a0_0 true _ A2.out).mono ?_);rintro e w' ⟨rfl,⟨nd,rfl⟩⟩;refine ⟨_,rfl,?_⟩)|(go_at_call 47;(with_reducible refine (spec_l01Letters.calls k a0_1 false _ A4.out).mono ?_);rintro e w' ⟨rfl,⟨nd,rfl⟩⟩))
   go_ret
   exact ⟨rfl,bb HB⟩
 ·replace c3:=Bool.eq_false_iff.mpr c3
  subst c3
  have H1:(some false) = some r:=by rw [if_neg (show ¬ (false = true) by decide)] at H;exact H
  clear H
  have H:=H1
  clear H1
  obtain rfl:=Option.some.inj H
  go_enter Try.func23,Try.ntmps23
  go_wp2_with (first|((with_reducible refine gate_dst (N:=1) rfl ?_);(try (refine gate_guard (by rfl) ?_;dsimp only));refine box_event rfl (N:=1) rfl (cs:=#[.string a0_0,.string a0_1]) (t:=25) (by first|(go_simp;done)|(go_simp;rfl)) ?_;intro gb328 hg w19 hbox hb;have BK328:=aM (hbox);have GW328:=wl hg HB;have GE328:=wl hg HB;replace HB:=bs HB hb;clear hb hbox hg;have⟨a0,a1,b0,b1⟩:=q2f BK328)|((with_reducible refine gate_callee (f:=47) rfl ?_);refine goesL_ (some 5) rfl rfl Try.func47 (by kernel_rfl) rfl #[.string a0_0] rfl (by (try simp only [sM,sC,sN]);first|done|rfl) ?_;(with_reducible refine (spec_l01Letters.calls k a0_0 false _ A2.out).mono ?_);rintro e w' ⟨rfl,⟨nd,rfl⟩⟩;refine ⟨_,rfl,?_⟩))
  go_ret
  exact ⟨rfl,bb HB⟩
def impl_IsSequence.f (k:Nat) (a0_0:ByteArray) (a0_1:ByteArray):Option (Bool):=if a0_0.size + a0_1.size ≤ 9223372036854775807 then ((impl_areLetters.f (a0_0 ++ a0_1)).bind fun t418=>(if t418 = true then ((impl_areGiven.f a0_0 a0_1).bind fun t419=>(if t419 = true then ((impl_sequence.f k a0_0 a0_1).bind fun bt420=>(some (bt420.1.toList == a0_0.toList && (bt420.2.toList == a0_1.toList)))) else (some false))) else (some false))) else (none)
theorem impl_IsSequence.mono:∀ a0 a1 k,LeO (impl_IsSequence.f k a0 a1) (impl_IsSequence.f (k + 1) a0 a1):=by
 intro a0 a1 k
 unfold impl_IsSequence.f
 repeat' first
   | (with_reducible exact impl_sequence.mono _ _ _)
   | (with_reducible exact LeO.refl _)
   | (with_reducible exact LeO.none _)
   | (with_reducible refine LeO.ite ?_ ?_)
   | (with_reducible refine LeO.bind ?_ (fun _=>?_))
   | exact impl_sequence.mono _ _ _
   | exact LeO.none _
   | refine LeO.ite ?_ ?_
   | refine LeO.bind ?_ (fun _=>?_)
def impl_IsSequence.T1:Bool × List (List Nat × List Nat):=(true,[([],[]),([0],[0]),([],[]),([2],[2]),([1,3],[1,3]),([4],[4]),([5,5],[5]),([6],[6]),([7,6],[6,7]),([6],[6]),([9,6],[6,9]),([8,10,6,6],[6,8,10]),([6,11],[6,11]),([12,11],[12]),([13],[13]),([14,13],[13,14]),([13],[13]),([16,13],[13,16]),([15,17,13,13],[13,15,17]),([13],[13]),([18,19,13],[13,18,19]),([13,20],[13,20]),([21,18,0,1,2,3,4,5,6,7,8,9,10,11,12,13,14,15,16,17,18,19,20,21],[21])])
def impl_IsSequence.B1:List Nat:=[0,1,0,4,15,31,63,127,255,127,639,2047,4095,8191,16383,32767,16383,81919,262143,16383,1048575,2097151,4194303]
theorem impl_IsSequence.tab1:rtab .any (opsOf Try.f20 1) = impl_IsSequence.T1:=by kernel_rfl
theorem impl_IsSequence.bits1:waitsOk impl_IsSequence.T1.2 impl_IsSequence.B1 = true:=by kernel_rfl
set_option maxHeartbeats 8000000 in
set_option maxRecDepth 100000 in
theorem impl_IsSequence.calls (k:Nat) (a0_0:ByteArray) (a0_1:ByteArray) (r:Bool) (w:World) (h:impl_IsSequence.f k a0_0 a0_1 = some r) :
  Calls Try.prog 20 #[.agg #[.string a0_0,.string a0_1]] w fun e w'=>e = .returned (.bool r) ∧ Below w.heap.size w w':=by
 have hu25:=Try.underlying25
 have HB:=aM (Below.refl w.heap.size w)
 have H:(if a0_0.size + a0_1.size ≤ 9223372036854775807 then ((impl_areLetters.f (a0_0 ++ a0_1)).bind fun t418=>(if t418 = true then ((impl_areGiven.f a0_0 a0_1).bind fun t419=>(if t419 = true then ((impl_sequence.f k a0_0 a0_1).bind fun bt420=>(some (bt420.1.toList == a0_0.toList && (bt420.2.toList == a0_1.toList)))) else (some false))) else (some false))) else (none)) = some r:=h
 clear h
 by_cases c2:a0_0.size + a0_1.size ≤ 9223372036854775807
 ·rw [if_pos c2] at H
  have c2b0:=eq_true c2
  have c2b1:decide (a0_0.size + a0_1.size ≤ 9223372036854775807) = true:=decide_eq_true c2
  try have c2b2:(9223372036854775807 < a0_0.size + a0_1.size) = False:=eq_false (Nat.not_lt.2 c2)
  replace H:=Option.bind_eq_some_iff.mp H
  obtain ⟨t418,A30,H⟩:=H
  replace H:(if t418 = true then ((impl_areGiven.f a0_0 a0_1).bind fun t419=>(if t419 = true then ((impl_sequence.f k a0_0 a0_1).bind fun bt420=>(some (bt420.1.toList == a0_0.toList && (bt420.2.toList == a0_1.toList)))) else (some false))) else (some false)) = some r:=H;have A3:=aM A30
  clear A30
  by_cases c4:t418 = true
  ·subst c4
   have H1:((impl_areGiven.f a0_0 a0_1).bind fun t419=>(if t419 = true then ((impl_sequence.f k a0_0 a0_1).bind fun bt420=>(some (bt420.1.toList == a0_0.toList && (bt420.2.toList == a0_1.toList)))) else (some false))) = some r:=by rw [if_pos rfl] at H;exact H
   clear H
   have H:=H1
   clear H1
   replace H:=Option.bind_eq_some_iff.mp H
   obtain ⟨t419,A50,H⟩:=H
   replace H:(if t419 = true then ((impl_sequence.f k a0_0 a0_1).bind fun bt420=>(some (bt420.1.toList == a0_0.toList && (bt420.2.toList == a0_1.toList)))) else (some false)) = some r:=H;have A5:=aM A50
   clear A50
   by_cases c6:t419 = true
   ·subst c6
    have H1:((impl_sequence.f k a0_0 a0_1).bind fun bt420=>(some (bt420.1.toList == a0_0.toList && (bt420.2.toList == a0_1.toList)))) = some r:=by rw [if_pos rfl] at H;exact H
    clear H
    have H:=H1
    clear H1
    replace H:=Option.bind_eq_some_iff.mp H
    obtain ⟨⟨t420,t421⟩,A70,H⟩:=H
    replace H:(some (t420.toList == a0_0.toList && (t421.toList == a0_1.toList))) = some r:=H;have A7:=aM A70
    clear A70
    obtain rfl:=Option.some.inj H
    go_enter Try.func20,Try.ntmps20
    try go_wp2_with (first|((with_reducible refine gate_dst (N:=1) rfl ?_);refine box_event rfl (N:=1) rfl (cs:=#[.string a0_0,.string a0_1]) (t:=25) (by first|(go_simp;done)|(go_simp;rfl)) ?_;intro gb417 hg w8 hbox hb;have BK417:=aM (hbox);have GW417:=wl hg HB;have GE417:=wl hg HB;replace HB:=bs HB hb;clear hb hbox hg))
    replace BK417:=aM (yD BK417.out);replace HB:=aM (zD HB.out)
    refine start_ (n:=23) (S:=fun w'=>w'.cell? ⟨gb417,0,none⟩ = some (.string a0_0) ∧ w'.cell? ⟨gb417,1,none⟩ = some (.string a0_1)) (ds:=[]) #[fF,fF,fF,fF,fF,fF,fF,fF,fF,fF,fF,fF,fF,fF,fF,fF,fF,fF,fF,fF,fF,fF,fF] (by kernel_rfl) rfl rfl ⟨(blk_cell BK417.out 0).trans rfl,(blk_cell BK417.out 1).trans rfl⟩ (fun hHeld=>?_);refine with_tabW impl_IsSequence.tab1 impl_IsSequence.bits1 (fun HT_ HW_=>?_)
    generalize w8.drew = w9 at BK417 HB hHeld ⊢
    refine pz 3 0 #[tT,fF,fF,fF,fF,fF,fF,fF,fF,fF,fF,fF,fF,fF,fF,fF,fF,fF,fF,fF,fF,fF,fF] HT_ rfl rfl (by kernel_rfl) (fun _ _ _ h=>h) (by rfl) (by intro w';go_simp;with_reducible rfl) (by simp only [Act.put,sI,sZ,sS,i64_w,i32_w];rfl) ?_
    refine pz 5 2 #[tT,fF,tT,fF,fF,fF,fF,fF,fF,fF,fF,fF,fF,fF,fF,fF,fF,fF,fF,fF,fF,fF,fF] HT_ rfl rfl (by kernel_rfl) (fun _ _ _ h=>h) (by rfl) (by intro w';go_simp;with_reducible rfl) (by simp only [Act.put,sI,sZ,sS,i64_w,i32_w];rfl) ?_
    refine tz 4 1 #[tT,tT,tT,fF,fF,fF,fF,fF,fF,fF,fF,fF,fF,fF,fF,fF,fF,fF,fF,fF,fF,fF,fF] HT_ HW_ hHeld rfl rfl (by kernel_rfl) (fun _ _ _ h=>h) (by rfl) (by rintro w' ⟨s0,s1⟩;go_simp;with_reducible rfl) (by simp only [Act.put,sI,sZ,sS,i64_w,i32_w];rfl) ?_
    refine tz 6 3 #[tT,tT,tT,tT,fF,fF,fF,fF,fF,fF,fF,fF,fF,fF,fF,fF,fF,fF,fF,fF,fF,fF,fF] HT_ HW_ hHeld rfl rfl (by kernel_rfl) (fun _ _ _ h=>h) (by rfl) (by rintro w' ⟨s0,s1⟩;go_simp;with_reducible rfl) (by simp only [Act.put,sI,sZ,sS,i64_w,i32_w];rfl) ?_
    refine pz 7 4 #[tT,tT,tT,tT,tT,fF,fF,fF,fF,fF,fF,fF,fF,fF,fF,fF,fF,fF,fF,fF,fF,fF,fF] HT_ rfl rfl (by kernel_rfl) (fun _ _ _ h=>h) (by rfl) (by intro w';go_simp;with_reducible rfl) (by simp only [Act.put,sI,sZ,sS,i64_w,i32_w];rfl) ?_
    refine one_ (i:=5) (N:=some 8) #[tT,tT,tT,tT,tT,tT,fF,fF,fF,fF,fF,fF,fF,fF,fF,fF,fF,fF,fF,fF,fF,fF,fF] rfl rfl (one_of HT_.out (by kernel_rfl)) (by decide) (fun K hK=>?_)
    refine goes_ Try.func41 (by kernel_rfl) rfl #[.string (a0_0 ++ a0_1)] (by rfl) rfl rfl (by (try simp only [sM,sC,sN]);first|done|rfl) ?_
    with_reducible refine (impl_areLetters.calls (a0_0 ++ a0_1) true _ A3.out).mono ?_
    rintro e w10 ⟨rfl,hb⟩
    refine ⟨_,rfl,?_⟩
    replace BK417:=kb BK417 hb;replace HB:=bs HB hb;(try clear hb)
    refine hK.out _ _ ⟨(blk_cell BK417.out 0).trans rfl,(blk_cell BK417.out 1).trans rfl⟩ (fun hHeld=>?_)
    clear hK K
    refine norm_ (a':=_) (by show Act.put _ _ _=_;simp only [Act.put,sI,sZ,sS,i64_w,i32_w];rfl) ?_
    refine pz 9 6 #[tT,tT,tT,tT,tT,tT,tT,fF,fF,fF,fF,fF,fF,fF,fF,fF,fF,fF,fF,fF,fF,fF,fF] HT_ rfl rfl (by kernel_rfl) (fun _ _ _ h=>h) (by rfl) (by intro w';go_simp;with_reducible rfl) (by simp only [Act.put,sI,sZ,sS,i64_w,i32_w];rfl) ?_
    refine pz 10 7 #[tT,tT,tT,tT,tT,tT,tT,tT,fF,fF,fF,fF,fF,fF,fF,fF,fF,fF,fF,fF,fF,fF,fF] HT_ rfl rfl (by kernel_rfl) (fun _ _ _ h=>h) (by rfl) (by intro w';go_simp;with_reducible rfl) (by simp only [Act.put,sI,sZ,sS,i64_w,i32_w];rfl) ?_
    refine pz 12 9 #[tT,tT,tT,tT,tT,tT,tT,tT,fF,tT,fF,fF,fF,fF,fF,fF,fF,fF,fF,fF,fF,fF,fF] HT_ rfl rfl (by kernel_rfl) (fun _ _ _ h=>h) (by rfl) (by intro w';go_simp;with_reducible rfl) (by simp only [Act.put,sI,sZ,sS,i64_w,i32_w];rfl) ?_
    refine tz 11 8 #[tT,tT,tT,tT,tT,tT,tT,tT,tT,tT,fF,fF,fF,fF,fF,fF,fF,fF,fF,fF,fF,fF,fF] HT_ HW_ hHeld rfl rfl (by kernel_rfl) (fun _ _ _ h=>h) (by rfl) (by rintro w' ⟨s0,s1⟩;go_simp;with_reducible rfl) (by simp only [Act.put,sI,sZ,sS,i64_w,i32_w];rfl) ?_
    refine tz 13 10 #[tT,tT,tT,tT,tT,tT,tT,tT,tT,tT,tT,fF,fF,fF,fF,fF,fF,fF,fF,fF,fF,fF,fF] HT_ HW_ hHeld rfl rfl (by kernel_rfl) (fun _ _ _ h=>h) (by rfl) (by rintro w' ⟨s0,s1⟩;go_simp;with_reducible rfl) (by simp only [Act.put,sI,sZ,sS,i64_w,i32_w];rfl) ?_
    refine one_ (i:=11) (N:=some 14) #[tT,tT,tT,tT,tT,tT,tT,tT,tT,tT,tT,tT,fF,fF,fF,fF,fF,fF,fF,fF,fF,fF,fF] rfl rfl (one_of HT_.out (by kernel_rfl)) (by decide) (fun K hK=>?_)
    refine goes_ Try.func42 (by kernel_rfl) rfl #[.string a0_0,.string a0_1] (by rfl) rfl rfl (by (try simp only [sM,sC,sN]);first|done|rfl) ?_
    with_reducible refine (impl_areGiven.calls a0_0 a0_1 true _ A5.out).mono ?_
    rintro e w' ⟨rfl,⟨nd,rfl⟩⟩
    refine ⟨_,rfl,?_⟩
    refine hK.out _ _ ⟨(blk_cell BK417.out 0).trans rfl,(blk_cell BK417.out 1).trans rfl⟩ (fun hHeld=>?_)
    clear hK K
    refine norm_ (a':=_) (by show Act.put _ _ _=_;simp only [Act.put,sI,sZ,sS,i64_w,i32_w];rfl) ?_
    refine pz 15 12 #[tT,tT,tT,tT,tT,tT,tT,tT,tT,tT,tT,tT,tT,fF,fF,fF,fF,fF,fF,fF,fF,fF,fF] HT_ rfl rfl (by kernel_rfl) (fun _ _ _ h=>h) (by rfl) (by intro w';go_simp;with_reducible rfl) (by simp only [Act.put,sI,sZ,sS,i64_w,i32_w];rfl) ?_
    refine pz 16 13 #[tT,tT,tT,tT,tT,tT,tT,tT,tT,tT,tT,tT,tT,tT,fF,fF,fF,fF,fF,fF,fF,fF,fF] HT_ rfl rfl (by kernel_rfl) (fun _ _ _ h=>h) (by rfl) (by intro w';go_simp;with_reducible rfl) (by simp only [Act.put,sI,sZ,sS,i64_w,i32_w];rfl) ?_
    refine pz 17 14 #[tT,tT,tT,tT,tT,tT,tT,tT,tT,tT,tT,tT,tT,tT,tT,fF,fF,fF,fF,fF,fF,fF,fF] HT_ rfl rfl (by kernel_rfl) (fun _ _ _ h=>h) (by rfl) (by intro w';go_simp;with_reducible rfl) (by simp only [Act.put,sI,sZ,sS,i64_w,i32_w];rfl) ?_
    refine pz 19 16 #[tT,tT,tT,tT,tT,tT,tT,tT,tT,tT,tT,tT,tT,tT,tT,fF,tT,fF,fF,fF,fF,fF,fF] HT_ rfl rfl (by kernel_rfl) (fun _ _ _ h=>h) (by rfl) (by intro w';go_simp;with_reducible rfl) (by simp only [Act.put,sI,sZ,sS,i64_w,i32_w];rfl) ?_
    refine tz 18 15 #[tT,tT,tT,tT,tT,tT,tT,tT,tT,tT,tT,tT,tT,tT,tT,tT,tT,fF,fF,fF,fF,fF,fF] HT_ HW_ hHeld rfl rfl (by kernel_rfl) (fun _ _ _ h=>h) (by rfl) (by rintro w' ⟨s0,s1⟩;go_simp;with_reducible rfl) (by simp only [Act.put,sI,sZ,sS,i64_w,i32_w];rfl) ?_
    refine tz 20 17 #[tT,tT,tT,tT,tT,tT,tT,tT,tT,tT,tT,tT,tT,tT,tT,tT,tT,tT,fF,fF,fF,fF,fF] HT_ HW_ hHeld rfl rfl (by kernel_rfl) (fun _ _ _ h=>h) (by rfl) (by rintro w' ⟨s0,s1⟩;go_simp;with_reducible rfl) (by simp only [Act.put,sI,sZ,sS,i64_w,i32_w];rfl) ?_
    refine tz 22 19 #[tT,tT,tT,tT,tT,tT,tT,tT,tT,tT,tT,tT,tT,tT,tT,tT,tT,tT,fF,tT,fF,fF,fF] HT_ HW_ hHeld rfl rfl (by kernel_rfl) (fun _ _ _ h=>h) (by rfl) (by rintro w' ⟨s0,s1⟩;go_simp;with_reducible rfl) (by simp only [Act.put,sI,sZ,sS,i64_w,i32_w];rfl) ?_
    refine one_ (i:=18) (N:=some 21) #[tT,tT,tT,tT,tT,tT,tT,tT,tT,tT,tT,tT,tT,tT,tT,tT,tT,tT,tT,tT,fF,fF,fF] rfl rfl (one_of HT_.out (by kernel_rfl)) (by decide) (fun K hK=>?_)
    refine goes_ Try.func43 (by kernel_rfl) rfl #[.string a0_0,.string a0_1] (by rfl) rfl rfl (by (try simp only [sM,sC,sN]);first|done|rfl) ?_
    with_reducible refine (impl_sequence.calls k a0_0 a0_1 t420 t421 _ A7.out).mono ?_
    rintro e w11 ⟨rfl,hb⟩
    refine ⟨_,rfl,?_⟩
    replace BK417:=kb BK417 hb;replace HB:=bs HB hb;(try clear hb)
    refine hK.out _ _ ⟨(blk_cell BK417.out 0).trans rfl,(blk_cell BK417.out 1).trans rfl⟩ (fun hHeld=>?_)
    clear hK K
    refine norm_ (a':=_) (by show Act.put _ _ _=_;simp only [Act.put,sI,sZ,sS,i64_w,i32_w];rfl) ?_
    refine pz 23 20 #[tT,tT,tT,tT,tT,tT,tT,tT,tT,tT,tT,tT,tT,tT,tT,tT,tT,tT,tT,tT,tT,fF,fF] HT_ rfl rfl (by kernel_rfl) (fun _ _ _ h=>h) (by rfl) (by intro w';go_simp;with_reducible rfl) (by simp only [Act.put,sI,sZ,sS,i64_w,i32_w];rfl) ?_
    refine pz 24 21 #[tT,tT,tT,tT,tT,tT,tT,tT,tT,tT,tT,tT,tT,tT,tT,tT,tT,tT,tT,tT,tT,tT,fF] HT_ rfl rfl (by kernel_rfl) (fun _ _ _ h=>h) (by rfl) (by intro w';go_simp;with_reducible rfl) (by simp only [Act.put,sI,sZ,sS,i64_w,i32_w];rfl) ?_
    refine pz 2 22 #[tT,tT,tT,tT,tT,tT,tT,tT,tT,tT,tT,tT,tT,tT,tT,tT,tT,tT,tT,tT,tT,tT,tT] HT_ rfl rfl (by kernel_rfl) (fun _ _ _ h=>h) (by rfl) (by intro w';go_simp;with_reducible rfl) (by simp only [Act.put,sI,sZ,sS,i64_w,i32_w];rfl) ?_
    refine done_ (done_of HT_.out (by kernel_rfl)) ?_
    try go_wp2
    go_ret
    exact ⟨rfl,bb HB⟩
   ·replace c6:=Bool.eq_false_iff.mpr c6
    subst c6
    have H1:(some false) = some r:=by rw [if_neg (show ¬ (false = true) by decide)] at H;exact H
    clear H
    have H:=H1
    clear H1
    obtain rfl:=Option.some.inj H
    go_enter Try.func20,Try.ntmps20
    try go_wp2_with (first|((with_reducible refine gate_dst (N:=1) rfl ?_);refine box_event rfl (N:=1) rfl (cs:=#[.string a0_0,.string a0_1]) (t:=25) (by first|(go_simp;done)|(go_simp;rfl)) ?_;intro gb417 hg w12 hbox hb;have BK417:=aM (hbox);have GW417:=wl hg HB;have GE417:=wl hg HB;replace HB:=bs HB hb;clear hb hbox hg))
    replace BK417:=aM (yD BK417.out);replace HB:=aM (zD HB.out)
    refine start_ (n:=23) (S:=fun w'=>w'.cell? ⟨gb417,0,none⟩ = some (.string a0_0) ∧ w'.cell? ⟨gb417,1,none⟩ = some (.string a0_1)) (ds:=[]) #[fF,fF,fF,fF,fF,fF,fF,fF,fF,fF,fF,fF,fF,fF,fF,fF,fF,fF,fF,fF,fF,fF,fF] (by kernel_rfl) rfl rfl ⟨(blk_cell BK417.out 0).trans rfl,(blk_cell BK417.out 1).trans rfl⟩ (fun hHeld=>?_);refine with_tabW impl_IsSequence.tab1 impl_IsSequence.bits1 (fun HT_ HW_=>?_)
    generalize w12.drew = w13 at BK417 HB hHeld ⊢
    refine pz 3 0 #[tT,fF,fF,fF,fF,fF,fF,fF,fF,fF,fF,fF,fF,fF,fF,fF,fF,fF,fF,fF,fF,fF,fF] HT_ rfl rfl (by kernel_rfl) (fun _ _ _ h=>h) (by rfl) (by intro w';go_simp;with_reducible rfl) (by simp only [Act.put,sI,sZ,sS,i64_w,i32_w];rfl) ?_
    refine pz 5 2 #[tT,fF,tT,fF,fF,fF,fF,fF,fF,fF,fF,fF,fF,fF,fF,fF,fF,fF,fF,fF,fF,fF,fF] HT_ rfl rfl (by kernel_rfl) (fun _ _ _ h=>h) (by rfl) (by intro w';go_simp;with_reducible rfl) (by simp only [Act.put,sI,sZ,sS,i64_w,i32_w];rfl) ?_
    refine tz 4 1 #[tT,tT,tT,fF,fF,fF,fF,fF,fF,fF,fF,fF,fF,fF,fF,fF,fF,fF,fF,fF,fF,fF,fF] HT_ HW_ hHeld rfl rfl (by kernel_rfl) (fun _ _ _ h=>h) (by rfl) (by rintro w' ⟨s0,s1⟩;go_simp;with_reducible rfl) (by simp only [Act.put,sI,sZ,sS,i64_w,i32_w];rfl) ?_
    refine tz 6 3 #[tT,tT,tT,tT,fF,fF,fF,fF,fF,fF,fF,fF,fF,fF,fF,fF,fF,fF,fF,fF,fF,fF,fF] HT_ HW_ hHeld rfl rfl (by kernel_rfl) (fun _ _ _ h=>h) (by rfl) (by rintro w' ⟨s0,s1⟩;go_simp;with_reducible rfl) (by simp only [Act.put,sI,sZ,sS,i64_w,i32_w];rfl) ?_
    refine pz 7 4 #[tT,tT,tT,tT,tT,fF,fF,fF,fF,fF,fF,fF,fF,fF,fF,fF,fF,fF,fF,fF,fF,fF,fF] HT_ rfl rfl (by kernel_rfl) (fun _ _ _ h=>h) (by rfl) (by intro w';go_simp;with_reducible rfl) (by simp only [Act.put,sI,sZ,sS,i64_w,i32_w];rfl) ?_
    refine one_ (i:=5) (N:=some 8) #[tT,tT,tT,tT,tT,tT,fF,fF,fF,fF,fF,fF,fF,fF,fF,fF,fF,fF,fF,fF,fF,fF,fF] rfl rfl (one_of HT_.out (by kernel_rfl)) (by decide) (fun K hK=>?_)
    refine goes_ Try.func41 (by kernel_rfl) rfl #[.string (a0_0 ++ a0_1)] (by rfl) rfl rfl (by (try simp only [sM,sC,sN]);first|done|rfl) ?_
    with_reducible refine (impl_areLetters.calls (a0_0 ++ a0_1) true _ A3.out).mono ?_
    rintro e w14 ⟨rfl,hb⟩
    refine ⟨_,rfl,?_⟩
    replace BK417:=kb BK417 hb;replace HB:=bs HB hb;(try clear hb)
    refine hK.out _ _ ⟨(blk_cell BK417.out 0).trans rfl,(blk_cell BK417.out 1).trans rfl⟩ (fun hHeld=>?_)
    clear hK K
    refine norm_ (a':=_) (by show Act.put _ _ _=_;simp only [Act.put,sI,sZ,sS,i64_w,i32_w];rfl) ?_
    refine pz 9 6 #[tT,tT,tT,tT,tT,tT,tT,fF,fF,fF,fF,fF,fF,fF,fF,fF,fF,fF,fF,fF,fF,fF,fF] HT_ rfl rfl (by kernel_rfl) (fun _ _ _ h=>h) (by rfl) (by intro w';go_simp;with_reducible rfl) (by simp only [Act.put,sI,sZ,sS,i64_w,i32_w];rfl) ?_
    refine pz 10 7 #[tT,tT,tT,tT,tT,tT,tT,tT,fF,fF,fF,fF,fF,fF,fF,fF,fF,fF,fF,fF,fF,fF,fF] HT_ rfl rfl (by kernel_rfl) (fun _ _ _ h=>h) (by rfl) (by intro w';go_simp;with_reducible rfl) (by simp only [Act.put,sI,sZ,sS,i64_w,i32_w];rfl) ?_
    refine pz 12 9 #[tT,tT,tT,tT,tT,tT,tT,tT,fF,tT,fF,fF,fF,fF,fF,fF,fF,fF,fF,fF,fF,fF,fF] HT_ rfl rfl (by kernel_rfl) (fun _ _ _ h=>h) (by rfl) (by intro w';go_simp;with_reducible rfl) (by simp only [Act.put,sI,sZ,sS,i64_w,i32_w];rfl) ?_
    refine tz 11 8 #[tT,tT,tT,tT,tT,tT,tT,tT,tT,tT,fF,fF,fF,fF,fF,fF,fF,fF,fF,fF,fF,fF,fF] HT_ HW_ hHeld rfl rfl (by kernel_rfl) (fun _ _ _ h=>h) (by rfl) (by rintro w' ⟨s0,s1⟩;go_simp;with_reducible rfl) (by simp only [Act.put,sI,sZ,sS,i64_w,i32_w];rfl) ?_
    refine tz 13 10 #[tT,tT,tT,tT,tT,tT,tT,tT,tT,tT,tT,fF,fF,fF,fF,fF,fF,fF,fF,fF,fF,fF,fF] HT_ HW_ hHeld rfl rfl (by kernel_rfl) (fun _ _ _ h=>h) (by rfl) (by rintro w' ⟨s0,s1⟩;go_simp;with_reducible rfl) (by simp only [Act.put,sI,sZ,sS,i64_w,i32_w];rfl) ?_
    refine one_ (i:=11) (N:=some 14) #[tT,tT,tT,tT,tT,tT,tT,tT,tT,tT,tT,tT,fF,fF,fF,fF,fF,fF,fF,fF,fF,fF,fF] rfl rfl (one_of HT_.out (by kernel_rfl)) (by decide) (fun K hK=>?_)
    refine goes_ Try.func42 (by kernel_rfl) rfl #[.string a0_0,.string a0_1] (by rfl) rfl rfl (by (try simp only [sM,sC,sN]);first|done|rfl) ?_
    with_reducible refine (impl_areGiven.calls a0_0 a0_1 false _ A5.out).mono ?_
    rintro e w' ⟨rfl,⟨nd,rfl⟩⟩
    refine ⟨_,rfl,?_⟩
    refine hK.out _ _ ⟨(blk_cell BK417.out 0).trans rfl,(blk_cell BK417.out 1).trans rfl⟩ (fun hHeld=>?_)
    clear hK K
    refine norm_ (a':=_) (by show Act.put _ _ _=_;simp only [Act.put,sI,sZ,sS,i64_w,i32_w];rfl) ?_
    refine pz 15 12 #[tT,tT,tT,tT,tT,tT,tT,tT,tT,tT,tT,tT,tT,fF,fF,fF,fF,fF,fF,fF,fF,fF,fF] HT_ rfl rfl (by kernel_rfl) (fun _ _ _ h=>h) (by rfl) (by intro w';go_simp;with_reducible rfl) (by simp only [Act.put,sI,sZ,sS,i64_w,i32_w];rfl) ?_
    refine pz 16 13 #[tT,tT,tT,tT,tT,tT,tT,tT,tT,tT,tT,tT,tT,tT,fF,fF,fF,fF,fF,fF,fF,fF,fF] HT_ rfl rfl (by kernel_rfl) (fun _ _ _ h=>h) (by rfl) (by intro w';go_simp;with_reducible rfl) (by simp only [Act.put,sI,sZ,sS,i64_w,i32_w];rfl) ?_
    refine pu 17 14 #[tT,tT,tT,tT,tT,tT,tT,tT,tT,tT,tT,tT,tT,tT,tT,fF,fF,fF,fF,fF,fF,fF,fF] HT_ rfl rfl (by kernel_rfl) (fun _ _ _ h=>h) (by rfl) (by simp only [Act.put,sI,sZ,sS,i64_w,i32_w];rfl) ?_
    refine pu 18 15 #[tT,tT,tT,tT,tT,tT,tT,tT,tT,tT,tT,tT,tT,tT,tT,tT,fF,fF,fF,fF,fF,fF,fF] HT_ rfl rfl (by kernel_rfl) (fun _ _ _ h=>h) (by rfl) (by simp only [Act.put,sI,sZ,sS,i64_w,i32_w];rfl) ?_
    refine pu 19 16 #[tT,tT,tT,tT,tT,tT,tT,tT,tT,tT,tT,tT,tT,tT,tT,tT,tT,fF,fF,fF,fF,fF,fF] HT_ rfl rfl (by kernel_rfl) (fun _ _ _ h=>h) (by rfl) (by simp only [Act.put,sI,sZ,sS,i64_w,i32_w];rfl) ?_
    refine pu 20 17 #[tT,tT,tT,tT,tT,tT,tT,tT,tT,tT,tT,tT,tT,tT,tT,tT,tT,tT,fF,fF,fF,fF,fF] HT_ rfl rfl (by kernel_rfl) (fun _ _ _ h=>h) (by rfl) (by simp only [Act.put,sI,sZ,sS,i64_w,i32_w];rfl) ?_
    refine pu 21 18 #[tT,tT,tT,tT,tT,tT,tT,tT,tT,tT,tT,tT,tT,tT,tT,tT,tT,tT,tT,fF,fF,fF,fF] HT_ rfl rfl (by kernel_rfl) (fun _ _ _ h=>h) (by rfl) (by simp only [Act.put,sI,sZ,sS,i64_w,i32_w];rfl) ?_
    refine pu 22 19 #[tT,tT,tT,tT,tT,tT,tT,tT,tT,tT,tT,tT,tT,tT,tT,tT,tT,tT,tT,tT,fF,fF,fF] HT_ rfl rfl (by kernel_rfl) (fun _ _ _ h=>h) (by rfl) (by simp only [Act.put,sI,sZ,sS,i64_w,i32_w];rfl) ?_
    refine pu 23 20 #[tT,tT,tT,tT,tT,tT,tT,tT,tT,tT,tT,tT,tT,tT,tT,tT,tT,tT,tT,tT,tT,fF,fF] HT_ rfl rfl (by kernel_rfl) (fun _ _ _ h=>h) (by rfl) (by simp only [Act.put,sI,sZ,sS,i64_w,i32_w];rfl) ?_
    refine pz 24 21 #[tT,tT,tT,tT,tT,tT,tT,tT,tT,tT,tT,tT,tT,tT,tT,tT,tT,tT,tT,tT,tT,tT,fF] HT_ rfl rfl (by kernel_rfl) (fun _ _ _ h=>h) (by rfl) (by intro w';go_simp;with_reducible rfl) (by simp only [Act.put,sI,sZ,sS,i64_w,i32_w];rfl) ?_
    refine pz 2 22 #[tT,tT,tT,tT,tT,tT,tT,tT,tT,tT,tT,tT,tT,tT,tT,tT,tT,tT,tT,tT,tT,tT,tT] HT_ rfl rfl (by kernel_rfl) (fun _ _ _ h=>h) (by rfl) (by intro w';go_simp;with_reducible rfl) (by simp only [Act.put,sI,sZ,sS,i64_w,i32_w];rfl) ?_
    refine done_ (done_of HT_.out (by kernel_rfl)) ?_
    try go_wp2
    go_ret
    exact ⟨rfl,bb HB⟩
  ·replace c4:=Bool.eq_false_iff.mpr c4
   subst c4
   have H1:(some false) = some r:=by rw [if_neg (show ¬ (false = true) by decide)] at H;exact H
   clear H
   have H:=H1
   clear H1
   obtain rfl:=Option.some.inj H
   go_enter Try.func20,Try.ntmps20
   try go_wp2_with (first|((with_reducible refine gate_dst (N:=1) rfl ?_);refine box_event rfl (N:=1) rfl (cs:=#[.string a0_0,.string a0_1]) (t:=25) (by first|(go_simp;done)|(go_simp;rfl)) ?_;intro gb417 hg w15 hbox hb;have BK417:=aM (hbox);have GW417:=wl hg HB;have GE417:=wl hg HB;replace HB:=bs HB hb;clear hb hbox hg))
   replace BK417:=aM (yD BK417.out);replace HB:=aM (zD HB.out)
   refine start_ (n:=23) (S:=fun w'=>w'.cell? ⟨gb417,0,none⟩ = some (.string a0_0) ∧ w'.cell? ⟨gb417,1,none⟩ = some (.string a0_1)) (ds:=[]) #[fF,fF,fF,fF,fF,fF,fF,fF,fF,fF,fF,fF,fF,fF,fF,fF,fF,fF,fF,fF,fF,fF,fF] (by kernel_rfl) rfl rfl ⟨(blk_cell BK417.out 0).trans rfl,(blk_cell BK417.out 1).trans rfl⟩ (fun hHeld=>?_);refine with_tabW impl_IsSequence.tab1 impl_IsSequence.bits1 (fun HT_ HW_=>?_)
   generalize w15.drew = w16 at BK417 HB hHeld ⊢
   refine pz 3 0 #[tT,fF,fF,fF,fF,fF,fF,fF,fF,fF,fF,fF,fF,fF,fF,fF,fF,fF,fF,fF,fF,fF,fF] HT_ rfl rfl (by kernel_rfl) (fun _ _ _ h=>h) (by rfl) (by intro w';go_simp;with_reducible rfl) (by simp only [Act.put,sI,sZ,sS,i64_w,i32_w];rfl) ?_
   refine pz 5 2 #[tT,fF,tT,fF,fF,fF,fF,fF,fF,fF,fF,fF,fF,fF,fF,fF,fF,fF,fF,fF,fF,fF,fF] HT_ rfl rfl (by kernel_rfl) (fun _ _ _ h=>h) (by rfl) (by intro w';go_simp;with_reducible rfl) (by simp only [Act.put,sI,sZ,sS,i64_w,i32_w];rfl) ?_
   refine tz 4 1 #[tT,tT,tT,fF,fF,fF,fF,fF,fF,fF,fF,fF,fF,fF,fF,fF,fF,fF,fF,fF,fF,fF,fF] HT_ HW_ hHeld rfl rfl (by kernel_rfl) (fun _ _ _ h=>h) (by rfl) (by rintro w' ⟨s0,s1⟩;go_simp;with_reducible rfl) (by simp only [Act.put,sI,sZ,sS,i64_w,i32_w];rfl) ?_
   refine tz 6 3 #[tT,tT,tT,tT,fF,fF,fF,fF,fF,fF,fF,fF,fF,fF,fF,fF,fF,fF,fF,fF,fF,fF,fF] HT_ HW_ hHeld rfl rfl (by kernel_rfl) (fun _ _ _ h=>h) (by rfl) (by rintro w' ⟨s0,s1⟩;go_simp;with_reducible rfl) (by simp only [Act.put,sI,sZ,sS,i64_w,i32_w];rfl) ?_
   refine pz 7 4 #[tT,tT,tT,tT,tT,fF,fF,fF,fF,fF,fF,fF,fF,fF,fF,fF,fF,fF,fF,fF,fF,fF,fF] HT_ rfl rfl (by kernel_rfl) (fun _ _ _ h=>h) (by rfl) (by intro w';go_simp;with_reducible rfl) (by simp only [Act.put,sI,sZ,sS,i64_w,i32_w];rfl) ?_
   refine one_ (i:=5) (N:=some 8) #[tT,tT,tT,tT,tT,tT,fF,fF,fF,fF,fF,fF,fF,fF,fF,fF,fF,fF,fF,fF,fF,fF,fF] rfl rfl (one_of HT_.out (by kernel_rfl)) (by decide) (fun K hK=>?_)
   refine goes_ Try.func41 (by kernel_rfl) rfl #[.string (a0_0 ++ a0_1)] (by rfl) rfl rfl (by (try simp only [sM,sC,sN]);first|done|rfl) ?_
   with_reducible refine (impl_areLetters.calls (a0_0 ++ a0_1) false _ A3.out).mono ?_
   rintro e w17 ⟨rfl,hb⟩
   refine ⟨_,rfl,?_⟩
   replace BK417:=kb BK417 hb;replace HB:=bs HB hb;(try clear hb)
   refine hK.out _ _ ⟨(blk_cell BK417.out 0).trans rfl,(blk_cell BK417.out 1).trans rfl⟩ (fun hHeld=>?_)
   clear hK K
   refine norm_ (a':=_) (by show Act.put _ _ _=_;simp only [Act.put,sI,sZ,sS,i64_w,i32_w];rfl) ?_
   refine pz 9 6 #[tT,tT,tT,tT,tT,tT,tT,fF,fF,fF,fF,fF,fF,fF,fF,fF,fF,fF,fF,fF,fF,fF,fF] HT_ rfl rfl (by kernel_rfl) (fun _ _ _ h=>h) (by rfl) (by intro w';go_simp;with_reducible rfl) (by simp only [Act.put,sI,sZ,sS,i64_w,i32_w];rfl) ?_
   refine pu 10 7 #[tT,tT,tT,tT,tT,tT,tT,tT,fF,fF,fF,fF,fF,fF,fF,fF,fF,fF,fF,fF,fF,fF,fF] HT_ rfl rfl (by kernel_rfl) (fun _ _ _ h=>h) (by rfl) (by simp only [Act.put,sI,sZ,sS,i64_w,i32_w];rfl) ?_
   refine pu 11 8 #[tT,tT,tT,tT,tT,tT,tT,tT,tT,fF,fF,fF,fF,fF,fF,fF,fF,fF,fF,fF,fF,fF,fF] HT_ rfl rfl (by kernel_rfl) (fun _ _ _ h=>h) (by rfl) (by simp only [Act.put,sI,sZ,sS,i64_w,i32_w];rfl) ?_
   refine pu 12 9 #[tT,tT,tT,tT,tT,tT,tT,tT,tT,tT,fF,fF,fF,fF,fF,fF,fF,fF,fF,fF,fF,fF,fF] HT_ rfl rfl (by kernel_rfl) (fun _ _ _ h=>h) (by rfl) (by simp only [Act.put,sI,sZ,sS,i64_w,i32_w];rfl) ?_
   refine pu 13 10 #[tT,tT,tT,tT,tT,tT,tT,tT,tT,tT,tT,fF,fF,fF,fF,fF,fF,fF,fF,fF,fF,fF,fF] HT_ rfl rfl (by kernel_rfl) (fun _ _ _ h=>h) (by rfl) (by simp only [Act.put,sI,sZ,sS,i64_w,i32_w];rfl) ?_
   refine pu 14 11 #[tT,tT,tT,tT,tT,tT,tT,tT,tT,tT,tT,tT,fF,fF,fF,fF,fF,fF,fF,fF,fF,fF,fF] HT_ rfl rfl (by kernel_rfl) (fun _ _ _ h=>h) (by rfl) (by simp only [Act.put,sI,sZ,sS,i64_w,i32_w];rfl) ?_
   refine pz 15 12 #[tT,tT,tT,tT,tT,tT,tT,tT,tT,tT,tT,tT,tT,fF,fF,fF,fF,fF,fF,fF,fF,fF,fF] HT_ rfl rfl (by kernel_rfl) (fun _ _ _ h=>h) (by rfl) (by intro w';go_simp;with_reducible rfl) (by simp only [Act.put,sI,sZ,sS,i64_w,i32_w];rfl) ?_
   refine pz 16 13 #[tT,tT,tT,tT,tT,tT,tT,tT,tT,tT,tT,tT,tT,tT,fF,fF,fF,fF,fF,fF,fF,fF,fF] HT_ rfl rfl (by kernel_rfl) (fun _ _ _ h=>h) (by rfl) (by intro w';go_simp;with_reducible rfl) (by simp only [Act.put,sI,sZ,sS,i64_w,i32_w];rfl) ?_
   refine pu 17 14 #[tT,tT,tT,tT,tT,tT,tT,tT,tT,tT,tT,tT,tT,tT,tT,fF,fF,fF,fF,fF,fF,fF,fF] HT_ rfl rfl (by kernel_rfl) (fun _ _ _ h=>h) (by rfl) (by simp only [Act.put,sI,sZ,sS,i64_w,i32_w];rfl) ?_
   refine pu 18 15 #[tT,tT,tT,tT,tT,tT,tT,tT,tT,tT,tT,tT,tT,tT,tT,tT,fF,fF,fF,fF,fF,fF,fF] HT_ rfl rfl (by kernel_rfl) (fun _ _ _ h=>h) (by rfl) (by simp only [Act.put,sI,sZ,sS,i64_w,i32_w];rfl) ?_
   refine pu 19 16 #[tT,tT,tT,tT,tT,tT,tT,tT,tT,tT,tT,tT,tT,tT,tT,tT,tT,fF,fF,fF,fF,fF,fF] HT_ rfl rfl (by kernel_rfl) (fun _ _ _ h=>h) (by rfl) (by simp only [Act.put,sI,sZ,sS,i64_w,i32_w];rfl) ?_
   refine pu 20 17 #[tT,tT,tT,tT,tT,tT,tT,tT,tT,tT,tT,tT,tT,tT,tT,tT,tT,tT,fF,fF,fF,fF,fF] HT_ rfl rfl (by kernel_rfl) (fun _ _ _ h=>h) (by rfl) (by simp only [Act.put,sI,sZ,sS,i64_w,i32_w];rfl) ?_
   refine pu 21 18 #[tT,tT,tT,tT,tT,tT,tT,tT,tT,tT,tT,tT,tT,tT,tT,tT,tT,tT,tT,fF,fF,fF,fF] HT_ rfl rfl (by kernel_rfl) (fun _ _ _ h=>h) (by rfl) (by simp only [Act.put,sI,sZ,sS,i64_w,i32_w];rfl) ?_
   refine pu 22 19 #[tT,tT,tT,tT,tT,tT,tT,tT,tT,tT,tT,tT,tT,tT,tT,tT,tT,tT,tT,tT,fF,fF,fF] HT_ rfl rfl (by kernel_rfl) (fun _ _ _ h=>h) (by rfl) (by simp only [Act.put,sI,sZ,sS,i64_w,i32_w];rfl) ?_
   refine pu 23 20 #[tT,tT,tT,tT,tT,tT,tT,tT,tT,tT,tT,tT,tT,tT,tT,tT,tT,tT,tT,tT,tT,fF,fF] HT_ rfl rfl (by kernel_rfl) (fun _ _ _ h=>h) (by rfl) (by simp only [Act.put,sI,sZ,sS,i64_w,i32_w];rfl) ?_
   refine pz 24 21 #[tT,tT,tT,tT,tT,tT,tT,tT,tT,tT,tT,tT,tT,tT,tT,tT,tT,tT,tT,tT,tT,tT,fF] HT_ rfl rfl (by kernel_rfl) (fun _ _ _ h=>h) (by rfl) (by intro w';go_simp;with_reducible rfl) (by simp only [Act.put,sI,sZ,sS,i64_w,i32_w];rfl) ?_
   refine pz 2 22 #[tT,tT,tT,tT,tT,tT,tT,tT,tT,tT,tT,tT,tT,tT,tT,tT,tT,tT,tT,tT,tT,tT,tT] HT_ rfl rfl (by kernel_rfl) (fun _ _ _ h=>h) (by rfl) (by intro w';go_simp;with_reducible rfl) (by simp only [Act.put,sI,sZ,sS,i64_w,i32_w];rfl) ?_
   refine done_ (done_of HT_.out (by kernel_rfl)) ?_
   try go_wp2
   go_ret
   exact ⟨rfl,bb HB⟩
 ·rw [if_neg c2] at H
  exact absurd H (by simp)
end Go.Proofs.Ytmhpbilkocnlnaa.Q
end
section
namespace Go.Proofs.Ytmhpbilkocnlnaa.Q
open Go.Proofs.YtmhpbilkocnlnaaW.Ext
open Go.RowKit Go.Proofs.YtmhpbilkocnlnaaW.PrintWords Go.Proofs.YtmhpbilkocnlnaaW.PrintLast Go.Proofs.YtmhpbilkocnlnaaW.PrintMore
attribute [local go_sem] max2_int min2_int max_two min_two max_three min_three max_four min_four   -- for this text's walks alone
set_option linter.unusedVariables false
set_option linter.unusedSimpArgs false
def spec_l01At.f (a0_0:ByteArray) (a0_1:ByteArray) (a1:Int):Option (Int):=if a1 < (a0_0.size:Int) then (if 0 ≤ a1 then (some (bt a0_0 a1)) else (none)) else (if (a0_1.size:Int) = 0 then (none) else (if 0 ≤ (Int.tmod (wrap64 (a1 - (a0_0.size:Int))) (a0_1.size:Int)) then (if (Int.tmod (wrap64 (a1 - (a0_0.size:Int))) (a0_1.size:Int)) < (a0_1.size:Int) then (some (bt a0_1 (Int.tmod (wrap64 (a1 - (a0_0.size:Int))) (a0_1.size:Int)))) else (none)) else (none)))
set_option maxHeartbeats 8000000 in
set_option maxRecDepth 100000 in
theorem spec_l01At.calls (a0_0:ByteArray) (a0_1:ByteArray) (a1:Int) (r:Int) (w:World) (h:spec_l01At.f a0_0 a0_1 a1 = some r) :
  Calls Try.prog 49 #[.agg #[.string a0_0,.string a0_1],.int .i64 a1] w fun e w'=>e = .returned (.int .u8 r) ∧ Below w.heap.size w w':=by
 have hu25:=Try.underlying25
 have HB:=aM (Below.refl w.heap.size w)
 have H:(if a1 < (a0_0.size:Int) then (if 0 ≤ a1 then (some (bt a0_0 a1)) else (none)) else (if (a0_1.size:Int) = 0 then (none) else (if 0 ≤ (Int.tmod (wrap64 (a1 - (a0_0.size:Int))) (a0_1.size:Int)) then (if (Int.tmod (wrap64 (a1 - (a0_0.size:Int))) (a0_1.size:Int)) < (a0_1.size:Int) then (some (bt a0_1 (Int.tmod (wrap64 (a1 - (a0_0.size:Int))) (a0_1.size:Int)))) else (none)) else (none)))) = some r:=h
 clear h
 by_cases c3:a1 < (a0_0.size:Int)
 ·rw [if_pos c3] at H
  have c3b0:decide (a1 < (a0_0.size:Int)) = true:=decide_eq_true c3
  clear c3
  by_cases c4:0 ≤ a1
  ·rw [if_pos c4] at H
   have c4b0:decide (0 ≤ a1) = true:=decide_eq_true c4
   clear c4
   obtain rfl:=Option.some.inj H
   go_enter Try.func49,Try.ntmps49
   go_wp2_with (first|((with_reducible refine gate_dst (N:=2) rfl ?_);refine box_event rfl (N:=2) rfl (cs:=#[.string a0_0,.string a0_1]) (t:=25) (by first|(go_simp;done)|(go_simp;rfl)) ?_;intro gb439 hg w6 hbox hb;have BK439:=aM (hbox);have GW439:=aM ((by rw [hg];exact (below_size (by repeat (first|(with_reducible first|exact HB.out|apply zA|apply zN|apply zD)|exact HB.out))):w.heap.size ≤ gb439));have GE439:=aM ((by rw [hg];exact (below_size (by repeat (first|(with_reducible first|exact HB.out|apply zA|apply zN|apply zD)|exact HB.out))):w.heap.size ≤ gb439));replace HB:=aM (below_step (by repeat (first|(with_reducible first|exact HB.out|apply zA|apply zN|apply zD)|exact HB.out)) hb);clear hb hbox hg;have hcz7_0:w6.cell? ⟨gb439,0,none⟩ = some (.string a0_0):=(blk_cell BK439.out 0).trans rfl;have hcz7_1:w6.cell? ⟨gb439,1,none⟩ = some (.string a0_1):=(blk_cell BK439.out 1).trans rfl;have hfz7_0:=blk_frozen BK439.out 0;have hfz7_1:=blk_frozen BK439.out 1;have p5:0 ≤ (a1:Int):=of_decide_eq_true (by assumption);have q5:a1 < (a0_0.size:Int):=of_decide_eq_true (by assumption);have hx5:=bt_at a0_0 a1;replace p5:=eq_true p5;replace q5:=eq_true q5))
   repeat (go_quiet (first|((with_reducible refine gate_dst (N:=2) rfl ?_);refine box_event rfl (N:=2) rfl (cs:=#[.string a0_0,.string a0_1]) (t:=25) (by first|(go_simp;done)|(go_simp;rfl)) ?_;intro gb439 hg w6 hbox hb;have BK439:=aM (hbox);have GW439:=aM ((by rw [hg];exact (below_size (by repeat (first|(with_reducible first|exact HB.out|apply zA|apply zN|apply zD)|exact HB.out))):w.heap.size ≤ gb439));have GE439:=aM ((by rw [hg];exact (below_size (by repeat (first|(with_reducible first|exact HB.out|apply zA|apply zN|apply zD)|exact HB.out))):w.heap.size ≤ gb439));replace HB:=aM (below_step (by repeat (first|(with_reducible first|exact HB.out|apply zA|apply zN|apply zD)|exact HB.out)) hb);clear hb hbox hg;have hcz7_0:w6.cell? ⟨gb439,0,none⟩ = some (.string a0_0):=(blk_cell BK439.out 0).trans rfl;have hcz7_1:w6.cell? ⟨gb439,1,none⟩ = some (.string a0_1):=(blk_cell BK439.out 1).trans rfl;have hfz7_0:=blk_frozen BK439.out 0;have hfz7_1:=blk_frozen BK439.out 1;have p5:0 ≤ (a1:Int):=of_decide_eq_true (by assumption);have q5:a1 < (a0_0.size:Int):=of_decide_eq_true (by assumption);have hx5:=bt_at a0_0 a1;replace p5:=eq_true p5;replace q5:=eq_true q5));try go_wp2_with (first|((with_reducible refine gate_dst (N:=2) rfl ?_);refine box_event rfl (N:=2) rfl (cs:=#[.string a0_0,.string a0_1]) (t:=25) (by first|(go_simp;done)|(go_simp;rfl)) ?_;intro gb439 hg w6 hbox hb;have BK439:=aM (hbox);have GW439:=aM ((by rw [hg];exact (below_size (by repeat (first|(with_reducible first|exact HB.out|apply zA|apply zN|apply zD)|exact HB.out))):w.heap.size ≤ gb439));have GE439:=aM ((by rw [hg];exact (below_size (by repeat (first|(with_reducible first|exact HB.out|apply zA|apply zN|apply zD)|exact HB.out))):w.heap.size ≤ gb439));replace HB:=aM (below_step (by repeat (first|(with_reducible first|exact HB.out|apply zA|apply zN|apply zD)|exact HB.out)) hb);clear hb hbox hg;have hcz7_0:w6.cell? ⟨gb439,0,none⟩ = some (.string a0_0):=(blk_cell BK439.out 0).trans rfl;have hcz7_1:w6.cell? ⟨gb439,1,none⟩ = some (.string a0_1):=(blk_cell BK439.out 1).trans rfl;have hfz7_0:=blk_frozen BK439.out 0;have hfz7_1:=blk_frozen BK439.out 1;have p5:0 ≤ (a1:Int):=of_decide_eq_true (by assumption);have q5:a1 < (a0_0.size:Int):=of_decide_eq_true (by assumption);have hx5:=bt_at a0_0 a1;replace p5:=eq_true p5;replace q5:=eq_true q5)))
   go_ret
   exact ⟨rfl,by repeat (first|(with_reducible first|exact HB.out|apply zA|apply zN|apply zD|refine zS ?_ GE439.out)|exact HB.out)⟩
  ·rw [if_neg c4] at H
   exact absurd H (by simp)
 ·rw [if_neg c3] at H
  have c3b0:decide (a1 < (a0_0.size:Int)) = false:=decide_eq_false c3
  clear c3
  by_cases c8:(a0_1.size:Int) = 0
  ·rw [if_pos c8] at H
   exact absurd H (by simp)
  ·rw [if_neg c8] at H
   have c8b0:((a0_1.size:Int) == 0) = false:=beq_eq_false_iff_ne.mpr c8
   have c8b1:((a0_1.size:Int) != 0) = true:=bne_iff_ne.mpr c8
   obtain ⟨ji9,hji9⟩:∃ j_:Int,(Int.tmod (wrap64 (a1 - (a0_0.size:Int))) (a0_1.size:Int)) = j_:=⟨_,rfl⟩
   replace H:(if 0 ≤ (ji9) then (if (ji9) < (a0_1.size:Int) then (some (bt a0_1 (ji9))) else (none)) else (none)) = some r:=by first|(rw [hji9] at H;exact H)|(simp only [hji9] at H ⊢;exact H)
   by_cases c10:0 ≤ (ji9)
   ·rw [if_pos c10] at H
    have c10b0:decide (0 ≤ (ji9)) = true:=decide_eq_true c10
    clear c10
    by_cases c11:(ji9) < (a0_1.size:Int)
    ·rw [if_pos c11] at H
     have c11b0:decide ((ji9) < (a0_1.size:Int)) = true:=decide_eq_true c11
     clear c11
     obtain rfl:=Option.some.inj H
     go_enter Try.func49,Try.ntmps49
     go_wp2_with (first|((with_reducible refine gate_dst (N:=2) rfl ?_);refine box_event rfl (N:=2) rfl (cs:=#[.string a0_0,.string a0_1]) (t:=25) (by first|(go_simp;done)|(go_simp;rfl)) ?_;intro gb439 hg w13 hbox hb;have BK439:=aM (hbox);have GW439:=wl hg HB;have GE439:=wl hg HB;replace HB:=bs HB hb;clear hb hbox hg;have⟨a0,a1,b0,b1⟩:=q2f BK439;have p12:0 ≤ ((ji9):Int):=of_decide_eq_true (by assumption);have q12:(ji9) < (a0_1.size:Int):=of_decide_eq_true (by assumption);have hx12:=bt_at a0_1 (ji9);replace p12:=eq_true p12;replace q12:=eq_true q12))
     repeat (go_quiet (first|((with_reducible refine gate_dst (N:=2) rfl ?_);refine box_event rfl (N:=2) rfl (cs:=#[.string a0_0,.string a0_1]) (t:=25) (by first|(go_simp;done)|(go_simp;rfl)) ?_;intro gb439 hg w13 hbox hb;have BK439:=aM (hbox);have GW439:=wl hg HB;have GE439:=wl hg HB;replace HB:=bs HB hb;clear hb hbox hg;have⟨a0,a1,b0,b1⟩:=q2f BK439;have p12:0 ≤ ((ji9):Int):=of_decide_eq_true (by assumption);have q12:(ji9) < (a0_1.size:Int):=of_decide_eq_true (by assumption);have hx12:=bt_at a0_1 (ji9);replace p12:=eq_true p12;replace q12:=eq_true q12));try go_wp2_with (first|((with_reducible refine gate_dst (N:=2) rfl ?_);refine box_event rfl (N:=2) rfl (cs:=#[.string a0_0,.string a0_1]) (t:=25) (by first|(go_simp;done)|(go_simp;rfl)) ?_;intro gb439 hg w13 hbox hb;have BK439:=aM (hbox);have GW439:=wl hg HB;have GE439:=wl hg HB;replace HB:=bs HB hb;clear hb hbox hg;have⟨a0,a1,b0,b1⟩:=q2f BK439;have p12:0 ≤ ((ji9):Int):=of_decide_eq_true (by assumption);have q12:(ji9) < (a0_1.size:Int):=of_decide_eq_true (by assumption);have hx12:=bt_at a0_1 (ji9);replace p12:=eq_true p12;replace q12:=eq_true q12)))
     go_ret
     exact ⟨by first|rfl|(simp [errW_none,errW_some] <;> rfl)|(simp only [← hji9];first|rfl|(simp [errW_none,errW_some] <;> rfl))|(simp [*,errW_none,errW_some] <;> rfl),bb HB⟩
    ·rw [if_neg c11] at H
     exact absurd H (by simp)
   ·rw [if_neg c10] at H
    exact absurd H (by simp)
def impl_Sequence_at.f (a0_0:ByteArray) (a0_1:ByteArray) (a1:Int):Option (Int):=if a1 < (a0_0.size:Int) then (if 0 ≤ a1 then (some (bt a0_0 a1)) else (none)) else (if (a0_1.size:Int) = 0 then (none) else (if 0 ≤ (Int.tmod (wrap64 (a1 - (a0_0.size:Int))) (a0_1.size:Int)) then (if (Int.tmod (wrap64 (a1 - (a0_0.size:Int))) (a0_1.size:Int)) < (a0_1.size:Int) then (some (bt a0_1 (Int.tmod (wrap64 (a1 - (a0_0.size:Int))) (a0_1.size:Int)))) else (none)) else (none)))
set_option maxHeartbeats 8000000 in
set_option maxRecDepth 100000 in
theorem impl_Sequence_at.calls (a0_0:ByteArray) (a0_1:ByteArray) (a1:Int) (r:Int) (w:World) (h:impl_Sequence_at.f a0_0 a0_1 a1 = some r) :
  Calls Try.prog 46 #[.agg #[.string a0_0,.string a0_1],.int .i64 a1] w fun e w'=>e = .returned (.int .u8 r) ∧ Below w.heap.size w w':=by
 have hu25:=Try.underlying25
 have HB:=aM (Below.refl w.heap.size w)
 have H:(if a1 < (a0_0.size:Int) then (if 0 ≤ a1 then (some (bt a0_0 a1)) else (none)) else (if (a0_1.size:Int) = 0 then (none) else (if 0 ≤ (Int.tmod (wrap64 (a1 - (a0_0.size:Int))) (a0_1.size:Int)) then (if (Int.tmod (wrap64 (a1 - (a0_0.size:Int))) (a0_1.size:Int)) < (a0_1.size:Int) then (some (bt a0_1 (Int.tmod (wrap64 (a1 - (a0_0.size:Int))) (a0_1.size:Int)))) else (none)) else (none)))) = some r:=h
 clear h
 by_cases c3:a1 < (a0_0.size:Int)
 ·rw [if_pos c3] at H
  have c3b0:decide (a1 < (a0_0.size:Int)) = true:=decide_eq_true c3
  clear c3
  by_cases c4:0 ≤ a1
  ·rw [if_pos c4] at H
   have c4b0:decide (0 ≤ a1) = true:=decide_eq_true c4
   clear c4
   obtain rfl:=Option.some.inj H
   go_enter Try.func46,Try.ntmps46
   go_wp2_with (first|((with_reducible refine gate_dst (N:=2) rfl ?_);refine box_event rfl (N:=2) rfl (cs:=#[.string a0_0,.string a0_1]) (t:=25) (by first|(go_simp;done)|(go_simp;rfl)) ?_;intro gb426 hg w6 hbox hb;have BK426:=aM (hbox);have GW426:=aM ((by rw [hg];exact (below_size (by repeat (first|(with_reducible first|exact HB.out|apply zA|apply zN|apply zD)|exact HB.out))):w.heap.size ≤ gb426));have GE426:=aM ((by rw [hg];exact (below_size (by repeat (first|(with_reducible first|exact HB.out|apply zA|apply zN|apply zD)|exact HB.out))):w.heap.size ≤ gb426));replace HB:=aM (below_step (by repeat (first|(with_reducible first|exact HB.out|apply zA|apply zN|apply zD)|exact HB.out)) hb);clear hb hbox hg;have hcz7_0:w6.cell? ⟨gb426,0,none⟩ = some (.string a0_0):=(blk_cell BK426.out 0).trans rfl;have hcz7_1:w6.cell? ⟨gb426,1,none⟩ = some (.string a0_1):=(blk_cell BK426.out 1).trans rfl;have hfz7_0:=blk_frozen BK426.out 0;have hfz7_1:=blk_frozen BK426.out 1;have p5:0 ≤ (a1:Int):=of_decide_eq_true (by assumption);have q5:a1 < (a0_0.size:Int):=of_decide_eq_true (by assumption);have hx5:=bt_at a0_0 a1;replace p5:=eq_true p5;replace q5:=eq_true q5))
   repeat (go_quiet (first|((with_reducible refine gate_dst (N:=2) rfl ?_);refine box_event rfl (N:=2) rfl (cs:=#[.string a0_0,.string a0_1]) (t:=25) (by first|(go_simp;done)|(go_simp;rfl)) ?_;intro gb426 hg w6 hbox hb;have BK426:=aM (hbox);have GW426:=aM ((by rw [hg];exact (below_size (by repeat (first|(with_reducible first|exact HB.out|apply zA|apply zN|apply zD)|exact HB.out))):w.heap.size ≤ gb426));have GE426:=aM ((by rw [hg];exact (below_size (by repeat (first|(with_reducible first|exact HB.out|apply zA|apply zN|apply zD)|exact HB.out))):w.heap.size ≤ gb426));replace HB:=aM (below_step (by repeat (first|(with_reducible first|exact HB.out|apply zA|apply zN|apply zD)|exact HB.out)) hb);clear hb hbox hg;have hcz7_0:w6.cell? ⟨gb426,0,none⟩ = some (.string a0_0):=(blk_cell BK426.out 0).trans rfl;have hcz7_1:w6.cell? ⟨gb426,1,none⟩ = some (.string a0_1):=(blk_cell BK426.out 1).trans rfl;have hfz7_0:=blk_frozen BK426.out 0;have hfz7_1:=blk_frozen BK426.out 1;have p5:0 ≤ (a1:Int):=of_decide_eq_true (by assumption);have q5:a1 < (a0_0.size:Int):=of_decide_eq_true (by assumption);have hx5:=bt_at a0_0 a1;replace p5:=eq_true p5;replace q5:=eq_true q5));try go_wp2_with (first|((with_reducible refine gate_dst (N:=2) rfl ?_);refine box_event rfl (N:=2) rfl (cs:=#[.string a0_0,.string a0_1]) (t:=25) (by first|(go_simp;done)|(go_simp;rfl)) ?_;intro gb426 hg w6 hbox hb;have BK426:=aM (hbox);have GW426:=aM ((by rw [hg];exact (below_size (by repeat (first|(with_reducible first|exact HB.out|apply zA|apply zN|apply zD)|exact HB.out))):w.heap.size ≤ gb426));have GE426:=aM ((by rw [hg];exact (below_size (by repeat (first|(with_reducible first|exact HB.out|apply zA|apply zN|apply zD)|exact HB.out))):w.heap.size ≤ gb426));replace HB:=aM (below_step (by repeat (first|(with_reducible first|exact HB.out|apply zA|apply zN|apply zD)|exact HB.out)) hb);clear hb hbox hg;have hcz7_0:w6.cell? ⟨gb426,0,none⟩ = some (.string a0_0):=(blk_cell BK426.out 0).trans rfl;have hcz7_1:w6.cell? ⟨gb426,1,none⟩ = some (.string a0_1):=(blk_cell BK426.out 1).trans rfl;have hfz7_0:=blk_frozen BK426.out 0;have hfz7_1:=blk_frozen BK426.out 1;have p5:0 ≤ (a1:Int):=of_decide_eq_true (by assumption);have q5:a1 < (a0_0.size:Int):=of_decide_eq_true (by assumption);have hx5:=bt_at a0_0 a1;replace p5:=eq_true p5;replace q5:=eq_true q5)))
   go_ret
   exact ⟨rfl,by repeat (first|(with_reducible first|exact HB.out|apply zA|apply zN|apply zD|refine zS ?_ GE426.out)|exact HB.out)⟩
  ·rw [if_neg c4] at H
   exact absurd H (by simp)
 ·rw [if_neg c3] at H
  have c3b0:decide (a1 < (a0_0.size:Int)) = false:=decide_eq_false c3
  clear c3
  by_cases c8:(a0_1.size:Int) = 0
  ·rw [if_pos c8] at H
   exact absurd H (by simp)
  ·rw [if_neg c8] at H
   have c8b0:((a0_1.size:Int) == 0) = false:=beq_eq_false_iff_ne.mpr c8
   have c8b1:((a0_1.size:Int) != 0) = true:=bne_iff_ne.mpr c8
   obtain ⟨ji9,hji9⟩:∃ j_:Int,(Int.tmod (wrap64 (a1 - (a0_0.size:Int))) (a0_1.size:Int)) = j_:=⟨_,rfl⟩
   replace H:(if 0 ≤ (ji9) then (if (ji9) < (a0_1.size:Int) then (some (bt a0_1 (ji9))) else (none)) else (none)) = some r:=by first|(rw [hji9] at H;exact H)|(simp only [hji9] at H ⊢;exact H)
   by_cases c10:0 ≤ (ji9)
   ·rw [if_pos c10] at H
    have c10b0:decide (0 ≤ (ji9)) = true:=decide_eq_true c10
    clear c10
    by_cases c11:(ji9) < (a0_1.size:Int)
    ·rw [if_pos c11] at H
     have c11b0:decide ((ji9) < (a0_1.size:Int)) = true:=decide_eq_true c11
     clear c11
     obtain rfl:=Option.some.inj H
     go_enter Try.func46,Try.ntmps46
     go_wp2_with (first|((with_reducible refine gate_dst (N:=2) rfl ?_);refine box_event rfl (N:=2) rfl (cs:=#[.string a0_0,.string a0_1]) (t:=25) (by first|(go_simp;done)|(go_simp;rfl)) ?_;intro gb426 hg w13 hbox hb;have BK426:=aM (hbox);have GW426:=wl hg HB;have GE426:=wl hg HB;replace HB:=bs HB hb;clear hb hbox hg;have⟨a0,a1,b0,b1⟩:=q2f BK426;have p12:0 ≤ ((ji9):Int):=of_decide_eq_true (by assumption);have q12:(ji9) < (a0_1.size:Int):=of_decide_eq_true (by assumption);have hx12:=bt_at a0_1 (ji9);replace p12:=eq_true p12;replace q12:=eq_true q12))
     repeat (go_quiet (first|((with_reducible refine gate_dst (N:=2) rfl ?_);refine box_event rfl (N:=2) rfl (cs:=#[.string a0_0,.string a0_1]) (t:=25) (by first|(go_simp;done)|(go_simp;rfl)) ?_;intro gb426 hg w13 hbox hb;have BK426:=aM (hbox);have GW426:=wl hg HB;have GE426:=wl hg HB;replace HB:=bs HB hb;clear hb hbox hg;have⟨a0,a1,b0,b1⟩:=q2f BK426;have p12:0 ≤ ((ji9):Int):=of_decide_eq_true (by assumption);have q12:(ji9) < (a0_1.size:Int):=of_decide_eq_true (by assumption);have hx12:=bt_at a0_1 (ji9);replace p12:=eq_true p12;replace q12:=eq_true q12));try go_wp2_with (first|((with_reducible refine gate_dst (N:=2) rfl ?_);refine box_event rfl (N:=2) rfl (cs:=#[.string a0_0,.string a0_1]) (t:=25) (by first|(go_simp;done)|(go_simp;rfl)) ?_;intro gb426 hg w13 hbox hb;have BK426:=aM (hbox);have GW426:=wl hg HB;have GE426:=wl hg HB;replace HB:=bs HB hb;clear hb hbox hg;have⟨a0,a1,b0,b1⟩:=q2f BK426;have p12:0 ≤ ((ji9):Int):=of_decide_eq_true (by assumption);have q12:(ji9) < (a0_1.size:Int):=of_decide_eq_true (by assumption);have hx12:=bt_at a0_1 (ji9);replace p12:=eq_true p12;replace q12:=eq_true q12)))
     go_ret
     exact ⟨by first|rfl|(simp [errW_none,errW_some] <;> rfl)|(simp only [← hji9];first|rfl|(simp [errW_none,errW_some] <;> rfl))|(simp [*,errW_none,errW_some] <;> rfl),bb HB⟩
    ·rw [if_neg c11] at H
     exact absurd H (by simp)
   ·rw [if_neg c10] at H
    exact absurd H (by simp)
end Go.Proofs.Ytmhpbilkocnlnaa.Q
end
section
namespace Go.Proofs.Ytmhpbilkocnlnaa.Q
open Go.RowKit Go.Proofs.YtmhpbilkocnlnaaW.PrintWords Go.Proofs.YtmhpbilkocnlnaaW.PrintLast Go.Proofs.YtmhpbilkocnlnaaW.Ext
set_option linter.unusedVariables false
set_option linter.unusedSimpArgs false
theorem given_val (a b : ByteArray) (h : a.size + b.size ≤ 4194304) : impl_areGiven.f a b = some (decide (1 ≤ b.size ∧ a.size + b.size ≤ 64)) := by
  unfold impl_areGiven.f
  by_cases hb : b.size = 0
  · rw [if_pos ((nil_iff b).2 hb)]
    simp [hb]
  · rw [if_neg (fun z => hb ((nil_iff b).1 z)), wrS (by omega) (by omega)]
    congr 1
    rw [decide_eq_decide]
    omega
theorem bytes_ext {x y : ByteArray} (h : x.toList = y.toList) : x = y := by
  rw [Lib.toList_data, Lib.toList_data] at h
  cases x; cases y
  simp only [ByteArray.mk.injEq]
  exact Array.ext' h
theorem both_seq (a b : ByteArray) (h : a.size + b.size ≤ 1048576) : ∃ r : Bool, Ev (fun k => spec_l01Seq.f k a b) r ∧ Ev (fun k => impl_IsSequence.f k a b) r ∧
    (r = true → lettersB a = true ∧ lettersB b = true ∧ 1 ≤ b.size ∧ a.size + b.size ≤ 64 ∧ Cn a b) := by
  have la := ev_spec_letters a (by omega)
  have lb := ev_spec_letters b (by omega)
  have li : impl_areLetters.f (a ++ b) = some (lettersB a && lettersB b) := by rw [impl_letters _ (by rw [ByteArray.size_append]; omega), letters_append]
  have himpl : ∀ k, impl_IsSequence.f k a b = if (lettersB a && lettersB b) = true then (if 1 ≤ b.size ∧ a.size + b.size ≤ 64 then (impl_sequence.f k a b).bind fun c => some (c.1.toList == a.toList && (c.2.toList == b.toList)) else some false) else some false := by
    intro k
    unfold impl_IsSequence.f
    rw [if_pos (by omega), li, Option.bind_some, given_val a b (by omega), Option.bind_some]
    simp only [decide_eq_true_eq]
  have hspec : ∀ r, Ev (fun k => if lettersB b = true then (if b.size = 0 then some false else if a.size + b.size ≤ 64 then (spec_l01Canonical.f k a b).bind fun c => some (c.1.toList == a.toList && (c.2.toList == b.toList)) else some false) else some false) r → lettersB a = true → Ev (fun k => spec_l01Seq.f k a b) r := by
    intro r hr h1
    unfold spec_l01Seq.f
    refine Ev.bind la ?_
    simp only [h1, if_true]
    refine Ev.bind lb ?_
    refine Ev.congr (fun k => ?_) hr
    by_cases hb : b.size = 0
    · rw [if_pos ((nil_iff b).2 hb), if_pos hb]
    · rw [if_neg (fun z => hb ((nil_iff b).1 z)), if_neg hb, wrS (by omega) (by omega)]
      by_cases h64 : a.size + b.size ≤ 64
      · rw [if_neg (show ¬ (a.size : Int) + (b.size : Int) > 64 by omega), if_pos h64]
      · rw [if_pos (show (a.size : Int) + (b.size : Int) > 64 by omega), if_neg h64]
  cases h1 : lettersB a with
  | false =>
    refine ⟨false, ?_, ?_, by simp⟩
    · unfold spec_l01Seq.f
      refine Ev.bind la ?_
      simp only [h1, Bool.false_eq_true, if_false]
      exact Ev.now _
    · exact Ev.congr (fun k => by rw [himpl k, h1, Bool.false_and, if_neg (by decide)]) (Ev.now false)
  | true =>
    cases h2 : lettersB b with
    | false =>
      refine ⟨false, hspec _ ?_ h1, ?_, by simp⟩
      · simp only [h2, Bool.false_eq_true, if_false]
        exact Ev.now _
      · exact Ev.congr (fun k => by rw [himpl k, h1, h2, if_neg (by decide)]) (Ev.now false)
    | true =>
      by_cases hb : 1 ≤ b.size ∧ a.size + b.size ≤ 64
      · obtain ⟨c, c1, c2, _, _, _, cn⟩ := both_canon a b hb.1 (by omega)
        refine ⟨c.1.toList == a.toList && (c.2.toList == b.toList), hspec _ ?_ h1, ?_, fun hr => ⟨rfl, rfl, hb.1, hb.2, by
          simp only [Bool.and_eq_true, beq_iff_eq] at hr
          exact cn (bytes_ext hr.1) (bytes_ext hr.2)⟩⟩
        · simp only [h2, if_true, if_neg (show ¬ b.size = 0 by omega), if_pos hb.2]
          exact Ev.bind c1 (Ev.now _)
        · refine Ev.congr (f := fun k => (impl_sequence.f k a b).bind fun c => some (c.1.toList == a.toList && (c.2.toList == b.toList))) (fun k => by rw [himpl k, h1, h2, if_pos (by decide), if_pos hb]) ?_
          exact Ev.bind c2 (Ev.now _)
      · refine ⟨false, hspec _ ?_ h1, ?_, by simp⟩
        · simp only [h2, if_true]
          by_cases hz : b.size = 0
          · simp only [if_pos hz]; exact Ev.now _
          · simp only [if_neg hz, if_neg (show ¬ a.size + b.size ≤ 64 by omega)]; exact Ev.now _
        · exact Ev.congr (fun k => by rw [himpl k, h1, h2, if_pos (by decide), if_neg hb]) (Ev.now false)
def atV (a b : ByteArray) (k : Nat) : Int := if k < a.size then bt a (k : Int) else bt b (((k - a.size) % b.size : Nat) : Int)
theorem at_val (a b : ByteArray) (k : Nat) (hb : 1 ≤ b.size) (ha : a.size ≤ 64) (hk : k ≤ 1000000000) : spec_l01At.f a b (k : Int) = some (atV a b k) := by
  unfold spec_l01At.f atV
  by_cases h : k < a.size
  · rw [if_pos (by omega), if_pos (by omega), if_pos h]
  · have hm := Nat.mod_lt (k - a.size) (show 0 < b.size by omega)
    rw [if_neg (by omega), if_neg (by omega), wrS (by omega) (by omega), show (k : Int) - (a.size : Int) = ((k - a.size : Nat) : Int) by omega, tmod_nat]
    generalize (k - a.size) % b.size = m at *
    rw [if_pos (by omega), if_pos (by omega), if_neg h]
theorem at_val' (a b : ByteArray) (k : Nat) (hb : 1 ≤ b.size) (ha : a.size ≤ 64) (hk : k ≤ 1000000000) : impl_Sequence_at.f a b (k : Int) = some (atV a b k) := at_val a b k hb ha hk
theorem bt_letter {s : ByteArray} (h : lettersB s = true) (i : Nat) (hi : i < s.size) : bt s (i : Int) = 48 ∨ bt s (i : Int) = 49 ∨ bt s (i : Int) = 42 := by
  have hl : i < (bytesOf s).length := by rw [bytesOf_length]; exact hi
  have := List.all_eq_true.1 h _ (List.getElem_mem hl)
  rw [get_bytesOf s i hl] at this
  unfold isLetterN at this
  simpa using this
theorem at_letter {a b : ByteArray} (ha : lettersB a = true) (hb : lettersB b = true) (h1 : 1 ≤ b.size) (k : Nat) : atV a b k = 48 ∨ atV a b k = 49 ∨ atV a b k = 42 := by
  unfold atV
  split
  · rename_i h; exact bt_letter ha k h
  · exact bt_letter hb _ (Nat.mod_lt _ (by omega))
end Go.Proofs.Ytmhpbilkocnlnaa.Q
end
section
namespace Go.Proofs.Ytmhpbilkocnlnaa.Ang
def ang (n d : Int) : Int × Int := ((n % d) / Int.gcd (n % d) d, d / Int.gcd (n % d) d)
def isA (n d : Int) : Bool := decide (1 ≤ d ∧ d ≤ 8191 ∧ 0 ≤ n ∧ n ≤ d - 1 ∧ Int.gcd n d = 1)
def wide (n d : Int) : Prop := 1 ≤ d ∧ 0 ≤ n ∧ n < d ∧ Int.gcd n d = 1
theorem isA_iff {n d : Int} : isA n d = true ↔ 1 ≤ d ∧ d ≤ 8191 ∧ 0 ≤ n ∧ n ≤ d - 1 ∧ Int.gcd n d = 1 := by simp [isA]
theorem isA_wide {n d : Int} (h : isA n d = true) : wide n d := by
  obtain ⟨a, b, c, e, f⟩ := isA_iff.1 h
  exact ⟨a, c, by omega, f⟩
theorem gcd_pos {n d : Int} (hd : 0 < d) : (0 : Int) < (Int.gcd n d : Int) := by
  have := Int.gcd_pos_iff.2 (show n ≠ 0 ∨ d ≠ 0 from .inr (by omega))
  omega
theorem gcd_le {n d : Int} (hd : 0 < d) : (Int.gcd n d : Int) ≤ d := by
  exact Int.le_of_dvd hd (Int.gcd_dvd_right _ _)
theorem ang_den_pos {n d : Int} (hd : 0 < d) : 0 < (ang n d).2 := by
  have h1 := gcd_pos (n := n % d) hd
  have h2 := gcd_le (n := n % d) hd
  exact Int.ediv_pos_of_pos_of_dvd hd (by omega) (Int.gcd_dvd_right _ _)
theorem ang_den_le {n d : Int} (hd : 0 < d) : (ang n d).2 ≤ d := Int.ediv_le_self _ (by omega)
theorem ang_mul {n d : Int} (hd : 0 < d) : ∃ g : Int, 0 < g ∧ (ang n d).1 * g = n % d ∧ (ang n d).2 * g = d := by
  refine ⟨Int.gcd (n % d) d, gcd_pos hd, ?_, ?_⟩
  · exact Int.ediv_mul_cancel (Int.gcd_dvd_left _ _)
  · exact Int.ediv_mul_cancel (Int.gcd_dvd_right _ _)
theorem ang_wide {n d : Int} (hd : 0 < d) : wide (ang n d).1 (ang n d).2 := by
  obtain ⟨g, hg, h1, h2⟩ := ang_mul (n := n) hd
  have hn := Int.emod_nonneg n (show d ≠ 0 by omega)
  have hl := Int.emod_lt_of_pos n hd
  have hp := ang_den_pos (n := n) hd
  have hn0 : 0 ≤ (ang n d).1 := by
    unfold ang
    exact Int.ediv_nonneg hn (by omega)
  refine ⟨by omega, hn0, ?_, ?_⟩
  · have : (ang n d).1 * g < (ang n d).2 * g := by omega
    exact (Int.mul_lt_mul_right hg).1 this
  · unfold ang
    have hg2 := gcd_pos (n := n % d) hd
    rw [Int.gcd_ediv (Int.gcd_dvd_left _ _) (Int.gcd_dvd_right _ _), Int.natAbs_natCast]
    exact Nat.div_self (by omega)
theorem ang_scale {g n d : Int} (hg : 0 < g) (hd : 0 < d) : ang (g * n) (g * d) = ang n d := by
  unfold ang
  rw [Int.mul_emod_mul_of_pos _ _ hg, Int.gcd_mul_left]
  have hgg := gcd_pos (n := n % d) hd
  have e : ((g.natAbs * Int.gcd (n % d) d : Nat) : Int) = g * (Int.gcd (n % d) d : Int) := by
    rw [Int.natCast_mul, Int.natAbs_of_nonneg (by omega)]
  rw [e, Int.mul_ediv_mul_of_pos _ _ hg, Int.mul_ediv_mul_of_pos _ _ hg]
def lt (a b : Int × Int) : Prop := a.1 * b.2 < b.1 * a.2
instance (a b : Int × Int) : Decidable (lt a b) := by unfold lt; exact inferInstance
theorem lt_irrefl (a : Int × Int) : ¬ lt a a := by unfold lt; omega
theorem exists_mult : ∀ n : Nat, ∃ L : Int, 0 < L ∧ ∀ d : Int, 1 ≤ d → d ≤ n → d ∣ L
  | 0 => ⟨1, by omega, fun d h1 h2 => by omega⟩
  | n + 1 => by
    obtain ⟨L, hL, h⟩ := exists_mult n
    refine ⟨L * (n + 1 : Nat), Int.mul_pos hL (by omega), fun d h1 h2 => ?_⟩
    by_cases e : d = (n + 1 : Nat)
    · subst e
      exact Int.dvd_mul_left _ _
    · exact Int.dvd_trans (h d h1 (by omega)) (Int.dvd_mul_right _ _)
def denMax : Nat := 1152921504606846976
noncomputable def bigL : Int := Classical.choose (exists_mult denMax)
noncomputable def key (a : Int × Int) : Int := a.1 * (bigL / a.2)
end Go.Proofs.Ytmhpbilkocnlnaa.Ang
end
section
namespace Go.Proofs.Ytmhpbilkocnlnaa.Q
open Go.Proofs.YtmhpbilkocnlnaaW.Ext
open Go.RowKit Go.Proofs.YtmhpbilkocnlnaaW.PrintWords Go.Proofs.YtmhpbilkocnlnaaW.PrintLast Go.Proofs.YtmhpbilkocnlnaaW.PrintMore
attribute [local go_sem] max2_int min2_int max_two min_two max_three min_three max_four min_four   -- for this text's walks alone
set_option linter.unusedVariables false
set_option linter.unusedSimpArgs false
def spec_l01Divisor.l0:Nat → Int → Int → Option (Int)
 | 0,_,_=>none
 | k + 1,x0,x1=>if x1 > 0 then (if x1 = 0 then (none) else (spec_l01Divisor.l0 k x1 (Int.tmod x0 x1))) else (some x0)
def spec_l01Divisor.f (k:Nat) (a0:Int) (a1:Int):Option (Int):=spec_l01Divisor.l0 k a0 a1
theorem spec_l01Divisor.mono_l:∀ k,(∀ y0 y1,LeO (spec_l01Divisor.l0 k y0 y1) (spec_l01Divisor.l0 (k + 1) y0 y1))
 | 0=>fun _ _ r h=>by simp [spec_l01Divisor.l0] at h
 | k + 1=>by
  have ih0:=spec_l01Divisor.mono_l k
  ·intro y0 y1
   unfold spec_l01Divisor.l0
   repeat' first
   | (with_reducible exact ih0 _ _)
   | (with_reducible exact LeO.refl _)
   | (with_reducible exact LeO.none _)
   | (with_reducible refine LeO.ite ?_ ?_)
   | (with_reducible refine LeO.bind ?_ (fun _=>?_))
   | exact ih0 _ _
   | exact LeO.none _
   | refine LeO.ite ?_ ?_
   | refine LeO.bind ?_ (fun _=>?_)
theorem spec_l01Divisor.mono:∀ a0 a1 k,LeO (spec_l01Divisor.f k a0 a1) (spec_l01Divisor.f (k + 1) a0 a1):=by
 intro a0 a1 k
 have ih0:=spec_l01Divisor.mono_l k
 unfold spec_l01Divisor.f
 repeat' first
   | (with_reducible exact ih0 _ _)
   | (with_reducible exact LeO.refl _)
   | (with_reducible exact LeO.none _)
   | (with_reducible refine LeO.ite ?_ ?_)
   | (with_reducible refine LeO.bind ?_ (fun _=>?_))
   | exact ih0 _ _
   | exact LeO.none _
   | refine LeO.ite ?_ ?_
   | refine LeO.bind ?_ (fun _=>?_)
set_option maxHeartbeats 8000000 in
set_option maxRecDepth 100000 in
theorem spec_l01Divisor.calls (k:Nat) (a0:Int) (a1:Int) (r:Int) (w:World) (h:spec_l01Divisor.f k a0 a1 = some r) :
  Calls Try.prog 60 #[.int .i64 a0,.int .i64 a1] w fun e w'=>e = .returned (.int .i64 r) ∧ Drawn0 w w':=by
 have H:(spec_l01Divisor.l0 k a0 a1) = some r:=h
 clear h
 have H':=aM H
 clear H
 go_enter Try.func60,Try.ntmps60
 go_wp2
 go_loopg [0,1] k (fun kq v0 v1 w'=>∃ (x0_1:Int) (x1_1:Int),v0 = .int .i64 x0_1 ∧ v1 = .int .i64 x1_1 ∧ Aside0 (spec_l01Divisor.l0 kq x0_1 x1_1 = some r) ∧ Aside0 (kq ≤ k) ∧ Drawn0 w w')
 case atStart=>exact ⟨(a0),(a1),(by first|rfl|(simp;done)|(simp [*];done)),(by first|rfl|(simp;done)|(simp [*];done)),H',⟨Nat.le_refl _⟩,by repeat (first|exact Drawn0.refl _|apply Drawn0.step)⟩
 case round =>
  clear H'
  try clear p2
  obtain ⟨x0_1,x1_1,rfl,rfl,HA,HK1,⟨m1,rfl⟩⟩:=hrel
  cases gk with
  | zero=>exact absurd HA.out (by simp [spec_l01Divisor.l0])
  | succ k1 =>
   have H:=HA.out
   clear HA
   simp only [spec_l01Divisor.l0] at H
   by_cases c3:x1_1 > 0
   ·rw [if_pos c3] at H
    have c3b0:decide (0 < x1_1) = true:=decide_eq_true c3
    clear c3
    by_cases c4:x1_1 = 0
    ·rw [if_pos c4] at H
     exact absurd H (by simp)
    ·rw [if_neg c4] at H
     have c4b0:(x1_1 == 0) = false:=beq_eq_false_iff_ne.mpr c4
     have c4b1:(x1_1 != 0) = true:=bne_iff_ne.mpr c4
     have H':=aM H
     clear H
     go_wp2
     go_roundg k1
     case measure=>have:=HK1.out;omega
     case rel=>exact ⟨(x1_1),(Int.tmod x0_1 x1_1),(by first|rfl|(simp;done)|(simp [*];done)),(by first|rfl|(simp;done)|(simp [*];done)),H',⟨by have:=HK1.out;omega⟩,by repeat (first|exact Drawn0.refl _|apply Drawn0.step)⟩
   ·rw [if_neg c3] at H
    have c3b0:decide (0 < x1_1) = false:=decide_eq_false c3
    clear c3
    obtain rfl:=Option.some.inj H
    go_wp2
    go_ret
    exact ⟨by first|rfl|(simp;done)|(simp [*];done),by repeat (first|exact Drawn0.refl _|apply Drawn0.step)⟩
def spec_l01Of.f (k:Nat) (a0:Int) (a1:Int):Option (Int × Int):=if a1 = 0 then (none) else ((spec_l01Divisor.f k (Int.tmod (wrap64 ((Int.tmod a0 a1) + a1)) a1) a1).bind fun t106=>(if t106 = 0 then (none) else (some (wrap64 (Int.tdiv (Int.tmod (wrap64 ((Int.tmod a0 a1) + a1)) a1) t106),wrap64 (Int.tdiv a1 t106)))))
theorem spec_l01Of.mono:∀ a0 a1 k,LeO (spec_l01Of.f k a0 a1) (spec_l01Of.f (k + 1) a0 a1):=by
 intro a0 a1 k
 unfold spec_l01Of.f
 repeat' first
   | (with_reducible exact spec_l01Divisor.mono _ _ _)
   | (with_reducible exact LeO.refl _)
   | (with_reducible exact LeO.none _)
   | (with_reducible refine LeO.ite ?_ ?_)
   | (with_reducible refine LeO.bind ?_ (fun _=>?_))
   | exact spec_l01Divisor.mono _ _ _
   | exact LeO.none _
   | refine LeO.ite ?_ ?_
   | refine LeO.bind ?_ (fun _=>?_)
def spec_l01Of.T3:Bool × List (List Nat × List Nat):=(true,[([],[]),([],[]),([0,1],[0,1]),([],[]),([],[]),([3,4],[3,4]),([2,5],[2,5]),([6,0,1,2,3,4,5,6],[6])])
def spec_l01Of.B3:List Nat:=[0,0,3,0,0,24,63,127]
theorem spec_l01Of.tab3:rtab .any (opsOf Try.f38 3) = spec_l01Of.T3:=by kernel_rfl
theorem spec_l01Of.bits3:waitsOk spec_l01Of.T3.2 spec_l01Of.B3 = true:=by kernel_rfl
set_option maxHeartbeats 8000000 in
set_option maxRecDepth 100000 in
theorem spec_l01Of.calls (k:Nat) (a0:Int) (a1:Int) (r1:Int) (r2:Int) (w:World) (h:spec_l01Of.f k a0 a1 = some (r1,r2)) :
  Calls Try.prog 38 #[.int .i64 a0,.int .i64 a1] w fun e w'=>e = .returned (.agg #[.int .i64 r1,.int .i64 r2]) ∧ Below w.heap.size w w':=by
 have hu63:=Try.underlying63
 have HB:=aM (Below.refl w.heap.size w)
 have H:(if a1 = 0 then (none) else ((spec_l01Divisor.f k (Int.tmod (wrap64 ((Int.tmod a0 a1) + a1)) a1) a1).bind fun t106=>(if t106 = 0 then (none) else (some (wrap64 (Int.tdiv (Int.tmod (wrap64 ((Int.tmod a0 a1) + a1)) a1) t106),wrap64 (Int.tdiv a1 t106)))))) = some (r1,r2):=h
 clear h
 by_cases c3:a1 = 0
 ·rw [if_pos c3] at H
  exact absurd H (by simp)
 ·rw [if_neg c3] at H
  have c3b0:(a1 == 0) = false:=beq_eq_false_iff_ne.mpr c3
  have c3b1:(a1 != 0) = true:=bne_iff_ne.mpr c3
  replace H:=Option.bind_eq_some_iff.mp H
  obtain ⟨t106,A40,H⟩:=H
  replace H:(if t106 = 0 then (none) else (some (wrap64 (Int.tdiv (Int.tmod (wrap64 ((Int.tmod a0 a1) + a1)) a1) t106),wrap64 (Int.tdiv a1 t106)))) = some (r1,r2):=H;have A4:=aM A40
  clear A40
  by_cases c5:t106 = 0
  ·rw [if_pos c5] at H
   exact absurd H (by simp)
  ·rw [if_neg c5] at H
   have c5b0:(t106 == 0) = false:=beq_eq_false_iff_ne.mpr c5
   have c5b1:(t106 != 0) = true:=bne_iff_ne.mpr c5
   simp only [Option.some.injEq,Prod.mk.injEq] at H
   obtain ⟨rfl,rfl⟩:=H
   go_enter Try.func38,Try.ntmps38
   try go_wp2_with (first|((with_reducible refine gate_dst (N:=4) rfl ?_);refine box_event rfl (N:=4) rfl (cs:=#[.int .i64 0,.int .i64 0]) (t:=63) (by first|(go_simp;done)|(go_simp;rfl)) ?_;intro gb105 hg w6 hbox hb;have BK105:=aM (hbox);have GW105:=wl hg HB;have GE105:=wl hg HB;replace HB:=bs HB hb;clear hb hbox hg)|((with_reducible refine gate_callee (f:=60) rfl ?_);refine goesL_ (some 15) rfl rfl Try.func60 (by kernel_rfl) rfl #[.int .i64 (Int.tmod (wrap64 ((Int.tmod a0 a1) + a1)) a1),.int .i64 a1] rfl (by (try simp only [sM,sC,sN]);first|done|rfl) ?_;(with_reducible refine (spec_l01Divisor.calls k (Int.tmod (wrap64 ((Int.tmod a0 a1) + a1)) a1) a1 t106 _ A4.out).mono ?_);rintro e w' ⟨rfl,⟨nd,rfl⟩⟩;refine ⟨_,rfl,?_⟩;(try (rw [drewN_self w6];generalize hq_:World.drewN w6 _ = w6;have n0_:Aside0 (w6.heap[gb105]? = some (.cells #[.int .i64 0,.int .i64 0] 63 (0,0))):=⟨by rw [← hq_];exact (bk BK105)⟩;have n1_:Aside0 (Below w.heap.size w w6):=⟨by rw [← hq_];exact (bb HB)⟩;clear BK105 HB hq_;have BK105:=n0_;have HB:=n1_;clear n0_ n1_))))
   replace BK105:=aM (yD BK105.out);replace HB:=aM (zD HB.out)
   refine start_ (n:=8) (S:=fun w'=>True) (ds:=[]) #[fF,fF,fF,fF,fF,fF,fF,fF] (by kernel_rfl) rfl rfl trivial (fun hHeld=>?_);refine with_tabW spec_l01Of.tab3 spec_l01Of.bits3 (fun HT_ HW_=>?_)
   generalize w6.drew = w7 at BK105 HB hHeld ⊢
   refine pz 16 0 #[tT,fF,fF,fF,fF,fF,fF,fF] HT_ rfl rfl (by kernel_rfl) (fun _ _ _ h=>h) (by rfl) (by intro w';go_simp;with_reducible rfl) (by simp only [Act.put,sI,sZ,sS,i64_w,i32_w];rfl) ?_
   refine pz 17 1 #[tT,tT,fF,fF,fF,fF,fF,fF] HT_ rfl rfl (by kernel_rfl) (fun _ _ _ h=>h) (by rfl) (by intro w';go_simp;with_reducible rfl) (by simp only [Act.put,sI,sZ,sS,i64_w,i32_w];rfl) ?_
   refine pz 18 2 #[tT,tT,tT,fF,fF,fF,fF,fF] HT_ rfl rfl (by kernel_rfl) (fun _ _ _ h=>h) (by rfl) (by intro w';go_simp;with_reducible rfl) (by simp only [Act.put,sI,sZ,sS,i64_w,i32_w];rfl) ?_
   refine pz 19 3 #[tT,tT,tT,tT,fF,fF,fF,fF] HT_ rfl rfl (by kernel_rfl) (fun _ _ _ h=>h) (by rfl) (by intro w';go_simp;with_reducible rfl) (by simp only [Act.put,sI,sZ,sS,i64_w,i32_w];rfl) ?_
   refine pz 20 4 #[tT,tT,tT,tT,tT,fF,fF,fF] HT_ rfl rfl (by kernel_rfl) (fun _ _ _ h=>h) (by rfl) (by intro w';go_simp;with_reducible rfl) (by simp only [Act.put,sI,sZ,sS,i64_w,i32_w];rfl) ?_
   refine pz 21 5 #[tT,tT,tT,tT,tT,tT,fF,fF] HT_ rfl rfl (by kernel_rfl) (fun _ _ _ h=>h) (by rfl) (by intro w';go_simp;with_reducible rfl) (by simp only [Act.put,sI,sZ,sS,i64_w,i32_w];rfl) ?_
   refine pz 22 6 #[tT,tT,tT,tT,tT,tT,tT,fF] HT_ rfl rfl (by kernel_rfl) (fun _ _ _ h=>h) (by rfl) (by intro w';go_simp;with_reducible rfl) (by simp only [Act.put,sI,sZ,sS,i64_w,i32_w];rfl) ?_
   refine one_ (i:=7) (N:=none) #[tT,tT,tT,tT,tT,tT,tT,tT] rfl rfl (one_of HT_.out (by kernel_rfl)) (by decide) (fun K hK=>?_)
   have hs8:w7.cell? ⟨gb105,0,none⟩ = some (.int .i64 0):=(blk_cell BK105.out 0).trans rfl
   have hfs8:=blk_frozen BK105.out 0
   have hs9:w7.cell? ⟨gb105,1,none⟩ = some (.int .i64 0):=(blk_cell BK105.out 1).trans rfl
   have hfs9:=blk_frozen BK105.out 1
   refine skip_ (w1:=?_) (by rfl) rfl ?_ ?_
   rotate_left
   ·go_simp
    rfl
   refine hK.out _ _ trivial (fun hHeld=>?_)
   clear hK K
   refine done_ (done_of HT_.out (by kernel_rfl)) ?_
   try go_wp2
   refine bodyPost_ret (results_cell_row rfl _ _ gb105 63 #[.int .i64 (wrap64 (Int.tdiv (Int.tmod (wrap64 ((Int.tmod a0 a1) + a1)) a1) t106)),.int .i64 (wrap64 (Int.tdiv a1 t106))] (0,0) _ rfl (by (with_reducible repeat (first|apply yN|apply yD|apply yA));refine blk_put (cs:=#[.int .i64 (wrap64 (Int.tdiv (Int.tmod (wrap64 ((Int.tmod a0 a1) + a1)) a1) t106)),.int .i64 0]) ?_ 1 _ rfl;(with_reducible repeat (first|apply yN|apply yD|apply yA));refine blk_put (cs:=#[.int .i64 0,.int .i64 0]) ?_ 0 _ rfl;(with_reducible repeat (first|apply yN|apply yD|apply yA));exact BK105.out) Try.underlying63 rfl (by kernel_rfl)) rfl ?_
   exact ⟨rfl,by first|exact bb HB|exact bg HB GE105⟩
end Go.Proofs.Ytmhpbilkocnlnaa.Q
end
section
namespace Go.Proofs.Ytmhpbilkocnlnaa.Q
open Go.RowKit Go.Proofs.YtmhpbilkocnlnaaW.PrintWords Go.Proofs.YtmhpbilkocnlnaaW.PrintLast Go.Proofs.YtmhpbilkocnlnaaW.Ext Go.Proofs.Ytmhpbilkocnlnaa.Ang
set_option linter.unusedVariables false
theorem wrap_in {x : Int} (h0 : -9223372036854775808 ≤ x) (h1 : x ≤ 9223372036854775807) : wrap64 x = x := by unfold wrap64; omega
theorem ev_if {α : Type} {c : Prop} [Decidable c] {f g : Nat → Option α} {r : α} (h1 : c → Ev f r) (h2 : ¬ c → Ev g r) : Ev (fun k => if c then f k else g k) r := by
  by_cases h : c
  · simp only [if_pos h]; exact h1 h
  · simp only [if_neg h]; exact h2 h
theorem ev_spec_divisor : ∀ (n m : Nat), Ev (fun k => spec_l01Divisor.f k (m : Int) (n : Int)) ((Nat.gcd m n : Nat) : Int) := by
  intro n
  induction n using Nat.strongRecOn with
  | _ n ih =>
    intro m
    refine Ev.step (f := fun k => if (n : Int) > 0 then (if (n : Int) = 0 then none else spec_l01Divisor.f k (n : Int) (Int.tmod (m : Int) (n : Int))) else some (m : Int)) (fun k => rfl) ?_
    refine ev_if (fun h => ?_) (fun h => ?_)
    · have hn : 0 < n := by omega
      have e : Int.tmod (m : Int) (n : Int) = ((m % n : Nat) : Int) := by
        rw [Int.tmod_eq_emod_of_nonneg (by omega)]
        omega
      simp only [if_neg (show ¬ (n : Int) = 0 by omega)]
      rw [e]
      have := ih (m % n) (Nat.mod_lt _ hn) n
      rw [show Nat.gcd m n = Nat.gcd n (m % n) by rw [Nat.gcd_comm m n, Nat.gcd_rec n m, Nat.gcd_comm]]
      exact this
    · have : n = 0 := by omega
      subst this
      rw [Nat.gcd_zero_right]
      exact Ev.now _
theorem ev_spec_gcd {a b : Int} (ha : 0 ≤ a) (hb : 0 ≤ b) : Ev (fun k => spec_l01Divisor.f k a b) (Int.gcd a b : Int) := by
  obtain ⟨m, rfl⟩ := Int.eq_ofNat_of_zero_le ha
  obtain ⟨n, rfl⟩ := Int.eq_ofNat_of_zero_le hb
  exact ev_spec_divisor n m
theorem tmod_turn {n d : Int} (hd : 0 < d) : Int.tmod (Int.tmod n d + d) d = n % d := by
  have h0 : 0 ≤ Int.tmod n d + d := by
    have := Int.lt_tmod_of_pos n hd
    omega
  rw [Int.tmod_eq_emod_of_nonneg h0, Int.add_emod_right]
  by_cases h : 0 ≤ n
  · rw [Int.tmod_eq_emod_of_nonneg h, Int.emod_emod_of_dvd _ (Int.dvd_refl d)]
  · obtain ⟨m, rfl⟩ : ∃ m, n = -m := ⟨-n, by omega⟩
    rw [Int.neg_tmod, Int.tmod_eq_emod_of_nonneg (by omega)]
    have e := Int.emod_add_mul_ediv m d
    have e3 : -(m % d) = -m + d * (m / d) := by omega
    rw [e3, Int.add_mul_emod_self_left]
theorem ang_fst (n d : Int) : (ang n d).1 = (n % d) / Int.gcd (n % d) d := rfl
theorem ang_snd (n d : Int) : (ang n d).2 = d / Int.gcd (n % d) d := rfl
theorem ev_spec_Of {n d : Int} (hd : 0 < d) (hd' : d ≤ 4611686018427387904) : Ev (fun k => spec_l01Of.f k n d) (ang n d) := by
  have t1 := Int.lt_tmod_of_pos n hd
  have t2 := Int.tmod_lt_of_pos n hd
  have m0 := Int.emod_nonneg n (show d ≠ 0 by omega)
  have m1 := Int.emod_lt_of_pos n hd
  have hg := gcd_pos (n := n % d) hd
  have w := ang_wide (n := n) hd
  have wd := ang_den_le (n := n) hd
  unfold spec_l01Of.f
  simp only [if_neg (show ¬ d = 0 by omega)]
  rw [wrap_in (show -9223372036854775808 ≤ Int.tmod n d + d by omega) (by omega), tmod_turn hd]
  refine Ev.bind (ev_spec_gcd m0 (by omega)) ?_
  simp only [if_neg (show ¬ (Int.gcd (n % d) d : Int) = 0 by omega)]
  rw [Int.tdiv_eq_ediv_of_nonneg m0, Int.tdiv_eq_ediv_of_nonneg (by omega), ← ang_fst, ← ang_snd, wrap_in (by have := w.2.1; omega) (by have := w.2.2.1; omega), wrap_in (by have := w.1; omega) (by omega)]
  exact Ev.now _
end Go.Proofs.Ytmhpbilkocnlnaa.Q
end
section
namespace Go.Proofs.Ytmhpbilkocnlnaa.Q
open Go.Proofs.YtmhpbilkocnlnaaW.Ext
open Go.RowKit Go.Proofs.YtmhpbilkocnlnaaW.PrintWords Go.Proofs.YtmhpbilkocnlnaaW.PrintLast Go.Proofs.YtmhpbilkocnlnaaW.PrintMore
attribute [local go_sem] max2_int min2_int max_two min_two max_three min_three max_four min_four   -- for this text's walks alone
set_option linter.unusedVariables false
set_option linter.unusedSimpArgs false
def spec_l01Double.f (k:Nat) (a0_0:Int) (a0_1:Int):Option (Int × Int):=(spec_l01Of.f k (wrap64 (2 * a0_0)) a0_1).bind fun bt109=>(some (bt109.1,bt109.2))
theorem spec_l01Double.mono:∀ a0 a1 k,LeO (spec_l01Double.f k a0 a1) (spec_l01Double.f (k + 1) a0 a1):=by
 intro a0 a1 k
 unfold spec_l01Double.f
 repeat' first
   | (with_reducible exact spec_l01Of.mono _ _ _)
   | (with_reducible exact LeO.refl _)
   | (with_reducible exact LeO.none _)
   | (with_reducible refine LeO.ite ?_ ?_)
   | (with_reducible refine LeO.bind ?_ (fun _=>?_))
   | exact spec_l01Of.mono _ _ _
   | exact LeO.none _
   | refine LeO.ite ?_ ?_
   | refine LeO.bind ?_ (fun _=>?_)
set_option maxHeartbeats 8000000 in
set_option maxRecDepth 100000 in
theorem spec_l01Double.calls (k:Nat) (a0_0:Int) (a0_1:Int) (r1:Int) (r2:Int) (w:World) (h:spec_l01Double.f k a0_0 a0_1 = some (r1,r2)) :
  Calls Try.prog 69 #[.agg #[.int .i64 a0_0,.int .i64 a0_1]] w fun e w'=>e = .returned (.agg #[.int .i64 r1,.int .i64 r2]) ∧ Below w.heap.size w w':=by
 have hu63:=Try.underlying63
 have HB:=aM (Below.refl w.heap.size w)
 have H:((spec_l01Of.f k (wrap64 (2 * a0_0)) a0_1).bind fun bt109=>(some (bt109.1,bt109.2))) = some (r1,r2):=h
 clear h
 replace H:=Option.bind_eq_some_iff.mp H
 obtain ⟨⟨t109,t110⟩,A20,H⟩:=H
 replace H:(some (t109,t110)) = some (r1,r2):=H;have A2:=aM A20
 clear A20
 simp only [Option.some.injEq,Prod.mk.injEq] at H
 obtain ⟨rfl,rfl⟩:=H
 go_enter Try.func69,Try.ntmps69
 go_wp2_with (first|((with_reducible refine gate_dst (N:=1) rfl ?_);refine box_event rfl (N:=1) rfl (cs:=#[.int .i64 a0_0,.int .i64 a0_1]) (t:=63) (by first|(go_simp;done)|(go_simp;rfl)) ?_;intro gb107 hg w3 hbox hb;have BK107:=aM (hbox);have GW107:=wl hg HB;have GE107:=wl hg HB;replace HB:=bs HB hb;clear hb hbox hg)|((with_reducible refine gate_dst (N:=2) rfl ?_);refine box_event rfl (N:=2) rfl (cs:=#[.int .i64 0,.int .i64 0]) (t:=63) (by first|(go_simp;done)|(go_simp;rfl)) ?_;intro gb108 hg w4 hbox hb;have BK108:=aM (hbox);have GW108:=wl hg HB;have GE108:=wl hg HB;have NB107_108:=nl hg BK107;have NB108_107:=nr hg BK107;replace BK107:=kb BK107 hb;replace HB:=bs HB hb;clear hb hbox hg;have hnb5:=NB107_108.out;have hnc5:=NB108_107.out;have⟨a0,a1,b0,b1⟩:=q2f BK107)|((with_reducible refine gate_callee (f:=38) rfl ?_);refine goesL_ (some 8) rfl rfl Try.func38 (by kernel_rfl) rfl #[.int .i64 (wrap64 (2 * a0_0)),.int .i64 a0_1] rfl (by (try simp only [sM,sC,sN]);first|done|rfl) ?_;(with_reducible refine (spec_l01Of.calls k (wrap64 (2 * a0_0)) a0_1 t109 t110 _ A2.out).mono ?_);rintro e w7 ⟨rfl,hb⟩;refine ⟨_,rfl,?_⟩;replace BK107:=kb BK107 hb;replace BK108:=kb BK108 hb;replace HB:=bs HB hb;(try clear hb);have⟨a0,a1,b0,b1⟩:=q2f BK108))
 refine bodyPost_ret (results_cell_row rfl _ _ gb108 63 #[.int .i64 t109,.int .i64 t110] (0,0) _ rfl (by (with_reducible repeat (first|apply yN|apply yD|apply yA));refine blk_put (cs:=#[.int .i64 t109,.int .i64 0]) ?_ 1 _ rfl;(with_reducible repeat (first|apply yN|apply yD|apply yA));refine blk_put (cs:=#[.int .i64 0,.int .i64 0]) ?_ 0 _ rfl;(with_reducible repeat (first|apply yN|apply yD|apply yA));exact BK108.out) Try.underlying63 rfl (by kernel_rfl)) rfl ?_
 exact ⟨rfl,by first|exact bb HB|exact bg HB GE107|exact bg HB GE108⟩
end Go.Proofs.Ytmhpbilkocnlnaa.Q
end
section
namespace Go.Proofs.Ytmhpbilkocnlnaa.Q
open Go.RowKit Go.Proofs.YtmhpbilkocnlnaaW.PrintWords Go.Proofs.YtmhpbilkocnlnaaW.PrintLast Go.Proofs.YtmhpbilkocnlnaaW.Ext Go.Proofs.Ytmhpbilkocnlnaa.Ang
set_option linter.unusedVariables false
def dbl (a : Int × Int) : Int × Int := ang (2 * a.1) a.2
theorem isA_bd {n d : Int} (h : isA n d = true) : 0 < d ∧ d ≤ 8191 ∧ 0 ≤ n ∧ n ≤ 8190 := by
  obtain ⟨a, b, c, e, _⟩ := isA_iff.1 h
  omega
theorem ang_isA {n d : Int} (hd : 0 < d) (h8 : d ≤ 8191) : isA (ang n d).1 (ang n d).2 = true := by
  have w := ang_wide (n := n) hd
  have l := ang_den_le (n := n) hd
  exact isA_iff.2 ⟨w.1, by omega, w.2.1, by have := w.2.2.1; omega, w.2.2.2⟩
theorem dbl_isA {a b : Int} (h : isA a b = true) : isA (dbl (a, b)).1 (dbl (a, b)).2 = true := ang_isA (isA_bd h).1 (isA_bd h).2.1
theorem ev_spec_Double {a b : Int} (h : isA a b = true) : Ev (fun k => spec_l01Double.f k a b) (dbl (a, b)) := by
  obtain ⟨h1, h2, h3, h4⟩ := isA_bd h
  unfold spec_l01Double.f
  rw [wrap_in (x := 2 * a) (by omega) (by omega)]
  exact Ev.bind (ev_spec_Of h1 (by omega)) (Ev.now _)
end Go.Proofs.Ytmhpbilkocnlnaa.Q
end
section
namespace Go.Proofs.Ytmhpbilkocnlnaa.Q
open Go.Proofs.YtmhpbilkocnlnaaW.Ext
open Go.RowKit Go.Proofs.YtmhpbilkocnlnaaW.PrintWords Go.Proofs.YtmhpbilkocnlnaaW.PrintLast Go.Proofs.YtmhpbilkocnlnaaW.PrintMore
attribute [local go_sem] max2_int min2_int max_two min_two max_three min_three max_four min_four   -- for this text's walks alone
set_option linter.unusedVariables false
set_option linter.unusedSimpArgs false
theorem eqA63 (d:Nat) (w:World) (x0 y0:Int) (x1 y1:Int) :
  (Op.equalIn (d + 2) 63 (.agg #[.int .i64 x0,.int .i64 x1]) (.agg #[.int .i64 y0,.int .i64 y1])).run Try.prog w = .ok (x0 == y0 && (x1 == y1)) w:=by
 refine eqA_of Try.underlying63 (by kernel_rfl) ?_
 refine eqf_cons (by rfl) (by go_simp;rfl) (by go_simp;rfl) (by go_simp) ?_
 exact eqf_last (by rfl) (by go_simp;rfl) (by go_simp;rfl) (by go_simp)
end Go.Proofs.Ytmhpbilkocnlnaa.Q
end
section
namespace Go.Proofs.Ytmhpbilkocnlnaa.Q
open Go.Proofs.YtmhpbilkocnlnaaW.Ext
open Go.RowKit Go.Proofs.YtmhpbilkocnlnaaW.PrintWords Go.Proofs.YtmhpbilkocnlnaaW.PrintLast Go.Proofs.YtmhpbilkocnlnaaW.PrintMore
attribute [local go_sem] max2_int min2_int max_two min_two max_three min_three max_four min_four   -- for this text's walks alone
set_option linter.unusedVariables false
set_option linter.unusedSimpArgs false
attribute [local go_sem high] eqA63
def spec_l02Letter.f (k:Nat) (a0_0:Int) (a0_1:Int) (a1_0:Int) (a1_1:Int):Option (Int):=(spec_l01Double.f k a0_0 a0_1).bind fun bt125=>(if (bt125.1 == a1_0 && (bt125.2 == a1_1)) = true then (some 42) else (if (wrap64 ((wrap64 (2 * a1_1)) * a0_0)) > (wrap64 (a1_0 * a0_1)) then (if (wrap64 ((wrap64 (2 * a1_1)) * a0_0)) < (wrap64 ((wrap64 (a1_0 + a1_1)) * a0_1)) then (some 49) else (some 48)) else (some 48)))
theorem spec_l02Letter.mono:∀ a0 a1 a2 a3 k,LeO (spec_l02Letter.f k a0 a1 a2 a3) (spec_l02Letter.f (k + 1) a0 a1 a2 a3):=by
 intro a0 a1 a2 a3 k
 unfold spec_l02Letter.f
 repeat' first
   | (with_reducible exact spec_l01Double.mono _ _ _)
   | (with_reducible exact LeO.refl _)
   | (with_reducible exact LeO.none _)
   | (with_reducible refine LeO.ite ?_ ?_)
   | (with_reducible refine LeO.bind ?_ (fun _=>?_))
   | exact spec_l01Double.mono _ _ _
   | exact LeO.none _
   | refine LeO.ite ?_ ?_
   | refine LeO.bind ?_ (fun _=>?_)
set_option maxHeartbeats 8000000 in
set_option maxRecDepth 100000 in
theorem spec_l02Letter.calls (k:Nat) (a0_0:Int) (a0_1:Int) (a1_0:Int) (a1_1:Int) (r:Int) (w:World) (h:spec_l02Letter.f k a0_0 a0_1 a1_0 a1_1 = some r) :
  Calls Try.prog 62 #[.agg #[.int .i64 a0_0,.int .i64 a0_1],.agg #[.int .i64 a1_0,.int .i64 a1_1]] w fun e w'=>e = .returned (.int .u8 r) ∧ Below w.heap.size w w':=by
 have hu63:=Try.underlying63
 have HB:=aM (Below.refl w.heap.size w)
 have H:((spec_l01Double.f k a0_0 a0_1).bind fun bt125=>(if (bt125.1 == a1_0 && (bt125.2 == a1_1)) = true then (some 42) else (if (wrap64 ((wrap64 (2 * a1_1)) * a0_0)) > (wrap64 (a1_0 * a0_1)) then (if (wrap64 ((wrap64 (2 * a1_1)) * a0_0)) < (wrap64 ((wrap64 (a1_0 + a1_1)) * a0_1)) then (some 49) else (some 48)) else (some 48)))) = some r:=h
 clear h
 replace H:=Option.bind_eq_some_iff.mp H
 obtain ⟨⟨t125,t126⟩,A30,H⟩:=H
 replace H:(if (t125 == a1_0 && (t126 == a1_1)) = true then (some 42) else (if (wrap64 ((wrap64 (2 * a1_1)) * a0_0)) > (wrap64 (a1_0 * a0_1)) then (if (wrap64 ((wrap64 (2 * a1_1)) * a0_0)) < (wrap64 ((wrap64 (a1_0 + a1_1)) * a0_1)) then (some 49) else (some 48)) else (some 48))) = some r:=H;have A3:=aM A30
 clear A30
 by_cases c4:(t125 == a1_0 && (t126 == a1_1)) = true
 ·rw [if_pos c4] at H
  have c4b0:(t125 == a1_0 && (t126 == a1_1)) = true:=c4
  (try (have c4b1:decide (t125 = a1_0 && (t126 == a1_1)) = true:=by simpa using c4))
  (try (have c4b2:(t125 == a1_0 && (t126 == a1_1)) = true:=by simpa using c4))
  clear c4
  obtain rfl:=Option.some.inj H
  go_enter Try.func62,Try.ntmps62
  try go_wp2_with (first|((with_reducible refine gate_dst (N:=2) rfl ?_);refine box_event rfl (N:=2) rfl (cs:=#[.int .i64 a0_0,.int .i64 a0_1]) (t:=63) (by first|(go_simp;done)|(go_simp;rfl)) ?_;intro gb123 hg w5 hbox hb;have BK123:=aM (hbox);have GW123:=wl hg HB;have GE123:=wl hg HB;replace HB:=bs HB hb;clear hb hbox hg)|((with_reducible refine gate_dst (N:=3) rfl ?_);refine box_event rfl (N:=3) rfl (cs:=#[.int .i64 a1_0,.int .i64 a1_1]) (t:=63) (by first|(go_simp;done)|(go_simp;rfl)) ?_;intro gb124 hg w6 hbox hb;have BK124:=aM (hbox);have GW124:=wl hg HB;have GE124:=wl hg HB;have NB123_124:=nl hg BK123;have NB124_123:=nr hg BK123;replace BK123:=kb BK123 hb;replace HB:=bs HB hb;clear hb hbox hg;have hnb7:=NB124_123.out;have hnc7:=NB123_124.out;have⟨a0,a1,b0,b1⟩:=q2f BK124;have⟨a0,a1,b0,b1⟩:=q2f BK123))
  replace BK123:=aM (yD BK123.out);replace BK124:=aM (yD BK124.out);replace HB:=aM (zD HB.out)
  refine start_ (n:=5) (S:=fun w'=>w'.cell? ⟨gb123,0,none⟩ = some (.int .i64 a0_0) ∧ w'.cell? ⟨gb123,1,none⟩ = some (.int .i64 a0_1) ∧ w'.cell? ⟨gb124,0,none⟩ = some (.int .i64 a1_0) ∧ w'.cell? ⟨gb124,1,none⟩ = some (.int .i64 a1_1)) (ds:=[]) #[fF,fF,fF,fF,fF] (by kernel_rfl) rfl rfl ⟨(blk_cell BK123.out 0).trans rfl,(blk_cell BK123.out 1).trans rfl,(blk_cell BK124.out 0).trans rfl,(blk_cell BK124.out 1).trans rfl⟩ (fun hHeld=>?_)
  generalize w6.drew = w10 at BK123 BK124 HB hHeld ⊢
  refine take_ (i:=0) (N:=some 13) (v:=?_) (a':=?_) #[tT,fF,fF,fF,fF] rfl rfl (by kernel_rfl) (fun _ _ _ h=>h) (Or.inl ⟨by rfl,?_⟩) hHeld ?_ ?_
  rotate_left
  ·rintro w' ⟨s0,s1,s2,s3⟩
   go_simp
   with_reducible rfl
  rotate_left
  ·simp only [Act.put,sI,sZ,sS,i64_w,i32_w]
   rfl
  refine take_ (i:=2) (N:=some 15) (v:=?_) (a':=?_) #[tT,fF,tT,fF,fF] rfl rfl (by kernel_rfl) (fun _ _ _ h=>h) (Or.inl ⟨by rfl,?_⟩) hHeld ?_ ?_
  rotate_left
  ·rintro w' ⟨s0,s1,s2,s3⟩
   go_simp
   with_reducible rfl
  rotate_left
  ·simp only [Act.put,sI,sZ,sS,i64_w,i32_w]
   rfl
  refine one_ (i:=1) (N:=some 14) #[tT,tT,tT,fF,fF] rfl rfl (by kernel_rfl) (by decide) (fun K hK=>?_)
  refine goes_ Try.func69 (by kernel_rfl) rfl #[.agg #[.int .i64 a0_0,.int .i64 a0_1]] (by rfl) rfl rfl (by (try simp only [sM,sC,sN]);first|done|rfl) ?_
  with_reducible refine (spec_l01Double.calls k a0_0 a0_1 t125 t126 _ A3.out).mono ?_
  rintro e w11 ⟨rfl,hb⟩
  refine ⟨_,rfl,?_⟩
  replace BK123:=kb BK123 hb;replace BK124:=kb BK124 hb;replace HB:=bs HB hb;(try clear hb)
  refine hK.out _ _ ⟨(blk_cell BK123.out 0).trans rfl,(blk_cell BK123.out 1).trans rfl,(blk_cell BK124.out 0).trans rfl,(blk_cell BK124.out 1).trans rfl⟩ (fun hHeld=>?_)
  clear hK K
  refine norm_ (a':=_) (by show Act.put _ _ _=_;simp only [Act.put,sI,sZ,sS,i64_w,i32_w];rfl) ?_
  refine pure_ (i:=3) (N:=some 16) (v:=?_) (a':=?_) #[tT,tT,tT,tT,fF] rfl rfl (by kernel_rfl) (fun _ _ _ h=>h) (Or.inl ⟨by rfl,?_⟩) ?_ ?_
  rotate_left
  ·intro w'
   go_simp
   with_reducible rfl
  rotate_left
  ·simp only [Act.put,sI,sZ,sS,i64_w,i32_w]
   rfl
  refine pure_ (i:=4) (N:=some 12) (v:=?_) (a':=?_) #[tT,tT,tT,tT,tT] rfl rfl (by kernel_rfl) (fun _ _ _ h=>h) (Or.inl ⟨by rfl,?_⟩) ?_ ?_
  rotate_left
  ·intro w'
   go_simp
   with_reducible rfl
  rotate_left
  ·simp only [Act.put,sI,sZ,sS,i64_w,i32_w]
   rfl
  refine done_ (by kernel_rfl) ?_
  try go_wp2
  go_ret
  exact ⟨rfl,bb HB⟩
 ·rw [if_neg c4] at H
  have c4b0:(t125 == a1_0 && (t126 == a1_1)) = false:=by simpa using c4
  (try (have c4b1:decide (t125 = a1_0 && (t126 == a1_1)) = false:=by simpa using c4))
  (try (have c4b2:(t125 == a1_0 && (t126 == a1_1)) = false:=by simpa using c4))
  (try (have c4b3:¬ (t125 = a1_0 && (t126 == a1_1)):=by simpa using c4))
  clear c4
  by_cases c12:(wrap64 ((wrap64 (2 * a1_1)) * a0_0)) > (wrap64 (a1_0 * a0_1))
  ·rw [if_pos c12] at H
   have c12b0:decide ((wrap64 (a1_0 * a0_1)) < (wrap64 ((wrap64 (2 * a1_1)) * a0_0))) = true:=decide_eq_true c12
   clear c12
   by_cases c13:(wrap64 ((wrap64 (2 * a1_1)) * a0_0)) < (wrap64 ((wrap64 (a1_0 + a1_1)) * a0_1))
   ·rw [if_pos c13] at H
    have c13b0:decide ((wrap64 ((wrap64 (2 * a1_1)) * a0_0)) < (wrap64 ((wrap64 (a1_0 + a1_1)) * a0_1))) = true:=decide_eq_true c13
    clear c13
    obtain rfl:=Option.some.inj H
    go_enter Try.func62,Try.ntmps62
    try go_wp2_with (first|((with_reducible refine gate_dst (N:=2) rfl ?_);refine box_event rfl (N:=2) rfl (cs:=#[.int .i64 a0_0,.int .i64 a0_1]) (t:=63) (by first|(go_simp;done)|(go_simp;rfl)) ?_;intro gb123 hg w14 hbox hb;have BK123:=aM (hbox);have GW123:=wl hg HB;have GE123:=wl hg HB;replace HB:=bs HB hb;clear hb hbox hg)|((with_reducible refine gate_dst (N:=3) rfl ?_);refine box_event rfl (N:=3) rfl (cs:=#[.int .i64 a1_0,.int .i64 a1_1]) (t:=63) (by first|(go_simp;done)|(go_simp;rfl)) ?_;intro gb124 hg w15 hbox hb;have BK124:=aM (hbox);have GW124:=wl hg HB;have GE124:=wl hg HB;have NB123_124:=nl hg BK123;have NB124_123:=nr hg BK123;replace BK123:=kb BK123 hb;replace HB:=bs HB hb;clear hb hbox hg;have hnb16:=NB124_123.out;have hnc16:=NB123_124.out;have⟨a0,a1,b0,b1⟩:=q2f BK124;have⟨a0,a1,b0,b1⟩:=q2f BK123))
    replace BK123:=aM (yD BK123.out);replace BK124:=aM (yD BK124.out);replace HB:=aM (zD HB.out)
    refine start_ (n:=5) (S:=fun w'=>w'.cell? ⟨gb123,0,none⟩ = some (.int .i64 a0_0) ∧ w'.cell? ⟨gb123,1,none⟩ = some (.int .i64 a0_1) ∧ w'.cell? ⟨gb124,0,none⟩ = some (.int .i64 a1_0) ∧ w'.cell? ⟨gb124,1,none⟩ = some (.int .i64 a1_1)) (ds:=[]) #[fF,fF,fF,fF,fF] (by kernel_rfl) rfl rfl ⟨(blk_cell BK123.out 0).trans rfl,(blk_cell BK123.out 1).trans rfl,(blk_cell BK124.out 0).trans rfl,(blk_cell BK124.out 1).trans rfl⟩ (fun hHeld=>?_)
    generalize w15.drew = w19 at BK123 BK124 HB hHeld ⊢
    refine take_ (i:=0) (N:=some 13) (v:=?_) (a':=?_) #[tT,fF,fF,fF,fF] rfl rfl (by kernel_rfl) (fun _ _ _ h=>h) (Or.inl ⟨by rfl,?_⟩) hHeld ?_ ?_
    rotate_left
    ·rintro w' ⟨s0,s1,s2,s3⟩
     go_simp
     with_reducible rfl
    rotate_left
    ·simp only [Act.put,sI,sZ,sS,i64_w,i32_w]
     rfl
    refine take_ (i:=2) (N:=some 15) (v:=?_) (a':=?_) #[tT,fF,tT,fF,fF] rfl rfl (by kernel_rfl) (fun _ _ _ h=>h) (Or.inl ⟨by rfl,?_⟩) hHeld ?_ ?_
    rotate_left
    ·rintro w' ⟨s0,s1,s2,s3⟩
     go_simp
     with_reducible rfl
    rotate_left
    ·simp only [Act.put,sI,sZ,sS,i64_w,i32_w]
     rfl
    refine one_ (i:=1) (N:=some 14) #[tT,tT,tT,fF,fF] rfl rfl (by kernel_rfl) (by decide) (fun K hK=>?_)
    refine goes_ Try.func69 (by kernel_rfl) rfl #[.agg #[.int .i64 a0_0,.int .i64 a0_1]] (by rfl) rfl rfl (by (try simp only [sM,sC,sN]);first|done|rfl) ?_
    with_reducible refine (spec_l01Double.calls k a0_0 a0_1 t125 t126 _ A3.out).mono ?_
    rintro e w20 ⟨rfl,hb⟩
    refine ⟨_,rfl,?_⟩
    replace BK123:=kb BK123 hb;replace BK124:=kb BK124 hb;replace HB:=bs HB hb;(try clear hb)
    refine hK.out _ _ ⟨(blk_cell BK123.out 0).trans rfl,(blk_cell BK123.out 1).trans rfl,(blk_cell BK124.out 0).trans rfl,(blk_cell BK124.out 1).trans rfl⟩ (fun hHeld=>?_)
    clear hK K
    refine norm_ (a':=_) (by show Act.put _ _ _=_;simp only [Act.put,sI,sZ,sS,i64_w,i32_w];rfl) ?_
    refine pure_ (i:=3) (N:=some 16) (v:=?_) (a':=?_) #[tT,tT,tT,tT,fF] rfl rfl (by kernel_rfl) (fun _ _ _ h=>h) (Or.inl ⟨by rfl,?_⟩) ?_ ?_
    rotate_left
    ·intro w'
     go_simp
     with_reducible rfl
    rotate_left
    ·simp only [Act.put,sI,sZ,sS,i64_w,i32_w]
     rfl
    refine pure_ (i:=4) (N:=some 12) (v:=?_) (a':=?_) #[tT,tT,tT,tT,tT] rfl rfl (by kernel_rfl) (fun _ _ _ h=>h) (Or.inl ⟨by rfl,?_⟩) ?_ ?_
    rotate_left
    ·intro w'
     go_simp
     with_reducible rfl
    rotate_left
    ·simp only [Act.put,sI,sZ,sS,i64_w,i32_w]
     rfl
    refine done_ (by kernel_rfl) ?_
    have⟨a0,a1,b0,b1⟩:=q2f BK124;have⟨a0,a1,b0,b1⟩:=q2f BK123
    try go_wp2
    go_ret
    exact ⟨rfl,bb HB⟩
   ·rw [if_neg c13] at H
    have c13b0:decide ((wrap64 ((wrap64 (2 * a1_1)) * a0_0)) < (wrap64 ((wrap64 (a1_0 + a1_1)) * a0_1))) = false:=decide_eq_false c13
    clear c13
    obtain rfl:=Option.some.inj H
    go_enter Try.func62,Try.ntmps62
    try go_wp2_with (first|((with_reducible refine gate_dst (N:=2) rfl ?_);refine box_event rfl (N:=2) rfl (cs:=#[.int .i64 a0_0,.int .i64 a0_1]) (t:=63) (by first|(go_simp;done)|(go_simp;rfl)) ?_;intro gb123 hg w23 hbox hb;have BK123:=aM (hbox);have GW123:=wl hg HB;have GE123:=wl hg HB;replace HB:=bs HB hb;clear hb hbox hg)|((with_reducible refine gate_dst (N:=3) rfl ?_);refine box_event rfl (N:=3) rfl (cs:=#[.int .i64 a1_0,.int .i64 a1_1]) (t:=63) (by first|(go_simp;done)|(go_simp;rfl)) ?_;intro gb124 hg w24 hbox hb;have BK124:=aM (hbox);have GW124:=wl hg HB;have GE124:=wl hg HB;have NB123_124:=nl hg BK123;have NB124_123:=nr hg BK123;replace BK123:=kb BK123 hb;replace HB:=bs HB hb;clear hb hbox hg;have hnb25:=NB124_123.out;have hnc25:=NB123_124.out;have⟨a0,a1,b0,b1⟩:=q2f BK124;have⟨a0,a1,b0,b1⟩:=q2f BK123))
    replace BK123:=aM (yD BK123.out);replace BK124:=aM (yD BK124.out);replace HB:=aM (zD HB.out)
    refine start_ (n:=5) (S:=fun w'=>w'.cell? ⟨gb123,0,none⟩ = some (.int .i64 a0_0) ∧ w'.cell? ⟨gb123,1,none⟩ = some (.int .i64 a0_1) ∧ w'.cell? ⟨gb124,0,none⟩ = some (.int .i64 a1_0) ∧ w'.cell? ⟨gb124,1,none⟩ = some (.int .i64 a1_1)) (ds:=[]) #[fF,fF,fF,fF,fF] (by kernel_rfl) rfl rfl ⟨(blk_cell BK123.out 0).trans rfl,(blk_cell BK123.out 1).trans rfl,(blk_cell BK124.out 0).trans rfl,(blk_cell BK124.out 1).trans rfl⟩ (fun hHeld=>?_)
    generalize w24.drew = w28 at BK123 BK124 HB hHeld ⊢
    refine take_ (i:=0) (N:=some 13) (v:=?_) (a':=?_) #[tT,fF,fF,fF,fF] rfl rfl (by kernel_rfl) (fun _ _ _ h=>h) (Or.inl ⟨by rfl,?_⟩) hHeld ?_ ?_
    rotate_left
    ·rintro w' ⟨s0,s1,s2,s3⟩
     go_simp
     with_reducible rfl
    rotate_left
    ·simp only [Act.put,sI,sZ,sS,i64_w,i32_w]
     rfl
    refine take_ (i:=2) (N:=some 15) (v:=?_) (a':=?_) #[tT,fF,tT,fF,fF] rfl rfl (by kernel_rfl) (fun _ _ _ h=>h) (Or.inl ⟨by rfl,?_⟩) hHeld ?_ ?_
    rotate_left
    ·rintro w' ⟨s0,s1,s2,s3⟩
     go_simp
     with_reducible rfl
    rotate_left
    ·simp only [Act.put,sI,sZ,sS,i64_w,i32_w]
     rfl
    refine one_ (i:=1) (N:=some 14) #[tT,tT,tT,fF,fF] rfl rfl (by kernel_rfl) (by decide) (fun K hK=>?_)
    refine goes_ Try.func69 (by kernel_rfl) rfl #[.agg #[.int .i64 a0_0,.int .i64 a0_1]] (by rfl) rfl rfl (by (try simp only [sM,sC,sN]);first|done|rfl) ?_
    with_reducible refine (spec_l01Double.calls k a0_0 a0_1 t125 t126 _ A3.out).mono ?_
    rintro e w29 ⟨rfl,hb⟩
    refine ⟨_,rfl,?_⟩
    replace BK123:=kb BK123 hb;replace BK124:=kb BK124 hb;replace HB:=bs HB hb;(try clear hb)
    refine hK.out _ _ ⟨(blk_cell BK123.out 0).trans rfl,(blk_cell BK123.out 1).trans rfl,(blk_cell BK124.out 0).trans rfl,(blk_cell BK124.out 1).trans rfl⟩ (fun hHeld=>?_)
    clear hK K
    refine norm_ (a':=_) (by show Act.put _ _ _=_;simp only [Act.put,sI,sZ,sS,i64_w,i32_w];rfl) ?_
    refine pure_ (i:=3) (N:=some 16) (v:=?_) (a':=?_) #[tT,tT,tT,tT,fF] rfl rfl (by kernel_rfl) (fun _ _ _ h=>h) (Or.inl ⟨by rfl,?_⟩) ?_ ?_
    rotate_left
    ·intro w'
     go_simp
     with_reducible rfl
    rotate_left
    ·simp only [Act.put,sI,sZ,sS,i64_w,i32_w]
     rfl
    refine pure_ (i:=4) (N:=some 12) (v:=?_) (a':=?_) #[tT,tT,tT,tT,tT] rfl rfl (by kernel_rfl) (fun _ _ _ h=>h) (Or.inl ⟨by rfl,?_⟩) ?_ ?_
    rotate_left
    ·intro w'
     go_simp
     with_reducible rfl
    rotate_left
    ·simp only [Act.put,sI,sZ,sS,i64_w,i32_w]
     rfl
    refine done_ (by kernel_rfl) ?_
    have⟨a0,a1,b0,b1⟩:=q2f BK124;have⟨a0,a1,b0,b1⟩:=q2f BK123
    try go_wp2
    go_ret
    exact ⟨rfl,bb HB⟩
  ·rw [if_neg c12] at H
   have c12b0:decide ((wrap64 (a1_0 * a0_1)) < (wrap64 ((wrap64 (2 * a1_1)) * a0_0))) = false:=decide_eq_false c12
   clear c12
   obtain rfl:=Option.some.inj H
   go_enter Try.func62,Try.ntmps62
   try go_wp2_with (first|((with_reducible refine gate_dst (N:=2) rfl ?_);refine box_event rfl (N:=2) rfl (cs:=#[.int .i64 a0_0,.int .i64 a0_1]) (t:=63) (by first|(go_simp;done)|(go_simp;rfl)) ?_;intro gb123 hg w32 hbox hb;have BK123:=aM (hbox);have GW123:=wl hg HB;have GE123:=wl hg HB;replace HB:=bs HB hb;clear hb hbox hg)|((with_reducible refine gate_dst (N:=3) rfl ?_);refine box_event rfl (N:=3) rfl (cs:=#[.int .i64 a1_0,.int .i64 a1_1]) (t:=63) (by first|(go_simp;done)|(go_simp;rfl)) ?_;intro gb124 hg w33 hbox hb;have BK124:=aM (hbox);have GW124:=wl hg HB;have GE124:=wl hg HB;have NB123_124:=nl hg BK123;have NB124_123:=nr hg BK123;replace BK123:=kb BK123 hb;replace HB:=bs HB hb;clear hb hbox hg;have hnb34:=NB124_123.out;have hnc34:=NB123_124.out;have⟨a0,a1,b0,b1⟩:=q2f BK124;have⟨a0,a1,b0,b1⟩:=q2f BK123))
   replace BK123:=aM (yD BK123.out);replace BK124:=aM (yD BK124.out);replace HB:=aM (zD HB.out)
   refine start_ (n:=5) (S:=fun w'=>w'.cell? ⟨gb123,0,none⟩ = some (.int .i64 a0_0) ∧ w'.cell? ⟨gb123,1,none⟩ = some (.int .i64 a0_1) ∧ w'.cell? ⟨gb124,0,none⟩ = some (.int .i64 a1_0) ∧ w'.cell? ⟨gb124,1,none⟩ = some (.int .i64 a1_1)) (ds:=[]) #[fF,fF,fF,fF,fF] (by kernel_rfl) rfl rfl ⟨(blk_cell BK123.out 0).trans rfl,(blk_cell BK123.out 1).trans rfl,(blk_cell BK124.out 0).trans rfl,(blk_cell BK124.out 1).trans rfl⟩ (fun hHeld=>?_)
   generalize w33.drew = w37 at BK123 BK124 HB hHeld ⊢
   refine take_ (i:=0) (N:=some 13) (v:=?_) (a':=?_) #[tT,fF,fF,fF,fF] rfl rfl (by kernel_rfl) (fun _ _ _ h=>h) (Or.inl ⟨by rfl,?_⟩) hHeld ?_ ?_
   rotate_left
   ·rintro w' ⟨s0,s1,s2,s3⟩
    go_simp
    with_reducible rfl
   rotate_left
   ·simp only [Act.put,sI,sZ,sS,i64_w,i32_w]
    rfl
   refine take_ (i:=2) (N:=some 15) (v:=?_) (a':=?_) #[tT,fF,tT,fF,fF] rfl rfl (by kernel_rfl) (fun _ _ _ h=>h) (Or.inl ⟨by rfl,?_⟩) hHeld ?_ ?_
   rotate_left
   ·rintro w' ⟨s0,s1,s2,s3⟩
    go_simp
    with_reducible rfl
   rotate_left
   ·simp only [Act.put,sI,sZ,sS,i64_w,i32_w]
    rfl
   refine one_ (i:=1) (N:=some 14) #[tT,tT,tT,fF,fF] rfl rfl (by kernel_rfl) (by decide) (fun K hK=>?_)
   refine goes_ Try.func69 (by kernel_rfl) rfl #[.agg #[.int .i64 a0_0,.int .i64 a0_1]] (by rfl) rfl rfl (by (try simp only [sM,sC,sN]);first|done|rfl) ?_
   with_reducible refine (spec_l01Double.calls k a0_0 a0_1 t125 t126 _ A3.out).mono ?_
   rintro e w38 ⟨rfl,hb⟩
   refine ⟨_,rfl,?_⟩
   replace BK123:=kb BK123 hb;replace BK124:=kb BK124 hb;replace HB:=bs HB hb;(try clear hb)
   refine hK.out _ _ ⟨(blk_cell BK123.out 0).trans rfl,(blk_cell BK123.out 1).trans rfl,(blk_cell BK124.out 0).trans rfl,(blk_cell BK124.out 1).trans rfl⟩ (fun hHeld=>?_)
   clear hK K
   refine norm_ (a':=_) (by show Act.put _ _ _=_;simp only [Act.put,sI,sZ,sS,i64_w,i32_w];rfl) ?_
   refine pure_ (i:=3) (N:=some 16) (v:=?_) (a':=?_) #[tT,tT,tT,tT,fF] rfl rfl (by kernel_rfl) (fun _ _ _ h=>h) (Or.inl ⟨by rfl,?_⟩) ?_ ?_
   rotate_left
   ·intro w'
    go_simp
    with_reducible rfl
   rotate_left
   ·simp only [Act.put,sI,sZ,sS,i64_w,i32_w]
    rfl
   refine pure_ (i:=4) (N:=some 12) (v:=?_) (a':=?_) #[tT,tT,tT,tT,tT] rfl rfl (by kernel_rfl) (fun _ _ _ h=>h) (Or.inl ⟨by rfl,?_⟩) ?_ ?_
   rotate_left
   ·intro w'
    go_simp
    with_reducible rfl
   rotate_left
   ·simp only [Act.put,sI,sZ,sS,i64_w,i32_w]
    rfl
   refine done_ (by kernel_rfl) ?_
   have⟨a0,a1,b0,b1⟩:=q2f BK124;have⟨a0,a1,b0,b1⟩:=q2f BK123
   try go_wp2
   go_ret
   exact ⟨rfl,bb HB⟩
end Go.Proofs.Ytmhpbilkocnlnaa.Q
end
section
namespace Go.Proofs.Ytmhpbilkocnlnaa.Q
open Go.RowKit Go.Proofs.YtmhpbilkocnlnaaW.PrintWords Go.Proofs.YtmhpbilkocnlnaaW.PrintLast Go.Proofs.YtmhpbilkocnlnaaW.Ext Go.Proofs.Ytmhpbilkocnlnaa.Ang
set_option linter.unusedVariables false
theorem prod_in {a b : Int} (h0 : 0 ≤ a) (h1 : a ≤ 8191) (h2 : 0 ≤ b) (h3 : b ≤ 8191) : 0 ≤ a * b ∧ a * b ≤ 67092481 := by
  have x : 0 ≤ a * b := Int.mul_nonneg h0 h2
  have y : a * b ≤ 8191 * b := Int.mul_le_mul_of_nonneg_right h1 h2
  omega
theorem eq_pair {a b c d : Int} : (a == c && (b == d)) = decide ((a, b) = (c, d)) := by
  rw [Bool.eq_iff_iff]; simp
def letV (x t : Int × Int) : Int := if dbl x = t then 42 else if t.1 * x.2 < 2 * x.1 * t.2 ∧ 2 * x.1 * t.2 < t.1 * x.2 + x.2 * t.2 then 49 else 48
theorem ev_spec_letter {a b c d : Int} (h : isA a b = true) (k : isA c d = true) : Ev (fun n => spec_l02Letter.f n a b c d) (letV (a, b) (c, d)) := by
  obtain ⟨h1, h2, h3, h4, _⟩ := isA_iff.1 h
  obtain ⟨k1, k2, k3, k4, _⟩ := isA_iff.1 k
  have p1 := prod_in h3 (show a ≤ 8191 by omega) (show 0 ≤ d by omega) k2
  have p2 := prod_in k3 (show c ≤ 8191 by omega) (show 0 ≤ b by omega) h2
  have p3 := prod_in (show 0 ≤ b by omega) h2 (show 0 ≤ d by omega) k2
  have e1 : 2 * d * a = 2 * a * d := by grind
  have e1' : 2 * a * d = 2 * (a * d) := by grind
  have e2 : (c + d) * b = c * b + b * d := by grind
  unfold spec_l02Letter.f
  refine Ev.bind (ev_spec_Double h) ?_
  rw [wrap_in (x := 2 * d) (by omega) (by omega), wrap_in (x := c + d) (by omega) (by omega), e1, e2, wrap_in (x := 2 * a * d) (by omega) (by omega), wrap_in (x := c * b) (by omega) (by omega), wrap_in (x := c * b + b * d) (by omega) (by omega)]
  simp only [eq_pair, decide_eq_true_eq]
  unfold letV
  refine ev_if (fun z => ?_) (fun z => ?_)
  · rw [if_pos z]; exact Ev.now _
  · rw [if_neg z]
    by_cases u : c * b < 2 * a * d
    · by_cases v : 2 * a * d < c * b + b * d
      · simp only [gt_iff_lt, u, v, and_self, if_true]; exact Ev.now _
      · simp only [gt_iff_lt, u, v, and_false, if_true, if_false]; exact Ev.now _
    · simp only [gt_iff_lt, u, false_and, if_false]; exact Ev.now _
end Go.Proofs.Ytmhpbilkocnlnaa.Q
end
