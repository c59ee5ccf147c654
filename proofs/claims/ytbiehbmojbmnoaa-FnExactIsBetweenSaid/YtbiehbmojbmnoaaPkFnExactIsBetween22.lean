/- Joined texts: ExtWords, Shelf, Rep, RepAll, Qx0, Qx3, Qx1, Qx4, Qx5, Qx6, Qx7, Qx8, Qx9, Qx10, Qx11, Qx12, Qx13, Qx2, Qx14, Qx32, Qx39, Qx15 -/
import Derived.Test.YtbiehbmojbmnoaaPkFnExactIsBetween10
import Derived.Shelf.Abstract
import Derived.Laws.Runes
import Derived.Shelf.Strings.Builder1
import Derived.Shelf.Strings.Builder2
import Derived.Shelf.Small.Strs
import Derived.Shelf.Strings.BuilderF
import Derived.Shelf.Strings.Search1
import Derived.Shelf.Strings.Prefix
import Derived.Shelf.Bits.Mul64
import Derived.Test.YtbiehbmojbmnoaaProg
import Derived.Lib.FrozenHead
import Derived.Lib.RepeatB
import Derived.Laws.Strings3
import Derived.Deep.LoopGhost
import Derived.Deep.DeepCutAuto
import Derived.Deep.DeepFit
import Derived.Deep.CutBlock
import Derived.Test.YtbiehbmojbmnoaaChecked
import Derived.Maps.OwnOps
import Derived.Maps.OwnSet
import Derived.DeepKeys4
import Derived.Below
import Derived.Deep.Draws
import Derived.Deep.AppendLies
import Derived.Maps.AppendAt
import Derived.OwnWalk
import Derived.Laws.BytesArg
import Derived.Laws.MakeOwn
import Derived.Laws.OwnMore
import Derived.Deep.OwnRows
import Derived.Tactics
import Derived.Lib.ConvBytes
import Derived.Laws.Slices
import Derived.WalkKit
import Derived.KernelRfl
import Derived.RowKit3
import Derived.Deep.QuietTactic
import Derived.BigQuiet
import Derived.WideLaws
import Derived.Deep.RegionHeld3
import Derived.Laws.Rows
import Derived.Lib.AppendStr
import Derived.ArgAppend
import Derived.Laws.IdiomCopy
import Derived.OrdersHeld
import Derived.Laws.BitsLemmas
import Derived.RowKit
import Derived.Test.YtbiehbmojbmnoaaPkFnExactIsBetween21
import Derived.Test.YtbiehbmojbmnoaaPkFnExactIsBetween20
import Derived.Test.YtbiehbmojbmnoaaPkFnExactIsBetween9
import Derived.Test.YtbiehbmojbmnoaaPkFnExactIsBetween8
import Derived.Test.YtbiehbmojbmnoaaPkFnExactIsBetween19
import Derived.Test.YtbiehbmojbmnoaaPkFnExactIsBetween18
import Derived.Test.YtbiehbmojbmnoaaPkFnExactIsBetween17
import Derived.Test.YtbiehbmojbmnoaaPkFnExactIsBetween16
import Derived.Test.YtbiehbmojbmnoaaPkFnExactIsBetween15
import Derived.Test.YtbiehbmojbmnoaaPkFnExactIsBetween14
import Derived.Test.YtbiehbmojbmnoaaPkFnExactIsBetween13
import Derived.Test.YtbiehbmojbmnoaaPkFnExactIsBetween12
import Derived.Test.YtbiehbmojbmnoaaPkFnExactIsBetween7
import Derived.Test.YtbiehbmojbmnoaaPkFnExactIsBetween6
import Derived.Test.YtbiehbmojbmnoaaPkFnExactIsBetween5
import Derived.Test.YtbiehbmojbmnoaaPkFnExactIsBetween4
import Derived.Test.YtbiehbmojbmnoaaPkFnExactIsBetween3
import Derived.Test.YtbiehbmojbmnoaaPkFnExactIsBetween2
import Derived.Test.YtbiehbmojbmnoaaPkFnExactIsBetween1
import Derived.Test.YtbiehbmojbmnoaaPkFnExactIsBetween11
import Derived.Test.YtbiehbmojbmnoaaPkFnExactIsBetween0
section
namespace Go.Proofs.YtbiehbmojbmnoaaW.Ext
open Go.RowKit Go.Proofs.YtbiehbmojbmnoaaW.PrintWords Go.Proofs.YtbiehbmojbmnoaaW.PrintLast
def idxGo {α : Type} (p : α → Option Bool) : Int → List α → Option Int
  | _, [] => some (-1)
  | i, x :: xs => (p x).bind fun b => if b = true then some i else idxGo p (i + 1) xs
def allM {α : Type} (p : α → Option Bool) : List α → Option Bool
  | [] => some true
  | x :: xs => (p x).bind fun b => if b = true then allM p xs else some false
theorem allM_idx {α : Type} (p : α → Option Bool) : ∀ (l : List α) (j : Int) (r : Bool), 0 ≤ j → allM p l = some r →
    ∃ i, idxGo (fun x => (p x).map (fun b => !b)) j l = some i ∧ decide (0 ≤ i) = !r := by
  intro l
  induction l with
  | nil =>
    intro j r _ h
    have hr : true = r := Option.some.inj h
    subst hr
    exact ⟨-1, rfl, rfl⟩
  | cons x xs ih =>
    intro j r hj h
    unfold allM at h
    unfold idxGo
    cases hp : p x with
    | none => rw [hp] at h; simp at h
    | some b =>
      rw [hp] at h
      cases b with
      | true =>
        simp only [Option.bind_some, if_true] at h
        obtain ⟨i, h1, h2⟩ := ih (j + 1) r (by omega) h
        exact ⟨i, by simpa using h1, h2⟩
      | false =>
        have hr : false = r := by simpa using h
        subst hr
        exact ⟨j, by simp, by simpa using hj⟩
theorem allM_mono {α : Type} {p q : α → Option Bool} (hpq : ∀ x, LeO (p x) (q x)) : ∀ l : List α, LeO (allM p l) (allM q l)
  | [] => fun r h => h
  | x :: xs => fun r h => by
    unfold allM at h ⊢
    cases hp : p x with
    | none => rw [hp] at h; simp at h
    | some b =>
      rw [hpq x b hp]
      rw [hp] at h
      simp only [Option.bind_some] at h ⊢
      cases b with
      | true => simp only [if_true] at h ⊢; exact allM_mono hpq xs r h
      | false => exact h
theorem idxGo_drop {α : Type} (p : α → Option Bool) (l : List α) (k : Nat) (i r : Int) (hk : k < l.length) (h : idxGo p i (l.drop k) = some r) :
    ∃ b, p l[k] = some b ∧ ((b = true ∧ r = i) ∨ (b = false ∧ idxGo p (i + 1) (l.drop (k + 1)) = some r)) := by
  rw [List.drop_eq_getElem_cons hk] at h
  unfold idxGo at h
  cases hp : p l[k] with
  | none => rw [hp] at h; simp at h
  | some b =>
    rw [hp] at h
    refine ⟨b, rfl, ?_⟩
    cases b with
    | true => left; simp at h; exact ⟨rfl, h.symm⟩
    | false => right; simp at h; exact ⟨rfl, h⟩
theorem idxGo_end {α : Type} (p : α → Option Bool) (l : List α) (k : Nat) (i r : Int) (hk : l.length ≤ k) (h : idxGo p i (l.drop k) = some r) : r = -1 := by
  rw [List.drop_of_length_le hk] at h
  simp [idxGo] at h
  exact h.symm
end Go.Proofs.YtbiehbmojbmnoaaW.Ext
end
section
namespace Go.Proofs
open Go.Shelf
open Go.RowKit in
open Go.RowKit in
open Go.RowKit in
open Go.RowKit in
open Go.RowKit in
def Try.lays165_ren : Go.Shelf.Ren := ⟨fun | 165 => 52 | 240 => 62 | 241 => 63 | 276 => 65 | 277 => 66 | n => n, fun | 70 => 74 | 3 => 3 | 0 => 0 | 4 => 4 | 9 => 9 | 20 => 20 | 72 => 76 | 37 => 42 | 164 => 92 | 5 => 5 | n => n, fun | n => n⟩
theorem Try.lays165 : Go.Proofs.Lays.n165 Try.prog Try.lays165_ren := {
  mixed := by kernel_rfl
  f165 := Try.func52.trans (congrArg some (by kernel_rfl))
  f240 := Try.func62.trans (congrArg some (by kernel_rfl))
  f241 := Try.func63.trans (congrArg some (by kernel_rfl))
  f276 := Try.func65.trans (congrArg some (by kernel_rfl))
  f277 := Try.func66.trans (congrArg some (by kernel_rfl))
  t0 := Try.underlying0
  a0 := Try.isAgg0
  z0 := Try.sizeOf0
  v0 := Try.zeroValue0
  t3 := Try.underlying3
  a3 := Try.isAgg3
  z3 := Try.sizeOf3
  v3 := Try.zeroValue3
  t4 := Try.underlying4
  a4 := Try.isAgg4
  z4 := Try.sizeOf4
  v4 := Try.zeroValue4
  t9 := Try.underlying9
  a9 := Try.isAgg9
  z9 := Try.sizeOf9
  v9 := Try.zeroValue9
  t20 := Try.underlying20
  a20 := Try.isAgg20
  z20 := Try.sizeOf20
  v20 := Try.zeroValue20
  t37 := Try.underlying42
  a37 := Try.isAgg42
  z37 := Try.sizeOf42
  v37 := Try.zeroValue42
  t70 := Try.underlying74
  a70 := Try.isAgg74
  z70 := Try.sizeOf74
  v70 := Try.zeroValue74
  t72 := Try.underlying76
  a72 := Try.isAgg76
  z72 := Try.sizeOf76
  v72 := Try.zeroValue76
  t164 := Try.underlying92
  a164 := Try.isAgg92
  z164 := Try.sizeOf92
  v164 := Try.zeroValue92 }
theorem Try.Builder_Extra_165 : Builder.Extra Try.prog Try.lays165_ren := {
  sizeBuilder := by kernel_rfl
  liesBuilder := by kernel_rfl
  t5 := Try.underlying5
  a5 := Try.isAgg5
  z5 := Try.sizeOf5
  v5 := Try.zeroValue5
  infoByte := by kernel_rfl
  cellsByte := by kernel_rfl
  sizeByte := by kernel_rfl
  neB5 := by decide }
open Go.RowKit in
theorem Try.Builder_Grow_fresh (B b n : Nat) (w : World) (hB : B ≤ b) (hbk : w.heap[b]? = some (.cells #[.pointer none, .slice none 0 0] 76 (0, 0))) (hBw : B ≤ w.heap.size) (hn : n ≤ 281474976710656) :
    Calls Try.prog 52 #[.pointer (some ⟨b, 0, none⟩), .int .i64 n] w fun e w' => e = .returned (.tuple #[]) ∧ (Lib.BuilderAt 76 5 B b (.pointer (some ⟨b, 0, none⟩)) [] w' ∧ Below B w w') := Any.Builder_Grow_fresh Try.lays165 Try.Builder_Extra_165 B b n w hB hbk hBw hn
def Try.lays137_ren : Go.Shelf.Ren := ⟨fun | 137 => 44 | 217 => 49 | 266 => 58 | n => n, fun | 9 => 9 | 5 => 5 | 3 => 3 | n => n, fun | n => n⟩
theorem Try.lays137 : Go.Proofs.Lays.n137 Try.prog Try.lays137_ren := {
  mixed := by kernel_rfl
  f137 := Try.func44.trans (congrArg some (by kernel_rfl))
  f217 := Try.func49.trans (congrArg some (by kernel_rfl))
  f266 := Try.func58.trans (congrArg some (by kernel_rfl))
  t3 := Try.underlying3
  a3 := Try.isAgg3
  z3 := Try.sizeOf3
  v3 := Try.zeroValue3
  t5 := Try.underlying5
  a5 := Try.isAgg5
  z5 := Try.sizeOf5
  v5 := Try.zeroValue5
  t9 := Try.underlying9
  a9 := Try.isAgg9
  z9 := Try.sizeOf9
  v9 := Try.zeroValue9 }
open Go.RowKit in
theorem Try.strings_IndexByte (s : ByteArray) (c : Int) (w : World) :
    Calls Try.prog 44 #[.string s, .int .u8 c] w fun e w' => e = .returned (.int .i64 (Lib.indexByte s.data.toList c.toNat.toUInt8)) ∧ w' = w := Any.strings_IndexByte Try.lays137 s c w
open Go.RowKit in
open Go.RowKit in
open Go.RowKit in
open Go.RowKit in
open Go.RowKit Go.Lib in
open Go.RowKit Go.Lib in
open Go.RowKit Go.Lib in
open Go.RowKit Go.Lib in
def Try.lays212_ren : Go.Shelf.Ren := ⟨fun | 212 => 50 | 263 => 59 | 264 => 60 | n => n, fun | 46 => 71 | 51 => 84 | 146 => 85 | 53 => 87 | 148 => 88 | n => n, fun | n => n⟩
theorem Try.lays212 : Go.Proofs.Lays.n212 Try.prog Try.lays212_ren := {
  mixed := by kernel_rfl
  f212 := Try.func50.trans (congrArg some (by kernel_rfl))
  f263 := Try.func59.trans (congrArg some (by kernel_rfl))
  f264 := Try.func60.trans (congrArg some (by kernel_rfl))
  t46 := Try.underlying71
  a46 := Try.isAgg71
  z46 := Try.sizeOf71
  v46 := Try.zeroValue71
  t51 := Try.underlying84
  a51 := Try.isAgg84
  z51 := Try.sizeOf84
  v51 := Try.zeroValue84
  t53 := Try.underlying87
  a53 := Try.isAgg87
  z53 := Try.sizeOf87
  v53 := Try.zeroValue87
  t146 := Try.underlying85
  a146 := Try.isAgg85
  z146 := Try.sizeOf85
  v146 := Try.zeroValue85
  t148 := Try.underlying88
  a148 := Try.isAgg88
  z148 := Try.sizeOf88
  v148 := Try.zeroValue88 }
open Go.RowKit Go.Lib in
theorem Try.bits_Mul (x y : Nat) (hx : x < 18446744073709551616) (hy : y < 18446744073709551616) (w : World) :
    Calls Try.prog 50 #[.int .u64 x, .int .u64 y] w fun e w' => e = .returned (.tuple #[.int .u64 ((x * y / 18446744073709551616 : Nat) : Int), .int .u64 ((x * y % 18446744073709551616 : Nat) : Int)]) ∧ w' = w := Any.bits_Mul Try.lays212 x y hx hy w
end Go.Proofs
end
section
namespace Go.Proofs.Ytbiehbmojbmnoaa.Rep
open Go.Shelf Go.RowKit Go.Proofs
set_option linter.unusedVariables false
set_option linter.unusedSimpArgs false
abbrev TB : TypeId := 76
abbrev TU : TypeId := 5
theorem size_builder : (Try.prog.info? TB).map (·.size) = some 2 := by kernel_rfl
theorem lies_builder : liesAt Try.prog Try.prog.depth TB (2 / Try.prog.cellsOf TB) 0 TB 1 = true := by kernel_rfl
theorem info_byte : (Try.prog.info? TU).map (fun i => (i.zero, i.size, i.bytes)) = some (some (.int .u8 0), 1, 1) := by kernel_rfl
theorem cells_byte : Try.prog.cellsOf TU = 1 := by kernel_rfl
theorem ne_bu : TB ≠ TU := by decide
theorem mixed : Try.prog.follows .mixedOrders = true := by kernel_rfl
set_option maxHeartbeats 1000000 in
set_option maxRecDepth 100000 in
theorem check_used (b : Nat) (w : World) (h0 : w.cell? ⟨b, 0, none⟩ = some (.pointer (some ⟨b, 0, none⟩))) :
    Calls Try.prog 62 #[.pointer (some ⟨b, 0, none⟩)] w fun e w' => e = .returned (.tuple #[]) ∧ w' = w := by
  obtain ⟨j, hj, _⟩ := Option.map_eq_some_iff.1 size_builder
  go_enter Try.func62, Try.ntmps62
  go_wp2
  rw [Lib.run_neq_ptr_same w _ Try.underlying74 hj]
  go_wp2
  go_end0
  exact ⟨rfl, rfl⟩
set_option maxHeartbeats 1000000 in
set_option maxRecDepth 100000 in
theorem check_fresh (b : Nat) (w : World) (h0 : w.cell? ⟨b, 0, none⟩ = some (.pointer none)) (hsh : w.shape? b = some (TB, 2)) (hfz : w.frozen? ⟨b, 0, none⟩ = false) :
    Calls Try.prog 62 #[.pointer (some ⟨b, 0, none⟩)] w fun e w' => e = .returned (.tuple #[]) ∧ w' = w.setCell ⟨b, 0, none⟩ (.pointer (some ⟨b, 0, none⟩)) := by
  obtain ⟨j, hj, hjs⟩ := Option.map_eq_some_iff.1 size_builder
  go_enter Try.func62, Try.ntmps62
  go_wp2
  rw [Lib.run_to_unsafe w ⟨b, 0, none⟩ Try.underlying74 Try.underlying92 hj (by rw [hjs]; decide) hsh (Nat.zero_lt_succ 1)]
  simp only [Result.andThen]
  rw [Oper.upon_value]
  go_wp2
  rw [run_callFunc_extern Try.func65 (by kernel_rfl) (by kernel_rfl) (by kernel_rfl) (e := Extern.AbiNoEscape.same) (by kernel_rfl)]
  rw [Lib.run_noEscape]
  simp only [Result.andThen]
  rw [Oper.upon_value]
  go_wp2
  rw [Lib.run_from_unsafe w ⟨b, 0, none⟩ Try.underlying92 Try.underlying74 hj hsh lies_builder]
  simp only [Result.andThen]
  rw [Oper.upon_value]
  go_wp2
  go_end0
  exact ⟨rfl, rfl⟩
theorem check (B b : Nat) (bs : List Value) (w : World) (h : Lib.IsBuilderF TB TU B b bs w) :
    Calls Try.prog 62 #[.pointer (some ⟨b, 0, none⟩)] w fun e w' => e = .returned (.tuple #[]) ∧ (Lib.BuilderAtF TB TU B b (.pointer (some ⟨b, 0, none⟩)) bs w' ∧ Below B w w') := by
  rcases h with h | h
  · refine (check_fresh b w h.cell0 h.shape h.frozen0).mono ?_
    rintro e w' ⟨rfl, rfl⟩
    exact ⟨rfl, h.used _, (Below.refl B w).setCell (p := ⟨b, 0, none⟩) h.1 _⟩
  · refine (check_used b w h.cell0).mono ?_
    rintro e w' ⟨rfl, rfl⟩
    exact ⟨rfl, h, Below.refl B _⟩
theorem atF {B b : Nat} {bs : List Value} {w : World} (h : Lib.IsBuilderF TB TU B b bs w) : ∃ p, (p = .pointer none ∨ p = .pointer (some ⟨b, 0, none⟩)) ∧ Lib.BuilderAtF TB TU B b p bs w := by
  rcases h with h | h
  · exact ⟨_, .inl rfl, h⟩
  · exact ⟨_, .inr rfl, h⟩
set_option maxHeartbeats 1000000 in
set_option maxRecDepth 100000 in
theorem len (B b : Nat) (bs : List Value) (w : World) (h : Lib.IsBuilderF TB TU B b bs w) :
    Calls Try.prog 54 #[.pointer (some ⟨b, 0, none⟩)] w fun e w' => e = .returned (.int .i64 bs.length) ∧ w' = w := by
  obtain ⟨p, _, hB, v, hbk, hown, hne⟩ := atF h
  obtain ⟨ao, cap, rfl⟩ : ∃ ao cap, v = .slice ao bs.length cap := by
    rcases hown.2 with ⟨hv, h0⟩ | ⟨g, cap, cur, fz, hv, _⟩
    · exact ⟨none, 0, by rw [hv, h0]⟩
    · exact ⟨_, _, hv⟩
  have c1 : w.cell? ⟨b, 1, none⟩ = some (.slice ao bs.length cap) := by rw [Lib.cell_of_heap hbk]; rfl
  go_enter Try.func54, Try.ntmps54
  go_wp2
  go_ret
  exact ⟨rfl, rfl⟩
set_option maxHeartbeats 2000000 in
set_option maxRecDepth 100000 in
theorem write (B b : Nat) (bs : List Value) (s : ByteArray) (w : World) (h : Lib.IsBuilderF TB TU B b bs w) (hlen : bs.length + s.size ≤ 140737488355328) (hBw : B ≤ w.heap.size) :
    Calls Try.prog 53 #[.pointer (some ⟨b, 0, none⟩), .string s] w fun e w' => e = .returned (.tuple #[.int .i64 s.size, .nilIface]) ∧ (Lib.BuilderAtF TB TU B b (.pointer (some ⟨b, 0, none⟩)) (bs ++ Lib.strCells s) w' ∧ Below B w w') := by
  obtain ⟨i0, hi, hz0, hz1, hz2⟩ := info_parts info_byte
  have hc := check B b bs w h
  go_enter Try.func53, Try.ntmps53
  go_wp2_with (go_at_call 62; refine hc.mono ?_)
  rintro e w1 ⟨rfl, h1, hb1⟩
  obtain ⟨hB, v, hbk, hown, hne⟩ := h1
  have c0 : w1.cell? ⟨b, 0, none⟩ = some (.pointer (some ⟨b, 0, none⟩)) := by rw [Lib.cell_of_heap hbk]; rfl
  have c1 : w1.cell? ⟨b, 1, none⟩ = some v := by rw [Lib.cell_of_heap hbk]; rfl
  go_wp2_with (at_builtin; refine Lib.wpList_append_own_stringF _ rfl _ _ 42 9 rfl B TU i0 Try.underlying42 Try.underlying9 hi hz0 hz1 hz2 _ _ _ rfl hown s rfl ?c3 ?c4 ?c5 ?_)
  case c3 => unfold maxLen; omega
  case c4 => omega
  case c5 => have := hb1.size; omega
  intro v' w2 hown' hgrow _
  have hlt : b < w1.heap.size := by
    rcases Nat.lt_or_ge b w1.heap.size with h' | h'
    · exact h'
    · simp [Array.getElem?_eq_none h'] at hbk
  have hb2 : w2.heap[b]? = some (.cells #[.pointer (some ⟨b, 0, none⟩), v] TB (0, 0)) := by
    rw [hgrow.block b hlt (fun e => hne e.symm)]
    exact hbk
  have d0 : w2.cell? ⟨b, 0, none⟩ = some (.pointer (some ⟨b, 0, none⟩)) := by rw [Lib.cell_of_heap hb2]; rfl
  have d1 : w2.cell? ⟨b, 1, none⟩ = some v := by rw [Lib.cell_of_heap hb2]; rfl
  have f1 : w2.frozen? ⟨b, 1, none⟩ = false := Lib.frozen_of_heap hb2 1
  obtain ⟨ao, n', cap, rfl⟩ : ∃ ao n' cap, v' = .slice ao n' cap := by
    rcases hown'.2 with ⟨hv, _⟩ | ⟨g, cap, cur, fz, hv, _⟩
    · exact ⟨_, _, _, hv⟩
    · exact ⟨_, _, _, hv⟩
  go_wp2
  go_ret2
  refine ⟨rfl, ?_, ?_⟩
  · exact Lib.BuilderAtF.put (T := TB) (e := TU) hB hb2 (bs' := bs ++ Lib.strCells s) (by simpa [Lib.strCells_length] using hown') ne_bu
  · exact (hb1.grown hgrow (by have := hb1.size; omega) (fun k hk => (hown.lt k hk).1)).setCell (p := ⟨b, 1, none⟩) hB _
set_option maxHeartbeats 1000000 in
set_option maxRecDepth 100000 in
theorem str (B b : Nat) (l : List UInt8) (w : World) (h : Lib.IsBuilderF TB TU B b (Lib.byteCells l) w) (h0 : l ≠ []) :
    Calls Try.prog 55 #[.pointer (some ⟨b, 0, none⟩)] w fun e w' => e = .returned (.string ⟨l.toArray⟩) ∧ (Lib.IsBuilderF TB TU B b (Lib.byteCells l) w' ∧ Below B w w') := by
  obtain ⟨p, hp, hAt⟩ := atF h
  obtain ⟨hB, v, hbk, hown, hne⟩ := hAt
  have hl0 : l.length ≠ 0 := by simpa using h0
  rw [Lib.byteCells_length] at hown
  obtain ⟨g, cap, cur, fz, rfl, hbg, hg, hfz, hnc, hcm, hcs, htake⟩ : ∃ g cap cur fz, v = .slice (some ⟨g, 0, none⟩) l.length cap ∧ B ≤ g ∧ w.heap[g]? = some (.cells cur TU fz) ∧ fz.2 ≤ l.length * 1 ∧ l.length ≤ cap ∧ cap ≤ maxLen ∧ cur.size = cap * 1 ∧ cur.toList.take (l.length * 1) = Lib.byteCells l := by
    rcases hown.2 with ⟨_, hz⟩ | ⟨g, cap, cur, fz, hv, r⟩
    · exact absurd hz hl0
    · exact ⟨g, cap, cur, fz, hv, r⟩
  have c1 : w.drew.cell? ⟨b, 1, none⟩ = some (.slice (some ⟨g, 0, none⟩) l.length cap) := by
    have : w.drew.heap[b]? = some (.cells #[p, .slice (some ⟨g, 0, none⟩) l.length cap] TB (0, 0)) := hbk
    rw [Lib.cell_of_heap this]; rfl
  have hSD : (Builtin.unsafeSliceData_ #[42] 90 #[.slice (some ⟨g, 0, none⟩) l.length cap]).run Try.prog w.drew = .ok (.pointer (some ⟨g, 0, none⟩)) w.drew :=
    Lib.run_unsafeSliceData_row _ _ _ _ _ _ (by omega)
  have hUS : (Builtin.unsafeString_ #[90, 3] 9 #[.pointer (some ⟨g, 0, none⟩), .int .i64 l.length]).run Try.prog w.drew = .ok (.string ⟨l.toArray⟩) (w.drew.freeze ⟨g, 0, none⟩ l.length) := by
    refine Lib.run_unsafeString_row w.drew 90 3 9 TU Try.underlying90 cells_byte g cur.size (by have hg' : w.drew.heap[g]? = some (.cells cur TU fz) := hg; simp [World.shape?, hg']) l h0 (by omega) (by unfold maxLen at hcm; omega) ?_
    intro j x hx
    exact hown.cells (g := g) rfl j (.int .u8 x.toNat) (by simp [Lib.byteCells, hx])
  have hkeep : Lib.IsBuilderF TB TU B b (Lib.byteCells l) (w.drew.freeze ⟨g, 0, none⟩ l.length) := by
    have hA : Lib.BuilderAtF TB TU B b p (Lib.byteCells l) w.drew := ⟨hB, _, hbk, by rw [Lib.byteCells_length]; exact hown, hne⟩
    have hF := hA.froze (g := g) (cap := cap) (by rw [Lib.byteCells_length]; exact c1)
    rw [Lib.byteCells_length] at hF
    rcases hp with rfl | rfl
    · exact .inl hF
    · exact .inr hF
  have mixed := mixed
  go_enter Try.func55, Try.ntmps55
  go_wp2
  go_region_o
  all_goals (go_wp2; go_ret; exact ⟨rfl, hkeep, Lib.below_freeze (Below.drew (Below.refl B w)) (p := ⟨g, 0, none⟩) hbg _⟩)
set_option maxHeartbeats 1000000 in
theorem litePrefix (s p : ByteArray) (w : World) :
    Calls Try.prog 61 #[.string s, .string p] w fun e w' => e = .returned (.bool (Lib.hasPrefix s.data.toList p.data.toList)) ∧ w' = w := by
  rw [← Lib.hasPrefix_of_take, ← Lib.size_eq, ← Lib.size_eq]
  go_enter Try.func61, Try.ntmps61
  go_wp2
  · rename_i h
    go_ret
    refine ⟨?_, rfl⟩
    show Ending.returned (Value.bool ((s.extract 0 p.size).toList == p.toList)) = _
    rw [Lib.extract_toList, Lib.toList_data]
    simp [h]
  · rename_i h
    go_ret
    refine ⟨?_, rfl⟩
    show Ending.returned (Value.bool false) = _
    simp [h]
set_option maxHeartbeats 1000000 in
theorem hasPrefix (s p : ByteArray) (w : World) :
    Calls Try.prog 51 #[.string s, .string p] w fun e w' => e = .returned (.bool (Lib.hasPrefix s.data.toList p.data.toList)) ∧ w' = w := by
  have hc := litePrefix s p w
  go_enter Try.func51, Try.ntmps51
  go_wp2_with (go_at_call 61; refine hc.mono ?_; rintro e w' ⟨rfl, rfl⟩)
  go_ret
  exact ⟨rfl, rfl⟩
theorem min3 {P : Program} {w : World} (ts : Array TypeId) (t : TypeId) (x y z : Int) :
    (Builtin.min_ ts t #[.int .i64 x, .int .i64 y, .int .i64 z]).run P w = .ok (.int .i64 (min (min x y) z)) w := by
  simp [Builtin.min_, Builtin.min2]
  repeat' split
  all_goals (congr 2; omega)
set_option maxHeartbeats 1600000 in
set_option maxRecDepth 1000000 in
theorem main (s : ByteArray) (c : Nat) (w : World) (hc2 : 2 ≤ c) (hlen : s.size * c ≤ 8192) (h0 : 0 < s.size) :
    Calls Try.prog 45 #[.string s, .int .i64 c] w fun e w' => e = .returned (.string ⟨(Lib.repeatL s.data.toList c).toArray⟩) ∧ Below w.heap.size w w' := by
  have hc : c ≤ 8192 := Nat.le_trans (Nat.le_mul_of_pos_left _ h0) hlen
  have hsz : s.size ≤ 8192 := Nat.le_trans (Nat.le_mul_of_pos_right _ (by omega)) hlen
  have hMul := Try.bits_Mul s.size c (by omega) (by omega) w
  rw [Nat.div_eq_of_lt (by omega : s.size * c < 18446744073709551616), Nat.mod_eq_of_lt (by omega : s.size * c < 18446744073709551616)] at hMul
  obtain ⟨n, hn⟩ : ∃ n, s.size * c = n := ⟨_, rfl⟩
  rw [hn] at hMul hlen
  have HN : Aside (s.size * c = n) := hn
  clear hn
  have mixed := mixed
  go_enter Try.func45, Try.ntmps45
  go_upto_block 1 with (go_at_call 50; refine hMul.mono ?_; rintro e w' ⟨rfl, hw⟩; rw [hw])
  clear hMul
  go_cut [] (fun wx => w = wx)
  case first =>
    go_upto_if 43 with fail
    go_cut [43] (fun s43 wx => w = wx ∧ ∃ B : Bool, s43 = .bool B)
    case first =>
      go_wp2
      all_goals (go_meet; exact ⟨rfl, _, rfl⟩)
    case rest =>
      obtain ⟨rfl, B, rfl⟩ := hcut
      cases B
      · go_wp2
        go_meet
        rfl
      · go_wp2_with (go_at_call 51; refine (hasPrefix _ _ _).mono ?_; rintro e w' ⟨rfl, hw⟩; rw [hw])
        all_goals (first
          | (go_meet; rfl)
          | (go_ret; first
              | exact ⟨by rw [Lib.fast_ok _ 32 128 (by rfl) s c n HN.out (by omega) (by assumption)] <;> rfl, Below.refl _ _⟩
              | exact ⟨by rw [Lib.fast_ok _ 45 128 (by rfl) s c n HN.out (by omega) (by assumption)] <;> rfl, Below.refl _ _⟩
              | exact ⟨by rw [Lib.fast_ok _ 48 64 (by rfl) s c n HN.out (by omega) (by assumption)] <;> rfl, Below.refl _ _⟩
              | exact ⟨by rw [Lib.fast_ok _ 61 128 (by rfl) s c n HN.out (by omega) (by assumption)] <;> rfl, Below.refl _ _⟩
              | exact ⟨by rw [Lib.fast_ok _ 9 64 (by rfl) s c n HN.out (by omega) (by assumption)] <;> rfl, Below.refl _ _⟩))
  case rest =>
    obtain rfl := hcut
    have b0 : Below w.heap.size w (w.alloc (.cells #[.pointer none, .slice none 0 0] TB)) := (Below.refl _ w).alloc (Nat.le_refl _) _
    have cG := Try.Builder_Grow_fresh w.heap.size w.heap.size n (w.alloc (.cells #[.pointer none, .slice none 0 0] TB)) (Nat.le_refl _) (heap_alloc_new w _) b0.size (by omega)
    go_wp2_with (go_at_call 52; refine cG.mono ?_; rintro e W1 ⟨rfl, h1, b1⟩)
    clear cG
    have cW := write w.heap.size w.heap.size [] s W1 (Lib.IsBuilderF.of (Or.inr h1)) (by simp; omega) (Nat.le_trans b0.size b1.size)
    go_wp2_with (go_at_call 53; refine cW.mono ?_; rintro e W2 ⟨rfl, h2, b2⟩)
    clear cW h1
    have h2' : Lib.IsBuilderF TB TU w.heap.size w.heap.size (Lib.byteCells (Lib.repeatL s.data.toList 1)) W2 := by
      rw [List.nil_append, Lib.strCells_eq] at h2
      rw [Lib.repeatL_one]
      exact Or.inr h2
    have b02 : Below w.heap.size w W2 := b0.trans (b1.trans b2)
    clear h2 b0 b1 b2
    go_loopg [] (c - 1) (fun g wx => ∃ q : Nat, 1 ≤ q ∧ q + g = c ∧ Lib.IsBuilderF TB TU w.heap.size w.heap.size (Lib.byteCells (Lib.repeatL s.data.toList q)) wx ∧ Below w.heap.size w wx)
    case atStart => exact ⟨1, Nat.le_refl _, by omega, h2', b02⟩
    case round =>
      obtain ⟨q, hq1, hqg, hB, hbx⟩ := hrel
      have hnc : c * s.size = n := by rw [Nat.mul_comm]; exact HN.out
      obtain ⟨Q, hQ⟩ : ∃ Q, q * s.size = Q := ⟨_, rfl⟩
      obtain ⟨S, hS⟩ : ∃ S : ByteArray, (⟨(Lib.repeatL s.data.toList q).toArray⟩ : ByteArray) = S := ⟨_, rfl⟩
      have hSd : S.data.toList = Lib.repeatL s.data.toList q := by rw [← hS]
      have hlq : (Lib.byteCells (Lib.repeatL s.data.toList q)).length = Q := by rw [Lib.byteCells_length, Lib.repeatL_length, ← Lib.size_eq, hQ]
      have hSz : S.size = Q := by rw [Lib.size_eq, hSd, Lib.repeatL_length, ← Lib.size_eq, hQ]
      have hne : Lib.repeatL s.data.toList q ≠ [] := by
        intro h
        have hl := Lib.repeatL_length s.data.toList q
        rw [h, ← Lib.size_eq] at hl
        have := Nat.mul_pos (show 0 < q by omega) h0
        simp at hl
        omega
      have cLen := len w.heap.size w.heap.size _ wr hB
      rw [hlq] at cLen
      have cStr := str w.heap.size w.heap.size (Lib.repeatL s.data.toList q) wr hB hne
      rw [hS] at cStr
      cases gk with
      | zero =>
        obtain rfl : q = c := by omega
        have hQn : ¬ ((Q : Int) < (n : Int)) := by omega
        go_wp2_with (first
          | (go_at_call 54; refine cLen.mono ?_; rintro e w' ⟨rfl, hw⟩; rw [hw])
          | (go_at_call 55; refine cStr.mono ?_; rintro e W3 ⟨rfl, h3, b3⟩))
        go_ret
        exact ⟨by rw [hS] <;> rfl, hbx.trans b3⟩
      | succ g =>
        have hqc : q < c := by omega
        obtain ⟨k, hk1, hkq, hkc, hmin⟩ := Lib.chunk_ok c q c s.size hq1 hqc (by omega)
        rw [hnc, hQ] at hmin
        obtain ⟨CH, hCH⟩ : ∃ CH, k * s.size = CH := ⟨_, rfl⟩
        rw [hCH] at hmin
        have hsum : Q + CH ≤ n := by
          have h1 : (q + k) * s.size ≤ c * s.size := Nat.mul_le_mul_right _ hkc
          rw [Nat.add_mul, hQ, hCH, hnc] at h1
          exact h1
        have hCH1 : 1 ≤ CH := by
          rw [← hCH]
          exact Nat.mul_pos hk1 h0
        have hCHQ : CH ≤ Q := by rw [← hCH, ← hQ]; exact Nat.mul_le_mul_right _ hkq
        have hQn : (Q : Int) < (n : Int) := by omega
        have hmin3 : ∀ (ts : Array TypeId) (t : TypeId) (W : World), (Builtin.min_ ts t #[.int .i64 ((n : Int) - (Q : Int)), .int .i64 (Q : Int), .int .i64 (n : Int)]).run Try.prog W = .ok (.int .i64 (CH : Int)) W := fun ts t W => by
          rw [min3]
          congr 2
          omega
        clear hmin
        go_wp2_with (first
          | (go_at_call 54; refine cLen.mono ?_; rintro e w' ⟨rfl, hw⟩; rw [hw])
          | (go_at_call 55; refine cStr.mono ?_; rintro e W3 ⟨rfl, h3, b3⟩))
        have cWr := write w.heap.size w.heap.size _ (S.extract 0 CH) W3 h3 (by
          rw [hlq, Lib.size_eq, Lib.extract_data, hSd]
          simp only [List.drop_zero, Nat.sub_zero, List.length_take, Lib.repeatL_length]
          omega) (Nat.le_trans hbx.size b3.size)
        go_wp2_with (go_at_call 53; refine cWr.mono ?_; rintro e W4 ⟨rfl, h4, b4⟩)
        go_roundg (c - (q + k))
        case measure => omega
        case rel =>
          refine ⟨q + k, by omega, by omega, Or.inr ?_, hbx.trans (b3.trans b4)⟩
          rw [Lib.strCells_eq, ← Lib.byteCells_append, Lib.extract_data, hSd] at h4
          simp only [List.drop_zero, Nat.sub_zero] at h4
          rw [← hCH, Lib.size_eq, Lib.step_ok _ _ _ hkq] at h4
          exact h4
set_option maxRecDepth 1000000 in
theorem zero (s : ByteArray) (w : World) : Calls Try.prog 45 #[.string s, .int .i64 0] w fun e w' => e = .returned (.string ⟨#[]⟩) ∧ w' = w := by
  have mixed := mixed
  go_enter Try.func45, Try.ntmps45
  go_wp2
  go_ret
  exact ⟨rfl, rfl⟩
set_option maxRecDepth 1000000 in
theorem one (s : ByteArray) (w : World) : Calls Try.prog 45 #[.string s, .int .i64 1] w fun e w' => e = .returned (.string s) ∧ w' = w := by
  have mixed := mixed
  go_enter Try.func45, Try.ntmps45
  go_wp2
  go_ret
  exact ⟨rfl, rfl⟩
set_option maxHeartbeats 800000 in
set_option maxRecDepth 1000000 in
theorem none (s : ByteArray) (c : Nat) (w : World) (hc2 : 2 ≤ c) (hc : c ≤ 9223372036854775807) (h0 : s.size = 0) :
    Calls Try.prog 45 #[.string s, .int .i64 c] w fun e w' => e = .returned (.string ⟨#[]⟩) ∧ w' = w := by
  have hMul := Try.bits_Mul s.size c (by omega) (by omega) w
  rw [h0, Nat.zero_mul] at hMul
  have mixed := mixed
  go_enter Try.func45, Try.ntmps45
  go_wp2_with (go_at_call 50; refine hMul.mono ?_; rintro e w' ⟨rfl, hw⟩; rw [hw])
  go_ret
  exact ⟨rfl, rfl⟩
def val (s : ByteArray) (c : Int) : ByteArray := ⟨(Lib.repeatL s.data.toList c.toNat).toArray⟩
theorem calls (s : ByteArray) (c : Int) (w : World) (hc : 0 ≤ c) (hm : c ≤ 9223372036854775807) (hlen : s.size * c.toNat ≤ 8192) :
    Calls Try.prog 45 #[.string s, .int .i64 c] w fun e w' => e = .returned (.string (val s c)) ∧ Below w.heap.size w w' := by
  obtain ⟨n, rfl⟩ : ∃ n : Nat, c = (n : Int) := ⟨c.toNat, by omega⟩
  rw [Int.toNat_natCast] at hlen
  unfold val
  rw [Int.toNat_natCast]
  rcases (show n = 0 ∨ n = 1 ∨ 2 ≤ n by omega) with rfl | rfl | h2
  · refine (zero s w).mono ?_
    rintro e w' ⟨rfl, rfl⟩
    exact ⟨rfl, Below.refl _ _⟩
  · refine (one s w).mono ?_
    rintro e w' ⟨rfl, rfl⟩
    exact ⟨by simp [Lib.repeatL], Below.refl _ _⟩
  · rcases (show s.size = 0 ∨ 0 < s.size by omega) with h0 | h0
    · refine (none s n w h2 (by omega) h0).mono ?_
      rintro e w' ⟨rfl, rfl⟩
      refine ⟨?_, Below.refl _ _⟩
      have hl := Lib.repeatL_length s.data.toList n
      rw [← Lib.size_eq, h0, Nat.mul_zero] at hl
      rw [List.eq_nil_of_length_eq_zero hl]
    · exact main s n w h2 hlen h0
end Go.Proofs.Ytbiehbmojbmnoaa.Rep
end
section
namespace Go.Proofs.Ytbiehbmojbmnoaa.Q
open Go.Proofs.YtbiehbmojbmnoaaW.Ext
open Go.RowKit Go.Proofs.YtbiehbmojbmnoaaW.PrintWords Go.Proofs.YtbiehbmojbmnoaaW.PrintLast Go.Proofs.YtbiehbmojbmnoaaW.PrintMore
attribute [local go_sem] max2_int min2_int max_two min_two max_three min_three max_four min_four   -- for this text's walks alone
set_option linter.unusedVariables false
set_option linter.unusedSimpArgs false
def errW : Option Int → Value
  | none => .nilIface
  | some c => .iface 0 (.int .i64 c)
theorem errW_none : errW none = .nilIface := rfl
theorem errW_some (c : Int) : errW (some c) = .iface 0 (.int .i64 c) := rfl
theorem info5 : (Try.prog.info? 5).map (fun i => (i.zero, i.size, i.bytes)) = some (some (.int .u8 0), 1, 1) := by kernel_rfl
theorem info36 : (Try.prog.info? 36).map (fun i => (i.zero, i.size, i.bytes)) = some (some (.agg #[(.string ⟨#[]⟩), (.string ⟨#[]⟩), (.string ⟨#[]⟩), (.string ⟨#[]⟩), (.string ⟨#[]⟩), (.string ⟨#[]⟩)]), 6, 96) := by kernel_rfl
structure S27 where
  f0 : ByteArray
  f1 : ByteArray
def z27 : S27 := ⟨(⟨#[]⟩ : ByteArray), (⟨#[]⟩ : ByteArray)⟩
def k27 : Kd S27 := Kd.iso (Kd.pair Kd.string Kd.string) (fun x : S27 => (x.f0, x.f1))
theorem k27_open {w : World} {x : S27} {cs : List Value} (h : k27.K w x cs) : cs = [.string x.f0, .string x.f1] := by
  obtain ⟨_, _, rfl, rfl, rfl⟩ := h
  exact rfl
theorem k27_mk (w : World) (x : S27)  : k27.K w x [.string x.f0, .string x.f1] := ⟨[.string x.f0], [.string x.f1], rfl, rfl, rfl⟩
theorem k27_mkM (w : World) (base : Nat) (ok : Nat → Prop) (x : S27)  : k27.M w base ok x [.string x.f0, .string x.f1] := ⟨[.string x.f0], [.string x.f1], rfl, rfl, rfl⟩
def rd_T27 (xs : List S27) (i : Int) : S27 := xs.getD i.toNat z27
theorem at_T27 {w : World} {A : Option Addr} {n : Nat} {xs : List S27} (h : Kd.C k27 w A n xs) (i : Int) (h0 : 0 ≤ i) (h1 : i < n) : ∃ ad , A = some ad ∧ w.cell? (ad.add (i.toNat * 2)) = some (.string (rd_T27 xs i).f0) ∧ w.cell? ⟨(ad.add (i.toNat * 2)).block, (ad.add (i.toNat * 2)).off + 1, none⟩ = some (.string (rd_T27 xs i).f1) := by
  obtain ⟨ad, c, e, _, hK, hc0⟩ := Kd.C_get h z27 i h0 h1
  have hc : ∀ j u, c[j]? = some u → w.cell? (ad.add (i.toNat * 2 + j)) = some u := hc0
  obtain rfl := k27_open hK
  exact ⟨ad, e, hc 0 _ rfl, by rw [← add_field _ _ 1 (by omega)]; exact hc 1 _ rfl⟩
structure S36 where
  f0 : S27
  f1 : S27
  f2 : S27
def z36 : S36 := ⟨z27, z27, z27⟩
def k36 : Kd S36 := Kd.iso (Kd.pair k27 (Kd.pair k27 k27)) (fun x : S36 => (x.f0, x.f1, x.f2))
theorem k36_open {w : World} {x : S36} {cs : List Value} (h : k36.K w x cs) : cs = [.string x.f0.f0, .string x.f0.f1, .string x.f1.f0, .string x.f1.f1, .string x.f2.f0, .string x.f2.f1] := by
  obtain ⟨_, _, rfl, s0, ⟨_, _, rfl, s2, s4⟩⟩ := h
  obtain rfl := k27_open s0
  obtain rfl := k27_open s2
  obtain rfl := k27_open s4
  exact rfl
theorem k36_mkM (w : World) (base : Nat) (ok : Nat → Prop) (x : S36)  : k36.M w base ok x [.string x.f0.f0, .string x.f0.f1, .string x.f1.f0, .string x.f1.f1, .string x.f2.f0, .string x.f2.f1] := ⟨[.string x.f0.f0, .string x.f0.f1], [.string x.f1.f0, .string x.f1.f1, .string x.f2.f0, .string x.f2.f1], rfl, (k27_mkM w base ok x.f0 ), ⟨[.string x.f1.f0, .string x.f1.f1], [.string x.f2.f0, .string x.f2.f1], rfl, (k27_mkM w base ok x.f1 ), (k27_mkM w base ok x.f2 )⟩⟩
def rd_T36 (xs : List S36) (i : Int) : S36 := xs.getD i.toNat z36
theorem at_T36 {w : World} {A : Option Addr} {n : Nat} {xs : List S36} (h : Kd.C k36 w A n xs) (i : Int) (h0 : 0 ≤ i) (h1 : i < n) : ∃ ad , A = some ad ∧ w.cell? (ad.add (i.toNat * 6)) = some (.string (rd_T36 xs i).f0.f0) ∧ w.cell? ⟨(ad.add (i.toNat * 6)).block, (ad.add (i.toNat * 6)).off + 1, none⟩ = some (.string (rd_T36 xs i).f0.f1) ∧ w.cell? ⟨(ad.add (i.toNat * 6)).block, (ad.add (i.toNat * 6)).off + 2, none⟩ = some (.string (rd_T36 xs i).f1.f0) ∧ w.cell? ⟨(ad.add (i.toNat * 6)).block, (ad.add (i.toNat * 6)).off + 3, none⟩ = some (.string (rd_T36 xs i).f1.f1) ∧ w.cell? ⟨(ad.add (i.toNat * 6)).block, (ad.add (i.toNat * 6)).off + 4, none⟩ = some (.string (rd_T36 xs i).f2.f0) ∧ w.cell? ⟨(ad.add (i.toNat * 6)).block, (ad.add (i.toNat * 6)).off + 5, none⟩ = some (.string (rd_T36 xs i).f2.f1) := by
  obtain ⟨ad, c, e, _, hK, hc0⟩ := Kd.C_get h z36 i h0 h1
  have hc : ∀ j u, c[j]? = some u → w.cell? (ad.add (i.toNat * 6 + j)) = some u := hc0
  obtain rfl := k36_open hK
  exact ⟨ad, e, hc 0 _ rfl, by rw [← add_field _ _ 1 (by omega)]; exact hc 1 _ rfl, by rw [← add_field _ _ 2 (by omega)]; exact hc 2 _ rfl, by rw [← add_field _ _ 3 (by omega)]; exact hc 3 _ rfl, by rw [← add_field _ _ 4 (by omega)]; exact hc 4 _ rfl, by rw [← add_field _ _ 5 (by omega)]; exact hc 5 _ rfl⟩
structure S37 where
  f0 : S27
  f1 : S27
  f2 : S27
def z37 : S37 := ⟨z27, z27, z27⟩
abbrev zN := @pw_below_drewN
abbrev zD := @below_drew1
abbrev zA := @below_alloc
abbrev zS := @below_set
abbrev yN := @blk_drewN
abbrev yD := @blk_drew
abbrev yA := @blk_alloc
abbrev rA := @Kd.R_alloc
abbrev rN := @Kd.R_drewN
abbrev rD := @Kd.R_drew
abbrev cA := @Kd.C_alloc
abbrev cN := @Kd.C_drewN
abbrev cD := @Kd.C_drew
abbrev sI := @List.setIfInBounds_toArray
abbrev sZ := @List.set_cons_zero
abbrev sS := @List.set_cons_succ
abbrev sM := @List.map_toArray
abbrev sC := @List.map_cons
abbrev sN := @List.map_nil
abbrev aM {p : Prop} (h : p) : Aside0 p := ⟨h⟩
abbrev tT := true
abbrev fF := false
class Sf (W V : World) : Prop where k : Below W.heap.size W V
instance Sf.r (W : World) : Sf W W := ⟨Below.refl _ _⟩
instance Sf.n (W V : World) (n : Nat) [h : Sf W V] : Sf W (V.drewN n) := ⟨pw_below_drewN h.k n⟩
instance Sf.d (W V : World) [h : Sf W V] : Sf W V.drew := ⟨below_drew1 h.k⟩
instance Sf.a (W V : World) (o : Obj) [h : Sf W V] : Sf W (V.alloc o) := ⟨below_alloc h.k o⟩
class Sg (W V : World) (b : Nat) : Prop where
  s : W.heap.size ≤ V.heap.size
  k : ∀ g, g < W.heap.size → g ≠ b → V.heap[g]? = W.heap[g]?
  m : ∀ w : World, Below w.heap.size w W → w.heap.size ≤ b → Below w.heap.size w V
instance Sg.f (W V : World) (b : Nat) [h : Sf W V] : Sg W V b := ⟨h.k.size, fun g hg _ => h.k.block g hg, fun _ x _ => below_step x h.k⟩
instance Sg.w (W V : World) (b j : Nat) (v : Value) [h : Sg W V b] : Sg W (V.setCell ⟨b, j, none⟩ v) b :=
  ⟨by simpa using h.s, fun g hg hn => (Below.heap_setCell V ⟨b, j, none⟩ v g hn).trans (h.k g hg hn), fun w x hb => below_set (h.m w x hb) hb⟩
instance Sg.n (W V : World) (b n : Nat) [h : Sg W V b] : Sg W (V.drewN n) b := ⟨h.s, h.k, fun w x hb => pw_below_drewN (h.m w x hb) n⟩
instance Sg.d (W V : World) (b : Nat) [h : Sg W V b] : Sg W V.drew b := ⟨h.s, h.k, fun w x hb => below_drew1 (h.m w x hb)⟩
instance Sg.a (W V : World) (b : Nat) (o : Obj) [h : Sg W V b] : Sg W (V.alloc o) b :=
  ⟨Nat.le_trans h.s (by simp), fun g hg hn => (Below.heap_alloc V o g (Nat.lt_of_lt_of_le hg h.s)).trans (h.k g hg hn), fun w x hb => below_alloc (h.m w x hb) o⟩
section
variable {W V V2 w : World} {g b : Nat} {o : Obj}
theorem bk [s : Sf W V] (h : Aside0 (W.heap[g]? = some o)) : V.heap[g]? = some o := blk_below h.out s.k
theorem kb [s : Sf W V] (h : Aside0 (W.heap[g]? = some o)) (b : Below V.heap.size V V2) : Aside0 (V2.heap[g]? = some o) := ⟨blk_below (bk h) b⟩
theorem bb [s : Sf W V] (h : Aside0 (Below w.heap.size w W)) : Below w.heap.size w V := below_step h.out s.k
theorem bs [s : Sf W V] (h : Aside0 (Below w.heap.size w W)) (b : Below V.heap.size V V2) : Aside0 (Below w.heap.size w V2) := ⟨below_step (bb h) b⟩
theorem bg [s : Sg W V b] (h : Aside0 (Below w.heap.size w W)) (x : Aside0 (w.heap.size ≤ b)) : Below w.heap.size w V := s.m w h.out x.out
theorem wl [s : Sf W V] (e : g = V.heap.size) (h : Aside0 (Below w.heap.size w W)) : Aside0 (w.heap.size ≤ g) := ⟨e ▸ below_size (bb (V := V) h)⟩
theorem nl [s : Sf W V] (e : b = V.heap.size) (h : Aside0 (W.heap[g]? = some o)) : Aside0 (g ≠ b) := ⟨e ▸ Nat.ne_of_lt (blk_lt (bk (V := V) h))⟩
theorem nr [s : Sf W V] (e : b = V.heap.size) (h : Aside0 (W.heap[g]? = some o)) : Aside0 (b ≠ g) := ⟨(nl e h).out.symm⟩
theorem bf [s : Sg W V b] (h : Aside0 (W.heap[g]? = some o)) (x : Aside0 (g ≠ b)) : V.heap[g]? = some o := (s.k g (blk_lt h.out) x.out).trans h.out
theorem kf [s : Sg W V b] (h : Aside0 (W.heap[g]? = some o)) (x : Aside0 (g ≠ b)) (y : Below V.heap.size V V2) : Aside0 (V2.heap[g]? = some o) := ⟨blk_below (bf h x) y⟩
end
section
variable {α : Type} {d : Kd α} {e base n : Nat} {ok : Nat → Prop} {W V V2 : World} {v : Value} {xs : List α} {A : Option Addr} [s : Sf W V]
theorem rk (h : Aside0 (d.R e W base ok v xs)) : d.R e V base ok v xs := Kd.R_below h.out s.k
theorem ko (h : Aside0 (d.R e W base ok v xs)) (b : Below V.heap.size V V2) : Aside0 (d.R e V2 base ok v xs) := ⟨Kd.R_below (rk h) b⟩
end
theorem q1 {w : World} {g t : Nat} {x0 : Value} (h : Aside0 (w.heap[g]? = some (.cells #[x0] t (0, 0)))) : w.cell? ⟨g, 0, none⟩ = some x0 := (blk_cell h.out 0).trans rfl
theorem q2 {w : World} {g t : Nat} {x0 x1 : Value} (h : Aside0 (w.heap[g]? = some (.cells #[x0, x1] t (0, 0)))) : w.cell? ⟨g, 0, none⟩ = some x0 ∧ w.cell? ⟨g, 1, none⟩ = some x1 := ⟨(blk_cell h.out 0).trans rfl, (blk_cell h.out 1).trans rfl⟩
theorem q2f {w : World} {g t : Nat} {x0 x1 : Value} (h : Aside0 (w.heap[g]? = some (.cells #[x0, x1] t (0, 0)))) : w.cell? ⟨g, 0, none⟩ = some x0 ∧ w.cell? ⟨g, 1, none⟩ = some x1 ∧ w.frozen? ⟨g, 0, none⟩ = false ∧ w.frozen? ⟨g, 1, none⟩ = false := ⟨(blk_cell h.out 0).trans rfl, (blk_cell h.out 1).trans rfl, blk_frozen h.out 0, blk_frozen h.out 1⟩
theorem q3 {w : World} {g t : Nat} {x0 x1 x2 : Value} (h : Aside0 (w.heap[g]? = some (.cells #[x0, x1, x2] t (0, 0)))) : w.cell? ⟨g, 0, none⟩ = some x0 ∧ w.cell? ⟨g, 1, none⟩ = some x1 ∧ w.cell? ⟨g, 2, none⟩ = some x2 := ⟨(blk_cell h.out 0).trans rfl, (blk_cell h.out 1).trans rfl, (blk_cell h.out 2).trans rfl⟩
theorem q4 {w : World} {g t : Nat} {x0 x1 x2 x3 : Value} (h : Aside0 (w.heap[g]? = some (.cells #[x0, x1, x2, x3] t (0, 0)))) : w.cell? ⟨g, 0, none⟩ = some x0 ∧ w.cell? ⟨g, 1, none⟩ = some x1 ∧ w.cell? ⟨g, 2, none⟩ = some x2 ∧ w.cell? ⟨g, 3, none⟩ = some x3 := ⟨(blk_cell h.out 0).trans rfl, (blk_cell h.out 1).trans rfl, (blk_cell h.out 2).trans rfl, (blk_cell h.out 3).trans rfl⟩
theorem q5 {w : World} {g t : Nat} {x0 x1 x2 x3 x4 : Value} (h : Aside0 (w.heap[g]? = some (.cells #[x0, x1, x2, x3, x4] t (0, 0)))) : w.cell? ⟨g, 0, none⟩ = some x0 ∧ w.cell? ⟨g, 1, none⟩ = some x1 ∧ w.cell? ⟨g, 2, none⟩ = some x2 ∧ w.cell? ⟨g, 3, none⟩ = some x3 ∧ w.cell? ⟨g, 4, none⟩ = some x4 := ⟨(blk_cell h.out 0).trans rfl, (blk_cell h.out 1).trans rfl, (blk_cell h.out 2).trans rfl, (blk_cell h.out 3).trans rfl, (blk_cell h.out 4).trans rfl⟩
theorem q6 {w : World} {g t : Nat} {x0 x1 x2 x3 x4 x5 : Value} (h : Aside0 (w.heap[g]? = some (.cells #[x0, x1, x2, x3, x4, x5] t (0, 0)))) : w.cell? ⟨g, 0, none⟩ = some x0 ∧ w.cell? ⟨g, 1, none⟩ = some x1 ∧ w.cell? ⟨g, 2, none⟩ = some x2 ∧ w.cell? ⟨g, 3, none⟩ = some x3 ∧ w.cell? ⟨g, 4, none⟩ = some x4 ∧ w.cell? ⟨g, 5, none⟩ = some x5 := ⟨(blk_cell h.out 0).trans rfl, (blk_cell h.out 1).trans rfl, (blk_cell h.out 2).trans rfl, (blk_cell h.out 3).trans rfl, (blk_cell h.out 4).trans rfl, (blk_cell h.out 5).trans rfl⟩
theorem q6f {w : World} {g t : Nat} {x0 x1 x2 x3 x4 x5 : Value} (h : Aside0 (w.heap[g]? = some (.cells #[x0, x1, x2, x3, x4, x5] t (0, 0)))) : w.cell? ⟨g, 0, none⟩ = some x0 ∧ w.cell? ⟨g, 1, none⟩ = some x1 ∧ w.cell? ⟨g, 2, none⟩ = some x2 ∧ w.cell? ⟨g, 3, none⟩ = some x3 ∧ w.cell? ⟨g, 4, none⟩ = some x4 ∧ w.cell? ⟨g, 5, none⟩ = some x5 ∧ w.frozen? ⟨g, 0, none⟩ = false ∧ w.frozen? ⟨g, 1, none⟩ = false ∧ w.frozen? ⟨g, 2, none⟩ = false ∧ w.frozen? ⟨g, 3, none⟩ = false ∧ w.frozen? ⟨g, 4, none⟩ = false ∧ w.frozen? ⟨g, 5, none⟩ = false := ⟨(blk_cell h.out 0).trans rfl, (blk_cell h.out 1).trans rfl, (blk_cell h.out 2).trans rfl, (blk_cell h.out 3).trans rfl, (blk_cell h.out 4).trans rfl, (blk_cell h.out 5).trans rfl, blk_frozen h.out 0, blk_frozen h.out 1, blk_frozen h.out 2, blk_frozen h.out 3, blk_frozen h.out 4, blk_frozen h.out 5⟩
def laws_szSequence.f (a0_0:ByteArray) (a0_1:ByteArray) (a1:Int):Option (Int):=if (wrap64 (a1 - (a0_0.size:Int))) < 0 then (some (-1)) else (if (wrap64 ((wrap64 (a1 - (a0_0.size:Int))) - (a0_1.size:Int))) < 0 then (some (-1)) else (some (wrap64 ((wrap64 (a1 - (a0_0.size:Int))) - (a0_1.size:Int)))))
set_option maxHeartbeats 8000000 in
set_option maxRecDepth 100000 in
theorem laws_szSequence.calls (a0_0:ByteArray) (a0_1:ByteArray) (a1:Int) (r:Int) (w:World) (h:laws_szSequence.f a0_0 a0_1 a1 = some r) :
  Calls Try.prog 5 #[.agg #[.string a0_0,.string a0_1],.int .i64 a1] w fun e w'=>e = .returned (.int .i64 r) ∧ Below w.heap.size w w':=by
 have hu23:=Try.underlying23
 have HB:=aM (Below.refl w.heap.size w)
 have H:(if (wrap64 (a1 - (a0_0.size:Int))) < 0 then (some (-1)) else (if (wrap64 ((wrap64 (a1 - (a0_0.size:Int))) - (a0_1.size:Int))) < 0 then (some (-1)) else (some (wrap64 ((wrap64 (a1 - (a0_0.size:Int))) - (a0_1.size:Int)))))) = some r:=h
 clear h
 by_cases c3:(wrap64 (a1 - (a0_0.size:Int))) < 0
 ·rw [if_pos c3] at H
  have c3b0:decide ((wrap64 (a1 - (a0_0.size:Int))) < 0) = true:=decide_eq_true c3
  clear c3
  obtain rfl:=Option.some.inj H
  go_enter Try.func5,Try.ntmps5
  go_wp2_with (first|((with_reducible refine gate_dst (N:=2) rfl ?_);refine box_event ?hg (N:=2) ?hd (cs:=#[.string a0_0,.string a0_1]) (t:=23) ?hr ?_;(case hd=>rfl);(case hg=>rfl);(case hr=>first|(go_simp;done)|(go_simp;rfl));intro gb101 hg w4 hbox hb;have BK101:=aM (hbox);have GW101:=wl hg HB;have GE101:=wl hg HB;replace HB:=bs HB hb;clear hb hbox hg;have⟨a0,a1,b0,b1⟩:=q2f BK101))
  go_ret
  exact ⟨by first|rfl|(simp [errW_none,errW_some] <;> rfl)|(simp [*,errW_none,errW_some] <;> rfl),bb HB⟩
 ·rw [if_neg c3] at H
  have c3b0:decide ((wrap64 (a1 - (a0_0.size:Int))) < 0) = false:=decide_eq_false c3
  clear c3
  by_cases c6:(wrap64 ((wrap64 (a1 - (a0_0.size:Int))) - (a0_1.size:Int))) < 0
  ·rw [if_pos c6] at H
   have c6b0:decide ((wrap64 ((wrap64 (a1 - (a0_0.size:Int))) - (a0_1.size:Int))) < 0) = true:=decide_eq_true c6
   clear c6
   obtain rfl:=Option.some.inj H
   go_enter Try.func5,Try.ntmps5
   go_wp2_with (first|((with_reducible refine gate_dst (N:=2) rfl ?_);refine box_event ?hg (N:=2) ?hd (cs:=#[.string a0_0,.string a0_1]) (t:=23) ?hr ?_;(case hd=>rfl);(case hg=>rfl);(case hr=>first|(go_simp;done)|(go_simp;rfl));intro gb101 hg w7 hbox hb;have BK101:=aM (hbox);have GW101:=wl hg HB;have GE101:=wl hg HB;replace HB:=bs HB hb;clear hb hbox hg;have⟨a0,a1,b0,b1⟩:=q2f BK101))
   go_ret
   exact ⟨by first|rfl|(simp [errW_none,errW_some] <;> rfl)|(simp [*,errW_none,errW_some] <;> rfl),bb HB⟩
  ·rw [if_neg c6] at H
   have c6b0:decide ((wrap64 ((wrap64 (a1 - (a0_0.size:Int))) - (a0_1.size:Int))) < 0) = false:=decide_eq_false c6
   clear c6
   obtain rfl:=Option.some.inj H
   go_enter Try.func5,Try.ntmps5
   go_wp2_with (first|((with_reducible refine gate_dst (N:=2) rfl ?_);refine box_event ?hg (N:=2) ?hd (cs:=#[.string a0_0,.string a0_1]) (t:=23) ?hr ?_;(case hd=>rfl);(case hg=>rfl);(case hr=>first|(go_simp;done)|(go_simp;rfl));intro gb101 hg w9 hbox hb;have BK101:=aM (hbox);have GW101:=wl hg HB;have GE101:=wl hg HB;replace HB:=bs HB hb;clear hb hbox hg;have⟨a0,a1,b0,b1⟩:=q2f BK101))
   go_ret
   exact ⟨by first|rfl|(simp [errW_none,errW_some] <;> rfl)|(simp [*,errW_none,errW_some] <;> rfl),bb HB⟩
theorem eqA27 (d:Nat) (w:World) (x0 y0:ByteArray) (x1 y1:ByteArray) :
  (Op.equalIn (d + 2) 27 (.agg #[.string x0,.string x1]) (.agg #[.string y0,.string y1])).run Try.prog w = .ok (x0.toList == y0.toList && (x1.toList == y1.toList)) w:=by
 refine eqA_of Try.underlying27 (by kernel_rfl) ?_
 refine eqf_cons (by rfl) (by go_simp;rfl) (by go_simp;rfl) (by go_simp) ?_
 exact eqf_last (by rfl) (by go_simp;rfl) (by go_simp;rfl) (by go_simp)
mutual
def spec_l01Canonical.j2:Nat → ByteArray → ByteArray → Option (ByteArray × ByteArray)
 | 0,_,_=>none
 | k + 1,x0,x1=>spec_l01Canonical.l2 k x0 x1
def spec_l01Canonical.l2:Nat → ByteArray → ByteArray → Option (ByteArray × ByteArray)
 | 0,_,_=>none
 | k + 1,x0,x1=>if (x0.size:Int) > 0 then (if 0 ≤ (wrap64 ((x0.size:Int) - 1)) then (if (wrap64 ((x0.size:Int) - 1)) < (x0.size:Int) then (if 0 ≤ (wrap64 ((x1.size:Int) - 1)) then (if (wrap64 ((x1.size:Int) - 1)) < (x1.size:Int) then (if (bt x0 (wrap64 ((x0.size:Int) - 1))) = (bt x1 (wrap64 ((x1.size:Int) - 1))) then (if (wrap64 ((x1.size:Int) - 1)) ≤ (x1.size:Int) then (if (x1.extract ((wrap64 ((x1.size:Int) - 1)):Int).toNat x1.size).size + (x1.extract 0 ((wrap64 ((x1.size:Int) - 1)):Int).toNat).size ≤ 9223372036854775807 then (if (wrap64 ((x0.size:Int) - 1)) ≤ (x0.size:Int) then (spec_l01Canonical.l2 k (x0.extract 0 ((wrap64 ((x0.size:Int) - 1)):Int).toNat) ((x1.extract ((wrap64 ((x1.size:Int) - 1)):Int).toNat x1.size) ++ (x1.extract 0 ((wrap64 ((x1.size:Int) - 1)):Int).toNat))) else (none)) else (none)) else (none)) else (some (x0,x1))) else (none)) else (none)) else (none)) else (none)) else (some (x0,x1))
def spec_l01Canonical.l0:Nat → ByteArray → ByteArray → Int → Int → Option (ByteArray × ByteArray)
 | 0,_,_,_,_=>none
 | k + 1,x0,x1,x5,x6=>if x6 ≤ x5 then (if x6 = 0 then (none) else (if (Int.tmod x5 x6) = 0 then (spec_l01Canonical.l1 k x0 x1 x5 x6 true x6) else (spec_l01Canonical.l0 k x0 x1 x5 (wrap64 (x6 + 1))))) else (spec_l01Canonical.j2 k x0 x1)
def spec_l01Canonical.l1:Nat → ByteArray → ByteArray → Int → Int → Bool → Int → Option (ByteArray × ByteArray)
 | 0,_,_,_,_,_,_=>none
 | k + 1,x0,x1,x5,x6,x7,x8=>if x8 < x5 then (if x7 = true then (if 0 ≤ x8 then (if x8 < (x1.size:Int) then (if 0 ≤ (wrap64 (x8 - x6)) then (if (wrap64 (x8 - x6)) < (x1.size:Int) then (spec_l01Canonical.l1 k x0 x1 x5 x6 ((bt x1 x8) == (bt x1 (wrap64 (x8 - x6)))) (wrap64 (x8 + 1))) else (none)) else (none)) else (none)) else (none)) else (spec_l01Canonical.l1 k x0 x1 x5 x6 false (wrap64 (x8 + 1)))) else (if x7 = true then (if 0 ≤ x6 then (if x6 ≤ (x1.size:Int) then (spec_l01Canonical.j2 k x0 (x1.extract 0 (x6:Int).toNat)) else (none)) else (none)) else (spec_l01Canonical.l0 k x0 x1 x5 (wrap64 (x6 + 1))))
end
def spec_l01Canonical.f (k:Nat) (a0:ByteArray) (a1:ByteArray):Option (ByteArray × ByteArray):=spec_l01Canonical.l0 k a0 a1 (a1.size:Int) 1
theorem spec_l01Canonical.mono_l:∀ k,(∀ y0 y1,LeO (spec_l01Canonical.j2 k y0 y1) (spec_l01Canonical.j2 (k + 1) y0 y1)) ∧ (∀ y0 y1,LeO (spec_l01Canonical.l2 k y0 y1) (spec_l01Canonical.l2 (k + 1) y0 y1)) ∧ (∀ y0 y1 y2 y3,LeO (spec_l01Canonical.l0 k y0 y1 y2 y3) (spec_l01Canonical.l0 (k + 1) y0 y1 y2 y3)) ∧ (∀ y0 y1 y2 y3 y4 y5,LeO (spec_l01Canonical.l1 k y0 y1 y2 y3 y4 y5) (spec_l01Canonical.l1 (k + 1) y0 y1 y2 y3 y4 y5))
 | 0=>⟨fun _ _ r h=>by simp [spec_l01Canonical.j2] at h,fun _ _ r h=>by simp [spec_l01Canonical.l2] at h,fun _ _ _ _ r h=>by simp [spec_l01Canonical.l0] at h,fun _ _ _ _ _ _ r h=>by simp [spec_l01Canonical.l1] at h⟩
 | k + 1=>by
  obtain ⟨ih0,ih1,ih2,ih3⟩:=spec_l01Canonical.mono_l k
  refine ⟨?_,?_,?_,?_⟩
  ·intro y0 y1
   unfold spec_l01Canonical.j2
   repeat' first
   | (with_reducible exact ih0 _ _)
   | (with_reducible exact ih1 _ _)
   | (with_reducible exact ih2 _ _ _ _)
   | (with_reducible exact ih3 _ _ _ _ _ _)
   | (with_reducible exact LeO.refl _)
   | (with_reducible exact LeO.none _)
   | (with_reducible refine LeO.ite ?_ ?_)
   | (with_reducible refine LeO.bind ?_ (fun _=>?_))
   | exact ih0 _ _
   | exact ih1 _ _
   | exact ih2 _ _ _ _
   | exact ih3 _ _ _ _ _ _
   | exact LeO.none _
   | refine LeO.ite ?_ ?_
   | refine LeO.bind ?_ (fun _=>?_)
  ·intro y0 y1
   unfold spec_l01Canonical.l2
   repeat' first
   | (with_reducible exact ih0 _ _)
   | (with_reducible exact ih1 _ _)
   | (with_reducible exact ih2 _ _ _ _)
   | (with_reducible exact ih3 _ _ _ _ _ _)
   | (with_reducible exact LeO.refl _)
   | (with_reducible exact LeO.none _)
   | (with_reducible refine LeO.ite ?_ ?_)
   | (with_reducible refine LeO.bind ?_ (fun _=>?_))
   | exact ih0 _ _
   | exact ih1 _ _
   | exact ih2 _ _ _ _
   | exact ih3 _ _ _ _ _ _
   | exact LeO.none _
   | refine LeO.ite ?_ ?_
   | refine LeO.bind ?_ (fun _=>?_)
  ·intro y0 y1 y2 y3
   unfold spec_l01Canonical.l0
   repeat' first
   | (with_reducible exact ih0 _ _)
   | (with_reducible exact ih1 _ _)
   | (with_reducible exact ih2 _ _ _ _)
   | (with_reducible exact ih3 _ _ _ _ _ _)
   | (with_reducible exact LeO.refl _)
   | (with_reducible exact LeO.none _)
   | (with_reducible refine LeO.ite ?_ ?_)
   | (with_reducible refine LeO.bind ?_ (fun _=>?_))
   | exact ih0 _ _
   | exact ih1 _ _
   | exact ih2 _ _ _ _
   | exact ih3 _ _ _ _ _ _
   | exact LeO.none _
   | refine LeO.ite ?_ ?_
   | refine LeO.bind ?_ (fun _=>?_)
  ·intro y0 y1 y2 y3 y4 y5
   unfold spec_l01Canonical.l1
   repeat' first
   | (with_reducible exact ih0 _ _)
   | (with_reducible exact ih1 _ _)
   | (with_reducible exact ih2 _ _ _ _)
   | (with_reducible exact ih3 _ _ _ _ _ _)
   | (with_reducible exact LeO.refl _)
   | (with_reducible exact LeO.none _)
   | (with_reducible refine LeO.ite ?_ ?_)
   | (with_reducible refine LeO.bind ?_ (fun _=>?_))
   | exact ih0 _ _
   | exact ih1 _ _
   | exact ih2 _ _ _ _
   | exact ih3 _ _ _ _ _ _
   | exact LeO.none _
   | refine LeO.ite ?_ ?_
   | refine LeO.bind ?_ (fun _=>?_)
theorem spec_l01Canonical.mono:∀ a0 a1 k,LeO (spec_l01Canonical.f k a0 a1) (spec_l01Canonical.f (k + 1) a0 a1):=by
 intro a0 a1 k
 obtain ⟨ih0,ih1,ih2,ih3⟩:=spec_l01Canonical.mono_l k
 unfold spec_l01Canonical.f
 repeat' first
   | (with_reducible exact ih0 _ _)
   | (with_reducible exact ih1 _ _)
   | (with_reducible exact ih2 _ _ _ _)
   | (with_reducible exact ih3 _ _ _ _ _ _)
   | (with_reducible exact LeO.refl _)
   | (with_reducible exact LeO.none _)
   | (with_reducible refine LeO.ite ?_ ?_)
   | (with_reducible refine LeO.bind ?_ (fun _=>?_))
   | exact ih0 _ _
   | exact ih1 _ _
   | exact ih2 _ _ _ _
   | exact ih3 _ _ _ _ _ _
   | exact LeO.none _
   | refine LeO.ite ?_ ?_
   | refine LeO.bind ?_ (fun _=>?_)
set_option maxHeartbeats 8000000 in
set_option maxRecDepth 100000 in
theorem spec_l01Canonical.calls (k:Nat) (a0:ByteArray) (a1:ByteArray) (r1:ByteArray) (r2:ByteArray) (w:World) (h:spec_l01Canonical.f k a0 a1 = some (r1,r2)) :
  Calls Try.prog 31 #[.string a0,.string a1] w fun e w'=>e = .returned (.agg #[.string r1,.string r2]) ∧ Below w.heap.size w w':=by
 have hu27:=Try.underlying27
 have HB:=aM (Below.refl w.heap.size w)
 have H:(spec_l01Canonical.l0 k a0 a1 (a1.size:Int) 1) = some (r1,r2):=h
 clear h
 have HC3:=aM H
 clear H
 go_enter Try.func31,Try.ntmps31
 go_upto_block 0 with (first|((with_reducible refine gate_dst (N:=4) rfl ?_);(try (refine gate_guard (by rfl) ?_;dsimp only));refine box_event ?hg (N:=4) ?hd (cs:=#[.string ⟨#[]⟩,.string ⟨#[]⟩]) (t:=27) ?hr ?_;(case hd=>rfl);(case hg=>rfl);(case hr=>first|(go_simp;done)|(go_simp;rfl));intro gb102 hg w4 hbox hb;have BK102:=aM (hbox);have GW102:=wl hg HB;have GE102:=wl hg HB;replace HB:=bs HB hb;clear hb hbox hg))
 repeat (go_quiet (first|((with_reducible refine gate_dst (N:=4) rfl ?_);(try (refine gate_guard (by rfl) ?_;dsimp only));refine box_event ?hg (N:=4) ?hd (cs:=#[.string ⟨#[]⟩,.string ⟨#[]⟩]) (t:=27) ?hr ?_;(case hd=>rfl);(case hg=>rfl);(case hr=>first|(go_simp;done)|(go_simp;rfl));intro gb102 hg w4 hbox hb;have BK102:=aM (hbox);have GW102:=wl hg HB;have GE102:=wl hg HB;replace HB:=bs HB hb;clear hb hbox hg));go_upto_block 0 with (first|((with_reducible refine gate_dst (N:=4) rfl ?_);(try (refine gate_guard (by rfl) ?_;dsimp only));refine box_event ?hg (N:=4) ?hd (cs:=#[.string ⟨#[]⟩,.string ⟨#[]⟩]) (t:=27) ?hr ?_;(case hd=>rfl);(case hg=>rfl);(case hr=>first|(go_simp;done)|(go_simp;rfl));intro gb102 hg w4 hbox hb;have BK102:=aM (hbox);have GW102:=wl hg HB;have GE102:=wl hg HB;replace HB:=bs HB hb;clear hb hbox hg)))
 (try simp only [Act.put,sI,sZ,sS])
 go_cut [1] (fun v1 wc=>∃ (kq:Nat) (x1_2:ByteArray),v1 = .string x1_2 ∧ Aside0 (spec_l01Canonical.j2 kq a0 x1_2 = some (r1,r2)) ∧ Aside0 (kq ≤ k) ∧ Aside0 (wc.heap[gb102]? = some (.cells #[.string ⟨#[]⟩,.string ⟨#[]⟩] 27 (0,0))) ∧ Aside0 (Below w.heap.size w wc))
 case first =>
  have H:=HC3.out
  clear HC3
  have H':=aM H
  clear H
  go_wp2
  repeat (go_quiet (fail);try go_wp2)
  go_loopg [1,6] k (fun kq v1 v6 w'=>∃ (x1_1:ByteArray) (x6_1:Int),v1 = .string x1_1 ∧ v6 = .int .i64 x6_1 ∧ Aside0 (spec_l01Canonical.l0 kq a0 x1_1 (a1.size:Int) x6_1 = some (r1,r2)) ∧ Aside0 (kq ≤ k) ∧ Aside0 (w'.heap[gb102]? = some (.cells #[.string ⟨#[]⟩,.string ⟨#[]⟩] 27 (0,0))) ∧ Aside0 (Below w.heap.size w w'))
  case atStart=>exact ⟨(a1),(1),(by first|rfl|(simp;done)|(simp [*];done)),(by first|rfl|(simp;done)|(simp [*];done)),H',⟨Nat.le_refl _⟩,⟨bk BK102⟩,⟨bb HB⟩⟩
  case round =>
   clear H'
   try clear p2
   try clear c3
   obtain ⟨x1_1,x6_1,rfl,rfl,HA,HK1,BK102,HB⟩:=hrel
   cases gk with
   | zero=>exact absurd HA.out (by simp [spec_l01Canonical.l0])
   | succ k1 =>
    have H:=HA.out
    clear HA
    simp only [spec_l01Canonical.l0] at H
    by_cases c5:x6_1 ≤ (a1.size:Int)
    ·rw [if_pos c5] at H
     have c5b0:decide (x6_1 ≤ (a1.size:Int)) = true:=decide_eq_true c5
     clear c5
     (first|rw [c5b0]|(simp only [i64_w,i32_w];rw [c5b0])|skip)
     by_cases c6:x6_1 = 0
     ·rw [if_pos c6] at H
      exact absurd H (by simp)
     ·rw [if_neg c6] at H
      have c6b0:(x6_1 == 0) = false:=beq_eq_false_iff_ne.mpr c6
      have c6b1:(x6_1 != 0) = true:=bne_iff_ne.mpr c6
      have c7t:=Int.tmod_eq_emod_of_nonneg (a:=(a1.size:Int)) (b:=x6_1) (by omega)
      by_cases c7:(Int.tmod (a1.size:Int) x6_1) = 0
      ·rw [if_pos c7] at H
       have c7b0:((Int.tmod (a1.size:Int) x6_1) == 0) = true:=beq_iff_eq.mpr c7
       have c7b1:((Int.tmod (a1.size:Int) x6_1) != 0) = false:=bne_eq_false_iff_eq.mpr c7
       try (have c7u:=c7b0;rw [c7t] at c7u;have c7v:=c7b1;rw [c7t] at c7v)
       clear c7
       have H':=aM H
       clear H
       go_wp2
       repeat (go_quiet (fail);try go_wp2)
       go_loopg [7,8] k1 (fun kq v7 v8 w'=>∃ (x7_2:Bool) (x8_2:Int),v7 = .bool x7_2 ∧ v8 = .int .i64 x8_2 ∧ Aside0 (spec_l01Canonical.l1 kq a0 x1_1 (a1.size:Int) x6_1 x7_2 x8_2 = some (r1,r2)) ∧ Aside0 (kq ≤ k1) ∧ Aside0 (w'.heap[gb102]? = some (.cells #[.string ⟨#[]⟩,.string ⟨#[]⟩] 27 (0,0))) ∧ Aside0 (Below w.heap.size w w'))
       case atStart=>exact ⟨(true),(x6_1),(by first|rfl|(simp;done)|(simp [*];done)),(by first|rfl|(simp;done)|(simp [*];done)),H',⟨Nat.le_refl _⟩,⟨bk BK102⟩,⟨bb HB⟩⟩
       case round =>
        clear H'
        try clear p2
        try clear c3
        try clear c5
        try clear c5b0
        try clear c6
        try clear c6b0
        try clear c6b1
        try clear c7
        try clear c7b0
        try clear c7b1
        try clear p2
        obtain ⟨x7_2,x8_2,rfl,rfl,HA,HK2,BK102,HB⟩:=hrel
        cases gk with
        | zero=>exact absurd HA.out (by simp [spec_l01Canonical.l1])
        | succ k2 =>
         have H:=HA.out
         clear HA
         simp only [spec_l01Canonical.l1] at H
         by_cases c8:x8_2 < (a1.size:Int)
         ·rw [if_pos c8] at H
          have c8b0:decide (x8_2 < (a1.size:Int)) = true:=decide_eq_true c8
          clear c8
          by_cases c9:x7_2 = true
          ·subst c9
           have H1:(if 0 ≤ x8_2 then (if x8_2 < (x1_1.size:Int) then (if 0 ≤ (wrap64 (x8_2 - x6_1)) then (if (wrap64 (x8_2 - x6_1)) < (x1_1.size:Int) then (spec_l01Canonical.l1 k2 a0 x1_1 (a1.size:Int) x6_1 ((bt x1_1 x8_2) == (bt x1_1 (wrap64 (x8_2 - x6_1)))) (wrap64 (x8_2 + 1))) else (none)) else (none)) else (none)) else (none)) = some (r1,r2):=by rw [if_pos rfl] at H;exact H
           clear H
           have H:=H1
           clear H1
           by_cases c10:0 ≤ x8_2
           ·rw [if_pos c10] at H
            have c10b0:decide (0 ≤ x8_2) = true:=decide_eq_true c10
            clear c10
            by_cases c11:x8_2 < (x1_1.size:Int)
            ·rw [if_pos c11] at H
             have c11b0:decide (x8_2 < (x1_1.size:Int)) = true:=decide_eq_true c11
             clear c11
             obtain ⟨ji13,hji13⟩:∃ j_:Int,(wrap64 (x8_2 - x6_1)) = j_:=⟨_,rfl⟩
             replace H:(if 0 ≤ (ji13) then (if (ji13) < (x1_1.size:Int) then (spec_l01Canonical.l1 k2 a0 x1_1 (a1.size:Int) x6_1 ((bt x1_1 x8_2) == (bt x1_1 (ji13))) (wrap64 (x8_2 + 1))) else (none)) else (none)) = some (r1,r2):=by first|(rw [hji13] at H;exact H)|(simp only [hji13] at H ⊢;exact H)
             have hji13w:(IntKind.i64.wrap (x8_2 - x6_1)) = ji13:=(i64_w _).trans hji13
             by_cases c14:0 ≤ (ji13)
             ·rw [if_pos c14] at H
              have c14b0:decide (0 ≤ (ji13)) = true:=decide_eq_true c14
              clear c14
              by_cases c15:(ji13) < (x1_1.size:Int)
              ·rw [if_pos c15] at H
               have c15b0:decide ((ji13) < (x1_1.size:Int)) = true:=decide_eq_true c15
               clear c15
               have H':=aM H
               clear H
               have p12:0 ≤ (x8_2:Int):=of_decide_eq_true (by first|(with_reducible assumption)|assumption)
               have q12:x8_2 < (x1_1.size:Int):=of_decide_eq_true (by first|(with_reducible assumption)|assumption)
               have hx12:=bt_at x1_1 x8_2
               replace p12:=eq_true p12;replace q12:=eq_true q12
               have p16:0 ≤ ((ji13):Int):=of_decide_eq_true (by first|(with_reducible assumption)|assumption)
               have q16:(ji13) < (x1_1.size:Int):=of_decide_eq_true (by first|(with_reducible assumption)|assumption)
               have hx16:=bt_at x1_1 (ji13)
               replace p16:=eq_true p16;replace q16:=eq_true q16
               go_wp2
               repeat (go_quiet (fail);try go_wp2)
               go_roundg k2
               case measure=>have:=HK1.out;have:=HK2.out;omega
               case rel=>exact ⟨(((bt x1_1 x8_2) == (bt x1_1 (ji13)))),(wrap64 (x8_2 + 1)),(by first|rfl|(simp;done)|(simp only [← hji13] <;> (first|rfl|simp))|(simp [*];done)),(by first|rfl|(simp;done)|(simp [*];done)),H',⟨by have:=HK1.out;have:=HK2.out;omega⟩,⟨bk BK102⟩,⟨bb HB⟩⟩
              ·rw [if_neg c15] at H
               exact absurd H (by simp)
             ·rw [if_neg c14] at H
              exact absurd H (by simp)
            ·rw [if_neg c11] at H
             exact absurd H (by simp)
           ·rw [if_neg c10] at H
            exact absurd H (by simp)
          ·replace c9:=Bool.eq_false_iff.mpr c9
           subst c9
           have H1:(spec_l01Canonical.l1 k2 a0 x1_1 (a1.size:Int) x6_1 false (wrap64 (x8_2 + 1))) = some (r1,r2):=by rw [if_neg (show ¬ (false = true) by decide)] at H;exact H
           clear H
           have H:=H1
           clear H1
           have H':=aM H
           clear H
           go_wp2
           repeat (go_quiet (fail);try go_wp2)
           go_roundg k2
           case measure=>have:=HK1.out;have:=HK2.out;omega
           case rel=>exact ⟨(false),(wrap64 (x8_2 + 1)),(by first|rfl|(simp;done)|(simp [*];done)),(by first|rfl|(simp;done)|(simp [*];done)),H',⟨by have:=HK1.out;have:=HK2.out;omega⟩,⟨bk BK102⟩,⟨bb HB⟩⟩
         ·rw [if_neg c8] at H
          have c8b0:decide (x8_2 < (a1.size:Int)) = false:=decide_eq_false c8
          clear c8
          by_cases c17:x7_2 = true
          ·subst c17
           have H1:(if 0 ≤ x6_1 then (if x6_1 ≤ (x1_1.size:Int) then (spec_l01Canonical.j2 k2 a0 (x1_1.extract 0 (x6_1:Int).toNat)) else (none)) else (none)) = some (r1,r2):=by rw [if_pos rfl] at H;exact H
           clear H
           have H:=H1
           clear H1
           by_cases c18:0 ≤ x6_1
           ·rw [if_pos c18] at H
            have c18b0:=eq_true c18
            have c18b1:decide (0 ≤ x6_1) = true:=decide_eq_true c18
            clear c18
            by_cases c19:x6_1 ≤ (x1_1.size:Int)
            ·rw [if_pos c19] at H
             have c19b0:=eq_true c19
             have c19b1:decide (x6_1 ≤ (x1_1.size:Int)) = true:=decide_eq_true c19
             clear c19
             have H':=aM H
             clear H
             go_wp2
             repeat (go_quiet (fail);try go_wp2)
             go_meet
             case rel=>exact ⟨_,(x1_1.extract 0 (x6_1:Int).toNat),(by first|rfl|(simp;done)|(simp [*];done)),H',⟨by have:=HK1.out;have:=HK2.out;first|omega|exact Nat.le_refl _⟩,⟨bk BK102⟩,⟨bb HB⟩⟩
            ·rw [if_neg c19] at H
             exact absurd H (by simp)
           ·rw [if_neg c18] at H
            exact absurd H (by simp)
          ·replace c17:=Bool.eq_false_iff.mpr c17
           subst c17
           have H1:(spec_l01Canonical.l0 k2 a0 x1_1 (a1.size:Int) (wrap64 (x6_1 + 1))) = some (r1,r2):=by rw [if_neg (show ¬ (false = true) by decide)] at H;exact H
           clear H
           have H:=H1
           clear H1
           have H':=aM H
           clear H
           go_wp2
           repeat (go_quiet (fail);try go_wp2)
           go_roundg k2
           case measure=>have:=HK1.out;have:=HK2.out;omega
           case rel=>exact ⟨(x1_1),(wrap64 (x6_1 + 1)),(by first|rfl|(simp;done)|(simp [*];done)),(by first|rfl|(simp;done)|(simp [*];done)),H',⟨by have:=HK1.out;have:=HK2.out;omega⟩,⟨bk BK102⟩,⟨bb HB⟩⟩
      ·rw [if_neg c7] at H
       have c7b0:((Int.tmod (a1.size:Int) x6_1) == 0) = false:=beq_eq_false_iff_ne.mpr c7
       have c7b1:((Int.tmod (a1.size:Int) x6_1) != 0) = true:=bne_iff_ne.mpr c7
       try (have c7u:=c7b0;rw [c7t] at c7u;have c7v:=c7b1;rw [c7t] at c7v)
       have H':=aM H
       clear H
       go_wp2
       repeat (go_quiet (fail);try go_wp2)
       go_roundg k1
       case measure=>have:=HK1.out;omega
       case rel=>exact ⟨(x1_1),(wrap64 (x6_1 + 1)),(by first|rfl|(simp;done)|(simp [*];done)),(by first|rfl|(simp;done)|(simp [*];done)),H',⟨by have:=HK1.out;omega⟩,⟨bk BK102⟩,⟨bb HB⟩⟩
    ·rw [if_neg c5] at H
     have c5b0:decide (x6_1 ≤ (a1.size:Int)) = false:=decide_eq_false c5
     clear c5
     (first|rw [c5b0]|(simp only [i64_w,i32_w];rw [c5b0])|skip)
     have H':=aM H
     clear H
     go_wp2
     repeat (go_quiet (fail);try go_wp2)
     go_meet
     case rel=>exact ⟨_,(x1_1),(by first|rfl|(simp;done)|(simp [*];done)),H',⟨by have:=HK1.out;first|omega|exact Nat.le_refl _⟩,⟨bk BK102⟩,⟨bb HB⟩⟩
 case rest =>
  clear HC3
  try clear c1
  try clear p1
  try clear q1
  try clear hx1
  try clear p2
  try clear c3
  try clear c5
  try clear c5b0
  try clear c6
  try clear c6b0
  try clear c6b1
  try clear p6
  try clear c7
  try clear c7b0
  try clear c7b1
  try clear c8
  try clear c8b0
  try clear c9
  try clear c10
  try clear c10b0
  try clear c11
  try clear c11b0
  try clear p12
  try clear q12
  try clear hx12
  try clear c14
  try clear c14b0
  try clear c15
  try clear c15b0
  try clear p16
  try clear q16
  try clear hx16
  try clear c17
  try clear c18
  try clear c18b0
  try clear c18b1
  try clear c19
  try clear c19b0
  try clear c19b1
  try clear p12
  try clear p16
  try clear p2
  try clear q12
  try clear q16
  obtain ⟨kq,x1_2,rfl,HA,HJ2,BK102,HB⟩:=hcut
  cases kq with
  | zero=>exact absurd HA.out (by simp [spec_l01Canonical.j2])
  | succ kj2 =>
   have H:=HA.out
   clear HA
   simp only [spec_l01Canonical.j2] at H
   have H':=aM H
   clear H
   go_wp2
   repeat (go_quiet (fail);try go_wp2)
   go_loopg [0,1] kj2 (fun kq v0 v1 w'=>∃ (x0_2:ByteArray) (x1_2:ByteArray),v0 = .string x0_2 ∧ v1 = .string x1_2 ∧ Aside0 (spec_l01Canonical.l2 kq x0_2 x1_2 = some (r1,r2)) ∧ Aside0 (kq ≤ kj2) ∧ Aside0 (w'.heap[gb102]? = some (.cells #[.string ⟨#[]⟩,.string ⟨#[]⟩] 27 (0,0))) ∧ Aside0 (Below w.heap.size w w'))
   case atStart=>exact ⟨(a0),(x1_2),(by first|rfl|(simp;done)|(simp [*];done)),(by first|rfl|(simp;done)|(simp [*];done)),H',⟨Nat.le_refl _⟩,⟨bk BK102⟩,⟨bb HB⟩⟩
   case round =>
    clear H'
    try clear c1
    try clear p1
    try clear q1
    try clear hx1
    try clear p2
    try clear c3
    try clear c5
    try clear c5b0
    try clear c6
    try clear c6b0
    try clear c6b1
    try clear p6
    try clear c7
    try clear c7b0
    try clear c7b1
    try clear c8
    try clear c8b0
    try clear c9
    try clear c10
    try clear c10b0
    try clear c11
    try clear c11b0
    try clear p12
    try clear q12
    try clear hx12
    try clear c14
    try clear c14b0
    try clear c15
    try clear c15b0
    try clear p16
    try clear q16
    try clear hx16
    try clear c17
    try clear c18
    try clear c18b0
    try clear c18b1
    try clear c19
    try clear c19b0
    try clear c19b1
    try clear p1
    try clear p12
    try clear p16
    try clear p2
    try clear p6
    try clear q1
    try clear q12
    try clear q16
    obtain ⟨x0_2,x1_2,rfl,rfl,HA,HK2,BK102,HB⟩:=hrel
    cases gk with
    | zero=>exact absurd HA.out (by simp [spec_l01Canonical.l2])
    | succ k2 =>
     have H:=HA.out
     clear HA
     simp only [spec_l01Canonical.l2] at H
     by_cases c20:(x0_2.size:Int) > 0
     ·rw [if_pos c20] at H
      have c20b0:decide (0 < (x0_2.size:Int)) = true:=decide_eq_true c20
      have c20b1:decide (0 < x0_2.size) = true:=decide_eq_true (by omega)
      clear c20
      obtain ⟨ji21,hji21⟩:∃ j_:Int,(wrap64 ((x0_2.size:Int) - 1)) = j_:=⟨_,rfl⟩
      replace H:(if 0 ≤ (ji21) then (if (ji21) < (x0_2.size:Int) then (if 0 ≤ (wrap64 ((x1_2.size:Int) - 1)) then (if (wrap64 ((x1_2.size:Int) - 1)) < (x1_2.size:Int) then (if (bt x0_2 (ji21)) = (bt x1_2 (wrap64 ((x1_2.size:Int) - 1))) then (if (wrap64 ((x1_2.size:Int) - 1)) ≤ (x1_2.size:Int) then (if (x1_2.extract ((wrap64 ((x1_2.size:Int) - 1)):Int).toNat x1_2.size).size + (x1_2.extract 0 ((wrap64 ((x1_2.size:Int) - 1)):Int).toNat).size ≤ 9223372036854775807 then (if (ji21) ≤ (x0_2.size:Int) then (spec_l01Canonical.l2 k2 (x0_2.extract 0 ((ji21):Int).toNat) ((x1_2.extract ((wrap64 ((x1_2.size:Int) - 1)):Int).toNat x1_2.size) ++ (x1_2.extract 0 ((wrap64 ((x1_2.size:Int) - 1)):Int).toNat))) else (none)) else (none)) else (none)) else (some (x0_2,x1_2))) else (none)) else (none)) else (none)) else (none)) = some (r1,r2):=by first|(rw [hji21] at H;exact H)|(simp only [hji21] at H ⊢;exact H)
      have hji21w:(IntKind.i64.wrap ((x0_2.size:Int) - 1)) = ji21:=(i64_w _).trans hji21
      by_cases c22:0 ≤ (ji21)
      ·rw [if_pos c22] at H
       have c22b0:decide (0 ≤ (ji21)) = true:=decide_eq_true c22
       clear c22
       by_cases c23:(ji21) < (x0_2.size:Int)
       ·rw [if_pos c23] at H
        have c23b0:decide ((ji21) < (x0_2.size:Int)) = true:=decide_eq_true c23
        clear c23
        obtain ⟨ji25,hji25⟩:∃ j_:Int,(wrap64 ((x1_2.size:Int) - 1)) = j_:=⟨_,rfl⟩
        replace H:(if 0 ≤ (ji25) then (if (ji25) < (x1_2.size:Int) then (if (bt x0_2 (ji21)) = (bt x1_2 (ji25)) then (if (ji25) ≤ (x1_2.size:Int) then (if (x1_2.extract ((ji25):Int).toNat x1_2.size).size + (x1_2.extract 0 ((ji25):Int).toNat).size ≤ 9223372036854775807 then (if (ji21) ≤ (x0_2.size:Int) then (spec_l01Canonical.l2 k2 (x0_2.extract 0 ((ji21):Int).toNat) ((x1_2.extract ((ji25):Int).toNat x1_2.size) ++ (x1_2.extract 0 ((ji25):Int).toNat))) else (none)) else (none)) else (none)) else (some (x0_2,x1_2))) else (none)) else (none)) = some (r1,r2):=by first|(rw [hji25] at H;exact H)|(simp only [hji25] at H ⊢;exact H)
        have hji25w:(IntKind.i64.wrap ((x1_2.size:Int) - 1)) = ji25:=(i64_w _).trans hji25
        by_cases c26:0 ≤ (ji25)
        ·rw [if_pos c26] at H
         have c26b0:decide (0 ≤ (ji25)) = true:=decide_eq_true c26
         clear c26
         by_cases c27:(ji25) < (x1_2.size:Int)
         ·rw [if_pos c27] at H
          have c27b0:decide ((ji25) < (x1_2.size:Int)) = true:=decide_eq_true c27
          clear c27
          by_cases c29:(bt x0_2 (ji21)) = (bt x1_2 (ji25))
          ·rw [if_pos c29] at H
           have c29b0:((bt x0_2 (ji21)) == (bt x1_2 (ji25))) = true:=beq_iff_eq.mpr c29
           have c29b1:((bt x0_2 (ji21)) != (bt x1_2 (ji25))) = false:=bne_eq_false_iff_eq.mpr c29
           clear c29
           have c30b0:=eq_true (of_decide_eq_true (by first|(with_reducible assumption)|assumption):0 ≤ (ji25))
           by_cases c31:(ji25) ≤ (x1_2.size:Int)
           ·rw [if_pos c31] at H
            have c31b0:=eq_true c31
            have c31b1:decide ((ji25) ≤ (x1_2.size:Int)) = true:=decide_eq_true c31
            clear c31
            have c32b0:=eq_true (of_decide_eq_true (by first|(with_reducible assumption)|assumption):0 ≤ (ji25))
            have c33b0:=eq_true (of_decide_eq_true (by first|(with_reducible assumption)|assumption):(ji25) ≤ (x1_2.size:Int))
            by_cases c34:(x1_2.extract ((ji25):Int).toNat x1_2.size).size + (x1_2.extract 0 ((ji25):Int).toNat).size ≤ 9223372036854775807
            ·rw [if_pos c34] at H
             have c34b0:=eq_true c34
             have c34b1:decide ((x1_2.extract ((ji25):Int).toNat x1_2.size).size + (x1_2.extract 0 ((ji25):Int).toNat).size ≤ 9223372036854775807) = true:=decide_eq_true c34
             try have c34b2:(9223372036854775807 < (x1_2.extract ((ji25):Int).toNat x1_2.size).size + (x1_2.extract 0 ((ji25):Int).toNat).size) = False:=eq_false (Nat.not_lt.2 c34)
             try (have c34b3:=c34;simp at c34b3;have c34b4:=eq_false (Nat.not_lt.2 c34b3))
             have c35b0:=eq_true (of_decide_eq_true (by first|(with_reducible assumption)|assumption):0 ≤ (ji21))
             by_cases c36:(ji21) ≤ (x0_2.size:Int)
             ·rw [if_pos c36] at H
              have c36b0:=eq_true c36
              have c36b1:decide ((ji21) ≤ (x0_2.size:Int)) = true:=decide_eq_true c36
              clear c36
              have H':=aM H
              clear H
              have p24:0 ≤ ((ji21):Int):=of_decide_eq_true (by first|(with_reducible assumption)|assumption)
              have q24:(ji21) < (x0_2.size:Int):=of_decide_eq_true (by first|(with_reducible assumption)|assumption)
              have hx24:=bt_at x0_2 (ji21)
              replace p24:=eq_true p24;replace q24:=eq_true q24
              have p28:0 ≤ ((ji25):Int):=of_decide_eq_true (by first|(with_reducible assumption)|assumption)
              have q28:(ji25) < (x1_2.size:Int):=of_decide_eq_true (by first|(with_reducible assumption)|assumption)
              have hx28:=bt_at x1_2 (ji25)
              replace p28:=eq_true p28;replace q28:=eq_true q28
              go_wp2
              repeat (go_quiet (fail);try go_wp2)
              go_roundg k2
              case measure=>have:=HJ2.out;have:=HK2.out;omega
              case rel=>exact ⟨(x0_2.extract 0 ((ji21):Int).toNat),((x1_2.extract ((ji25):Int).toNat x1_2.size) ++ (x1_2.extract 0 ((ji25):Int).toNat)),(by first|rfl|(simp;done)|(simp only [← hji21] <;> (first|rfl|simp))|(simp [*];done)),(by first|rfl|(simp;done)|(simp only [← hji25] <;> (first|rfl|simp))|(simp [*];done)),H',⟨by have:=HJ2.out;have:=HK2.out;omega⟩,⟨bk BK102⟩,⟨bb HB⟩⟩
             ·rw [if_neg c36] at H
              exact absurd H (by simp)
            ·rw [if_neg c34] at H
             exact absurd H (by simp)
           ·rw [if_neg c31] at H
            exact absurd H (by simp)
          ·rw [if_neg c29] at H
           have c29b0:((bt x0_2 (ji21)) == (bt x1_2 (ji25))) = false:=beq_eq_false_iff_ne.mpr c29
           have c29b1:((bt x0_2 (ji21)) != (bt x1_2 (ji25))) = true:=bne_iff_ne.mpr c29
           simp only [Option.some.injEq,Prod.mk.injEq] at H
           obtain ⟨rfl,rfl⟩:=H
           have p24:0 ≤ ((ji21):Int):=of_decide_eq_true (by first|(with_reducible assumption)|assumption)
           have q24:(ji21) < (x0_2.size:Int):=of_decide_eq_true (by first|(with_reducible assumption)|assumption)
           have hx24:=bt_at x0_2 (ji21)
           replace p24:=eq_true p24;replace q24:=eq_true q24
           have p28:0 ≤ ((ji25):Int):=of_decide_eq_true (by first|(with_reducible assumption)|assumption)
           have q28:(ji25) < (x1_2.size:Int):=of_decide_eq_true (by first|(with_reducible assumption)|assumption)
           have hx28:=bt_at x1_2 (ji25)
           replace p28:=eq_true p28;replace q28:=eq_true q28;have⟨a0,a1,b0,b1⟩:=q2f BK102
           go_wp2
           repeat (go_quiet (fail);try go_wp2)
           refine bodyPost_ret (results_cell_row rfl _ _ gb102 27 #[.string x0_2,.string x1_2] (0,0) _ rfl (by (with_reducible repeat (first|apply yN|apply yD|apply yA));refine blk_put (cs:=#[.string x0_2,.string ⟨#[]⟩]) ?_ 1 _ rfl;(with_reducible repeat (first|apply yN|apply yD|apply yA));refine blk_put (cs:=#[.string ⟨#[]⟩,.string ⟨#[]⟩]) ?_ 0 _ rfl;(with_reducible repeat (first|apply yN|apply yD|apply yA));exact BK102.out) Try.underlying27 rfl (by kernel_rfl)) rfl ?_
           exact ⟨by first|rfl|(simp [errW_none,errW_some] <;> rfl)|(simp only [← hji21,← hji25];first|rfl|(simp [errW_none,errW_some] <;> rfl))|(simp [*,errW_none,errW_some] <;> rfl),by first|exact bb HB|exact bg HB GE102⟩
         ·rw [if_neg c27] at H
          exact absurd H (by simp)
        ·rw [if_neg c26] at H
         exact absurd H (by simp)
       ·rw [if_neg c23] at H
        exact absurd H (by simp)
      ·rw [if_neg c22] at H
       exact absurd H (by simp)
     ·rw [if_neg c20] at H
      have c20b0:decide (0 < (x0_2.size:Int)) = false:=decide_eq_false c20
      have c20b1:decide (0 < x0_2.size) = false:=decide_eq_false (by omega)
      clear c20
      simp only [Option.some.injEq,Prod.mk.injEq] at H
      obtain ⟨rfl,rfl⟩:=H
      have⟨a0,a1,b0,b1⟩:=q2f BK102
      go_wp2
      repeat (go_quiet (fail);try go_wp2)
      refine bodyPost_ret (results_cell_row rfl _ _ gb102 27 #[.string x0_2,.string x1_2] (0,0) _ rfl (by (with_reducible repeat (first|apply yN|apply yD|apply yA));refine blk_put (cs:=#[.string x0_2,.string ⟨#[]⟩]) ?_ 1 _ rfl;(with_reducible repeat (first|apply yN|apply yD|apply yA));refine blk_put (cs:=#[.string ⟨#[]⟩,.string ⟨#[]⟩]) ?_ 0 _ rfl;(with_reducible repeat (first|apply yN|apply yD|apply yA));exact BK102.out) Try.underlying27 rfl (by kernel_rfl)) rfl ?_
      exact ⟨by first|rfl|(simp [errW_none,errW_some] <;> rfl)|(simp [*,errW_none,errW_some] <;> rfl),by first|exact bb HB|exact bg HB GE102⟩
def spec_l01Letters.l0:Nat → ByteArray → Int → Option (Bool)
 | 0,_,_=>none
 | k + 1,x0,x3=>if x3 < (x0.size:Int) then (if 0 ≤ x3 then (if (bt x0 x3) = 48 then (spec_l01Letters.l0 k x0 (wrap64 (x3 + 1))) else (if (bt x0 x3) = 49 then (spec_l01Letters.l0 k x0 (wrap64 (x3 + 1))) else (if (bt x0 x3) = 42 then (spec_l01Letters.l0 k x0 (wrap64 (x3 + 1))) else (some false)))) else (none)) else (some true)
def spec_l01Letters.f (k:Nat) (a0:ByteArray):Option (Bool):=spec_l01Letters.l0 k a0 0
theorem spec_l01Letters.mono_l:∀ k,(∀ y0 y1,LeO (spec_l01Letters.l0 k y0 y1) (spec_l01Letters.l0 (k + 1) y0 y1))
 | 0=>fun _ _ r h=>by simp [spec_l01Letters.l0] at h
 | k + 1=>by
  have ih0:=spec_l01Letters.mono_l k
  ·intro y0 y1
   unfold spec_l01Letters.l0
   repeat' first
   | (with_reducible exact ih0 _ _)
   | (with_reducible exact LeO.refl _)
   | (with_reducible exact LeO.none _)
   | (with_reducible refine LeO.ite ?_ ?_)
   | (with_reducible refine LeO.bind ?_ (fun _=>?_))
   | exact ih0 _ _
   | exact LeO.none _
   | refine LeO.ite ?_ ?_
   | refine LeO.bind ?_ (fun _=>?_)
theorem spec_l01Letters.mono:∀ a0 k,LeO (spec_l01Letters.f k a0) (spec_l01Letters.f (k + 1) a0):=by
 intro a0 k
 have ih0:=spec_l01Letters.mono_l k
 unfold spec_l01Letters.f
 repeat' first
   | (with_reducible exact ih0 _ _)
   | (with_reducible exact LeO.refl _)
   | (with_reducible exact LeO.none _)
   | (with_reducible refine LeO.ite ?_ ?_)
   | (with_reducible refine LeO.bind ?_ (fun _=>?_))
   | exact ih0 _ _
   | exact LeO.none _
   | refine LeO.ite ?_ ?_
   | refine LeO.bind ?_ (fun _=>?_)
set_option maxHeartbeats 8000000 in
set_option maxRecDepth 100000 in
theorem spec_l01Letters.calls (k:Nat) (a0:ByteArray) (r:Bool) (w:World) (h:spec_l01Letters.f k a0 = some r) :
  Calls Try.prog 39 #[.string a0] w fun e w'=>e = .returned (.bool r) ∧ Drawn0 w w':=by
 have H:(spec_l01Letters.l0 k a0 0) = some r:=h
 clear h
 have H':=aM H
 clear H
 go_enter Try.func39,Try.ntmps39
 go_wp2
 go_loopg [3] k (fun kq v3 w'=>∃ (x3_1:Int),v3 = .int .i64 x3_1 ∧ Aside0 (spec_l01Letters.l0 kq a0 x3_1 = some r) ∧ Aside0 (kq ≤ k) ∧ Drawn0 w w')
 case atStart=>exact ⟨(0),(by first|rfl|(simp;done)|(simp [*];done)),H',⟨Nat.le_refl _⟩,by repeat (first|exact Drawn0.refl _|apply Drawn0.step)⟩
 case round =>
  clear H'
  obtain ⟨x3_1,rfl,HA,HK1,⟨m1,rfl⟩⟩:=hrel
  cases gk with
  | zero=>exact absurd HA.out (by simp [spec_l01Letters.l0])
  | succ k1 =>
   have H:=HA.out
   clear HA
   simp only [spec_l01Letters.l0] at H
   by_cases c2:x3_1 < (a0.size:Int)
   ·rw [if_pos c2] at H
    have c2b0:decide (x3_1 < (a0.size:Int)) = true:=decide_eq_true c2
    clear c2
    by_cases c3:0 ≤ x3_1
    ·rw [if_pos c3] at H
     have c3b0:decide (0 ≤ x3_1) = true:=decide_eq_true c3
     clear c3
     by_cases c5:(bt a0 x3_1) = 48
     ·rw [if_pos c5] at H
      have c5b0:((bt a0 x3_1) == 48) = true:=beq_iff_eq.mpr c5
      have c5b1:((bt a0 x3_1) != 48) = false:=bne_eq_false_iff_eq.mpr c5
      clear c5
      have H':=aM H
      clear H
      have p4:0 ≤ (x3_1:Int):=of_decide_eq_true (by first|(with_reducible assumption)|assumption)
      have q4:x3_1 < (a0.size:Int):=of_decide_eq_true (by first|(with_reducible assumption)|assumption)
      have hx4:=bt_at a0 x3_1
      replace p4:=eq_true p4;replace q4:=eq_true q4
      go_wp2
      go_roundg k1
      case measure=>have:=HK1.out;omega
      case rel=>exact ⟨(wrap64 (x3_1 + 1)),(by first|rfl|(simp;done)|(simp [*];done)),H',⟨by have:=HK1.out;omega⟩,by repeat (first|exact Drawn0.refl _|apply Drawn0.step)⟩
     ·rw [if_neg c5] at H
      have c5b0:((bt a0 x3_1) == 48) = false:=beq_eq_false_iff_ne.mpr c5
      have c5b1:((bt a0 x3_1) != 48) = true:=bne_iff_ne.mpr c5
      by_cases c7:(bt a0 x3_1) = 49
      ·rw [if_pos c7] at H
       have c7b0:((bt a0 x3_1) == 49) = true:=beq_iff_eq.mpr c7
       have c7b1:((bt a0 x3_1) != 49) = false:=bne_eq_false_iff_eq.mpr c7
       clear c7
       have H':=aM H
       clear H
       have p4:0 ≤ (x3_1:Int):=of_decide_eq_true (by first|(with_reducible assumption)|assumption)
       have q4:x3_1 < (a0.size:Int):=of_decide_eq_true (by first|(with_reducible assumption)|assumption)
       have hx4:=bt_at a0 x3_1
       replace p4:=eq_true p4;replace q4:=eq_true q4
       have p6:0 ≤ (x3_1:Int):=of_decide_eq_true (by first|(with_reducible assumption)|assumption)
       have q6:x3_1 < (a0.size:Int):=of_decide_eq_true (by first|(with_reducible assumption)|assumption)
       have hx6:=bt_at a0 x3_1
       replace p6:=eq_true p6;replace q6:=eq_true q6
       go_wp2
       go_roundg k1
       case measure=>have:=HK1.out;omega
       case rel=>exact ⟨(wrap64 (x3_1 + 1)),(by first|rfl|(simp;done)|(simp [*];done)),H',⟨by have:=HK1.out;omega⟩,by repeat (first|exact Drawn0.refl _|apply Drawn0.step)⟩
      ·rw [if_neg c7] at H
       have c7b0:((bt a0 x3_1) == 49) = false:=beq_eq_false_iff_ne.mpr c7
       have c7b1:((bt a0 x3_1) != 49) = true:=bne_iff_ne.mpr c7
       by_cases c9:(bt a0 x3_1) = 42
       ·rw [if_pos c9] at H
        have c9b0:((bt a0 x3_1) == 42) = true:=beq_iff_eq.mpr c9
        have c9b1:((bt a0 x3_1) != 42) = false:=bne_eq_false_iff_eq.mpr c9
        clear c9
        have H':=aM H
        clear H
        have p4:0 ≤ (x3_1:Int):=of_decide_eq_true (by first|(with_reducible assumption)|assumption)
        have q4:x3_1 < (a0.size:Int):=of_decide_eq_true (by first|(with_reducible assumption)|assumption)
        have hx4:=bt_at a0 x3_1
        replace p4:=eq_true p4;replace q4:=eq_true q4
        have p6:0 ≤ (x3_1:Int):=of_decide_eq_true (by first|(with_reducible assumption)|assumption)
        have q6:x3_1 < (a0.size:Int):=of_decide_eq_true (by first|(with_reducible assumption)|assumption)
        have hx6:=bt_at a0 x3_1
        replace p6:=eq_true p6;replace q6:=eq_true q6
        have p8:0 ≤ (x3_1:Int):=of_decide_eq_true (by first|(with_reducible assumption)|assumption)
        have q8:x3_1 < (a0.size:Int):=of_decide_eq_true (by first|(with_reducible assumption)|assumption)
        have hx8:=bt_at a0 x3_1
        replace p8:=eq_true p8;replace q8:=eq_true q8
        go_wp2
        go_roundg k1
        case measure=>have:=HK1.out;omega
        case rel=>exact ⟨(wrap64 (x3_1 + 1)),(by first|rfl|(simp;done)|(simp [*];done)),H',⟨by have:=HK1.out;omega⟩,by repeat (first|exact Drawn0.refl _|apply Drawn0.step)⟩
       ·rw [if_neg c9] at H
        have c9b0:((bt a0 x3_1) == 42) = false:=beq_eq_false_iff_ne.mpr c9
        have c9b1:((bt a0 x3_1) != 42) = true:=bne_iff_ne.mpr c9
        obtain rfl:=Option.some.inj H
        have p4:0 ≤ (x3_1:Int):=of_decide_eq_true (by first|(with_reducible assumption)|assumption)
        have q4:x3_1 < (a0.size:Int):=of_decide_eq_true (by first|(with_reducible assumption)|assumption)
        have hx4:=bt_at a0 x3_1
        replace p4:=eq_true p4;replace q4:=eq_true q4
        have p6:0 ≤ (x3_1:Int):=of_decide_eq_true (by first|(with_reducible assumption)|assumption)
        have q6:x3_1 < (a0.size:Int):=of_decide_eq_true (by first|(with_reducible assumption)|assumption)
        have hx6:=bt_at a0 x3_1
        replace p6:=eq_true p6;replace q6:=eq_true q6
        have p8:0 ≤ (x3_1:Int):=of_decide_eq_true (by first|(with_reducible assumption)|assumption)
        have q8:x3_1 < (a0.size:Int):=of_decide_eq_true (by first|(with_reducible assumption)|assumption)
        have hx8:=bt_at a0 x3_1
        replace p8:=eq_true p8;replace q8:=eq_true q8
        go_wp2
        go_ret
        exact ⟨by first|rfl|(simp;done)|(simp [*];done),by repeat (first|exact Drawn0.refl _|apply Drawn0.step)⟩
    ·rw [if_neg c3] at H
     exact absurd H (by simp)
   ·rw [if_neg c2] at H
    have c2b0:decide (x3_1 < (a0.size:Int)) = false:=decide_eq_false c2
    clear c2
    obtain rfl:=Option.some.inj H
    go_wp2
    go_ret
    exact ⟨by first|rfl|(simp;done)|(simp [*];done),by repeat (first|exact Drawn0.refl _|apply Drawn0.step)⟩
end Go.Proofs.Ytbiehbmojbmnoaa.Q
end
section
namespace Go.Proofs.Ytbiehbmojbmnoaa.Q
open Go.Proofs.YtbiehbmojbmnoaaW.Ext
open Go.RowKit Go.Proofs.YtbiehbmojbmnoaaW.PrintWords Go.Proofs.YtbiehbmojbmnoaaW.PrintLast Go.Proofs.YtbiehbmojbmnoaaW.PrintMore
attribute [local go_sem] max2_int min2_int max_two min_two max_three min_three max_four min_four   -- for this text's walks alone
set_option linter.unusedVariables false
set_option linter.unusedSimpArgs false
attribute [local go_sem high] eqA27
def spec_l01Seq.f (k:Nat) (a0_0:ByteArray) (a0_1:ByteArray):Option (Bool):=(spec_l01Letters.f k a0_0).bind fun t104=>(if t104 = true then ((spec_l01Letters.f k a0_1).bind fun t105=>(if t105 = true then (if a0_1.toList = ([]:List UInt8) then (some false) else (if (wrap64 ((a0_0.size:Int) + (a0_1.size:Int))) > 64 then (some false) else ((spec_l01Canonical.f k a0_0 a0_1).bind fun bt106=>(some (bt106.1.toList == a0_0.toList && (bt106.2.toList == a0_1.toList)))))) else (some false))) else (some false))
theorem spec_l01Seq.mono:∀ a0 a1 k,LeO (spec_l01Seq.f k a0 a1) (spec_l01Seq.f (k + 1) a0 a1):=by
 intro a0 a1 k
 unfold spec_l01Seq.f
 repeat' first
   | (with_reducible exact spec_l01Canonical.mono _ _ _)
   | (with_reducible exact spec_l01Letters.mono _ _)
   | (with_reducible exact LeO.refl _)
   | (with_reducible exact LeO.none _)
   | (with_reducible refine LeO.ite ?_ ?_)
   | (with_reducible refine LeO.bind ?_ (fun _=>?_))
   | exact spec_l01Canonical.mono _ _ _
   | exact spec_l01Letters.mono _ _
   | exact LeO.none _
   | refine LeO.ite ?_ ?_
   | refine LeO.bind ?_ (fun _=>?_)
def spec_l01Seq.T3:Bool × List (List Nat × List Nat):=(true,[([],[]),([0],[0]),([],[]),([2],[2]),([1,3],[1,3]),([],[]),([4,5],[4,5]),([6,4,0,1,2,3,4,5,6],[6])])
def spec_l01Seq.B3:List Nat:=[0,1,0,4,15,0,63,127]
theorem spec_l01Seq.tab3:rtab .any (opsOf Try.f28 3) = spec_l01Seq.T3:=by kernel_rfl
theorem spec_l01Seq.bits3:waitsOk spec_l01Seq.T3.2 spec_l01Seq.B3 = true:=by kernel_rfl
set_option maxHeartbeats 8000000 in
set_option maxRecDepth 100000 in
theorem spec_l01Seq.calls (k:Nat) (a0_0:ByteArray) (a0_1:ByteArray) (r:Bool) (w:World) (h:spec_l01Seq.f k a0_0 a0_1 = some r) :
  Calls Try.prog 28 #[.agg #[.string a0_0,.string a0_1]] w fun e w'=>e = .returned (.bool r) ∧ Below w.heap.size w w':=by
 have hu27:=Try.underlying27
 have HB:=aM (Below.refl w.heap.size w)
 have H:((spec_l01Letters.f k a0_0).bind fun t104=>(if t104 = true then ((spec_l01Letters.f k a0_1).bind fun t105=>(if t105 = true then (if a0_1.toList = ([]:List UInt8) then (some false) else (if (wrap64 ((a0_0.size:Int) + (a0_1.size:Int))) > 64 then (some false) else ((spec_l01Canonical.f k a0_0 a0_1).bind fun bt106=>(some (bt106.1.toList == a0_0.toList && (bt106.2.toList == a0_1.toList)))))) else (some false))) else (some false))) = some r:=h
 clear h
 replace H:=Option.bind_eq_some_iff.mp H
 obtain ⟨t104,A20,H⟩:=H
 replace H:(if t104 = true then ((spec_l01Letters.f k a0_1).bind fun t105=>(if t105 = true then (if a0_1.toList = ([]:List UInt8) then (some false) else (if (wrap64 ((a0_0.size:Int) + (a0_1.size:Int))) > 64 then (some false) else ((spec_l01Canonical.f k a0_0 a0_1).bind fun bt106=>(some (bt106.1.toList == a0_0.toList && (bt106.2.toList == a0_1.toList)))))) else (some false))) else (some false)) = some r:=H;have A2:=aM A20
 clear A20
 by_cases c3:t104 = true
 ·subst c3
  have H1:((spec_l01Letters.f k a0_1).bind fun t105=>(if t105 = true then (if a0_1.toList = ([]:List UInt8) then (some false) else (if (wrap64 ((a0_0.size:Int) + (a0_1.size:Int))) > 64 then (some false) else ((spec_l01Canonical.f k a0_0 a0_1).bind fun bt106=>(some (bt106.1.toList == a0_0.toList && (bt106.2.toList == a0_1.toList)))))) else (some false))) = some r:=by rw [if_pos rfl] at H;exact H
  clear H
  have H:=H1
  clear H1
  replace H:=Option.bind_eq_some_iff.mp H
  obtain ⟨t105,A40,H⟩:=H
  replace H:(if t105 = true then (if a0_1.toList = ([]:List UInt8) then (some false) else (if (wrap64 ((a0_0.size:Int) + (a0_1.size:Int))) > 64 then (some false) else ((spec_l01Canonical.f k a0_0 a0_1).bind fun bt106=>(some (bt106.1.toList == a0_0.toList && (bt106.2.toList == a0_1.toList)))))) else (some false)) = some r:=H;have A4:=aM A40
  clear A40
  by_cases c5:t105 = true
  ·subst c5
   have H1:(if a0_1.toList = ([]:List UInt8) then (some false) else (if (wrap64 ((a0_0.size:Int) + (a0_1.size:Int))) > 64 then (some false) else ((spec_l01Canonical.f k a0_0 a0_1).bind fun bt106=>(some (bt106.1.toList == a0_0.toList && (bt106.2.toList == a0_1.toList)))))) = some r:=by rw [if_pos rfl] at H;exact H
   clear H
   have H:=H1
   clear H1
   by_cases c6:a0_1.toList = ([]:List UInt8)
   ·rw [if_pos c6] at H
    have c6b0:(a0_1.toList == ([]:List UInt8)) = true:=beq_iff_eq.mpr c6
    have c6b1:(a0_1.toList != ([]:List UInt8)) = false:=bne_eq_false_iff_eq.mpr c6
    clear c6
    obtain rfl:=Option.some.inj H
    go_enter Try.func28,Try.ntmps28
    go_wp2_with (first|((with_reducible refine gate_dst (N:=1) rfl ?_);(try (refine gate_guard (by rfl) ?_;dsimp only));refine box_event ?hg (N:=1) ?hd (cs:=#[.string a0_0,.string a0_1]) (t:=27) ?hr ?_;(case hd=>rfl);(case hg=>rfl);(case hr=>first|(go_simp;done)|(go_simp;rfl));intro gb103 hg w7 hbox hb;have BK103:=aM (hbox);have GW103:=wl hg HB;have GE103:=wl hg HB;replace HB:=bs HB hb;clear hb hbox hg;have⟨a0,a1,b0,b1⟩:=q2f BK103)|((with_reducible refine gate_callee (f:=39) rfl ?_);refine goesL_ (some 5) rfl rfl Try.func39 (by kernel_rfl) rfl #[.string a0_0] rfl (by (try simp only [sM,sC,sN]);first|done|rfl|(simp only [List.length_drop,List.length_take];rfl)) ?_;(with_reducible refine (spec_l01Letters.calls k a0_0 true _ A2.out).mono ?_);rintro e w' ⟨rfl,⟨nd,rfl⟩⟩;refine ⟨_,rfl,?_⟩)|(go_at_call 39;(with_reducible refine (spec_l01Letters.calls k a0_1 true _ A4.out).mono ?_);rintro e w' ⟨rfl,⟨nd,rfl⟩⟩))
    go_ret
    exact ⟨by first|rfl|(simp [errW_none,errW_some] <;> rfl)|(simp [*,errW_none,errW_some] <;> rfl),bb HB⟩
   ·rw [if_neg c6] at H
    have c6b0:(a0_1.toList == ([]:List UInt8)) = false:=beq_eq_false_iff_ne.mpr c6
    have c6b1:(a0_1.toList != ([]:List UInt8)) = true:=bne_iff_ne.mpr c6
    by_cases c9:(wrap64 ((a0_0.size:Int) + (a0_1.size:Int))) > 64
    ·rw [if_pos c9] at H
     have c9b0:decide (64 < (wrap64 ((a0_0.size:Int) + (a0_1.size:Int)))) = true:=decide_eq_true c9
     clear c9
     obtain rfl:=Option.some.inj H
     go_enter Try.func28,Try.ntmps28
     go_wp2_with (first|((with_reducible refine gate_dst (N:=1) rfl ?_);(try (refine gate_guard (by rfl) ?_;dsimp only));refine box_event ?hg (N:=1) ?hd (cs:=#[.string a0_0,.string a0_1]) (t:=27) ?hr ?_;(case hd=>rfl);(case hg=>rfl);(case hr=>first|(go_simp;done)|(go_simp;rfl));intro gb103 hg w10 hbox hb;have BK103:=aM (hbox);have GW103:=wl hg HB;have GE103:=wl hg HB;replace HB:=bs HB hb;clear hb hbox hg;have⟨a0,a1,b0,b1⟩:=q2f BK103)|((with_reducible refine gate_callee (f:=39) rfl ?_);refine goesL_ (some 5) rfl rfl Try.func39 (by kernel_rfl) rfl #[.string a0_0] rfl (by (try simp only [sM,sC,sN]);first|done|rfl|(simp only [List.length_drop,List.length_take];rfl)) ?_;(with_reducible refine (spec_l01Letters.calls k a0_0 true _ A2.out).mono ?_);rintro e w' ⟨rfl,⟨nd,rfl⟩⟩;refine ⟨_,rfl,?_⟩)|(go_at_call 39;(with_reducible refine (spec_l01Letters.calls k a0_1 true _ A4.out).mono ?_);rintro e w' ⟨rfl,⟨nd,rfl⟩⟩))
     go_ret
     exact ⟨by first|rfl|(simp [errW_none,errW_some] <;> rfl)|(simp [*,errW_none,errW_some] <;> rfl),bb HB⟩
    ·rw [if_neg c9] at H
     have c9b0:decide (64 < (wrap64 ((a0_0.size:Int) + (a0_1.size:Int)))) = false:=decide_eq_false c9
     clear c9
     replace H:=Option.bind_eq_some_iff.mp H
     obtain ⟨⟨t106,t107⟩,A120,H⟩:=H
     replace H:(some (t106.toList == a0_0.toList && (t107.toList == a0_1.toList))) = some r:=H;have A12:=aM A120
     clear A120
     obtain rfl:=Option.some.inj H
     go_enter Try.func28,Try.ntmps28
     try go_wp2_with (first|((with_reducible refine gate_dst (N:=1) rfl ?_);(try (refine gate_guard (by rfl) ?_;dsimp only));refine box_event ?hg (N:=1) ?hd (cs:=#[.string a0_0,.string a0_1]) (t:=27) ?hr ?_;(case hd=>rfl);(case hg=>rfl);(case hr=>first|(go_simp;done)|(go_simp;rfl));intro gb103 hg w13 hbox hb;have BK103:=aM (hbox);have GW103:=wl hg HB;have GE103:=wl hg HB;replace HB:=bs HB hb;clear hb hbox hg;have⟨a0,a1,b0,b1⟩:=q2f BK103)|((with_reducible refine gate_callee (f:=39) rfl ?_);refine goesL_ (some 5) rfl rfl Try.func39 (by kernel_rfl) rfl #[.string a0_0] rfl (by (try simp only [sM,sC,sN]);first|done|rfl|(simp only [List.length_drop,List.length_take];rfl)) ?_;(with_reducible refine (spec_l01Letters.calls k a0_0 true _ A2.out).mono ?_);rintro e w' ⟨rfl,⟨nd,rfl⟩⟩;refine ⟨_,rfl,?_⟩)|(go_at_call 39;(with_reducible refine (spec_l01Letters.calls k a0_1 true _ A4.out).mono ?_);rintro e w' ⟨rfl,⟨nd,rfl⟩⟩))
     (try (rw [drewN_self w13];generalize hq_:World.drewN w13 _ = w13;have n0_:Aside0 (w13.heap[gb103]? = some (.cells #[.string a0_0,.string a0_1] 27 (0,0))):=⟨by rw [← hq_];exact (bk BK103)⟩;have n1_:Aside0 (Below w.heap.size w w13):=⟨by rw [← hq_];exact (bb HB)⟩;clear BK103 HB hq_;have BK103:=n0_;have HB:=n1_;clear n0_ n1_))
     replace BK103:=aM (yD BK103.out);replace HB:=aM (zD HB.out)
     refine start_ (n:=8) (S:=fun w'=>w'.cell? ⟨gb103,0,none⟩ = some (.string a0_0) ∧ w'.cell? ⟨gb103,1,none⟩ = some (.string a0_1)) (ds:=[]) #[fF,fF,fF,fF,fF,fF,fF,fF] (by kernel_rfl) rfl rfl ⟨(blk_cell BK103.out 0).trans rfl,(blk_cell BK103.out 1).trans rfl⟩ (fun hHeld=>?_);refine with_tabW spec_l01Seq.tab3 spec_l01Seq.bits3 (fun HT_ HW_=>?_)
     generalize w13.drew = w15 at BK103 HB hHeld ⊢
     refine pure_ (i:=0) (N:=some 28) (v:=?_) (a':=?_) #[tT,fF,fF,fF,fF,fF,fF,fF] rfl rfl (any_of HT_.out (by kernel_rfl)) (fun _ _ _ h=>h) (Or.inl ⟨by rfl,?_⟩) ?_ ?_
     rotate_left
     ·intro w'
      go_simp
      with_reducible rfl
     rotate_left
     ·simp only [Act.put,sI,sZ,sS,i64_w,i32_w]
      rfl
     refine pure_ (i:=2) (N:=some 30) (v:=?_) (a':=?_) #[tT,fF,tT,fF,fF,fF,fF,fF] rfl rfl (any_of HT_.out (by kernel_rfl)) (fun _ _ _ h=>h) (Or.inl ⟨by rfl,?_⟩) ?_ ?_
     rotate_left
     ·intro w'
      go_simp
      with_reducible rfl
     rotate_left
     ·simp only [Act.put,sI,sZ,sS,i64_w,i32_w]
      rfl
     refine take_ (i:=1) (N:=some 29) (v:=?_) (a':=?_) #[tT,tT,tT,fF,fF,fF,fF,fF] rfl rfl (take_ofW HT_.out HW_.out (by kernel_rfl)) (fun _ _ _ h=>h) (Or.inl ⟨by rfl,?_⟩) hHeld ?_ ?_
     rotate_left
     ·rintro w' ⟨s0,s1⟩
      go_simp
      with_reducible rfl
     rotate_left
     ·simp only [Act.put,sI,sZ,sS,i64_w,i32_w]
      rfl
     refine take_ (i:=3) (N:=some 31) (v:=?_) (a':=?_) #[tT,tT,tT,tT,fF,fF,fF,fF] rfl rfl (take_ofW HT_.out HW_.out (by kernel_rfl)) (fun _ _ _ h=>h) (Or.inl ⟨by rfl,?_⟩) hHeld ?_ ?_
     rotate_left
     ·rintro w' ⟨s0,s1⟩
      go_simp
      with_reducible rfl
     rotate_left
     ·simp only [Act.put,sI,sZ,sS,i64_w,i32_w]
      rfl
     refine take_ (i:=5) (N:=some 33) (v:=?_) (a':=?_) #[tT,tT,tT,tT,fF,tT,fF,fF] rfl rfl (take_ofW HT_.out HW_.out (by kernel_rfl)) (fun _ _ _ h=>h) (Or.inl ⟨by rfl,?_⟩) hHeld ?_ ?_
     rotate_left
     ·rintro w' ⟨s0,s1⟩
      go_simp
      with_reducible rfl
     rotate_left
     ·simp only [Act.put,sI,sZ,sS,i64_w,i32_w]
      rfl
     refine one_ (i:=4) (N:=some 32) #[tT,tT,tT,tT,tT,tT,fF,fF] rfl rfl (one_of HT_.out (by kernel_rfl)) (by decide) (fun K hK=>?_)
     refine goes_ Try.func31 (by kernel_rfl) rfl #[.string a0_0,.string a0_1] (by rfl) rfl rfl (by (try simp only [sM,sC,sN]);first|done|rfl|(simp only [List.length_drop,List.length_take];rfl)) ?_
     with_reducible refine (spec_l01Canonical.calls k a0_0 a0_1 t106 t107 _ A12.out).mono ?_
     rintro e w16 ⟨rfl,hb⟩
     refine ⟨_,rfl,?_⟩
     replace BK103:=kb BK103 hb;replace HB:=bs HB hb;(try clear hb)
     refine hK.out _ _ ⟨(blk_cell BK103.out 0).trans rfl,(blk_cell BK103.out 1).trans rfl⟩ (fun hHeld=>?_)
     clear hK K
     refine norm_ (a':=?_) ?_ ?_
     rotate_left
     ·show Act.put _ (some 32) _ = _
      simp only [Act.put,sI,sZ,sS,i64_w,i32_w]
      rfl
     refine pure_ (i:=6) (N:=some 34) (v:=?_) (a':=?_) #[tT,tT,tT,tT,tT,tT,tT,fF] rfl rfl (any_of HT_.out (by kernel_rfl)) (fun _ _ _ h=>h) (Or.inl ⟨by rfl,?_⟩) ?_ ?_
     rotate_left
     ·intro w'
      go_simp
      with_reducible rfl
     rotate_left
     ·simp only [Act.put,sI,sZ,sS,i64_w,i32_w]
      rfl
     refine pure_ (i:=7) (N:=some 2) (v:=?_) (a':=?_) #[tT,tT,tT,tT,tT,tT,tT,tT] rfl rfl (any_of HT_.out (by kernel_rfl)) (fun _ _ _ h=>h) (Or.inl ⟨by rfl,?_⟩) ?_ ?_
     rotate_left
     ·intro w'
      go_simp
      with_reducible rfl
     rotate_left
     ·simp only [Act.put,sI,sZ,sS,i64_w,i32_w]
      rfl
     refine done_ (done_of HT_.out (by kernel_rfl)) ?_
     try go_wp2
     go_ret
     exact ⟨by first|rfl|(simp [errW_none,errW_some] <;> rfl)|(simp [*,errW_none,errW_some] <;> rfl),bb HB⟩
  ·replace c5:=Bool.eq_false_iff.mpr c5
   subst c5
   have H1:(some false) = some r:=by rw [if_neg (show ¬ (false = true) by decide)] at H;exact H
   clear H
   have H:=H1
   clear H1
   obtain rfl:=Option.some.inj H
   go_enter Try.func28,Try.ntmps28
   go_wp2_with (first|((with_reducible refine gate_dst (N:=1) rfl ?_);(try (refine gate_guard (by rfl) ?_;dsimp only));refine box_event ?hg (N:=1) ?hd (cs:=#[.string a0_0,.string a0_1]) (t:=27) ?hr ?_;(case hd=>rfl);(case hg=>rfl);(case hr=>first|(go_simp;done)|(go_simp;rfl));intro gb103 hg w17 hbox hb;have BK103:=aM (hbox);have GW103:=wl hg HB;have GE103:=wl hg HB;replace HB:=bs HB hb;clear hb hbox hg;have⟨a0,a1,b0,b1⟩:=q2f BK103)|((with_reducible refine gate_callee (f:=39) rfl ?_);refine goesL_ (some 5) rfl rfl Try.func39 (by kernel_rfl) rfl #[.string a0_0] rfl (by (try simp only [sM,sC,sN]);first|done|rfl|(simp only [List.length_drop,List.length_take];rfl)) ?_;(with_reducible refine (spec_l01Letters.calls k a0_0 true _ A2.out).mono ?_);rintro e w' ⟨rfl,⟨nd,rfl⟩⟩;refine ⟨_,rfl,?_⟩)|(go_at_call 39;(with_reducible refine (spec_l01Letters.calls k a0_1 false _ A4.out).mono ?_);rintro e w' ⟨rfl,⟨nd,rfl⟩⟩))
   go_ret
   exact ⟨by first|rfl|(simp [errW_none,errW_some] <;> rfl)|(simp [*,errW_none,errW_some] <;> rfl),bb HB⟩
 ·replace c3:=Bool.eq_false_iff.mpr c3
  subst c3
  have H1:(some false) = some r:=by rw [if_neg (show ¬ (false = true) by decide)] at H;exact H
  clear H
  have H:=H1
  clear H1
  obtain rfl:=Option.some.inj H
  go_enter Try.func28,Try.ntmps28
  go_wp2_with (first|((with_reducible refine gate_dst (N:=1) rfl ?_);(try (refine gate_guard (by rfl) ?_;dsimp only));refine box_event ?hg (N:=1) ?hd (cs:=#[.string a0_0,.string a0_1]) (t:=27) ?hr ?_;(case hd=>rfl);(case hg=>rfl);(case hr=>first|(go_simp;done)|(go_simp;rfl));intro gb103 hg w19 hbox hb;have BK103:=aM (hbox);have GW103:=wl hg HB;have GE103:=wl hg HB;replace HB:=bs HB hb;clear hb hbox hg;have⟨a0,a1,b0,b1⟩:=q2f BK103)|((with_reducible refine gate_callee (f:=39) rfl ?_);refine goesL_ (some 5) rfl rfl Try.func39 (by kernel_rfl) rfl #[.string a0_0] rfl (by (try simp only [sM,sC,sN]);first|done|rfl|(simp only [List.length_drop,List.length_take];rfl)) ?_;(with_reducible refine (spec_l01Letters.calls k a0_0 false _ A2.out).mono ?_);rintro e w' ⟨rfl,⟨nd,rfl⟩⟩;refine ⟨_,rfl,?_⟩))
  go_ret
  exact ⟨by first|rfl|(simp [errW_none,errW_some] <;> rfl)|(simp [*,errW_none,errW_some] <;> rfl),bb HB⟩
end Go.Proofs.Ytbiehbmojbmnoaa.Q
end
section
namespace Go.Proofs.Ytbiehbmojbmnoaa.Q
open Go.Proofs.YtbiehbmojbmnoaaW.Ext
open Go.RowKit Go.Proofs.YtbiehbmojbmnoaaW.PrintWords Go.Proofs.YtbiehbmojbmnoaaW.PrintLast Go.Proofs.YtbiehbmojbmnoaaW.PrintMore
attribute [local go_sem] max2_int min2_int max_two min_two max_three min_three max_four min_four   -- for this text's walks alone
set_option linter.unusedVariables false
set_option linter.unusedSimpArgs false
mutual
def spec_l02Star.j0:Nat → Int → Bool → ByteArray → ByteArray → Option (Bool)
 | 0,_,_,_,_=>none
 | k + 1,x3,x28,x109000,x109001=>if x28 = true then (some false) else (spec_l02Star.l0 k x3 0 x109000 x109001)
def spec_l02Star.l0:Nat → Int → Int → ByteArray → ByteArray → Option (Bool)
 | 0,_,_,_,_=>none
 | k + 1,x3,x4,x109000,x109001=>if x4 < (wrap64 (x3 - 1)) then (if 0 ≤ x4 then (if x4 < (x109001.size:Int) then (if (bt x109001 x4) = 42 then (some false) else (spec_l02Star.l0 k x3 (wrap64 (x4 + 1)) x109000 x109001)) else (none)) else (none)) else (some true)
end
def spec_l02Star.f (k:Nat) (a0_0:ByteArray) (a0_1:ByteArray):Option (Bool):=if a0_0.toList = ([]:List UInt8) then (if 0 ≤ (wrap64 ((a0_1.size:Int) - 1)) then (if (wrap64 ((a0_1.size:Int) - 1)) < (a0_1.size:Int) then (if (bt a0_1 (wrap64 ((a0_1.size:Int) - 1))) = 42 then (if (a0_1.size:Int) > 1 then (if 0 < (a0_1.size:Int) then (spec_l02Star.j0 k (a0_1.size:Int) ((bt a0_1 0) != 49) a0_0 a0_1) else (none)) else (spec_l02Star.j0 k (a0_1.size:Int) false a0_0 a0_1)) else (spec_l02Star.j0 k (a0_1.size:Int) true a0_0 a0_1)) else (none)) else (none)) else (spec_l02Star.j0 k (a0_1.size:Int) true a0_0 a0_1)
theorem spec_l02Star.mono_l:∀ k,(∀ y0 y1 y2 y3,LeO (spec_l02Star.j0 k y0 y1 y2 y3) (spec_l02Star.j0 (k + 1) y0 y1 y2 y3)) ∧ (∀ y0 y1 y2 y3,LeO (spec_l02Star.l0 k y0 y1 y2 y3) (spec_l02Star.l0 (k + 1) y0 y1 y2 y3))
 | 0=>⟨fun _ _ _ _ r h=>by simp [spec_l02Star.j0] at h,fun _ _ _ _ r h=>by simp [spec_l02Star.l0] at h⟩
 | k + 1=>by
  obtain ⟨ih0,ih1⟩:=spec_l02Star.mono_l k
  refine ⟨?_,?_⟩
  ·intro y0 y1 y2 y3
   unfold spec_l02Star.j0
   repeat' first
   | (with_reducible exact ih0 _ _ _ _)
   | (with_reducible exact ih1 _ _ _ _)
   | (with_reducible exact LeO.refl _)
   | (with_reducible exact LeO.none _)
   | (with_reducible refine LeO.ite ?_ ?_)
   | (with_reducible refine LeO.bind ?_ (fun _=>?_))
   | exact ih0 _ _ _ _
   | exact ih1 _ _ _ _
   | exact LeO.none _
   | refine LeO.ite ?_ ?_
   | refine LeO.bind ?_ (fun _=>?_)
  ·intro y0 y1 y2 y3
   unfold spec_l02Star.l0
   repeat' first
   | (with_reducible exact ih0 _ _ _ _)
   | (with_reducible exact ih1 _ _ _ _)
   | (with_reducible exact LeO.refl _)
   | (with_reducible exact LeO.none _)
   | (with_reducible refine LeO.ite ?_ ?_)
   | (with_reducible refine LeO.bind ?_ (fun _=>?_))
   | exact ih0 _ _ _ _
   | exact ih1 _ _ _ _
   | exact LeO.none _
   | refine LeO.ite ?_ ?_
   | refine LeO.bind ?_ (fun _=>?_)
theorem spec_l02Star.mono:∀ a0 a1 k,LeO (spec_l02Star.f k a0 a1) (spec_l02Star.f (k + 1) a0 a1):=by
 intro a0 a1 k
 obtain ⟨ih0,ih1⟩:=spec_l02Star.mono_l k
 unfold spec_l02Star.f
 repeat' first
   | (with_reducible exact ih0 _ _ _ _)
   | (with_reducible exact ih1 _ _ _ _)
   | (with_reducible exact LeO.refl _)
   | (with_reducible exact LeO.none _)
   | (with_reducible refine LeO.ite ?_ ?_)
   | (with_reducible refine LeO.bind ?_ (fun _=>?_))
   | exact ih0 _ _ _ _
   | exact ih1 _ _ _ _
   | exact LeO.none _
   | refine LeO.ite ?_ ?_
   | refine LeO.bind ?_ (fun _=>?_)
set_option maxHeartbeats 8000000 in
set_option maxRecDepth 100000 in
theorem spec_l02Star.calls (k:Nat) (a0_0:ByteArray) (a0_1:ByteArray) (r:Bool) (w:World) (h:spec_l02Star.f k a0_0 a0_1 = some r) :
  Calls Try.prog 29 #[.agg #[.string a0_0,.string a0_1]] w fun e w'=>e = .returned (.bool r) ∧ Below w.heap.size w w':=by
 have hu27:=Try.underlying27
 have HB:=aM (Below.refl w.heap.size w)
 have H:(if a0_0.toList = ([]:List UInt8) then (if 0 ≤ (wrap64 ((a0_1.size:Int) - 1)) then (if (wrap64 ((a0_1.size:Int) - 1)) < (a0_1.size:Int) then (if (bt a0_1 (wrap64 ((a0_1.size:Int) - 1))) = 42 then (if (a0_1.size:Int) > 1 then (if 0 < (a0_1.size:Int) then (spec_l02Star.j0 k (a0_1.size:Int) ((bt a0_1 0) != 49) a0_0 a0_1) else (none)) else (spec_l02Star.j0 k (a0_1.size:Int) false a0_0 a0_1)) else (spec_l02Star.j0 k (a0_1.size:Int) true a0_0 a0_1)) else (none)) else (none)) else (spec_l02Star.j0 k (a0_1.size:Int) true a0_0 a0_1)) = some r:=h
 clear h
 have HC2:=aM H
 clear H
 go_enter Try.func29,Try.ntmps29
 go_upto_region 2 with (first|((with_reducible refine gate_dst (N:=1) rfl ?_);refine box_event ?hg (N:=1) ?hd (cs:=#[.string a0_0,.string a0_1]) (t:=27) ?hr ?_;(case hd=>rfl);(case hg=>rfl);(case hr=>first|(go_simp;done)|(go_simp;rfl));intro gb108 hg w3 hbox hb;have BK108:=aM (hbox);have GW108:=wl hg HB;have GE108:=wl hg HB;replace HB:=bs HB hb;clear hb hbox hg;have⟨a0,a1,b0,b1⟩:=q2f BK108))
 (try simp only [Act.put,sI,sZ,sS])
 go_cut [28] (fun v28 wc=>∃ (kq:Nat) (x28_1:Bool),v28 = .bool x28_1 ∧ Aside0 (spec_l02Star.j0 kq (a0_1.size:Int) x28_1 a0_0 a0_1 = some r) ∧ Aside0 (kq ≤ k) ∧ Aside0 (wc.heap[gb108]? = some (.cells #[.string a0_0,.string a0_1] 27 (0,0))) ∧ Aside0 (Below w.heap.size w wc))
 case first =>
  have H:=HC2.out
  clear HC2
  by_cases c5:a0_0.toList = ([]:List UInt8)
  ·rw [if_pos c5] at H
   have c5b0:(a0_0.toList == ([]:List UInt8)) = true:=beq_iff_eq.mpr c5
   have c5b1:(a0_0.toList != ([]:List UInt8)) = false:=bne_eq_false_iff_eq.mpr c5
   clear c5
   (first|rw [c5b0]|(simp only [i64_w,i32_w];rw [c5b0])|skip)
   obtain ⟨ji6,hji6⟩:∃ j_:Int,(wrap64 ((a0_1.size:Int) - 1)) = j_:=⟨_,rfl⟩
   replace H:(if 0 ≤ (ji6) then (if (ji6) < (a0_1.size:Int) then (if (bt a0_1 (ji6)) = 42 then (if (a0_1.size:Int) > 1 then (if 0 < (a0_1.size:Int) then (spec_l02Star.j0 k (a0_1.size:Int) ((bt a0_1 0) != 49) a0_0 a0_1) else (none)) else (spec_l02Star.j0 k (a0_1.size:Int) false a0_0 a0_1)) else (spec_l02Star.j0 k (a0_1.size:Int) true a0_0 a0_1)) else (none)) else (none)) = some r:=by first|(rw [hji6] at H;exact H)|(simp only [hji6] at H ⊢;exact H)
   have hji6w:(IntKind.i64.wrap ((a0_1.size:Int) - 1)) = ji6:=(i64_w _).trans hji6
   by_cases c7:0 ≤ (ji6)
   ·rw [if_pos c7] at H
    have c7b0:decide (0 ≤ (ji6)) = true:=decide_eq_true c7
    clear c7
    by_cases c8:(ji6) < (a0_1.size:Int)
    ·rw [if_pos c8] at H
     have c8b0:decide ((ji6) < (a0_1.size:Int)) = true:=decide_eq_true c8
     clear c8
     by_cases c10:(bt a0_1 (ji6)) = 42
     ·rw [if_pos c10] at H
      have c10b0:((bt a0_1 (ji6)) == 42) = true:=beq_iff_eq.mpr c10
      have c10b1:((bt a0_1 (ji6)) != 42) = false:=bne_eq_false_iff_eq.mpr c10
      clear c10
      by_cases c11:(a0_1.size:Int) > 1
      ·rw [if_pos c11] at H
       have c11b0:decide (1 < (a0_1.size:Int)) = true:=decide_eq_true c11
       have c11b1:decide (1 < a0_1.size) = true:=decide_eq_true (by omega)
       clear c11
       by_cases c12:0 < (a0_1.size:Int)
       ·rw [if_pos c12] at H
        have c12b0:decide (0 < (a0_1.size:Int)) = true:=decide_eq_true c12
        have c12b1:decide (0 < a0_1.size) = true:=decide_eq_true (by omega)
        clear c12
        have H':=aM H
        clear H
        have⟨a0,a1,b0,b1⟩:=q2f BK108
        have p9:0 ≤ ((ji6):Int):=of_decide_eq_true (by first|(with_reducible assumption)|assumption)
        have q9:(ji6) < (a0_1.size:Int):=of_decide_eq_true (by first|(with_reducible assumption)|assumption)
        have hx9:=bt_at a0_1 (ji6)
        replace p9:=eq_true p9;replace q9:=eq_true q9
        have p13:0 ≤ (0:Int):=(by omega)
        have q13:0 < a0_1.size:=(by have:(0:Int) < (a0_1.size:Int):=of_decide_eq_true (by first|(with_reducible assumption)|assumption);omega)
        have hx13:∀ h:0 < a0_1.size,((a0_1[0]'h).toNat:Int) = bt a0_1 0:=bt_at a0_1 0
        clear p13
        have qi13:(0 < (a0_1.size:Int)) = True:=eq_true (of_decide_eq_true (by first|(with_reducible assumption)|assumption))
        replace q13:=eq_true q13
        go_wp2
        go_meet
        case rel=>exact ⟨_,(((bt a0_1 0) != 49)),(by first|rfl|(simp;done)|(simp [*];done)),H',⟨by first|omega|exact Nat.le_refl _⟩,⟨bk BK108⟩,⟨bb HB⟩⟩
       ·rw [if_neg c12] at H
        exact absurd H (by simp)
      ·rw [if_neg c11] at H
       have c11b0:decide (1 < (a0_1.size:Int)) = false:=decide_eq_false c11
       have c11b1:decide (1 < a0_1.size) = false:=decide_eq_false (by omega)
       clear c11
       have H':=aM H
       clear H
       have⟨a0,a1,b0,b1⟩:=q2f BK108
       have p9:0 ≤ ((ji6):Int):=of_decide_eq_true (by first|(with_reducible assumption)|assumption)
       have q9:(ji6) < (a0_1.size:Int):=of_decide_eq_true (by first|(with_reducible assumption)|assumption)
       have hx9:=bt_at a0_1 (ji6)
       replace p9:=eq_true p9;replace q9:=eq_true q9
       go_wp2
       go_meet
       case rel=>exact ⟨_,(false),(by first|rfl|(simp;done)|(simp [*];done)),H',⟨by first|omega|exact Nat.le_refl _⟩,⟨bk BK108⟩,⟨bb HB⟩⟩
     ·rw [if_neg c10] at H
      have c10b0:((bt a0_1 (ji6)) == 42) = false:=beq_eq_false_iff_ne.mpr c10
      have c10b1:((bt a0_1 (ji6)) != 42) = true:=bne_iff_ne.mpr c10
      have H':=aM H
      clear H
      have⟨a0,a1,b0,b1⟩:=q2f BK108
      have p9:0 ≤ ((ji6):Int):=of_decide_eq_true (by first|(with_reducible assumption)|assumption)
      have q9:(ji6) < (a0_1.size:Int):=of_decide_eq_true (by first|(with_reducible assumption)|assumption)
      have hx9:=bt_at a0_1 (ji6)
      replace p9:=eq_true p9;replace q9:=eq_true q9
      go_wp2
      go_meet
      case rel=>exact ⟨_,(true),(by first|rfl|(simp;done)|(simp [*];done)),H',⟨by first|omega|exact Nat.le_refl _⟩,⟨bk BK108⟩,⟨bb HB⟩⟩
    ·rw [if_neg c8] at H
     exact absurd H (by simp)
   ·rw [if_neg c7] at H
    exact absurd H (by simp)
  ·rw [if_neg c5] at H
   have c5b0:(a0_0.toList == ([]:List UInt8)) = false:=beq_eq_false_iff_ne.mpr c5
   have c5b1:(a0_0.toList != ([]:List UInt8)) = true:=bne_iff_ne.mpr c5
   (first|rw [c5b0]|(simp only [i64_w,i32_w];rw [c5b0])|skip)
   have H':=aM H
   clear H
   have⟨a0,a1,b0,b1⟩:=q2f BK108
   go_wp2
   go_meet
   case rel=>exact ⟨_,(true),(by first|rfl|(simp;done)|(simp [*];done)),H',⟨by first|omega|exact Nat.le_refl _⟩,⟨bk BK108⟩,⟨bb HB⟩⟩
 case rest =>
  clear HC2
  try clear c1
  try clear p1
  try clear q1
  try clear hx1
  try clear qi1
  try clear c2
  try clear p2
  try clear c5
  try clear c5b0
  try clear c5b1
  try clear p6
  try clear c7
  try clear c7b0
  try clear c8
  try clear c8b0
  try clear p9
  try clear q9
  try clear hx9
  try clear c10
  try clear c10b0
  try clear c10b1
  try clear c11
  try clear c11b0
  try clear c11b1
  try clear c12
  try clear c12b0
  try clear c12b1
  try clear p13
  try clear q13
  try clear hx13
  try clear qi13
  try clear hcz14_0
  try clear hcz14_1
  try clear hcz15_0
  try clear hcz15_1
  try clear hcz16_0
  try clear hcz16_1
  try clear hcz17_0
  try clear hcz17_1
  try clear hcz4_0
  try clear hcz4_1
  try clear hfz14_0
  try clear hfz14_1
  try clear hfz15_0
  try clear hfz15_1
  try clear hfz16_0
  try clear hfz16_1
  try clear hfz17_0
  try clear hfz17_1
  try clear hfz4_0
  try clear hfz4_1
  try clear p13
  try clear p9
  try clear q13
  try clear q9
  obtain ⟨kq,x28_1,rfl,HA,HJ1,BK108,HB⟩:=hcut
  cases kq with
  | zero=>exact absurd HA.out (by simp [spec_l02Star.j0])
  | succ kj1 =>
   have H:=HA.out
   clear HA
   simp only [spec_l02Star.j0] at H
   by_cases c18:x28_1 = true
   ·subst c18
    have H1:(some false) = some r:=by rw [if_pos rfl] at H;exact H
    clear H
    have H:=H1
    clear H1
    obtain rfl:=Option.some.inj H
    go_wp2
    go_ret
    exact ⟨by first|rfl|(simp [errW_none,errW_some] <;> rfl)|(simp [*,errW_none,errW_some] <;> rfl),bb HB⟩
   ·replace c18:=Bool.eq_false_iff.mpr c18
    subst c18
    have H1:(spec_l02Star.l0 kj1 (a0_1.size:Int) 0 a0_0 a0_1) = some r:=by rw [if_neg (show ¬ (false = true) by decide)] at H;exact H
    clear H
    have H:=H1
    clear H1
    have H':=aM H
    clear H
    go_wp2
    go_loopg [4] kj1 (fun kq v4 w'=>∃ (x4_2:Int),v4 = .int .i64 x4_2 ∧ Aside0 (spec_l02Star.l0 kq (a0_1.size:Int) x4_2 a0_0 a0_1 = some r) ∧ Aside0 (kq ≤ kj1) ∧ Aside0 (w'.heap[gb108]? = some (.cells #[.string a0_0,.string a0_1] 27 (0,0))) ∧ Aside0 (Below w.heap.size w w'))
    case atStart=>exact ⟨(0),(by first|rfl|(simp;done)|(simp [*];done)),H',⟨Nat.le_refl _⟩,⟨bk BK108⟩,⟨bb HB⟩⟩
    case round =>
     clear H'
     try clear c1
     try clear p1
     try clear q1
     try clear hx1
     try clear qi1
     try clear c2
     try clear p2
     try clear c5
     try clear c5b0
     try clear c5b1
     try clear p6
     try clear c7
     try clear c7b0
     try clear c8
     try clear c8b0
     try clear p9
     try clear q9
     try clear hx9
     try clear c10
     try clear c10b0
     try clear c10b1
     try clear c11
     try clear c11b0
     try clear c11b1
     try clear c12
     try clear c12b0
     try clear c12b1
     try clear p13
     try clear q13
     try clear hx13
     try clear qi13
     try clear c18
     try clear hcz14_0
     try clear hcz14_1
     try clear hcz15_0
     try clear hcz15_1
     try clear hcz16_0
     try clear hcz16_1
     try clear hcz17_0
     try clear hcz17_1
     try clear hcz4_0
     try clear hcz4_1
     try clear hfz14_0
     try clear hfz14_1
     try clear hfz15_0
     try clear hfz15_1
     try clear hfz16_0
     try clear hfz16_1
     try clear hfz17_0
     try clear hfz17_1
     try clear hfz4_0
     try clear hfz4_1
     try clear p1
     try clear p13
     try clear p2
     try clear p6
     try clear p9
     try clear q1
     try clear q13
     try clear q9
     obtain ⟨x4_2,rfl,HA,HK2,BK108,HB⟩:=hrel
     cases gk with
     | zero=>exact absurd HA.out (by simp [spec_l02Star.l0])
     | succ k2 =>
      have H:=HA.out
      clear HA
      simp only [spec_l02Star.l0] at H
      by_cases c19:x4_2 < (wrap64 ((a0_1.size:Int) - 1))
      ·rw [if_pos c19] at H
       have c19b0:decide (x4_2 < (wrap64 ((a0_1.size:Int) - 1))) = true:=decide_eq_true c19
       clear c19
       by_cases c20:0 ≤ x4_2
       ·rw [if_pos c20] at H
        have c20b0:decide (0 ≤ x4_2) = true:=decide_eq_true c20
        clear c20
        by_cases c21:x4_2 < (a0_1.size:Int)
        ·rw [if_pos c21] at H
         have c21b0:decide (x4_2 < (a0_1.size:Int)) = true:=decide_eq_true c21
         clear c21
         by_cases c23:(bt a0_1 x4_2) = 42
         ·rw [if_pos c23] at H
          have c23b0:((bt a0_1 x4_2) == 42) = true:=beq_iff_eq.mpr c23
          have c23b1:((bt a0_1 x4_2) != 42) = false:=bne_eq_false_iff_eq.mpr c23
          clear c23
          obtain rfl:=Option.some.inj H
          have⟨a0,a1,b0,b1⟩:=q2f BK108
          have p22:0 ≤ (x4_2:Int):=of_decide_eq_true (by first|(with_reducible assumption)|assumption)
          have q22:x4_2 < (a0_1.size:Int):=of_decide_eq_true (by first|(with_reducible assumption)|assumption)
          have hx22:=bt_at a0_1 x4_2
          replace p22:=eq_true p22;replace q22:=eq_true q22
          go_wp2
          go_ret
          exact ⟨by first|rfl|(simp [errW_none,errW_some] <;> rfl)|(simp [*,errW_none,errW_some] <;> rfl),bb HB⟩
         ·rw [if_neg c23] at H
          have c23b0:((bt a0_1 x4_2) == 42) = false:=beq_eq_false_iff_ne.mpr c23
          have c23b1:((bt a0_1 x4_2) != 42) = true:=bne_iff_ne.mpr c23
          have H':=aM H
          clear H
          have⟨a0,a1,b0,b1⟩:=q2f BK108
          have p22:0 ≤ (x4_2:Int):=of_decide_eq_true (by first|(with_reducible assumption)|assumption)
          have q22:x4_2 < (a0_1.size:Int):=of_decide_eq_true (by first|(with_reducible assumption)|assumption)
          have hx22:=bt_at a0_1 x4_2
          replace p22:=eq_true p22;replace q22:=eq_true q22
          go_wp2
          go_roundg k2
          case measure=>have:=HJ1.out;have:=HK2.out;omega
          case rel=>exact ⟨(wrap64 (x4_2 + 1)),(by first|rfl|(simp;done)|(simp [*];done)),H',⟨by have:=HJ1.out;have:=HK2.out;omega⟩,⟨bk BK108⟩,⟨bb HB⟩⟩
        ·rw [if_neg c21] at H
         exact absurd H (by simp)
       ·rw [if_neg c20] at H
        exact absurd H (by simp)
      ·rw [if_neg c19] at H
       have c19b0:decide (x4_2 < (wrap64 ((a0_1.size:Int) - 1))) = false:=decide_eq_false c19
       clear c19
       obtain rfl:=Option.some.inj H
       go_wp2
       go_ret
       exact ⟨by first|rfl|(simp [errW_none,errW_some] <;> rfl)|(simp [*,errW_none,errW_some] <;> rfl),bb HB⟩
def spec_l01At.f (a0_0:ByteArray) (a0_1:ByteArray) (a1:Int):Option (Int):=if a1 < (a0_0.size:Int) then (if 0 ≤ a1 then (some (bt a0_0 a1)) else (none)) else (if (a0_1.size:Int) = 0 then (none) else (if 0 ≤ (Int.tmod (wrap64 (a1 - (a0_0.size:Int))) (a0_1.size:Int)) then (if (Int.tmod (wrap64 (a1 - (a0_0.size:Int))) (a0_1.size:Int)) < (a0_1.size:Int) then (some (bt a0_1 (Int.tmod (wrap64 (a1 - (a0_0.size:Int))) (a0_1.size:Int)))) else (none)) else (none)))
set_option maxHeartbeats 8000000 in
set_option maxRecDepth 100000 in
theorem spec_l01At.calls (a0_0:ByteArray) (a0_1:ByteArray) (a1:Int) (r:Int) (w:World) (h:spec_l01At.f a0_0 a0_1 a1 = some r) :
  Calls Try.prog 20 #[.agg #[.string a0_0,.string a0_1],.int .i64 a1] w fun e w'=>e = .returned (.int .u8 r) ∧ Below w.heap.size w w':=by
 have hu27:=Try.underlying27
 have HB:=aM (Below.refl w.heap.size w)
 have H:(if a1 < (a0_0.size:Int) then (if 0 ≤ a1 then (some (bt a0_0 a1)) else (none)) else (if (a0_1.size:Int) = 0 then (none) else (if 0 ≤ (Int.tmod (wrap64 (a1 - (a0_0.size:Int))) (a0_1.size:Int)) then (if (Int.tmod (wrap64 (a1 - (a0_0.size:Int))) (a0_1.size:Int)) < (a0_1.size:Int) then (some (bt a0_1 (Int.tmod (wrap64 (a1 - (a0_0.size:Int))) (a0_1.size:Int)))) else (none)) else (none)))) = some r:=h
 clear h
 by_cases c3:a1 < (a0_0.size:Int)
 ·rw [if_pos c3] at H
  have c3b0:decide (a1 < (a0_0.size:Int)) = true:=decide_eq_true c3
  clear c3
  by_cases c4:0 ≤ a1
  ·rw [if_pos c4] at H
   have c4b0:decide (0 ≤ a1) = true:=decide_eq_true c4
   clear c4
   obtain rfl:=Option.some.inj H
   go_enter Try.func20,Try.ntmps20
   go_wp2_with (first|((with_reducible refine gate_dst (N:=2) rfl ?_);refine box_event ?hg (N:=2) ?hd (cs:=#[.string a0_0,.string a0_1]) (t:=27) ?hr ?_;(case hd=>rfl);(case hg=>rfl);(case hr=>first|(go_simp;done)|(go_simp;rfl));intro gb109 hg w6 hbox hb;have BK109:=aM (hbox);have GW109:=aM ((by rw [hg];exact (below_size (by repeat (first|(with_reducible first|exact HB.out|apply zA|apply zN|apply zD)|exact HB.out))):w.heap.size ≤ gb109));have GE109:=aM ((by rw [hg];exact (below_size (by repeat (first|(with_reducible first|exact HB.out|apply zA|apply zN|apply zD)|exact HB.out))):w.heap.size ≤ gb109));replace HB:=aM (below_step (by repeat (first|(with_reducible first|exact HB.out|apply zA|apply zN|apply zD)|exact HB.out)) hb);clear hb hbox hg;have hcz7_0:w6.cell? ⟨gb109,0,none⟩ = some (.string a0_0):=(blk_cell BK109.out 0).trans rfl;have hcz7_1:w6.cell? ⟨gb109,1,none⟩ = some (.string a0_1):=(blk_cell BK109.out 1).trans rfl;have hfz7_0:=blk_frozen BK109.out 0;have hfz7_1:=blk_frozen BK109.out 1;have p5:0 ≤ (a1:Int):=of_decide_eq_true (by first|(with_reducible assumption)|assumption);have q5:a1 < (a0_0.size:Int):=of_decide_eq_true (by first|(with_reducible assumption)|assumption);have hx5:=bt_at a0_0 a1;replace p5:=eq_true p5;replace q5:=eq_true q5))
   repeat (go_quiet (first|((with_reducible refine gate_dst (N:=2) rfl ?_);refine box_event ?hg (N:=2) ?hd (cs:=#[.string a0_0,.string a0_1]) (t:=27) ?hr ?_;(case hd=>rfl);(case hg=>rfl);(case hr=>first|(go_simp;done)|(go_simp;rfl));intro gb109 hg w6 hbox hb;have BK109:=aM (hbox);have GW109:=aM ((by rw [hg];exact (below_size (by repeat (first|(with_reducible first|exact HB.out|apply zA|apply zN|apply zD)|exact HB.out))):w.heap.size ≤ gb109));have GE109:=aM ((by rw [hg];exact (below_size (by repeat (first|(with_reducible first|exact HB.out|apply zA|apply zN|apply zD)|exact HB.out))):w.heap.size ≤ gb109));replace HB:=aM (below_step (by repeat (first|(with_reducible first|exact HB.out|apply zA|apply zN|apply zD)|exact HB.out)) hb);clear hb hbox hg;have hcz7_0:w6.cell? ⟨gb109,0,none⟩ = some (.string a0_0):=(blk_cell BK109.out 0).trans rfl;have hcz7_1:w6.cell? ⟨gb109,1,none⟩ = some (.string a0_1):=(blk_cell BK109.out 1).trans rfl;have hfz7_0:=blk_frozen BK109.out 0;have hfz7_1:=blk_frozen BK109.out 1;have p5:0 ≤ (a1:Int):=of_decide_eq_true (by first|(with_reducible assumption)|assumption);have q5:a1 < (a0_0.size:Int):=of_decide_eq_true (by first|(with_reducible assumption)|assumption);have hx5:=bt_at a0_0 a1;replace p5:=eq_true p5;replace q5:=eq_true q5));try go_wp2_with (first|((with_reducible refine gate_dst (N:=2) rfl ?_);refine box_event ?hg (N:=2) ?hd (cs:=#[.string a0_0,.string a0_1]) (t:=27) ?hr ?_;(case hd=>rfl);(case hg=>rfl);(case hr=>first|(go_simp;done)|(go_simp;rfl));intro gb109 hg w6 hbox hb;have BK109:=aM (hbox);have GW109:=aM ((by rw [hg];exact (below_size (by repeat (first|(with_reducible first|exact HB.out|apply zA|apply zN|apply zD)|exact HB.out))):w.heap.size ≤ gb109));have GE109:=aM ((by rw [hg];exact (below_size (by repeat (first|(with_reducible first|exact HB.out|apply zA|apply zN|apply zD)|exact HB.out))):w.heap.size ≤ gb109));replace HB:=aM (below_step (by repeat (first|(with_reducible first|exact HB.out|apply zA|apply zN|apply zD)|exact HB.out)) hb);clear hb hbox hg;have hcz7_0:w6.cell? ⟨gb109,0,none⟩ = some (.string a0_0):=(blk_cell BK109.out 0).trans rfl;have hcz7_1:w6.cell? ⟨gb109,1,none⟩ = some (.string a0_1):=(blk_cell BK109.out 1).trans rfl;have hfz7_0:=blk_frozen BK109.out 0;have hfz7_1:=blk_frozen BK109.out 1;have p5:0 ≤ (a1:Int):=of_decide_eq_true (by first|(with_reducible assumption)|assumption);have q5:a1 < (a0_0.size:Int):=of_decide_eq_true (by first|(with_reducible assumption)|assumption);have hx5:=bt_at a0_0 a1;replace p5:=eq_true p5;replace q5:=eq_true q5)))
   go_ret
   exact ⟨by first|rfl|(simp [errW_none,errW_some] <;> rfl)|(simp [*,errW_none,errW_some] <;> rfl),by repeat (first|(with_reducible first|exact HB.out|apply zA|apply zN|apply zD|refine zS ?_ GE109.out)|exact HB.out)⟩
  ·rw [if_neg c4] at H
   exact absurd H (by simp)
 ·rw [if_neg c3] at H
  have c3b0:decide (a1 < (a0_0.size:Int)) = false:=decide_eq_false c3
  clear c3
  by_cases c8:(a0_1.size:Int) = 0
  ·rw [if_pos c8] at H
   exact absurd H (by simp)
  ·rw [if_neg c8] at H
   have c8b0:((a0_1.size:Int) == 0) = false:=beq_eq_false_iff_ne.mpr c8
   have c8b1:((a0_1.size:Int) != 0) = true:=bne_iff_ne.mpr c8
   obtain ⟨ji9,hji9⟩:∃ j_:Int,(Int.tmod (wrap64 (a1 - (a0_0.size:Int))) (a0_1.size:Int)) = j_:=⟨_,rfl⟩
   replace H:(if 0 ≤ (ji9) then (if (ji9) < (a0_1.size:Int) then (some (bt a0_1 (ji9))) else (none)) else (none)) = some r:=by first|(rw [hji9] at H;exact H)|(simp only [hji9] at H ⊢;exact H)
   by_cases c10:0 ≤ (ji9)
   ·rw [if_pos c10] at H
    have c10b0:decide (0 ≤ (ji9)) = true:=decide_eq_true c10
    clear c10
    by_cases c11:(ji9) < (a0_1.size:Int)
    ·rw [if_pos c11] at H
     have c11b0:decide ((ji9) < (a0_1.size:Int)) = true:=decide_eq_true c11
     clear c11
     obtain rfl:=Option.some.inj H
     go_enter Try.func20,Try.ntmps20
     go_wp2_with (first|((with_reducible refine gate_dst (N:=2) rfl ?_);refine box_event ?hg (N:=2) ?hd (cs:=#[.string a0_0,.string a0_1]) (t:=27) ?hr ?_;(case hd=>rfl);(case hg=>rfl);(case hr=>first|(go_simp;done)|(go_simp;rfl));intro gb109 hg w13 hbox hb;have BK109:=aM (hbox);have GW109:=wl hg HB;have GE109:=wl hg HB;replace HB:=bs HB hb;clear hb hbox hg;have⟨a0,a1,b0,b1⟩:=q2f BK109;have p12:0 ≤ ((ji9):Int):=of_decide_eq_true (by first|(with_reducible assumption)|assumption);have q12:(ji9) < (a0_1.size:Int):=of_decide_eq_true (by first|(with_reducible assumption)|assumption);have hx12:=bt_at a0_1 (ji9);replace p12:=eq_true p12;replace q12:=eq_true q12))
     repeat (go_quiet (first|((with_reducible refine gate_dst (N:=2) rfl ?_);refine box_event ?hg (N:=2) ?hd (cs:=#[.string a0_0,.string a0_1]) (t:=27) ?hr ?_;(case hd=>rfl);(case hg=>rfl);(case hr=>first|(go_simp;done)|(go_simp;rfl));intro gb109 hg w13 hbox hb;have BK109:=aM (hbox);have GW109:=wl hg HB;have GE109:=wl hg HB;replace HB:=bs HB hb;clear hb hbox hg;have⟨a0,a1,b0,b1⟩:=q2f BK109;have p12:0 ≤ ((ji9):Int):=of_decide_eq_true (by first|(with_reducible assumption)|assumption);have q12:(ji9) < (a0_1.size:Int):=of_decide_eq_true (by first|(with_reducible assumption)|assumption);have hx12:=bt_at a0_1 (ji9);replace p12:=eq_true p12;replace q12:=eq_true q12));try go_wp2_with (first|((with_reducible refine gate_dst (N:=2) rfl ?_);refine box_event ?hg (N:=2) ?hd (cs:=#[.string a0_0,.string a0_1]) (t:=27) ?hr ?_;(case hd=>rfl);(case hg=>rfl);(case hr=>first|(go_simp;done)|(go_simp;rfl));intro gb109 hg w13 hbox hb;have BK109:=aM (hbox);have GW109:=wl hg HB;have GE109:=wl hg HB;replace HB:=bs HB hb;clear hb hbox hg;have⟨a0,a1,b0,b1⟩:=q2f BK109;have p12:0 ≤ ((ji9):Int):=of_decide_eq_true (by first|(with_reducible assumption)|assumption);have q12:(ji9) < (a0_1.size:Int):=of_decide_eq_true (by first|(with_reducible assumption)|assumption);have hx12:=bt_at a0_1 (ji9);replace p12:=eq_true p12;replace q12:=eq_true q12)))
     go_ret
     exact ⟨by first|rfl|(simp [errW_none,errW_some] <;> rfl)|(simp only [← hji9];first|rfl|(simp [errW_none,errW_some] <;> rfl))|(simp [*,errW_none,errW_some] <;> rfl),bb HB⟩
    ·rw [if_neg c11] at H
     exact absurd H (by simp)
   ·rw [if_neg c10] at H
    exact absurd H (by simp)
def spec_l01Shift.f (a0_0:ByteArray) (a0_1:ByteArray):Option (ByteArray × ByteArray):=if a0_0.toList = ([]:List UInt8) then (if 1 ≤ (a0_1.size:Int) then (if 0 ≤ 1 then (if (a0_1.extract 1 a0_1.size).size + (a0_1.extract 0 1).size ≤ 9223372036854775807 then (some ((⟨#[]⟩:ByteArray),(a0_1.extract 1 a0_1.size) ++ (a0_1.extract 0 1))) else (none)) else (none)) else (none)) else (if 1 ≤ (a0_0.size:Int) then (some (a0_0.extract 1 a0_0.size,a0_1)) else (none))
def spec_l01Shift.T3:Bool × List (List Nat × List Nat):=(true,[([],[]),([0],[0]),([1],[1]),([],[]),([3],[3]),([4],[4]),([2,5],[2,5]),([6],[6]),([7,0,1,2,3,4,5,6,7],[7])])
def spec_l01Shift.B3:List Nat:=[0,1,3,0,8,24,63,127,255]
theorem spec_l01Shift.tab3:rtab .any (opsOf Try.f21 3) = spec_l01Shift.T3:=by kernel_rfl
theorem spec_l01Shift.bits3:waitsOk spec_l01Shift.T3.2 spec_l01Shift.B3 = true:=by kernel_rfl
set_option maxHeartbeats 8000000 in
set_option maxRecDepth 100000 in
theorem spec_l01Shift.calls (a0_0:ByteArray) (a0_1:ByteArray) (r1:ByteArray) (r2:ByteArray) (w:World) (h:spec_l01Shift.f a0_0 a0_1 = some (r1,r2)) :
  Calls Try.prog 21 #[.agg #[.string a0_0,.string a0_1]] w fun e w'=>e = .returned (.agg #[.string r1,.string r2]) ∧ Below w.heap.size w w':=by
 have hu27:=Try.underlying27
 have HB:=aM (Below.refl w.heap.size w)
 have H:(if a0_0.toList = ([]:List UInt8) then (if 1 ≤ (a0_1.size:Int) then (if 0 ≤ 1 then (if (a0_1.extract 1 a0_1.size).size + (a0_1.extract 0 1).size ≤ 9223372036854775807 then (some ((⟨#[]⟩:ByteArray),(a0_1.extract 1 a0_1.size) ++ (a0_1.extract 0 1))) else (none)) else (none)) else (none)) else (if 1 ≤ (a0_0.size:Int) then (some (a0_0.extract 1 a0_0.size,a0_1)) else (none))) = some (r1,r2):=h
 clear h
 by_cases c2:a0_0.toList = ([]:List UInt8)
 ·rw [if_pos c2] at H
  have c2b0:(a0_0.toList == ([]:List UInt8)) = true:=beq_iff_eq.mpr c2
  have c2b1:(a0_0.toList != ([]:List UInt8)) = false:=bne_eq_false_iff_eq.mpr c2
  clear c2
  by_cases c3:1 ≤ (a0_1.size:Int)
  ·rw [if_pos c3] at H
   have c3b0:=eq_true c3
   have c3b1:decide (1 ≤ (a0_1.size:Int)) = true:=decide_eq_true c3
   clear c3
   by_cases c4:0 ≤ 1
   ·rw [if_pos c4] at H
    have c4b0:=eq_true c4
    have c4b1:decide (0 ≤ 1) = true:=decide_eq_true c4
    clear c4
    have c5b0:=eq_true (of_decide_eq_true (by first|(with_reducible assumption)|assumption):1 ≤ (a0_1.size:Int))
    by_cases c6:(a0_1.extract 1 a0_1.size).size + (a0_1.extract 0 1).size ≤ 9223372036854775807
    ·rw [if_pos c6] at H
     have c6b0:=eq_true c6
     have c6b1:decide ((a0_1.extract 1 a0_1.size).size + (a0_1.extract 0 1).size ≤ 9223372036854775807) = true:=decide_eq_true c6
     try have c6b2:(9223372036854775807 < (a0_1.extract 1 a0_1.size).size + (a0_1.extract 0 1).size) = False:=eq_false (Nat.not_lt.2 c6)
     try (have c6b3:=c6;simp at c6b3;have c6b4:=eq_false (Nat.not_lt.2 c6b3))
     simp only [Option.some.injEq,Prod.mk.injEq] at H
     obtain ⟨rfl,rfl⟩:=H
     go_enter Try.func21,Try.ntmps21
     try go_wp2_with (first|((with_reducible refine gate_dst (N:=1) rfl ?_);refine box_event ?hg (N:=1) ?hd (cs:=#[.string a0_0,.string a0_1]) (t:=27) ?hr ?_;(case hd=>rfl);(case hg=>rfl);(case hr=>first|(go_simp;done)|(go_simp;rfl));intro gb110 hg w7 hbox hb;have BK110:=aM (hbox);have GW110:=wl hg HB;have GE110:=wl hg HB;replace HB:=bs HB hb;clear hb hbox hg)|((with_reducible refine gate_dst (N:=2) rfl ?_);refine box_event ?hg (N:=2) ?hd (cs:=#[.string ⟨#[]⟩,.string ⟨#[]⟩]) (t:=27) ?hr ?_;(case hd=>rfl);(case hg=>rfl);(case hr=>first|(go_simp;done)|(go_simp;rfl));intro gb111 hg w8 hbox hb;have BK111:=aM (hbox);have GW111:=wl hg HB;have GE111:=wl hg HB;have NB110_111:=nl hg BK110;have NB111_110:=nr hg BK110;replace BK110:=kb BK110 hb;replace HB:=bs HB hb;clear hb hbox hg;have hnb9:=NB110_111.out;have hnc9:=NB111_110.out;have⟨a0,a1,b0,b1⟩:=q2f BK110))
     replace BK110:=aM (yD BK110.out);replace BK111:=aM (yD BK111.out);replace HB:=aM (zD HB.out)
     refine start_ (n:=9) (S:=fun w'=>w'.cell? ⟨gb110,0,none⟩ = some (.string a0_0) ∧ w'.cell? ⟨gb110,1,none⟩ = some (.string a0_1)) (ds:=[]) #[fF,fF,fF,fF,fF,fF,fF,fF,fF] (by kernel_rfl) rfl rfl ⟨(blk_cell BK110.out 0).trans rfl,(blk_cell BK110.out 1).trans rfl⟩ (fun hHeld=>?_);refine with_tabW spec_l01Shift.tab3 spec_l01Shift.bits3 (fun HT_ HW_=>?_)
     generalize w8.drew = w11 at BK110 BK111 HB hHeld ⊢
     refine pure_ (i:=0) (N:=some 12) (v:=?_) (a':=?_) #[tT,fF,fF,fF,fF,fF,fF,fF,fF] rfl rfl (any_of HT_.out (by kernel_rfl)) (fun _ _ _ h=>h) (Or.inl ⟨by rfl,?_⟩) ?_ ?_
     rotate_left
     ·intro w'
      go_simp
      with_reducible rfl
     rotate_left
     ·simp only [Act.put,sI,sZ,sS,i64_w,i32_w]
      rfl
     refine pure_ (i:=3) (N:=some 15) (v:=?_) (a':=?_) #[tT,fF,fF,tT,fF,fF,fF,fF,fF] rfl rfl (any_of HT_.out (by kernel_rfl)) (fun _ _ _ h=>h) (Or.inl ⟨by rfl,?_⟩) ?_ ?_
     rotate_left
     ·intro w'
      go_simp
      with_reducible rfl
     rotate_left
     ·simp only [Act.put,sI,sZ,sS,i64_w,i32_w]
      rfl
     refine take_ (i:=1) (N:=some 13) (v:=?_) (a':=?_) #[tT,tT,fF,tT,fF,fF,fF,fF,fF] rfl rfl (take_ofW HT_.out HW_.out (by kernel_rfl)) (fun _ _ _ h=>h) (Or.inl ⟨by rfl,?_⟩) hHeld ?_ ?_
     rotate_left
     ·rintro w' ⟨s0,s1⟩
      go_simp
      with_reducible rfl
     rotate_left
     ·simp only [Act.put,sI,sZ,sS,i64_w,i32_w]
      rfl
     refine pure_ (i:=2) (N:=some 14) (v:=?_) (a':=?_) #[tT,tT,tT,tT,fF,fF,fF,fF,fF] rfl rfl (any_of HT_.out (by kernel_rfl)) (fun _ _ _ h=>h) (Or.inl ⟨by rfl,?_⟩) ?_ ?_
     rotate_left
     ·intro w'
      go_simp
      with_reducible rfl
     rotate_left
     ·simp only [Act.put,sI,sZ,sS,i64_w,i32_w]
      rfl
     refine take_ (i:=4) (N:=some 16) (v:=?_) (a':=?_) #[tT,tT,tT,tT,tT,fF,fF,fF,fF] rfl rfl (take_ofW HT_.out HW_.out (by kernel_rfl)) (fun _ _ _ h=>h) (Or.inl ⟨by rfl,?_⟩) hHeld ?_ ?_
     rotate_left
     ·rintro w' ⟨s0,s1⟩
      go_simp
      with_reducible rfl
     rotate_left
     ·simp only [Act.put,sI,sZ,sS,i64_w,i32_w]
      rfl
     refine pure_ (i:=5) (N:=some 17) (v:=?_) (a':=?_) #[tT,tT,tT,tT,tT,tT,fF,fF,fF] rfl rfl (any_of HT_.out (by kernel_rfl)) (fun _ _ _ h=>h) (Or.inl ⟨by rfl,?_⟩) ?_ ?_
     rotate_left
     ·intro w'
      go_simp
      with_reducible rfl
     rotate_left
     ·simp only [Act.put,sI,sZ,sS,i64_w,i32_w]
      rfl
     refine pure_ (i:=6) (N:=some 18) (v:=?_) (a':=?_) #[tT,tT,tT,tT,tT,tT,tT,fF,fF] rfl rfl (any_of HT_.out (by kernel_rfl)) (fun _ _ _ h=>h) (Or.inl ⟨by rfl,?_⟩) ?_ ?_
     rotate_left
     ·intro w'
      go_simp
      with_reducible rfl
     rotate_left
     ·simp only [Act.put,sI,sZ,sS,i64_w,i32_w]
      rfl
     refine pure_ (i:=7) (N:=some 19) (v:=?_) (a':=?_) #[tT,tT,tT,tT,tT,tT,tT,tT,fF] rfl rfl (any_of HT_.out (by kernel_rfl)) (fun _ _ _ h=>h) (Or.inl ⟨by rfl,?_⟩) ?_ ?_
     rotate_left
     ·intro w'
      go_simp
      with_reducible rfl
     rotate_left
     ·simp only [Act.put,sI,sZ,sS,i64_w,i32_w]
      rfl
     refine one_ (i:=8) (N:=none) #[tT,tT,tT,tT,tT,tT,tT,tT,tT] rfl rfl (one_of HT_.out (by kernel_rfl)) (by decide) (fun K hK=>?_)
     have hs12:w11.cell? ⟨gb111,0,none⟩ = some (.string ⟨#[]⟩):=(blk_cell BK111.out 0).trans rfl
     have hfs12:=blk_frozen BK111.out 0
     have hns12_0:=NB110_111.out
     have hms12_0:=NB111_110.out
     have hs13:w11.cell? ⟨gb111,1,none⟩ = some (.string ⟨#[]⟩):=(blk_cell BK111.out 1).trans rfl
     have hfs13:=blk_frozen BK111.out 1
     have hns13_0:=NB110_111.out
     have hms13_0:=NB111_110.out
     refine skip_ (w1:=?_) (by rfl) rfl ?_ ?_
     rotate_left
     ·go_simp
      rfl
     refine hK.out _ _ ⟨((cell_far (p:=⟨gb111,_,none⟩) NB110_111.out _).trans (((cell_far (p:=⟨gb111,_,none⟩) NB110_111.out _).trans (hHeld.1)))),((cell_far (p:=⟨gb111,_,none⟩) NB110_111.out _).trans (((cell_far (p:=⟨gb111,_,none⟩) NB110_111.out _).trans (hHeld.2))))⟩ (fun hHeld=>?_)
     clear hK K
     refine done_ (done_of HT_.out (by kernel_rfl)) ?_
     try go_wp2
     refine bodyPost_ret (results_cell_row rfl _ _ gb111 27 #[.string ⟨#[]⟩,.string ((a0_1.extract 1 a0_1.size) ++ (a0_1.extract 0 1))] (0,0) _ rfl (by (with_reducible repeat (first|apply yN|apply yD|apply yA));refine blk_put (cs:=#[.string ⟨#[]⟩,.string ⟨#[]⟩]) ?_ 1 _ rfl;(with_reducible repeat (first|apply yN|apply yD|apply yA));refine blk_put (cs:=#[.string ⟨#[]⟩,.string ⟨#[]⟩]) ?_ 0 _ rfl;(with_reducible repeat (first|apply yN|apply yD|apply yA));exact BK111.out) Try.underlying27 rfl (by kernel_rfl)) rfl ?_
     exact ⟨by first|rfl|(simp [errW_none,errW_some] <;> rfl)|(simp [*,errW_none,errW_some] <;> rfl),by first|exact bb HB|exact bg HB GE110|exact bg HB GE111⟩
    ·rw [if_neg c6] at H
     exact absurd H (by simp)
   ·rw [if_neg c4] at H
    exact absurd H (by simp)
  ·rw [if_neg c3] at H
   exact absurd H (by simp)
 ·rw [if_neg c2] at H
  have c2b0:(a0_0.toList == ([]:List UInt8)) = false:=beq_eq_false_iff_ne.mpr c2
  have c2b1:(a0_0.toList != ([]:List UInt8)) = true:=bne_iff_ne.mpr c2
  by_cases c14:1 ≤ (a0_0.size:Int)
  ·rw [if_pos c14] at H
   have c14b0:=eq_true c14
   have c14b1:decide (1 ≤ (a0_0.size:Int)) = true:=decide_eq_true c14
   clear c14
   simp only [Option.some.injEq,Prod.mk.injEq] at H
   obtain ⟨rfl,rfl⟩:=H
   go_enter Try.func21,Try.ntmps21
   try go_wp2_with (first|((with_reducible refine gate_dst (N:=1) rfl ?_);refine box_event ?hg (N:=1) ?hd (cs:=#[.string a0_0,.string a0_1]) (t:=27) ?hr ?_;(case hd=>rfl);(case hg=>rfl);(case hr=>first|(go_simp;done)|(go_simp;rfl));intro gb110 hg w15 hbox hb;have BK110:=aM (hbox);have GW110:=wl hg HB;have GE110:=wl hg HB;replace HB:=bs HB hb;clear hb hbox hg)|((with_reducible refine gate_dst (N:=2) rfl ?_);refine box_event ?hg (N:=2) ?hd (cs:=#[.string ⟨#[]⟩,.string ⟨#[]⟩]) (t:=27) ?hr ?_;(case hd=>rfl);(case hg=>rfl);(case hr=>first|(go_simp;done)|(go_simp;rfl));intro gb111 hg w16 hbox hb;have BK111:=aM (hbox);have GW111:=wl hg HB;have GE111:=wl hg HB;have NB110_111:=nl hg BK110;have NB111_110:=nr hg BK110;replace BK110:=kb BK110 hb;replace HB:=bs HB hb;clear hb hbox hg;have hnb17:=NB110_111.out;have hnc17:=NB111_110.out;have⟨a0,a1,b0,b1⟩:=q2f BK110))
   replace BK110:=aM (yD BK110.out);replace BK111:=aM (yD BK111.out);replace HB:=aM (zD HB.out)
   refine start_ (n:=7) (S:=fun w'=>w'.cell? ⟨gb110,0,none⟩ = some (.string a0_0) ∧ w'.cell? ⟨gb110,1,none⟩ = some (.string a0_1)) (ds:=[]) #[fF,fF,fF,fF,fF,fF,fF] (by kernel_rfl) rfl rfl ⟨(blk_cell BK110.out 0).trans rfl,(blk_cell BK110.out 1).trans rfl⟩ (fun hHeld=>?_)
   generalize w16.drew = w19 at BK110 BK111 HB hHeld ⊢
   refine pure_ (i:=0) (N:=some 6) (v:=?_) (a':=?_) #[tT,fF,fF,fF,fF,fF,fF] rfl rfl (by kernel_rfl) (fun _ _ _ h=>h) (Or.inl ⟨by rfl,?_⟩) ?_ ?_
   rotate_left
   ·intro w'
    go_simp
    with_reducible rfl
   rotate_left
   ·simp only [Act.put,sI,sZ,sS,i64_w,i32_w]
    rfl
   refine pure_ (i:=3) (N:=some 9) (v:=?_) (a':=?_) #[tT,fF,fF,tT,fF,fF,fF] rfl rfl (by kernel_rfl) (fun _ _ _ h=>h) (Or.inl ⟨by rfl,?_⟩) ?_ ?_
   rotate_left
   ·intro w'
    go_simp
    with_reducible rfl
   rotate_left
   ·simp only [Act.put,sI,sZ,sS,i64_w,i32_w]
    rfl
   refine take_ (i:=1) (N:=some 7) (v:=?_) (a':=?_) #[tT,tT,fF,tT,fF,fF,fF] rfl rfl (by kernel_rfl) (fun _ _ _ h=>h) (Or.inl ⟨by rfl,?_⟩) hHeld ?_ ?_
   rotate_left
   ·rintro w' ⟨s0,s1⟩
    go_simp
    with_reducible rfl
   rotate_left
   ·simp only [Act.put,sI,sZ,sS,i64_w,i32_w]
    rfl
   refine pure_ (i:=2) (N:=some 8) (v:=?_) (a':=?_) #[tT,tT,tT,tT,fF,fF,fF] rfl rfl (by kernel_rfl) (fun _ _ _ h=>h) (Or.inl ⟨by rfl,?_⟩) ?_ ?_
   rotate_left
   ·intro w'
    go_simp
    with_reducible rfl
   rotate_left
   ·simp only [Act.put,sI,sZ,sS,i64_w,i32_w]
    rfl
   refine take_ (i:=4) (N:=some 10) (v:=?_) (a':=?_) #[tT,tT,tT,tT,tT,fF,fF] rfl rfl (by kernel_rfl) (fun _ _ _ h=>h) (Or.inl ⟨by rfl,?_⟩) hHeld ?_ ?_
   rotate_left
   ·rintro w' ⟨s0,s1⟩
    go_simp
    with_reducible rfl
   rotate_left
   ·simp only [Act.put,sI,sZ,sS,i64_w,i32_w]
    rfl
   refine pure_ (i:=5) (N:=some 11) (v:=?_) (a':=?_) #[tT,tT,tT,tT,tT,tT,fF] rfl rfl (by kernel_rfl) (fun _ _ _ h=>h) (Or.inl ⟨by rfl,?_⟩) ?_ ?_
   rotate_left
   ·intro w'
    go_simp
    with_reducible rfl
   rotate_left
   ·simp only [Act.put,sI,sZ,sS,i64_w,i32_w]
    rfl
   refine one_ (i:=6) (N:=none) #[tT,tT,tT,tT,tT,tT,tT] rfl rfl (by kernel_rfl) (by decide) (fun K hK=>?_)
   have hs20:w19.cell? ⟨gb111,0,none⟩ = some (.string ⟨#[]⟩):=(blk_cell BK111.out 0).trans rfl
   have hfs20:=blk_frozen BK111.out 0
   have hns20_0:=NB110_111.out
   have hms20_0:=NB111_110.out
   have hs21:w19.cell? ⟨gb111,1,none⟩ = some (.string ⟨#[]⟩):=(blk_cell BK111.out 1).trans rfl
   have hfs21:=blk_frozen BK111.out 1
   have hns21_0:=NB110_111.out
   have hms21_0:=NB111_110.out
   refine skip_ (w1:=?_) (by rfl) rfl ?_ ?_
   rotate_left
   ·go_simp
    rfl
   refine hK.out _ _ ⟨((cell_far (p:=⟨gb111,_,none⟩) NB110_111.out _).trans (((cell_far (p:=⟨gb111,_,none⟩) NB110_111.out _).trans (hHeld.1)))),((cell_far (p:=⟨gb111,_,none⟩) NB110_111.out _).trans (((cell_far (p:=⟨gb111,_,none⟩) NB110_111.out _).trans (hHeld.2))))⟩ (fun hHeld=>?_)
   clear hK K
   refine done_ (by kernel_rfl) ?_
   try go_wp2
   refine bodyPost_ret (results_cell_row rfl _ _ gb111 27 #[.string (a0_0.extract 1 a0_0.size),.string a0_1] (0,0) _ rfl (by (with_reducible repeat (first|apply yN|apply yD|apply yA));refine blk_put (cs:=#[.string (a0_0.extract 1 a0_0.size),.string ⟨#[]⟩]) ?_ 1 _ rfl;(with_reducible repeat (first|apply yN|apply yD|apply yA));refine blk_put (cs:=#[.string ⟨#[]⟩,.string ⟨#[]⟩]) ?_ 0 _ rfl;(with_reducible repeat (first|apply yN|apply yD|apply yA));exact BK111.out) Try.underlying27 rfl (by kernel_rfl)) rfl ?_
   exact ⟨by first|rfl|(simp [errW_none,errW_some] <;> rfl)|(simp [*,errW_none,errW_some] <;> rfl),by first|exact bb HB|exact bg HB GE110|exact bg HB GE111⟩
  ·rw [if_neg c14] at H
   exact absurd H (by simp)
end Go.Proofs.Ytbiehbmojbmnoaa.Q
end
section
namespace Go.Proofs.Ytbiehbmojbmnoaa.Q
open Go.Proofs.YtbiehbmojbmnoaaW.Ext
open Go.RowKit Go.Proofs.YtbiehbmojbmnoaaW.PrintWords Go.Proofs.YtbiehbmojbmnoaaW.PrintLast Go.Proofs.YtbiehbmojbmnoaaW.PrintMore
attribute [local go_sem] max2_int min2_int max_two min_two max_three min_three max_four min_four   -- for this text's walks alone
set_option linter.unusedVariables false
set_option linter.unusedSimpArgs false
attribute [local go_sem high] eqA27
def spec_l06Point.l0:Nat → Int → ByteArray → ByteArray → ByteArray → ByteArray → ByteArray → ByteArray → Option (Bool)
 | 0,_,_,_,_,_,_,_=>none
 | k + 1,x6,x113000,x113001,x114000,x114001,x115000,x115001=>if x6 < (wrap64 ((x114000.size:Int) + (x114001.size:Int))) then ((spec_l01Shift.f x115000 x115001).bind fun bt115=>((spec_l01At.f x115000 x115001 0).bind fun t118=>(if t118 = 42 then (if (!(bt115.1.toList == x113000.toList) || (!(bt115.2.toList == x113001.toList))) = true then (some false) else (spec_l06Point.l0 k (wrap64 (x6 + 1)) x113000 x113001 x114000 x114001 bt115.1 bt115.2)) else (spec_l06Point.l0 k (wrap64 (x6 + 1)) x113000 x113001 x114000 x114001 bt115.1 bt115.2)))) else (some true)
def spec_l06Point.f (k:Nat) (a0_0:ByteArray) (a0_1:ByteArray) (a1_0:ByteArray) (a1_1:ByteArray):Option (Bool):=spec_l06Point.l0 k 0 a0_0 a0_1 a1_0 a1_1 a1_0 a1_1
theorem spec_l06Point.mono_l:∀ k,(∀ y0 y1 y2 y3 y4 y5 y6,LeO (spec_l06Point.l0 k y0 y1 y2 y3 y4 y5 y6) (spec_l06Point.l0 (k + 1) y0 y1 y2 y3 y4 y5 y6))
 | 0=>fun _ _ _ _ _ _ _ r h=>by simp [spec_l06Point.l0] at h
 | k + 1=>by
  have ih0:=spec_l06Point.mono_l k
  ·intro y0 y1 y2 y3 y4 y5 y6
   unfold spec_l06Point.l0
   repeat' first
   | (with_reducible exact ih0 _ _ _ _ _ _ _)
   | (with_reducible exact LeO.refl _)
   | (with_reducible exact LeO.none _)
   | (with_reducible refine LeO.ite ?_ ?_)
   | (with_reducible refine LeO.bind ?_ (fun _=>?_))
   | exact ih0 _ _ _ _ _ _ _
   | exact LeO.none _
   | refine LeO.ite ?_ ?_
   | refine LeO.bind ?_ (fun _=>?_)
theorem spec_l06Point.mono:∀ a0 a1 a2 a3 k,LeO (spec_l06Point.f k a0 a1 a2 a3) (spec_l06Point.f (k + 1) a0 a1 a2 a3):=by
 intro a0 a1 a2 a3 k
 have ih0:=spec_l06Point.mono_l k
 unfold spec_l06Point.f
 repeat' first
   | (with_reducible exact ih0 _ _ _ _ _ _ _)
   | (with_reducible exact LeO.refl _)
   | (with_reducible exact LeO.none _)
   | (with_reducible refine LeO.ite ?_ ?_)
   | (with_reducible refine LeO.bind ?_ (fun _=>?_))
   | exact ih0 _ _ _ _ _ _ _
   | exact LeO.none _
   | refine LeO.ite ?_ ?_
   | refine LeO.bind ?_ (fun _=>?_)
set_option maxHeartbeats 8000000 in
set_option maxRecDepth 100000 in
theorem spec_l06Point.calls (k:Nat) (a0_0:ByteArray) (a0_1:ByteArray) (a1_0:ByteArray) (a1_1:ByteArray) (r:Bool) (w:World) (h:spec_l06Point.f k a0_0 a0_1 a1_0 a1_1 = some r) :
  Calls Try.prog 30 #[.agg #[.string a0_0,.string a0_1],.agg #[.string a1_0,.string a1_1]] w fun e w'=>e = .returned (.bool r) ∧ Below w.heap.size w w':=by
 have hu27:=Try.underlying27
 have HB:=aM (Below.refl w.heap.size w)
 have H:(spec_l06Point.l0 k 0 a0_0 a0_1 a1_0 a1_1 a1_0 a1_1) = some r:=h
 clear h
 have H':=aM H
 clear H
 go_enter Try.func30,Try.ntmps30
 go_wp2_with (first|((with_reducible refine gate_dst (N:=2) rfl ?_);refine box_event ?hg (N:=2) ?hd (cs:=#[.string a0_0,.string a0_1]) (t:=27) ?hr ?_;(case hd=>rfl);(case hg=>rfl);(case hr=>first|(go_simp;done)|(go_simp;rfl));intro gb112 hg w3 hbox hb;have BK112:=aM (hbox);have GW112:=wl hg HB;have GE112:=wl hg HB;replace HB:=bs HB hb;clear hb hbox hg)|((with_reducible refine gate_dst (N:=3) rfl ?_);refine box_event ?hg (N:=3) ?hd (cs:=#[.string a1_0,.string a1_1]) (t:=27) ?hr ?_;(case hd=>rfl);(case hg=>rfl);(case hr=>first|(go_simp;done)|(go_simp;rfl));intro gb113 hg w4 hbox hb;have BK113:=aM (hbox);have GW113:=wl hg HB;have GE113:=wl hg HB;have NB112_113:=nl hg BK112;have NB113_112:=nr hg BK112;replace BK112:=kb BK112 hb;replace HB:=bs HB hb;clear hb hbox hg;have hnb5:=NB113_112.out;have hnc5:=NB112_113.out;have⟨a0,a1,b0,b1⟩:=q2f BK113)|((with_reducible refine gate_dst (N:=5) rfl ?_);refine box_event ?hg (N:=5) ?hd (cs:=#[.string ⟨#[]⟩,.string ⟨#[]⟩]) (t:=27) ?hr ?_;(case hd=>rfl);(case hg=>rfl);(case hr=>first|(go_simp;done)|(go_simp;rfl));intro gb114 hg w7 hbox hb;have BK114:=aM (hbox);have GW114:=wl hg HB;have GE114:=wl hg HB;have NB112_114:=nl hg BK112;have NB114_112:=nr hg BK112;have NB113_114:=nl hg BK113;have NB114_113:=nr hg BK113;replace BK112:=kb BK112 hb;replace BK113:=kb BK113 hb;replace HB:=bs HB hb;clear hb hbox hg;have hnb8:=NB114_112.out;have hnc8:=NB112_114.out;have hnb9:=NB114_113.out;have hnc9:=NB113_114.out;have⟨a0,a1,b0,b1⟩:=q2f BK114))
 go_loopg [6] k (fun kq v6 w'=>∃ (x6_1:Int) (x115000_1:ByteArray) (x115001_1:ByteArray),v6 = .int .i64 x6_1 ∧ Aside0 (spec_l06Point.l0 kq x6_1 a0_0 a0_1 a1_0 a1_1 x115000_1 x115001_1 = some r) ∧ Aside0 (kq ≤ k) ∧ Aside0 (w'.heap[gb112]? = some (.cells #[.string a0_0,.string a0_1] 27 (0,0))) ∧ Aside0 (w'.heap[gb113]? = some (.cells #[.string a1_0,.string a1_1] 27 (0,0))) ∧ Aside0 (w'.heap[gb114]? = some (.cells #[.string x115000_1,.string x115001_1] 27 (0,0))) ∧ Aside0 (Below w.heap.size w w'))
 case atStart=>exact ⟨(0),(a1_0),(a1_1),(by first|rfl|(simp;done)|(simp [*];done)),H',⟨Nat.le_refl _⟩,⟨bf BK112 NB112_114⟩,⟨bf BK113 NB113_114⟩,⟨by (with_reducible repeat (first|apply yN|apply yD|apply yA));refine blk_put (cs:=#[.string a1_0,.string ⟨#[]⟩]) ?_ 1 _ rfl;(with_reducible repeat (first|apply yN|apply yD|apply yA));refine blk_put (cs:=#[.string ⟨#[]⟩,.string ⟨#[]⟩]) ?_ 0 _ rfl;(with_reducible repeat (first|apply yN|apply yD|apply yA));exact BK114.out⟩,⟨by first|exact bb HB|exact bg HB GE112|exact bg HB GE113|exact bg HB GE114⟩⟩
 case round =>
  clear H'
  try clear p2
  try clear c3
  try clear c5
  try clear c8
  try clear c9
  try clear hcz10_0
  try clear hcz10_1
  try clear hcz6_0
  try clear hcz6_1
  try clear hfz10_0
  try clear hfz10_1
  try clear hfz6_0
  try clear hfz6_1
  obtain ⟨x6_1,x115000_1,x115001_1,rfl,HA,HK1,BK112,BK113,BK114,HB⟩:=hrel
  cases gk with
  | zero=>exact absurd HA.out (by simp [spec_l06Point.l0])
  | succ k1 =>
   have H:=HA.out
   clear HA
   simp only [spec_l06Point.l0] at H
   by_cases c11:x6_1 < (wrap64 ((a1_0.size:Int) + (a1_1.size:Int)))
   ·rw [if_pos c11] at H
    have c11b0:decide (x6_1 < (wrap64 ((a1_0.size:Int) + (a1_1.size:Int)))) = true:=decide_eq_true c11
    clear c11
    replace H:=Option.bind_eq_some_iff.mp H
    obtain ⟨⟨t115,t116⟩,A120,H⟩:=H
    replace H:((spec_l01At.f x115000_1 x115001_1 0).bind fun t118=>(if t118 = 42 then (if (!(t115.toList == a0_0.toList) || (!(t116.toList == a0_1.toList))) = true then (some false) else (spec_l06Point.l0 k1 (wrap64 (x6_1 + 1)) a0_0 a0_1 a1_0 a1_1 t115 t116)) else (spec_l06Point.l0 k1 (wrap64 (x6_1 + 1)) a0_0 a0_1 a1_0 a1_1 t115 t116))) = some r:=H;have A12:=aM A120
    clear A120
    replace H:=Option.bind_eq_some_iff.mp H
    obtain ⟨t118,A130,H⟩:=H
    replace H:(if t118 = 42 then (if (!(t115.toList == a0_0.toList) || (!(t116.toList == a0_1.toList))) = true then (some false) else (spec_l06Point.l0 k1 (wrap64 (x6_1 + 1)) a0_0 a0_1 a1_0 a1_1 t115 t116)) else (spec_l06Point.l0 k1 (wrap64 (x6_1 + 1)) a0_0 a0_1 a1_0 a1_1 t115 t116)) = some r:=H;have A13:=aM A130
    clear A130
    by_cases c14:t118 = 42
    ·rw [if_pos c14] at H
     have c14b0:(t118 == 42) = true:=beq_iff_eq.mpr c14
     have c14b1:(t118 != 42) = false:=bne_eq_false_iff_eq.mpr c14
     clear c14
     by_cases c15:(!(t115.toList == a0_0.toList) || (!(t116.toList == a0_1.toList))) = true
     ·rw [if_pos c15] at H
      have c15b0:(!(t115.toList == a0_0.toList) || (!(t116.toList == a0_1.toList))) = true:=c15
      clear c15
      obtain rfl:=Option.some.inj H
      have hnb16:=NB113_112.out
      have hnc16:=NB112_113.out
      have hnb17:=NB113_114.out
      have hnc17:=NB114_113.out
      have⟨a0,a1,b0,b1⟩:=q2f BK113
      have hnb19:=NB114_112.out
      have hnc19:=NB112_114.out
      have⟨a0,a1,b0,b1⟩:=q2f BK114
      go_wp2_with (first|((with_reducible refine gate_callee (f:=21) rfl ?_);refine goesL_ (some 21) rfl rfl Try.func21 (by kernel_rfl) rfl #[.agg #[.string x115000_1,.string x115001_1]] rfl (by (try simp only [sM,sC,sN]);first|done|rfl|(simp only [List.length_drop,List.length_take];rfl)) ?_;(with_reducible refine (spec_l01Shift.calls x115000_1 x115001_1 t115 t116 _ A12.out).mono ?_);rintro e w21 ⟨rfl,hb⟩;refine ⟨_,rfl,?_⟩;replace BK112:=kb BK112 hb;replace BK113:=kb BK113 hb;replace BK114:=kb BK114 hb;replace HB:=aM (below_step (by first|exact bb HB|exact bg HB GE112|exact bg HB GE113|exact bg HB GE114) hb);(try clear hb))|((with_reducible refine gate_dst (N:=7) rfl ?_);refine box_event ?hg (N:=7) ?hd (cs:=#[.string ⟨#[]⟩,.string ⟨#[]⟩]) (t:=27) ?hr ?_;(case hd=>rfl);(case hg=>rfl);(case hr=>first|(go_simp;done)|(go_simp;rfl));intro gb117 hg w22 hbox hb;have BK117:=aM (hbox);have GW117:=aM ((by rw [hg];exact (below_size (by first|exact bb HB|exact bg HB GE112|exact bg HB GE113|exact bg HB GE114)):w.heap.size ≤ gb117));have GE117:=aM ((by rw [hg];exact (below_size (by first|exact bb HB|exact bg HB GE112|exact bg HB GE113|exact bg HB GE114)):w.heap.size ≤ gb117));have NB112_117:=nl hg BK112;have NB117_112:=nr hg BK112;have NB113_117:=nl hg BK113;have NB117_113:=nr hg BK113;have NB114_117:=nl hg BK114;have NB117_114:=nr hg BK114;replace BK112:=kb BK112 hb;replace BK113:=kb BK113 hb;replace BK114:=kb BK114 hb;replace HB:=aM (below_step (by first|exact bb HB|exact bg HB GE112|exact bg HB GE113|exact bg HB GE114) hb);clear hb hbox hg;have hnb23:=NB117_112.out;have hnc23:=NB112_117.out;have hnb24:=NB117_113.out;have hnc24:=NB113_117.out;have hnb25:=NB117_114.out;have hnc25:=NB114_117.out;have⟨a0,a1,b0,b1⟩:=q2f BK117;have⟨a0,a1,b0,b1⟩:=q2f BK114)|((with_reducible refine gate_callee (f:=20) rfl ?_);refine goesL_ (some 23) rfl rfl Try.func20 (by kernel_rfl) rfl #[.agg #[.string x115000_1,.string x115001_1],.int .i64 0] rfl (by (try simp only [sM,sC,sN]);first|done|rfl|(simp only [List.length_drop,List.length_take];rfl)) ?_;(with_reducible refine (spec_l01At.calls x115000_1 x115001_1 0 t118 _ A13.out).mono ?_);rintro e w28 ⟨rfl,hb⟩;refine ⟨_,rfl,?_⟩;replace BK112:=kf BK112 NB112_117 hb;replace BK113:=kf BK113 NB113_117 hb;replace BK114:=kf BK114 NB114_117 hb;replace BK117:=aM (blk_below (g:=gb117) (o:=.cells #[.string t115,.string t116] 27 (0,0)) (by (with_reducible repeat (first|apply yN|apply yD|apply yA));refine blk_put (cs:=#[.string t115,.string ⟨#[]⟩]) ?_ 1 _ rfl;(with_reducible repeat (first|apply yN|apply yD|apply yA));refine blk_put (cs:=#[.string ⟨#[]⟩,.string ⟨#[]⟩]) ?_ 0 _ rfl;(with_reducible repeat (first|apply yN|apply yD|apply yA));exact BK117.out) hb);replace HB:=aM (below_step (by first|exact bb HB|exact bg HB GE112|exact bg HB GE113|exact bg HB GE114|exact bg HB GE117) hb);(try clear hb);have⟨a0,a1,b0,b1⟩:=q2f BK117;have⟨a0,a1,b0,b1⟩:=q2f BK112))
      go_ret
      exact ⟨by first|rfl|(simp [errW_none,errW_some] <;> rfl)|(simp [*,errW_none,errW_some] <;> rfl),bb HB⟩
     ·rw [if_neg c15] at H
      have c15b0:(!(t115.toList == a0_0.toList) || (!(t116.toList == a0_1.toList))) = false:=by simpa using c15
      clear c15
      have H':=aM H
      clear H
      have hnb31:=NB113_112.out
      have hnc31:=NB112_113.out
      have hnb32:=NB113_114.out
      have hnc32:=NB114_113.out
      have⟨a0,a1,b0,b1⟩:=q2f BK113
      have hnb34:=NB114_112.out
      have hnc34:=NB112_114.out
      have⟨a0,a1,b0,b1⟩:=q2f BK114
      go_wp2_with (first|((with_reducible refine gate_callee (f:=21) rfl ?_);refine goesL_ (some 21) rfl rfl Try.func21 (by kernel_rfl) rfl #[.agg #[.string x115000_1,.string x115001_1]] rfl (by (try simp only [sM,sC,sN]);first|done|rfl|(simp only [List.length_drop,List.length_take];rfl)) ?_;(with_reducible refine (spec_l01Shift.calls x115000_1 x115001_1 t115 t116 _ A12.out).mono ?_);rintro e w36 ⟨rfl,hb⟩;refine ⟨_,rfl,?_⟩;replace BK112:=kb BK112 hb;replace BK113:=kb BK113 hb;replace BK114:=kb BK114 hb;replace HB:=aM (below_step (by first|exact bb HB|exact bg HB GE112|exact bg HB GE113|exact bg HB GE114) hb);(try clear hb))|((with_reducible refine gate_dst (N:=7) rfl ?_);refine box_event ?hg (N:=7) ?hd (cs:=#[.string ⟨#[]⟩,.string ⟨#[]⟩]) (t:=27) ?hr ?_;(case hd=>rfl);(case hg=>rfl);(case hr=>first|(go_simp;done)|(go_simp;rfl));intro gb117 hg w37 hbox hb;have BK117:=aM (hbox);have GW117:=aM ((by rw [hg];exact (below_size (by first|exact bb HB|exact bg HB GE112|exact bg HB GE113|exact bg HB GE114)):w.heap.size ≤ gb117));have GE117:=aM ((by rw [hg];exact (below_size (by first|exact bb HB|exact bg HB GE112|exact bg HB GE113|exact bg HB GE114)):w.heap.size ≤ gb117));have NB112_117:=nl hg BK112;have NB117_112:=nr hg BK112;have NB113_117:=nl hg BK113;have NB117_113:=nr hg BK113;have NB114_117:=nl hg BK114;have NB117_114:=nr hg BK114;replace BK112:=kb BK112 hb;replace BK113:=kb BK113 hb;replace BK114:=kb BK114 hb;replace HB:=aM (below_step (by first|exact bb HB|exact bg HB GE112|exact bg HB GE113|exact bg HB GE114) hb);clear hb hbox hg;have hnb38:=NB117_112.out;have hnc38:=NB112_117.out;have hnb39:=NB117_113.out;have hnc39:=NB113_117.out;have hnb40:=NB117_114.out;have hnc40:=NB114_117.out;have⟨a0,a1,b0,b1⟩:=q2f BK117;have⟨a0,a1,b0,b1⟩:=q2f BK114)|((with_reducible refine gate_callee (f:=20) rfl ?_);refine goesL_ (some 23) rfl rfl Try.func20 (by kernel_rfl) rfl #[.agg #[.string x115000_1,.string x115001_1],.int .i64 0] rfl (by (try simp only [sM,sC,sN]);first|done|rfl|(simp only [List.length_drop,List.length_take];rfl)) ?_;(with_reducible refine (spec_l01At.calls x115000_1 x115001_1 0 t118 _ A13.out).mono ?_);rintro e w43 ⟨rfl,hb⟩;refine ⟨_,rfl,?_⟩;replace BK112:=kf BK112 NB112_117 hb;replace BK113:=kf BK113 NB113_117 hb;replace BK114:=kf BK114 NB114_117 hb;replace BK117:=aM (blk_below (g:=gb117) (o:=.cells #[.string t115,.string t116] 27 (0,0)) (by (with_reducible repeat (first|apply yN|apply yD|apply yA));refine blk_put (cs:=#[.string t115,.string ⟨#[]⟩]) ?_ 1 _ rfl;(with_reducible repeat (first|apply yN|apply yD|apply yA));refine blk_put (cs:=#[.string ⟨#[]⟩,.string ⟨#[]⟩]) ?_ 0 _ rfl;(with_reducible repeat (first|apply yN|apply yD|apply yA));exact BK117.out) hb);replace HB:=aM (below_step (by first|exact bb HB|exact bg HB GE112|exact bg HB GE113|exact bg HB GE114|exact bg HB GE117) hb);(try clear hb);have⟨a0,a1,b0,b1⟩:=q2f BK117;have⟨a0,a1,b0,b1⟩:=q2f BK112;have⟨a0,a1,b0,b1⟩:=q2f BK114))
      go_roundg k1
      case measure=>have:=HK1.out;omega
      case rel=>exact ⟨(wrap64 (x6_1 + 1)),(t115),(t116),(by first|rfl|(simp;done)|(simp [*];done)),H',⟨by have:=HK1.out;omega⟩,⟨bf BK112 NB112_114⟩,⟨bf BK113 NB113_114⟩,⟨by (with_reducible repeat (first|apply yN|apply yD|apply yA));refine blk_put (cs:=#[.string t115,.string x115001_1]) ?_ 1 _ rfl;(with_reducible repeat (first|apply yN|apply yD|apply yA));refine blk_put (cs:=#[.string x115000_1,.string x115001_1]) ?_ 0 _ rfl;(with_reducible repeat (first|apply yN|apply yD|apply yA));exact BK114.out⟩,⟨by first|exact bb HB|exact bg HB GE112|exact bg HB GE113|exact bg HB GE114|exact bg HB GE117⟩⟩
    ·rw [if_neg c14] at H
     have c14b0:(t118 == 42) = false:=beq_eq_false_iff_ne.mpr c14
     have c14b1:(t118 != 42) = true:=bne_iff_ne.mpr c14
     have H':=aM H
     clear H
     have hnb47:=NB113_112.out
     have hnc47:=NB112_113.out
     have hnb48:=NB113_114.out
     have hnc48:=NB114_113.out
     have⟨a0,a1,b0,b1⟩:=q2f BK113
     have hnb50:=NB114_112.out
     have hnc50:=NB112_114.out
     have⟨a0,a1,b0,b1⟩:=q2f BK114
     go_wp2_with (first|((with_reducible refine gate_callee (f:=21) rfl ?_);refine goesL_ (some 21) rfl rfl Try.func21 (by kernel_rfl) rfl #[.agg #[.string x115000_1,.string x115001_1]] rfl (by (try simp only [sM,sC,sN]);first|done|rfl|(simp only [List.length_drop,List.length_take];rfl)) ?_;(with_reducible refine (spec_l01Shift.calls x115000_1 x115001_1 t115 t116 _ A12.out).mono ?_);rintro e w52 ⟨rfl,hb⟩;refine ⟨_,rfl,?_⟩;replace BK112:=kb BK112 hb;replace BK113:=kb BK113 hb;replace BK114:=kb BK114 hb;replace HB:=aM (below_step (by first|exact bb HB|exact bg HB GE112|exact bg HB GE113|exact bg HB GE114) hb);(try clear hb))|((with_reducible refine gate_dst (N:=7) rfl ?_);refine box_event ?hg (N:=7) ?hd (cs:=#[.string ⟨#[]⟩,.string ⟨#[]⟩]) (t:=27) ?hr ?_;(case hd=>rfl);(case hg=>rfl);(case hr=>first|(go_simp;done)|(go_simp;rfl));intro gb117 hg w53 hbox hb;have BK117:=aM (hbox);have GW117:=aM ((by rw [hg];exact (below_size (by first|exact bb HB|exact bg HB GE112|exact bg HB GE113|exact bg HB GE114)):w.heap.size ≤ gb117));have GE117:=aM ((by rw [hg];exact (below_size (by first|exact bb HB|exact bg HB GE112|exact bg HB GE113|exact bg HB GE114)):w.heap.size ≤ gb117));have NB112_117:=nl hg BK112;have NB117_112:=nr hg BK112;have NB113_117:=nl hg BK113;have NB117_113:=nr hg BK113;have NB114_117:=nl hg BK114;have NB117_114:=nr hg BK114;replace BK112:=kb BK112 hb;replace BK113:=kb BK113 hb;replace BK114:=kb BK114 hb;replace HB:=aM (below_step (by first|exact bb HB|exact bg HB GE112|exact bg HB GE113|exact bg HB GE114) hb);clear hb hbox hg;have hnb54:=NB117_112.out;have hnc54:=NB112_117.out;have hnb55:=NB117_113.out;have hnc55:=NB113_117.out;have hnb56:=NB117_114.out;have hnc56:=NB114_117.out;have⟨a0,a1,b0,b1⟩:=q2f BK117;have⟨a0,a1,b0,b1⟩:=q2f BK114)|((with_reducible refine gate_callee (f:=20) rfl ?_);refine goesL_ (some 23) rfl rfl Try.func20 (by kernel_rfl) rfl #[.agg #[.string x115000_1,.string x115001_1],.int .i64 0] rfl (by (try simp only [sM,sC,sN]);first|done|rfl|(simp only [List.length_drop,List.length_take];rfl)) ?_;(with_reducible refine (spec_l01At.calls x115000_1 x115001_1 0 t118 _ A13.out).mono ?_);rintro e w59 ⟨rfl,hb⟩;refine ⟨_,rfl,?_⟩;replace BK112:=kf BK112 NB112_117 hb;replace BK113:=kf BK113 NB113_117 hb;replace BK114:=kf BK114 NB114_117 hb;replace BK117:=aM (blk_below (g:=gb117) (o:=.cells #[.string t115,.string t116] 27 (0,0)) (by (with_reducible repeat (first|apply yN|apply yD|apply yA));refine blk_put (cs:=#[.string t115,.string ⟨#[]⟩]) ?_ 1 _ rfl;(with_reducible repeat (first|apply yN|apply yD|apply yA));refine blk_put (cs:=#[.string ⟨#[]⟩,.string ⟨#[]⟩]) ?_ 0 _ rfl;(with_reducible repeat (first|apply yN|apply yD|apply yA));exact BK117.out) hb);replace HB:=aM (below_step (by first|exact bb HB|exact bg HB GE112|exact bg HB GE113|exact bg HB GE114|exact bg HB GE117) hb);(try clear hb);have⟨a0,a1,b0,b1⟩:=q2f BK117;have⟨a0,a1,b0,b1⟩:=q2f BK114))
     go_roundg k1
     case measure=>have:=HK1.out;omega
     case rel=>exact ⟨(wrap64 (x6_1 + 1)),(t115),(t116),(by first|rfl|(simp;done)|(simp [*];done)),H',⟨by have:=HK1.out;omega⟩,⟨bf BK112 NB112_114⟩,⟨bf BK113 NB113_114⟩,⟨by (with_reducible repeat (first|apply yN|apply yD|apply yA));refine blk_put (cs:=#[.string t115,.string x115001_1]) ?_ 1 _ rfl;(with_reducible repeat (first|apply yN|apply yD|apply yA));refine blk_put (cs:=#[.string x115000_1,.string x115001_1]) ?_ 0 _ rfl;(with_reducible repeat (first|apply yN|apply yD|apply yA));exact BK114.out⟩,⟨by first|exact bb HB|exact bg HB GE112|exact bg HB GE113|exact bg HB GE114|exact bg HB GE117⟩⟩
   ·rw [if_neg c11] at H
    have c11b0:decide (x6_1 < (wrap64 ((a1_0.size:Int) + (a1_1.size:Int)))) = false:=decide_eq_false c11
    clear c11
    obtain rfl:=Option.some.inj H
    have hnb62:=NB113_112.out
    have hnc62:=NB112_113.out
    have hnb63:=NB113_114.out
    have hnc63:=NB114_113.out
    have⟨a0,a1,b0,b1⟩:=q2f BK113
    go_wp2
    go_ret
    exact ⟨by first|rfl|(simp [errW_none,errW_some] <;> rfl)|(simp [*,errW_none,errW_some] <;> rfl),bb HB⟩
end Go.Proofs.Ytbiehbmojbmnoaa.Q
end
section
namespace Go.Proofs.Ytbiehbmojbmnoaa.Q
open Go.Proofs.YtbiehbmojbmnoaaW.Ext
open Go.RowKit Go.Proofs.YtbiehbmojbmnoaaW.PrintWords Go.Proofs.YtbiehbmojbmnoaaW.PrintLast Go.Proofs.YtbiehbmojbmnoaaW.PrintMore
attribute [local go_sem] max2_int min2_int max_two min_two max_three min_three max_four min_four   -- for this text's walks alone
set_option linter.unusedVariables false
set_option linter.unusedSimpArgs false
mutual
def spec_l06Code.l0:Nat → List (S27) → Int → ByteArray → ByteArray → Option (Int)
 | 0,_,_,_,_=>none
 | k + 1,x1,x5,x120000,x120001=>if x5 < (x1.length:Int) then (if 0 ≤ x5 then ((spec_l01Seq.f k ((rd_T27 x1 x5).f0) ((rd_T27 x1 x5).f1)).bind fun t122=>(if t122 = true then (spec_l06Code.l0 k x1 (wrap64 (x5 + 1)) x120000 x120001) else (some 1))) else (none)) else ((spec_l02Star.f k x120000 x120001).bind fun t123=>(if t123 = true then (spec_l06Code.l1 k x1 0 x120000 x120001) else (some 5)))
def spec_l06Code.l1:Nat → List (S27) → Int → ByteArray → ByteArray → Option (Int)
 | 0,_,_,_,_=>none
 | k + 1,x1,x6,x120000,x120001=>if x6 < (x1.length:Int) then (if 0 ≤ x6 then ((spec_l06Point.f k x120000 x120001 ((rd_T27 x1 x6).f0) ((rd_T27 x1 x6).f1)).bind fun t125=>(if t125 = true then (spec_l06Code.l1 k x1 (wrap64 (x6 + 1)) x120000 x120001) else (some 5))) else (none)) else (some 0)
end
def spec_l06Code.f (k:Nat) (a0_0:ByteArray) (a0_1:ByteArray) (l1:List (S27)):Option (Int):=(spec_l01Seq.f k a0_0 a0_1).bind fun t120=>(if t120 = true then (spec_l06Code.l0 k l1 0 a0_0 a0_1) else (some 1))
theorem spec_l06Code.mono_l:∀ k,(∀ y0 y1 y2 y3,LeO (spec_l06Code.l0 k y0 y1 y2 y3) (spec_l06Code.l0 (k + 1) y0 y1 y2 y3)) ∧ (∀ y0 y1 y2 y3,LeO (spec_l06Code.l1 k y0 y1 y2 y3) (spec_l06Code.l1 (k + 1) y0 y1 y2 y3))
 | 0=>⟨fun _ _ _ _ r h=>by simp [spec_l06Code.l0] at h,fun _ _ _ _ r h=>by simp [spec_l06Code.l1] at h⟩
 | k + 1=>by
  obtain ⟨ih0,ih1⟩:=spec_l06Code.mono_l k
  refine ⟨?_,?_⟩
  ·intro y0 y1 y2 y3
   unfold spec_l06Code.l0
   repeat' first
   | (with_reducible exact ih0 _ _ _ _)
   | (with_reducible exact ih1 _ _ _ _)
   | (with_reducible exact spec_l01Seq.mono _ _ _)
   | (with_reducible exact spec_l02Star.mono _ _ _)
   | (with_reducible exact spec_l06Point.mono _ _ _ _ _)
   | (with_reducible exact LeO.refl _)
   | (with_reducible exact LeO.none _)
   | (with_reducible refine LeO.ite ?_ ?_)
   | (with_reducible refine LeO.bind ?_ (fun _=>?_))
   | exact ih0 _ _ _ _
   | exact ih1 _ _ _ _
   | exact spec_l01Seq.mono _ _ _
   | exact spec_l02Star.mono _ _ _
   | exact spec_l06Point.mono _ _ _ _ _
   | exact LeO.none _
   | refine LeO.ite ?_ ?_
   | refine LeO.bind ?_ (fun _=>?_)
  ·intro y0 y1 y2 y3
   unfold spec_l06Code.l1
   repeat' first
   | (with_reducible exact ih0 _ _ _ _)
   | (with_reducible exact ih1 _ _ _ _)
   | (with_reducible exact spec_l01Seq.mono _ _ _)
   | (with_reducible exact spec_l02Star.mono _ _ _)
   | (with_reducible exact spec_l06Point.mono _ _ _ _ _)
   | (with_reducible exact LeO.refl _)
   | (with_reducible exact LeO.none _)
   | (with_reducible refine LeO.ite ?_ ?_)
   | (with_reducible refine LeO.bind ?_ (fun _=>?_))
   | exact ih0 _ _ _ _
   | exact ih1 _ _ _ _
   | exact spec_l01Seq.mono _ _ _
   | exact spec_l02Star.mono _ _ _
   | exact spec_l06Point.mono _ _ _ _ _
   | exact LeO.none _
   | refine LeO.ite ?_ ?_
   | refine LeO.bind ?_ (fun _=>?_)
theorem spec_l06Code.mono:∀ a0 a1 a2 k,LeO (spec_l06Code.f k a0 a1 a2) (spec_l06Code.f (k + 1) a0 a1 a2):=by
 intro a0 a1 a2 k
 obtain ⟨ih0,ih1⟩:=spec_l06Code.mono_l k
 unfold spec_l06Code.f
 repeat' first
   | (with_reducible exact ih0 _ _ _ _)
   | (with_reducible exact ih1 _ _ _ _)
   | (with_reducible exact spec_l01Seq.mono _ _ _)
   | (with_reducible exact spec_l02Star.mono _ _ _)
   | (with_reducible exact spec_l06Point.mono _ _ _ _ _)
   | (with_reducible exact LeO.refl _)
   | (with_reducible exact LeO.none _)
   | (with_reducible refine LeO.ite ?_ ?_)
   | (with_reducible refine LeO.bind ?_ (fun _=>?_))
   | exact ih0 _ _ _ _
   | exact ih1 _ _ _ _
   | exact spec_l01Seq.mono _ _ _
   | exact spec_l02Star.mono _ _ _
   | exact spec_l06Point.mono _ _ _ _ _
   | exact LeO.none _
   | refine LeO.ite ?_ ?_
   | refine LeO.bind ?_ (fun _=>?_)
set_option maxHeartbeats 8000000 in
set_option maxRecDepth 100000 in
theorem spec_l06Code.calls (k:Nat) (a0_0:ByteArray) (a0_1:ByteArray) (A1:Option Addr) (c1:Nat) (l1:List (S27)) (r:Int) (w:World) (hr1:Kd.C k27 w A1 l1.length l1) (hc1:l1.length ≤ c1) (h:spec_l06Code.f k a0_0 a0_1 l1 = some r) :
  Calls Try.prog 16 #[.agg #[.string a0_0,.string a0_1],.slice A1 l1.length c1] w fun e w'=>e = .returned (.int .i64 r) ∧ Below w.heap.size w w':=by
 have hu27:=Try.underlying27
 have HR1:=aM hr1;have HC1:=aM hc1
 clear hr1 hc1
 have HB:=aM (Below.refl w.heap.size w)
 have H:((spec_l01Seq.f k a0_0 a0_1).bind fun t120=>(if t120 = true then (spec_l06Code.l0 k l1 0 a0_0 a0_1) else (some 1))) = some r:=h
 clear h
 replace H:=Option.bind_eq_some_iff.mp H
 obtain ⟨t120,A30,H⟩:=H
 replace H:(if t120 = true then (spec_l06Code.l0 k l1 0 a0_0 a0_1) else (some 1)) = some r:=H;have A3:=aM A30
 clear A30
 by_cases c4:t120 = true
 ·subst c4
  have H1:(spec_l06Code.l0 k l1 0 a0_0 a0_1) = some r:=by rw [if_pos rfl] at H;exact H
  clear H
  have H:=H1
  clear H1
  have H':=aM H
  clear H
  go_enter Try.func16,Try.ntmps16
  go_wp2_with (first|((with_reducible refine gate_dst (N:=2) rfl ?_);refine box_event ?hg (N:=2) ?hd (cs:=#[.string a0_0,.string a0_1]) (t:=27) ?hr ?_;(case hd=>rfl);(case hg=>rfl);(case hr=>first|(go_simp;done)|(go_simp;rfl));intro gb119 hg w5 hbox hb;have BK119:=aM (hbox);have GW119:=wl hg HB;have GE119:=wl hg HB;replace HB:=bs HB hb;clear hb hbox hg;have⟨a0,a1,b0,b1⟩:=q2f BK119)|((with_reducible refine gate_callee (f:=28) rfl ?_);refine goesL_ (some 8) rfl rfl Try.func28 (by kernel_rfl) rfl #[.agg #[.string a0_0,.string a0_1]] rfl (by (try simp only [sM,sC,sN]);first|done|rfl|(simp only [List.length_drop,List.length_take];rfl)) ?_;(with_reducible refine (spec_l01Seq.calls k a0_0 a0_1 true _ A3.out).mono ?_);rintro e w7 ⟨rfl,hb⟩;refine ⟨_,rfl,?_⟩;replace BK119:=kb BK119 hb;replace HB:=bs HB hb;(try clear hb)))
  go_loopg [5] k (fun kq v5 w'=>∃ (x5_1:Int),v5 = .int .i64 x5_1 ∧ Aside0 (spec_l06Code.l0 kq l1 x5_1 a0_0 a0_1 = some r) ∧ Aside0 (kq ≤ k) ∧ Aside0 (w'.heap[gb119]? = some (.cells #[.string a0_0,.string a0_1] 27 (0,0))) ∧ Aside0 (Below w.heap.size w w'))
  case atStart=>exact ⟨(0),(by first|rfl|(simp;done)|(simp [*];done)),H',⟨Nat.le_refl _⟩,⟨bk BK119⟩,⟨bb HB⟩⟩
  case round =>
   clear H'
   try clear c1
   try clear c2
   try clear p2
   try clear c4
   try clear hcz6_0
   try clear hcz6_1
   try clear hfz6_0
   try clear hfz6_1
   obtain ⟨x5_1,rfl,HA,HK1,BK119,HB⟩:=hrel
   cases gk with
   | zero=>exact absurd HA.out (by simp [spec_l06Code.l0])
   | succ k1 =>
    have H:=HA.out
    clear HA
    simp only [spec_l06Code.l0] at H
    by_cases c8:x5_1 < (l1.length:Int)
    ·rw [if_pos c8] at H
     have c8b0:decide (x5_1 < (l1.length:Int)) = true:=decide_eq_true c8
     clear c8
     by_cases c9:0 ≤ x5_1
     ·rw [if_pos c9] at H
      have c9b0:decide (0 ≤ x5_1) = true:=decide_eq_true c9
      clear c9
      replace H:=Option.bind_eq_some_iff.mp H
      obtain ⟨t122,A100,H⟩:=H
      replace H:(if t122 = true then (spec_l06Code.l0 k1 l1 (wrap64 (x5_1 + 1)) a0_0 a0_1) else (some 1)) = some r:=H;have A10:=aM A100
      clear A100
      by_cases c11:t122 = true
      ·subst c11
       have H1:(spec_l06Code.l0 k1 l1 (wrap64 (x5_1 + 1)) a0_0 a0_1) = some r:=by rw [if_pos rfl] at H;exact H
       clear H
       have H:=H1
       clear H1
       have H':=aM H
       clear H
       have p121:0 ≤ (x5_1:Int):=of_decide_eq_true (by first|(with_reducible assumption)|assumption)
       have q121:x5_1 < (l1.length:Int):=of_decide_eq_true (by first|(with_reducible assumption)|assumption)
       obtain ⟨ad121,e121,hx121_0,hx121_1⟩:=at_T27 HR1.out x5_1 p121 q121
       cases e121
       replace hx121_0:=(HB.out.cell (World.block_lt_of_cell? w _ hx121_0)).trans hx121_0;replace hx121_1:=(HB.out.cell (World.block_lt_of_cell? w _ hx121_1)).trans hx121_1;replace p121:=eq_true p121;replace q121:=eq_true q121
       go_wp2_with (first|((with_reducible refine gate_callee (f:=28) rfl ?_);refine goesL_ (some 20) rfl rfl Try.func28 (by kernel_rfl) rfl #[.agg #[.string ((rd_T27 l1 x5_1).f0),.string ((rd_T27 l1 x5_1).f1)]] rfl (by (try simp only [sM,sC,sN]);first|done|rfl|(simp only [List.length_drop,List.length_take];rfl)) ?_;(with_reducible refine (spec_l01Seq.calls k1 ((rd_T27 l1 x5_1).f0) ((rd_T27 l1 x5_1).f1) true _ A10.out).mono ?_);rintro e w12 ⟨rfl,hb⟩;refine ⟨_,rfl,?_⟩;replace BK119:=kb BK119 hb;replace HB:=bs HB hb;(try clear hb)))
       go_roundg k1
       case measure=>have:=HK1.out;omega
       case rel=>exact ⟨(wrap64 (x5_1 + 1)),(by first|rfl|(simp;done)|(simp [*];done)),H',⟨by have:=HK1.out;omega⟩,⟨bk BK119⟩,⟨bb HB⟩⟩
      ·replace c11:=Bool.eq_false_iff.mpr c11
       subst c11
       have H1:(some 1) = some r:=by rw [if_neg (show ¬ (false = true) by decide)] at H;exact H
       clear H
       have H:=H1
       clear H1
       obtain rfl:=Option.some.inj H
       have p121:0 ≤ (x5_1:Int):=of_decide_eq_true (by first|(with_reducible assumption)|assumption)
       have q121:x5_1 < (l1.length:Int):=of_decide_eq_true (by first|(with_reducible assumption)|assumption)
       obtain ⟨ad121,e121,hx121_0,hx121_1⟩:=at_T27 HR1.out x5_1 p121 q121
       cases e121
       replace hx121_0:=(HB.out.cell (World.block_lt_of_cell? w _ hx121_0)).trans hx121_0;replace hx121_1:=(HB.out.cell (World.block_lt_of_cell? w _ hx121_1)).trans hx121_1;replace p121:=eq_true p121;replace q121:=eq_true q121
       go_wp2_with (first|((with_reducible refine gate_callee (f:=28) rfl ?_);refine goesL_ (some 20) rfl rfl Try.func28 (by kernel_rfl) rfl #[.agg #[.string ((rd_T27 l1 x5_1).f0),.string ((rd_T27 l1 x5_1).f1)]] rfl (by (try simp only [sM,sC,sN]);first|done|rfl|(simp only [List.length_drop,List.length_take];rfl)) ?_;(with_reducible refine (spec_l01Seq.calls k1 ((rd_T27 l1 x5_1).f0) ((rd_T27 l1 x5_1).f1) false _ A10.out).mono ?_);rintro e w13 ⟨rfl,hb⟩;refine ⟨_,rfl,?_⟩;replace BK119:=kb BK119 hb;replace HB:=bs HB hb;(try clear hb)))
       go_ret
       exact ⟨by first|rfl|(simp [errW_none,errW_some] <;> rfl)|(simp [*,errW_none,errW_some] <;> rfl),bb HB⟩
     ·rw [if_neg c9] at H
      exact absurd H (by simp)
    ·rw [if_neg c8] at H
     have c8b0:decide (x5_1 < (l1.length:Int)) = false:=decide_eq_false c8
     clear c8
     replace H:=Option.bind_eq_some_iff.mp H
     obtain ⟨t123,A140,H⟩:=H
     replace H:(if t123 = true then (spec_l06Code.l1 k1 l1 0 a0_0 a0_1) else (some 5)) = some r:=H;have A14:=aM A140
     clear A140
     by_cases c15:t123 = true
     ·subst c15
      have H1:(spec_l06Code.l1 k1 l1 0 a0_0 a0_1) = some r:=by rw [if_pos rfl] at H;exact H
      clear H
      have H:=H1
      clear H1
      have H':=aM H
      clear H
      have⟨a0,a1,b0,b1⟩:=q2f BK119
      go_wp2_with (first|((with_reducible refine gate_callee (f:=29) rfl ?_);refine goesL_ (some 23) rfl rfl Try.func29 (by kernel_rfl) rfl #[.agg #[.string a0_0,.string a0_1]] rfl (by (try simp only [sM,sC,sN]);first|done|rfl|(simp only [List.length_drop,List.length_take];rfl)) ?_;(with_reducible refine (spec_l02Star.calls k1 a0_0 a0_1 true _ A14.out).mono ?_);rintro e w17 ⟨rfl,hb⟩;refine ⟨_,rfl,?_⟩;replace BK119:=kb BK119 hb;replace HB:=bs HB hb;(try clear hb)))
      go_loopg [6] k1 (fun kq v6 w'=>∃ (x6_2:Int),v6 = .int .i64 x6_2 ∧ Aside0 (spec_l06Code.l1 kq l1 x6_2 a0_0 a0_1 = some r) ∧ Aside0 (kq ≤ k1) ∧ Aside0 (w'.heap[gb119]? = some (.cells #[.string a0_0,.string a0_1] 27 (0,0))) ∧ Aside0 (Below w.heap.size w w'))
      case atStart=>exact ⟨(0),(by first|rfl|(simp;done)|(simp [*];done)),H',⟨Nat.le_refl _⟩,⟨bk BK119⟩,⟨bb HB⟩⟩
      case round =>
       clear H'
       try clear c1
       try clear p1
       try clear q1
       try clear hx1
       try clear c2
       try clear p2
       try clear c4
       try clear p6
       try clear c8
       try clear c8b0
       try clear c9
       try clear c9b0
       try clear c11
       try clear p12
       try clear q12
       try clear hx12
       try clear c15
       try clear c16
       try clear hcz16_0
       try clear hcz16_1
       try clear hcz6_0
       try clear hcz6_1
       try clear hfz16_0
       try clear hfz16_1
       try clear hfz6_0
       try clear hfz6_1
       try clear hx121_0
       try clear hx121_1
       try clear p121
       try clear p2
       try clear q121
       obtain ⟨x6_2,rfl,HA,HK2,BK119,HB⟩:=hrel
       cases gk with
       | zero=>exact absurd HA.out (by simp [spec_l06Code.l1])
       | succ k2 =>
        have H:=HA.out
        clear HA
        simp only [spec_l06Code.l1] at H
        by_cases c18:x6_2 < (l1.length:Int)
        ·rw [if_pos c18] at H
         have c18b0:decide (x6_2 < (l1.length:Int)) = true:=decide_eq_true c18
         clear c18
         by_cases c19:0 ≤ x6_2
         ·rw [if_pos c19] at H
          have c19b0:decide (0 ≤ x6_2) = true:=decide_eq_true c19
          clear c19
          replace H:=Option.bind_eq_some_iff.mp H
          obtain ⟨t125,A200,H⟩:=H
          replace H:(if t125 = true then (spec_l06Code.l1 k2 l1 (wrap64 (x6_2 + 1)) a0_0 a0_1) else (some 5)) = some r:=H;have A20:=aM A200
          clear A200
          by_cases c21:t125 = true
          ·subst c21
           have H1:(spec_l06Code.l1 k2 l1 (wrap64 (x6_2 + 1)) a0_0 a0_1) = some r:=by rw [if_pos rfl] at H;exact H
           clear H
           have H:=H1
           clear H1
           have H':=aM H
           clear H
           try go_wp2
           replace BK119:=aM (yD BK119.out);replace HB:=aM (zD HB.out)
           have p124:0 ≤ (x6_2:Int):=of_decide_eq_true (by first|(with_reducible assumption)|assumption)
           have q124:x6_2 < (l1.length:Int):=of_decide_eq_true (by first|(with_reducible assumption)|assumption)
           obtain ⟨ad124,e124,hx124_0,hx124_1⟩:=at_T27 HR1.out x6_2 p124 q124
           have hw124_1:=hx124_1
           have hw124_0:=hx124_0
           cases e124
           replace hx124_0:=(HB.out.cell (World.block_lt_of_cell? w _ hx124_0)).trans hx124_0;replace hx124_1:=(HB.out.cell (World.block_lt_of_cell? w _ hx124_1)).trans hx124_1;replace p124:=eq_true p124;replace q124:=eq_true q124
           refine start_ (n:=7) (S:=fun w'=>w'.cell? ⟨gb119,0,none⟩ = some (.string a0_0) ∧ w'.cell? ⟨gb119,1,none⟩ = some (.string a0_1) ∧ w'.cell? (ad124.add ((x6_2).toNat * 2)) = some (.string ((rd_T27 l1 x6_2).f0)) ∧ w'.cell? ⟨(ad124.add ((x6_2).toNat * 2)).block,(ad124.add ((x6_2).toNat * 2)).off + 1,none⟩ = some (.string ((rd_T27 l1 x6_2).f1))) (ds:=[]) #[fF,fF,fF,fF,fF,fF,fF] (by kernel_rfl) rfl rfl ⟨(blk_cell BK119.out 0).trans rfl,(blk_cell BK119.out 1).trans rfl,((HB.out.cell (World.block_lt_of_cell? w _ hw124_0)).trans hw124_0),((HB.out.cell (World.block_lt_of_cell? w _ hw124_1)).trans hw124_1)⟩ (fun hHeld=>?_)
           generalize wr.drew = w22 at BK119 HB hx124_0 hx124_1 hHeld ⊢
           refine pure_ (i:=1) (N:=some 32) (v:=?_) (a':=?_) #[fF,tT,fF,fF,fF,fF,fF] rfl rfl (by kernel_rfl) (fun _ _ _ h=>h) (Or.inl ⟨by rfl,?_⟩) ?_ ?_
           rotate_left
           ·intro w'
            go_simp
            with_reducible rfl
           rotate_left
           ·simp only [Act.put,sI,sZ,sS,i64_w,i32_w]
            rfl
           refine pure_ (i:=2) (N:=some 33) (v:=?_) (a':=?_) #[fF,tT,tT,fF,fF,fF,fF] rfl rfl (by kernel_rfl) (fun _ _ _ h=>h) (Or.inl ⟨by rfl,?_⟩) ?_ ?_
           rotate_left
           ·intro w'
            go_simp
            with_reducible rfl
           rotate_left
           ·simp only [Act.put,sI,sZ,sS,i64_w,i32_w]
            rfl
           refine pure_ (i:=3) (N:=some 34) (v:=?_) (a':=?_) #[fF,tT,tT,tT,fF,fF,fF] rfl rfl (by kernel_rfl) (fun _ _ _ h=>h) (Or.inl ⟨by rfl,?_⟩) ?_ ?_
           rotate_left
           ·intro w'
            go_simp
            with_reducible rfl
           rotate_left
           ·simp only [Act.put,sI,sZ,sS,i64_w,i32_w]
            rfl
           refine take_ (i:=0) (N:=some 31) (v:=?_) (a':=?_) #[tT,tT,tT,tT,fF,fF,fF] rfl rfl (by kernel_rfl) (fun _ _ _ h=>h) (Or.inl ⟨by rfl,?_⟩) hHeld ?_ ?_
           rotate_left
           ·rintro w' ⟨s0,s1,s2,s3⟩
            go_simp
            with_reducible rfl
           rotate_left
           ·simp only [Act.put,sI,sZ,sS,i64_w,i32_w]
            rfl
           refine take_ (i:=4) (N:=some 35) (v:=?_) (a':=?_) #[tT,tT,tT,tT,tT,fF,fF] rfl rfl (by kernel_rfl) (fun _ _ _ h=>h) (Or.inl ⟨by rfl,?_⟩) hHeld ?_ ?_
           rotate_left
           ·rintro w' ⟨s0,s1,s2,s3⟩
            go_simp
            with_reducible rfl
           rotate_left
           ·simp only [Act.put,sI,sZ,sS,i64_w,i32_w]
            rfl
           refine one_ (i:=5) (N:=some 36) #[tT,tT,tT,tT,tT,tT,fF] rfl rfl (by kernel_rfl) (by decide) (fun K hK=>?_)
           refine goes_ Try.func30 (by kernel_rfl) rfl #[.agg #[.string a0_0,.string a0_1],.agg #[.string ((rd_T27 l1 x6_2).f0),.string ((rd_T27 l1 x6_2).f1)]] (by rfl) rfl rfl (by (try simp only [sM,sC,sN]);first|done|rfl|(simp only [List.length_drop,List.length_take];rfl)) ?_
           with_reducible refine (spec_l06Point.calls k2 a0_0 a0_1 ((rd_T27 l1 x6_2).f0) ((rd_T27 l1 x6_2).f1) true _ A20.out).mono ?_
           rintro e w23 ⟨rfl,hb⟩
           refine ⟨_,rfl,?_⟩
           replace BK119:=kb BK119 hb;replace HB:=bs HB hb;(try clear hb)
           refine hK.out _ _ ⟨(blk_cell BK119.out 0).trans rfl,(blk_cell BK119.out 1).trans rfl,((HB.out.cell (World.block_lt_of_cell? w _ hw124_0)).trans hw124_0),((HB.out.cell (World.block_lt_of_cell? w _ hw124_1)).trans hw124_1)⟩ (fun hHeld=>?_)
           clear hK K
           refine norm_ (a':=?_) ?_ ?_
           rotate_left
           ·show Act.put _ (some 36) _ = _
            simp only [Act.put,sI,sZ,sS,i64_w,i32_w]
            rfl
           refine pure_ (i:=6) (N:=some 37) (v:=?_) (a':=?_) #[tT,tT,tT,tT,tT,tT,tT] rfl rfl (by kernel_rfl) (fun _ _ _ h=>h) (Or.inl ⟨by rfl,?_⟩) ?_ ?_
           rotate_left
           ·intro w'
            go_simp
            with_reducible rfl
           rotate_left
           ·simp only [Act.put,sI,sZ,sS,i64_w,i32_w]
            rfl
           refine done_ (by kernel_rfl) ?_
           try go_wp2
           go_roundg k2
           case measure=>have:=HK1.out;have:=HK2.out;omega
           case rel=>exact ⟨(wrap64 (x6_2 + 1)),(by first|rfl|(simp;done)|(simp [*];done)),H',⟨by have:=HK1.out;have:=HK2.out;omega⟩,⟨bk BK119⟩,⟨bb HB⟩⟩
          ·replace c21:=Bool.eq_false_iff.mpr c21
           subst c21
           have H1:(some 5) = some r:=by rw [if_neg (show ¬ (false = true) by decide)] at H;exact H
           clear H
           have H:=H1
           clear H1
           obtain rfl:=Option.some.inj H
           try go_wp2
           replace BK119:=aM (yD BK119.out);replace HB:=aM (zD HB.out)
           have p124:0 ≤ (x6_2:Int):=of_decide_eq_true (by first|(with_reducible assumption)|assumption)
           have q124:x6_2 < (l1.length:Int):=of_decide_eq_true (by first|(with_reducible assumption)|assumption)
           obtain ⟨ad124,e124,hx124_0,hx124_1⟩:=at_T27 HR1.out x6_2 p124 q124
           have hw124_1:=hx124_1
           have hw124_0:=hx124_0
           cases e124
           replace hx124_0:=(HB.out.cell (World.block_lt_of_cell? w _ hx124_0)).trans hx124_0;replace hx124_1:=(HB.out.cell (World.block_lt_of_cell? w _ hx124_1)).trans hx124_1;replace p124:=eq_true p124;replace q124:=eq_true q124
           refine start_ (n:=7) (S:=fun w'=>w'.cell? ⟨gb119,0,none⟩ = some (.string a0_0) ∧ w'.cell? ⟨gb119,1,none⟩ = some (.string a0_1) ∧ w'.cell? (ad124.add ((x6_2).toNat * 2)) = some (.string ((rd_T27 l1 x6_2).f0)) ∧ w'.cell? ⟨(ad124.add ((x6_2).toNat * 2)).block,(ad124.add ((x6_2).toNat * 2)).off + 1,none⟩ = some (.string ((rd_T27 l1 x6_2).f1))) (ds:=[]) #[fF,fF,fF,fF,fF,fF,fF] (by kernel_rfl) rfl rfl ⟨(blk_cell BK119.out 0).trans rfl,(blk_cell BK119.out 1).trans rfl,((HB.out.cell (World.block_lt_of_cell? w _ hw124_0)).trans hw124_0),((HB.out.cell (World.block_lt_of_cell? w _ hw124_1)).trans hw124_1)⟩ (fun hHeld=>?_)
           generalize wr.drew = w24 at BK119 HB hx124_0 hx124_1 hHeld ⊢
           refine pure_ (i:=1) (N:=some 32) (v:=?_) (a':=?_) #[fF,tT,fF,fF,fF,fF,fF] rfl rfl (by kernel_rfl) (fun _ _ _ h=>h) (Or.inl ⟨by rfl,?_⟩) ?_ ?_
           rotate_left
           ·intro w'
            go_simp
            with_reducible rfl
           rotate_left
           ·simp only [Act.put,sI,sZ,sS,i64_w,i32_w]
            rfl
           refine pure_ (i:=2) (N:=some 33) (v:=?_) (a':=?_) #[fF,tT,tT,fF,fF,fF,fF] rfl rfl (by kernel_rfl) (fun _ _ _ h=>h) (Or.inl ⟨by rfl,?_⟩) ?_ ?_
           rotate_left
           ·intro w'
            go_simp
            with_reducible rfl
           rotate_left
           ·simp only [Act.put,sI,sZ,sS,i64_w,i32_w]
            rfl
           refine pure_ (i:=3) (N:=some 34) (v:=?_) (a':=?_) #[fF,tT,tT,tT,fF,fF,fF] rfl rfl (by kernel_rfl) (fun _ _ _ h=>h) (Or.inl ⟨by rfl,?_⟩) ?_ ?_
           rotate_left
           ·intro w'
            go_simp
            with_reducible rfl
           rotate_left
           ·simp only [Act.put,sI,sZ,sS,i64_w,i32_w]
            rfl
           refine take_ (i:=0) (N:=some 31) (v:=?_) (a':=?_) #[tT,tT,tT,tT,fF,fF,fF] rfl rfl (by kernel_rfl) (fun _ _ _ h=>h) (Or.inl ⟨by rfl,?_⟩) hHeld ?_ ?_
           rotate_left
           ·rintro w' ⟨s0,s1,s2,s3⟩
            go_simp
            with_reducible rfl
           rotate_left
           ·simp only [Act.put,sI,sZ,sS,i64_w,i32_w]
            rfl
           refine take_ (i:=4) (N:=some 35) (v:=?_) (a':=?_) #[tT,tT,tT,tT,tT,fF,fF] rfl rfl (by kernel_rfl) (fun _ _ _ h=>h) (Or.inl ⟨by rfl,?_⟩) hHeld ?_ ?_
           rotate_left
           ·rintro w' ⟨s0,s1,s2,s3⟩
            go_simp
            with_reducible rfl
           rotate_left
           ·simp only [Act.put,sI,sZ,sS,i64_w,i32_w]
            rfl
           refine one_ (i:=5) (N:=some 36) #[tT,tT,tT,tT,tT,tT,fF] rfl rfl (by kernel_rfl) (by decide) (fun K hK=>?_)
           refine goes_ Try.func30 (by kernel_rfl) rfl #[.agg #[.string a0_0,.string a0_1],.agg #[.string ((rd_T27 l1 x6_2).f0),.string ((rd_T27 l1 x6_2).f1)]] (by rfl) rfl rfl (by (try simp only [sM,sC,sN]);first|done|rfl|(simp only [List.length_drop,List.length_take];rfl)) ?_
           with_reducible refine (spec_l06Point.calls k2 a0_0 a0_1 ((rd_T27 l1 x6_2).f0) ((rd_T27 l1 x6_2).f1) false _ A20.out).mono ?_
           rintro e w25 ⟨rfl,hb⟩
           refine ⟨_,rfl,?_⟩
           replace BK119:=kb BK119 hb;replace HB:=bs HB hb;(try clear hb)
           refine hK.out _ _ ⟨(blk_cell BK119.out 0).trans rfl,(blk_cell BK119.out 1).trans rfl,((HB.out.cell (World.block_lt_of_cell? w _ hw124_0)).trans hw124_0),((HB.out.cell (World.block_lt_of_cell? w _ hw124_1)).trans hw124_1)⟩ (fun hHeld=>?_)
           clear hK K
           refine norm_ (a':=?_) ?_ ?_
           rotate_left
           ·show Act.put _ (some 36) _ = _
            simp only [Act.put,sI,sZ,sS,i64_w,i32_w]
            rfl
           refine pure_ (i:=6) (N:=some 37) (v:=?_) (a':=?_) #[tT,tT,tT,tT,tT,tT,tT] rfl rfl (by kernel_rfl) (fun _ _ _ h=>h) (Or.inl ⟨by rfl,?_⟩) ?_ ?_
           rotate_left
           ·intro w'
            go_simp
            with_reducible rfl
           rotate_left
           ·simp only [Act.put,sI,sZ,sS,i64_w,i32_w]
            rfl
           refine done_ (by kernel_rfl) ?_
           try go_wp2
           go_ret
           exact ⟨by first|rfl|(simp [errW_none,errW_some] <;> rfl)|(simp [*,errW_none,errW_some] <;> rfl),bb HB⟩
         ·rw [if_neg c19] at H
          exact absurd H (by simp)
        ·rw [if_neg c18] at H
         have c18b0:decide (x6_2 < (l1.length:Int)) = false:=decide_eq_false c18
         clear c18
         obtain rfl:=Option.some.inj H
         go_wp2
         go_ret
         exact ⟨by first|rfl|(simp [errW_none,errW_some] <;> rfl)|(simp [*,errW_none,errW_some] <;> rfl),bb HB⟩
     ·replace c15:=Bool.eq_false_iff.mpr c15
      subst c15
      have H1:(some 5) = some r:=by rw [if_neg (show ¬ (false = true) by decide)] at H;exact H
      clear H
      have H:=H1
      clear H1
      obtain rfl:=Option.some.inj H
      have⟨a0,a1,b0,b1⟩:=q2f BK119
      go_wp2_with (first|((with_reducible refine gate_callee (f:=29) rfl ?_);refine goesL_ (some 23) rfl rfl Try.func29 (by kernel_rfl) rfl #[.agg #[.string a0_0,.string a0_1]] rfl (by (try simp only [sM,sC,sN]);first|done|rfl|(simp only [List.length_drop,List.length_take];rfl)) ?_;(with_reducible refine (spec_l02Star.calls k1 a0_0 a0_1 false _ A14.out).mono ?_);rintro e w27 ⟨rfl,hb⟩;refine ⟨_,rfl,?_⟩;replace BK119:=kb BK119 hb;replace HB:=bs HB hb;(try clear hb)))
      go_ret
      exact ⟨by first|rfl|(simp [errW_none,errW_some] <;> rfl)|(simp [*,errW_none,errW_some] <;> rfl),bb HB⟩
 ·replace c4:=Bool.eq_false_iff.mpr c4
  subst c4
  have H1:(some 1) = some r:=by rw [if_neg (show ¬ (false = true) by decide)] at H;exact H
  clear H
  have H:=H1
  clear H1
  obtain rfl:=Option.some.inj H
  go_enter Try.func16,Try.ntmps16
  go_wp2_with (first|((with_reducible refine gate_dst (N:=2) rfl ?_);refine box_event ?hg (N:=2) ?hd (cs:=#[.string a0_0,.string a0_1]) (t:=27) ?hr ?_;(case hd=>rfl);(case hg=>rfl);(case hr=>first|(go_simp;done)|(go_simp;rfl));intro gb119 hg w28 hbox hb;have BK119:=aM (hbox);have GW119:=wl hg HB;have GE119:=wl hg HB;replace HB:=bs HB hb;clear hb hbox hg;have⟨a0,a1,b0,b1⟩:=q2f BK119)|((with_reducible refine gate_callee (f:=28) rfl ?_);refine goesL_ (some 8) rfl rfl Try.func28 (by kernel_rfl) rfl #[.agg #[.string a0_0,.string a0_1]] rfl (by (try simp only [sM,sC,sN]);first|done|rfl|(simp only [List.length_drop,List.length_take];rfl)) ?_;(with_reducible refine (spec_l01Seq.calls k a0_0 a0_1 false _ A3.out).mono ?_);rintro e w30 ⟨rfl,hb⟩;refine ⟨_,rfl,?_⟩;replace BK119:=kb BK119 hb;replace HB:=bs HB hb;(try clear hb)))
  go_ret
  exact ⟨by first|rfl|(simp [errW_none,errW_some] <;> rfl)|(simp [*,errW_none,errW_some] <;> rfl),bb HB⟩
end Go.Proofs.Ytbiehbmojbmnoaa.Q
end
section
namespace Go.Proofs.Ytbiehbmojbmnoaa.Q
open Go.Proofs.YtbiehbmojbmnoaaW.Ext
open Go.RowKit Go.Proofs.YtbiehbmojbmnoaaW.PrintWords Go.Proofs.YtbiehbmojbmnoaaW.PrintLast Go.Proofs.YtbiehbmojbmnoaaW.PrintMore
attribute [local go_sem] max2_int min2_int max_two min_two max_three min_three max_four min_four   -- for this text's walks alone
set_option linter.unusedVariables false
set_option linter.unusedSimpArgs false
attribute [local go_sem high] eqA27
def spec_l06Same.j0:Nat → Bool → ByteArray → ByteArray → ByteArray → ByteArray → ByteArray → ByteArray → Option (ByteArray × ByteArray × Bool)
 | 0,_,_,_,_,_,_,_=>none
 | k + 1,x4,x127000,x127001,x127002,x127003,x127004,x127005=>if x4 = true then (some (x127000,x127001,true)) else (if (x127002.toList == x127004.toList && (x127003.toList == x127005.toList)) = true then (some (x127002,x127003,true)) else (some ((⟨#[]⟩:ByteArray),(⟨#[]⟩:ByteArray),false)))
def spec_l06Same.f (k:Nat) (a0_0:ByteArray) (a0_1:ByteArray) (a0_2:ByteArray) (a0_3:ByteArray) (a0_4:ByteArray) (a0_5:ByteArray):Option (ByteArray × ByteArray × Bool):=if (a0_0.toList == a0_2.toList && (a0_1.toList == a0_3.toList)) = true then (spec_l06Same.j0 k true a0_0 a0_1 a0_2 a0_3 a0_4 a0_5) else (spec_l06Same.j0 k (a0_0.toList == a0_4.toList && (a0_1.toList == a0_5.toList)) a0_0 a0_1 a0_2 a0_3 a0_4 a0_5)
theorem spec_l06Same.mono_l:∀ k,(∀ y0 y1 y2 y3 y4 y5 y6,LeO (spec_l06Same.j0 k y0 y1 y2 y3 y4 y5 y6) (spec_l06Same.j0 (k + 1) y0 y1 y2 y3 y4 y5 y6))
 | 0=>fun _ _ _ _ _ _ _ r h=>by simp [spec_l06Same.j0] at h
 | k + 1=>by
  have ih0:=spec_l06Same.mono_l k
  ·intro y0 y1 y2 y3 y4 y5 y6
   unfold spec_l06Same.j0
   repeat' first
   | (with_reducible exact ih0 _ _ _ _ _ _ _)
   | (with_reducible exact LeO.refl _)
   | (with_reducible exact LeO.none _)
   | (with_reducible refine LeO.ite ?_ ?_)
   | (with_reducible refine LeO.bind ?_ (fun _=>?_))
   | exact ih0 _ _ _ _ _ _ _
   | exact LeO.none _
   | refine LeO.ite ?_ ?_
   | refine LeO.bind ?_ (fun _=>?_)
theorem spec_l06Same.mono:∀ a0 a1 a2 a3 a4 a5 k,LeO (spec_l06Same.f k a0 a1 a2 a3 a4 a5) (spec_l06Same.f (k + 1) a0 a1 a2 a3 a4 a5):=by
 intro a0 a1 a2 a3 a4 a5 k
 have ih0:=spec_l06Same.mono_l k
 unfold spec_l06Same.f
 repeat' first
   | (with_reducible exact ih0 _ _ _ _ _ _ _)
   | (with_reducible exact LeO.refl _)
   | (with_reducible exact LeO.none _)
   | (with_reducible refine LeO.ite ?_ ?_)
   | (with_reducible refine LeO.bind ?_ (fun _=>?_))
   | exact ih0 _ _ _ _ _ _ _
   | exact LeO.none _
   | refine LeO.ite ?_ ?_
   | refine LeO.bind ?_ (fun _=>?_)
set_option maxHeartbeats 8000000 in
set_option maxRecDepth 100000 in
theorem spec_l06Same.calls (k:Nat) (a0_0:ByteArray) (a0_1:ByteArray) (a0_2:ByteArray) (a0_3:ByteArray) (a0_4:ByteArray) (a0_5:ByteArray) (r1:ByteArray) (r2:ByteArray) (r3:Bool) (w:World) (h:spec_l06Same.f k a0_0 a0_1 a0_2 a0_3 a0_4 a0_5 = some (r1,r2,r3)) :
  Calls Try.prog 17 #[.agg #[.string a0_0,.string a0_1,.string a0_2,.string a0_3,.string a0_4,.string a0_5]] w fun e w'=>e = .returned (.tuple #[.agg #[.string r1,.string r2],.bool r3]) ∧ Below w.heap.size w w':=by
 have hu36:=Try.underlying36
 have hu27:=Try.underlying27
 have HB:=aM (Below.refl w.heap.size w)
 have H:(if (a0_0.toList == a0_2.toList && (a0_1.toList == a0_3.toList)) = true then (spec_l06Same.j0 k true a0_0 a0_1 a0_2 a0_3 a0_4 a0_5) else (spec_l06Same.j0 k (a0_0.toList == a0_4.toList && (a0_1.toList == a0_5.toList)) a0_0 a0_1 a0_2 a0_3 a0_4 a0_5)) = some (r1,r2,r3):=h
 clear h
 have HC2:=aM H
 clear H
 go_enter Try.func17,Try.ntmps17
 go_upto_region 1 with (first|((with_reducible refine gate_dst (N:=1) rfl ?_);refine box_event ?hg (N:=1) ?hd (cs:=#[.string a0_0,.string a0_1,.string a0_2,.string a0_3,.string a0_4,.string a0_5]) (t:=36) ?hr ?_;(case hd=>rfl);(case hg=>rfl);(case hr=>first|(go_simp;done)|(go_simp;rfl));intro gb126 hg w3 hbox hb;have BK126:=aM (hbox);have GW126:=wl hg HB;have GE126:=wl hg HB;replace HB:=bs HB hb;clear hb hbox hg)|((with_reducible refine gate_dst (N:=2) rfl ?_);refine box_event ?hg (N:=2) ?hd (cs:=#[.string ⟨#[]⟩,.string ⟨#[]⟩]) (t:=27) ?hr ?_;(case hd=>rfl);(case hg=>rfl);(case hr=>first|(go_simp;done)|(go_simp;rfl));intro gb127 hg w4 hbox hb;have BK127:=aM (hbox);have GW127:=wl hg HB;have GE127:=wl hg HB;have NB126_127:=nl hg BK126;have NB127_126:=nr hg BK126;replace BK126:=kb BK126 hb;replace HB:=bs HB hb;clear hb hbox hg))
 (try simp only [Act.put,sI,sZ,sS])
 go_cut [4] (fun v4 wc=>∃ (kq:Nat) (x4_1:Bool),v4 = .bool x4_1 ∧ Aside0 (spec_l06Same.j0 kq x4_1 a0_0 a0_1 a0_2 a0_3 a0_4 a0_5 = some (r1,r2,r3)) ∧ Aside0 (kq ≤ k) ∧ Aside0 (wc.heap[gb126]? = some (.cells #[.string a0_0,.string a0_1,.string a0_2,.string a0_3,.string a0_4,.string a0_5] 36 (0,0))) ∧ Aside0 (wc.heap[gb127]? = some (.cells #[.string ⟨#[]⟩,.string ⟨#[]⟩] 27 (0,0))) ∧ Aside0 (Below w.heap.size w wc))
 case first =>
  have H:=HC2.out
  clear HC2
  by_cases c5:(a0_0.toList == a0_2.toList && (a0_1.toList == a0_3.toList)) = true
  ·rw [if_pos c5] at H
   have c5b0:(a0_0.toList == a0_2.toList && (a0_1.toList == a0_3.toList)) = true:=c5
   (try (have c5b1:decide (a0_0.toList = a0_2.toList && (a0_1.toList == a0_3.toList)) = true:=by simpa using c5))
   (try (have c5b2:(a0_0.toList == a0_2.toList && (a0_1.toList == a0_3.toList)) = true:=by simpa using c5))
   clear c5
   (first|rw [c5b0]|(simp only [i64_w,i32_w];rw [c5b0])|skip)
   have H':=aM H
   clear H
   have hnb6:=NB126_127.out
   have hnc6:=NB127_126.out
   have⟨a0,a1,a2,a3,a4,a5,b0,b1,b2,b3,b4,b5⟩:=q6f BK126
   go_wp2
   go_meet
   case rel=>exact ⟨_,(true),(by first|rfl|(simp;done)|(simp [*];done)),H',⟨by first|omega|exact Nat.le_refl _⟩,⟨bk BK126⟩,⟨bk BK127⟩,⟨bb HB⟩⟩
  ·rw [if_neg c5] at H
   have c5b0:(a0_0.toList == a0_2.toList && (a0_1.toList == a0_3.toList)) = false:=by simpa using c5
   (try (have c5b1:decide (a0_0.toList = a0_2.toList && (a0_1.toList == a0_3.toList)) = false:=by simpa using c5))
   (try (have c5b2:(a0_0.toList == a0_2.toList && (a0_1.toList == a0_3.toList)) = false:=by simpa using c5))
   (try (have c5b3:¬ (a0_0.toList = a0_2.toList && (a0_1.toList == a0_3.toList)):=by simpa using c5))
   clear c5
   (first|rw [c5b0]|(simp only [i64_w,i32_w];rw [c5b0])|skip)
   have H':=aM H
   clear H
   have hnb8:=NB126_127.out
   have hnc8:=NB127_126.out
   have⟨a0,a1,a2,a3,a4,a5,b0,b1,b2,b3,b4,b5⟩:=q6f BK126
   go_wp2
   go_meet
   case rel=>exact ⟨_,((a0_0.toList == a0_4.toList && (a0_1.toList == a0_5.toList))),(by first|rfl|(simp;done)|(simp [*];done)),H',⟨by first|omega|exact Nat.le_refl _⟩,⟨bk BK126⟩,⟨bk BK127⟩,⟨bb HB⟩⟩
 case rest =>
  clear HC2
  try clear c1
  try clear p2
  try clear c5
  try clear c5b0
  try clear c5b1
  try clear c5b2
  try clear c6
  try clear c8
  try clear hcz7_0
  try clear hcz7_1
  try clear hcz7_2
  try clear hcz7_3
  try clear hcz7_4
  try clear hcz7_5
  try clear hcz9_0
  try clear hcz9_1
  try clear hcz9_2
  try clear hcz9_3
  try clear hcz9_4
  try clear hcz9_5
  try clear hfz7_0
  try clear hfz7_1
  try clear hfz7_2
  try clear hfz7_3
  try clear hfz7_4
  try clear hfz7_5
  try clear hfz9_0
  try clear hfz9_1
  try clear hfz9_2
  try clear hfz9_3
  try clear hfz9_4
  try clear hfz9_5
  obtain ⟨kq,x4_1,rfl,HA,HJ1,BK126,BK127,HB⟩:=hcut
  cases kq with
  | zero=>exact absurd HA.out (by simp [spec_l06Same.j0])
  | succ kj1 =>
   have H:=HA.out
   clear HA
   simp only [spec_l06Same.j0] at H
   by_cases c10:x4_1 = true
   ·subst c10
    have H1:(some (a0_0,a0_1,true)) = some (r1,r2,r3):=by rw [if_pos rfl] at H;exact H
    clear H
    have H:=H1
    clear H1
    simp only [Option.some.injEq,Prod.mk.injEq] at H
    obtain ⟨rfl,rfl,rfl⟩:=H
    have hnb11:=NB126_127.out
    have hnc11:=NB127_126.out
    have⟨a0,a1,a2,a3,a4,a5,b0,b1,b2,b3,b4,b5⟩:=q6f BK126;have⟨a0,a1,b0,b1⟩:=q2f BK127
    go_wp2
    refine bodyPost_ret (results_ct rfl _ _ gb127 27 #[.string a0_0,.string a0_1] (0,0) _ rfl (by (with_reducible repeat (first|apply yN|apply yD|apply yA));refine blk_put (cs:=#[.string a0_0,.string ⟨#[]⟩]) ?_ 1 _ rfl;(with_reducible repeat (first|apply yN|apply yD|apply yA));refine blk_put (cs:=#[.string ⟨#[]⟩,.string ⟨#[]⟩]) ?_ 0 _ rfl;(with_reducible repeat (first|apply yN|apply yD|apply yA));exact BK127.out) Try.underlying27 rfl (by kernel_rfl)) rfl ?_
    exact ⟨by first|rfl|(simp [errW_none,errW_some] <;> rfl)|(simp [*,errW_none,errW_some] <;> rfl),by first|exact bb HB|exact bg HB GE126|exact bg HB GE127⟩
   ·replace c10:=Bool.eq_false_iff.mpr c10
    subst c10
    have H1:(if (a0_2.toList == a0_4.toList && (a0_3.toList == a0_5.toList)) = true then (some (a0_2,a0_3,true)) else (some ((⟨#[]⟩:ByteArray),(⟨#[]⟩:ByteArray),false))) = some (r1,r2,r3):=by rw [if_neg (show ¬ (false = true) by decide)] at H;exact H
    clear H
    have H:=H1
    clear H1
    by_cases c14:(a0_2.toList == a0_4.toList && (a0_3.toList == a0_5.toList)) = true
    ·rw [if_pos c14] at H
     have c14b0:(a0_2.toList == a0_4.toList && (a0_3.toList == a0_5.toList)) = true:=c14
     (try (have c14b1:decide (a0_2.toList = a0_4.toList && (a0_3.toList == a0_5.toList)) = true:=by simpa using c14))
     (try (have c14b2:(a0_2.toList == a0_4.toList && (a0_3.toList == a0_5.toList)) = true:=by simpa using c14))
     clear c14
     simp only [Option.some.injEq,Prod.mk.injEq] at H
     obtain ⟨rfl,rfl,rfl⟩:=H
     have hnb15:=NB126_127.out
     have hnc15:=NB127_126.out
     have⟨a0,a1,a2,a3,a4,a5,b0,b1,b2,b3,b4,b5⟩:=q6f BK126;have⟨a0,a1,b0,b1⟩:=q2f BK127
     go_wp2
     refine bodyPost_ret (results_ct rfl _ _ gb127 27 #[.string a0_2,.string a0_3] (0,0) _ rfl (by (with_reducible repeat (first|apply yN|apply yD|apply yA));refine blk_put (cs:=#[.string a0_2,.string ⟨#[]⟩]) ?_ 1 _ rfl;(with_reducible repeat (first|apply yN|apply yD|apply yA));refine blk_put (cs:=#[.string ⟨#[]⟩,.string ⟨#[]⟩]) ?_ 0 _ rfl;(with_reducible repeat (first|apply yN|apply yD|apply yA));exact BK127.out) Try.underlying27 rfl (by kernel_rfl)) rfl ?_
     exact ⟨by first|rfl|(simp [errW_none,errW_some] <;> rfl)|(simp [*,errW_none,errW_some] <;> rfl),by first|exact bb HB|exact bg HB GE126|exact bg HB GE127⟩
    ·rw [if_neg c14] at H
     have c14b0:(a0_2.toList == a0_4.toList && (a0_3.toList == a0_5.toList)) = false:=by simpa using c14
     (try (have c14b1:decide (a0_2.toList = a0_4.toList && (a0_3.toList == a0_5.toList)) = false:=by simpa using c14))
     (try (have c14b2:(a0_2.toList == a0_4.toList && (a0_3.toList == a0_5.toList)) = false:=by simpa using c14))
     (try (have c14b3:¬ (a0_2.toList = a0_4.toList && (a0_3.toList == a0_5.toList)):=by simpa using c14))
     clear c14
     simp only [Option.some.injEq,Prod.mk.injEq] at H
     obtain ⟨rfl,rfl,rfl⟩:=H
     have hnb18:=NB126_127.out
     have hnc18:=NB127_126.out
     have⟨a0,a1,a2,a3,a4,a5,b0,b1,b2,b3,b4,b5⟩:=q6f BK126;have⟨a0,a1,b0,b1⟩:=q2f BK127
     go_wp2
     refine bodyPost_ret (results_ct rfl _ _ gb127 27 #[.string ⟨#[]⟩,.string ⟨#[]⟩] (0,0) _ rfl (by (with_reducible repeat (first|apply yN|apply yD|apply yA));refine blk_put (cs:=#[.string ⟨#[]⟩,.string ⟨#[]⟩]) ?_ 1 _ rfl;(with_reducible repeat (first|apply yN|apply yD|apply yA));refine blk_put (cs:=#[.string ⟨#[]⟩,.string ⟨#[]⟩]) ?_ 0 _ rfl;(with_reducible repeat (first|apply yN|apply yD|apply yA));exact BK127.out) Try.underlying27 rfl (by kernel_rfl)) rfl ?_
     exact ⟨by first|rfl|(simp [errW_none,errW_some] <;> rfl)|(simp [*,errW_none,errW_some] <;> rfl),by first|exact bb HB|exact bg HB GE126|exact bg HB GE127⟩
end Go.Proofs.Ytbiehbmojbmnoaa.Q
end
section
namespace Go.Proofs.Ytbiehbmojbmnoaa.Q
open Go.Proofs.YtbiehbmojbmnoaaW.Ext
open Go.RowKit Go.Proofs.YtbiehbmojbmnoaaW.PrintWords Go.Proofs.YtbiehbmojbmnoaaW.PrintLast Go.Proofs.YtbiehbmojbmnoaaW.PrintMore
attribute [local go_sem] max2_int min2_int max_two min_two max_three min_three max_four min_four   -- for this text's walks alone
set_option linter.unusedVariables false
set_option linter.unusedSimpArgs false
def spec_l06Three.f (k:Nat) (a0_0:ByteArray) (a0_1:ByteArray) (a1_0:ByteArray) (a1_1:ByteArray) (a2_0:ByteArray) (a2_1:ByteArray) (a3_0:ByteArray) (a3_1:ByteArray):Option (Int):=(spec_l06Code.f k a0_0 a0_1 (([(⟨a1_0,a1_1⟩:S27),(⟨a2_0,a2_1⟩:S27),(⟨a3_0,a3_1⟩:S27)]:List (S27)))).bind fun t135=>((spec_l06Same.f k a1_0 a1_1 a2_0 a2_1 a3_0 a3_1).bind fun bt136=>(if t135 = 0 then (if bt136.2.2 = true then (some 5) else (some t135)) else (some t135)))
theorem spec_l06Three.mono:∀ a0 a1 a2 a3 a4 a5 a6 a7 k,LeO (spec_l06Three.f k a0 a1 a2 a3 a4 a5 a6 a7) (spec_l06Three.f (k + 1) a0 a1 a2 a3 a4 a5 a6 a7):=by
 intro a0 a1 a2 a3 a4 a5 a6 a7 k
 unfold spec_l06Three.f
 repeat' first
   | (with_reducible exact spec_l06Code.mono _ _ _ _)
   | (with_reducible exact spec_l06Same.mono _ _ _ _ _ _ _)
   | (with_reducible exact LeO.refl _)
   | (with_reducible exact LeO.none _)
   | (with_reducible refine LeO.ite ?_ ?_)
   | (with_reducible refine LeO.bind ?_ (fun _=>?_))
   | exact spec_l06Code.mono _ _ _ _
   | exact spec_l06Same.mono _ _ _ _ _ _ _
   | exact LeO.none _
   | refine LeO.ite ?_ ?_
   | refine LeO.bind ?_ (fun _=>?_)
set_option maxHeartbeats 8000000 in
set_option maxRecDepth 100000 in
theorem spec_l06Three.calls (k:Nat) (a0_0:ByteArray) (a0_1:ByteArray) (a1_0:ByteArray) (a1_1:ByteArray) (a2_0:ByteArray) (a2_1:ByteArray) (a3_0:ByteArray) (a3_1:ByteArray) (r:Int) (w:World) (h:spec_l06Three.f k a0_0 a0_1 a1_0 a1_1 a2_0 a2_1 a3_0 a3_1 = some r) :
  Calls Try.prog 12 #[.agg #[.string a0_0,.string a0_1],.agg #[.string a1_0,.string a1_1],.agg #[.string a2_0,.string a2_1],.agg #[.string a3_0,.string a3_1]] w fun e w'=>e = .returned (.int .i64 r) ∧ Below w.heap.size w w':=by
 have hu27:=Try.underlying27
 have hu36:=Try.underlying36
 have HB:=aM (Below.refl w.heap.size w)
 have H:((spec_l06Code.f k a0_0 a0_1 (([(⟨a1_0,a1_1⟩:S27),(⟨a2_0,a2_1⟩:S27),(⟨a3_0,a3_1⟩:S27)]:List (S27)))).bind fun t135=>((spec_l06Same.f k a1_0 a1_1 a2_0 a2_1 a3_0 a3_1).bind fun bt136=>(if t135 = 0 then (if bt136.2.2 = true then (some 5) else (some t135)) else (some t135)))) = some r:=h
 clear h
 obtain ⟨y132,hy132⟩:∃ y_:List (S27),y_ = (([(⟨a1_0,a1_1⟩:S27),(⟨a2_0,a2_1⟩:S27),(⟨a3_0,a3_1⟩:S27)]:List (S27))):=⟨_,rfl⟩
 replace H:((spec_l06Code.f k a0_0 a0_1 y132).bind fun t135=>((spec_l06Same.f k a1_0 a1_1 a2_0 a2_1 a3_0 a3_1).bind fun bt136=>(if t135 = 0 then (if bt136.2.2 = true then (some 5) else (some t135)) else (some t135)))) = some r:=by first|(rw [hy132];with_reducible exact H)|(have H2_:=(Option.bind_some _ _).symm.trans H;rw [hy132];with_reducible exact H2_)|(have H2_:=(Option.bind_some _ _).symm.trans H;with_reducible exact H2_)|with_reducible exact H|(rw [hy132];exact H)|exact H
 have Ny132:=aM hy132
 clear hy132
 replace H:=Option.bind_eq_some_iff.mp H
 obtain ⟨t135,A50,H⟩:=H
 replace H:((spec_l06Same.f k a1_0 a1_1 a2_0 a2_1 a3_0 a3_1).bind fun bt136=>(if t135 = 0 then (if bt136.2.2 = true then (some 5) else (some t135)) else (some t135))) = some r:=H;have A5:=aM A50
 clear A50
 replace H:=Option.bind_eq_some_iff.mp H
 obtain ⟨⟨t136,t137,t138⟩,A60,H⟩:=H
 replace H:(if t135 = 0 then (if t138 = true then (some 5) else (some t135)) else (some t135)) = some r:=H;have A6:=aM A60
 clear A60
 by_cases c7:t135 = 0
 ·rw [if_pos c7] at H
  have c7b0:(t135 == 0) = true:=beq_iff_eq.mpr c7
  have c7b1:(t135 != 0) = false:=bne_eq_false_iff_eq.mpr c7
  clear c7
  by_cases c8:t138 = true
  ·subst c8
   have H1:(some 5) = some r:=by rw [if_pos rfl] at H;exact H
   clear H
   have H:=H1
   clear H1
   obtain rfl:=Option.some.inj H
   go_enter Try.func12,Try.ntmps12
   go_wp2_with (first|((with_reducible refine gate_dst (N:=4) rfl ?_);refine box_event ?hg (N:=4) ?hd (cs:=#[.string a0_0,.string a0_1]) (t:=27) ?hr ?_;(case hd=>rfl);(case hg=>rfl);(case hr=>first|(go_simp;done)|(go_simp;rfl));intro gb128 hg w9 hbox hb;have BK128:=aM (hbox);have GW128:=wl hg HB;have GE128:=wl hg HB;replace HB:=bs HB hb;clear hb hbox hg)|((with_reducible refine gate_dst (N:=5) rfl ?_);refine box_event ?hg (N:=5) ?hd (cs:=#[.string a1_0,.string a1_1]) (t:=27) ?hr ?_;(case hd=>rfl);(case hg=>rfl);(case hr=>first|(go_simp;done)|(go_simp;rfl));intro gb129 hg w10 hbox hb;have BK129:=aM (hbox);have GW129:=wl hg HB;have GE129:=wl hg HB;have NB128_129:=nl hg BK128;have NB129_128:=nr hg BK128;replace BK128:=kb BK128 hb;replace HB:=bs HB hb;clear hb hbox hg)|((with_reducible refine gate_dst (N:=6) rfl ?_);refine box_event ?hg (N:=6) ?hd (cs:=#[.string a2_0,.string a2_1]) (t:=27) ?hr ?_;(case hd=>rfl);(case hg=>rfl);(case hr=>first|(go_simp;done)|(go_simp;rfl));intro gb130 hg w11 hbox hb;have BK130:=aM (hbox);have GW130:=wl hg HB;have GE130:=wl hg HB;have NB128_130:=nl hg BK128;have NB130_128:=nr hg BK128;have NB129_130:=nl hg BK129;have NB130_129:=nr hg BK129;replace BK128:=kb BK128 hb;replace BK129:=kb BK129 hb;replace HB:=bs HB hb;clear hb hbox hg)|((with_reducible refine gate_dst (N:=7) rfl ?_);refine box_event ?hg (N:=7) ?hd (cs:=#[.string a3_0,.string a3_1]) (t:=27) ?hr ?_;(case hd=>rfl);(case hg=>rfl);(case hr=>first|(go_simp;done)|(go_simp;rfl));intro gb131 hg w12 hbox hb;have BK131:=aM (hbox);have GW131:=wl hg HB;have GE131:=wl hg HB;have NB128_131:=nl hg BK128;have NB131_128:=nr hg BK128;have NB129_131:=nl hg BK129;have NB131_129:=nr hg BK129;have NB130_131:=nl hg BK130;have NB131_130:=nr hg BK130;replace BK128:=kb BK128 hb;replace BK129:=kb BK129 hb;replace BK130:=kb BK130 hb;replace HB:=bs HB hb;clear hb hbox hg;have hnb13:=NB128_129.out;have hnc13:=NB129_128.out;have hnb14:=NB128_130.out;have hnc14:=NB130_128.out;have hnb15:=NB128_131.out;have hnc15:=NB131_128.out;have⟨a0,a1,b0,b1⟩:=q2f BK128;have hnb17:=NB129_130.out;have hnc17:=NB130_129.out;have hnb18:=NB129_131.out;have hnc18:=NB131_129.out;have⟨a0,a1,b0,b1⟩:=q2f BK129;have hnb20:=NB130_131.out;have hnc20:=NB131_130.out;have⟨a0,a1,b0,b1⟩:=q2f BK130;have⟨a0,a1,b0,b1⟩:=q2f BK131)|((with_reducible refine gate_dst (N:=16) rfl ?_);refine Kd.R_lit k27 _ 27 ?hg (N:=16) ?hd (xs:=([(⟨a1_0,a1_1⟩:S27),(⟨a2_0,a2_1⟩:S27),(⟨a3_0,a3_1⟩:S27)]:List (S27))) (inner:=[.string a1_0,.string a1_1,.string a2_0,.string a2_1,.string a3_0,.string a3_1]) (ok:=fun _=>True) (okp:=fun _=>True) ?hr ?hp (fun _ hk=>hk) trivial (Below.refl _ _) (Nat.le_refl _) (by simp) ?_;(case hd=>rfl);(case hg=>rfl);(case hr=>first|(go_simp;done)|(go_simp;rfl));(case hp=>exact (Reps.c2 (show Kd.M k27 _ _ _ (⟨a1_0,a1_1⟩:S27) [.string a1_0,.string a1_1] from (k27_mkM _ _ _ (⟨a1_0,a1_1⟩:S27) )) (Reps.c2 (show Kd.M k27 _ _ _ (⟨a2_0,a2_1⟩:S27) [.string a2_0,.string a2_1] from (k27_mkM _ _ _ (⟨a2_0,a2_1⟩:S27) )) (Reps.c2 (show Kd.M k27 _ _ _ (⟨a3_0,a3_1⟩:S27) [.string a3_0,.string a3_1] from (k27_mkM _ _ _ (⟨a3_0,a3_1⟩:S27) )) (Reps.none _ _)))));intro v133 w23 ho24 hb hg_ hnew_;clear hg_ hnew_;(first|rw [← Ny132.out] at ho24|(simp only [Int.reduceToNat] at ho24;rw [← Ny132.out] at ho24));have HO134:=aM (Kd.R_lower (Kd.R_newB (Kd.R_newB (Kd.R_newB (Kd.R_newB ho24 (g:=gb128) (o:=.cells #[.string a0_0,.string a0_1] 27 (0,0)) (bk BK128)) (g:=gb129) (o:=.cells #[.string a1_0,.string a1_1] 27 (0,0)) (bk BK129)) (g:=gb130) (o:=.cells #[.string a2_0,.string a2_1] 27 (0,0)) (bk BK130)) (g:=gb131) (o:=.cells #[.string a3_0,.string a3_1] 27 (0,0)) (bk BK131)) (below_size (bb HB)));replace BK128:=kb BK128 hb;replace BK129:=kb BK129 hb;replace BK130:=kb BK130 hb;replace BK131:=kb BK131 hb;replace HB:=bs HB hb;clear hb ho24;obtain ⟨Ao25,co25,eo25⟩:=Kd.R_slice HO134.out;subst eo25)|((with_reducible refine gate_callee (f:=16) rfl ?_);refine goesL_ (some 17) rfl rfl Try.func16 (by kernel_rfl) rfl #[.agg #[.string a0_0,.string a0_1],.slice Ao25 y132.length co25] rfl (by (try simp only [sM,sC,sN]);first|done|rfl|(simp only [List.length_drop,List.length_take];rfl)) ?_;(with_reducible refine (spec_l06Code.calls k a0_0 a0_1 _ _ y132 t135 _ ?side1 ?side2 A5.out).mono ?_);(case side1=>repeat (first|exact (Kd.R_reads' HO134.out).2.2|(with_reducible refine cA ?_ _)|(with_reducible refine cN ?_ _)|(with_reducible refine cD ?_)));(case side2=>exact (Kd.R_reads' HO134.out).2.1);rintro e w26 ⟨rfl,hb⟩;refine ⟨_,rfl,?_⟩;replace HO134:=ko HO134 hb;replace BK128:=kb BK128 hb;replace BK129:=kb BK129 hb;replace BK130:=kb BK130 hb;replace BK131:=kb BK131 hb;replace HB:=bs HB hb;(try clear hb);have⟨a0,a1,b0,b1⟩:=q2f BK129;have⟨a0,a1,b0,b1⟩:=q2f BK130;have⟨a0,a1,b0,b1⟩:=q2f BK131)|((with_reducible refine gate_callee (f:=17) rfl ?_);refine goesL_ (some 23) rfl rfl Try.func17 (by kernel_rfl) rfl #[.agg #[.string a1_0,.string a1_1,.string a2_0,.string a2_1,.string a3_0,.string a3_1]] rfl (by (try simp only [sM,sC,sN]);first|done|rfl|(simp only [List.length_drop,List.length_take];rfl)) ?_;(with_reducible refine (spec_l06Same.calls k a1_0 a1_1 a2_0 a2_1 a3_0 a3_1 t136 t137 true _ A6.out).mono ?_);rintro e w30 ⟨rfl,hb⟩;refine ⟨_,rfl,?_⟩;replace HO134:=ko HO134 hb;replace BK128:=kb BK128 hb;replace BK129:=kb BK129 hb;replace BK130:=kb BK130 hb;replace BK131:=kb BK131 hb;replace HB:=bs HB hb;(try clear hb))|((with_reducible refine gate_dst (N:=10) rfl ?_);refine box_event ?hg (N:=10) ?hd (cs:=#[.string ⟨#[]⟩,.string ⟨#[]⟩]) (t:=27) ?hr ?_;(case hd=>rfl);(case hg=>rfl);(case hr=>first|(go_simp;done)|(go_simp;rfl));intro gb139 hg w31 hbox hb;have BK139:=aM (hbox);have GW139:=wl hg HB;have GE139:=wl hg HB;have NB128_139:=nl hg BK128;have NB139_128:=nr hg BK128;have NB129_139:=nl hg BK129;have NB139_129:=nr hg BK129;have NB130_139:=nl hg BK130;have NB139_130:=nr hg BK130;have NB131_139:=nl hg BK131;have NB139_131:=nr hg BK131;replace HO134:=aM (Kd.R_below (Kd.R_elderB (rk HO134) gb139 (Nat.le_of_eq hg.symm)) hb);replace BK128:=kb BK128 hb;replace BK129:=kb BK129 hb;replace BK130:=kb BK130 hb;replace BK131:=kb BK131 hb;replace HB:=bs HB hb;clear hb hbox hg;have hnb32:=NB139_128.out;have hnc32:=NB128_139.out;have hnb33:=NB139_129.out;have hnc33:=NB129_139.out;have hnb34:=NB139_130.out;have hnc34:=NB130_139.out;have hnb35:=NB139_131.out;have hnc35:=NB131_139.out;have⟨a0,a1,b0,b1⟩:=q2f BK139))
   go_ret
   exact ⟨by first|rfl|(simp [errW_none,errW_some] <;> rfl)|(simp [*,errW_none,errW_some] <;> rfl),by first|exact bb HB|exact bg HB GE128|exact bg HB GE129|exact bg HB GE130|exact bg HB GE131|exact bg HB GE139⟩
  ·replace c8:=Bool.eq_false_iff.mpr c8
   subst c8
   have H1:(some t135) = some r:=by rw [if_neg (show ¬ (false = true) by decide)] at H;exact H
   clear H
   have H:=H1
   clear H1
   obtain rfl:=Option.some.inj H
   go_enter Try.func12,Try.ntmps12
   go_wp2_with (first|((with_reducible refine gate_dst (N:=4) rfl ?_);refine box_event ?hg (N:=4) ?hd (cs:=#[.string a0_0,.string a0_1]) (t:=27) ?hr ?_;(case hd=>rfl);(case hg=>rfl);(case hr=>first|(go_simp;done)|(go_simp;rfl));intro gb128 hg w37 hbox hb;have BK128:=aM (hbox);have GW128:=wl hg HB;have GE128:=wl hg HB;replace HB:=bs HB hb;clear hb hbox hg)|((with_reducible refine gate_dst (N:=5) rfl ?_);refine box_event ?hg (N:=5) ?hd (cs:=#[.string a1_0,.string a1_1]) (t:=27) ?hr ?_;(case hd=>rfl);(case hg=>rfl);(case hr=>first|(go_simp;done)|(go_simp;rfl));intro gb129 hg w38 hbox hb;have BK129:=aM (hbox);have GW129:=wl hg HB;have GE129:=wl hg HB;have NB128_129:=nl hg BK128;have NB129_128:=nr hg BK128;replace BK128:=kb BK128 hb;replace HB:=bs HB hb;clear hb hbox hg)|((with_reducible refine gate_dst (N:=6) rfl ?_);refine box_event ?hg (N:=6) ?hd (cs:=#[.string a2_0,.string a2_1]) (t:=27) ?hr ?_;(case hd=>rfl);(case hg=>rfl);(case hr=>first|(go_simp;done)|(go_simp;rfl));intro gb130 hg w39 hbox hb;have BK130:=aM (hbox);have GW130:=wl hg HB;have GE130:=wl hg HB;have NB128_130:=nl hg BK128;have NB130_128:=nr hg BK128;have NB129_130:=nl hg BK129;have NB130_129:=nr hg BK129;replace BK128:=kb BK128 hb;replace BK129:=kb BK129 hb;replace HB:=bs HB hb;clear hb hbox hg)|((with_reducible refine gate_dst (N:=7) rfl ?_);refine box_event ?hg (N:=7) ?hd (cs:=#[.string a3_0,.string a3_1]) (t:=27) ?hr ?_;(case hd=>rfl);(case hg=>rfl);(case hr=>first|(go_simp;done)|(go_simp;rfl));intro gb131 hg w40 hbox hb;have BK131:=aM (hbox);have GW131:=wl hg HB;have GE131:=wl hg HB;have NB128_131:=nl hg BK128;have NB131_128:=nr hg BK128;have NB129_131:=nl hg BK129;have NB131_129:=nr hg BK129;have NB130_131:=nl hg BK130;have NB131_130:=nr hg BK130;replace BK128:=kb BK128 hb;replace BK129:=kb BK129 hb;replace BK130:=kb BK130 hb;replace HB:=bs HB hb;clear hb hbox hg;have hnb41:=NB128_129.out;have hnc41:=NB129_128.out;have hnb42:=NB128_130.out;have hnc42:=NB130_128.out;have hnb43:=NB128_131.out;have hnc43:=NB131_128.out;have⟨a0,a1,b0,b1⟩:=q2f BK128;have hnb45:=NB129_130.out;have hnc45:=NB130_129.out;have hnb46:=NB129_131.out;have hnc46:=NB131_129.out;have⟨a0,a1,b0,b1⟩:=q2f BK129;have hnb48:=NB130_131.out;have hnc48:=NB131_130.out;have⟨a0,a1,b0,b1⟩:=q2f BK130;have⟨a0,a1,b0,b1⟩:=q2f BK131)|((with_reducible refine gate_dst (N:=16) rfl ?_);refine Kd.R_lit k27 _ 27 ?hg (N:=16) ?hd (xs:=([(⟨a1_0,a1_1⟩:S27),(⟨a2_0,a2_1⟩:S27),(⟨a3_0,a3_1⟩:S27)]:List (S27))) (inner:=[.string a1_0,.string a1_1,.string a2_0,.string a2_1,.string a3_0,.string a3_1]) (ok:=fun _=>True) (okp:=fun _=>True) ?hr ?hp (fun _ hk=>hk) trivial (Below.refl _ _) (Nat.le_refl _) (by simp) ?_;(case hd=>rfl);(case hg=>rfl);(case hr=>first|(go_simp;done)|(go_simp;rfl));(case hp=>exact (Reps.c2 (show Kd.M k27 _ _ _ (⟨a1_0,a1_1⟩:S27) [.string a1_0,.string a1_1] from (k27_mkM _ _ _ (⟨a1_0,a1_1⟩:S27) )) (Reps.c2 (show Kd.M k27 _ _ _ (⟨a2_0,a2_1⟩:S27) [.string a2_0,.string a2_1] from (k27_mkM _ _ _ (⟨a2_0,a2_1⟩:S27) )) (Reps.c2 (show Kd.M k27 _ _ _ (⟨a3_0,a3_1⟩:S27) [.string a3_0,.string a3_1] from (k27_mkM _ _ _ (⟨a3_0,a3_1⟩:S27) )) (Reps.none _ _)))));intro v133 w51 ho52 hb hg_ hnew_;clear hg_ hnew_;(first|rw [← Ny132.out] at ho52|(simp only [Int.reduceToNat] at ho52;rw [← Ny132.out] at ho52));have HO134:=aM (Kd.R_lower (Kd.R_newB (Kd.R_newB (Kd.R_newB (Kd.R_newB ho52 (g:=gb128) (o:=.cells #[.string a0_0,.string a0_1] 27 (0,0)) (bk BK128)) (g:=gb129) (o:=.cells #[.string a1_0,.string a1_1] 27 (0,0)) (bk BK129)) (g:=gb130) (o:=.cells #[.string a2_0,.string a2_1] 27 (0,0)) (bk BK130)) (g:=gb131) (o:=.cells #[.string a3_0,.string a3_1] 27 (0,0)) (bk BK131)) (below_size (bb HB)));replace BK128:=kb BK128 hb;replace BK129:=kb BK129 hb;replace BK130:=kb BK130 hb;replace BK131:=kb BK131 hb;replace HB:=bs HB hb;clear hb ho52;obtain ⟨Ao53,co53,eo53⟩:=Kd.R_slice HO134.out;subst eo53)|((with_reducible refine gate_callee (f:=16) rfl ?_);refine goesL_ (some 17) rfl rfl Try.func16 (by kernel_rfl) rfl #[.agg #[.string a0_0,.string a0_1],.slice Ao53 y132.length co53] rfl (by (try simp only [sM,sC,sN]);first|done|rfl|(simp only [List.length_drop,List.length_take];rfl)) ?_;(with_reducible refine (spec_l06Code.calls k a0_0 a0_1 _ _ y132 t135 _ ?side1 ?side2 A5.out).mono ?_);(case side1=>repeat (first|exact (Kd.R_reads' HO134.out).2.2|(with_reducible refine cA ?_ _)|(with_reducible refine cN ?_ _)|(with_reducible refine cD ?_)));(case side2=>exact (Kd.R_reads' HO134.out).2.1);rintro e w54 ⟨rfl,hb⟩;refine ⟨_,rfl,?_⟩;replace HO134:=ko HO134 hb;replace BK128:=kb BK128 hb;replace BK129:=kb BK129 hb;replace BK130:=kb BK130 hb;replace BK131:=kb BK131 hb;replace HB:=bs HB hb;(try clear hb);have⟨a0,a1,b0,b1⟩:=q2f BK129;have⟨a0,a1,b0,b1⟩:=q2f BK130;have⟨a0,a1,b0,b1⟩:=q2f BK131)|((with_reducible refine gate_callee (f:=17) rfl ?_);refine goesL_ (some 23) rfl rfl Try.func17 (by kernel_rfl) rfl #[.agg #[.string a1_0,.string a1_1,.string a2_0,.string a2_1,.string a3_0,.string a3_1]] rfl (by (try simp only [sM,sC,sN]);first|done|rfl|(simp only [List.length_drop,List.length_take];rfl)) ?_;(with_reducible refine (spec_l06Same.calls k a1_0 a1_1 a2_0 a2_1 a3_0 a3_1 t136 t137 false _ A6.out).mono ?_);rintro e w58 ⟨rfl,hb⟩;refine ⟨_,rfl,?_⟩;replace HO134:=ko HO134 hb;replace BK128:=kb BK128 hb;replace BK129:=kb BK129 hb;replace BK130:=kb BK130 hb;replace BK131:=kb BK131 hb;replace HB:=bs HB hb;(try clear hb))|((with_reducible refine gate_dst (N:=10) rfl ?_);refine box_event ?hg (N:=10) ?hd (cs:=#[.string ⟨#[]⟩,.string ⟨#[]⟩]) (t:=27) ?hr ?_;(case hd=>rfl);(case hg=>rfl);(case hr=>first|(go_simp;done)|(go_simp;rfl));intro gb139 hg w59 hbox hb;have BK139:=aM (hbox);have GW139:=wl hg HB;have GE139:=wl hg HB;have NB128_139:=nl hg BK128;have NB139_128:=nr hg BK128;have NB129_139:=nl hg BK129;have NB139_129:=nr hg BK129;have NB130_139:=nl hg BK130;have NB139_130:=nr hg BK130;have NB131_139:=nl hg BK131;have NB139_131:=nr hg BK131;replace HO134:=aM (Kd.R_below (Kd.R_elderB (rk HO134) gb139 (Nat.le_of_eq hg.symm)) hb);replace BK128:=kb BK128 hb;replace BK129:=kb BK129 hb;replace BK130:=kb BK130 hb;replace BK131:=kb BK131 hb;replace HB:=bs HB hb;clear hb hbox hg;have hnb60:=NB139_128.out;have hnc60:=NB128_139.out;have hnb61:=NB139_129.out;have hnc61:=NB129_139.out;have hnb62:=NB139_130.out;have hnc62:=NB130_139.out;have hnb63:=NB139_131.out;have hnc63:=NB131_139.out;have⟨a0,a1,b0,b1⟩:=q2f BK139))
   go_ret
   exact ⟨by first|rfl|(simp [errW_none,errW_some] <;> rfl)|(simp [*,errW_none,errW_some] <;> rfl),by first|exact bb HB|exact bg HB GE128|exact bg HB GE129|exact bg HB GE130|exact bg HB GE131|exact bg HB GE139⟩
 ·rw [if_neg c7] at H
  have c7b0:(t135 == 0) = false:=beq_eq_false_iff_ne.mpr c7
  have c7b1:(t135 != 0) = true:=bne_iff_ne.mpr c7
  obtain rfl:=Option.some.inj H
  go_enter Try.func12,Try.ntmps12
  go_wp2_with (first|((with_reducible refine gate_dst (N:=4) rfl ?_);refine box_event ?hg (N:=4) ?hd (cs:=#[.string a0_0,.string a0_1]) (t:=27) ?hr ?_;(case hd=>rfl);(case hg=>rfl);(case hr=>first|(go_simp;done)|(go_simp;rfl));intro gb128 hg w65 hbox hb;have BK128:=aM (hbox);have GW128:=wl hg HB;have GE128:=wl hg HB;replace HB:=bs HB hb;clear hb hbox hg)|((with_reducible refine gate_dst (N:=5) rfl ?_);refine box_event ?hg (N:=5) ?hd (cs:=#[.string a1_0,.string a1_1]) (t:=27) ?hr ?_;(case hd=>rfl);(case hg=>rfl);(case hr=>first|(go_simp;done)|(go_simp;rfl));intro gb129 hg w66 hbox hb;have BK129:=aM (hbox);have GW129:=wl hg HB;have GE129:=wl hg HB;have NB128_129:=nl hg BK128;have NB129_128:=nr hg BK128;replace BK128:=kb BK128 hb;replace HB:=bs HB hb;clear hb hbox hg)|((with_reducible refine gate_dst (N:=6) rfl ?_);refine box_event ?hg (N:=6) ?hd (cs:=#[.string a2_0,.string a2_1]) (t:=27) ?hr ?_;(case hd=>rfl);(case hg=>rfl);(case hr=>first|(go_simp;done)|(go_simp;rfl));intro gb130 hg w67 hbox hb;have BK130:=aM (hbox);have GW130:=wl hg HB;have GE130:=wl hg HB;have NB128_130:=nl hg BK128;have NB130_128:=nr hg BK128;have NB129_130:=nl hg BK129;have NB130_129:=nr hg BK129;replace BK128:=kb BK128 hb;replace BK129:=kb BK129 hb;replace HB:=bs HB hb;clear hb hbox hg)|((with_reducible refine gate_dst (N:=7) rfl ?_);refine box_event ?hg (N:=7) ?hd (cs:=#[.string a3_0,.string a3_1]) (t:=27) ?hr ?_;(case hd=>rfl);(case hg=>rfl);(case hr=>first|(go_simp;done)|(go_simp;rfl));intro gb131 hg w68 hbox hb;have BK131:=aM (hbox);have GW131:=wl hg HB;have GE131:=wl hg HB;have NB128_131:=nl hg BK128;have NB131_128:=nr hg BK128;have NB129_131:=nl hg BK129;have NB131_129:=nr hg BK129;have NB130_131:=nl hg BK130;have NB131_130:=nr hg BK130;replace BK128:=kb BK128 hb;replace BK129:=kb BK129 hb;replace BK130:=kb BK130 hb;replace HB:=bs HB hb;clear hb hbox hg;have hnb69:=NB128_129.out;have hnc69:=NB129_128.out;have hnb70:=NB128_130.out;have hnc70:=NB130_128.out;have hnb71:=NB128_131.out;have hnc71:=NB131_128.out;have⟨a0,a1,b0,b1⟩:=q2f BK128;have hnb73:=NB129_130.out;have hnc73:=NB130_129.out;have hnb74:=NB129_131.out;have hnc74:=NB131_129.out;have⟨a0,a1,b0,b1⟩:=q2f BK129;have hnb76:=NB130_131.out;have hnc76:=NB131_130.out;have⟨a0,a1,b0,b1⟩:=q2f BK130;have⟨a0,a1,b0,b1⟩:=q2f BK131)|((with_reducible refine gate_dst (N:=16) rfl ?_);refine Kd.R_lit k27 _ 27 ?hg (N:=16) ?hd (xs:=([(⟨a1_0,a1_1⟩:S27),(⟨a2_0,a2_1⟩:S27),(⟨a3_0,a3_1⟩:S27)]:List (S27))) (inner:=[.string a1_0,.string a1_1,.string a2_0,.string a2_1,.string a3_0,.string a3_1]) (ok:=fun _=>True) (okp:=fun _=>True) ?hr ?hp (fun _ hk=>hk) trivial (Below.refl _ _) (Nat.le_refl _) (by simp) ?_;(case hd=>rfl);(case hg=>rfl);(case hr=>first|(go_simp;done)|(go_simp;rfl));(case hp=>exact (Reps.c2 (show Kd.M k27 _ _ _ (⟨a1_0,a1_1⟩:S27) [.string a1_0,.string a1_1] from (k27_mkM _ _ _ (⟨a1_0,a1_1⟩:S27) )) (Reps.c2 (show Kd.M k27 _ _ _ (⟨a2_0,a2_1⟩:S27) [.string a2_0,.string a2_1] from (k27_mkM _ _ _ (⟨a2_0,a2_1⟩:S27) )) (Reps.c2 (show Kd.M k27 _ _ _ (⟨a3_0,a3_1⟩:S27) [.string a3_0,.string a3_1] from (k27_mkM _ _ _ (⟨a3_0,a3_1⟩:S27) )) (Reps.none _ _)))));intro v133 w79 ho80 hb hg_ hnew_;clear hg_ hnew_;(first|rw [← Ny132.out] at ho80|(simp only [Int.reduceToNat] at ho80;rw [← Ny132.out] at ho80));have HO134:=aM (Kd.R_lower (Kd.R_newB (Kd.R_newB (Kd.R_newB (Kd.R_newB ho80 (g:=gb128) (o:=.cells #[.string a0_0,.string a0_1] 27 (0,0)) (bk BK128)) (g:=gb129) (o:=.cells #[.string a1_0,.string a1_1] 27 (0,0)) (bk BK129)) (g:=gb130) (o:=.cells #[.string a2_0,.string a2_1] 27 (0,0)) (bk BK130)) (g:=gb131) (o:=.cells #[.string a3_0,.string a3_1] 27 (0,0)) (bk BK131)) (below_size (bb HB)));replace BK128:=kb BK128 hb;replace BK129:=kb BK129 hb;replace BK130:=kb BK130 hb;replace BK131:=kb BK131 hb;replace HB:=bs HB hb;clear hb ho80;obtain ⟨Ao81,co81,eo81⟩:=Kd.R_slice HO134.out;subst eo81)|((with_reducible refine gate_callee (f:=16) rfl ?_);refine goesL_ (some 17) rfl rfl Try.func16 (by kernel_rfl) rfl #[.agg #[.string a0_0,.string a0_1],.slice Ao81 y132.length co81] rfl (by (try simp only [sM,sC,sN]);first|done|rfl|(simp only [List.length_drop,List.length_take];rfl)) ?_;(with_reducible refine (spec_l06Code.calls k a0_0 a0_1 _ _ y132 t135 _ ?side1 ?side2 A5.out).mono ?_);(case side1=>repeat (first|exact (Kd.R_reads' HO134.out).2.2|(with_reducible refine cA ?_ _)|(with_reducible refine cN ?_ _)|(with_reducible refine cD ?_)));(case side2=>exact (Kd.R_reads' HO134.out).2.1);rintro e w82 ⟨rfl,hb⟩;refine ⟨_,rfl,?_⟩;replace HO134:=ko HO134 hb;replace BK128:=kb BK128 hb;replace BK129:=kb BK129 hb;replace BK130:=kb BK130 hb;replace BK131:=kb BK131 hb;replace HB:=bs HB hb;(try clear hb);have⟨a0,a1,b0,b1⟩:=q2f BK129;have⟨a0,a1,b0,b1⟩:=q2f BK130;have⟨a0,a1,b0,b1⟩:=q2f BK131)|((with_reducible refine gate_callee (f:=17) rfl ?_);refine goesL_ (some 23) rfl rfl Try.func17 (by kernel_rfl) rfl #[.agg #[.string a1_0,.string a1_1,.string a2_0,.string a2_1,.string a3_0,.string a3_1]] rfl (by (try simp only [sM,sC,sN]);first|done|rfl|(simp only [List.length_drop,List.length_take];rfl)) ?_;(with_reducible refine (spec_l06Same.calls k a1_0 a1_1 a2_0 a2_1 a3_0 a3_1 t136 t137 t138 _ A6.out).mono ?_);rintro e w86 ⟨rfl,hb⟩;refine ⟨_,rfl,?_⟩;replace HO134:=ko HO134 hb;replace BK128:=kb BK128 hb;replace BK129:=kb BK129 hb;replace BK130:=kb BK130 hb;replace BK131:=kb BK131 hb;replace HB:=bs HB hb;(try clear hb))|((with_reducible refine gate_dst (N:=10) rfl ?_);refine box_event ?hg (N:=10) ?hd (cs:=#[.string ⟨#[]⟩,.string ⟨#[]⟩]) (t:=27) ?hr ?_;(case hd=>rfl);(case hg=>rfl);(case hr=>first|(go_simp;done)|(go_simp;rfl));intro gb139 hg w87 hbox hb;have BK139:=aM (hbox);have GW139:=wl hg HB;have GE139:=wl hg HB;have NB128_139:=nl hg BK128;have NB139_128:=nr hg BK128;have NB129_139:=nl hg BK129;have NB139_129:=nr hg BK129;have NB130_139:=nl hg BK130;have NB139_130:=nr hg BK130;have NB131_139:=nl hg BK131;have NB139_131:=nr hg BK131;replace HO134:=aM (Kd.R_below (Kd.R_elderB (rk HO134) gb139 (Nat.le_of_eq hg.symm)) hb);replace BK128:=kb BK128 hb;replace BK129:=kb BK129 hb;replace BK130:=kb BK130 hb;replace BK131:=kb BK131 hb;replace HB:=bs HB hb;clear hb hbox hg;have hnb88:=NB139_128.out;have hnc88:=NB128_139.out;have hnb89:=NB139_129.out;have hnc89:=NB129_139.out;have hnb90:=NB139_130.out;have hnc90:=NB130_139.out;have hnb91:=NB139_131.out;have hnc91:=NB131_139.out;have⟨a0,a1,b0,b1⟩:=q2f BK139))
  go_ret
  exact ⟨by first|rfl|(simp [errW_none,errW_some] <;> rfl)|(simp [*,errW_none,errW_some] <;> rfl),by first|exact bb HB|exact bg HB GE128|exact bg HB GE129|exact bg HB GE130|exact bg HB GE131|exact bg HB GE139⟩
theorem eqA36 (d:Nat) (w:World) (x0 y0 x1 y1 x2 y2 x3 y3 x4 y4 x5 y5:ByteArray) :
  (Op.equalIn (d + 3) 36 (.agg #[.string x0,.string x1,.string x2,.string x3,.string x4,.string x5]) (.agg #[.string y0,.string y1,.string y2,.string y3,.string y4,.string y5])).run Try.prog w
   = .ok ((x0.toList == y0.toList && (x1.toList == y1.toList)) && ((x2.toList == y2.toList && (x3.toList == y3.toList)) && (x4.toList == y4.toList && (x5.toList == y5.toList)))) w:=by
 have hu:=Try.underlying36
 have e0:=eqA27 d w x0 y0 x1 y1
 have e1:=eqA27 d w x2 y2 x3 y3
 have e2:=eqA27 d w x4 y4 x5 y5
 have hs:(sizeOf 27).run Try.prog w = .ok 2 w:=by kernel_rfl
 have p0:∀ a0 a1 a2 a3 a4 a5:Value,(part 27 #[a0,a1,a2,a3,a4,a5] 0).run Try.prog w = .ok (.agg #[a0,a1]) w:=fun _ _ _ _ _ _=>by kernel_rfl
 have p1:∀ a0 a1 a2 a3 a4 a5:Value,(part 27 #[a0,a1,a2,a3,a4,a5] 2).run Try.prog w = .ok (.agg #[a2,a3]) w:=fun _ _ _ _ _ _=>by kernel_rfl
 have p2:∀ a0 a1 a2 a3 a4 a5:Value,(part 27 #[a0,a1,a2,a3,a4,a5] 4).run Try.prog w = .ok (.agg #[a4,a5]) w:=fun _ _ _ _ _ _=>by kernel_rfl
 have hr:List.range' 0 3 = [0,1,2]:=rfl
 generalize (x0.toList == y0.toList && (x1.toList == y1.toList)) = b0 at e0 ⊢
 generalize (x2.toList == y2.toList && (x3.toList == y3.toList)) = b1 at e1 ⊢
 generalize (x4.toList == y4.toList && (x5.toList == y5.toList)) = b2 at e2 ⊢
 unfold Op.equalIn
 cases b0 <;> cases b1 <;> cases b2 <;> simp [hu,hs,run_underlying,Result.andThen,Std.Legacy.Range.forIn_eq_forIn_range',Std.Legacy.Range.size,hr,p0,p1,p2,e0,e1,e2]
def spec_l06Told.f (k:Nat) (a0:ByteArray) (a1:ByteArray):Option (ByteArray × ByteArray × Bool):=(spec_l01Canonical.f k a0 a1).bind fun bt141=>(some (bt141.1,bt141.2,decide ((wrap64 ((bt141.1.size:Int) + (bt141.2.size:Int))) ≤ 64)))
theorem spec_l06Told.mono:∀ a0 a1 k,LeO (spec_l06Told.f k a0 a1) (spec_l06Told.f (k + 1) a0 a1):=by
 intro a0 a1 k
 unfold spec_l06Told.f
 repeat' first
   | (with_reducible exact spec_l01Canonical.mono _ _ _)
   | (with_reducible exact LeO.refl _)
   | (with_reducible exact LeO.none _)
   | (with_reducible refine LeO.ite ?_ ?_)
   | (with_reducible refine LeO.bind ?_ (fun _=>?_))
   | exact spec_l01Canonical.mono _ _ _
   | exact LeO.none _
   | refine LeO.ite ?_ ?_
   | refine LeO.bind ?_ (fun _=>?_)
def spec_l06Told.T2:Bool × List (List Nat × List Nat):=(true,[([],[]),([],[]),([1],[1]),([2],[2]),([],[]),([4],[4]),([5],[5]),([3,6],[3,6]),([7],[7]),([0,0],[0]),([8,9,0,1,2,3,4,5,6,7,8,9],[8])])
def spec_l06Told.B2:List Nat:=[0,0,2,6,0,16,48,126,254,1,1023]
theorem spec_l06Told.tab2:rtab .any (opsOf Try.f18 2) = spec_l06Told.T2:=by kernel_rfl
theorem spec_l06Told.bits2:waitsOk spec_l06Told.T2.2 spec_l06Told.B2 = true:=by kernel_rfl
set_option maxHeartbeats 8000000 in
set_option maxRecDepth 100000 in
theorem spec_l06Told.calls (k:Nat) (a0:ByteArray) (a1:ByteArray) (r1:ByteArray) (r2:ByteArray) (r3:Bool) (w:World) (h:spec_l06Told.f k a0 a1 = some (r1,r2,r3)) :
  Calls Try.prog 18 #[.string a0,.string a1] w fun e w'=>e = .returned (.tuple #[.agg #[.string r1,.string r2],.bool r3]) ∧ Below w.heap.size w w':=by
 have hu27:=Try.underlying27
 have HB:=aM (Below.refl w.heap.size w)
 have H:((spec_l01Canonical.f k a0 a1).bind fun bt141=>(some (bt141.1,bt141.2,decide ((wrap64 ((bt141.1.size:Int) + (bt141.2.size:Int))) ≤ 64)))) = some (r1,r2,r3):=h
 clear h
 replace H:=Option.bind_eq_some_iff.mp H
 obtain ⟨⟨t141,t142⟩,A30,H⟩:=H
 replace H:(some (t141,t142,decide ((wrap64 ((t141.size:Int) + (t142.size:Int))) ≤ 64))) = some (r1,r2,r3):=H;have A3:=aM A30
 clear A30
 simp only [Option.some.injEq,Prod.mk.injEq] at H
 obtain ⟨rfl,rfl,rfl⟩:=H
 go_enter Try.func18,Try.ntmps18
 try go_wp2_with (first|((with_reducible refine gate_dst (N:=4) rfl ?_);refine box_event ?hg (N:=4) ?hd (cs:=#[.string ⟨#[]⟩,.string ⟨#[]⟩]) (t:=27) ?hr ?_;(case hd=>rfl);(case hg=>rfl);(case hr=>first|(go_simp;done)|(go_simp;rfl));intro gb140 hg w4 hbox hb;have BK140:=aM (hbox);have GW140:=wl hg HB;have GE140:=wl hg HB;replace HB:=bs HB hb;clear hb hbox hg)|((with_reducible refine gate_callee (f:=31) rfl ?_);refine goesL_ (some 9) rfl rfl Try.func31 (by kernel_rfl) rfl #[.string a0,.string a1] rfl (by (try simp only [sM,sC,sN]);first|done|rfl|(simp only [List.length_drop,List.length_take];rfl)) ?_;(with_reducible refine (spec_l01Canonical.calls k a0 a1 t141 t142 _ A3.out).mono ?_);rintro e w5 ⟨rfl,hb⟩;refine ⟨_,rfl,?_⟩;replace BK140:=kb BK140 hb;replace HB:=bs HB hb;(try clear hb))|((with_reducible refine gate_dst (N:=6) rfl ?_);refine box_event ?hg (N:=6) ?hd (cs:=#[.string ⟨#[]⟩,.string ⟨#[]⟩]) (t:=27) ?hr ?_;(case hd=>rfl);(case hg=>rfl);(case hr=>first|(go_simp;done)|(go_simp;rfl));intro gb143 hg w6 hbox hb;have BK143:=aM (hbox);have GW143:=wl hg HB;have GE143:=wl hg HB;have NB140_143:=nl hg BK140;have NB143_140:=nr hg BK140;replace BK140:=kb BK140 hb;replace HB:=bs HB hb;clear hb hbox hg;have hnb7:=NB143_140.out;have hnc7:=NB140_143.out;have⟨a0,a1,b0,b1⟩:=q2f BK143))
 have n0_:Aside0 (((w6.setCell ⟨gb143,0,none⟩ (.string t141)).setCell ⟨gb143,1,none⟩ (.string t142)).heap[gb140]? = some (.cells #[.string ⟨#[]⟩,.string ⟨#[]⟩] 27 (0,0))):=⟨bf BK140 NB140_143⟩
 have n1_:Aside0 (((w6.setCell ⟨gb143,0,none⟩ (.string t141)).setCell ⟨gb143,1,none⟩ (.string t142)).heap[gb143]? = some (.cells #[.string t141,.string t142] 27 (0,0))):=⟨by (with_reducible repeat (first|apply yN|apply yD|apply yA));refine blk_put (cs:=#[.string t141,.string ⟨#[]⟩]) ?_ 1 _ rfl;(with_reducible repeat (first|apply yN|apply yD|apply yA));refine blk_put (cs:=#[.string ⟨#[]⟩,.string ⟨#[]⟩]) ?_ 0 _ rfl;(with_reducible repeat (first|apply yN|apply yD|apply yA));exact BK143.out⟩
 have n2_:Aside0 (Below w.heap.size w ((w6.setCell ⟨gb143,0,none⟩ (.string t141)).setCell ⟨gb143,1,none⟩ (.string t142))):=⟨by first|exact bb HB|exact bg HB GE140|exact bg HB GE143⟩
 (try clear BK140);(try clear BK143);(try clear HB)
 generalize ((w6.setCell ⟨gb143,0,none⟩ (.string t141)).setCell ⟨gb143,1,none⟩ (.string t142)) = w9 at n0_ n1_ n2_ ⊢
 have BK140:=n0_
 have BK143:=n1_
 have HB:=n2_
 clear n0_ n1_ n2_
 replace BK140:=aM (yD BK140.out);replace BK143:=aM (yD BK143.out);replace HB:=aM (zD HB.out)
 refine start_ (n:=11) (S:=fun w'=>w'.cell? ⟨gb143,0,none⟩ = some (.string t141) ∧ w'.cell? ⟨gb143,1,none⟩ = some (.string t142)) (ds:=[]) #[fF,fF,fF,fF,fF,fF,fF,fF,fF,fF,fF] (by kernel_rfl) rfl rfl ⟨(blk_cell BK143.out 0).trans rfl,(blk_cell BK143.out 1).trans rfl⟩ (fun hHeld=>?_);refine with_tabW spec_l06Told.tab2 spec_l06Told.bits2 (fun HT_ HW_=>?_)
 generalize w9.drew = w10 at BK140 BK143 HB hHeld ⊢
 refine pure_ (i:=1) (N:=some 11) (v:=?_) (a':=?_) #[fF,tT,fF,fF,fF,fF,fF,fF,fF,fF,fF] rfl rfl (any_of HT_.out (by kernel_rfl)) (fun _ _ _ h=>h) (Or.inl ⟨by rfl,?_⟩) ?_ ?_
 rotate_left
 ·intro w'
  go_simp
  with_reducible rfl
 rotate_left
 ·simp only [Act.put,sI,sZ,sS,i64_w,i32_w]
  rfl
 refine pure_ (i:=4) (N:=some 14) (v:=?_) (a':=?_) #[fF,tT,fF,fF,tT,fF,fF,fF,fF,fF,fF] rfl rfl (any_of HT_.out (by kernel_rfl)) (fun _ _ _ h=>h) (Or.inl ⟨by rfl,?_⟩) ?_ ?_
 rotate_left
 ·intro w'
  go_simp
  with_reducible rfl
 rotate_left
 ·simp only [Act.put,sI,sZ,sS,i64_w,i32_w]
  rfl
 refine take_ (i:=0) (N:=some 10) (v:=?_) (a':=?_) #[tT,tT,fF,fF,tT,fF,fF,fF,fF,fF,fF] rfl rfl (take_ofW HT_.out HW_.out (by kernel_rfl)) (fun _ _ _ h=>h) (Or.inl ⟨by rfl,?_⟩) hHeld ?_ ?_
 rotate_left
 ·rintro w' ⟨s0,s1⟩
  go_simp
  with_reducible rfl
 rotate_left
 ·simp only [Act.put,sI,sZ,sS,i64_w,i32_w]
  rfl
 refine take_ (i:=2) (N:=some 12) (v:=?_) (a':=?_) #[tT,tT,tT,fF,tT,fF,fF,fF,fF,fF,fF] rfl rfl (take_ofW HT_.out HW_.out (by kernel_rfl)) (fun _ _ _ h=>h) (Or.inl ⟨by rfl,?_⟩) hHeld ?_ ?_
 rotate_left
 ·rintro w' ⟨s0,s1⟩
  go_simp
  with_reducible rfl
 rotate_left
 ·simp only [Act.put,sI,sZ,sS,i64_w,i32_w]
  rfl
 refine pure_ (i:=3) (N:=some 13) (v:=?_) (a':=?_) #[tT,tT,tT,tT,tT,fF,fF,fF,fF,fF,fF] rfl rfl (any_of HT_.out (by kernel_rfl)) (fun _ _ _ h=>h) (Or.inl ⟨by rfl,?_⟩) ?_ ?_
 rotate_left
 ·intro w'
  go_simp
  with_reducible rfl
 rotate_left
 ·simp only [Act.put,sI,sZ,sS,i64_w,i32_w]
  rfl
 refine take_ (i:=5) (N:=some 15) (v:=?_) (a':=?_) #[tT,tT,tT,tT,tT,tT,fF,fF,fF,fF,fF] rfl rfl (take_ofW HT_.out HW_.out (by kernel_rfl)) (fun _ _ _ h=>h) (Or.inl ⟨by rfl,?_⟩) hHeld ?_ ?_
 rotate_left
 ·rintro w' ⟨s0,s1⟩
  go_simp
  with_reducible rfl
 rotate_left
 ·simp only [Act.put,sI,sZ,sS,i64_w,i32_w]
  rfl
 refine pure_ (i:=6) (N:=some 16) (v:=?_) (a':=?_) #[tT,tT,tT,tT,tT,tT,tT,fF,fF,fF,fF] rfl rfl (any_of HT_.out (by kernel_rfl)) (fun _ _ _ h=>h) (Or.inl ⟨by rfl,?_⟩) ?_ ?_
 rotate_left
 ·intro w'
  go_simp
  with_reducible rfl
 rotate_left
 ·simp only [Act.put,sI,sZ,sS,i64_w,i32_w]
  rfl
 refine pure_ (i:=7) (N:=some 17) (v:=?_) (a':=?_) #[tT,tT,tT,tT,tT,tT,tT,tT,fF,fF,fF] rfl rfl (any_of HT_.out (by kernel_rfl)) (fun _ _ _ h=>h) (Or.inl ⟨by rfl,?_⟩) ?_ ?_
 rotate_left
 ·intro w'
  go_simp
  with_reducible rfl
 rotate_left
 ·simp only [Act.put,sI,sZ,sS,i64_w,i32_w]
  rfl
 refine pure_ (i:=8) (N:=some 18) (v:=?_) (a':=?_) #[tT,tT,tT,tT,tT,tT,tT,tT,tT,fF,fF] rfl rfl (any_of HT_.out (by kernel_rfl)) (fun _ _ _ h=>h) (Or.inl ⟨by rfl,?_⟩) ?_ ?_
 rotate_left
 ·intro w'
  go_simp
  with_reducible rfl
 rotate_left
 ·simp only [Act.put,sI,sZ,sS,i64_w,i32_w]
  rfl
 refine one_ (i:=9) (N:=none) #[tT,tT,tT,tT,tT,tT,tT,tT,tT,tT,fF] rfl rfl (one_of HT_.out (by kernel_rfl)) (by decide) (fun K hK=>?_)
 have hs11:w10.cell? ⟨gb140,0,none⟩ = some (.string ⟨#[]⟩):=(blk_cell BK140.out 0).trans rfl
 have hfs11:=blk_frozen BK140.out 0
 have hns11_1:=NB143_140.out
 have hms11_1:=NB140_143.out
 have hs12:w10.cell? ⟨gb140,1,none⟩ = some (.string ⟨#[]⟩):=(blk_cell BK140.out 1).trans rfl
 have hfs12:=blk_frozen BK140.out 1
 have hns12_1:=NB143_140.out
 have hms12_1:=NB140_143.out
 refine skip_ (w1:=?_) (by rfl) rfl ?_ ?_
 rotate_left
 ·go_simp
  rfl
 refine hK.out _ _ ⟨((cell_far (p:=⟨gb140,_,none⟩) NB143_140.out _).trans (((cell_far (p:=⟨gb140,_,none⟩) NB143_140.out _).trans (hHeld.1)))),((cell_far (p:=⟨gb140,_,none⟩) NB143_140.out _).trans (((cell_far (p:=⟨gb140,_,none⟩) NB143_140.out _).trans (hHeld.2))))⟩ (fun hHeld=>?_)
 clear hK K
 refine pure_ (i:=10) (N:=some 5) (v:=?_) (a':=?_) #[tT,tT,tT,tT,tT,tT,tT,tT,tT,tT,tT] rfl rfl (any_of HT_.out (by kernel_rfl)) (fun _ _ _ h=>h) (Or.inl ⟨by rfl,?_⟩) ?_ ?_
 rotate_left
 ·intro w'
  go_simp
  with_reducible rfl
 rotate_left
 ·simp only [Act.put,sI,sZ,sS,i64_w,i32_w]
  rfl
 refine done_ (done_of HT_.out (by kernel_rfl)) ?_
 try go_wp2
 refine bodyPost_ret (results_ct rfl _ _ gb140 27 #[.string t141,.string t142] (0,0) _ rfl (by (with_reducible repeat (first|apply yN|apply yD|apply yA));refine blk_put (cs:=#[.string t141,.string ⟨#[]⟩]) ?_ 1 _ rfl;(with_reducible repeat (first|apply yN|apply yD|apply yA));refine blk_put (cs:=#[.string ⟨#[]⟩,.string ⟨#[]⟩]) ?_ 0 _ rfl;(with_reducible repeat (first|apply yN|apply yD|apply yA));exact BK140.out) Try.underlying27 rfl (by kernel_rfl)) rfl ?_
 exact ⟨by first|rfl|(simp [errW_none,errW_some] <;> rfl)|(simp [*,errW_none,errW_some] <;> rfl),by first|exact bb HB|exact bg HB GE140|exact bg HB GE143⟩
def impl_Sequence_at.f (a0_0:ByteArray) (a0_1:ByteArray) (a1:Int):Option (Int):=if a1 < (a0_0.size:Int) then (if 0 ≤ a1 then (some (bt a0_0 a1)) else (none)) else (if (a0_1.size:Int) = 0 then (none) else (if 0 ≤ (Int.tmod (wrap64 (a1 - (a0_0.size:Int))) (a0_1.size:Int)) then (if (Int.tmod (wrap64 (a1 - (a0_0.size:Int))) (a0_1.size:Int)) < (a0_1.size:Int) then (some (bt a0_1 (Int.tmod (wrap64 (a1 - (a0_0.size:Int))) (a0_1.size:Int)))) else (none)) else (none)))
set_option maxHeartbeats 8000000 in
set_option maxRecDepth 100000 in
theorem impl_Sequence_at.calls (a0_0:ByteArray) (a0_1:ByteArray) (a1:Int) (r:Int) (w:World) (h:impl_Sequence_at.f a0_0 a0_1 a1 = some r) :
  Calls Try.prog 37 #[.agg #[.string a0_0,.string a0_1],.int .i64 a1] w fun e w'=>e = .returned (.int .u8 r) ∧ Below w.heap.size w w':=by
 have hu27:=Try.underlying27
 have HB:=aM (Below.refl w.heap.size w)
 have H:(if a1 < (a0_0.size:Int) then (if 0 ≤ a1 then (some (bt a0_0 a1)) else (none)) else (if (a0_1.size:Int) = 0 then (none) else (if 0 ≤ (Int.tmod (wrap64 (a1 - (a0_0.size:Int))) (a0_1.size:Int)) then (if (Int.tmod (wrap64 (a1 - (a0_0.size:Int))) (a0_1.size:Int)) < (a0_1.size:Int) then (some (bt a0_1 (Int.tmod (wrap64 (a1 - (a0_0.size:Int))) (a0_1.size:Int)))) else (none)) else (none)))) = some r:=h
 clear h
 by_cases c3:a1 < (a0_0.size:Int)
 ·rw [if_pos c3] at H
  have c3b0:decide (a1 < (a0_0.size:Int)) = true:=decide_eq_true c3
  clear c3
  by_cases c4:0 ≤ a1
  ·rw [if_pos c4] at H
   have c4b0:decide (0 ≤ a1) = true:=decide_eq_true c4
   clear c4
   obtain rfl:=Option.some.inj H
   go_enter Try.func37,Try.ntmps37
   go_wp2_with (first|((with_reducible refine gate_dst (N:=2) rfl ?_);refine box_event ?hg (N:=2) ?hd (cs:=#[.string a0_0,.string a0_1]) (t:=27) ?hr ?_;(case hd=>rfl);(case hg=>rfl);(case hr=>first|(go_simp;done)|(go_simp;rfl));intro gb229 hg w6 hbox hb;have BK229:=aM (hbox);have GW229:=aM ((by rw [hg];exact (below_size (by repeat (first|(with_reducible first|exact HB.out|apply zA|apply zN|apply zD)|exact HB.out))):w.heap.size ≤ gb229));have GE229:=aM ((by rw [hg];exact (below_size (by repeat (first|(with_reducible first|exact HB.out|apply zA|apply zN|apply zD)|exact HB.out))):w.heap.size ≤ gb229));replace HB:=aM (below_step (by repeat (first|(with_reducible first|exact HB.out|apply zA|apply zN|apply zD)|exact HB.out)) hb);clear hb hbox hg;have hcz7_0:w6.cell? ⟨gb229,0,none⟩ = some (.string a0_0):=(blk_cell BK229.out 0).trans rfl;have hcz7_1:w6.cell? ⟨gb229,1,none⟩ = some (.string a0_1):=(blk_cell BK229.out 1).trans rfl;have hfz7_0:=blk_frozen BK229.out 0;have hfz7_1:=blk_frozen BK229.out 1;have p5:0 ≤ (a1:Int):=of_decide_eq_true (by first|(with_reducible assumption)|assumption);have q5:a1 < (a0_0.size:Int):=of_decide_eq_true (by first|(with_reducible assumption)|assumption);have hx5:=bt_at a0_0 a1;replace p5:=eq_true p5;replace q5:=eq_true q5))
   repeat (go_quiet (first|((with_reducible refine gate_dst (N:=2) rfl ?_);refine box_event ?hg (N:=2) ?hd (cs:=#[.string a0_0,.string a0_1]) (t:=27) ?hr ?_;(case hd=>rfl);(case hg=>rfl);(case hr=>first|(go_simp;done)|(go_simp;rfl));intro gb229 hg w6 hbox hb;have BK229:=aM (hbox);have GW229:=aM ((by rw [hg];exact (below_size (by repeat (first|(with_reducible first|exact HB.out|apply zA|apply zN|apply zD)|exact HB.out))):w.heap.size ≤ gb229));have GE229:=aM ((by rw [hg];exact (below_size (by repeat (first|(with_reducible first|exact HB.out|apply zA|apply zN|apply zD)|exact HB.out))):w.heap.size ≤ gb229));replace HB:=aM (below_step (by repeat (first|(with_reducible first|exact HB.out|apply zA|apply zN|apply zD)|exact HB.out)) hb);clear hb hbox hg;have hcz7_0:w6.cell? ⟨gb229,0,none⟩ = some (.string a0_0):=(blk_cell BK229.out 0).trans rfl;have hcz7_1:w6.cell? ⟨gb229,1,none⟩ = some (.string a0_1):=(blk_cell BK229.out 1).trans rfl;have hfz7_0:=blk_frozen BK229.out 0;have hfz7_1:=blk_frozen BK229.out 1;have p5:0 ≤ (a1:Int):=of_decide_eq_true (by first|(with_reducible assumption)|assumption);have q5:a1 < (a0_0.size:Int):=of_decide_eq_true (by first|(with_reducible assumption)|assumption);have hx5:=bt_at a0_0 a1;replace p5:=eq_true p5;replace q5:=eq_true q5));try go_wp2_with (first|((with_reducible refine gate_dst (N:=2) rfl ?_);refine box_event ?hg (N:=2) ?hd (cs:=#[.string a0_0,.string a0_1]) (t:=27) ?hr ?_;(case hd=>rfl);(case hg=>rfl);(case hr=>first|(go_simp;done)|(go_simp;rfl));intro gb229 hg w6 hbox hb;have BK229:=aM (hbox);have GW229:=aM ((by rw [hg];exact (below_size (by repeat (first|(with_reducible first|exact HB.out|apply zA|apply zN|apply zD)|exact HB.out))):w.heap.size ≤ gb229));have GE229:=aM ((by rw [hg];exact (below_size (by repeat (first|(with_reducible first|exact HB.out|apply zA|apply zN|apply zD)|exact HB.out))):w.heap.size ≤ gb229));replace HB:=aM (below_step (by repeat (first|(with_reducible first|exact HB.out|apply zA|apply zN|apply zD)|exact HB.out)) hb);clear hb hbox hg;have hcz7_0:w6.cell? ⟨gb229,0,none⟩ = some (.string a0_0):=(blk_cell BK229.out 0).trans rfl;have hcz7_1:w6.cell? ⟨gb229,1,none⟩ = some (.string a0_1):=(blk_cell BK229.out 1).trans rfl;have hfz7_0:=blk_frozen BK229.out 0;have hfz7_1:=blk_frozen BK229.out 1;have p5:0 ≤ (a1:Int):=of_decide_eq_true (by first|(with_reducible assumption)|assumption);have q5:a1 < (a0_0.size:Int):=of_decide_eq_true (by first|(with_reducible assumption)|assumption);have hx5:=bt_at a0_0 a1;replace p5:=eq_true p5;replace q5:=eq_true q5)))
   go_ret
   exact ⟨by first|rfl|(simp [errW_none,errW_some] <;> rfl)|(simp [*,errW_none,errW_some] <;> rfl),by repeat (first|(with_reducible first|exact HB.out|apply zA|apply zN|apply zD|refine zS ?_ GE229.out)|exact HB.out)⟩
  ·rw [if_neg c4] at H
   exact absurd H (by simp)
 ·rw [if_neg c3] at H
  have c3b0:decide (a1 < (a0_0.size:Int)) = false:=decide_eq_false c3
  clear c3
  by_cases c8:(a0_1.size:Int) = 0
  ·rw [if_pos c8] at H
   exact absurd H (by simp)
  ·rw [if_neg c8] at H
   have c8b0:((a0_1.size:Int) == 0) = false:=beq_eq_false_iff_ne.mpr c8
   have c8b1:((a0_1.size:Int) != 0) = true:=bne_iff_ne.mpr c8
   obtain ⟨ji9,hji9⟩:∃ j_:Int,(Int.tmod (wrap64 (a1 - (a0_0.size:Int))) (a0_1.size:Int)) = j_:=⟨_,rfl⟩
   replace H:(if 0 ≤ (ji9) then (if (ji9) < (a0_1.size:Int) then (some (bt a0_1 (ji9))) else (none)) else (none)) = some r:=by first|(rw [hji9] at H;exact H)|(simp only [hji9] at H ⊢;exact H)
   by_cases c10:0 ≤ (ji9)
   ·rw [if_pos c10] at H
    have c10b0:decide (0 ≤ (ji9)) = true:=decide_eq_true c10
    clear c10
    by_cases c11:(ji9) < (a0_1.size:Int)
    ·rw [if_pos c11] at H
     have c11b0:decide ((ji9) < (a0_1.size:Int)) = true:=decide_eq_true c11
     clear c11
     obtain rfl:=Option.some.inj H
     go_enter Try.func37,Try.ntmps37
     go_wp2_with (first|((with_reducible refine gate_dst (N:=2) rfl ?_);refine box_event ?hg (N:=2) ?hd (cs:=#[.string a0_0,.string a0_1]) (t:=27) ?hr ?_;(case hd=>rfl);(case hg=>rfl);(case hr=>first|(go_simp;done)|(go_simp;rfl));intro gb229 hg w13 hbox hb;have BK229:=aM (hbox);have GW229:=wl hg HB;have GE229:=wl hg HB;replace HB:=bs HB hb;clear hb hbox hg;have⟨a0,a1,b0,b1⟩:=q2f BK229;have p12:0 ≤ ((ji9):Int):=of_decide_eq_true (by first|(with_reducible assumption)|assumption);have q12:(ji9) < (a0_1.size:Int):=of_decide_eq_true (by first|(with_reducible assumption)|assumption);have hx12:=bt_at a0_1 (ji9);replace p12:=eq_true p12;replace q12:=eq_true q12))
     repeat (go_quiet (first|((with_reducible refine gate_dst (N:=2) rfl ?_);refine box_event ?hg (N:=2) ?hd (cs:=#[.string a0_0,.string a0_1]) (t:=27) ?hr ?_;(case hd=>rfl);(case hg=>rfl);(case hr=>first|(go_simp;done)|(go_simp;rfl));intro gb229 hg w13 hbox hb;have BK229:=aM (hbox);have GW229:=wl hg HB;have GE229:=wl hg HB;replace HB:=bs HB hb;clear hb hbox hg;have⟨a0,a1,b0,b1⟩:=q2f BK229;have p12:0 ≤ ((ji9):Int):=of_decide_eq_true (by first|(with_reducible assumption)|assumption);have q12:(ji9) < (a0_1.size:Int):=of_decide_eq_true (by first|(with_reducible assumption)|assumption);have hx12:=bt_at a0_1 (ji9);replace p12:=eq_true p12;replace q12:=eq_true q12));try go_wp2_with (first|((with_reducible refine gate_dst (N:=2) rfl ?_);refine box_event ?hg (N:=2) ?hd (cs:=#[.string a0_0,.string a0_1]) (t:=27) ?hr ?_;(case hd=>rfl);(case hg=>rfl);(case hr=>first|(go_simp;done)|(go_simp;rfl));intro gb229 hg w13 hbox hb;have BK229:=aM (hbox);have GW229:=wl hg HB;have GE229:=wl hg HB;replace HB:=bs HB hb;clear hb hbox hg;have⟨a0,a1,b0,b1⟩:=q2f BK229;have p12:0 ≤ ((ji9):Int):=of_decide_eq_true (by first|(with_reducible assumption)|assumption);have q12:(ji9) < (a0_1.size:Int):=of_decide_eq_true (by first|(with_reducible assumption)|assumption);have hx12:=bt_at a0_1 (ji9);replace p12:=eq_true p12;replace q12:=eq_true q12)))
     go_ret
     exact ⟨by first|rfl|(simp [errW_none,errW_some] <;> rfl)|(simp only [← hji9];first|rfl|(simp [errW_none,errW_some] <;> rfl))|(simp [*,errW_none,errW_some] <;> rfl),bb HB⟩
    ·rw [if_neg c11] at H
     exact absurd H (by simp)
   ·rw [if_neg c10] at H
    exact absurd H (by simp)
section
def voteStep (i x:Int) (s:Int × Int × Int):Int × Int × Int:=if x = 48 then (s.1 + 1,s.2.1,s.2.2) else if x = 49 then (s.1,s.2.1 + 1,s.2.2) else (s.1,s.2.1,i)
def voteAt (x0 x1 x2:Int) (i:Int):Int × Int × Int:=if i = 0 then (0,0,-1) else if i = 1 then voteStep 0 x0 (0,0,-1) else if i = 2 then voteStep 1 x1 (voteStep 0 x0 (0,0,-1)) else voteStep 2 x2 (voteStep 1 x1 (voteStep 0 x0 (0,0,-1)))
def voteEnd (s:Int × Int × Int):Int × Int:=if s.1 > 1 then (48,-1) else if s.2.1 > 1 then (49,-1) else (0,s.2.2)
def impl_three_vote.f (a0_0 a0_1 a0_2 a0_3 a0_4 a0_5:ByteArray):Option (Int × Int) :=
 (impl_Sequence_at.f a0_0 a0_1 0).bind fun x0=>(impl_Sequence_at.f a0_2 a0_3 0).bind fun x1=>(impl_Sequence_at.f a0_4 a0_5 0).bind fun x2=>some (voteEnd (voteAt x0 x1 x2 3))
set_option maxHeartbeats 4000000 in
theorem impl_three_vote.calls (a0_0 a0_1 a0_2 a0_3 a0_4 a0_5:ByteArray) (r1 r2:Int) (w:World) (h:impl_three_vote.f a0_0 a0_1 a0_2 a0_3 a0_4 a0_5 = some (r1,r2)) :
  Calls Try.prog 26 #[.agg #[.string a0_0,.string a0_1,.string a0_2,.string a0_3,.string a0_4,.string a0_5]] w fun e w'=>e = .returned (.tuple #[.int .u8 r1,.int .i64 r2]) ∧ Below w.heap.size w w':=by
 unfold impl_three_vote.f at h
 obtain ⟨x0,h0,h⟩:=Option.bind_eq_some_iff.1 h
 obtain ⟨x1,h1,h⟩:=Option.bind_eq_some_iff.1 h
 obtain ⟨x2,h2,h⟩:=Option.bind_eq_some_iff.1 h
 have c0:∀ W,Calls Try.prog 37 #[.agg #[.string a0_0,.string a0_1],.int .i64 0] W fun e w'=>e = .returned (.int .u8 x0) ∧ Below W.heap.size W w':=fun W=>(impl_Sequence_at.calls _ _ _ x0 W h0).mono fun e w' ⟨he,hd⟩=>⟨he,by first|exact hd|exact hd.below⟩
 have c1:∀ W,Calls Try.prog 37 #[.agg #[.string a0_2,.string a0_3],.int .i64 0] W fun e w'=>e = .returned (.int .u8 x1) ∧ Below W.heap.size W w':=fun W=>(impl_Sequence_at.calls _ _ _ x1 W h1).mono fun e w' ⟨he,hd⟩=>⟨he,by first|exact hd|exact hd.below⟩
 have c2:∀ W,Calls Try.prog 37 #[.agg #[.string a0_4,.string a0_5],.int .i64 0] W fun e w'=>e = .returned (.int .u8 x2) ∧ Below W.heap.size W w':=fun W=>(impl_Sequence_at.calls _ _ _ x2 W h2).mono fun e w' ⟨he,hd⟩=>⟨he,by first|exact hd|exact hd.below⟩
 have C0:=aM c0;have C1:=aM c1;have C2:=aM c2;have HE:=aM (Option.some.inj h)
 clear c0 c1 c2 h h0 h1 h2
 have q0:∀ W,(Instr.index 37 (.agg #[.string a0_0,.string a0_1,.string a0_2,.string a0_3,.string a0_4,.string a0_5]) (.int .i64 0)).run Try.prog W = .ok (.agg #[.string a0_0,.string a0_1]) W:=fun W=>by kernel_rfl
 have q1:∀ W,(Instr.index 37 (.agg #[.string a0_0,.string a0_1,.string a0_2,.string a0_3,.string a0_4,.string a0_5]) (.int .i64 1)).run Try.prog W = .ok (.agg #[.string a0_2,.string a0_3]) W:=fun W=>by kernel_rfl
 have q2:∀ W,(Instr.index 37 (.agg #[.string a0_0,.string a0_1,.string a0_2,.string a0_3,.string a0_4,.string a0_5]) (.int .i64 2)).run Try.prog W = .ok (.agg #[.string a0_4,.string a0_5]) W:=fun W=>by kernel_rfl
 have hu27:=Try.underlying27
 have hu37:=Try.underlying37
 go_enter Try.func26,Try.ntmps26
 go_wp2
 go_loopg [10,4,5,6] 3 (fun gg v10 v4 v5 v6 wr=>∃ (i z o s:Int),(i = 0 ∨ i = 1 ∨ i = 2 ∨ i = 3) ∧ 3 - i.toNat ≤ gg ∧ v10 = .int .i64 i ∧ v4 = .int .i64 z ∧ v5 = .int .i64 o ∧ v6 = .int .i64 s ∧ (0 ≤ z ∧ z ≤ i ∧ 0 ≤ o ∧ o ≤ i) ∧ Aside0 (voteAt x0 x1 x2 i = (z,o,s)) ∧ Aside0 (Below w.heap.size w wr))
 case atStart=>exact ⟨0,0,0,-1,.inl rfl,by decide,rfl,rfl,rfl,rfl,by decide,⟨rfl⟩,⟨(Below.refl _ _).alloc (Nat.le_refl _) _⟩⟩
 case round =>
  obtain ⟨i,z,o,s,hi,hg,rfl,rfl,rfl,rfl,hz,HV,HB⟩:=hrel
  have wz:wrap64 (z + 1) = z + 1:=by unfold wrap64;omega
  have wo:wrap64 (o + 1) = o + 1:=by unfold wrap64;omega
  rcases hi with rfl|rfl|rfl|rfl
  ·have q:=q0 wr
   go_wp2_with (go_at_call 37;refine (C0.out _).mono ?_;rintro e w' ⟨rfl,hb'⟩)
   all_goals
    go_roundg 2
    case measure=>omega
    case rel=>exact ⟨1,_,_,_,.inr (.inl rfl),by decide,rfl,rfl,rfl,rfl,by omega,⟨by have e:=HV.out;show voteStep 0 x0 (voteAt x0 x1 x2 0) = _;rw [e];unfold voteStep;simp_all⟩,⟨(HB.out.alloc HB.out.size _).trans (hb'.mono (by have:=HB.out.size;simp;omega))⟩⟩
  ·have q:=q1 wr
   go_wp2_with (go_at_call 37;refine (C1.out _).mono ?_;rintro e w' ⟨rfl,hb'⟩)
   all_goals
    go_roundg 1
    case measure=>omega
    case rel=>exact ⟨2,_,_,_,.inr (.inr (.inl rfl)),by decide,rfl,rfl,rfl,rfl,by omega,⟨by have e:=HV.out;show voteStep 1 x1 (voteAt x0 x1 x2 1) = _;rw [e];unfold voteStep;simp_all⟩,⟨(HB.out.alloc HB.out.size _).trans (hb'.mono (by have:=HB.out.size;simp;omega))⟩⟩
  ·have q:=q2 wr
   go_wp2_with (go_at_call 37;refine (C2.out _).mono ?_;rintro e w' ⟨rfl,hb'⟩)
   all_goals
    go_roundg 0
    case measure=>omega
    case rel=>exact ⟨3,_,_,_,.inr (.inr (.inr rfl)),by decide,rfl,rfl,rfl,rfl,by omega,⟨by have e:=HV.out;show voteStep 2 x2 (voteAt x0 x1 x2 2) = _;rw [e];unfold voteStep;simp_all⟩,⟨(HB.out.alloc HB.out.size _).trans (hb'.mono (by have:=HB.out.size;simp;omega))⟩⟩
  ·have HR:=aM (HE.out.symm.trans (congrArg voteEnd HV.out))
   go_wp2
   all_goals
    go_ret2
    have e:=HR.out
    have hb:=HB.out
    simp only [voteEnd] at e
    (repeat' split at e) <;> first|(exfalso;omega)|(obtain ⟨rfl,rfl⟩:=Prod.mk.inj e;exact ⟨rfl,hb⟩)
end
section
def lettersEnd (s:Int × Int × Int):Int × Int:=if s.1 = 1 ∧ s.2.1 = 1 then (0,s.2.2) else if s.1 > s.2.1 then (48,-1) else (49,-1)
def spec_l06Letters.f (a0_0 a0_1 a0_2 a0_3 a0_4 a0_5:ByteArray):Option (Int × Int) :=
 (spec_l01At.f a0_0 a0_1 0).bind fun x0=>(spec_l01At.f a0_2 a0_3 0).bind fun x1=>(spec_l01At.f a0_4 a0_5 0).bind fun x2=>some (lettersEnd (voteAt x0 x1 x2 3))
set_option maxHeartbeats 4000000 in
set_option maxRecDepth 100000 in
theorem spec_l06Letters.calls (a0_0 a0_1 a0_2 a0_3 a0_4 a0_5:ByteArray) (r1 r2:Int) (w:World) (h:spec_l06Letters.f a0_0 a0_1 a0_2 a0_3 a0_4 a0_5 = some (r1,r2)) :
  Calls Try.prog 19 #[.agg #[.string a0_0,.string a0_1,.string a0_2,.string a0_3,.string a0_4,.string a0_5]] w fun e w'=>e = .returned (.tuple #[.int .u8 r1,.int .i64 r2]) ∧ Below w.heap.size w w':=by
 unfold spec_l06Letters.f at h
 obtain ⟨x0,h0,h⟩:=Option.bind_eq_some_iff.1 h
 obtain ⟨x1,h1,h⟩:=Option.bind_eq_some_iff.1 h
 obtain ⟨x2,h2,h⟩:=Option.bind_eq_some_iff.1 h
 have c0:∀ W,Calls Try.prog 20 #[.agg #[.string a0_0,.string a0_1],.int .i64 0] W fun e w'=>e = .returned (.int .u8 x0) ∧ Below W.heap.size W w':=fun W=>(spec_l01At.calls _ _ _ x0 W h0).mono fun e w' ⟨he,hd⟩=>⟨he,by first|exact hd|exact hd.below⟩
 have c1:∀ W,Calls Try.prog 20 #[.agg #[.string a0_2,.string a0_3],.int .i64 0] W fun e w'=>e = .returned (.int .u8 x1) ∧ Below W.heap.size W w':=fun W=>(spec_l01At.calls _ _ _ x1 W h1).mono fun e w' ⟨he,hd⟩=>⟨he,by first|exact hd|exact hd.below⟩
 have c2:∀ W,Calls Try.prog 20 #[.agg #[.string a0_4,.string a0_5],.int .i64 0] W fun e w'=>e = .returned (.int .u8 x2) ∧ Below W.heap.size W w':=fun W=>(spec_l01At.calls _ _ _ x2 W h2).mono fun e w' ⟨he,hd⟩=>⟨he,by first|exact hd|exact hd.below⟩
 have C0:=aM c0;have C1:=aM c1;have C2:=aM c2;have HE:=aM (Option.some.inj h)
 clear c0 c1 c2 h h0 h1 h2
 have hu27:=Try.underlying27
 have hu36:=Try.underlying36
 have hu58:=Try.underlying58
 go_enter Try.func19,Try.ntmps19
 go_wp2
 go_loopg [5,6] 3 (fun gg v5 v6 wr=>∃ (i z o s:Int),(i = 0 ∨ i = 1 ∨ i = 2 ∨ i = 3) ∧ 3 - i.toNat ≤ gg ∧ v5 = .int .i64 s ∧ v6 = .int .i64 i ∧ (0 ≤ z ∧ z ≤ i ∧ 0 ≤ o ∧ o ≤ i) ∧ Aside0 (wr.heap[w.heap.size]? = some (.cells #[.string a0_0,.string a0_1,.string a0_2,.string a0_3,.string a0_4,.string a0_5] 36 (0,0))) ∧ Aside0 (wr.heap[w.heap.size + 1]? = some (.cells #[.int .i64 z,.int .i64 o] 58 (0,0))) ∧ Aside0 (voteAt x0 x1 x2 i = (z,o,s)) ∧ Aside0 (Below w.heap.size w wr) ∧ Aside0 (w.heap.size + 2 ≤ wr.heap.size))
 case atStart =>
  have s1:(w.alloc (.cells #[.string a0_0,.string a0_1,.string a0_2,.string a0_3,.string a0_4,.string a0_5] 36)).heap.size = w.heap.size + 1:=by simp
  exact ⟨0,0,0,-1,.inl rfl,by decide,rfl,rfl,by decide,⟨yA (blk_new _ _) _⟩,⟨s1 ▸ blk_new _ _⟩,⟨rfl⟩,⟨zA (zA (Below.refl _ _) _) _⟩,⟨by simp⟩⟩
 case round =>
  obtain ⟨i,z,o,s,hi,hg,rfl,rfl,hz,HP,HC,HV,HB,HZ⟩:=hrel
  have wz:wrap64 (z + 1) = z + 1:=by unfold wrap64;omega
  have wo:wrap64 (o + 1) = o + 1:=by unfold wrap64;omega
  rcases hi with rfl|rfl|rfl|rfl
  ·have G0:=(blk_cell HP.out 0).trans rfl
   have G1:=(blk_cell HP.out 1).trans rfl
   by_cases d1:x0 = 48
   ·have b1:(x0 == 48) = true:=beq_iff_eq.mpr d1
    go_wp2_with (go_at_call 20;refine (C0.out _).mono ?_;rintro e wA ⟨rfl,hb⟩;have nP:=aM (blk_below HP.out hb);have nC:=aM (blk_below HC.out hb);have nB:=aM (HB.out.trans (hb.mono HB.out.size));have nZ:=aM (Nat.le_trans HZ.out hb.size);clear hb HP HC HB HZ;have HP:=nP;have HC:=nC;have HB:=nB;have HZ:=nZ;clear nP nC nB nZ;have K0:=(blk_cell HC.out 0).trans rfl;have K1:=(blk_cell HC.out 1).trans rfl;have F0:=blk_frozen HC.out 0;have F1:=blk_frozen HC.out 1)
    all_goals
     go_roundg 2
     case measure=>omega
     case rel=>exact ⟨1,z + 1,o,s,.inr (.inl rfl),by decide,rfl,rfl,by omega,⟨blk_far HP.out (by simp) _⟩,⟨blk_put (cs:=#[.int .i64 z,.int .i64 o]) HC.out 0 _ (by first|rfl|(simp [wz];done)|(simp [wrap64] at *;omega))⟩,⟨by have e:=HV.out;show voteStep 0 x0 (voteAt x0 x1 x2 0) = _;rw [e];simp [voteStep,d1]⟩,⟨zS HB.out (by omega)⟩,⟨by have:=HZ.out;first|exact this|simpa [World.setCell] using this⟩⟩
   ·have b1:(x0 == 48) = false:=beq_eq_false_iff_ne.mpr d1
    by_cases d2:x0 = 49
    ·have b2:(x0 == 49) = true:=beq_iff_eq.mpr d2
     go_wp2_with (go_at_call 20;refine (C0.out _).mono ?_;rintro e wA ⟨rfl,hb⟩;have nP:=aM (blk_below HP.out hb);have nC:=aM (blk_below HC.out hb);have nB:=aM (HB.out.trans (hb.mono HB.out.size));have nZ:=aM (Nat.le_trans HZ.out hb.size);clear hb HP HC HB HZ;have HP:=nP;have HC:=nC;have HB:=nB;have HZ:=nZ;clear nP nC nB nZ;have K0:=(blk_cell HC.out 0).trans rfl;have K1:=(blk_cell HC.out 1).trans rfl;have F0:=blk_frozen HC.out 0;have F1:=blk_frozen HC.out 1)
     all_goals
      go_roundg 2
      case measure=>omega
      case rel=>exact ⟨1,z,o + 1,s,.inr (.inl rfl),by decide,rfl,rfl,by omega,⟨blk_far HP.out (by simp) _⟩,⟨blk_put (cs:=#[.int .i64 z,.int .i64 o]) HC.out 1 _ (by first|rfl|(simp [wo];done))⟩,⟨by have e:=HV.out;show voteStep 0 x0 (voteAt x0 x1 x2 0) = _;rw [e];simp [voteStep,d1,d2]⟩,⟨zS HB.out (by omega)⟩,⟨by have:=HZ.out;first|exact this|simpa [World.setCell] using this⟩⟩
    ·have b2:(x0 == 49) = false:=beq_eq_false_iff_ne.mpr d2
     go_wp2_with (go_at_call 20;refine (C0.out _).mono ?_;rintro e wA ⟨rfl,hb⟩;have nP:=aM (blk_below HP.out hb);have nC:=aM (blk_below HC.out hb);have nB:=aM (HB.out.trans (hb.mono HB.out.size));have nZ:=aM (Nat.le_trans HZ.out hb.size);clear hb HP HC HB HZ;have HP:=nP;have HC:=nC;have HB:=nB;have HZ:=nZ;clear nP nC nB nZ;have K0:=(blk_cell HC.out 0).trans rfl;have K1:=(blk_cell HC.out 1).trans rfl;have F0:=blk_frozen HC.out 0;have F1:=blk_frozen HC.out 1)
     all_goals
      go_roundg 2
      case measure=>omega
      case rel=>exact ⟨1,z,o,0,.inr (.inl rfl),by decide,rfl,rfl,by omega,⟨HP.out⟩,⟨HC.out⟩,⟨by have e:=HV.out;show voteStep 0 x0 (voteAt x0 x1 x2 0) = _;rw [e];simp [voteStep,d1,d2]⟩,⟨HB.out⟩,⟨by have:=HZ.out;first|exact this|simpa [World.setCell] using this⟩⟩
  ·have G0:=(blk_cell HP.out 2).trans rfl
   have G1:=(blk_cell HP.out 3).trans rfl
   by_cases d1:x1 = 48
   ·have b1:(x1 == 48) = true:=beq_iff_eq.mpr d1
    go_wp2_with (go_at_call 20;refine (C1.out _).mono ?_;rintro e wA ⟨rfl,hb⟩;have nP:=aM (blk_below HP.out hb);have nC:=aM (blk_below HC.out hb);have nB:=aM (HB.out.trans (hb.mono HB.out.size));have nZ:=aM (Nat.le_trans HZ.out hb.size);clear hb HP HC HB HZ;have HP:=nP;have HC:=nC;have HB:=nB;have HZ:=nZ;clear nP nC nB nZ;have K0:=(blk_cell HC.out 0).trans rfl;have K1:=(blk_cell HC.out 1).trans rfl;have F0:=blk_frozen HC.out 0;have F1:=blk_frozen HC.out 1)
    all_goals
     go_roundg 1
     case measure=>omega
     case rel=>exact ⟨2,z + 1,o,s,.inr (.inr (.inl rfl)),by decide,rfl,rfl,by omega,⟨blk_far HP.out (by simp) _⟩,⟨blk_put (cs:=#[.int .i64 z,.int .i64 o]) HC.out 0 _ (by first|rfl|(simp [wz];done)|(simp [wrap64] at *;omega))⟩,⟨by have e:=HV.out;show voteStep 1 x1 (voteAt x0 x1 x2 1) = _;rw [e];simp [voteStep,d1]⟩,⟨zS HB.out (by omega)⟩,⟨by have:=HZ.out;first|exact this|simpa [World.setCell] using this⟩⟩
   ·have b1:(x1 == 48) = false:=beq_eq_false_iff_ne.mpr d1
    by_cases d2:x1 = 49
    ·have b2:(x1 == 49) = true:=beq_iff_eq.mpr d2
     go_wp2_with (go_at_call 20;refine (C1.out _).mono ?_;rintro e wA ⟨rfl,hb⟩;have nP:=aM (blk_below HP.out hb);have nC:=aM (blk_below HC.out hb);have nB:=aM (HB.out.trans (hb.mono HB.out.size));have nZ:=aM (Nat.le_trans HZ.out hb.size);clear hb HP HC HB HZ;have HP:=nP;have HC:=nC;have HB:=nB;have HZ:=nZ;clear nP nC nB nZ;have K0:=(blk_cell HC.out 0).trans rfl;have K1:=(blk_cell HC.out 1).trans rfl;have F0:=blk_frozen HC.out 0;have F1:=blk_frozen HC.out 1)
     all_goals
      go_roundg 1
      case measure=>omega
      case rel=>exact ⟨2,z,o + 1,s,.inr (.inr (.inl rfl)),by decide,rfl,rfl,by omega,⟨blk_far HP.out (by simp) _⟩,⟨blk_put (cs:=#[.int .i64 z,.int .i64 o]) HC.out 1 _ (by first|rfl|(simp [wo];done))⟩,⟨by have e:=HV.out;show voteStep 1 x1 (voteAt x0 x1 x2 1) = _;rw [e];simp [voteStep,d1,d2]⟩,⟨zS HB.out (by omega)⟩,⟨by have:=HZ.out;first|exact this|simpa [World.setCell] using this⟩⟩
    ·have b2:(x1 == 49) = false:=beq_eq_false_iff_ne.mpr d2
     go_wp2_with (go_at_call 20;refine (C1.out _).mono ?_;rintro e wA ⟨rfl,hb⟩;have nP:=aM (blk_below HP.out hb);have nC:=aM (blk_below HC.out hb);have nB:=aM (HB.out.trans (hb.mono HB.out.size));have nZ:=aM (Nat.le_trans HZ.out hb.size);clear hb HP HC HB HZ;have HP:=nP;have HC:=nC;have HB:=nB;have HZ:=nZ;clear nP nC nB nZ;have K0:=(blk_cell HC.out 0).trans rfl;have K1:=(blk_cell HC.out 1).trans rfl;have F0:=blk_frozen HC.out 0;have F1:=blk_frozen HC.out 1)
     all_goals
      go_roundg 1
      case measure=>omega
      case rel=>exact ⟨2,z,o,1,.inr (.inr (.inl rfl)),by decide,rfl,rfl,by omega,⟨HP.out⟩,⟨HC.out⟩,⟨by have e:=HV.out;show voteStep 1 x1 (voteAt x0 x1 x2 1) = _;rw [e];simp [voteStep,d1,d2]⟩,⟨HB.out⟩,⟨by have:=HZ.out;first|exact this|simpa [World.setCell] using this⟩⟩
  ·have G0:=(blk_cell HP.out 4).trans rfl
   have G1:=(blk_cell HP.out 5).trans rfl
   by_cases d1:x2 = 48
   ·have b1:(x2 == 48) = true:=beq_iff_eq.mpr d1
    go_wp2_with (go_at_call 20;refine (C2.out _).mono ?_;rintro e wA ⟨rfl,hb⟩;have nP:=aM (blk_below HP.out hb);have nC:=aM (blk_below HC.out hb);have nB:=aM (HB.out.trans (hb.mono HB.out.size));have nZ:=aM (Nat.le_trans HZ.out hb.size);clear hb HP HC HB HZ;have HP:=nP;have HC:=nC;have HB:=nB;have HZ:=nZ;clear nP nC nB nZ;have K0:=(blk_cell HC.out 0).trans rfl;have K1:=(blk_cell HC.out 1).trans rfl;have F0:=blk_frozen HC.out 0;have F1:=blk_frozen HC.out 1)
    all_goals
     go_roundg 0
     case measure=>omega
     case rel=>exact ⟨3,z + 1,o,s,.inr (.inr (.inr rfl)),by decide,rfl,rfl,by omega,⟨blk_far HP.out (by simp) _⟩,⟨blk_put (cs:=#[.int .i64 z,.int .i64 o]) HC.out 0 _ (by first|rfl|(simp [wz];done)|(simp [wrap64] at *;omega))⟩,⟨by have e:=HV.out;show voteStep 2 x2 (voteAt x0 x1 x2 2) = _;rw [e];simp [voteStep,d1]⟩,⟨zS HB.out (by omega)⟩,⟨by have:=HZ.out;first|exact this|simpa [World.setCell] using this⟩⟩
   ·have b1:(x2 == 48) = false:=beq_eq_false_iff_ne.mpr d1
    by_cases d2:x2 = 49
    ·have b2:(x2 == 49) = true:=beq_iff_eq.mpr d2
     go_wp2_with (go_at_call 20;refine (C2.out _).mono ?_;rintro e wA ⟨rfl,hb⟩;have nP:=aM (blk_below HP.out hb);have nC:=aM (blk_below HC.out hb);have nB:=aM (HB.out.trans (hb.mono HB.out.size));have nZ:=aM (Nat.le_trans HZ.out hb.size);clear hb HP HC HB HZ;have HP:=nP;have HC:=nC;have HB:=nB;have HZ:=nZ;clear nP nC nB nZ;have K0:=(blk_cell HC.out 0).trans rfl;have K1:=(blk_cell HC.out 1).trans rfl;have F0:=blk_frozen HC.out 0;have F1:=blk_frozen HC.out 1)
     all_goals
      go_roundg 0
      case measure=>omega
      case rel=>exact ⟨3,z,o + 1,s,.inr (.inr (.inr rfl)),by decide,rfl,rfl,by omega,⟨blk_far HP.out (by simp) _⟩,⟨blk_put (cs:=#[.int .i64 z,.int .i64 o]) HC.out 1 _ (by first|rfl|(simp [wo];done))⟩,⟨by have e:=HV.out;show voteStep 2 x2 (voteAt x0 x1 x2 2) = _;rw [e];simp [voteStep,d1,d2]⟩,⟨zS HB.out (by omega)⟩,⟨by have:=HZ.out;first|exact this|simpa [World.setCell] using this⟩⟩
    ·have b2:(x2 == 49) = false:=beq_eq_false_iff_ne.mpr d2
     go_wp2_with (go_at_call 20;refine (C2.out _).mono ?_;rintro e wA ⟨rfl,hb⟩;have nP:=aM (blk_below HP.out hb);have nC:=aM (blk_below HC.out hb);have nB:=aM (HB.out.trans (hb.mono HB.out.size));have nZ:=aM (Nat.le_trans HZ.out hb.size);clear hb HP HC HB HZ;have HP:=nP;have HC:=nC;have HB:=nB;have HZ:=nZ;clear nP nC nB nZ;have K0:=(blk_cell HC.out 0).trans rfl;have K1:=(blk_cell HC.out 1).trans rfl;have F0:=blk_frozen HC.out 0;have F1:=blk_frozen HC.out 1)
     all_goals
      go_roundg 0
      case measure=>omega
      case rel=>exact ⟨3,z,o,2,.inr (.inr (.inr rfl)),by decide,rfl,rfl,by omega,⟨HP.out⟩,⟨HC.out⟩,⟨by have e:=HV.out;show voteStep 2 x2 (voteAt x0 x1 x2 2) = _;rw [e];simp [voteStep,d1,d2]⟩,⟨HB.out⟩,⟨by have:=HZ.out;first|exact this|simpa [World.setCell] using this⟩⟩
  ·have HR:=aM (HE.out.symm.trans (congrArg lettersEnd HV.out))
   have K0:=(blk_cell HC.out 0).trans rfl
   have K1:=(blk_cell HC.out 1).trans rfl
   have e:(if z = 1 ∧ o = 1 then ((0:Int),s) else if z > o then (48,-1) else (49,-1)) = (r1,r2):=HR.out.symm
   clear HR
   by_cases e1:z = 1
   ·have b1:(z == 1) = true:=beq_iff_eq.mpr e1
    by_cases e2:o = 1
    ·have b2:(o == 1) = true:=beq_iff_eq.mpr e2
     rw [if_pos ⟨e1,e2⟩] at e
     obtain ⟨rfl,rfl⟩:=Prod.mk.inj e
     clear e1 e2
     go_wp2
     go_ret2
     exact ⟨rfl,HB.out⟩
    ·have b2:(o == 1) = false:=beq_eq_false_iff_ne.mpr e2
     rw [if_neg (fun h=>e2 h.2)] at e
     by_cases e3:z > o
     ·rw [if_pos e3] at e
      obtain ⟨rfl,rfl⟩:=Prod.mk.inj e
      have b3:decide (o < z) = true:=decide_eq_true e3
      have b4:decide (z > o) = true:=decide_eq_true e3
      go_wp2
      go_ret2
      exact ⟨rfl,HB.out⟩
     ·rw [if_neg e3] at e
      obtain ⟨rfl,rfl⟩:=Prod.mk.inj e
      have b3:decide (o < z) = false:=decide_eq_false e3
      have b4:decide (z > o) = false:=decide_eq_false e3
      go_wp2
      go_ret2
      exact ⟨rfl,HB.out⟩
   ·have b1:(z == 1) = false:=beq_eq_false_iff_ne.mpr e1
    rw [if_neg (fun h=>e1 h.1)] at e
    by_cases e3:z > o
    ·rw [if_pos e3] at e
     obtain ⟨rfl,rfl⟩:=Prod.mk.inj e
     have b3:decide (o < z) = true:=decide_eq_true e3
     have b4:decide (z > o) = true:=decide_eq_true e3
     go_wp2
     go_ret2
     exact ⟨rfl,HB.out⟩
    ·rw [if_neg e3] at e
     obtain ⟨rfl,rfl⟩:=Prod.mk.inj e
     have b3:decide (o < z) = false:=decide_eq_false e3
     have b4:decide (z > o) = false:=decide_eq_false e3
     go_wp2
     go_ret2
     exact ⟨rfl,HB.out⟩
end
end Go.Proofs.Ytbiehbmojbmnoaa.Q
end
