/- Joined texts: ExtWords, Shelf, Rep, RepAll, Qx0, Qx1, Qx4, Qx5, Qx6, Qx7, Qx8, Qx3, Qx9, Qx10, Qx2, Qx11, Qx12 -/
import Derived.Test.YtccinmopfchjlaaPkFnAddresses10
import Derived.Shelf.Abstract
import Derived.Laws.Runes
import Derived.Shelf.Strings.Builder1
import Derived.Shelf.Strings.Builder2
import Derived.Shelf.Small.Strs
import Derived.Shelf.Strings.BuilderF
import Derived.Shelf.Strings.Search1
import Derived.Shelf.Strings.Prefix
import Derived.Shelf.Bits.Mul64
import Derived.Test.YtccinmopfchjlaaProg
import Derived.Lib.FrozenHead
import Derived.Lib.RepeatB
import Derived.Laws.Strings3
import Derived.Deep.LoopGhost
import Derived.Deep.DeepCutAuto
import Derived.Deep.DeepFit
import Derived.Deep.CutBlock
import Derived.Test.YtccinmopfchjlaaChecked
import Derived.Below
import Derived.Deep.Draws
import Derived.Deep.AppendLies
import Derived.Maps.AppendAt
import Derived.OwnWalk
import Derived.Laws.BytesArg
import Derived.Laws.MakeOwn
import Derived.Laws.OwnMore
import Derived.Deep.OwnRows
import Derived.Tactics
import Derived.Lib.ConvBytes
import Derived.Laws.Slices
import Derived.WalkKit
import Derived.KernelRfl
import Derived.RowKit3
import Derived.Deep.QuietTactic
import Derived.BigQuiet
import Derived.WideLaws
import Derived.Deep.RegionHeld3
import Derived.Laws.Rows
import Derived.Lib.AppendStr
import Derived.ArgAppend
import Derived.Laws.IdiomCopy
import Derived.OrdersHeld
import Derived.Laws.BitsLemmas
import Derived.RowKit
import Derived.Test.YtccinmopfchjlaaPkFnAddresses21
import Derived.Test.YtccinmopfchjlaaPkFnAddresses20
import Derived.Test.YtccinmopfchjlaaPkFnAddresses9
import Derived.Test.YtccinmopfchjlaaPkFnAddresses8
import Derived.Test.YtccinmopfchjlaaPkFnAddresses19
import Derived.Test.YtccinmopfchjlaaPkFnAddresses18
import Derived.Test.YtccinmopfchjlaaPkFnAddresses17
import Derived.Test.YtccinmopfchjlaaPkFnAddresses16
import Derived.Test.YtccinmopfchjlaaPkFnAddresses15
import Derived.Test.YtccinmopfchjlaaPkFnAddresses14
import Derived.Test.YtccinmopfchjlaaPkFnAddresses13
import Derived.Test.YtccinmopfchjlaaPkFnAddresses12
import Derived.Test.YtccinmopfchjlaaPkFnAddresses7
import Derived.Test.YtccinmopfchjlaaPkFnAddresses6
import Derived.Test.YtccinmopfchjlaaPkFnAddresses5
import Derived.Test.YtccinmopfchjlaaPkFnAddresses4
import Derived.Test.YtccinmopfchjlaaPkFnAddresses3
import Derived.Test.YtccinmopfchjlaaPkFnAddresses2
import Derived.Test.YtccinmopfchjlaaPkFnAddresses1
import Derived.Test.YtccinmopfchjlaaPkFnAddresses11
import Derived.Test.YtccinmopfchjlaaPkFnAddresses0
section
namespace Go.Proofs.YtccinmopfchjlaaW.Ext
open Go.RowKit Go.Proofs.YtccinmopfchjlaaW.PrintWords Go.Proofs.YtccinmopfchjlaaW.PrintLast
def idxGo {α : Type} (p : α → Option Bool) : Int → List α → Option Int
  | _, [] => some (-1)
  | i, x :: xs => (p x).bind fun b => if b = true then some i else idxGo p (i + 1) xs
def allM {α : Type} (p : α → Option Bool) : List α → Option Bool
  | [] => some true
  | x :: xs => (p x).bind fun b => if b = true then allM p xs else some false
theorem allM_idx {α : Type} (p : α → Option Bool) : ∀ (l : List α) (j : Int) (r : Bool), 0 ≤ j → allM p l = some r →
    ∃ i, idxGo (fun x => (p x).map (fun b => !b)) j l = some i ∧ decide (0 ≤ i) = !r := by
  intro l
  induction l with
  | nil =>
    intro j r _ h
    have hr : true = r := Option.some.inj h
    subst hr
    exact ⟨-1, rfl, rfl⟩
  | cons x xs ih =>
    intro j r hj h
    unfold allM at h
    unfold idxGo
    cases hp : p x with
    | none => rw [hp] at h; simp at h
    | some b =>
      rw [hp] at h
      cases b with
      | true =>
        simp only [Option.bind_some, if_true] at h
        obtain ⟨i, h1, h2⟩ := ih (j + 1) r (by omega) h
        exact ⟨i, by simpa using h1, h2⟩
      | false =>
        have hr : false = r := by simpa using h
        subst hr
        exact ⟨j, by simp, by simpa using hj⟩
theorem allM_mono {α : Type} {p q : α → Option Bool} (hpq : ∀ x, LeO (p x) (q x)) : ∀ l : List α, LeO (allM p l) (allM q l)
  | [] => fun r h => h
  | x :: xs => fun r h => by
    unfold allM at h ⊢
    cases hp : p x with
    | none => rw [hp] at h; simp at h
    | some b =>
      rw [hpq x b hp]
      rw [hp] at h
      simp only [Option.bind_some] at h ⊢
      cases b with
      | true => simp only [if_true] at h ⊢; exact allM_mono hpq xs r h
      | false => exact h
theorem idxGo_drop {α : Type} (p : α → Option Bool) (l : List α) (k : Nat) (i r : Int) (hk : k < l.length) (h : idxGo p i (l.drop k) = some r) :
    ∃ b, p l[k] = some b ∧ ((b = true ∧ r = i) ∨ (b = false ∧ idxGo p (i + 1) (l.drop (k + 1)) = some r)) := by
  rw [List.drop_eq_getElem_cons hk] at h
  unfold idxGo at h
  cases hp : p l[k] with
  | none => rw [hp] at h; simp at h
  | some b =>
    rw [hp] at h
    refine ⟨b, rfl, ?_⟩
    cases b with
    | true => left; simp at h; exact ⟨rfl, h.symm⟩
    | false => right; simp at h; exact ⟨rfl, h⟩
theorem idxGo_end {α : Type} (p : α → Option Bool) (l : List α) (k : Nat) (i r : Int) (hk : l.length ≤ k) (h : idxGo p i (l.drop k) = some r) : r = -1 := by
  rw [List.drop_of_length_le hk] at h
  simp [idxGo] at h
  exact h.symm
end Go.Proofs.YtccinmopfchjlaaW.Ext
end
section
namespace Go.Proofs
open Go.Shelf
open Go.RowKit in
open Go.RowKit in
open Go.RowKit in
open Go.RowKit in
open Go.RowKit in
def Try.lays165_ren : Go.Shelf.Ren := ⟨fun | 165 => 54 | 240 => 68 | 241 => 69 | 276 => 73 | 277 => 74 | n => n, fun | 70 => 82 | 3 => 3 | 0 => 0 | 4 => 4 | 9 => 9 | 20 => 20 | 72 => 84 | 37 => 22 | 164 => 104 | 5 => 5 | n => n, fun | n => n⟩
theorem Try.lays165 : Go.Proofs.Lays.n165 Try.prog Try.lays165_ren := {
  mixed := by kernel_rfl
  f165 := Try.func54.trans (congrArg some (by kernel_rfl))
  f240 := Try.func68.trans (congrArg some (by kernel_rfl))
  f241 := Try.func69.trans (congrArg some (by kernel_rfl))
  f276 := Try.func73.trans (congrArg some (by kernel_rfl))
  f277 := Try.func74.trans (congrArg some (by kernel_rfl))
  t0 := Try.underlying0
  a0 := Try.isAgg0
  z0 := Try.sizeOf0
  v0 := Try.zeroValue0
  t3 := Try.underlying3
  a3 := Try.isAgg3
  z3 := Try.sizeOf3
  v3 := Try.zeroValue3
  t4 := Try.underlying4
  a4 := Try.isAgg4
  z4 := Try.sizeOf4
  v4 := Try.zeroValue4
  t9 := Try.underlying9
  a9 := Try.isAgg9
  z9 := Try.sizeOf9
  v9 := Try.zeroValue9
  t20 := Try.underlying20
  a20 := Try.isAgg20
  z20 := Try.sizeOf20
  v20 := Try.zeroValue20
  t37 := Try.underlying22
  a37 := Try.isAgg22
  z37 := Try.sizeOf22
  v37 := Try.zeroValue22
  t70 := Try.underlying82
  a70 := Try.isAgg82
  z70 := Try.sizeOf82
  v70 := Try.zeroValue82
  t72 := Try.underlying84
  a72 := Try.isAgg84
  z72 := Try.sizeOf84
  v72 := Try.zeroValue84
  t164 := Try.underlying104
  a164 := Try.isAgg104
  z164 := Try.sizeOf104
  v164 := Try.zeroValue104 }
theorem Try.Builder_Extra_165 : Builder.Extra Try.prog Try.lays165_ren := {
  sizeBuilder := by kernel_rfl
  liesBuilder := by kernel_rfl
  t5 := Try.underlying5
  a5 := Try.isAgg5
  z5 := Try.sizeOf5
  v5 := Try.zeroValue5
  infoByte := by kernel_rfl
  cellsByte := by kernel_rfl
  sizeByte := by kernel_rfl
  neB5 := by decide }
open Go.RowKit in
theorem Try.Builder_Grow_fresh (B b n : Nat) (w : World) (hB : B ≤ b) (hbk : w.heap[b]? = some (.cells #[.pointer none, .slice none 0 0] 84 (0, 0))) (hBw : B ≤ w.heap.size) (hn : n ≤ 281474976710656) :
    Calls Try.prog 54 #[.pointer (some ⟨b, 0, none⟩), .int .i64 n] w fun e w' => e = .returned (.tuple #[]) ∧ (Lib.BuilderAt 84 5 B b (.pointer (some ⟨b, 0, none⟩)) [] w' ∧ Below B w w') := Any.Builder_Grow_fresh Try.lays165 Try.Builder_Extra_165 B b n w hB hbk hBw hn
def Try.lays137_ren : Go.Shelf.Ren := ⟨fun | 137 => 43 | 217 => 58 | 266 => 70 | n => n, fun | 9 => 9 | 5 => 5 | 3 => 3 | n => n, fun | n => n⟩
theorem Try.lays137 : Go.Proofs.Lays.n137 Try.prog Try.lays137_ren := {
  mixed := by kernel_rfl
  f137 := Try.func43.trans (congrArg some (by kernel_rfl))
  f217 := Try.func58.trans (congrArg some (by kernel_rfl))
  f266 := Try.func70.trans (congrArg some (by kernel_rfl))
  t3 := Try.underlying3
  a3 := Try.isAgg3
  z3 := Try.sizeOf3
  v3 := Try.zeroValue3
  t5 := Try.underlying5
  a5 := Try.isAgg5
  z5 := Try.sizeOf5
  v5 := Try.zeroValue5
  t9 := Try.underlying9
  a9 := Try.isAgg9
  z9 := Try.sizeOf9
  v9 := Try.zeroValue9 }
open Go.RowKit in
theorem Try.strings_IndexByte (s : ByteArray) (c : Int) (w : World) :
    Calls Try.prog 43 #[.string s, .int .u8 c] w fun e w' => e = .returned (.int .i64 (Lib.indexByte s.data.toList c.toNat.toUInt8)) ∧ w' = w := Any.strings_IndexByte Try.lays137 s c w
open Go.RowKit in
open Go.RowKit in
open Go.RowKit in
open Go.RowKit in
open Go.RowKit Go.Lib in
open Go.RowKit Go.Lib in
open Go.RowKit Go.Lib in
open Go.RowKit Go.Lib in
def Try.lays212_ren : Go.Shelf.Ren := ⟨fun | 212 => 52 | 263 => 65 | 264 => 66 | n => n, fun | 46 => 65 | 51 => 98 | 146 => 99 | 53 => 55 | 148 => 101 | n => n, fun | n => n⟩
theorem Try.lays212 : Go.Proofs.Lays.n212 Try.prog Try.lays212_ren := {
  mixed := by kernel_rfl
  f212 := Try.func52.trans (congrArg some (by kernel_rfl))
  f263 := Try.func65.trans (congrArg some (by kernel_rfl))
  f264 := Try.func66.trans (congrArg some (by kernel_rfl))
  t46 := Try.underlying65
  a46 := Try.isAgg65
  z46 := Try.sizeOf65
  v46 := Try.zeroValue65
  t51 := Try.underlying98
  a51 := Try.isAgg98
  z51 := Try.sizeOf98
  v51 := Try.zeroValue98
  t53 := Try.underlying55
  a53 := Try.isAgg55
  z53 := Try.sizeOf55
  v53 := Try.zeroValue55
  t146 := Try.underlying99
  a146 := Try.isAgg99
  z146 := Try.sizeOf99
  v146 := Try.zeroValue99
  t148 := Try.underlying101
  a148 := Try.isAgg101
  z148 := Try.sizeOf101
  v148 := Try.zeroValue101 }
open Go.RowKit Go.Lib in
theorem Try.bits_Mul (x y : Nat) (hx : x < 18446744073709551616) (hy : y < 18446744073709551616) (w : World) :
    Calls Try.prog 52 #[.int .u64 x, .int .u64 y] w fun e w' => e = .returned (.tuple #[.int .u64 ((x * y / 18446744073709551616 : Nat) : Int), .int .u64 ((x * y % 18446744073709551616 : Nat) : Int)]) ∧ w' = w := Any.bits_Mul Try.lays212 x y hx hy w
end Go.Proofs
end
section
namespace Go.Proofs.Ytccinmopfchjlaa.Rep
open Go.Shelf Go.RowKit Go.Proofs
set_option linter.unusedVariables false
set_option linter.unusedSimpArgs false
abbrev TB : TypeId := 84
abbrev TU : TypeId := 5
theorem size_builder : (Try.prog.info? TB).map (·.size) = some 2 := by kernel_rfl
theorem lies_builder : liesAt Try.prog Try.prog.depth TB (2 / Try.prog.cellsOf TB) 0 TB 1 = true := by kernel_rfl
theorem info_byte : (Try.prog.info? TU).map (fun i => (i.zero, i.size, i.bytes)) = some (some (.int .u8 0), 1, 1) := by kernel_rfl
theorem cells_byte : Try.prog.cellsOf TU = 1 := by kernel_rfl
theorem ne_bu : TB ≠ TU := by decide
theorem mixed : Try.prog.follows .mixedOrders = true := by kernel_rfl
set_option maxHeartbeats 1000000 in
set_option maxRecDepth 100000 in
theorem check_used (b : Nat) (w : World) (h0 : w.cell? ⟨b, 0, none⟩ = some (.pointer (some ⟨b, 0, none⟩))) :
    Calls Try.prog 68 #[.pointer (some ⟨b, 0, none⟩)] w fun e w' => e = .returned (.tuple #[]) ∧ w' = w := by
  obtain ⟨j, hj, _⟩ := Option.map_eq_some_iff.1 size_builder
  go_enter Try.func68, Try.ntmps68
  go_wp2
  rw [Lib.run_neq_ptr_same w _ Try.underlying82 hj]
  go_wp2
  go_end0
  exact ⟨rfl, rfl⟩
set_option maxHeartbeats 1000000 in
set_option maxRecDepth 100000 in
theorem check_fresh (b : Nat) (w : World) (h0 : w.cell? ⟨b, 0, none⟩ = some (.pointer none)) (hsh : w.shape? b = some (TB, 2)) (hfz : w.frozen? ⟨b, 0, none⟩ = false) :
    Calls Try.prog 68 #[.pointer (some ⟨b, 0, none⟩)] w fun e w' => e = .returned (.tuple #[]) ∧ w' = w.setCell ⟨b, 0, none⟩ (.pointer (some ⟨b, 0, none⟩)) := by
  obtain ⟨j, hj, hjs⟩ := Option.map_eq_some_iff.1 size_builder
  go_enter Try.func68, Try.ntmps68
  go_wp2
  rw [Lib.run_to_unsafe w ⟨b, 0, none⟩ Try.underlying82 Try.underlying104 hj (by rw [hjs]; decide) hsh (Nat.zero_lt_succ 1)]
  simp only [Result.andThen]
  rw [Oper.upon_value]
  go_wp2
  rw [run_callFunc_extern Try.func73 (by kernel_rfl) (by kernel_rfl) (by kernel_rfl) (e := Extern.AbiNoEscape.same) (by kernel_rfl)]
  rw [Lib.run_noEscape]
  simp only [Result.andThen]
  rw [Oper.upon_value]
  go_wp2
  rw [Lib.run_from_unsafe w ⟨b, 0, none⟩ Try.underlying104 Try.underlying82 hj hsh lies_builder]
  simp only [Result.andThen]
  rw [Oper.upon_value]
  go_wp2
  go_end0
  exact ⟨rfl, rfl⟩
theorem check (B b : Nat) (bs : List Value) (w : World) (h : Lib.IsBuilderF TB TU B b bs w) :
    Calls Try.prog 68 #[.pointer (some ⟨b, 0, none⟩)] w fun e w' => e = .returned (.tuple #[]) ∧ (Lib.BuilderAtF TB TU B b (.pointer (some ⟨b, 0, none⟩)) bs w' ∧ Below B w w') := by
  rcases h with h | h
  · refine (check_fresh b w h.cell0 h.shape h.frozen0).mono ?_
    rintro e w' ⟨rfl, rfl⟩
    exact ⟨rfl, h.used _, (Below.refl B w).setCell (p := ⟨b, 0, none⟩) h.1 _⟩
  · refine (check_used b w h.cell0).mono ?_
    rintro e w' ⟨rfl, rfl⟩
    exact ⟨rfl, h, Below.refl B _⟩
theorem atF {B b : Nat} {bs : List Value} {w : World} (h : Lib.IsBuilderF TB TU B b bs w) : ∃ p, (p = .pointer none ∨ p = .pointer (some ⟨b, 0, none⟩)) ∧ Lib.BuilderAtF TB TU B b p bs w := by
  rcases h with h | h
  · exact ⟨_, .inl rfl, h⟩
  · exact ⟨_, .inr rfl, h⟩
set_option maxHeartbeats 1000000 in
set_option maxRecDepth 100000 in
theorem len (B b : Nat) (bs : List Value) (w : World) (h : Lib.IsBuilderF TB TU B b bs w) :
    Calls Try.prog 56 #[.pointer (some ⟨b, 0, none⟩)] w fun e w' => e = .returned (.int .i64 bs.length) ∧ w' = w := by
  obtain ⟨p, _, hB, v, hbk, hown, hne⟩ := atF h
  obtain ⟨ao, cap, rfl⟩ : ∃ ao cap, v = .slice ao bs.length cap := by
    rcases hown.2 with ⟨hv, h0⟩ | ⟨g, cap, cur, fz, hv, _⟩
    · exact ⟨none, 0, by rw [hv, h0]⟩
    · exact ⟨_, _, hv⟩
  have c1 : w.cell? ⟨b, 1, none⟩ = some (.slice ao bs.length cap) := by rw [Lib.cell_of_heap hbk]; rfl
  go_enter Try.func56, Try.ntmps56
  go_wp2
  go_ret
  exact ⟨rfl, rfl⟩
set_option maxHeartbeats 2000000 in
set_option maxRecDepth 100000 in
theorem write (B b : Nat) (bs : List Value) (s : ByteArray) (w : World) (h : Lib.IsBuilderF TB TU B b bs w) (hlen : bs.length + s.size ≤ 140737488355328) (hBw : B ≤ w.heap.size) :
    Calls Try.prog 55 #[.pointer (some ⟨b, 0, none⟩), .string s] w fun e w' => e = .returned (.tuple #[.int .i64 s.size, .nilIface]) ∧ (Lib.BuilderAtF TB TU B b (.pointer (some ⟨b, 0, none⟩)) (bs ++ Lib.strCells s) w' ∧ Below B w w') := by
  obtain ⟨i0, hi, hz0, hz1, hz2⟩ := info_parts info_byte
  have hc := check B b bs w h
  go_enter Try.func55, Try.ntmps55
  go_wp2_with (go_at_call 68; refine hc.mono ?_)
  rintro e w1 ⟨rfl, h1, hb1⟩
  obtain ⟨hB, v, hbk, hown, hne⟩ := h1
  have c0 : w1.cell? ⟨b, 0, none⟩ = some (.pointer (some ⟨b, 0, none⟩)) := by rw [Lib.cell_of_heap hbk]; rfl
  have c1 : w1.cell? ⟨b, 1, none⟩ = some v := by rw [Lib.cell_of_heap hbk]; rfl
  go_wp2_with (at_builtin; refine Lib.wpList_append_own_stringF _ rfl _ _ 22 9 rfl B TU i0 Try.underlying22 Try.underlying9 hi hz0 hz1 hz2 _ _ _ rfl hown s rfl ?c3 ?c4 ?c5 ?_)
  case c3 => unfold maxLen; omega
  case c4 => omega
  case c5 => have := hb1.size; omega
  intro v' w2 hown' hgrow _
  have hlt : b < w1.heap.size := by
    rcases Nat.lt_or_ge b w1.heap.size with h' | h'
    · exact h'
    · simp [Array.getElem?_eq_none h'] at hbk
  have hb2 : w2.heap[b]? = some (.cells #[.pointer (some ⟨b, 0, none⟩), v] TB (0, 0)) := by
    rw [hgrow.block b hlt (fun e => hne e.symm)]
    exact hbk
  have d0 : w2.cell? ⟨b, 0, none⟩ = some (.pointer (some ⟨b, 0, none⟩)) := by rw [Lib.cell_of_heap hb2]; rfl
  have d1 : w2.cell? ⟨b, 1, none⟩ = some v := by rw [Lib.cell_of_heap hb2]; rfl
  have f1 : w2.frozen? ⟨b, 1, none⟩ = false := Lib.frozen_of_heap hb2 1
  obtain ⟨ao, n', cap, rfl⟩ : ∃ ao n' cap, v' = .slice ao n' cap := by
    rcases hown'.2 with ⟨hv, _⟩ | ⟨g, cap, cur, fz, hv, _⟩
    · exact ⟨_, _, _, hv⟩
    · exact ⟨_, _, _, hv⟩
  go_wp2
  go_ret2
  refine ⟨rfl, ?_, ?_⟩
  · exact Lib.BuilderAtF.put (T := TB) (e := TU) hB hb2 (bs' := bs ++ Lib.strCells s) (by simpa [Lib.strCells_length] using hown') ne_bu
  · exact (hb1.grown hgrow (by have := hb1.size; omega) (fun k hk => (hown.lt k hk).1)).setCell (p := ⟨b, 1, none⟩) hB _
set_option maxHeartbeats 1000000 in
set_option maxRecDepth 100000 in
theorem str (B b : Nat) (l : List UInt8) (w : World) (h : Lib.IsBuilderF TB TU B b (Lib.byteCells l) w) (h0 : l ≠ []) :
    Calls Try.prog 57 #[.pointer (some ⟨b, 0, none⟩)] w fun e w' => e = .returned (.string ⟨l.toArray⟩) ∧ (Lib.IsBuilderF TB TU B b (Lib.byteCells l) w' ∧ Below B w w') := by
  obtain ⟨p, hp, hAt⟩ := atF h
  obtain ⟨hB, v, hbk, hown, hne⟩ := hAt
  have hl0 : l.length ≠ 0 := by simpa using h0
  rw [Lib.byteCells_length] at hown
  obtain ⟨g, cap, cur, fz, rfl, hbg, hg, hfz, hnc, hcm, hcs, htake⟩ : ∃ g cap cur fz, v = .slice (some ⟨g, 0, none⟩) l.length cap ∧ B ≤ g ∧ w.heap[g]? = some (.cells cur TU fz) ∧ fz.2 ≤ l.length * 1 ∧ l.length ≤ cap ∧ cap ≤ maxLen ∧ cur.size = cap * 1 ∧ cur.toList.take (l.length * 1) = Lib.byteCells l := by
    rcases hown.2 with ⟨_, hz⟩ | ⟨g, cap, cur, fz, hv, r⟩
    · exact absurd hz hl0
    · exact ⟨g, cap, cur, fz, hv, r⟩
  have c1 : w.drew.cell? ⟨b, 1, none⟩ = some (.slice (some ⟨g, 0, none⟩) l.length cap) := by
    have : w.drew.heap[b]? = some (.cells #[p, .slice (some ⟨g, 0, none⟩) l.length cap] TB (0, 0)) := hbk
    rw [Lib.cell_of_heap this]; rfl
  have hSD : (Builtin.unsafeSliceData_ #[22] 103 #[.slice (some ⟨g, 0, none⟩) l.length cap]).run Try.prog w.drew = .ok (.pointer (some ⟨g, 0, none⟩)) w.drew :=
    Lib.run_unsafeSliceData_row _ _ _ _ _ _ (by omega)
  have hUS : (Builtin.unsafeString_ #[103, 3] 9 #[.pointer (some ⟨g, 0, none⟩), .int .i64 l.length]).run Try.prog w.drew = .ok (.string ⟨l.toArray⟩) (w.drew.freeze ⟨g, 0, none⟩ l.length) := by
    refine Lib.run_unsafeString_row w.drew 103 3 9 TU Try.underlying103 cells_byte g cur.size (by have hg' : w.drew.heap[g]? = some (.cells cur TU fz) := hg; simp [World.shape?, hg']) l h0 (by omega) (by unfold maxLen at hcm; omega) ?_
    intro j x hx
    exact hown.cells (g := g) rfl j (.int .u8 x.toNat) (by simp [Lib.byteCells, hx])
  have hkeep : Lib.IsBuilderF TB TU B b (Lib.byteCells l) (w.drew.freeze ⟨g, 0, none⟩ l.length) := by
    have hA : Lib.BuilderAtF TB TU B b p (Lib.byteCells l) w.drew := ⟨hB, _, hbk, by rw [Lib.byteCells_length]; exact hown, hne⟩
    have hF := hA.froze (g := g) (cap := cap) (by rw [Lib.byteCells_length]; exact c1)
    rw [Lib.byteCells_length] at hF
    rcases hp with rfl | rfl
    · exact .inl hF
    · exact .inr hF
  have mixed := mixed
  go_enter Try.func57, Try.ntmps57
  go_wp2
  go_region_o
  all_goals (go_wp2; go_ret; exact ⟨rfl, hkeep, Lib.below_freeze (Below.drew (Below.refl B w)) (p := ⟨g, 0, none⟩) hbg _⟩)
set_option maxHeartbeats 1000000 in
theorem litePrefix (s p : ByteArray) (w : World) :
    Calls Try.prog 67 #[.string s, .string p] w fun e w' => e = .returned (.bool (Lib.hasPrefix s.data.toList p.data.toList)) ∧ w' = w := by
  rw [← Lib.hasPrefix_of_take, ← Lib.size_eq, ← Lib.size_eq]
  go_enter Try.func67, Try.ntmps67
  go_wp2
  · rename_i h
    go_ret
    refine ⟨?_, rfl⟩
    show Ending.returned (Value.bool ((s.extract 0 p.size).toList == p.toList)) = _
    rw [Lib.extract_toList, Lib.toList_data]
    simp [h]
  · rename_i h
    go_ret
    refine ⟨?_, rfl⟩
    show Ending.returned (Value.bool false) = _
    simp [h]
set_option maxHeartbeats 1000000 in
theorem hasPrefix (s p : ByteArray) (w : World) :
    Calls Try.prog 53 #[.string s, .string p] w fun e w' => e = .returned (.bool (Lib.hasPrefix s.data.toList p.data.toList)) ∧ w' = w := by
  have hc := litePrefix s p w
  go_enter Try.func53, Try.ntmps53
  go_wp2_with (go_at_call 67; refine hc.mono ?_; rintro e w' ⟨rfl, rfl⟩)
  go_ret
  exact ⟨rfl, rfl⟩
theorem min3 {P : Program} {w : World} (ts : Array TypeId) (t : TypeId) (x y z : Int) :
    (Builtin.min_ ts t #[.int .i64 x, .int .i64 y, .int .i64 z]).run P w = .ok (.int .i64 (min (min x y) z)) w := by
  simp [Builtin.min_, Builtin.min2]
  repeat' split
  all_goals (congr 2; omega)
set_option maxHeartbeats 1600000 in
set_option maxRecDepth 1000000 in
theorem main (s : ByteArray) (c : Nat) (w : World) (hc2 : 2 ≤ c) (hlen : s.size * c ≤ 8192) (h0 : 0 < s.size) :
    Calls Try.prog 42 #[.string s, .int .i64 c] w fun e w' => e = .returned (.string ⟨(Lib.repeatL s.data.toList c).toArray⟩) ∧ Below w.heap.size w w' := by
  have hc : c ≤ 8192 := Nat.le_trans (Nat.le_mul_of_pos_left _ h0) hlen
  have hsz : s.size ≤ 8192 := Nat.le_trans (Nat.le_mul_of_pos_right _ (by omega)) hlen
  have hMul := Try.bits_Mul s.size c (by omega) (by omega) w
  rw [Nat.div_eq_of_lt (by omega : s.size * c < 18446744073709551616), Nat.mod_eq_of_lt (by omega : s.size * c < 18446744073709551616)] at hMul
  obtain ⟨n, hn⟩ : ∃ n, s.size * c = n := ⟨_, rfl⟩
  rw [hn] at hMul hlen
  have HN : Aside (s.size * c = n) := hn
  clear hn
  have mixed := mixed
  go_enter Try.func42, Try.ntmps42
  go_upto_block 1 with (go_at_call 52; refine hMul.mono ?_; rintro e w' ⟨rfl, hw⟩; rw [hw])
  clear hMul
  go_cut [] (fun wx => w = wx)
  case first =>
    go_upto_if 43 with fail
    go_cut [43] (fun s43 wx => w = wx ∧ ∃ B : Bool, s43 = .bool B)
    case first =>
      go_wp2
      all_goals (go_meet; exact ⟨rfl, _, rfl⟩)
    case rest =>
      obtain ⟨rfl, B, rfl⟩ := hcut
      cases B
      · go_wp2
        go_meet
        rfl
      · go_wp2_with (go_at_call 53; refine (hasPrefix _ _ _).mono ?_; rintro e w' ⟨rfl, hw⟩; rw [hw])
        all_goals (first
          | (go_meet; rfl)
          | (go_ret; first
              | exact ⟨by rw [Lib.fast_ok _ 32 128 (by rfl) s c n HN.out (by omega) (by assumption)] <;> rfl, Below.refl _ _⟩
              | exact ⟨by rw [Lib.fast_ok _ 45 128 (by rfl) s c n HN.out (by omega) (by assumption)] <;> rfl, Below.refl _ _⟩
              | exact ⟨by rw [Lib.fast_ok _ 48 64 (by rfl) s c n HN.out (by omega) (by assumption)] <;> rfl, Below.refl _ _⟩
              | exact ⟨by rw [Lib.fast_ok _ 61 128 (by rfl) s c n HN.out (by omega) (by assumption)] <;> rfl, Below.refl _ _⟩
              | exact ⟨by rw [Lib.fast_ok _ 9 64 (by rfl) s c n HN.out (by omega) (by assumption)] <;> rfl, Below.refl _ _⟩))
  case rest =>
    obtain rfl := hcut
    have b0 : Below w.heap.size w (w.alloc (.cells #[.pointer none, .slice none 0 0] TB)) := (Below.refl _ w).alloc (Nat.le_refl _) _
    have cG := Try.Builder_Grow_fresh w.heap.size w.heap.size n (w.alloc (.cells #[.pointer none, .slice none 0 0] TB)) (Nat.le_refl _) (heap_alloc_new w _) b0.size (by omega)
    go_wp2_with (go_at_call 54; refine cG.mono ?_; rintro e W1 ⟨rfl, h1, b1⟩)
    clear cG
    have cW := write w.heap.size w.heap.size [] s W1 (Lib.IsBuilderF.of (Or.inr h1)) (by simp; omega) (Nat.le_trans b0.size b1.size)
    go_wp2_with (go_at_call 55; refine cW.mono ?_; rintro e W2 ⟨rfl, h2, b2⟩)
    clear cW h1
    have h2' : Lib.IsBuilderF TB TU w.heap.size w.heap.size (Lib.byteCells (Lib.repeatL s.data.toList 1)) W2 := by
      rw [List.nil_append, Lib.strCells_eq] at h2
      rw [Lib.repeatL_one]
      exact Or.inr h2
    have b02 : Below w.heap.size w W2 := b0.trans (b1.trans b2)
    clear h2 b0 b1 b2
    go_loopg [] (c - 1) (fun g wx => ∃ q : Nat, 1 ≤ q ∧ q + g = c ∧ Lib.IsBuilderF TB TU w.heap.size w.heap.size (Lib.byteCells (Lib.repeatL s.data.toList q)) wx ∧ Below w.heap.size w wx)
    case atStart => exact ⟨1, Nat.le_refl _, by omega, h2', b02⟩
    case round =>
      obtain ⟨q, hq1, hqg, hB, hbx⟩ := hrel
      have hnc : c * s.size = n := by rw [Nat.mul_comm]; exact HN.out
      obtain ⟨Q, hQ⟩ : ∃ Q, q * s.size = Q := ⟨_, rfl⟩
      obtain ⟨S, hS⟩ : ∃ S : ByteArray, (⟨(Lib.repeatL s.data.toList q).toArray⟩ : ByteArray) = S := ⟨_, rfl⟩
      have hSd : S.data.toList = Lib.repeatL s.data.toList q := by rw [← hS]
      have hlq : (Lib.byteCells (Lib.repeatL s.data.toList q)).length = Q := by rw [Lib.byteCells_length, Lib.repeatL_length, ← Lib.size_eq, hQ]
      have hSz : S.size = Q := by rw [Lib.size_eq, hSd, Lib.repeatL_length, ← Lib.size_eq, hQ]
      have hne : Lib.repeatL s.data.toList q ≠ [] := by
        intro h
        have hl := Lib.repeatL_length s.data.toList q
        rw [h, ← Lib.size_eq] at hl
        have := Nat.mul_pos (show 0 < q by omega) h0
        simp at hl
        omega
      have cLen := len w.heap.size w.heap.size _ wr hB
      rw [hlq] at cLen
      have cStr := str w.heap.size w.heap.size (Lib.repeatL s.data.toList q) wr hB hne
      rw [hS] at cStr
      cases gk with
      | zero =>
        obtain rfl : q = c := by omega
        have hQn : ¬ ((Q : Int) < (n : Int)) := by omega
        go_wp2_with (first
          | (go_at_call 56; refine cLen.mono ?_; rintro e w' ⟨rfl, hw⟩; rw [hw])
          | (go_at_call 57; refine cStr.mono ?_; rintro e W3 ⟨rfl, h3, b3⟩))
        go_ret
        exact ⟨by rw [hS] <;> rfl, hbx.trans b3⟩
      | succ g =>
        have hqc : q < c := by omega
        obtain ⟨k, hk1, hkq, hkc, hmin⟩ := Lib.chunk_ok c q c s.size hq1 hqc (by omega)
        rw [hnc, hQ] at hmin
        obtain ⟨CH, hCH⟩ : ∃ CH, k * s.size = CH := ⟨_, rfl⟩
        rw [hCH] at hmin
        have hsum : Q + CH ≤ n := by
          have h1 : (q + k) * s.size ≤ c * s.size := Nat.mul_le_mul_right _ hkc
          rw [Nat.add_mul, hQ, hCH, hnc] at h1
          exact h1
        have hCH1 : 1 ≤ CH := by
          rw [← hCH]
          exact Nat.mul_pos hk1 h0
        have hCHQ : CH ≤ Q := by rw [← hCH, ← hQ]; exact Nat.mul_le_mul_right _ hkq
        have hQn : (Q : Int) < (n : Int) := by omega
        have hmin3 : ∀ (ts : Array TypeId) (t : TypeId) (W : World), (Builtin.min_ ts t #[.int .i64 ((n : Int) - (Q : Int)), .int .i64 (Q : Int), .int .i64 (n : Int)]).run Try.prog W = .ok (.int .i64 (CH : Int)) W := fun ts t W => by
          rw [min3]
          congr 2
          omega
        clear hmin
        go_wp2_with (first
          | (go_at_call 56; refine cLen.mono ?_; rintro e w' ⟨rfl, hw⟩; rw [hw])
          | (go_at_call 57; refine cStr.mono ?_; rintro e W3 ⟨rfl, h3, b3⟩))
        have cWr := write w.heap.size w.heap.size _ (S.extract 0 CH) W3 h3 (by
          rw [hlq, Lib.size_eq, Lib.extract_data, hSd]
          simp only [List.drop_zero, Nat.sub_zero, List.length_take, Lib.repeatL_length]
          omega) (Nat.le_trans hbx.size b3.size)
        go_wp2_with (go_at_call 55; refine cWr.mono ?_; rintro e W4 ⟨rfl, h4, b4⟩)
        go_roundg (c - (q + k))
        case measure => omega
        case rel =>
          refine ⟨q + k, by omega, by omega, Or.inr ?_, hbx.trans (b3.trans b4)⟩
          rw [Lib.strCells_eq, ← Lib.byteCells_append, Lib.extract_data, hSd] at h4
          simp only [List.drop_zero, Nat.sub_zero] at h4
          rw [← hCH, Lib.size_eq, Lib.step_ok _ _ _ hkq] at h4
          exact h4
set_option maxRecDepth 1000000 in
theorem zero (s : ByteArray) (w : World) : Calls Try.prog 42 #[.string s, .int .i64 0] w fun e w' => e = .returned (.string ⟨#[]⟩) ∧ w' = w := by
  have mixed := mixed
  go_enter Try.func42, Try.ntmps42
  go_wp2
  go_ret
  exact ⟨rfl, rfl⟩
set_option maxRecDepth 1000000 in
theorem one (s : ByteArray) (w : World) : Calls Try.prog 42 #[.string s, .int .i64 1] w fun e w' => e = .returned (.string s) ∧ w' = w := by
  have mixed := mixed
  go_enter Try.func42, Try.ntmps42
  go_wp2
  go_ret
  exact ⟨rfl, rfl⟩
set_option maxHeartbeats 800000 in
set_option maxRecDepth 1000000 in
theorem none (s : ByteArray) (c : Nat) (w : World) (hc2 : 2 ≤ c) (hc : c ≤ 9223372036854775807) (h0 : s.size = 0) :
    Calls Try.prog 42 #[.string s, .int .i64 c] w fun e w' => e = .returned (.string ⟨#[]⟩) ∧ w' = w := by
  have hMul := Try.bits_Mul s.size c (by omega) (by omega) w
  rw [h0, Nat.zero_mul] at hMul
  have mixed := mixed
  go_enter Try.func42, Try.ntmps42
  go_wp2_with (go_at_call 52; refine hMul.mono ?_; rintro e w' ⟨rfl, hw⟩; rw [hw])
  go_ret
  exact ⟨rfl, rfl⟩
def val (s : ByteArray) (c : Int) : ByteArray := ⟨(Lib.repeatL s.data.toList c.toNat).toArray⟩
theorem calls (s : ByteArray) (c : Int) (w : World) (hc : 0 ≤ c) (hm : c ≤ 9223372036854775807) (hlen : s.size * c.toNat ≤ 8192) :
    Calls Try.prog 42 #[.string s, .int .i64 c] w fun e w' => e = .returned (.string (val s c)) ∧ Below w.heap.size w w' := by
  obtain ⟨n, rfl⟩ : ∃ n : Nat, c = (n : Int) := ⟨c.toNat, by omega⟩
  rw [Int.toNat_natCast] at hlen
  unfold val
  rw [Int.toNat_natCast]
  rcases (show n = 0 ∨ n = 1 ∨ 2 ≤ n by omega) with rfl | rfl | h2
  · refine (zero s w).mono ?_
    rintro e w' ⟨rfl, rfl⟩
    exact ⟨rfl, Below.refl _ _⟩
  · refine (one s w).mono ?_
    rintro e w' ⟨rfl, rfl⟩
    exact ⟨by simp [Lib.repeatL], Below.refl _ _⟩
  · rcases (show s.size = 0 ∨ 0 < s.size by omega) with h0 | h0
    · refine (none s n w h2 (by omega) h0).mono ?_
      rintro e w' ⟨rfl, rfl⟩
      refine ⟨?_, Below.refl _ _⟩
      have hl := Lib.repeatL_length s.data.toList n
      rw [← Lib.size_eq, h0, Nat.mul_zero] at hl
      rw [List.eq_nil_of_length_eq_zero hl]
    · exact main s n w h2 hlen h0
end Go.Proofs.Ytccinmopfchjlaa.Rep
end
section
namespace Go.Proofs.Ytccinmopfchjlaa.Q
open Go.Proofs.YtccinmopfchjlaaW.Ext
open Go.RowKit Go.Proofs.YtccinmopfchjlaaW.PrintWords Go.Proofs.YtccinmopfchjlaaW.PrintLast Go.Proofs.YtccinmopfchjlaaW.PrintMore
attribute [local go_sem] max2_int min2_int max_two min_two max_three min_three max_four min_four   -- for this text's walks alone
set_option linter.unusedVariables false
set_option linter.unusedSimpArgs false
def errW : Option Int → Value
  | none => .nilIface
  | some c => .iface 0 (.int .i64 c)
theorem errW_none : errW none = .nilIface := rfl
theorem errW_some (c : Int) : errW (some c) = .iface 0 (.int .i64 c) := rfl
theorem info2 : (Try.prog.info? 2).map (fun i => (i.zero, i.size, i.bytes)) = some (some (.int .i64 0), 1, 8) := by kernel_rfl
theorem info5 : (Try.prog.info? 5).map (fun i => (i.zero, i.size, i.bytes)) = some (some (.int .u8 0), 1, 1) := by kernel_rfl
theorem info59 : (Try.prog.info? 59).map (fun i => (i.zero, i.size, i.bytes)) = some (some (.agg #[(.int .i64 0), (.int .i64 0)]), 2, 16) := by kernel_rfl
structure S59 where
  f0 : Int
  f1 : Int
def z59 : S59 := ⟨(0 : Int), (0 : Int)⟩
def k59 : Kd S59 := Kd.iso (Kd.pair (Kd.int .i64) (Kd.int .i64)) (fun x : S59 => (x.f0, x.f1))
theorem k59_open {w : World} {x : S59} {cs : List Value} (h : k59.K w x cs) : cs = [.int .i64 x.f0, .int .i64 x.f1] := by
  obtain ⟨_, _, rfl, rfl, rfl⟩ := h
  exact rfl
theorem k59_mkM (w : World) (base : Nat) (ok : Nat → Prop) (x : S59)  : k59.M w base ok x [.int .i64 x.f0, .int .i64 x.f1] := ⟨[.int .i64 x.f0], [.int .i64 x.f1], rfl, rfl, rfl⟩
def rd_T59 (xs : List S59) (i : Int) : S59 := xs.getD i.toNat z59
theorem at_T59 {w : World} {A : Option Addr} {n : Nat} {xs : List S59} (h : Kd.C k59 w A n xs) (i : Int) (h0 : 0 ≤ i) (h1 : i < n) : ∃ ad , A = some ad ∧ w.cell? (ad.add (i.toNat * 2)) = some (.int .i64 (rd_T59 xs i).f0) ∧ w.cell? ⟨(ad.add (i.toNat * 2)).block, (ad.add (i.toNat * 2)).off + 1, none⟩ = some (.int .i64 (rd_T59 xs i).f1) := by
  obtain ⟨ad, c, e, _, hK, hc0⟩ := Kd.C_get h z59 i h0 h1
  have hc : ∀ j u, c[j]? = some u → w.cell? (ad.add (i.toNat * 2 + j)) = some u := hc0
  obtain rfl := k59_open hK
  exact ⟨ad, e, hc 0 _ rfl, by rw [← add_field _ _ 1 (by omega)]; exact hc 1 _ rfl⟩
structure S25 where
  f0 : ByteArray
  f1 : ByteArray
def z25 : S25 := ⟨(⟨#[]⟩ : ByteArray), (⟨#[]⟩ : ByteArray)⟩
def k25 : Kd S25 := Kd.iso (Kd.pair Kd.string Kd.string) (fun x : S25 => (x.f0, x.f1))
theorem k25_open {w : World} {x : S25} {cs : List Value} (h : k25.K w x cs) : cs = [.string x.f0, .string x.f1] := by
  obtain ⟨_, _, rfl, rfl, rfl⟩ := h
  exact rfl
theorem k25_mkM (w : World) (base : Nat) (ok : Nat → Prop) (x : S25)  : k25.M w base ok x [.string x.f0, .string x.f1] := ⟨[.string x.f0], [.string x.f1], rfl, rfl, rfl⟩
def rd_T25 (xs : List S25) (i : Int) : S25 := xs.getD i.toNat z25
theorem at_T25 {w : World} {A : Option Addr} {n : Nat} {xs : List S25} (h : Kd.C k25 w A n xs) (i : Int) (h0 : 0 ≤ i) (h1 : i < n) : ∃ ad , A = some ad ∧ w.cell? (ad.add (i.toNat * 2)) = some (.string (rd_T25 xs i).f0) ∧ w.cell? ⟨(ad.add (i.toNat * 2)).block, (ad.add (i.toNat * 2)).off + 1, none⟩ = some (.string (rd_T25 xs i).f1) := by
  obtain ⟨ad, c, e, _, hK, hc0⟩ := Kd.C_get h z25 i h0 h1
  have hc : ∀ j u, c[j]? = some u → w.cell? (ad.add (i.toNat * 2 + j)) = some u := hc0
  obtain rfl := k25_open hK
  exact ⟨ad, e, hc 0 _ rfl, by rw [← add_field _ _ 1 (by omega)]; exact hc 1 _ rfl⟩
abbrev zN := @pw_below_drewN
abbrev zD := @below_drew1
abbrev zA := @below_alloc
abbrev zS := @below_set
abbrev yN := @blk_drewN
abbrev yD := @blk_drew
abbrev yA := @blk_alloc
abbrev kS := @KeepBut.set_
abbrev kN := @keep_drewN
abbrev kD := @keep_drew
abbrev kA := @keep_alloc
abbrev kF := @keep_far
abbrev rA := @Kd.R_alloc
abbrev rN := @Kd.R_drewN
abbrev rD := @Kd.R_drew
abbrev cA := @Kd.C_alloc
abbrev cN := @Kd.C_drewN
abbrev cD := @Kd.C_drew
abbrev sI := @List.setIfInBounds_toArray
abbrev sZ := @List.set_cons_zero
abbrev sS := @List.set_cons_succ
abbrev sM := @List.map_toArray
abbrev sC := @List.map_cons
abbrev sN := @List.map_nil
abbrev aM {p : Prop} (h : p) : Aside0 p := ⟨h⟩
abbrev tT := true
abbrev fF := false
theorem eqA25 (d:Nat) (w:World) (x0 y0:ByteArray) (x1 y1:ByteArray) :
  (Op.equalIn (d + 2) 25 (.agg #[.string x0,.string x1]) (.agg #[.string y0,.string y1])).run Try.prog w = .ok (x0.toList == y0.toList && (x1.toList == y1.toList)) w:=by
 refine eqA_of Try.underlying25 (by kernel_rfl) ?_
 refine eqf_cons (by rfl) (by go_simp;rfl) (by go_simp;rfl) (by go_simp) ?_
 exact eqf_last (by rfl) (by go_simp;rfl) (by go_simp;rfl) (by go_simp)
def laws_big.f (l0:List Int):Option (Bool):=some (decide ((l0.length:Int) > 4096))
set_option maxHeartbeats 8000000 in
set_option maxRecDepth 100000 in
theorem laws_big.calls (A0:Option Addr) (c0:Nat) (l0:List Int) (r:Bool) (w:World) (hr0:Kd.C (Kd.int .u8) w A0 l0.length l0) (hc0:l0.length ≤ c0) (h:laws_big.f l0 = some r) :
  Calls Try.prog 4 #[.slice A0 l0.length c0] w fun e w'=>e = .returned (.bool r) ∧ Drawn0 w w':=by
 have HR0:=aM hr0
 have HC0:=aM hc0
 clear hr0 hc0
 have H:(some (decide ((l0.length:Int) > 4096))) = some r:=h
 clear h
 obtain rfl:=Option.some.inj H
 go_enter Try.func4,Try.ntmps4
 go_wp2
 go_ret
 exact ⟨by first|rfl|(simp;done)|(simp [*];done),by repeat (first|exact Drawn0.refl _|apply Drawn0.step)⟩
def IsS57 (w0 W:World) (g:Nat) (f0:List Int) (f1:Int) (f2:Int):Prop:=∃ A0 c0,W.heap[g]? = some (.cells #[.slice A0 f0.length c0,.int .i64 f1,.int .u64 f2] 57 (0,0)) ∧ w0.heap.size ≤ g ∧ Kd.C (Kd.int .u8) w0 A0 f0.length f0
theorem IsS57.grown {w0 W:World} {g:Nat} {f0:List Int} {f1:Int} {f2:Int} {W1:World} {row:Option Nat} (h:IsS57 w0 W g f0 f1 f2) (hw:W.grownBy W1 row) (hne:some g ≠ row):IsS57 w0 W1 g f0 f1 f2:=by
 obtain ⟨A0,c0,hb,hg,hr0⟩:=h
 exact ⟨A0,c0,blk_grown hb hw hne,hg,hr0⟩
theorem IsS57.kept {w0 W:World} {g:Nat} {f0:List Int} {f1:Int} {f2:Int} {W1:World} {S:Nat → Prop} (h:IsS57 w0 W g f0 f1 f2) (hk:Kept W W1 S) (hne:¬ S g):IsS57 w0 W1 g f0 f1 f2:=by
 obtain ⟨A0,c0,hb,hg,hr0⟩:=h
 exact ⟨A0,c0,blk_kept hb hk hne,hg,hr0⟩
theorem IsS57.below {w0 W:World} {g:Nat} {f0:List Int} {f1:Int} {f2:Int} {W1:World} (h:IsS57 w0 W g f0 f1 f2) (hw:Below W.heap.size W W1):IsS57 w0 W1 g f0 f1 f2:=h.grown (grown_of_below hw none) (by simp)
theorem IsS57.alloc {w0 W:World} {g:Nat} {f0:List Int} {f1:Int} {f2:Int} (h:IsS57 w0 W g f0 f1 f2) (o:Obj):IsS57 w0 (W.alloc o) g f0 f1 f2:=h.below (zA (Below.refl _ _) o)
theorem IsS57.drewN {w0 W:World} {g:Nat} {f0:List Int} {f1:Int} {f2:Int} (h:IsS57 w0 W g f0 f1 f2) (m:Nat):IsS57 w0 (W.drewN m) g f0 f1 f2:=h
theorem IsS57.drew {w0 W:World} {g:Nat} {f0:List Int} {f1:Int} {f2:Int} (h:IsS57 w0 W g f0 f1 f2):IsS57 w0 W.drew g f0 f1 f2:=h
theorem IsS57.at_ {w0 W:World} {g:Nat} {f0:List Int} {f1:Int} {f2:Int} {w':World} {m:Nat} (hq:W.drewN m = w') (h:IsS57 w0 W g f0 f1 f2):IsS57 w0 w' g f0 f1 f2:=by subst hq;exact IsS57.drewN h m
theorem IsS57.apart {w0 W:World} {g:Nat} {f0:List Int} {f1:Int} {f2:Int} {α:Type} {d:Kd α} {e:Nat} {base:Nat} {ok:Nat → Prop} {v:Value} {xs:List α} (h:IsS57 w0 W g f0 f1 f2) (ho:d.R e W base ok v xs) (ht:∀ q,q ∈ e :: d.E → q ≠ 57):d.R e W base (fun k=>ok k ∧ k ≠ g) v xs:=by
 obtain ⟨A0,c0,hb,hg,hr0⟩:=h
 exact Kd.R_types ho hb ht
theorem IsS57.own_ne {w0 W:World} {g:Nat} {f0:List Int} {f1:Int} {f2:Int} {α:Type} {d:Kd α} {e:Nat} {base:Nat} {ok:Nat → Prop} {v:Value} {xs:List α} (h:IsS57 w0 W g f0 f1 f2) (ho:d.R e W base ok v xs) (ht:e ≠ 57):some g ≠ v.ownBlock:=by
 obtain ⟨A0,c0,hb,hg,hr0⟩:=h
 exact Kd.R_ne ho hb ht
theorem IsS57.lt {w0 W:World} {g:Nat} {f0:List Int} {f1:Int} {f2:Int} (h:IsS57 w0 W g f0 f1 f2):g < W.heap.size:=by
 obtain ⟨A0,c0,hb,hg,hr0⟩:=h
 exact blk_lt hb
theorem IsS57.ge {w0 W:World} {g:Nat} {f0:List Int} {f1:Int} {f2:Int} (h:IsS57 w0 W g f0 f1 f2):w0.heap.size ≤ g:=by
 obtain ⟨A0,c0,hb,hg,hr0⟩:=h
 exact hg
theorem IsS57.ne_blk {w0 W:World} {g:Nat} {f0:List Int} {f1:Int} {f2:Int} {a:Nat} {cs:Array Value} {t:TypeId} {fr:Nat × Nat} (h:IsS57 w0 W g f0 f1 f2) (hb2:W.heap[a]? = some (.cells cs t fr)) (ht:t ≠ 57):g ≠ a:=by
 obtain ⟨A0,c0,hb,hg,hr0⟩:=h
 rintro rfl
 rw [hb] at hb2
 injection hb2 with hb2
 injection hb2 with _ ht2
 exact ht ht2.symm
theorem IsS57.far {w0 W:World} {g:Nat} {f0:List Int} {f1:Int} {f2:Int} {p:Addr} (h:IsS57 w0 W g f0 f1 f2) (hne:g ≠ p.block) (u:Value):IsS57 w0 (W.setCell p u) g f0 f1 f2:=by
 obtain ⟨A0,c0,hb,hg,hr0⟩:=h
 exact ⟨A0,c0,blk_far hb hne u,hg,hr0⟩
theorem cellS57_0 {W:World} {g:Nat} {A0:Option Addr} {c0:Nat} {f0:List Int} {f1:Int} {f2:Int} (h:W.heap[g]? = some (.cells #[.slice A0 f0.length c0,.int .i64 f1,.int .u64 f2] 57 (0,0))):W.cell? ⟨g,0,none⟩ = some (.slice A0 f0.length c0):=(blk_cell h 0).trans rfl
theorem cellS57_1 {W:World} {g:Nat} {A0:Option Addr} {c0:Nat} {f0:List Int} {f1:Int} {f2:Int} (h:W.heap[g]? = some (.cells #[.slice A0 f0.length c0,.int .i64 f1,.int .u64 f2] 57 (0,0))):W.cell? ⟨g,1,none⟩ = some (.int .i64 f1):=(blk_cell h 1).trans rfl
theorem IsS57.set_1 {w0 W:World} {g:Nat} {f0:List Int} {f1:Int} {f2:Int} (h:IsS57 w0 W g f0 f1 f2) (x:Int):IsS57 w0 (W.setCell ⟨g,1,none⟩ (.int .i64 x)) g f0 x f2:=by
 obtain ⟨A0,c0,hb,hg,hr0⟩:=h
 exact ⟨A0,c0,by simpa using blk_set hb 1 (.int .i64 x),hg,hr0⟩
theorem cellS57_2 {W:World} {g:Nat} {A0:Option Addr} {c0:Nat} {f0:List Int} {f1:Int} {f2:Int} (h:W.heap[g]? = some (.cells #[.slice A0 f0.length c0,.int .i64 f1,.int .u64 f2] 57 (0,0))):W.cell? ⟨g,2,none⟩ = some (.int .u64 f2):=(blk_cell h 2).trans rfl
theorem IsS57.set_2 {w0 W:World} {g:Nat} {f0:List Int} {f1:Int} {f2:Int} (h:IsS57 w0 W g f0 f1 f2) (x:Int):IsS57 w0 (W.setCell ⟨g,2,none⟩ (.int .u64 x)) g f0 f1 x:=by
 obtain ⟨A0,c0,hb,hg,hr0⟩:=h
 exact ⟨A0,c0,by simpa using blk_set hb 2 (.int .u64 x),hg,hr0⟩
def spec_l01From.l0:Nat → List Int → Int → List Int → Int → Int → Option (List Int × Int × Int)
 | 0,_,_,_,_,_=>none
 | k + 1,x0,x4,x102000,x102001,x102002=>if x4 < (x0.length:Int) then (if x4 < 4096 then (if 0 ≤ x4 then (spec_l01From.l0 k x0 (wrap64 (x4 + 1)) x102000 x102001 (IntKind.u64.wrap ((IntKind.u64.wrap ((IntKind.u64.wrap (x102002 * 1099511628211)) + (IntKind.u64.wrap (rd x0 x4)))) + 53))) else (none)) else (some (x102000,x102001,x102002))) else (some (x102000,x102001,x102002))
def spec_l01From.f (k:Nat) (l0:List Int):Option (List Int × Int × Int):=spec_l01From.l0 k l0 0 l0 0 (IntKind.u64.wrap (11437 + (IntKind.u64.wrap ((l0.length:Int)))))
theorem spec_l01From.mono_l:∀ k,(∀ y0 y1 y2 y3 y4,LeO (spec_l01From.l0 k y0 y1 y2 y3 y4) (spec_l01From.l0 (k + 1) y0 y1 y2 y3 y4))
 | 0=>fun _ _ _ _ _ r h=>by simp [spec_l01From.l0] at h
 | k + 1=>by
  have ih0:=spec_l01From.mono_l k
  ·intro y0 y1 y2 y3 y4
   unfold spec_l01From.l0
   repeat' first
   | (with_reducible exact ih0 _ _ _ _ _)
   | (with_reducible exact LeO.refl _)
   | (with_reducible exact LeO.none _)
   | (with_reducible refine LeO.ite ?_ ?_)
   | (with_reducible refine LeO.bind ?_ (fun _=>?_))
   | exact ih0 _ _ _ _ _
   | exact LeO.none _
   | refine LeO.ite ?_ ?_
   | refine LeO.bind ?_ (fun _=>?_)
theorem spec_l01From.mono:∀ a0 k,LeO (spec_l01From.f k a0) (spec_l01From.f (k + 1) a0):=by
 intro a0 k
 have ih0:=spec_l01From.mono_l k
 unfold spec_l01From.f
 repeat' first
   | (with_reducible exact ih0 _ _ _ _ _)
   | (with_reducible exact LeO.refl _)
   | (with_reducible exact LeO.none _)
   | (with_reducible refine LeO.ite ?_ ?_)
   | (with_reducible refine LeO.bind ?_ (fun _=>?_))
   | exact ih0 _ _ _ _ _
   | exact LeO.none _
   | refine LeO.ite ?_ ?_
   | refine LeO.bind ?_ (fun _=>?_)
def spec_l01From.T5:Bool × List (List Nat × List Nat):=(true,[([],[]),([],[]),([1],[1]),([2],[2]),([3],[3]),([4],[4]),([],[]),([],[]),([6,7],[6,7]),([8],[8]),([9],[9]),([5,10],[5,10]),([11],[11]),([0,0,1,2,3,4,5,6,7,8,9,10,11,12],[0]),([13,0,1,2,3,4,5,6,7,8,9,10,11,12],[13]),([14,12,0,1,2,3,4,5,6,7,8,9,10,11,12],[12,14])])
def spec_l01From.B5:List Nat:=[0,0,2,6,14,30,0,0,192,448,960,2046,4094,8191,16383,32767]
theorem spec_l01From.tab5:rtab .any (opsOf Try.f16 5) = spec_l01From.T5:=by kernel_rfl
theorem spec_l01From.bits5:waitsOk spec_l01From.T5.2 spec_l01From.B5 = true:=by kernel_rfl
set_option maxHeartbeats 8000000 in
set_option maxRecDepth 100000 in
theorem spec_l01From.calls (k:Nat) (A0:Option Addr) (c0:Nat) (l0:List Int) (r1:List Int) (r2:Int) (r3:Int) (w0 w:World) (hB:Below w0.heap.size w0 w) (hr0:Kd.C (Kd.int .u8) w0 A0 l0.length l0) (hc0:l0.length ≤ c0) (h:spec_l01From.f k l0 = some (r1,r2,r3)) :
  Calls Try.prog 16 #[.slice A0 l0.length c0] w fun e w'=>∃ g_:Nat,e = .returned (.pointer (some ⟨g_,0,none⟩)) ∧ IsS57 w0 w' g_ r1 r2 r3 ∧ Below w0.heap.size w0 w' ∧ Below w.heap.size w w':=by
 have hu57:=Try.underlying57
 have HR0:=aM hr0
 have HC0:=aM hc0
 clear hr0 hc0
 have HBW:=aM (Below.refl w.heap.size w)
 have HW0:=aM hB.size
 have HB:=aM hB
 clear hB
 have H:(spec_l01From.l0 k l0 0 l0 0 (IntKind.u64.wrap (11437 + (IntKind.u64.wrap ((l0.length:Int)))))) = some (r1,r2,r3):=h
 clear h
 have H':=aM H
 clear H
 go_enter Try.func16,Try.ntmps16
 go_wp2_with (first|((with_reducible refine gate_dst (N:=11) rfl ?_);refine box_event ?hg (N:=11) ?hd (cs:=#[.slice A0 l0.length c0,.int .i64 0,.int .u64 (IntKind.u64.wrap (11437 + (IntKind.u64.wrap ((l0.length:Int)))))]) (t:=57) ?hr ?_;(case hd=>rfl);(case hg=>rfl);(case hr=>first|(go_simp;done)|(go_simp;rfl));intro gb101 hg w2 hbox hb;have n0_:=aM (below_step HBW.out hb);have n1_:=aM (below_step (by repeat (first|(with_reducible first|exact HB.out|apply zA|apply zN|apply zD)|exact HB.out)) hb);have n2_:=aM (hbox);have n3_:=aM ((by rw [hg];exact (below_size (by repeat (first|(with_reducible first|exact HBW.out|apply zA|apply zN|apply zD)|exact HBW.out))):w.heap.size ≤ gb101));have n4_:=aM ((Nat.le_trans HW0.out (by rw [hg];exact (below_size (by repeat (first|(with_reducible first|exact HBW.out|apply zA|apply zN|apply zD)|exact HBW.out))):w.heap.size ≤ gb101):w0.heap.size ≤ gb101));clear HBW;clear HB;have HBW:=n0_;have HB:=n1_;have BK101:=n2_;have GW101:=n3_;have GE101:=n4_;clear n0_ n1_ n2_ n3_ n4_;clear hb hbox hg))
 go_loopg [4] k (fun kq v4 w'=>∃ (x4_1:Int) (x102002_1:Int),v4 = .int .i64 x4_1 ∧ Aside0 (spec_l01From.l0 kq l0 x4_1 l0 0 x102002_1 = some (r1,r2,r3)) ∧ Aside0 (kq ≤ k) ∧ Aside0 (w'.heap[gb101]? = some (.cells #[(.slice A0 l0.length c0),.int .i64 0,.int .u64 x102002_1] 57 (0,0))) ∧ Aside0 (Below w0.heap.size w0 w') ∧ Aside0 (Below w.heap.size w w'))
 case atStart=>exact ⟨(0),(IntKind.u64.wrap (11437 + (IntKind.u64.wrap ((l0.length:Int))))),(by first|rfl|(simp;done)|(simp [*];done)),H',⟨Nat.le_refl _⟩,⟨by (with_reducible repeat (first|apply yN|apply yD|apply yA));exact BK101.out⟩,⟨by repeat (first|(with_reducible first|exact HB.out|apply zA|apply zN|apply zD|refine zS ?_ GE101.out)|exact HB.out)⟩,⟨by repeat (first|(with_reducible first|exact HBW.out|apply zA|apply zN|apply zD|refine zS ?_ GW101.out)|exact HBW.out)⟩⟩
 case round =>
  clear H'
  try clear c1
  try clear p2
  obtain ⟨x4_1,x102002_1,rfl,HA,HK1,BK101,HB,HBW⟩:=hrel
  cases gk with
  | zero=>exact absurd HA.out (by simp [spec_l01From.l0])
  | succ k1 =>
   have H:=HA.out
   clear HA
   simp only [spec_l01From.l0] at H
   by_cases c3:x4_1 < (l0.length:Int)
   ·rw [if_pos c3] at H
    have c3b0:decide (x4_1 < (l0.length:Int)) = true:=decide_eq_true c3
    clear c3
    by_cases c4:x4_1 < 4096
    ·rw [if_pos c4] at H
     have c4b0:decide (x4_1 < 4096) = true:=decide_eq_true c4
     clear c4
     by_cases c5:0 ≤ x4_1
     ·rw [if_pos c5] at H
      have c5b0:decide (0 ≤ x4_1) = true:=decide_eq_true c5
      clear c5
      have H':=aM H
      clear H
      try go_wp2
      have n0_:=aM (yD BK101.out)
      have n1_:=aM (zD HB.out)
      have n2_:=aM (zD HBW.out)
      clear BK101
      clear HB
      have BK101:=n0_
      have HB:=n1_
      clear HBW
      have HBW:=n2_
      clear n0_ n1_ n2_
      have p102:0 ≤ (x4_1:Int):=of_decide_eq_true (by first|(with_reducible assumption)|assumption)
      have q102:x4_1 < (l0.length:Int):=of_decide_eq_true (by first|(with_reducible assumption)|assumption)
      obtain ⟨ad102,e102,hx102_0⟩:=Kd.at_int HR0.out x4_1 p102 q102
      have hw102_0:=hx102_0
      cases e102
      replace hx102_0:=pw_cell_below HB.out hx102_0
      replace p102:=eq_true p102
      replace q102:=eq_true q102
      refine start_ (n:=16) (S:=fun w'=>w'.cell? ⟨gb101,0,none⟩ = some (.slice (some ad102) l0.length c0) ∧ w'.cell? ⟨gb101,1,none⟩ = some (.int .i64 0) ∧ w'.cell? ⟨gb101,2,none⟩ = some (.int .u64 x102002_1) ∧ w'.cell? (ad102.add (x4_1).toNat) = some (.int .u8 (rd l0 x4_1))) (ds:=[15]) #[fF,fF,fF,fF,fF,fF,fF,fF,fF,fF,fF,fF,fF,fF,fF,fF] (by kernel_rfl) rfl rfl ⟨(blk_cell BK101.out 0).trans rfl,(blk_cell BK101.out 1).trans rfl,(blk_cell BK101.out 2).trans rfl,((HB.out.cell (World.block_lt_of_cell? _ _ hw102_0)).trans hw102_0)⟩ (fun hHeld=>?_);refine with_tabW spec_l01From.tab5 spec_l01From.bits5 (fun HT_ HW_=>?_)
      generalize wr.drew = w6 at BK101 HB HBW hx102_0 hHeld ⊢
      refine pure_ (i:=0) (N:=some 22) (v:=?_) (a':=?_) #[tT,fF,fF,fF,fF,fF,fF,fF,fF,fF,fF,fF,fF,fF,fF,fF] rfl rfl (any_of HT_.out (by kernel_rfl)) (fun _ _ _ h=>h) (Or.inl ⟨by rfl,?_⟩) ?_ ?_
      rotate_left
      ·intro w'
       go_simp
       with_reducible rfl
      rotate_left
      ·simp only [Act.put,sI,sZ,sS,i64_w,i32_w]
       rfl
      refine pure_ (i:=1) (N:=some 23) (v:=?_) (a':=?_) #[tT,tT,fF,fF,fF,fF,fF,fF,fF,fF,fF,fF,fF,fF,fF,fF] rfl rfl (any_of HT_.out (by kernel_rfl)) (fun _ _ _ h=>h) (Or.inl ⟨by rfl,?_⟩) ?_ ?_
      rotate_left
      ·intro w'
       go_simp
       with_reducible rfl
      rotate_left
      ·simp only [Act.put,sI,sZ,sS,i64_w,i32_w]
       rfl
      refine pure_ (i:=2) (N:=some 24) (v:=?_) (a':=?_) #[tT,tT,tT,fF,fF,fF,fF,fF,fF,fF,fF,fF,fF,fF,fF,fF] rfl rfl (any_of HT_.out (by kernel_rfl)) (fun _ _ _ h=>h) (Or.inl ⟨by rfl,?_⟩) ?_ ?_
      rotate_left
      ·intro w'
       go_simp
       with_reducible rfl
      rotate_left
      ·simp only [Act.put,sI,sZ,sS,i64_w,i32_w]
       rfl
      refine pure_ (i:=3) (N:=some 25) (v:=?_) (a':=?_) #[tT,tT,tT,tT,fF,fF,fF,fF,fF,fF,fF,fF,fF,fF,fF,fF] rfl rfl (any_of HT_.out (by kernel_rfl)) (fun _ _ _ h=>h) (Or.inl ⟨by rfl,?_⟩) ?_ ?_
      rotate_left
      ·intro w'
       go_simp
       with_reducible rfl
      rotate_left
      ·simp only [Act.put,sI,sZ,sS,i64_w,i32_w]
       rfl
      refine pure_ (i:=6) (N:=some 28) (v:=?_) (a':=?_) #[tT,tT,tT,tT,fF,fF,tT,fF,fF,fF,fF,fF,fF,fF,fF,fF] rfl rfl (any_of HT_.out (by kernel_rfl)) (fun _ _ _ h=>h) (Or.inl ⟨by rfl,?_⟩) ?_ ?_
      rotate_left
      ·intro w'
       go_simp
       with_reducible rfl
      rotate_left
      ·simp only [Act.put,sI,sZ,sS,i64_w,i32_w]
       rfl
      refine pure_ (i:=7) (N:=some 29) (v:=?_) (a':=?_) #[tT,tT,tT,tT,fF,fF,tT,tT,fF,fF,fF,fF,fF,fF,fF,fF] rfl rfl (any_of HT_.out (by kernel_rfl)) (fun _ _ _ h=>h) (Or.inl ⟨by rfl,?_⟩) ?_ ?_
      rotate_left
      ·intro w'
       go_simp
       with_reducible rfl
      rotate_left
      ·simp only [Act.put,sI,sZ,sS,i64_w,i32_w]
       rfl
      refine pure_ (i:=8) (N:=some 30) (v:=?_) (a':=?_) #[tT,tT,tT,tT,fF,fF,tT,tT,tT,fF,fF,fF,fF,fF,fF,fF] rfl rfl (any_of HT_.out (by kernel_rfl)) (fun _ _ _ h=>h) (Or.inl ⟨by rfl,?_⟩) ?_ ?_
      rotate_left
      ·intro w'
       go_simp
       with_reducible rfl
      rotate_left
      ·simp only [Act.put,sI,sZ,sS,i64_w,i32_w]
       rfl
      refine take_ (i:=4) (N:=some 26) (v:=?_) (a':=?_) #[tT,tT,tT,tT,tT,fF,tT,tT,tT,fF,fF,fF,fF,fF,fF,fF] rfl rfl (take_ofW HT_.out HW_.out (by kernel_rfl)) (fun _ _ _ h=>h) (Or.inl ⟨by rfl,?_⟩) hHeld ?_ ?_
      rotate_left
      ·rintro w' ⟨s0,s1,s2,s3⟩
       go_simp
       with_reducible rfl
      rotate_left
      ·simp only [Act.put,sI,sZ,sS,i64_w,i32_w]
       rfl
      refine pure_ (i:=5) (N:=some 27) (v:=?_) (a':=?_) #[tT,tT,tT,tT,tT,tT,tT,tT,tT,fF,fF,fF,fF,fF,fF,fF] rfl rfl (any_of HT_.out (by kernel_rfl)) (fun _ _ _ h=>h) (Or.inl ⟨by rfl,?_⟩) ?_ ?_
      rotate_left
      ·intro w'
       go_simp
       with_reducible rfl
      rotate_left
      ·simp only [Act.put,sI,sZ,sS,i64_w,i32_w]
       rfl
      refine take_ (i:=9) (N:=some 31) (v:=?_) (a':=?_) #[tT,tT,tT,tT,tT,tT,tT,tT,tT,tT,fF,fF,fF,fF,fF,fF] rfl rfl (take_ofW HT_.out HW_.out (by kernel_rfl)) (fun _ _ _ h=>h) (Or.inl ⟨by rfl,?_⟩) hHeld ?_ ?_
      rotate_left
      ·rintro w' ⟨s0,s1,s2,s3⟩
       go_simp
       with_reducible rfl
      rotate_left
      ·simp only [Act.put,sI,sZ,sS,i64_w,i32_w]
       rfl
      refine pure_ (i:=10) (N:=some 32) (v:=?_) (a':=?_) #[tT,tT,tT,tT,tT,tT,tT,tT,tT,tT,tT,fF,fF,fF,fF,fF] rfl rfl (any_of HT_.out (by kernel_rfl)) (fun _ _ _ h=>h) (Or.inl ⟨by rfl,?_⟩) ?_ ?_
      rotate_left
      ·intro w'
       go_simp
       with_reducible rfl
      rotate_left
      ·simp only [Act.put,sI,sZ,sS,i64_w,i32_w]
       rfl
      refine pure_ (i:=11) (N:=some 33) (v:=?_) (a':=?_) #[tT,tT,tT,tT,tT,tT,tT,tT,tT,tT,tT,tT,fF,fF,fF,fF] rfl rfl (any_of HT_.out (by kernel_rfl)) (fun _ _ _ h=>h) (Or.inl ⟨by rfl,?_⟩) ?_ ?_
      rotate_left
      ·intro w'
       go_simp
       with_reducible rfl
      rotate_left
      ·simp only [Act.put,sI,sZ,sS,i64_w,i32_w]
       rfl
      refine pure_ (i:=12) (N:=some 34) (v:=?_) (a':=?_) #[tT,tT,tT,tT,tT,tT,tT,tT,tT,tT,tT,tT,tT,fF,fF,fF] rfl rfl (any_of HT_.out (by kernel_rfl)) (fun _ _ _ h=>h) (Or.inl ⟨by rfl,?_⟩) ?_ ?_
      rotate_left
      ·intro w'
       go_simp
       with_reducible rfl
      rotate_left
      ·simp only [Act.put,sI,sZ,sS,i64_w,i32_w]
       rfl
      refine pure_ (i:=13) (N:=some 35) (v:=?_) (a':=?_) #[tT,tT,tT,tT,tT,tT,tT,tT,tT,tT,tT,tT,tT,tT,fF,fF] rfl rfl (any_of HT_.out (by kernel_rfl)) (fun _ _ _ h=>h) (Or.inl ⟨by rfl,?_⟩) ?_ ?_
      rotate_left
      ·intro w'
       go_simp
       with_reducible rfl
      rotate_left
      ·simp only [Act.put,sI,sZ,sS,i64_w,i32_w]
       rfl
      refine pure_ (i:=14) (N:=some 36) (v:=?_) (a':=?_) #[tT,tT,tT,tT,tT,tT,tT,tT,tT,tT,tT,tT,tT,tT,tT,fF] rfl rfl (any_of HT_.out (by kernel_rfl)) (fun _ _ _ h=>h) (Or.inl ⟨by rfl,?_⟩) ?_ ?_
      rotate_left
      ·intro w'
       go_simp
       with_reducible rfl
      rotate_left
      ·simp only [Act.put,sI,sZ,sS,i64_w,i32_w]
       rfl
      refine last_ (i:=15) (N:=none) #[tT,tT,tT,tT,tT,tT,tT,tT,tT,tT,tT,tT,tT,tT,tT,tT] rfl rfl (one_of HT_.out (by kernel_rfl)) (by decide) (fun K hK=>?_)
      have hs7:w6.cell? ⟨gb101,2,none⟩ = some (.int .u64 x102002_1):=(blk_cell BK101.out 2).trans rfl
      have hfs7:=blk_frozen BK101.out 2
      refine skip_ (w1:=?_) (by rfl) rfl ?_ ?_
      rotate_left
      ·go_simp
       rfl
      refine hK.out _ _ ?_
      clear hK K
      refine done_ (done_of HT_.out (by kernel_rfl)) ?_
      try go_wp2
      go_roundg k1
      case measure=>have:=HK1.out;omega
      case rel=>exact ⟨(wrap64 (x4_1 + 1)),(IntKind.u64.wrap ((IntKind.u64.wrap ((IntKind.u64.wrap (x102002_1 * 1099511628211)) + (IntKind.u64.wrap (rd l0 x4_1)))) + 53)),(by first|rfl|(simp;done)|(simp [*];done)),H',⟨by have:=HK1.out;omega⟩,⟨by (with_reducible repeat (first|apply yN|apply yD|apply yA));refine blk_put (cs:=#[.slice (some ad102) l0.length c0,.int .i64 0,.int .u64 x102002_1]) ?_ 2 _ rfl;(with_reducible repeat (first|apply yN|apply yD|apply yA));exact BK101.out⟩,⟨by repeat (first|(with_reducible first|exact HB.out|apply zA|apply zN|apply zD|refine zS ?_ GE101.out)|exact HB.out)⟩,⟨by repeat (first|(with_reducible first|exact HBW.out|apply zA|apply zN|apply zD|refine zS ?_ GW101.out)|exact HBW.out)⟩⟩
     ·rw [if_neg c5] at H
      exact absurd H (by simp)
    ·rw [if_neg c4] at H
     have c4b0:decide (x4_1 < 4096) = false:=decide_eq_false c4
     clear c4
     simp only [Option.some.injEq,Prod.mk.injEq] at H
     obtain ⟨rfl,rfl,rfl⟩:=H
     go_wp2
     go_ret
     exact ⟨_,rfl,(show IsS57 w0 _ gb101 l0 0 x102002_1 from ⟨_,_,by (with_reducible repeat (first|apply yN|apply yD|apply yA));exact BK101.out,GE101.out,HR0.out⟩),by repeat (first|(with_reducible first|exact HB.out|apply zA|apply zN|apply zD|refine zS ?_ GE101.out)|exact HB.out),by repeat (first|(with_reducible first|exact HBW.out|apply zA|apply zN|apply zD|refine zS ?_ GW101.out)|exact HBW.out)⟩
   ·rw [if_neg c3] at H
    have c3b0:decide (x4_1 < (l0.length:Int)) = false:=decide_eq_false c3
    clear c3
    simp only [Option.some.injEq,Prod.mk.injEq] at H
    obtain ⟨rfl,rfl,rfl⟩:=H
    go_wp2
    go_ret
    exact ⟨_,rfl,(show IsS57 w0 _ gb101 l0 0 x102002_1 from ⟨_,_,by (with_reducible repeat (first|apply yN|apply yD|apply yA));exact BK101.out,GE101.out,HR0.out⟩),by repeat (first|(with_reducible first|exact HB.out|apply zA|apply zN|apply zD|refine zS ?_ GE101.out)|exact HB.out),by repeat (first|(with_reducible first|exact HBW.out|apply zA|apply zN|apply zD|refine zS ?_ GW101.out)|exact HBW.out)⟩
def spec_l01Next.f (s0_0:List Int) (s0_1:Int) (s0_2:Int) (a1:Int):Option (Int × Int × Int):=if a1 < 1 then (some (0,s0_1,s0_2)) else (if s0_1 < (s0_0.length:Int) then (if 0 ≤ s0_1 then (if a1 = 0 then (none) else (some (Int.tmod (wrap64 ((wrap64 (Go.bits .and .u64 ((IntKind.u64.wrap ((IntKind.u64.wrap (s0_2 * 6364136223846793005)) + 1442695040888963407)) / 8589934592) 16777215)) + (wrap64 (rd s0_0 s0_1)))) a1,wrap64 (s0_1 + 1),IntKind.u64.wrap ((IntKind.u64.wrap (s0_2 * 6364136223846793005)) + 1442695040888963407)))) else (none)) else (if a1 = 0 then (none) else (some (Int.tmod (wrap64 (Go.bits .and .u64 ((IntKind.u64.wrap ((IntKind.u64.wrap (s0_2 * 6364136223846793005)) + 1442695040888963407)) / 8589934592) 16777215)) a1,s0_1,IntKind.u64.wrap ((IntKind.u64.wrap (s0_2 * 6364136223846793005)) + 1442695040888963407)))))
set_option maxHeartbeats 8000000 in
set_option maxRecDepth 100000 in
theorem spec_l01Next.calls (g:Nat) (s0_0:List Int) (s0_1:Int) (s0_2:Int) (a1:Int) (r1:Int) (r2:Int) (r3:Int) (w0 w:World) (hI:IsS57 w0 w g s0_0 s0_1 s0_2) (hB:Below w0.heap.size w0 w) (h:spec_l01Next.f s0_0 s0_1 s0_2 a1 = some (r1,r2,r3)) :
  Calls Try.prog 18 #[.pointer (some ⟨g,0,none⟩),.int .i64 a1] w fun e w'=>e = .returned (.int .i64 r1) ∧ IsS57 w0 w' g s0_0 r2 r3 ∧ Below w0.heap.size w0 w' ∧ KeepBut w w' g none:=by
 have HI0:=aM hI
 have HK:=aM (KeepBut.refl w g none)
 have HL:=aM hB.size
 clear hI
 have HW0:=aM hB.size
 have HB:=aM hB
 clear hB
 have H:(if a1 < 1 then (some (0,s0_1,s0_2)) else (if s0_1 < (s0_0.length:Int) then (if 0 ≤ s0_1 then (if a1 = 0 then (none) else (some (Int.tmod (wrap64 ((wrap64 (Go.bits .and .u64 ((IntKind.u64.wrap ((IntKind.u64.wrap (s0_2 * 6364136223846793005)) + 1442695040888963407)) / 8589934592) 16777215)) + (wrap64 (rd s0_0 s0_1)))) a1,wrap64 (s0_1 + 1),IntKind.u64.wrap ((IntKind.u64.wrap (s0_2 * 6364136223846793005)) + 1442695040888963407)))) else (none)) else (if a1 = 0 then (none) else (some (Int.tmod (wrap64 (Go.bits .and .u64 ((IntKind.u64.wrap ((IntKind.u64.wrap (s0_2 * 6364136223846793005)) + 1442695040888963407)) / 8589934592) 16777215)) a1,s0_1,IntKind.u64.wrap ((IntKind.u64.wrap (s0_2 * 6364136223846793005)) + 1442695040888963407)))))) = some (r1,r2,r3):=h
 clear h
 by_cases c3:a1 < 1
 ·rw [if_pos c3] at H
  have c3b0:decide (a1 < 1) = true:=decide_eq_true c3
  clear c3
  simp only [Option.some.injEq,Prod.mk.injEq] at H
  obtain ⟨rfl,rfl,rfl⟩:=H
  go_enter Try.func18,Try.ntmps18
  go_wp2
  repeat (go_quiet (fail);try go_wp2)
  go_ret
  exact ⟨by first|rfl|(simp [errW_none,errW_some] <;> rfl)|(simp [*,errW_none,errW_some] <;> rfl),by repeat (first|(with_reducible first|exact HI0.out|apply IsS57.alloc|apply IsS57.drewN|apply IsS57.drew|apply IsS57.set_1|apply IsS57.set_2)|exact HI0.out),by repeat (first|(with_reducible first|exact HB.out|apply zA|apply zN|apply zD|refine zS ?_ (IsS57.ge HI0.out))|exact HB.out),by repeat (first|(with_reducible first|exact HK.out|apply kS|apply kN|apply kD|apply kA)|exact HK.out)⟩
 ·rw [if_neg c3] at H
  have c3b0:decide (a1 < 1) = false:=decide_eq_false c3
  clear c3
  by_cases c4:s0_1 < (s0_0.length:Int)
  ·rw [if_pos c4] at H
   have c4b0:decide (s0_1 < (s0_0.length:Int)) = true:=decide_eq_true c4
   clear c4
   by_cases c5:0 ≤ s0_1
   ·rw [if_pos c5] at H
    have c5b0:decide (0 ≤ s0_1) = true:=decide_eq_true c5
    clear c5
    by_cases c6:a1 = 0
    ·rw [if_pos c6] at H
     exact absurd H (by simp)
    ·rw [if_neg c6] at H
     have c6b0:(a1 == 0) = false:=beq_eq_false_iff_ne.mpr c6
     have c6b1:(a1 != 0) = true:=bne_iff_ne.mpr c6
     simp only [Option.some.injEq,Prod.mk.injEq] at H
     obtain ⟨rfl,rfl,rfl⟩:=H
     obtain ⟨ASz7_0,cSz7_0,HGz7,hgz7,HSz7_0⟩:=HI0.out
     have hcz7_0:=cellS57_0 HGz7
     have hcz7_1:=cellS57_1 HGz7
     have hcz7_2:=cellS57_2 HGz7
     have hfz7_1:=blk_frozen HGz7 1
     have hfz7_2:=blk_frozen HGz7 2
     clear HGz7 hgz7
     have p103:0 ≤ (s0_1:Int):=of_decide_eq_true (by first|(with_reducible assumption)|assumption)
     have q103:s0_1 < (s0_0.length:Int):=of_decide_eq_true (by first|(with_reducible assumption)|assumption)
     obtain ⟨ad103,e103,hx103_0⟩:=Kd.at_int HSz7_0 s0_1 p103 q103
     cases e103
     have hn103_0:ad103.block ≠ g:=Nat.ne_of_lt (Nat.lt_of_lt_of_le (by have:=World.block_lt_of_cell? _ _ hx103_0;first|rwa [add_block] at this|exact this) (IsS57.ge HI0.out))
     replace hx103_0:=pw_cell_below HB.out hx103_0
     replace hx103_0:=(cell_far (p:=⟨g,2,none⟩) (by first|(rw [add_block];exact hn103_0)|(show (Addr.add _ _).block ≠ _;rw [add_block];exact hn103_0)|exact hn103_0) (.int .u64 (IntKind.u64.wrap ((IntKind.u64.wrap (s0_2 * 6364136223846793005)) + 1442695040888963407)))).trans hx103_0
     (try have hy103_0:=fun (n_:Nat)=>(show (((w.drewN n_).setCell ⟨g,2,none⟩ (.int .u64 (IntKind.u64.wrap ((IntKind.u64.wrap (s0_2 * 6364136223846793005)) + 1442695040888963407))))).cell? _ = some _ from hx103_0))
     clear hn103_0
     replace p103:=eq_true p103
     replace q103:=eq_true q103
     go_enter Try.func18,Try.ntmps18
     go_wp2
     repeat (go_quiet (fail);try go_wp2)
     go_ret
     exact ⟨by first|rfl|(simp [errW_none,errW_some] <;> rfl)|(simp [*,errW_none,errW_some] <;> rfl),by repeat (first|(with_reducible first|exact HI0.out|apply IsS57.alloc|apply IsS57.drewN|apply IsS57.drew|apply IsS57.set_1|apply IsS57.set_2)|exact HI0.out),by repeat (first|(with_reducible first|exact HB.out|apply zA|apply zN|apply zD|refine zS ?_ (IsS57.ge HI0.out))|exact HB.out),by repeat (first|(with_reducible first|exact HK.out|apply kS|apply kN|apply kD|apply kA)|exact HK.out)⟩
   ·rw [if_neg c5] at H
    exact absurd H (by simp)
  ·rw [if_neg c4] at H
   have c4b0:decide (s0_1 < (s0_0.length:Int)) = false:=decide_eq_false c4
   clear c4
   by_cases c8:a1 = 0
   ·rw [if_pos c8] at H
    exact absurd H (by simp)
   ·rw [if_neg c8] at H
    have c8b0:(a1 == 0) = false:=beq_eq_false_iff_ne.mpr c8
    have c8b1:(a1 != 0) = true:=bne_iff_ne.mpr c8
    simp only [Option.some.injEq,Prod.mk.injEq] at H
    obtain ⟨rfl,rfl,rfl⟩:=H
    obtain ⟨ASz9_0,cSz9_0,HGz9,hgz9,HSz9_0⟩:=HI0.out
    have hcz9_0:=cellS57_0 HGz9
    have hcz9_1:=cellS57_1 HGz9
    have hcz9_2:=cellS57_2 HGz9
    have hfz9_1:=blk_frozen HGz9 1
    have hfz9_2:=blk_frozen HGz9 2
    clear HGz9 hgz9
    go_enter Try.func18,Try.ntmps18
    go_wp2
    repeat (go_quiet (fail);try go_wp2)
    go_ret
    exact ⟨by first|rfl|(simp [errW_none,errW_some] <;> rfl)|(simp [*,errW_none,errW_some] <;> rfl),by repeat (first|(with_reducible first|exact HI0.out|apply IsS57.alloc|apply IsS57.drewN|apply IsS57.drew|apply IsS57.set_1|apply IsS57.set_2)|exact HI0.out),by repeat (first|(with_reducible first|exact HB.out|apply zA|apply zN|apply zD|refine zS ?_ (IsS57.ge HI0.out))|exact HB.out),by repeat (first|(with_reducible first|exact HK.out|apply kS|apply kN|apply kD|apply kA)|exact HK.out)⟩
def spec_l01Pick.f (s0_0:List Int) (s0_1:Int) (s0_2:Int) (l1:List Int):Option (Int × Int × Int):=(spec_l01Next.f s0_0 s0_1 s0_2 (l1.length:Int)).bind fun bt104=>(if 0 ≤ bt104.1 then (if bt104.1 < (l1.length:Int) then (some (rd l1 bt104.1,bt104.2.1,bt104.2.2)) else (none)) else (none))
set_option maxHeartbeats 8000000 in
set_option maxRecDepth 100000 in
theorem spec_l01Pick.calls (g:Nat) (s0_0:List Int) (s0_1:Int) (s0_2:Int) (A1:Option Addr) (c1:Nat) (l1:List Int) (r1:Int) (r2:Int) (r3:Int) (w0 w:World) (hI:IsS57 w0 w g s0_0 s0_1 s0_2) (hB:Below w0.heap.size w0 w) (hr1:Kd.C (Kd.int .i64) w A1 l1.length l1) (hc1:l1.length ≤ c1) (hf1:∀ ad,A1 = some ad → 0 < l1.length → ad.block ≠ g) (h:spec_l01Pick.f s0_0 s0_1 s0_2 l1 = some (r1,r2,r3)) :
  Calls Try.prog 26 #[.pointer (some ⟨g,0,none⟩),.slice A1 l1.length c1] w fun e w'=>e = .returned (.int .i64 r1) ∧ IsS57 w0 w' g s0_0 r2 r3 ∧ Below w0.heap.size w0 w' ∧ KeepBut w w' g none:=by
 have HR1:=aM hr1
 have HC1:=aM hc1
 clear hr1 hc1
 have HI0:=aM hI
 have HK:=aM (KeepBut.refl w g none)
 have HL:=aM hB.size
 clear hI
 have HW0:=aM hB.size
 have HB:=aM hB
 clear hB
 have H:((spec_l01Next.f s0_0 s0_1 s0_2 (l1.length:Int)).bind fun bt104=>(if 0 ≤ bt104.1 then (if bt104.1 < (l1.length:Int) then (some (rd l1 bt104.1,bt104.2.1,bt104.2.2)) else (none)) else (none))) = some (r1,r2,r3):=h
 clear h
 replace H:=Option.bind_eq_some_iff.mp H
 obtain ⟨⟨t104,t105,t106⟩,A30,H⟩:=H
 replace H:(if 0 ≤ t104 then (if t104 < (l1.length:Int) then (some (rd l1 t104,t105,t106)) else (none)) else (none)) = some (r1,r2,r3):=H
 have A3:=aM A30
 clear A30
 by_cases c4:0 ≤ t104
 ·rw [if_pos c4] at H
  have c4b0:decide (0 ≤ t104) = true:=decide_eq_true c4
  clear c4
  by_cases c5:t104 < (l1.length:Int)
  ·rw [if_pos c5] at H
   have c5b0:decide (t104 < (l1.length:Int)) = true:=decide_eq_true c5
   clear c5
   simp only [Option.some.injEq,Prod.mk.injEq] at H
   obtain ⟨rfl,rfl,rfl⟩:=H
   go_enter Try.func26,Try.ntmps26
   go_wp2_with (first|((with_reducible refine gate_callee (f:=18) rfl ?_);refine goesL_ (some 9) rfl rfl Try.func18 (by kernel_rfl) rfl #[.pointer (some ⟨g,0,none⟩),.int .i64 (l1.length:Int)] rfl (by (try simp only [sM,sC,sN]);first|done|rfl|(simp only [List.length_drop,List.length_take];rfl)) ?_;(with_reducible refine (spec_l01Next.calls g s0_0 s0_1 s0_2 (l1.length:Int) t104 t105 t106 w0 _ ?side1 ?side2 A3.out).mono ?_);(case side1=>repeat (first|(with_reducible first|exact HI0.out|apply IsS57.alloc|apply IsS57.drewN|apply IsS57.drew|apply IsS57.set_1|apply IsS57.set_2)|exact HI0.out));(case side2=>repeat (first|(with_reducible first|exact HB.out|apply zA|apply zN|apply zD|refine zS ?_ (IsS57.ge HI0.out))|exact HB.out));rintro e w6 ⟨rfl,hi,hb,hk⟩;refine ⟨_,rfl,?_⟩;replace HK:=aM (KeepBut.trans (by repeat (first|(with_reducible first|exact HK.out|apply kS|apply kN|apply kD|apply kA)|exact HK.out)) hk (.inl rfl));replace HB:=aM (hb);replace HI0:=aM (hi);(try clear hb);(try clear hb2);(try clear hk);(try clear hi);have p107:0 ≤ (t104:Int):=of_decide_eq_true (by first|(with_reducible assumption)|assumption);have q107:t104 < (l1.length:Int):=of_decide_eq_true (by first|(with_reducible assumption)|assumption);obtain ⟨ad107,e107,hx107_0⟩:=Kd.at_int HR1.out t104 p107 q107;cases e107;replace hx107_0:=keep_cell HK.out hx107_0 (by first|(rw [add_block];exact hf1 _ rfl (by omega))|exact hf1 _ rfl (by omega)|exact hf1 ad107 rfl (by omega));replace p107:=eq_true p107;replace q107:=eq_true q107))
   go_ret
   exact ⟨by first|rfl|(simp [errW_none,errW_some] <;> rfl)|(simp [*,errW_none,errW_some] <;> rfl),by repeat (first|(with_reducible first|exact HI0.out|apply IsS57.alloc|apply IsS57.drewN|apply IsS57.drew|apply IsS57.set_1|apply IsS57.set_2)|exact HI0.out),by repeat (first|(with_reducible first|exact HB.out|apply zA|apply zN|apply zD|refine zS ?_ (IsS57.ge HI0.out))|exact HB.out),by repeat (first|(with_reducible first|exact HK.out|apply kS|apply kN|apply kD|apply kA)|exact HK.out)⟩
  ·rw [if_neg c5] at H
   exact absurd H (by simp)
 ·rw [if_neg c4] at H
  exact absurd H (by simp)
def spec_l02Star1.l0:Nat → Int → List Int → Int → List Int → Int → Int → Option (ByteArray × ByteArray × Int × Int)
 | 0,_,_,_,_,_,_=>none
 | k + 1,x3,x4,x5,x1000,x1001,x1002=>if x5 < (wrap64 (x3 - 1)) then ((spec_l01Next.f x1000 x1001 x1002 2).bind fun bt118=>(if x4.length < 140737488355328 then (spec_l02Star1.l0 k x3 (x4 ++ [(wrap64 (48 + bt118.1)) % 256]) (wrap64 (x5 + 1)) x1000 bt118.2.1 bt118.2.2) else (none))) else (if x3 > 1 then (if 0 < (x4.length:Int) then ((some (x4.set (0:Int).toNat 49:List Int)).bind fun y124=>(if y124.length < 140737488355328 then (some ((⟨#[]⟩:ByteArray),strOfNums (y124 ++ [42]),x1001,x1002)) else (none))) else (none)) else (if x4.length < 140737488355328 then (some ((⟨#[]⟩:ByteArray),strOfNums (x4 ++ [42]),x1001,x1002)) else (none)))
def spec_l02Star1.f (k:Nat) (s0_0:List Int) (s0_1:Int) (s0_2:Int):Option (ByteArray × ByteArray × Int × Int):=(spec_l01Pick.f s0_0 s0_1 s0_2 (([1,2,3,4,5,6,7,9]:List Int))).bind fun bt112=>(spec_l02Star1.l0 k bt112.1 (([]:List Int)) 0 s0_0 bt112.2.1 bt112.2.2)
theorem spec_l02Star1.mono_l:∀ k,(∀ y0 y1 y2 y3 y4 y5,LeO (spec_l02Star1.l0 k y0 y1 y2 y3 y4 y5) (spec_l02Star1.l0 (k + 1) y0 y1 y2 y3 y4 y5))
 | 0=>fun _ _ _ _ _ _ r h=>by simp [spec_l02Star1.l0] at h
 | k + 1=>by
  have ih0:=spec_l02Star1.mono_l k
  ·intro y0 y1 y2 y3 y4 y5
   unfold spec_l02Star1.l0
   repeat' first
   | (with_reducible exact ih0 _ _ _ _ _ _)
   | (with_reducible exact LeO.refl _)
   | (with_reducible exact LeO.none _)
   | (with_reducible refine LeO.ite ?_ ?_)
   | (with_reducible refine LeO.bind ?_ (fun _=>?_))
   | exact ih0 _ _ _ _ _ _
   | exact LeO.none _
   | refine LeO.ite ?_ ?_
   | refine LeO.bind ?_ (fun _=>?_)
theorem spec_l02Star1.mono:∀ a0 a1 a2 k,LeO (spec_l02Star1.f k a0 a1 a2) (spec_l02Star1.f (k + 1) a0 a1 a2):=by
 intro a0 a1 a2 k
 have ih0:=spec_l02Star1.mono_l k
 unfold spec_l02Star1.f
 repeat' first
   | (with_reducible exact ih0 _ _ _ _ _ _)
   | (with_reducible exact LeO.refl _)
   | (with_reducible exact LeO.none _)
   | (with_reducible refine LeO.ite ?_ ?_)
   | (with_reducible refine LeO.bind ?_ (fun _=>?_))
   | exact ih0 _ _ _ _ _ _
   | exact LeO.none _
   | refine LeO.ite ?_ ?_
   | refine LeO.bind ?_ (fun _=>?_)
set_option maxHeartbeats 8000000 in
set_option maxRecDepth 100000 in
theorem spec_l02Star1.calls (k:Nat) (g:Nat) (s0_0:List Int) (s0_1:Int) (s0_2:Int) (r1:ByteArray) (r2:ByteArray) (r3:Int) (r4:Int) (w0 w:World) (hI:IsS57 w0 w g s0_0 s0_1 s0_2) (hB:Below w0.heap.size w0 w) (h:spec_l02Star1.f k s0_0 s0_1 s0_2 = some (r1,r2,r3,r4)) :
  Calls Try.prog 32 #[.pointer (some ⟨g,0,none⟩)] w fun e w'=>e = .returned (.agg #[.string r1,.string r2]) ∧ IsS57 w0 w' g s0_0 r3 r4 ∧ Below w0.heap.size w0 w' ∧ KeepBut w w' g none:=by
 have hu25:=Try.underlying25
 have HI0:=aM hI
 have HK:=aM (KeepBut.refl w g none)
 have HL:=aM hB.size
 clear hI
 have HW0:=aM hB.size
 have HB:=aM hB
 clear hB
 have H:((spec_l01Pick.f s0_0 s0_1 s0_2 (([1,2,3,4,5,6,7,9]:List Int))).bind fun bt112=>(spec_l02Star1.l0 k bt112.1 (([]:List Int)) 0 s0_0 bt112.2.1 bt112.2.2)) = some (r1,r2,r3,r4):=h
 clear h
 obtain ⟨y109,hy109⟩:∃ y_:List Int,y_ = (([1,2,3,4,5,6,7,9]:List Int)):=⟨_,rfl⟩
 replace H:((spec_l01Pick.f s0_0 s0_1 s0_2 y109).bind fun bt112=>(spec_l02Star1.l0 k bt112.1 (([]:List Int)) 0 s0_0 bt112.2.1 bt112.2.2)) = some (r1,r2,r3,r4):=by first|(rw [hy109];with_reducible exact H)|(have H2_:=(Option.bind_some _ _).symm.trans H;rw [hy109];with_reducible exact H2_)|(have H2_:=(Option.bind_some _ _).symm.trans H;with_reducible exact H2_)|with_reducible exact H|(rw [hy109];exact H)|exact H
 have Ny109:=aM hy109
 clear hy109
 replace H:=Option.bind_eq_some_iff.mp H
 obtain ⟨⟨t112,t113,t114⟩,A20,H⟩:=H
 replace H:(spec_l02Star1.l0 k t112 (([]:List Int)) 0 s0_0 t113 t114) = some (r1,r2,r3,r4):=H
 have A2:=aM A20
 clear A20
 obtain ⟨y115,hy115⟩:∃ y_:List Int,y_ = (([]:List Int)):=⟨_,rfl⟩
 replace H:(spec_l02Star1.l0 k t112 y115 0 s0_0 t113 t114) = some (r1,r2,r3,r4):=by first|(rw [hy115];with_reducible exact H)|(have H2_:=(Option.bind_some _ _).symm.trans H;rw [hy115];with_reducible exact H2_)|(have H2_:=(Option.bind_some _ _).symm.trans H;with_reducible exact H2_)|with_reducible exact H|(rw [hy115];exact H)|exact H
 have Ny115:=aM hy115
 clear hy115
 have H':=aM H
 clear H
 go_enter Try.func32,Try.ntmps32
 go_wp2_with (first|((with_reducible refine gate_dst (N:=2) rfl ?_);refine box_event ?hg (N:=2) ?hd (cs:=#[.string ⟨#[]⟩,.string ⟨#[]⟩]) (t:=25) ?hr ?_;(case hd=>rfl);(case hg=>rfl);(case hr=>first|(go_simp;done)|(go_simp;rfl));intro gb108 hg w3 hbox hb;have n0_:=aM (IsS57.below (by repeat (first|(with_reducible first|exact HI0.out|apply IsS57.alloc|apply IsS57.drewN|apply IsS57.drew|apply IsS57.set_1|apply IsS57.set_2)|exact HI0.out)) hb);have n1_:=aM (KeepBut.trans (by repeat (first|(with_reducible first|exact HK.out|apply kS|apply kN|apply kD|apply kA)|exact HK.out)) (KeepBut.of_below hb g none) (.inl rfl));have n2_:=aM (below_step (by repeat (first|(with_reducible first|exact HB.out|apply zA|apply zN|apply zD|refine zS ?_ (IsS57.ge HI0.out))|exact HB.out)) hb);have n3_:=aM (hbox);have n4_:=aM ((by rw [hg];exact (keep_size (w:=w) (g:=g) (row:=none) (by repeat (first|(with_reducible first|exact HK.out|apply kS|apply kN|apply kD|apply kA)|exact HK.out))):w.heap.size ≤ gb108));have n5_:=aM ((Nat.le_trans HW0.out (by rw [hg];exact (keep_size (w:=w) (g:=g) (row:=none) (by repeat (first|(with_reducible first|exact HK.out|apply kS|apply kN|apply kD|apply kA)|exact HK.out))):w.heap.size ≤ gb108):w0.heap.size ≤ gb108));have n6_:=aM ((by rw [hg];exact Nat.ne_of_lt (IsS57.lt (show IsS57 w0 _ g s0_0 s0_1 s0_2 from by repeat (first|(with_reducible first|exact HI0.out|apply IsS57.alloc|apply IsS57.drewN|apply IsS57.drew|apply IsS57.set_1|apply IsS57.set_2)|exact HI0.out))):g ≠ gb108));have n7_:=aM ((by rw [hg];exact Nat.ne_of_gt (IsS57.lt (show IsS57 w0 _ g s0_0 s0_1 s0_2 from by repeat (first|(with_reducible first|exact HI0.out|apply IsS57.alloc|apply IsS57.drewN|apply IsS57.drew|apply IsS57.set_1|apply IsS57.set_2)|exact HI0.out))):gb108 ≠ g));clear HI0;clear HK;clear HB;have HI0:=n0_;have HK:=n1_;have HB:=n2_;have BK108:=n3_;have GW108:=n4_;have GE108:=n5_;have NB0_108:=n6_;have NB108_0:=n7_;clear n0_ n1_ n2_ n3_ n4_ n5_ n6_ n7_;clear hb hbox hg)|((with_reducible refine gate_dst (N:=7) rfl ?_);refine Kd.R_lit (Kd.int .i64) _ 2 ?hg (N:=7) ?hd (xs:=([1,2,3,4,5,6,7,9]:List Int)) (inner:=[.int .i64 1,.int .i64 2,.int .i64 3,.int .i64 4,.int .i64 5,.int .i64 6,.int .i64 7,.int .i64 9]) (ok:=fun _=>True) (okp:=fun _=>True) ?hr ?hp (fun _ hk=>hk) trivial (Below.refl _ _) (Nat.le_refl _) (by simp) ?_;(case hd=>rfl);(case hg=>rfl);(case hr=>first|(go_simp;done)|(go_simp;rfl));(case hp=>exact (Reps.one (show Kd.M (Kd.int .i64) _ _ _ 1 [.int .i64 1] from rfl) (Reps.one (show Kd.M (Kd.int .i64) _ _ _ 2 [.int .i64 2] from rfl) (Reps.one (show Kd.M (Kd.int .i64) _ _ _ 3 [.int .i64 3] from rfl) (Reps.one (show Kd.M (Kd.int .i64) _ _ _ 4 [.int .i64 4] from rfl) (Reps.one (show Kd.M (Kd.int .i64) _ _ _ 5 [.int .i64 5] from rfl) (Reps.one (show Kd.M (Kd.int .i64) _ _ _ 6 [.int .i64 6] from rfl) (Reps.one (show Kd.M (Kd.int .i64) _ _ _ 7 [.int .i64 7] from rfl) (Reps.one (show Kd.M (Kd.int .i64) _ _ _ 9 [.int .i64 9] from rfl) (Reps.none _ _))))))))));intro v110 w4 ho5 hb hg_ hnew_;clear hg_ hnew_;(first|rw [← Ny109.out] at ho5|(simp only [Int.reduceToNat] at ho5;rw [← Ny109.out] at ho5));have n0_:=aM (Kd.R_lower ho5 (keep_size (w:=w) (g:=g) (row:=none) (by repeat (first|(with_reducible first|exact HK.out|apply kS|apply kN|apply kD|apply kA|refine kF ?_ GW108.out _)|exact HK.out))));have n1_:=aM (IsS57.below (by repeat (first|(with_reducible first|exact HI0.out|apply IsS57.alloc|apply IsS57.drewN|apply IsS57.drew|apply IsS57.set_1|apply IsS57.set_2|refine IsS57.far ?_ NB0_108.out _)|exact HI0.out)) hb);have n2_:=aM (blk_below (g:=gb108) (o:=.cells #[.string ⟨#[]⟩,.string ⟨#[]⟩] 25 (0,0)) (by (with_reducible repeat (first|apply yN|apply yD|apply yA));exact BK108.out) hb);have n3_:=aM (KeepBut.trans (by repeat (first|(with_reducible first|exact HK.out|apply kS|apply kN|apply kD|apply kA|refine kF ?_ GW108.out _)|exact HK.out)) (KeepBut.of_below hb g none) (.inl rfl));have n4_:=aM (below_step (by repeat (first|(with_reducible first|exact HB.out|apply zA|apply zN|apply zD|refine zS ?_ (IsS57.ge HI0.out)|refine zS ?_ GE108.out)|exact HB.out)) hb);clear HI0;clear BK108;clear HK;clear HB;have HO111:=n0_;have HI0:=n1_;have BK108:=n2_;have HK:=n3_;have HB:=n4_;clear n0_ n1_ n2_ n3_ n4_;clear hb ho5;obtain ⟨Ao6,co6,eo6⟩:=Kd.R_slice HO111.out;subst eo6)|((with_reducible refine gate_callee (f:=26) rfl ?_);refine goesL_ (some 8) rfl rfl Try.func26 (by kernel_rfl) rfl #[.pointer (some ⟨g,0,none⟩),.slice Ao6 y109.length co6] rfl (by (try simp only [sM,sC,sN]);first|done|rfl|(simp only [List.length_drop,List.length_take];rfl)) ?_;(with_reducible refine (spec_l01Pick.calls g s0_0 s0_1 s0_2 _ _ y109 t112 t113 t114 w0 _ ?side1 ?side2 ?side3 ?side4 ?side5 A2.out).mono ?_);(case side1=>repeat (first|(with_reducible first|exact HI0.out|apply IsS57.alloc|apply IsS57.drewN|apply IsS57.drew|apply IsS57.set_1|apply IsS57.set_2|refine IsS57.far ?_ NB0_108.out _)|exact HI0.out));(case side2=>repeat (first|(with_reducible first|exact HB.out|apply zA|apply zN|apply zD|refine zS ?_ (IsS57.ge HI0.out)|refine zS ?_ GE108.out)|exact HB.out));(case side3=>repeat (first|exact (Kd.R_reads' HO111.out).2.2|(with_reducible refine cA ?_ _)|(with_reducible refine cN ?_ _)|(with_reducible refine cD ?_)));(case side4=>exact (Kd.R_reads' HO111.out).2.1);(case side5=>exact far_slice (IsS57.own_ne HI0.out HO111.out (by decide)));rintro e w7 ⟨rfl,hi,hb,hk⟩;refine ⟨_,rfl,?_⟩;replace BK108:=aM (KeepBut.blk hk (g':=gb108) (o:=.cells #[.string ⟨#[]⟩,.string ⟨#[]⟩] 25 (0,0)) (by (with_reducible repeat (first|apply yN|apply yD|apply yA));exact BK108.out) NB108_0.out (by simp));replace HO111:=aM (Kd.R_mono (Kd.R_keep (IsS57.apart (show IsS57 w0 _ g s0_0 s0_1 s0_2 from by repeat (first|(with_reducible first|exact HI0.out|apply IsS57.alloc|apply IsS57.drewN|apply IsS57.drew|apply IsS57.set_1|apply IsS57.set_2|refine IsS57.far ?_ NB0_108.out _)|exact HI0.out)) (by (with_reducible repeat (first|apply rA|apply rN|apply rD));exact HO111.out) (by decide)) hk (fun _ h=>h.2)) (fun _ h=>h.1));replace HK:=aM (KeepBut.trans (by repeat (first|(with_reducible first|exact HK.out|apply kS|apply kN|apply kD|apply kA|refine kF ?_ GW108.out _)|exact HK.out)) hk (.inl rfl));replace HB:=aM (hb);replace HI0:=aM (hi);(try clear hb);(try clear hb2);(try clear hk);(try clear hi))|((with_reducible refine gate_dst (N:=9) rfl ?_);refine Kd.R_lit (Kd.int .u8) _ 5 ?hg (N:=9) ?hd (xs:=([]:List Int)) (inner:=[]) (ok:=fun _=>True) (okp:=fun _=>True) ?hr ?hp (fun _ hk=>hk) trivial (Below.refl _ _) (Nat.le_refl _) (by simp) ?_;(case hd=>rfl);(case hg=>rfl);(case hr=>first|(go_simp;done)|(go_simp;rfl));(case hp=>exact (Reps.none _ _));intro v116 w8 ho9 hb hg_ hnew_;clear hg_ hnew_;(first|rw [← Ny115.out] at ho9|(simp only [Int.reduceToNat] at ho9;rw [← Ny115.out] at ho9));have n0_:=aM (Kd.R_below (by (with_reducible repeat (first|apply rA|apply rN|apply rD));exact HO111.out) hb);have n1_:=aM (Kd.R_lower ho9 (keep_size (w:=w) (g:=g) (row:=none) (by repeat (first|(with_reducible first|exact HK.out|apply kS|apply kN|apply kD|apply kA|refine kF ?_ GW108.out _)|exact HK.out))));have n2_:=aM (IsS57.below (by repeat (first|(with_reducible first|exact HI0.out|apply IsS57.alloc|apply IsS57.drewN|apply IsS57.drew|apply IsS57.set_1|apply IsS57.set_2|refine IsS57.far ?_ NB0_108.out _)|exact HI0.out)) hb);have n3_:=aM (blk_below (g:=gb108) (o:=.cells #[.string ⟨#[]⟩,.string ⟨#[]⟩] 25 (0,0)) (by (with_reducible repeat (first|apply yN|apply yD|apply yA));exact BK108.out) hb);have n4_:=aM (KeepBut.trans (by repeat (first|(with_reducible first|exact HK.out|apply kS|apply kN|apply kD|apply kA|refine kF ?_ GW108.out _)|exact HK.out)) (KeepBut.of_below hb g none) (.inl rfl));have n5_:=aM (below_step (by repeat (first|(with_reducible first|exact HB.out|apply zA|apply zN|apply zD|refine zS ?_ (IsS57.ge HI0.out)|refine zS ?_ GE108.out)|exact HB.out)) hb);clear HO111;clear HI0;clear BK108;clear HK;clear HB;have HO111:=n0_;have HO117:=n1_;have HI0:=n2_;have BK108:=n3_;have HK:=n4_;have HB:=n5_;clear n0_ n1_ n2_ n3_ n4_ n5_;clear hb ho9))
 go_loopg [4,5] k (fun kq v4 v5 w'=>∃ (x4_1:List Int) (x5_1:Int) (x1001_1:Int) (x1002_1:Int),v5 = .int .i64 x5_1 ∧ Aside0 (spec_l02Star1.l0 kq t112 x4_1 x5_1 s0_0 x1001_1 x1002_1 = some (r1,r2,r3,r4)) ∧ Aside0 (kq ≤ k) ∧ Aside0 (Kd.R (Kd.int .u8) 5 w' w.heap.size (fun _=>True) v4 x4_1) ∧ Aside0 (w'.heap[gb108]? = some (.cells #[.string ⟨#[]⟩,.string ⟨#[]⟩] 25 (0,0))) ∧ Aside0 (IsS57 w0 w' g s0_0 x1001_1 x1002_1) ∧ Aside0 (KeepBut w w' g none) ∧ Aside0 (Below w0.heap.size w0 w'))
 case atStart=>exact ⟨(y115),(0),(t113),(t114),(by first|rfl|(simp;done)|(simp [*];done)),H',⟨Nat.le_refl _⟩,⟨by (with_reducible repeat (first|apply rA|apply rN|apply rD));exact HO117.out⟩,⟨by (with_reducible repeat (first|apply yN|apply yD|apply yA));exact BK108.out⟩,⟨by repeat (first|(with_reducible first|exact HI0.out|apply IsS57.alloc|apply IsS57.drewN|apply IsS57.drew|apply IsS57.set_1|apply IsS57.set_2|refine IsS57.far ?_ NB0_108.out _)|exact HI0.out)⟩,⟨by repeat (first|(with_reducible first|exact HK.out|apply kS|apply kN|apply kD|apply kA|refine kF ?_ GW108.out _)|exact HK.out)⟩,⟨by repeat (first|(with_reducible first|exact HB.out|apply zA|apply zN|apply zD|refine zS ?_ (IsS57.ge HI0.out)|refine zS ?_ GE108.out)|exact HB.out)⟩⟩
 case round =>
  clear H'
  try clear c2
  try clear p2
  try clear c3
  obtain ⟨x4_1,x5_1,x1001_1,x1002_1,rfl,HA,HK1,HO_4,BK108,HI0,HK,HB⟩:=hrel
  cases gk with
  | zero=>exact absurd HA.out (by simp [spec_l02Star1.l0])
  | succ k1 =>
   have H:=HA.out
   clear HA
   simp only [spec_l02Star1.l0] at H
   by_cases c10:x5_1 < (wrap64 (t112 - 1))
   ·rw [if_pos c10] at H
    have c10b0:decide (x5_1 < (wrap64 (t112 - 1))) = true:=decide_eq_true c10
    clear c10
    replace H:=Option.bind_eq_some_iff.mp H
    obtain ⟨⟨t118,t119,t120⟩,A110,H⟩:=H
    replace H:(if x4_1.length < 140737488355328 then (spec_l02Star1.l0 k1 t112 (x4_1 ++ [(wrap64 (48 + t118)) % 256]) (wrap64 (x5_1 + 1)) s0_0 t119 t120) else (none)) = some (r1,r2,r3,r4):=H
    have A11:=aM A110
    clear A110
    by_cases c12:x4_1.length < 140737488355328
    ·rw [if_pos c12] at H
     have LMc12:=aM c12
     clear c12
     obtain ⟨y121,hy121⟩:∃ y_:List Int,y_ = (x4_1 ++ [(wrap64 (48 + t118)) % 256]):=⟨_,rfl⟩
     replace H:(spec_l02Star1.l0 k1 t112 y121 (wrap64 (x5_1 + 1)) s0_0 t119 t120) = some (r1,r2,r3,r4):=by first|(rw [hy121];with_reducible exact H)|(have H2_:=(Option.bind_some _ _).symm.trans H;rw [hy121];with_reducible exact H2_)|(have H2_:=(Option.bind_some _ _).symm.trans H;with_reducible exact H2_)|with_reducible exact H|(rw [hy121];exact H)|exact H
     have Ny121:=aM hy121
     clear hy121
     have H':=aM H
     clear H
     go_wp2_with (first|((with_reducible refine gate_callee (f:=18) rfl ?_);refine goesL_ (some 18) rfl rfl Try.func18 (by kernel_rfl) rfl #[.pointer (some ⟨g,0,none⟩),.int .i64 2] rfl (by (try simp only [sM,sC,sN]);first|done|rfl|(simp only [List.length_drop,List.length_take];rfl)) ?_;(with_reducible refine (spec_l01Next.calls g s0_0 x1001_1 x1002_1 2 t118 t119 t120 w0 _ ?side1 ?side2 A11.out).mono ?_);(case side1=>repeat (first|(with_reducible first|exact HI0.out|apply IsS57.alloc|apply IsS57.drewN|apply IsS57.drew|apply IsS57.set_1|apply IsS57.set_2|refine IsS57.far ?_ NB0_108.out _)|exact HI0.out));(case side2=>repeat (first|(with_reducible first|exact HB.out|apply zA|apply zN|apply zD|refine zS ?_ (IsS57.ge HI0.out)|refine zS ?_ GE108.out)|exact HB.out));rintro e w13 ⟨rfl,hi,hb,hk⟩;refine ⟨_,rfl,?_⟩;replace HO_4:=aM (Kd.R_mono (Kd.R_keep (IsS57.apart (show IsS57 w0 _ g s0_0 x1001_1 x1002_1 from by repeat (first|(with_reducible first|exact HI0.out|apply IsS57.alloc|apply IsS57.drewN|apply IsS57.drew|apply IsS57.set_1|apply IsS57.set_2|refine IsS57.far ?_ NB0_108.out _)|exact HI0.out)) (by (with_reducible repeat (first|apply rA|apply rN|apply rD));exact HO_4.out) (by decide)) hk (fun _ h=>h.2)) (fun _ h=>h.1));replace BK108:=aM (KeepBut.blk hk (g':=gb108) (o:=.cells #[.string ⟨#[]⟩,.string ⟨#[]⟩] 25 (0,0)) (by (with_reducible repeat (first|apply yN|apply yD|apply yA));exact BK108.out) NB108_0.out (by simp));replace HK:=aM (KeepBut.trans (by repeat (first|(with_reducible first|exact HK.out|apply kS|apply kN|apply kD|apply kA|refine kF ?_ GW108.out _)|exact HK.out)) hk (.inl rfl));replace HB:=aM (hb);replace HI0:=aM (hi);(try clear hb);(try clear hb2);(try clear hk);(try clear hi))|((with_reducible refine gate_builtin (b:=.append) (xs:=#[.tmp 16,.tmp 21]) rfl ?_);at_builtin;refine Kd.R_append (Kd.int .u8) w.heap.size rfl (.tmp 16) (.tmp 21) 22 5 (.int .u8 0) 1 rfl Try.underlying22 info5 rfl (by decide) (by omega) u4 x4_1 ((wrap64 (48 + t118)) % 256) [.int .u8 ((wrap64 (48 + t118)) % 256)] (fun _=>True) (fun _=>False) rfl rfl ?aP (fun _ hk=>hk.elim) ?aF ?aO (Below.refl _ _) ?aS ?aL ?_;(case aP=>exact rfl);(case aF=>exact (fun _ _=>trivial));(case aO=>exact (by (with_reducible repeat (first|apply rA|apply rN|apply rD));exact HO_4.out));(case aS=>exact (keep_size (w:=w) (g:=g) (row:=none) (by repeat (first|(with_reducible first|exact HK.out|apply kS|apply kN|apply kD|apply kA|refine kF ?_ GW108.out _)|exact HK.out))));(case aL=>have:=LMc12.out;omega);intro v122 w14 ho hb hg hat;rw [← Ny121.out] at ho;have n0_:=aM (blk_grown (g:=gb108) (o:=.cells #[.string ⟨#[]⟩,.string ⟨#[]⟩] 25 (0,0)) (by (with_reducible repeat (first|apply yN|apply yD|apply yA));exact BK108.out) hg (Kd.R_ne HO_4.out BK108.out (by decide)));have n1_:=aM (IsS57.grown (by repeat (first|(with_reducible first|exact HI0.out|apply IsS57.alloc|apply IsS57.drewN|apply IsS57.drew|apply IsS57.set_1|apply IsS57.set_2|refine IsS57.far ?_ NB0_108.out _)|exact HI0.out)) hg (IsS57.own_ne HI0.out HO_4.out (by decide)));have n2_:=aM (below_weaken (by repeat (first|(with_reducible first|exact HB.out|apply zA|apply zN|apply zD|refine zS ?_ (IsS57.ge HI0.out)|refine zS ?_ GE108.out)|exact HB.out)) HL.out hb);have n3_:=aM (KeepBut.trans (by repeat (first|(with_reducible first|exact HK.out|apply kS|apply kN|apply kD|apply kA|refine kF ?_ GW108.out _)|exact HK.out)) (KeepBut.of_grown hg g) (Kd.R_base2 HO_4.out));have n4_:=aM (ho);clear BK108;clear HI0;clear HB;clear HK;clear HO_4;have BK108:=n0_;have HI0:=n1_;have HB:=n2_;have HK:=n3_;have HO123:=n4_;clear n0_ n1_ n2_ n3_ n4_;clear ho hb hg hat))
     go_roundg k1
     case measure=>have:=HK1.out;omega
     case rel=>exact ⟨(y121),(wrap64 (x5_1 + 1)),(t119),(t120),(by first|rfl|(simp;done)|(simp [*];done)),H',⟨by have:=HK1.out;omega⟩,⟨by (with_reducible repeat (first|apply rA|apply rN|apply rD));exact HO123.out⟩,⟨by (with_reducible repeat (first|apply yN|apply yD|apply yA));exact BK108.out⟩,⟨by repeat (first|(with_reducible first|exact HI0.out|apply IsS57.alloc|apply IsS57.drewN|apply IsS57.drew|apply IsS57.set_1|apply IsS57.set_2|refine IsS57.far ?_ NB0_108.out _)|exact HI0.out)⟩,⟨by repeat (first|(with_reducible first|exact HK.out|apply kS|apply kN|apply kD|apply kA|refine kF ?_ GW108.out _)|exact HK.out)⟩,⟨by repeat (first|(with_reducible first|exact HB.out|apply zA|apply zN|apply zD|refine zS ?_ (IsS57.ge HI0.out)|refine zS ?_ GE108.out)|exact HB.out)⟩⟩
    ·rw [if_neg c12] at H
     exact absurd H (by simp)
   ·rw [if_neg c10] at H
    have c10b0:decide (x5_1 < (wrap64 (t112 - 1))) = false:=decide_eq_false c10
    clear c10
    by_cases c15:t112 > 1
    ·rw [if_pos c15] at H
     have c15b0:decide (1 < t112) = true:=decide_eq_true c15
     clear c15
     by_cases c16:0 < (x4_1.length:Int)
     ·rw [if_pos c16] at H
      have c16b0:decide (0 < (x4_1.length:Int)) = true:=decide_eq_true c16
      have c16b1:decide (0 < x4_1.length) = true:=decide_eq_true (by omega)
      clear c16
      obtain ⟨y124,hy124⟩:∃ y_:List Int,y_ = (x4_1.set (0:Int).toNat 49):=⟨_,rfl⟩
      replace H:(if y124.length < 140737488355328 then (some ((⟨#[]⟩:ByteArray),strOfNums (y124 ++ [42]),x1001_1,x1002_1)) else (none)) = some (r1,r2,r3,r4):=by first|(rw [hy124];with_reducible exact H)|(have H2_:=(Option.bind_some _ _).symm.trans H;rw [hy124];with_reducible exact H2_)|(have H2_:=(Option.bind_some _ _).symm.trans H;with_reducible exact H2_)|with_reducible exact H|(rw [hy124];exact H)|exact H
      have Ny124:=aM hy124
      clear hy124
      by_cases c18:y124.length < 140737488355328
      ·rw [if_pos c18] at H
       have LMc18:=aM c18
       clear c18
       obtain ⟨y125,hy125⟩:∃ y_:List Int,y_ = (y124 ++ [42]):=⟨_,rfl⟩
       replace H:(some ((⟨#[]⟩:ByteArray),strOfNums y125,x1001_1,x1002_1)) = some (r1,r2,r3,r4):=by first|(rw [hy125];with_reducible exact H)|(have H2_:=(Option.bind_some _ _).symm.trans H;rw [hy125];with_reducible exact H2_)|(have H2_:=(Option.bind_some _ _).symm.trans H;with_reducible exact H2_)|with_reducible exact H|(rw [hy125];exact H)|exact H
       have Ny125:=aM hy125
       clear hy125
       simp only [Option.some.injEq,Prod.mk.injEq] at H
       obtain ⟨rfl,rfl,rfl,rfl⟩:=H
       have p17:0 ≤ (0:Int):=(by omega)
       have q17:(0:Int) < ((x4_1.length:Int):Int):=of_decide_eq_true (by first|(with_reducible assumption)|assumption)
       have qi17:(0 < x4_1.length) = True:=eq_true (by omega)
       obtain ⟨go17,co17,eo17,gb17,gl17,cl17,HG17⟩:=Kd.R_form HO_4.out (by omega)
       (first|cases eo17|(injection eo17 with ea_ en_ ec_;(first|subst ea_|(injection ea_ with ea_;subst ea_));subst ec_;clear en_))
       have GB17:=aM gb17
       have GG17:=aM HG17
       clear gb17 gl17 HG17
       obtain ⟨hx17_0,hf17_0⟩:=Kd.R_celln 0 HO_4.out (0:Int) p17 q17
       (try rw [show ((0:Int)).toNat = 0 from rfl] at hx17_0)
       (try simp only [Nat.reduceMul,Nat.zero_mul,Nat.zero_add,Nat.reduceAdd] at hx17_0)
       (try rw [show ((0:Int)).toNat = 0 from rfl] at hf17_0)
       (try simp only [Nat.reduceMul,Nat.zero_mul,Nat.zero_add,Nat.reduceAdd] at hf17_0)
       replace p17:=eq_true p17
       replace q17:=eq_true q17
       have HP19:=Kd.R_putg HO_4.out (0:Int) 49
       go_wp2_with (first|((with_reducible refine gate_store (t:=5) (p:=26) rfl ?_);refine store_event (t:=5) (p:=26) (v:=?vo_w20) (w1:=(wr.setCell ⟨go17,(0:Int).toNat,none⟩ (.int .u8 49))) ?hg ?ho ?hn ?hr ?_;(case ho=>rfl);(case hg=>rfl);(case hn=>rfl);(case hr=>first|(go_simp;done)|(go_simp;rfl));intro w20 hw;have hg:wr.grownBy w20 (some go17):=(by rw [hw];exact HP19.2);have hp_:Kd.R (Kd.int .u8) 5 w20 w.heap.size (fun _=>True) (.slice (some ⟨go17,0,none⟩) x4_1.length co17) y124:=(by rw [hw,Ny124.out];exact HP19.1);clear HP19;have n0_:=aM (hp_);have n1_:=aM (blk_grown (g:=gb108) (o:=.cells #[.string ⟨#[]⟩,.string ⟨#[]⟩] 25 (0,0)) (by (with_reducible repeat (first|apply yN|apply yD|apply yA));exact BK108.out) hg (Kd.R_ne HO_4.out BK108.out (by decide)));have n2_:=aM (IsS57.grown (by repeat (first|(with_reducible first|exact HI0.out|apply IsS57.alloc|apply IsS57.drewN|apply IsS57.drew|apply IsS57.set_1|apply IsS57.set_2|refine IsS57.far ?_ NB0_108.out _)|exact HI0.out)) hg (IsS57.own_ne HI0.out HO_4.out (by decide)));have n3_:=aM ((by rw [hw];exact zS (HB.out) (Nat.le_trans HL.out GB17.out):Below w0.heap.size w0 w20));have n4_:=aM (KeepBut.trans (by repeat (first|(with_reducible first|exact HK.out|apply kS|apply kN|apply kD|apply kA|refine kF ?_ GW108.out _)|exact HK.out)) (KeepBut.of_grown hg g) (Kd.R_base2 HO_4.out));clear HO_4;clear BK108;clear HI0;clear HB;clear HK;have HO_4:=n0_;have BK108:=n1_;have HI0:=n2_;have HB:=n3_;have HK:=n4_;clear n0_ n1_ n2_ n3_ n4_;clear hg hw hp_)|((with_reducible refine gate_builtin (b:=.append) (xs:=#[.tmp 27,.tmp 28]) rfl ?_);at_builtin;refine Kd.R_append (Kd.int .u8) w.heap.size rfl (.tmp 27) (.tmp 28) 22 5 (.int .u8 0) 1 rfl Try.underlying22 info5 rfl (by decide) (by omega) (.slice (some ⟨go17,0,none⟩) x4_1.length co17) y124 42 [.int .u8 42] (fun _=>True) (fun _=>False) rfl rfl ?aP (fun _ hk=>hk.elim) ?aF ?aO (Below.refl _ _) ?aS ?aL ?_;(case aP=>exact rfl);(case aF=>exact (fun _ _=>trivial));(case aO=>exact (by (with_reducible repeat (first|apply rA|apply rN|apply rD));exact HO_4.out));(case aS=>exact (keep_size (w:=w) (g:=g) (row:=none) (by repeat (first|(with_reducible first|exact HK.out|apply kS|apply kN|apply kD|apply kA|refine kF ?_ GW108.out _)|exact HK.out))));(case aL=>have:=LMc18.out;omega);intro v126 w21 ho hb hg hat;rw [← Ny125.out] at ho;have n0_:=aM (blk_grown (g:=gb108) (o:=.cells #[.string ⟨#[]⟩,.string ⟨#[]⟩] 25 (0,0)) (by (with_reducible repeat (first|apply yN|apply yD|apply yA));exact BK108.out) hg (Kd.R_ne HO_4.out BK108.out (by decide)));have n1_:=aM (IsS57.grown (by repeat (first|(with_reducible first|exact HI0.out|apply IsS57.alloc|apply IsS57.drewN|apply IsS57.drew|apply IsS57.set_1|apply IsS57.set_2|refine IsS57.far ?_ NB0_108.out _)|exact HI0.out)) hg (IsS57.own_ne HI0.out HO_4.out (by decide)));have n2_:=aM (below_weaken (by repeat (first|(with_reducible first|exact HB.out|apply zA|apply zN|apply zD|refine zS ?_ (IsS57.ge HI0.out)|refine zS ?_ GE108.out)|exact HB.out)) HL.out hb);have n3_:=aM (KeepBut.trans (by repeat (first|(with_reducible first|exact HK.out|apply kS|apply kN|apply kD|apply kA|refine kF ?_ GW108.out _)|exact HK.out)) (KeepBut.of_grown hg g) (Kd.R_base2 HO_4.out));have n4_:=aM (ho);clear BK108;clear HI0;clear HB;clear HK;clear HO_4;have BK108:=n0_;have HI0:=n1_;have HB:=n2_;have HK:=n3_;have HO127:=n4_;clear n0_ n1_ n2_ n3_ n4_;clear ho hb hg hat;have hcv22:=own_string (P:=Try.prog) Try.underlying22 Try.underlying5 Try.underlying9 (Kd.own_of_R HO127.out);have hnb23:=NB108_0.out;have hnc23:=NB0_108.out;have hcz24_0:w21.cell? ⟨gb108,0,none⟩ = some (.string ⟨#[]⟩):=(blk_cell BK108.out 0).trans rfl;have hcz24_1:w21.cell? ⟨gb108,1,none⟩ = some (.string ⟨#[]⟩):=(blk_cell BK108.out 1).trans rfl;have hfz24_0:=blk_frozen BK108.out 0;have hfz24_1:=blk_frozen BK108.out 1))
       refine bodyPost_ret (results_cell_row rfl _ _ gb108 25 #[.string ⟨#[]⟩,.string (strOfNums y125)] (0,0) _ rfl (by (with_reducible repeat (first|apply yN|apply yD|apply yA));refine blk_put (cs:=#[.string ⟨#[]⟩,.string ⟨#[]⟩]) ?_ 1 _ rfl;(with_reducible repeat (first|apply yN|apply yD|apply yA));refine blk_put (cs:=#[.string ⟨#[]⟩,.string ⟨#[]⟩]) ?_ 0 _ rfl;(with_reducible repeat (first|apply yN|apply yD|apply yA));exact BK108.out) Try.underlying25 rfl (by kernel_rfl)) rfl ?_
       exact ⟨by first|rfl|(simp [errW_none,errW_some] <;> rfl)|(simp [*,errW_none,errW_some] <;> rfl),by repeat (first|(with_reducible first|exact HI0.out|apply IsS57.alloc|apply IsS57.drewN|apply IsS57.drew|apply IsS57.set_1|apply IsS57.set_2|refine IsS57.far ?_ NB0_108.out _)|exact HI0.out),by repeat (first|(with_reducible first|exact HB.out|apply zA|apply zN|apply zD|refine zS ?_ (IsS57.ge HI0.out)|refine zS ?_ GE108.out)|exact HB.out),by repeat (first|(with_reducible first|exact HK.out|apply kS|apply kN|apply kD|apply kA|refine kF ?_ GW108.out _)|exact HK.out)⟩
      ·rw [if_neg c18] at H
       exact absurd H (by simp)
     ·rw [if_neg c16] at H
      exact absurd H (by simp)
    ·rw [if_neg c15] at H
     have c15b0:decide (1 < t112) = false:=decide_eq_false c15
     clear c15
     by_cases c25:x4_1.length < 140737488355328
     ·rw [if_pos c25] at H
      have LMc25:=aM c25
      clear c25
      obtain ⟨y128,hy128⟩:∃ y_:List Int,y_ = (x4_1 ++ [42]):=⟨_,rfl⟩
      replace H:(some ((⟨#[]⟩:ByteArray),strOfNums y128,x1001_1,x1002_1)) = some (r1,r2,r3,r4):=by first|(rw [hy128];with_reducible exact H)|(have H2_:=(Option.bind_some _ _).symm.trans H;rw [hy128];with_reducible exact H2_)|(have H2_:=(Option.bind_some _ _).symm.trans H;with_reducible exact H2_)|with_reducible exact H|(rw [hy128];exact H)|exact H
      have Ny128:=aM hy128
      clear hy128
      simp only [Option.some.injEq,Prod.mk.injEq] at H
      obtain ⟨rfl,rfl,rfl,rfl⟩:=H
      go_wp2_with (first|((with_reducible refine gate_builtin (b:=.append) (xs:=#[.tmp 27,.tmp 28]) rfl ?_);at_builtin;refine Kd.R_append (Kd.int .u8) w.heap.size rfl (.tmp 27) (.tmp 28) 22 5 (.int .u8 0) 1 rfl Try.underlying22 info5 rfl (by decide) (by omega) u4 x4_1 42 [.int .u8 42] (fun _=>True) (fun _=>False) rfl rfl ?aP (fun _ hk=>hk.elim) ?aF ?aO (Below.refl _ _) ?aS ?aL ?_;(case aP=>exact rfl);(case aF=>exact (fun _ _=>trivial));(case aO=>exact (by (with_reducible repeat (first|apply rA|apply rN|apply rD));exact HO_4.out));(case aS=>exact (keep_size (w:=w) (g:=g) (row:=none) (by repeat (first|(with_reducible first|exact HK.out|apply kS|apply kN|apply kD|apply kA|refine kF ?_ GW108.out _)|exact HK.out))));(case aL=>have:=LMc25.out;omega);intro v129 w26 ho hb hg hat;rw [← Ny128.out] at ho;have n0_:=aM (blk_grown (g:=gb108) (o:=.cells #[.string ⟨#[]⟩,.string ⟨#[]⟩] 25 (0,0)) (by (with_reducible repeat (first|apply yN|apply yD|apply yA));exact BK108.out) hg (Kd.R_ne HO_4.out BK108.out (by decide)));have n1_:=aM (IsS57.grown (by repeat (first|(with_reducible first|exact HI0.out|apply IsS57.alloc|apply IsS57.drewN|apply IsS57.drew|apply IsS57.set_1|apply IsS57.set_2|refine IsS57.far ?_ NB0_108.out _)|exact HI0.out)) hg (IsS57.own_ne HI0.out HO_4.out (by decide)));have n2_:=aM (below_weaken (by repeat (first|(with_reducible first|exact HB.out|apply zA|apply zN|apply zD|refine zS ?_ (IsS57.ge HI0.out)|refine zS ?_ GE108.out)|exact HB.out)) HL.out hb);have n3_:=aM (KeepBut.trans (by repeat (first|(with_reducible first|exact HK.out|apply kS|apply kN|apply kD|apply kA|refine kF ?_ GW108.out _)|exact HK.out)) (KeepBut.of_grown hg g) (Kd.R_base2 HO_4.out));have n4_:=aM (ho);clear BK108;clear HI0;clear HB;clear HK;clear HO_4;have BK108:=n0_;have HI0:=n1_;have HB:=n2_;have HK:=n3_;have HO130:=n4_;clear n0_ n1_ n2_ n3_ n4_;clear ho hb hg hat;have hcv27:=own_string (P:=Try.prog) Try.underlying22 Try.underlying5 Try.underlying9 (Kd.own_of_R HO130.out);have hnb28:=NB108_0.out;have hnc28:=NB0_108.out;have hcz29_0:w26.cell? ⟨gb108,0,none⟩ = some (.string ⟨#[]⟩):=(blk_cell BK108.out 0).trans rfl;have hcz29_1:w26.cell? ⟨gb108,1,none⟩ = some (.string ⟨#[]⟩):=(blk_cell BK108.out 1).trans rfl;have hfz29_0:=blk_frozen BK108.out 0;have hfz29_1:=blk_frozen BK108.out 1))
      refine bodyPost_ret (results_cell_row rfl _ _ gb108 25 #[.string ⟨#[]⟩,.string (strOfNums y128)] (0,0) _ rfl (by (with_reducible repeat (first|apply yN|apply yD|apply yA));refine blk_put (cs:=#[.string ⟨#[]⟩,.string ⟨#[]⟩]) ?_ 1 _ rfl;(with_reducible repeat (first|apply yN|apply yD|apply yA));refine blk_put (cs:=#[.string ⟨#[]⟩,.string ⟨#[]⟩]) ?_ 0 _ rfl;(with_reducible repeat (first|apply yN|apply yD|apply yA));exact BK108.out) Try.underlying25 rfl (by kernel_rfl)) rfl ?_
      exact ⟨by first|rfl|(simp [errW_none,errW_some] <;> rfl)|(simp [*,errW_none,errW_some] <;> rfl),by repeat (first|(with_reducible first|exact HI0.out|apply IsS57.alloc|apply IsS57.drewN|apply IsS57.drew|apply IsS57.set_1|apply IsS57.set_2|refine IsS57.far ?_ NB0_108.out _)|exact HI0.out),by repeat (first|(with_reducible first|exact HB.out|apply zA|apply zN|apply zD|refine zS ?_ (IsS57.ge HI0.out)|refine zS ?_ GE108.out)|exact HB.out),by repeat (first|(with_reducible first|exact HK.out|apply kS|apply kN|apply kD|apply kA|refine kF ?_ GW108.out _)|exact HK.out)⟩
     ·rw [if_neg c25] at H
      exact absurd H (by simp)
def spec_l01Divisor.l0:Nat → Int → Int → Option (Int)
 | 0,_,_=>none
 | k + 1,x0,x1=>if x1 > 0 then (if x1 = 0 then (none) else (spec_l01Divisor.l0 k x1 (Int.tmod x0 x1))) else (some x0)
def spec_l01Divisor.f (k:Nat) (a0:Int) (a1:Int):Option (Int):=spec_l01Divisor.l0 k a0 a1
theorem spec_l01Divisor.mono_l:∀ k,(∀ y0 y1,LeO (spec_l01Divisor.l0 k y0 y1) (spec_l01Divisor.l0 (k + 1) y0 y1))
 | 0=>fun _ _ r h=>by simp [spec_l01Divisor.l0] at h
 | k + 1=>by
  have ih0:=spec_l01Divisor.mono_l k
  ·intro y0 y1
   unfold spec_l01Divisor.l0
   repeat' first
   | (with_reducible exact ih0 _ _)
   | (with_reducible exact LeO.refl _)
   | (with_reducible exact LeO.none _)
   | (with_reducible refine LeO.ite ?_ ?_)
   | (with_reducible refine LeO.bind ?_ (fun _=>?_))
   | exact ih0 _ _
   | exact LeO.none _
   | refine LeO.ite ?_ ?_
   | refine LeO.bind ?_ (fun _=>?_)
theorem spec_l01Divisor.mono:∀ a0 a1 k,LeO (spec_l01Divisor.f k a0 a1) (spec_l01Divisor.f (k + 1) a0 a1):=by
 intro a0 a1 k
 have ih0:=spec_l01Divisor.mono_l k
 unfold spec_l01Divisor.f
 repeat' first
   | (with_reducible exact ih0 _ _)
   | (with_reducible exact LeO.refl _)
   | (with_reducible exact LeO.none _)
   | (with_reducible refine LeO.ite ?_ ?_)
   | (with_reducible refine LeO.bind ?_ (fun _=>?_))
   | exact ih0 _ _
   | exact LeO.none _
   | refine LeO.ite ?_ ?_
   | refine LeO.bind ?_ (fun _=>?_)
set_option maxHeartbeats 8000000 in
set_option maxRecDepth 100000 in
theorem spec_l01Divisor.calls (k:Nat) (a0:Int) (a1:Int) (r:Int) (w:World) (h:spec_l01Divisor.f k a0 a1 = some r) :
  Calls Try.prog 59 #[.int .i64 a0,.int .i64 a1] w fun e w'=>e = .returned (.int .i64 r) ∧ Drawn0 w w':=by
 have H:(spec_l01Divisor.l0 k a0 a1) = some r:=h
 clear h
 have H':=aM H
 clear H
 go_enter Try.func59,Try.ntmps59
 go_wp2
 go_loopg [0,1] k (fun kq v0 v1 w'=>∃ (x0_1:Int) (x1_1:Int),v0 = .int .i64 x0_1 ∧ v1 = .int .i64 x1_1 ∧ Aside0 (spec_l01Divisor.l0 kq x0_1 x1_1 = some r) ∧ Aside0 (kq ≤ k) ∧ Drawn0 w w')
 case atStart=>exact ⟨(a0),(a1),(by first|rfl|(simp;done)|(simp [*];done)),(by first|rfl|(simp;done)|(simp [*];done)),H',⟨Nat.le_refl _⟩,by repeat (first|exact Drawn0.refl _|apply Drawn0.step)⟩
 case round =>
  clear H'
  try clear p2
  obtain ⟨x0_1,x1_1,rfl,rfl,HA,HK1,⟨m1,rfl⟩⟩:=hrel
  cases gk with
  | zero=>exact absurd HA.out (by simp [spec_l01Divisor.l0])
  | succ k1 =>
   have H:=HA.out
   clear HA
   simp only [spec_l01Divisor.l0] at H
   by_cases c3:x1_1 > 0
   ·rw [if_pos c3] at H
    have c3b0:decide (0 < x1_1) = true:=decide_eq_true c3
    clear c3
    by_cases c4:x1_1 = 0
    ·rw [if_pos c4] at H
     exact absurd H (by simp)
    ·rw [if_neg c4] at H
     have c4b0:(x1_1 == 0) = false:=beq_eq_false_iff_ne.mpr c4
     have c4b1:(x1_1 != 0) = true:=bne_iff_ne.mpr c4
     have H':=aM H
     clear H
     go_wp2
     go_roundg k1
     case measure=>have:=HK1.out;omega
     case rel=>exact ⟨(x1_1),(Int.tmod x0_1 x1_1),(by first|rfl|(simp;done)|(simp [*];done)),(by first|rfl|(simp;done)|(simp [*];done)),H',⟨by have:=HK1.out;omega⟩,by repeat (first|exact Drawn0.refl _|apply Drawn0.step)⟩
   ·rw [if_neg c3] at H
    have c3b0:decide (0 < x1_1) = false:=decide_eq_false c3
    clear c3
    obtain rfl:=Option.some.inj H
    go_wp2
    go_ret
    exact ⟨by first|rfl|(simp;done)|(simp [*];done),by repeat (first|exact Drawn0.refl _|apply Drawn0.step)⟩
def spec_l01Of.f (k:Nat) (a0:Int) (a1:Int):Option (Int × Int):=if a1 = 0 then (none) else ((spec_l01Divisor.f k (Int.tmod (wrap64 ((Int.tmod a0 a1) + a1)) a1) a1).bind fun t132=>(if t132 = 0 then (none) else (some (wrap64 (Int.tdiv (Int.tmod (wrap64 ((Int.tmod a0 a1) + a1)) a1) t132),wrap64 (Int.tdiv a1 t132)))))
theorem spec_l01Of.mono:∀ a0 a1 k,LeO (spec_l01Of.f k a0 a1) (spec_l01Of.f (k + 1) a0 a1):=by
 intro a0 a1 k
 unfold spec_l01Of.f
 repeat' first
   | (with_reducible exact spec_l01Divisor.mono _ _ _)
   | (with_reducible exact LeO.refl _)
   | (with_reducible exact LeO.none _)
   | (with_reducible refine LeO.ite ?_ ?_)
   | (with_reducible refine LeO.bind ?_ (fun _=>?_))
   | exact spec_l01Divisor.mono _ _ _
   | exact LeO.none _
   | refine LeO.ite ?_ ?_
   | refine LeO.bind ?_ (fun _=>?_)
def spec_l01Of.T3:Bool × List (List Nat × List Nat):=(true,[([],[]),([],[]),([0,1],[0,1]),([],[]),([],[]),([3,4],[3,4]),([2,5],[2,5]),([6,0,1,2,3,4,5,6],[6])])
def spec_l01Of.B3:List Nat:=[0,0,3,0,0,24,63,127]
theorem spec_l01Of.tab3:rtab .any (opsOf Try.f44 3) = spec_l01Of.T3:=by kernel_rfl
theorem spec_l01Of.bits3:waitsOk spec_l01Of.T3.2 spec_l01Of.B3 = true:=by kernel_rfl
set_option maxHeartbeats 8000000 in
set_option maxRecDepth 100000 in
theorem spec_l01Of.calls (k:Nat) (a0:Int) (a1:Int) (r1:Int) (r2:Int) (w:World) (h:spec_l01Of.f k a0 a1 = some (r1,r2)) :
  Calls Try.prog 44 #[.int .i64 a0,.int .i64 a1] w fun e w'=>e = .returned (.agg #[.int .i64 r1,.int .i64 r2]) ∧ Below w.heap.size w w':=by
 have hu59:=Try.underlying59
 have HB:=aM (Below.refl w.heap.size w)
 have H:(if a1 = 0 then (none) else ((spec_l01Divisor.f k (Int.tmod (wrap64 ((Int.tmod a0 a1) + a1)) a1) a1).bind fun t132=>(if t132 = 0 then (none) else (some (wrap64 (Int.tdiv (Int.tmod (wrap64 ((Int.tmod a0 a1) + a1)) a1) t132),wrap64 (Int.tdiv a1 t132)))))) = some (r1,r2):=h
 clear h
 by_cases c3:a1 = 0
 ·rw [if_pos c3] at H
  exact absurd H (by simp)
 ·rw [if_neg c3] at H
  have c3b0:(a1 == 0) = false:=beq_eq_false_iff_ne.mpr c3
  have c3b1:(a1 != 0) = true:=bne_iff_ne.mpr c3
  replace H:=Option.bind_eq_some_iff.mp H
  obtain ⟨t132,A40,H⟩:=H
  replace H:(if t132 = 0 then (none) else (some (wrap64 (Int.tdiv (Int.tmod (wrap64 ((Int.tmod a0 a1) + a1)) a1) t132),wrap64 (Int.tdiv a1 t132)))) = some (r1,r2):=H
  have A4:=aM A40
  clear A40
  by_cases c5:t132 = 0
  ·rw [if_pos c5] at H
   exact absurd H (by simp)
  ·rw [if_neg c5] at H
   have c5b0:(t132 == 0) = false:=beq_eq_false_iff_ne.mpr c5
   have c5b1:(t132 != 0) = true:=bne_iff_ne.mpr c5
   simp only [Option.some.injEq,Prod.mk.injEq] at H
   obtain ⟨rfl,rfl⟩:=H
   go_enter Try.func44,Try.ntmps44
   try go_wp2_with (first|((with_reducible refine gate_dst (N:=4) rfl ?_);refine box_event ?hg (N:=4) ?hd (cs:=#[.int .i64 0,.int .i64 0]) (t:=59) ?hr ?_;(case hd=>rfl);(case hg=>rfl);(case hr=>first|(go_simp;done)|(go_simp;rfl));intro gb131 hg w6 hbox hb;have n0_:=aM (below_step (by repeat (first|(with_reducible first|exact HB.out|apply zA|apply zN|apply zD)|exact HB.out)) hb);have n1_:=aM (hbox);have n2_:=aM ((by rw [hg];exact (below_size (by repeat (first|(with_reducible first|exact HB.out|apply zA|apply zN|apply zD)|exact HB.out))):w.heap.size ≤ gb131));have n3_:=aM ((by rw [hg];exact (below_size (by repeat (first|(with_reducible first|exact HB.out|apply zA|apply zN|apply zD)|exact HB.out))):w.heap.size ≤ gb131));clear HB;have HB:=n0_;have BK131:=n1_;have GW131:=n2_;have GE131:=n3_;clear n0_ n1_ n2_ n3_;clear hb hbox hg)|((with_reducible refine gate_callee (f:=59) rfl ?_);refine goesL_ (some 15) rfl rfl Try.func59 (by kernel_rfl) rfl #[.int .i64 (Int.tmod (wrap64 ((Int.tmod a0 a1) + a1)) a1),.int .i64 a1] rfl (by (try simp only [sM,sC,sN]);first|done|rfl|(simp only [List.length_drop,List.length_take];rfl)) ?_;(with_reducible refine (spec_l01Divisor.calls k (Int.tmod (wrap64 ((Int.tmod a0 a1) + a1)) a1) a1 t132 _ A4.out).mono ?_);rintro e w' ⟨rfl,⟨nd,rfl⟩⟩;refine ⟨_,rfl,?_⟩;(try (rw [drewN_self w6];generalize hq_:World.drewN w6 _ = w6;have n0_:Aside0 (w6.heap[gb131]? = some (.cells #[.int .i64 0,.int .i64 0] 59 (0,0))):=⟨by rw [← hq_];exact (by (with_reducible repeat (first|apply yN|apply yD|apply yA));exact BK131.out)⟩;have n1_:Aside0 (Below w.heap.size w w6):=⟨by rw [← hq_];exact (by repeat (first|(with_reducible first|exact HB.out|apply zA|apply zN|apply zD|refine zS ?_ GE131.out)|exact HB.out))⟩;clear BK131 HB hq_;have BK131:=n0_;have HB:=n1_;clear n0_ n1_))))
   replace BK131:=aM (yD BK131.out)
   replace HB:=aM (zD HB.out)
   refine start_ (n:=8) (S:=fun w'=>True) (ds:=[]) #[fF,fF,fF,fF,fF,fF,fF,fF] (by kernel_rfl) rfl rfl trivial (fun hHeld=>?_);refine with_tabW spec_l01Of.tab3 spec_l01Of.bits3 (fun HT_ HW_=>?_)
   generalize w6.drew = w7 at BK131 HB hHeld ⊢
   refine pure_ (i:=0) (N:=some 16) (v:=?_) (a':=?_) #[tT,fF,fF,fF,fF,fF,fF,fF] rfl rfl (any_of HT_.out (by kernel_rfl)) (fun _ _ _ h=>h) (Or.inl ⟨by rfl,?_⟩) ?_ ?_
   rotate_left
   ·intro w'
    go_simp
    with_reducible rfl
   rotate_left
   ·simp only [Act.put,sI,sZ,sS,i64_w,i32_w]
    rfl
   refine pure_ (i:=1) (N:=some 17) (v:=?_) (a':=?_) #[tT,tT,fF,fF,fF,fF,fF,fF] rfl rfl (any_of HT_.out (by kernel_rfl)) (fun _ _ _ h=>h) (Or.inl ⟨by rfl,?_⟩) ?_ ?_
   rotate_left
   ·intro w'
    go_simp
    with_reducible rfl
   rotate_left
   ·simp only [Act.put,sI,sZ,sS,i64_w,i32_w]
    rfl
   refine pure_ (i:=2) (N:=some 18) (v:=?_) (a':=?_) #[tT,tT,tT,fF,fF,fF,fF,fF] rfl rfl (any_of HT_.out (by kernel_rfl)) (fun _ _ _ h=>h) (Or.inl ⟨by rfl,?_⟩) ?_ ?_
   rotate_left
   ·intro w'
    go_simp
    with_reducible rfl
   rotate_left
   ·simp only [Act.put,sI,sZ,sS,i64_w,i32_w]
    rfl
   refine pure_ (i:=3) (N:=some 19) (v:=?_) (a':=?_) #[tT,tT,tT,tT,fF,fF,fF,fF] rfl rfl (any_of HT_.out (by kernel_rfl)) (fun _ _ _ h=>h) (Or.inl ⟨by rfl,?_⟩) ?_ ?_
   rotate_left
   ·intro w'
    go_simp
    with_reducible rfl
   rotate_left
   ·simp only [Act.put,sI,sZ,sS,i64_w,i32_w]
    rfl
   refine pure_ (i:=4) (N:=some 20) (v:=?_) (a':=?_) #[tT,tT,tT,tT,tT,fF,fF,fF] rfl rfl (any_of HT_.out (by kernel_rfl)) (fun _ _ _ h=>h) (Or.inl ⟨by rfl,?_⟩) ?_ ?_
   rotate_left
   ·intro w'
    go_simp
    with_reducible rfl
   rotate_left
   ·simp only [Act.put,sI,sZ,sS,i64_w,i32_w]
    rfl
   refine pure_ (i:=5) (N:=some 21) (v:=?_) (a':=?_) #[tT,tT,tT,tT,tT,tT,fF,fF] rfl rfl (any_of HT_.out (by kernel_rfl)) (fun _ _ _ h=>h) (Or.inl ⟨by rfl,?_⟩) ?_ ?_
   rotate_left
   ·intro w'
    go_simp
    with_reducible rfl
   rotate_left
   ·simp only [Act.put,sI,sZ,sS,i64_w,i32_w]
    rfl
   refine pure_ (i:=6) (N:=some 22) (v:=?_) (a':=?_) #[tT,tT,tT,tT,tT,tT,tT,fF] rfl rfl (any_of HT_.out (by kernel_rfl)) (fun _ _ _ h=>h) (Or.inl ⟨by rfl,?_⟩) ?_ ?_
   rotate_left
   ·intro w'
    go_simp
    with_reducible rfl
   rotate_left
   ·simp only [Act.put,sI,sZ,sS,i64_w,i32_w]
    rfl
   refine one_ (i:=7) (N:=none) #[tT,tT,tT,tT,tT,tT,tT,tT] rfl rfl (one_of HT_.out (by kernel_rfl)) (by decide) (fun K hK=>?_)
   have hs8:w7.cell? ⟨gb131,0,none⟩ = some (.int .i64 0):=(blk_cell BK131.out 0).trans rfl
   have hfs8:=blk_frozen BK131.out 0
   have hs9:w7.cell? ⟨gb131,1,none⟩ = some (.int .i64 0):=(blk_cell BK131.out 1).trans rfl
   have hfs9:=blk_frozen BK131.out 1
   refine skip_ (w1:=?_) (by rfl) rfl ?_ ?_
   rotate_left
   ·go_simp
    rfl
   refine hK.out _ _ trivial (fun hHeld=>?_)
   clear hK K
   refine done_ (done_of HT_.out (by kernel_rfl)) ?_
   try go_wp2
   refine bodyPost_ret (results_cell_row rfl _ _ gb131 59 #[.int .i64 (wrap64 (Int.tdiv (Int.tmod (wrap64 ((Int.tmod a0 a1) + a1)) a1) t132)),.int .i64 (wrap64 (Int.tdiv a1 t132))] (0,0) _ rfl (by (with_reducible repeat (first|apply yN|apply yD|apply yA));refine blk_put (cs:=#[.int .i64 (wrap64 (Int.tdiv (Int.tmod (wrap64 ((Int.tmod a0 a1) + a1)) a1) t132)),.int .i64 0]) ?_ 1 _ rfl;(with_reducible repeat (first|apply yN|apply yD|apply yA));refine blk_put (cs:=#[.int .i64 0,.int .i64 0]) ?_ 0 _ rfl;(with_reducible repeat (first|apply yN|apply yD|apply yA));exact BK131.out) Try.underlying59 rfl (by kernel_rfl)) rfl ?_
   exact ⟨by first|rfl|(simp [errW_none,errW_some] <;> rfl)|(simp [*,errW_none,errW_some] <;> rfl),by repeat (first|(with_reducible first|exact HB.out|apply zA|apply zN|apply zD|refine zS ?_ GE131.out)|exact HB.out)⟩
def impl_within.f (a0:Int) (a1:Int) (a2:Int):Option (Bool):=if a1 ≤ a0 then (some (decide (a0 ≤ a2))) else (some false)
set_option maxHeartbeats 8000000 in
set_option maxRecDepth 100000 in
theorem impl_within.calls (a0:Int) (a1:Int) (a2:Int) (r:Bool) (w:World) (h:impl_within.f a0 a1 a2 = some r) :
  Calls Try.prog 20 #[.int .i64 a0,.int .i64 a1,.int .i64 a2] w fun e w'=>e = .returned (.bool r) ∧ Drawn0 w w':=by
 have H:(if a1 ≤ a0 then (some (decide (a0 ≤ a2))) else (some false)) = some r:=h
 clear h
 by_cases c4:a1 ≤ a0
 ·rw [if_pos c4] at H
  have c4b0:decide (a1 ≤ a0) = true:=decide_eq_true c4
  clear c4
  obtain rfl:=Option.some.inj H
  go_enter Try.func20,Try.ntmps20
  go_wp2
  go_ret
  exact ⟨by first|rfl|(simp;done)|(simp [*];done),by repeat (first|exact Drawn0.refl _|apply Drawn0.step)⟩
 ·rw [if_neg c4] at H
  have c4b0:decide (a1 ≤ a0) = false:=decide_eq_false c4
  clear c4
  obtain rfl:=Option.some.inj H
  go_enter Try.func20,Try.ntmps20
  go_wp2
  go_ret
  exact ⟨by first|rfl|(simp;done)|(simp [*];done),by repeat (first|exact Drawn0.refl _|apply Drawn0.step)⟩
def spec_l01In.f (a0:Int) (a1:Int) (a2:Int):Option (Bool):=if a0 ≥ a1 then (some (decide (a0 ≤ a2))) else (some false)
set_option maxHeartbeats 8000000 in
set_option maxRecDepth 100000 in
theorem spec_l01In.calls (a0:Int) (a1:Int) (a2:Int) (r:Bool) (w:World) (h:spec_l01In.f a0 a1 a2 = some r) :
  Calls Try.prog 23 #[.int .i64 a0,.int .i64 a1,.int .i64 a2] w fun e w'=>e = .returned (.bool r) ∧ Drawn0 w w':=by
 have H:(if a0 ≥ a1 then (some (decide (a0 ≤ a2))) else (some false)) = some r:=h
 clear h
 by_cases c4:a0 ≥ a1
 ·rw [if_pos c4] at H
  have c4b0:decide (a1 ≤ a0) = true:=decide_eq_true c4
  clear c4
  obtain rfl:=Option.some.inj H
  go_enter Try.func23,Try.ntmps23
  go_wp2
  go_ret
  exact ⟨by first|rfl|(simp;done)|(simp [*];done),by repeat (first|exact Drawn0.refl _|apply Drawn0.step)⟩
 ·rw [if_neg c4] at H
  have c4b0:decide (a1 ≤ a0) = false:=decide_eq_false c4
  clear c4
  obtain rfl:=Option.some.inj H
  go_enter Try.func23,Try.ntmps23
  go_wp2
  go_ret
  exact ⟨by first|rfl|(simp;done)|(simp [*];done),by repeat (first|exact Drawn0.refl _|apply Drawn0.step)⟩
def spec_l01Draw.f (k:Nat) (s0_0:List Int) (s0_1:Int) (s0_2:Int):Option (Int × Int × Int × Int):=(spec_l01Pick.f s0_0 s0_1 s0_2 (([1,3,7,15,31,63,5,9,11,13,17,21]:List Int))).bind fun bt137=>((spec_l01Next.f s0_0 bt137.2.1 bt137.2.2 5).bind fun bt140=>(if bt140.1 = 0 then ((spec_l01Pick.f s0_0 bt140.2.1 bt140.2.2 (([2,4,8]:List Int))).bind fun bt146=>((spec_l01Next.f s0_0 bt146.2.1 bt146.2.2 (wrap64 (bt137.1 * bt146.1))).bind fun bt149=>((spec_l01Of.f k bt149.1 (wrap64 (bt137.1 * bt146.1))).bind fun bt152=>(some (bt152.1,bt152.2,bt149.2.1,bt149.2.2))))) else (if bt140.1 = 1 then ((spec_l01Next.f s0_0 bt140.2.1 bt140.2.2 (wrap64 (bt137.1 * 2))).bind fun bt154=>((spec_l01Of.f k bt154.1 (wrap64 (bt137.1 * 2))).bind fun bt157=>(some (bt157.1,bt157.2,bt154.2.1,bt154.2.2)))) else ((spec_l01Next.f s0_0 bt140.2.1 bt140.2.2 bt137.1).bind fun bt159=>((spec_l01Of.f k bt159.1 bt137.1).bind fun bt162=>(some (bt162.1,bt162.2,bt159.2.1,bt159.2.2)))))))
theorem spec_l01Draw.mono:∀ a0 a1 a2 k,LeO (spec_l01Draw.f k a0 a1 a2) (spec_l01Draw.f (k + 1) a0 a1 a2):=by
 intro a0 a1 a2 k
 unfold spec_l01Draw.f
 repeat' first
   | (with_reducible exact spec_l01Of.mono _ _ _)
   | (with_reducible exact LeO.refl _)
   | (with_reducible exact LeO.none _)
   | (with_reducible refine LeO.ite ?_ ?_)
   | (with_reducible refine LeO.bind ?_ (fun _=>?_))
   | exact spec_l01Of.mono _ _ _
   | exact LeO.none _
   | refine LeO.ite ?_ ?_
   | refine LeO.bind ?_ (fun _=>?_)
set_option maxHeartbeats 8000000 in
set_option maxRecDepth 100000 in
theorem spec_l01Draw.calls (k:Nat) (g:Nat) (s0_0:List Int) (s0_1:Int) (s0_2:Int) (r1:Int) (r2:Int) (r3:Int) (r4:Int) (w0 w:World) (hI:IsS57 w0 w g s0_0 s0_1 s0_2) (hB:Below w0.heap.size w0 w) (h:spec_l01Draw.f k s0_0 s0_1 s0_2 = some (r1,r2,r3,r4)) :
  Calls Try.prog 33 #[.pointer (some ⟨g,0,none⟩)] w fun e w'=>e = .returned (.agg #[.int .i64 r1,.int .i64 r2]) ∧ IsS57 w0 w' g s0_0 r3 r4 ∧ Below w0.heap.size w0 w' ∧ KeepBut w w' g none:=by
 have hu59:=Try.underlying59
 have HI0:=aM hI
 have HK:=aM (KeepBut.refl w g none)
 have HL:=aM hB.size
 clear hI
 have HW0:=aM hB.size
 have HB:=aM hB
 clear hB
 have H:((spec_l01Pick.f s0_0 s0_1 s0_2 (([1,3,7,15,31,63,5,9,11,13,17,21]:List Int))).bind fun bt137=>((spec_l01Next.f s0_0 bt137.2.1 bt137.2.2 5).bind fun bt140=>(if bt140.1 = 0 then ((spec_l01Pick.f s0_0 bt140.2.1 bt140.2.2 (([2,4,8]:List Int))).bind fun bt146=>((spec_l01Next.f s0_0 bt146.2.1 bt146.2.2 (wrap64 (bt137.1 * bt146.1))).bind fun bt149=>((spec_l01Of.f k bt149.1 (wrap64 (bt137.1 * bt146.1))).bind fun bt152=>(some (bt152.1,bt152.2,bt149.2.1,bt149.2.2))))) else (if bt140.1 = 1 then ((spec_l01Next.f s0_0 bt140.2.1 bt140.2.2 (wrap64 (bt137.1 * 2))).bind fun bt154=>((spec_l01Of.f k bt154.1 (wrap64 (bt137.1 * 2))).bind fun bt157=>(some (bt157.1,bt157.2,bt154.2.1,bt154.2.2)))) else ((spec_l01Next.f s0_0 bt140.2.1 bt140.2.2 bt137.1).bind fun bt159=>((spec_l01Of.f k bt159.1 bt137.1).bind fun bt162=>(some (bt162.1,bt162.2,bt159.2.1,bt159.2.2)))))))) = some (r1,r2,r3,r4):=h
 clear h
 obtain ⟨y134,hy134⟩:∃ y_:List Int,y_ = (([1,3,7,15,31,63,5,9,11,13,17,21]:List Int)):=⟨_,rfl⟩
 replace H:((spec_l01Pick.f s0_0 s0_1 s0_2 y134).bind fun bt137=>((spec_l01Next.f s0_0 bt137.2.1 bt137.2.2 5).bind fun bt140=>(if bt140.1 = 0 then ((spec_l01Pick.f s0_0 bt140.2.1 bt140.2.2 (([2,4,8]:List Int))).bind fun bt146=>((spec_l01Next.f s0_0 bt146.2.1 bt146.2.2 (wrap64 (bt137.1 * bt146.1))).bind fun bt149=>((spec_l01Of.f k bt149.1 (wrap64 (bt137.1 * bt146.1))).bind fun bt152=>(some (bt152.1,bt152.2,bt149.2.1,bt149.2.2))))) else (if bt140.1 = 1 then ((spec_l01Next.f s0_0 bt140.2.1 bt140.2.2 (wrap64 (bt137.1 * 2))).bind fun bt154=>((spec_l01Of.f k bt154.1 (wrap64 (bt137.1 * 2))).bind fun bt157=>(some (bt157.1,bt157.2,bt154.2.1,bt154.2.2)))) else ((spec_l01Next.f s0_0 bt140.2.1 bt140.2.2 bt137.1).bind fun bt159=>((spec_l01Of.f k bt159.1 bt137.1).bind fun bt162=>(some (bt162.1,bt162.2,bt159.2.1,bt159.2.2)))))))) = some (r1,r2,r3,r4):=by first|(rw [hy134];with_reducible exact H)|(have H2_:=(Option.bind_some _ _).symm.trans H;rw [hy134];with_reducible exact H2_)|(have H2_:=(Option.bind_some _ _).symm.trans H;with_reducible exact H2_)|with_reducible exact H|(rw [hy134];exact H)|exact H
 have Ny134:=aM hy134
 clear hy134
 replace H:=Option.bind_eq_some_iff.mp H
 obtain ⟨⟨t137,t138,t139⟩,A20,H⟩:=H
 replace H:((spec_l01Next.f s0_0 t138 t139 5).bind fun bt140=>(if bt140.1 = 0 then ((spec_l01Pick.f s0_0 bt140.2.1 bt140.2.2 (([2,4,8]:List Int))).bind fun bt146=>((spec_l01Next.f s0_0 bt146.2.1 bt146.2.2 (wrap64 (t137 * bt146.1))).bind fun bt149=>((spec_l01Of.f k bt149.1 (wrap64 (t137 * bt146.1))).bind fun bt152=>(some (bt152.1,bt152.2,bt149.2.1,bt149.2.2))))) else (if bt140.1 = 1 then ((spec_l01Next.f s0_0 bt140.2.1 bt140.2.2 (wrap64 (t137 * 2))).bind fun bt154=>((spec_l01Of.f k bt154.1 (wrap64 (t137 * 2))).bind fun bt157=>(some (bt157.1,bt157.2,bt154.2.1,bt154.2.2)))) else ((spec_l01Next.f s0_0 bt140.2.1 bt140.2.2 t137).bind fun bt159=>((spec_l01Of.f k bt159.1 t137).bind fun bt162=>(some (bt162.1,bt162.2,bt159.2.1,bt159.2.2))))))) = some (r1,r2,r3,r4):=H
 have A2:=aM A20
 clear A20
 replace H:=Option.bind_eq_some_iff.mp H
 obtain ⟨⟨t140,t141,t142⟩,A30,H⟩:=H
 replace H:(if t140 = 0 then ((spec_l01Pick.f s0_0 t141 t142 (([2,4,8]:List Int))).bind fun bt146=>((spec_l01Next.f s0_0 bt146.2.1 bt146.2.2 (wrap64 (t137 * bt146.1))).bind fun bt149=>((spec_l01Of.f k bt149.1 (wrap64 (t137 * bt146.1))).bind fun bt152=>(some (bt152.1,bt152.2,bt149.2.1,bt149.2.2))))) else (if t140 = 1 then ((spec_l01Next.f s0_0 t141 t142 (wrap64 (t137 * 2))).bind fun bt154=>((spec_l01Of.f k bt154.1 (wrap64 (t137 * 2))).bind fun bt157=>(some (bt157.1,bt157.2,bt154.2.1,bt154.2.2)))) else ((spec_l01Next.f s0_0 t141 t142 t137).bind fun bt159=>((spec_l01Of.f k bt159.1 t137).bind fun bt162=>(some (bt162.1,bt162.2,bt159.2.1,bt159.2.2)))))) = some (r1,r2,r3,r4):=H
 have A3:=aM A30
 clear A30
 by_cases c4:t140 = 0
 ·rw [if_pos c4] at H
  have c4b0:(t140 == 0) = true:=beq_iff_eq.mpr c4
  have c4b1:(t140 != 0) = false:=bne_eq_false_iff_eq.mpr c4
  clear c4
  obtain ⟨y143,hy143⟩:∃ y_:List Int,y_ = (([2,4,8]:List Int)):=⟨_,rfl⟩
  replace H:((spec_l01Pick.f s0_0 t141 t142 y143).bind fun bt146=>((spec_l01Next.f s0_0 bt146.2.1 bt146.2.2 (wrap64 (t137 * bt146.1))).bind fun bt149=>((spec_l01Of.f k bt149.1 (wrap64 (t137 * bt146.1))).bind fun bt152=>(some (bt152.1,bt152.2,bt149.2.1,bt149.2.2))))) = some (r1,r2,r3,r4):=by first|(rw [hy143];with_reducible exact H)|(have H2_:=(Option.bind_some _ _).symm.trans H;rw [hy143];with_reducible exact H2_)|(have H2_:=(Option.bind_some _ _).symm.trans H;with_reducible exact H2_)|with_reducible exact H|(rw [hy143];exact H)|exact H
  have Ny143:=aM hy143
  clear hy143
  replace H:=Option.bind_eq_some_iff.mp H
  obtain ⟨⟨t146,t147,t148⟩,A50,H⟩:=H
  replace H:((spec_l01Next.f s0_0 t147 t148 (wrap64 (t137 * t146))).bind fun bt149=>((spec_l01Of.f k bt149.1 (wrap64 (t137 * t146))).bind fun bt152=>(some (bt152.1,bt152.2,bt149.2.1,bt149.2.2)))) = some (r1,r2,r3,r4):=H
  have A5:=aM A50
  clear A50
  replace H:=Option.bind_eq_some_iff.mp H
  obtain ⟨⟨t149,t150,t151⟩,A60,H⟩:=H
  replace H:((spec_l01Of.f k t149 (wrap64 (t137 * t146))).bind fun bt152=>(some (bt152.1,bt152.2,t150,t151))) = some (r1,r2,r3,r4):=H
  have A6:=aM A60
  clear A60
  replace H:=Option.bind_eq_some_iff.mp H
  obtain ⟨⟨t152,t153⟩,A70,H⟩:=H
  replace H:(some (t152,t153,t150,t151)) = some (r1,r2,r3,r4):=H
  have A7:=aM A70
  clear A70
  simp only [Option.some.injEq,Prod.mk.injEq] at H
  obtain ⟨rfl,rfl,rfl,rfl⟩:=H
  go_enter Try.func33,Try.ntmps33
  go_wp2_with (first|((with_reducible refine gate_dst (N:=2) rfl ?_);refine box_event ?hg (N:=2) ?hd (cs:=#[.int .i64 0,.int .i64 0]) (t:=59) ?hr ?_;(case hd=>rfl);(case hg=>rfl);(case hr=>first|(go_simp;done)|(go_simp;rfl));intro gb133 hg w8 hbox hb;have n0_:=aM (IsS57.below HI0.out hb);have n1_:=aM (KeepBut.trans HK.out (KeepBut.of_below hb g none) (.inl rfl));have n2_:=aM (below_step HB.out hb);have n3_:=aM (hbox);have n4_:=aM ((by rw [hg];exact (keep_size (w:=w) (g:=g) (row:=none) HK.out):w.heap.size ≤ gb133));have n5_:=aM ((Nat.le_trans HW0.out (by rw [hg];exact (keep_size (w:=w) (g:=g) (row:=none) HK.out):w.heap.size ≤ gb133):w0.heap.size ≤ gb133));have n6_:=aM ((by rw [hg];exact Nat.ne_of_lt (IsS57.lt (show IsS57 w0 _ g s0_0 s0_1 s0_2 from HI0.out)):g ≠ gb133));have n7_:=aM ((by rw [hg];exact Nat.ne_of_gt (IsS57.lt (show IsS57 w0 _ g s0_0 s0_1 s0_2 from HI0.out)):gb133 ≠ g));clear HI0;clear HK;clear HB;have HI0:=n0_;have HK:=n1_;have HB:=n2_;have BK133:=n3_;have GW133:=n4_;have GE133:=n5_;have NB0_133:=n6_;have NB133_0:=n7_;clear n0_ n1_ n2_ n3_ n4_ n5_ n6_ n7_;clear hb hbox hg)|((with_reducible refine gate_dst (N:=5) rfl ?_);refine Kd.R_lit (Kd.int .i64) _ 2 ?hg (N:=5) ?hd (xs:=([1,3,7,15,31,63,5,9,11,13,17,21]:List Int)) (inner:=[.int .i64 1,.int .i64 3,.int .i64 7,.int .i64 15,.int .i64 31,.int .i64 63,.int .i64 5,.int .i64 9,.int .i64 11,.int .i64 13,.int .i64 17,.int .i64 21]) (ok:=fun _=>True) (okp:=fun _=>True) ?hr ?hp (fun _ hk=>hk) trivial (Below.refl _ _) (Nat.le_refl _) (by simp) ?_;(case hd=>rfl);(case hg=>rfl);(case hr=>first|(go_simp;done)|(go_simp;rfl));(case hp=>exact (Reps.one (show Kd.M (Kd.int .i64) _ _ _ 1 [.int .i64 1] from rfl) (Reps.one (show Kd.M (Kd.int .i64) _ _ _ 3 [.int .i64 3] from rfl) (Reps.one (show Kd.M (Kd.int .i64) _ _ _ 7 [.int .i64 7] from rfl) (Reps.one (show Kd.M (Kd.int .i64) _ _ _ 15 [.int .i64 15] from rfl) (Reps.one (show Kd.M (Kd.int .i64) _ _ _ 31 [.int .i64 31] from rfl) (Reps.one (show Kd.M (Kd.int .i64) _ _ _ 63 [.int .i64 63] from rfl) (Reps.one (show Kd.M (Kd.int .i64) _ _ _ 5 [.int .i64 5] from rfl) (Reps.one (show Kd.M (Kd.int .i64) _ _ _ 9 [.int .i64 9] from rfl) (Reps.one (show Kd.M (Kd.int .i64) _ _ _ 11 [.int .i64 11] from rfl) (Reps.one (show Kd.M (Kd.int .i64) _ _ _ 13 [.int .i64 13] from rfl) (Reps.one (show Kd.M (Kd.int .i64) _ _ _ 17 [.int .i64 17] from rfl) (Reps.one (show Kd.M (Kd.int .i64) _ _ _ 21 [.int .i64 21] from rfl) (Reps.none _ _))))))))))))));intro v135 w9 ho10 hb hg_ hnew_;clear hg_ hnew_;(first|rw [← Ny134.out] at ho10|(simp only [Int.reduceToNat] at ho10;rw [← Ny134.out] at ho10));have n0_:=aM (Kd.R_lower ho10 (keep_size (w:=w) (g:=g) (row:=none) HK.out));have n1_:=aM (IsS57.below HI0.out hb);have n2_:=aM (blk_below (g:=gb133) (o:=.cells #[.int .i64 0,.int .i64 0] 59 (0,0)) BK133.out hb);have n3_:=aM (KeepBut.trans HK.out (KeepBut.of_below hb g none) (.inl rfl));have n4_:=aM (below_step HB.out hb);clear HI0;clear BK133;clear HK;clear HB;have HO136:=n0_;have HI0:=n1_;have BK133:=n2_;have HK:=n3_;have HB:=n4_;clear n0_ n1_ n2_ n3_ n4_;clear hb ho10;obtain ⟨Ao11,co11,eo11⟩:=Kd.R_slice HO136.out;subst eo11)|((with_reducible refine gate_callee (f:=26) rfl ?_);refine goesL_ (some 6) rfl rfl Try.func26 (by kernel_rfl) rfl #[.pointer (some ⟨g,0,none⟩),.slice Ao11 y134.length co11] rfl (by (try simp only [sM,sC,sN]);first|done|rfl|(simp only [List.length_drop,List.length_take];rfl)) ?_;(with_reducible refine (spec_l01Pick.calls g s0_0 s0_1 s0_2 _ _ y134 t137 t138 t139 w0 _ ?side1 ?side2 ?side3 ?side4 ?side5 A2.out).mono ?_);(case side1=>repeat (first|(with_reducible first|exact HI0.out|apply IsS57.alloc|apply IsS57.drewN|apply IsS57.drew|apply IsS57.set_1|apply IsS57.set_2|refine IsS57.far ?_ NB0_133.out _)|exact HI0.out));(case side2=>repeat (first|(with_reducible first|exact HB.out|apply zA|apply zN|apply zD|refine zS ?_ (IsS57.ge HI0.out)|refine zS ?_ GE133.out)|exact HB.out));(case side3=>repeat (first|exact (Kd.R_reads' HO136.out).2.2|(with_reducible refine cA ?_ _)|(with_reducible refine cN ?_ _)|(with_reducible refine cD ?_)));(case side4=>exact (Kd.R_reads' HO136.out).2.1);(case side5=>exact far_slice (IsS57.own_ne HI0.out HO136.out (by decide)));rintro e w12 ⟨rfl,hi,hb,hk⟩;refine ⟨_,rfl,?_⟩;replace BK133:=aM (KeepBut.blk hk (g':=gb133) (o:=.cells #[.int .i64 0,.int .i64 0] 59 (0,0)) BK133.out NB133_0.out (by simp));replace HO136:=aM (Kd.R_mono (Kd.R_keep (IsS57.apart (show IsS57 w0 _ g s0_0 s0_1 s0_2 from HI0.out) HO136.out (by decide)) hk (fun _ h=>h.2)) (fun _ h=>h.1));replace HK:=aM (KeepBut.trans HK.out hk (.inl rfl));replace HB:=aM (hb);replace HI0:=aM (hi);(try clear hb);(try clear hb2);(try clear hk);(try clear hi))|((with_reducible refine gate_callee (f:=18) rfl ?_);refine goesL_ (some 8) rfl rfl Try.func18 (by kernel_rfl) rfl #[.pointer (some ⟨g,0,none⟩),.int .i64 5] rfl (by (try simp only [sM,sC,sN]);first|done|rfl|(simp only [List.length_drop,List.length_take];rfl)) ?_;(with_reducible refine (spec_l01Next.calls g s0_0 t138 t139 5 t140 t141 t142 w0 _ ?side1 ?side2 A3.out).mono ?_);(case side1=>repeat (first|(with_reducible first|exact HI0.out|apply IsS57.alloc|apply IsS57.drewN|apply IsS57.drew|apply IsS57.set_1|apply IsS57.set_2|refine IsS57.far ?_ NB0_133.out _)|exact HI0.out));(case side2=>repeat (first|(with_reducible first|exact HB.out|apply zA|apply zN|apply zD|refine zS ?_ (IsS57.ge HI0.out)|refine zS ?_ GE133.out)|exact HB.out));rintro e w13 ⟨rfl,hi,hb,hk⟩;refine ⟨_,rfl,?_⟩;replace BK133:=aM (KeepBut.blk hk (g':=gb133) (o:=.cells #[.int .i64 0,.int .i64 0] 59 (0,0)) BK133.out NB133_0.out (by simp));replace HO136:=aM (Kd.R_mono (Kd.R_keep (IsS57.apart (show IsS57 w0 _ g s0_0 t138 t139 from HI0.out) HO136.out (by decide)) hk (fun _ h=>h.2)) (fun _ h=>h.1));replace HK:=aM (KeepBut.trans HK.out hk (.inl rfl));replace HB:=aM (hb);replace HI0:=aM (hi);(try clear hb);(try clear hb2);(try clear hk);(try clear hi))|((with_reducible refine gate_dst (N:=13) rfl ?_);refine Kd.R_lit (Kd.int .i64) _ 2 ?hg (N:=13) ?hd (xs:=([2,4,8]:List Int)) (inner:=[.int .i64 2,.int .i64 4,.int .i64 8]) (ok:=fun _=>True) (okp:=fun _=>True) ?hr ?hp (fun _ hk=>hk) trivial (Below.refl _ _) (Nat.le_refl _) (by simp) ?_;(case hd=>rfl);(case hg=>rfl);(case hr=>first|(go_simp;done)|(go_simp;rfl));(case hp=>exact (Reps.one (show Kd.M (Kd.int .i64) _ _ _ 2 [.int .i64 2] from rfl) (Reps.one (show Kd.M (Kd.int .i64) _ _ _ 4 [.int .i64 4] from rfl) (Reps.one (show Kd.M (Kd.int .i64) _ _ _ 8 [.int .i64 8] from rfl) (Reps.none _ _)))));intro v144 w14 ho15 hb hg_ hnew_;clear hg_ hnew_;(first|rw [← Ny143.out] at ho15|(simp only [Int.reduceToNat] at ho15;rw [← Ny143.out] at ho15));have n0_:=aM (Kd.R_elder' HO136.out (Kd.R_base ho15) hb);have n1_:=aM (Kd.R_lower (Kd.R_new' ho15 (Kd.R_lt HO136.out)) (keep_size (w:=w) (g:=g) (row:=none) HK.out));have n2_:=aM (IsS57.below HI0.out hb);have n3_:=aM (blk_below (g:=gb133) (o:=.cells #[.int .i64 0,.int .i64 0] 59 (0,0)) BK133.out hb);have n4_:=aM (KeepBut.trans HK.out (KeepBut.of_below hb g none) (.inl rfl));have n5_:=aM (below_step HB.out hb);clear HO136;clear HI0;clear BK133;clear HK;clear HB;have HO136:=n0_;have HO145:=n1_;have HI0:=n2_;have BK133:=n3_;have HK:=n4_;have HB:=n5_;clear n0_ n1_ n2_ n3_ n4_ n5_;clear hb ho15;obtain ⟨Ao16,co16,eo16⟩:=Kd.R_slice HO145.out;subst eo16)|((with_reducible refine gate_callee (f:=26) rfl ?_);refine goesL_ (some 14) rfl rfl Try.func26 (by kernel_rfl) rfl #[.pointer (some ⟨g,0,none⟩),.slice Ao16 y143.length co16] rfl (by (try simp only [sM,sC,sN]);first|done|rfl|(simp only [List.length_drop,List.length_take];rfl)) ?_;(with_reducible refine (spec_l01Pick.calls g s0_0 t141 t142 _ _ y143 t146 t147 t148 w0 _ ?side1 ?side2 ?side3 ?side4 ?side5 A5.out).mono ?_);(case side1=>repeat (first|(with_reducible first|exact HI0.out|apply IsS57.alloc|apply IsS57.drewN|apply IsS57.drew|apply IsS57.set_1|apply IsS57.set_2|refine IsS57.far ?_ NB0_133.out _)|exact HI0.out));(case side2=>repeat (first|(with_reducible first|exact HB.out|apply zA|apply zN|apply zD|refine zS ?_ (IsS57.ge HI0.out)|refine zS ?_ GE133.out)|exact HB.out));(case side3=>repeat (first|exact (Kd.R_reads' HO145.out).2.2|(with_reducible refine cA ?_ _)|(with_reducible refine cN ?_ _)|(with_reducible refine cD ?_)));(case side4=>exact (Kd.R_reads' HO145.out).2.1);(case side5=>exact far_slice (IsS57.own_ne HI0.out HO145.out (by decide)));rintro e w17 ⟨rfl,hi,hb,hk⟩;refine ⟨_,rfl,?_⟩;replace BK133:=aM (KeepBut.blk hk (g':=gb133) (o:=.cells #[.int .i64 0,.int .i64 0] 59 (0,0)) BK133.out NB133_0.out (by simp));replace HO136:=aM (Kd.R_mono (Kd.R_keep (IsS57.apart (show IsS57 w0 _ g s0_0 t141 t142 from HI0.out) HO136.out (by decide)) hk (fun _ h=>h.2)) (fun _ h=>h.1));replace HO145:=aM (Kd.R_mono (Kd.R_keep (IsS57.apart (show IsS57 w0 _ g s0_0 t141 t142 from HI0.out) HO145.out (by decide)) hk (fun _ h=>h.2)) (fun _ h=>h.1));replace HK:=aM (KeepBut.trans HK.out hk (.inl rfl));replace HB:=aM (hb);replace HI0:=aM (hi);(try clear hb);(try clear hb2);(try clear hk);(try clear hi))|((with_reducible refine gate_callee (f:=18) rfl ?_);refine goesL_ (some 22) rfl rfl Try.func18 (by kernel_rfl) rfl #[.pointer (some ⟨g,0,none⟩),.int .i64 (wrap64 (t137 * t146))] rfl (by (try simp only [sM,sC,sN]);first|done|rfl|(simp only [List.length_drop,List.length_take];rfl)) ?_;(with_reducible refine (spec_l01Next.calls g s0_0 t147 t148 (wrap64 (t137 * t146)) t149 t150 t151 w0 _ ?side1 ?side2 A6.out).mono ?_);(case side1=>repeat (first|(with_reducible first|exact HI0.out|apply IsS57.alloc|apply IsS57.drewN|apply IsS57.drew|apply IsS57.set_1|apply IsS57.set_2|refine IsS57.far ?_ NB0_133.out _)|exact HI0.out));(case side2=>repeat (first|(with_reducible first|exact HB.out|apply zA|apply zN|apply zD|refine zS ?_ (IsS57.ge HI0.out)|refine zS ?_ GE133.out)|exact HB.out));rintro e w18 ⟨rfl,hi,hb,hk⟩;refine ⟨_,rfl,?_⟩;replace BK133:=aM (KeepBut.blk hk (g':=gb133) (o:=.cells #[.int .i64 0,.int .i64 0] 59 (0,0)) BK133.out NB133_0.out (by simp));replace HO136:=aM (Kd.R_mono (Kd.R_keep (IsS57.apart (show IsS57 w0 _ g s0_0 t147 t148 from HI0.out) HO136.out (by decide)) hk (fun _ h=>h.2)) (fun _ h=>h.1));replace HO145:=aM (Kd.R_mono (Kd.R_keep (IsS57.apart (show IsS57 w0 _ g s0_0 t147 t148 from HI0.out) HO145.out (by decide)) hk (fun _ h=>h.2)) (fun _ h=>h.1));replace HK:=aM (KeepBut.trans HK.out hk (.inl rfl));replace HB:=aM (hb);replace HI0:=aM (hi);(try clear hb);(try clear hb2);(try clear hk);(try clear hi))|((with_reducible refine gate_callee (f:=44) rfl ?_);refine goesL_ (some 24) rfl rfl Try.func44 (by kernel_rfl) rfl #[.int .i64 t149,.int .i64 (wrap64 (t137 * t146))] rfl (by (try simp only [sM,sC,sN]);first|done|rfl|(simp only [List.length_drop,List.length_take];rfl)) ?_;(with_reducible refine (spec_l01Of.calls k t149 (wrap64 (t137 * t146)) t152 t153 _ A7.out).mono ?_);rintro e w19 ⟨rfl,hb⟩;refine ⟨_,rfl,?_⟩;have n0_:=aM (Kd.R_below HO136.out hb);have n1_:=aM (Kd.R_below HO145.out hb);have n2_:=aM (IsS57.below HI0.out hb);have n3_:=aM (blk_below (g:=gb133) (o:=.cells #[.int .i64 0,.int .i64 0] 59 (0,0)) BK133.out hb);have n4_:=aM (KeepBut.trans HK.out (KeepBut.of_below hb g none) (.inl rfl));have n5_:=aM (below_step HB.out hb);clear HO136;clear HO145;clear HI0;clear BK133;clear HK;clear HB;have HO136:=n0_;have HO145:=n1_;have HI0:=n2_;have BK133:=n3_;have HK:=n4_;have HB:=n5_;clear n0_ n1_ n2_ n3_ n4_ n5_;(try clear hb);(try clear hb2);(try clear hk);(try clear hi);have hnb20:=NB133_0.out;have hnc20:=NB0_133.out;have hcz21_0:w19.cell? ⟨gb133,0,none⟩ = some (.int .i64 0):=(blk_cell BK133.out 0).trans rfl;have hcz21_1:w19.cell? ⟨gb133,1,none⟩ = some (.int .i64 0):=(blk_cell BK133.out 1).trans rfl;have hfz21_0:=blk_frozen BK133.out 0;have hfz21_1:=blk_frozen BK133.out 1))
  refine bodyPost_ret (results_cell_row rfl _ _ gb133 59 #[.int .i64 t152,.int .i64 t153] (0,0) _ rfl (by (with_reducible repeat (first|apply yN|apply yD|apply yA));refine blk_put (cs:=#[.int .i64 t152,.int .i64 0]) ?_ 1 _ rfl;(with_reducible repeat (first|apply yN|apply yD|apply yA));refine blk_put (cs:=#[.int .i64 0,.int .i64 0]) ?_ 0 _ rfl;(with_reducible repeat (first|apply yN|apply yD|apply yA));exact BK133.out) Try.underlying59 rfl (by kernel_rfl)) rfl ?_
  exact ⟨by first|rfl|(simp [errW_none,errW_some] <;> rfl)|(simp [*,errW_none,errW_some] <;> rfl),by repeat (first|(with_reducible first|exact HI0.out|apply IsS57.alloc|apply IsS57.drewN|apply IsS57.drew|apply IsS57.set_1|apply IsS57.set_2|refine IsS57.far ?_ NB0_133.out _)|exact HI0.out),by repeat (first|(with_reducible first|exact HB.out|apply zA|apply zN|apply zD|refine zS ?_ (IsS57.ge HI0.out)|refine zS ?_ GE133.out)|exact HB.out),by repeat (first|(with_reducible first|exact HK.out|apply kS|apply kN|apply kD|apply kA|refine kF ?_ GW133.out _)|exact HK.out)⟩
 ·rw [if_neg c4] at H
  have c4b0:(t140 == 0) = false:=beq_eq_false_iff_ne.mpr c4
  have c4b1:(t140 != 0) = true:=bne_iff_ne.mpr c4
  by_cases c22:t140 = 1
  ·rw [if_pos c22] at H
   have c22b0:(t140 == 1) = true:=beq_iff_eq.mpr c22
   have c22b1:(t140 != 1) = false:=bne_eq_false_iff_eq.mpr c22
   clear c22
   replace H:=Option.bind_eq_some_iff.mp H
   obtain ⟨⟨t154,t155,t156⟩,A230,H⟩:=H
   replace H:((spec_l01Of.f k t154 (wrap64 (t137 * 2))).bind fun bt157=>(some (bt157.1,bt157.2,t155,t156))) = some (r1,r2,r3,r4):=H
   have A23:=aM A230
   clear A230
   replace H:=Option.bind_eq_some_iff.mp H
   obtain ⟨⟨t157,t158⟩,A240,H⟩:=H
   replace H:(some (t157,t158,t155,t156)) = some (r1,r2,r3,r4):=H
   have A24:=aM A240
   clear A240
   simp only [Option.some.injEq,Prod.mk.injEq] at H
   obtain ⟨rfl,rfl,rfl,rfl⟩:=H
   go_enter Try.func33,Try.ntmps33
   go_wp2_with (first|((with_reducible refine gate_dst (N:=2) rfl ?_);refine box_event ?hg (N:=2) ?hd (cs:=#[.int .i64 0,.int .i64 0]) (t:=59) ?hr ?_;(case hd=>rfl);(case hg=>rfl);(case hr=>first|(go_simp;done)|(go_simp;rfl));intro gb133 hg w25 hbox hb;have n0_:=aM (IsS57.below HI0.out hb);have n1_:=aM (KeepBut.trans HK.out (KeepBut.of_below hb g none) (.inl rfl));have n2_:=aM (below_step HB.out hb);have n3_:=aM (hbox);have n4_:=aM ((by rw [hg];exact (keep_size (w:=w) (g:=g) (row:=none) HK.out):w.heap.size ≤ gb133));have n5_:=aM ((Nat.le_trans HW0.out (by rw [hg];exact (keep_size (w:=w) (g:=g) (row:=none) HK.out):w.heap.size ≤ gb133):w0.heap.size ≤ gb133));have n6_:=aM ((by rw [hg];exact Nat.ne_of_lt (IsS57.lt (show IsS57 w0 _ g s0_0 s0_1 s0_2 from HI0.out)):g ≠ gb133));have n7_:=aM ((by rw [hg];exact Nat.ne_of_gt (IsS57.lt (show IsS57 w0 _ g s0_0 s0_1 s0_2 from HI0.out)):gb133 ≠ g));clear HI0;clear HK;clear HB;have HI0:=n0_;have HK:=n1_;have HB:=n2_;have BK133:=n3_;have GW133:=n4_;have GE133:=n5_;have NB0_133:=n6_;have NB133_0:=n7_;clear n0_ n1_ n2_ n3_ n4_ n5_ n6_ n7_;clear hb hbox hg)|((with_reducible refine gate_dst (N:=5) rfl ?_);refine Kd.R_lit (Kd.int .i64) _ 2 ?hg (N:=5) ?hd (xs:=([1,3,7,15,31,63,5,9,11,13,17,21]:List Int)) (inner:=[.int .i64 1,.int .i64 3,.int .i64 7,.int .i64 15,.int .i64 31,.int .i64 63,.int .i64 5,.int .i64 9,.int .i64 11,.int .i64 13,.int .i64 17,.int .i64 21]) (ok:=fun _=>True) (okp:=fun _=>True) ?hr ?hp (fun _ hk=>hk) trivial (Below.refl _ _) (Nat.le_refl _) (by simp) ?_;(case hd=>rfl);(case hg=>rfl);(case hr=>first|(go_simp;done)|(go_simp;rfl));(case hp=>exact (Reps.one (show Kd.M (Kd.int .i64) _ _ _ 1 [.int .i64 1] from rfl) (Reps.one (show Kd.M (Kd.int .i64) _ _ _ 3 [.int .i64 3] from rfl) (Reps.one (show Kd.M (Kd.int .i64) _ _ _ 7 [.int .i64 7] from rfl) (Reps.one (show Kd.M (Kd.int .i64) _ _ _ 15 [.int .i64 15] from rfl) (Reps.one (show Kd.M (Kd.int .i64) _ _ _ 31 [.int .i64 31] from rfl) (Reps.one (show Kd.M (Kd.int .i64) _ _ _ 63 [.int .i64 63] from rfl) (Reps.one (show Kd.M (Kd.int .i64) _ _ _ 5 [.int .i64 5] from rfl) (Reps.one (show Kd.M (Kd.int .i64) _ _ _ 9 [.int .i64 9] from rfl) (Reps.one (show Kd.M (Kd.int .i64) _ _ _ 11 [.int .i64 11] from rfl) (Reps.one (show Kd.M (Kd.int .i64) _ _ _ 13 [.int .i64 13] from rfl) (Reps.one (show Kd.M (Kd.int .i64) _ _ _ 17 [.int .i64 17] from rfl) (Reps.one (show Kd.M (Kd.int .i64) _ _ _ 21 [.int .i64 21] from rfl) (Reps.none _ _))))))))))))));intro v135 w26 ho27 hb hg_ hnew_;clear hg_ hnew_;(first|rw [← Ny134.out] at ho27|(simp only [Int.reduceToNat] at ho27;rw [← Ny134.out] at ho27));have n0_:=aM (Kd.R_lower ho27 (keep_size (w:=w) (g:=g) (row:=none) HK.out));have n1_:=aM (IsS57.below HI0.out hb);have n2_:=aM (blk_below (g:=gb133) (o:=.cells #[.int .i64 0,.int .i64 0] 59 (0,0)) BK133.out hb);have n3_:=aM (KeepBut.trans HK.out (KeepBut.of_below hb g none) (.inl rfl));have n4_:=aM (below_step HB.out hb);clear HI0;clear BK133;clear HK;clear HB;have HO136:=n0_;have HI0:=n1_;have BK133:=n2_;have HK:=n3_;have HB:=n4_;clear n0_ n1_ n2_ n3_ n4_;clear hb ho27;obtain ⟨Ao28,co28,eo28⟩:=Kd.R_slice HO136.out;subst eo28)|((with_reducible refine gate_callee (f:=26) rfl ?_);refine goesL_ (some 6) rfl rfl Try.func26 (by kernel_rfl) rfl #[.pointer (some ⟨g,0,none⟩),.slice Ao28 y134.length co28] rfl (by (try simp only [sM,sC,sN]);first|done|rfl|(simp only [List.length_drop,List.length_take];rfl)) ?_;(with_reducible refine (spec_l01Pick.calls g s0_0 s0_1 s0_2 _ _ y134 t137 t138 t139 w0 _ ?side1 ?side2 ?side3 ?side4 ?side5 A2.out).mono ?_);(case side1=>repeat (first|(with_reducible first|exact HI0.out|apply IsS57.alloc|apply IsS57.drewN|apply IsS57.drew|apply IsS57.set_1|apply IsS57.set_2|refine IsS57.far ?_ NB0_133.out _)|exact HI0.out));(case side2=>repeat (first|(with_reducible first|exact HB.out|apply zA|apply zN|apply zD|refine zS ?_ (IsS57.ge HI0.out)|refine zS ?_ GE133.out)|exact HB.out));(case side3=>repeat (first|exact (Kd.R_reads' HO136.out).2.2|(with_reducible refine cA ?_ _)|(with_reducible refine cN ?_ _)|(with_reducible refine cD ?_)));(case side4=>exact (Kd.R_reads' HO136.out).2.1);(case side5=>exact far_slice (IsS57.own_ne HI0.out HO136.out (by decide)));rintro e w29 ⟨rfl,hi,hb,hk⟩;refine ⟨_,rfl,?_⟩;replace BK133:=aM (KeepBut.blk hk (g':=gb133) (o:=.cells #[.int .i64 0,.int .i64 0] 59 (0,0)) BK133.out NB133_0.out (by simp));replace HO136:=aM (Kd.R_mono (Kd.R_keep (IsS57.apart (show IsS57 w0 _ g s0_0 s0_1 s0_2 from HI0.out) HO136.out (by decide)) hk (fun _ h=>h.2)) (fun _ h=>h.1));replace HK:=aM (KeepBut.trans HK.out hk (.inl rfl));replace HB:=aM (hb);replace HI0:=aM (hi);(try clear hb);(try clear hb2);(try clear hk);(try clear hi))|((with_reducible refine gate_callee (f:=18) rfl ?_);refine goesL_ (some 8) rfl rfl Try.func18 (by kernel_rfl) rfl #[.pointer (some ⟨g,0,none⟩),.int .i64 5] rfl (by (try simp only [sM,sC,sN]);first|done|rfl|(simp only [List.length_drop,List.length_take];rfl)) ?_;(with_reducible refine (spec_l01Next.calls g s0_0 t138 t139 5 t140 t141 t142 w0 _ ?side1 ?side2 A3.out).mono ?_);(case side1=>repeat (first|(with_reducible first|exact HI0.out|apply IsS57.alloc|apply IsS57.drewN|apply IsS57.drew|apply IsS57.set_1|apply IsS57.set_2|refine IsS57.far ?_ NB0_133.out _)|exact HI0.out));(case side2=>repeat (first|(with_reducible first|exact HB.out|apply zA|apply zN|apply zD|refine zS ?_ (IsS57.ge HI0.out)|refine zS ?_ GE133.out)|exact HB.out));rintro e w30 ⟨rfl,hi,hb,hk⟩;refine ⟨_,rfl,?_⟩;replace BK133:=aM (KeepBut.blk hk (g':=gb133) (o:=.cells #[.int .i64 0,.int .i64 0] 59 (0,0)) BK133.out NB133_0.out (by simp));replace HO136:=aM (Kd.R_mono (Kd.R_keep (IsS57.apart (show IsS57 w0 _ g s0_0 t138 t139 from HI0.out) HO136.out (by decide)) hk (fun _ h=>h.2)) (fun _ h=>h.1));replace HK:=aM (KeepBut.trans HK.out hk (.inl rfl));replace HB:=aM (hb);replace HI0:=aM (hi);(try clear hb);(try clear hb2);(try clear hk);(try clear hi))|((with_reducible refine gate_callee (f:=18) rfl ?_);refine goesL_ (some 22) rfl rfl Try.func18 (by kernel_rfl) rfl #[.pointer (some ⟨g,0,none⟩),.int .i64 (wrap64 (t137 * 2))] rfl (by (try simp only [sM,sC,sN]);first|done|rfl|(simp only [List.length_drop,List.length_take];rfl)) ?_;(with_reducible refine (spec_l01Next.calls g s0_0 t141 t142 (wrap64 (t137 * 2)) t154 t155 t156 w0 _ ?side1 ?side2 A23.out).mono ?_);(case side1=>repeat (first|(with_reducible first|exact HI0.out|apply IsS57.alloc|apply IsS57.drewN|apply IsS57.drew|apply IsS57.set_1|apply IsS57.set_2|refine IsS57.far ?_ NB0_133.out _)|exact HI0.out));(case side2=>repeat (first|(with_reducible first|exact HB.out|apply zA|apply zN|apply zD|refine zS ?_ (IsS57.ge HI0.out)|refine zS ?_ GE133.out)|exact HB.out));rintro e w31 ⟨rfl,hi,hb,hk⟩;refine ⟨_,rfl,?_⟩;replace BK133:=aM (KeepBut.blk hk (g':=gb133) (o:=.cells #[.int .i64 0,.int .i64 0] 59 (0,0)) BK133.out NB133_0.out (by simp));replace HO136:=aM (Kd.R_mono (Kd.R_keep (IsS57.apart (show IsS57 w0 _ g s0_0 t141 t142 from HI0.out) HO136.out (by decide)) hk (fun _ h=>h.2)) (fun _ h=>h.1));replace HK:=aM (KeepBut.trans HK.out hk (.inl rfl));replace HB:=aM (hb);replace HI0:=aM (hi);(try clear hb);(try clear hb2);(try clear hk);(try clear hi))|((with_reducible refine gate_callee (f:=44) rfl ?_);refine goesL_ (some 24) rfl rfl Try.func44 (by kernel_rfl) rfl #[.int .i64 t154,.int .i64 (wrap64 (t137 * 2))] rfl (by (try simp only [sM,sC,sN]);first|done|rfl|(simp only [List.length_drop,List.length_take];rfl)) ?_;(with_reducible refine (spec_l01Of.calls k t154 (wrap64 (t137 * 2)) t157 t158 _ A24.out).mono ?_);rintro e w32 ⟨rfl,hb⟩;refine ⟨_,rfl,?_⟩;have n0_:=aM (Kd.R_below HO136.out hb);have n1_:=aM (IsS57.below HI0.out hb);have n2_:=aM (blk_below (g:=gb133) (o:=.cells #[.int .i64 0,.int .i64 0] 59 (0,0)) BK133.out hb);have n3_:=aM (KeepBut.trans HK.out (KeepBut.of_below hb g none) (.inl rfl));have n4_:=aM (below_step HB.out hb);clear HO136;clear HI0;clear BK133;clear HK;clear HB;have HO136:=n0_;have HI0:=n1_;have BK133:=n2_;have HK:=n3_;have HB:=n4_;clear n0_ n1_ n2_ n3_ n4_;(try clear hb);(try clear hb2);(try clear hk);(try clear hi);have hnb33:=NB133_0.out;have hnc33:=NB0_133.out;have hcz34_0:w32.cell? ⟨gb133,0,none⟩ = some (.int .i64 0):=(blk_cell BK133.out 0).trans rfl;have hcz34_1:w32.cell? ⟨gb133,1,none⟩ = some (.int .i64 0):=(blk_cell BK133.out 1).trans rfl;have hfz34_0:=blk_frozen BK133.out 0;have hfz34_1:=blk_frozen BK133.out 1))
   refine bodyPost_ret (results_cell_row rfl _ _ gb133 59 #[.int .i64 t157,.int .i64 t158] (0,0) _ rfl (by (with_reducible repeat (first|apply yN|apply yD|apply yA));refine blk_put (cs:=#[.int .i64 t157,.int .i64 0]) ?_ 1 _ rfl;(with_reducible repeat (first|apply yN|apply yD|apply yA));refine blk_put (cs:=#[.int .i64 0,.int .i64 0]) ?_ 0 _ rfl;(with_reducible repeat (first|apply yN|apply yD|apply yA));exact BK133.out) Try.underlying59 rfl (by kernel_rfl)) rfl ?_
   exact ⟨by first|rfl|(simp [errW_none,errW_some] <;> rfl)|(simp [*,errW_none,errW_some] <;> rfl),by repeat (first|(with_reducible first|exact HI0.out|apply IsS57.alloc|apply IsS57.drewN|apply IsS57.drew|apply IsS57.set_1|apply IsS57.set_2|refine IsS57.far ?_ NB0_133.out _)|exact HI0.out),by repeat (first|(with_reducible first|exact HB.out|apply zA|apply zN|apply zD|refine zS ?_ (IsS57.ge HI0.out)|refine zS ?_ GE133.out)|exact HB.out),by repeat (first|(with_reducible first|exact HK.out|apply kS|apply kN|apply kD|apply kA|refine kF ?_ GW133.out _)|exact HK.out)⟩
  ·rw [if_neg c22] at H
   have c22b0:(t140 == 1) = false:=beq_eq_false_iff_ne.mpr c22
   have c22b1:(t140 != 1) = true:=bne_iff_ne.mpr c22
   replace H:=Option.bind_eq_some_iff.mp H
   obtain ⟨⟨t159,t160,t161⟩,A350,H⟩:=H
   replace H:((spec_l01Of.f k t159 t137).bind fun bt162=>(some (bt162.1,bt162.2,t160,t161))) = some (r1,r2,r3,r4):=H
   have A35:=aM A350
   clear A350
   replace H:=Option.bind_eq_some_iff.mp H
   obtain ⟨⟨t162,t163⟩,A360,H⟩:=H
   replace H:(some (t162,t163,t160,t161)) = some (r1,r2,r3,r4):=H
   have A36:=aM A360
   clear A360
   simp only [Option.some.injEq,Prod.mk.injEq] at H
   obtain ⟨rfl,rfl,rfl,rfl⟩:=H
   go_enter Try.func33,Try.ntmps33
   go_wp2_with (first|((with_reducible refine gate_dst (N:=2) rfl ?_);refine box_event ?hg (N:=2) ?hd (cs:=#[.int .i64 0,.int .i64 0]) (t:=59) ?hr ?_;(case hd=>rfl);(case hg=>rfl);(case hr=>first|(go_simp;done)|(go_simp;rfl));intro gb133 hg w37 hbox hb;have n0_:=aM (IsS57.below HI0.out hb);have n1_:=aM (KeepBut.trans HK.out (KeepBut.of_below hb g none) (.inl rfl));have n2_:=aM (below_step HB.out hb);have n3_:=aM (hbox);have n4_:=aM ((by rw [hg];exact (keep_size (w:=w) (g:=g) (row:=none) HK.out):w.heap.size ≤ gb133));have n5_:=aM ((Nat.le_trans HW0.out (by rw [hg];exact (keep_size (w:=w) (g:=g) (row:=none) HK.out):w.heap.size ≤ gb133):w0.heap.size ≤ gb133));have n6_:=aM ((by rw [hg];exact Nat.ne_of_lt (IsS57.lt (show IsS57 w0 _ g s0_0 s0_1 s0_2 from HI0.out)):g ≠ gb133));have n7_:=aM ((by rw [hg];exact Nat.ne_of_gt (IsS57.lt (show IsS57 w0 _ g s0_0 s0_1 s0_2 from HI0.out)):gb133 ≠ g));clear HI0;clear HK;clear HB;have HI0:=n0_;have HK:=n1_;have HB:=n2_;have BK133:=n3_;have GW133:=n4_;have GE133:=n5_;have NB0_133:=n6_;have NB133_0:=n7_;clear n0_ n1_ n2_ n3_ n4_ n5_ n6_ n7_;clear hb hbox hg)|((with_reducible refine gate_dst (N:=5) rfl ?_);refine Kd.R_lit (Kd.int .i64) _ 2 ?hg (N:=5) ?hd (xs:=([1,3,7,15,31,63,5,9,11,13,17,21]:List Int)) (inner:=[.int .i64 1,.int .i64 3,.int .i64 7,.int .i64 15,.int .i64 31,.int .i64 63,.int .i64 5,.int .i64 9,.int .i64 11,.int .i64 13,.int .i64 17,.int .i64 21]) (ok:=fun _=>True) (okp:=fun _=>True) ?hr ?hp (fun _ hk=>hk) trivial (Below.refl _ _) (Nat.le_refl _) (by simp) ?_;(case hd=>rfl);(case hg=>rfl);(case hr=>first|(go_simp;done)|(go_simp;rfl));(case hp=>exact (Reps.one (show Kd.M (Kd.int .i64) _ _ _ 1 [.int .i64 1] from rfl) (Reps.one (show Kd.M (Kd.int .i64) _ _ _ 3 [.int .i64 3] from rfl) (Reps.one (show Kd.M (Kd.int .i64) _ _ _ 7 [.int .i64 7] from rfl) (Reps.one (show Kd.M (Kd.int .i64) _ _ _ 15 [.int .i64 15] from rfl) (Reps.one (show Kd.M (Kd.int .i64) _ _ _ 31 [.int .i64 31] from rfl) (Reps.one (show Kd.M (Kd.int .i64) _ _ _ 63 [.int .i64 63] from rfl) (Reps.one (show Kd.M (Kd.int .i64) _ _ _ 5 [.int .i64 5] from rfl) (Reps.one (show Kd.M (Kd.int .i64) _ _ _ 9 [.int .i64 9] from rfl) (Reps.one (show Kd.M (Kd.int .i64) _ _ _ 11 [.int .i64 11] from rfl) (Reps.one (show Kd.M (Kd.int .i64) _ _ _ 13 [.int .i64 13] from rfl) (Reps.one (show Kd.M (Kd.int .i64) _ _ _ 17 [.int .i64 17] from rfl) (Reps.one (show Kd.M (Kd.int .i64) _ _ _ 21 [.int .i64 21] from rfl) (Reps.none _ _))))))))))))));intro v135 w38 ho39 hb hg_ hnew_;clear hg_ hnew_;(first|rw [← Ny134.out] at ho39|(simp only [Int.reduceToNat] at ho39;rw [← Ny134.out] at ho39));have n0_:=aM (Kd.R_lower ho39 (keep_size (w:=w) (g:=g) (row:=none) HK.out));have n1_:=aM (IsS57.below HI0.out hb);have n2_:=aM (blk_below (g:=gb133) (o:=.cells #[.int .i64 0,.int .i64 0] 59 (0,0)) BK133.out hb);have n3_:=aM (KeepBut.trans HK.out (KeepBut.of_below hb g none) (.inl rfl));have n4_:=aM (below_step HB.out hb);clear HI0;clear BK133;clear HK;clear HB;have HO136:=n0_;have HI0:=n1_;have BK133:=n2_;have HK:=n3_;have HB:=n4_;clear n0_ n1_ n2_ n3_ n4_;clear hb ho39;obtain ⟨Ao40,co40,eo40⟩:=Kd.R_slice HO136.out;subst eo40)|((with_reducible refine gate_callee (f:=26) rfl ?_);refine goesL_ (some 6) rfl rfl Try.func26 (by kernel_rfl) rfl #[.pointer (some ⟨g,0,none⟩),.slice Ao40 y134.length co40] rfl (by (try simp only [sM,sC,sN]);first|done|rfl|(simp only [List.length_drop,List.length_take];rfl)) ?_;(with_reducible refine (spec_l01Pick.calls g s0_0 s0_1 s0_2 _ _ y134 t137 t138 t139 w0 _ ?side1 ?side2 ?side3 ?side4 ?side5 A2.out).mono ?_);(case side1=>repeat (first|(with_reducible first|exact HI0.out|apply IsS57.alloc|apply IsS57.drewN|apply IsS57.drew|apply IsS57.set_1|apply IsS57.set_2|refine IsS57.far ?_ NB0_133.out _)|exact HI0.out));(case side2=>repeat (first|(with_reducible first|exact HB.out|apply zA|apply zN|apply zD|refine zS ?_ (IsS57.ge HI0.out)|refine zS ?_ GE133.out)|exact HB.out));(case side3=>repeat (first|exact (Kd.R_reads' HO136.out).2.2|(with_reducible refine cA ?_ _)|(with_reducible refine cN ?_ _)|(with_reducible refine cD ?_)));(case side4=>exact (Kd.R_reads' HO136.out).2.1);(case side5=>exact far_slice (IsS57.own_ne HI0.out HO136.out (by decide)));rintro e w41 ⟨rfl,hi,hb,hk⟩;refine ⟨_,rfl,?_⟩;replace BK133:=aM (KeepBut.blk hk (g':=gb133) (o:=.cells #[.int .i64 0,.int .i64 0] 59 (0,0)) BK133.out NB133_0.out (by simp));replace HO136:=aM (Kd.R_mono (Kd.R_keep (IsS57.apart (show IsS57 w0 _ g s0_0 s0_1 s0_2 from HI0.out) HO136.out (by decide)) hk (fun _ h=>h.2)) (fun _ h=>h.1));replace HK:=aM (KeepBut.trans HK.out hk (.inl rfl));replace HB:=aM (hb);replace HI0:=aM (hi);(try clear hb);(try clear hb2);(try clear hk);(try clear hi))|((with_reducible refine gate_callee (f:=18) rfl ?_);refine goesL_ (some 8) rfl rfl Try.func18 (by kernel_rfl) rfl #[.pointer (some ⟨g,0,none⟩),.int .i64 5] rfl (by (try simp only [sM,sC,sN]);first|done|rfl|(simp only [List.length_drop,List.length_take];rfl)) ?_;(with_reducible refine (spec_l01Next.calls g s0_0 t138 t139 5 t140 t141 t142 w0 _ ?side1 ?side2 A3.out).mono ?_);(case side1=>repeat (first|(with_reducible first|exact HI0.out|apply IsS57.alloc|apply IsS57.drewN|apply IsS57.drew|apply IsS57.set_1|apply IsS57.set_2|refine IsS57.far ?_ NB0_133.out _)|exact HI0.out));(case side2=>repeat (first|(with_reducible first|exact HB.out|apply zA|apply zN|apply zD|refine zS ?_ (IsS57.ge HI0.out)|refine zS ?_ GE133.out)|exact HB.out));rintro e w42 ⟨rfl,hi,hb,hk⟩;refine ⟨_,rfl,?_⟩;replace BK133:=aM (KeepBut.blk hk (g':=gb133) (o:=.cells #[.int .i64 0,.int .i64 0] 59 (0,0)) BK133.out NB133_0.out (by simp));replace HO136:=aM (Kd.R_mono (Kd.R_keep (IsS57.apart (show IsS57 w0 _ g s0_0 t138 t139 from HI0.out) HO136.out (by decide)) hk (fun _ h=>h.2)) (fun _ h=>h.1));replace HK:=aM (KeepBut.trans HK.out hk (.inl rfl));replace HB:=aM (hb);replace HI0:=aM (hi);(try clear hb);(try clear hb2);(try clear hk);(try clear hi))|((with_reducible refine gate_callee (f:=18) rfl ?_);refine goesL_ (some 22) rfl rfl Try.func18 (by kernel_rfl) rfl #[.pointer (some ⟨g,0,none⟩),.int .i64 t137] rfl (by (try simp only [sM,sC,sN]);first|done|rfl|(simp only [List.length_drop,List.length_take];rfl)) ?_;(with_reducible refine (spec_l01Next.calls g s0_0 t141 t142 t137 t159 t160 t161 w0 _ ?side1 ?side2 A35.out).mono ?_);(case side1=>repeat (first|(with_reducible first|exact HI0.out|apply IsS57.alloc|apply IsS57.drewN|apply IsS57.drew|apply IsS57.set_1|apply IsS57.set_2|refine IsS57.far ?_ NB0_133.out _)|exact HI0.out));(case side2=>repeat (first|(with_reducible first|exact HB.out|apply zA|apply zN|apply zD|refine zS ?_ (IsS57.ge HI0.out)|refine zS ?_ GE133.out)|exact HB.out));rintro e w43 ⟨rfl,hi,hb,hk⟩;refine ⟨_,rfl,?_⟩;replace BK133:=aM (KeepBut.blk hk (g':=gb133) (o:=.cells #[.int .i64 0,.int .i64 0] 59 (0,0)) BK133.out NB133_0.out (by simp));replace HO136:=aM (Kd.R_mono (Kd.R_keep (IsS57.apart (show IsS57 w0 _ g s0_0 t141 t142 from HI0.out) HO136.out (by decide)) hk (fun _ h=>h.2)) (fun _ h=>h.1));replace HK:=aM (KeepBut.trans HK.out hk (.inl rfl));replace HB:=aM (hb);replace HI0:=aM (hi);(try clear hb);(try clear hb2);(try clear hk);(try clear hi))|((with_reducible refine gate_callee (f:=44) rfl ?_);refine goesL_ (some 24) rfl rfl Try.func44 (by kernel_rfl) rfl #[.int .i64 t159,.int .i64 t137] rfl (by (try simp only [sM,sC,sN]);first|done|rfl|(simp only [List.length_drop,List.length_take];rfl)) ?_;(with_reducible refine (spec_l01Of.calls k t159 t137 t162 t163 _ A36.out).mono ?_);rintro e w44 ⟨rfl,hb⟩;refine ⟨_,rfl,?_⟩;have n0_:=aM (Kd.R_below HO136.out hb);have n1_:=aM (IsS57.below HI0.out hb);have n2_:=aM (blk_below (g:=gb133) (o:=.cells #[.int .i64 0,.int .i64 0] 59 (0,0)) BK133.out hb);have n3_:=aM (KeepBut.trans HK.out (KeepBut.of_below hb g none) (.inl rfl));have n4_:=aM (below_step HB.out hb);clear HO136;clear HI0;clear BK133;clear HK;clear HB;have HO136:=n0_;have HI0:=n1_;have BK133:=n2_;have HK:=n3_;have HB:=n4_;clear n0_ n1_ n2_ n3_ n4_;(try clear hb);(try clear hb2);(try clear hk);(try clear hi);have hnb45:=NB133_0.out;have hnc45:=NB0_133.out;have hcz46_0:w44.cell? ⟨gb133,0,none⟩ = some (.int .i64 0):=(blk_cell BK133.out 0).trans rfl;have hcz46_1:w44.cell? ⟨gb133,1,none⟩ = some (.int .i64 0):=(blk_cell BK133.out 1).trans rfl;have hfz46_0:=blk_frozen BK133.out 0;have hfz46_1:=blk_frozen BK133.out 1))
   refine bodyPost_ret (results_cell_row rfl _ _ gb133 59 #[.int .i64 t162,.int .i64 t163] (0,0) _ rfl (by (with_reducible repeat (first|apply yN|apply yD|apply yA));refine blk_put (cs:=#[.int .i64 t162,.int .i64 0]) ?_ 1 _ rfl;(with_reducible repeat (first|apply yN|apply yD|apply yA));refine blk_put (cs:=#[.int .i64 0,.int .i64 0]) ?_ 0 _ rfl;(with_reducible repeat (first|apply yN|apply yD|apply yA));exact BK133.out) Try.underlying59 rfl (by kernel_rfl)) rfl ?_
   exact ⟨by first|rfl|(simp [errW_none,errW_some] <;> rfl)|(simp [*,errW_none,errW_some] <;> rfl),by repeat (first|(with_reducible first|exact HI0.out|apply IsS57.alloc|apply IsS57.drewN|apply IsS57.drew|apply IsS57.set_1|apply IsS57.set_2|refine IsS57.far ?_ NB0_133.out _)|exact HI0.out),by repeat (first|(with_reducible first|exact HB.out|apply zA|apply zN|apply zD|refine zS ?_ (IsS57.ge HI0.out)|refine zS ?_ GE133.out)|exact HB.out),by repeat (first|(with_reducible first|exact HK.out|apply kS|apply kN|apply kD|apply kA|refine kF ?_ GW133.out _)|exact HK.out)⟩
mutual
def spec_l01Canonical.j2:Nat → ByteArray → ByteArray → Option (ByteArray × ByteArray)
 | 0,_,_=>none
 | k + 1,x0,x1=>spec_l01Canonical.l2 k x0 x1
def spec_l01Canonical.l2:Nat → ByteArray → ByteArray → Option (ByteArray × ByteArray)
 | 0,_,_=>none
 | k + 1,x0,x1=>if (x0.size:Int) > 0 then (if 0 ≤ (wrap64 ((x0.size:Int) - 1)) then (if (wrap64 ((x0.size:Int) - 1)) < (x0.size:Int) then (if 0 ≤ (wrap64 ((x1.size:Int) - 1)) then (if (wrap64 ((x1.size:Int) - 1)) < (x1.size:Int) then (if (bt x0 (wrap64 ((x0.size:Int) - 1))) = (bt x1 (wrap64 ((x1.size:Int) - 1))) then (if (wrap64 ((x1.size:Int) - 1)) ≤ (x1.size:Int) then (if (x1.extract ((wrap64 ((x1.size:Int) - 1)):Int).toNat x1.size).size + (x1.extract 0 ((wrap64 ((x1.size:Int) - 1)):Int).toNat).size ≤ 9223372036854775807 then (if (wrap64 ((x0.size:Int) - 1)) ≤ (x0.size:Int) then (spec_l01Canonical.l2 k (x0.extract 0 ((wrap64 ((x0.size:Int) - 1)):Int).toNat) ((x1.extract ((wrap64 ((x1.size:Int) - 1)):Int).toNat x1.size) ++ (x1.extract 0 ((wrap64 ((x1.size:Int) - 1)):Int).toNat))) else (none)) else (none)) else (none)) else (some (x0,x1))) else (none)) else (none)) else (none)) else (none)) else (some (x0,x1))
def spec_l01Canonical.l0:Nat → ByteArray → ByteArray → Int → Int → Option (ByteArray × ByteArray)
 | 0,_,_,_,_=>none
 | k + 1,x0,x1,x5,x6=>if x6 ≤ x5 then (if x6 = 0 then (none) else (if (Int.tmod x5 x6) = 0 then (spec_l01Canonical.l1 k x0 x1 x5 x6 true x6) else (spec_l01Canonical.l0 k x0 x1 x5 (wrap64 (x6 + 1))))) else (spec_l01Canonical.j2 k x0 x1)
def spec_l01Canonical.l1:Nat → ByteArray → ByteArray → Int → Int → Bool → Int → Option (ByteArray × ByteArray)
 | 0,_,_,_,_,_,_=>none
 | k + 1,x0,x1,x5,x6,x7,x8=>if x8 < x5 then (if x7 = true then (if 0 ≤ x8 then (if x8 < (x1.size:Int) then (if 0 ≤ (wrap64 (x8 - x6)) then (if (wrap64 (x8 - x6)) < (x1.size:Int) then (spec_l01Canonical.l1 k x0 x1 x5 x6 ((bt x1 x8) == (bt x1 (wrap64 (x8 - x6)))) (wrap64 (x8 + 1))) else (none)) else (none)) else (none)) else (none)) else (spec_l01Canonical.l1 k x0 x1 x5 x6 false (wrap64 (x8 + 1)))) else (if x7 = true then (if 0 ≤ x6 then (if x6 ≤ (x1.size:Int) then (spec_l01Canonical.j2 k x0 (x1.extract 0 (x6:Int).toNat)) else (none)) else (none)) else (spec_l01Canonical.l0 k x0 x1 x5 (wrap64 (x6 + 1))))
end
def spec_l01Canonical.f (k:Nat) (a0:ByteArray) (a1:ByteArray):Option (ByteArray × ByteArray):=spec_l01Canonical.l0 k a0 a1 (a1.size:Int) 1
theorem spec_l01Canonical.mono_l:∀ k,(∀ y0 y1,LeO (spec_l01Canonical.j2 k y0 y1) (spec_l01Canonical.j2 (k + 1) y0 y1)) ∧ (∀ y0 y1,LeO (spec_l01Canonical.l2 k y0 y1) (spec_l01Canonical.l2 (k + 1) y0 y1)) ∧ (∀ y0 y1 y2 y3,LeO (spec_l01Canonical.l0 k y0 y1 y2 y3) (spec_l01Canonical.l0 (k + 1) y0 y1 y2 y3)) ∧ (∀ y0 y1 y2 y3 y4 y5,LeO (spec_l01Canonical.l1 k y0 y1 y2 y3 y4 y5) (spec_l01Canonical.l1 (k + 1) y0 y1 y2 y3 y4 y5))
 | 0=>⟨fun _ _ r h=>by simp [spec_l01Canonical.j2] at h,fun _ _ r h=>by simp [spec_l01Canonical.l2] at h,fun _ _ _ _ r h=>by simp [spec_l01Canonical.l0] at h,fun _ _ _ _ _ _ r h=>by simp [spec_l01Canonical.l1] at h⟩
 | k + 1=>by
  obtain ⟨ih0,ih1,ih2,ih3⟩:=spec_l01Canonical.mono_l k
  refine ⟨?_,?_,?_,?_⟩
  ·intro y0 y1
   unfold spec_l01Canonical.j2
   repeat' first
   | (with_reducible exact ih0 _ _)
   | (with_reducible exact ih1 _ _)
   | (with_reducible exact ih2 _ _ _ _)
   | (with_reducible exact ih3 _ _ _ _ _ _)
   | (with_reducible exact LeO.refl _)
   | (with_reducible exact LeO.none _)
   | (with_reducible refine LeO.ite ?_ ?_)
   | (with_reducible refine LeO.bind ?_ (fun _=>?_))
   | exact ih0 _ _
   | exact ih1 _ _
   | exact ih2 _ _ _ _
   | exact ih3 _ _ _ _ _ _
   | exact LeO.none _
   | refine LeO.ite ?_ ?_
   | refine LeO.bind ?_ (fun _=>?_)
  ·intro y0 y1
   unfold spec_l01Canonical.l2
   repeat' first
   | (with_reducible exact ih0 _ _)
   | (with_reducible exact ih1 _ _)
   | (with_reducible exact ih2 _ _ _ _)
   | (with_reducible exact ih3 _ _ _ _ _ _)
   | (with_reducible exact LeO.refl _)
   | (with_reducible exact LeO.none _)
   | (with_reducible refine LeO.ite ?_ ?_)
   | (with_reducible refine LeO.bind ?_ (fun _=>?_))
   | exact ih0 _ _
   | exact ih1 _ _
   | exact ih2 _ _ _ _
   | exact ih3 _ _ _ _ _ _
   | exact LeO.none _
   | refine LeO.ite ?_ ?_
   | refine LeO.bind ?_ (fun _=>?_)
  ·intro y0 y1 y2 y3
   unfold spec_l01Canonical.l0
   repeat' first
   | (with_reducible exact ih0 _ _)
   | (with_reducible exact ih1 _ _)
   | (with_reducible exact ih2 _ _ _ _)
   | (with_reducible exact ih3 _ _ _ _ _ _)
   | (with_reducible exact LeO.refl _)
   | (with_reducible exact LeO.none _)
   | (with_reducible refine LeO.ite ?_ ?_)
   | (with_reducible refine LeO.bind ?_ (fun _=>?_))
   | exact ih0 _ _
   | exact ih1 _ _
   | exact ih2 _ _ _ _
   | exact ih3 _ _ _ _ _ _
   | exact LeO.none _
   | refine LeO.ite ?_ ?_
   | refine LeO.bind ?_ (fun _=>?_)
  ·intro y0 y1 y2 y3 y4 y5
   unfold spec_l01Canonical.l1
   repeat' first
   | (with_reducible exact ih0 _ _)
   | (with_reducible exact ih1 _ _)
   | (with_reducible exact ih2 _ _ _ _)
   | (with_reducible exact ih3 _ _ _ _ _ _)
   | (with_reducible exact LeO.refl _)
   | (with_reducible exact LeO.none _)
   | (with_reducible refine LeO.ite ?_ ?_)
   | (with_reducible refine LeO.bind ?_ (fun _=>?_))
   | exact ih0 _ _
   | exact ih1 _ _
   | exact ih2 _ _ _ _
   | exact ih3 _ _ _ _ _ _
   | exact LeO.none _
   | refine LeO.ite ?_ ?_
   | refine LeO.bind ?_ (fun _=>?_)
theorem spec_l01Canonical.mono:∀ a0 a1 k,LeO (spec_l01Canonical.f k a0 a1) (spec_l01Canonical.f (k + 1) a0 a1):=by
 intro a0 a1 k
 obtain ⟨ih0,ih1,ih2,ih3⟩:=spec_l01Canonical.mono_l k
 unfold spec_l01Canonical.f
 repeat' first
   | (with_reducible exact ih0 _ _)
   | (with_reducible exact ih1 _ _)
   | (with_reducible exact ih2 _ _ _ _)
   | (with_reducible exact ih3 _ _ _ _ _ _)
   | (with_reducible exact LeO.refl _)
   | (with_reducible exact LeO.none _)
   | (with_reducible refine LeO.ite ?_ ?_)
   | (with_reducible refine LeO.bind ?_ (fun _=>?_))
   | exact ih0 _ _
   | exact ih1 _ _
   | exact ih2 _ _ _ _
   | exact ih3 _ _ _ _ _ _
   | exact LeO.none _
   | refine LeO.ite ?_ ?_
   | refine LeO.bind ?_ (fun _=>?_)
set_option maxHeartbeats 8000000 in
set_option maxRecDepth 100000 in
theorem spec_l01Canonical.calls (k:Nat) (a0:ByteArray) (a1:ByteArray) (r1:ByteArray) (r2:ByteArray) (w:World) (h:spec_l01Canonical.f k a0 a1 = some (r1,r2)) :
  Calls Try.prog 35 #[.string a0,.string a1] w fun e w'=>e = .returned (.agg #[.string r1,.string r2]) ∧ Below w.heap.size w w':=by
 have hu25:=Try.underlying25
 have HB:=aM (Below.refl w.heap.size w)
 have H:(spec_l01Canonical.l0 k a0 a1 (a1.size:Int) 1) = some (r1,r2):=h
 clear h
 have HC3:=aM H
 clear H
 go_enter Try.func35,Try.ntmps35
 go_upto_block 0 with (first|((with_reducible refine gate_dst (N:=4) rfl ?_);(try (refine gate_guard (by rfl) ?_;dsimp only));refine box_event ?hg (N:=4) ?hd (cs:=#[.string ⟨#[]⟩,.string ⟨#[]⟩]) (t:=25) ?hr ?_;(case hd=>rfl);(case hg=>rfl);(case hr=>first|(go_simp;done)|(go_simp;rfl));intro gb164 hg w4 hbox hb;have n0_:=aM (below_step HB.out hb);have n1_:=aM (hbox);have n2_:=aM ((by rw [hg];exact (below_size HB.out):w.heap.size ≤ gb164));have n3_:=aM ((by rw [hg];exact (below_size HB.out):w.heap.size ≤ gb164));clear HB;have HB:=n0_;have BK164:=n1_;have GW164:=n2_;have GE164:=n3_;clear n0_ n1_ n2_ n3_;clear hb hbox hg))
 repeat (go_quiet (first|((with_reducible refine gate_dst (N:=4) rfl ?_);(try (refine gate_guard (by rfl) ?_;dsimp only));refine box_event ?hg (N:=4) ?hd (cs:=#[.string ⟨#[]⟩,.string ⟨#[]⟩]) (t:=25) ?hr ?_;(case hd=>rfl);(case hg=>rfl);(case hr=>first|(go_simp;done)|(go_simp;rfl));intro gb164 hg w4 hbox hb;have n0_:=aM (below_step HB.out hb);have n1_:=aM (hbox);have n2_:=aM ((by rw [hg];exact (below_size HB.out):w.heap.size ≤ gb164));have n3_:=aM ((by rw [hg];exact (below_size HB.out):w.heap.size ≤ gb164));clear HB;have HB:=n0_;have BK164:=n1_;have GW164:=n2_;have GE164:=n3_;clear n0_ n1_ n2_ n3_;clear hb hbox hg));go_upto_block 0 with (first|((with_reducible refine gate_dst (N:=4) rfl ?_);(try (refine gate_guard (by rfl) ?_;dsimp only));refine box_event ?hg (N:=4) ?hd (cs:=#[.string ⟨#[]⟩,.string ⟨#[]⟩]) (t:=25) ?hr ?_;(case hd=>rfl);(case hg=>rfl);(case hr=>first|(go_simp;done)|(go_simp;rfl));intro gb164 hg w4 hbox hb;have n0_:=aM (below_step HB.out hb);have n1_:=aM (hbox);have n2_:=aM ((by rw [hg];exact (below_size HB.out):w.heap.size ≤ gb164));have n3_:=aM ((by rw [hg];exact (below_size HB.out):w.heap.size ≤ gb164));clear HB;have HB:=n0_;have BK164:=n1_;have GW164:=n2_;have GE164:=n3_;clear n0_ n1_ n2_ n3_;clear hb hbox hg)))
 (try simp only [Act.put,sI,sZ,sS])
 go_cut [1] (fun v1 wc=>∃ (kq:Nat) (x1_2:ByteArray),v1 = .string x1_2 ∧ Aside0 (spec_l01Canonical.j2 kq a0 x1_2 = some (r1,r2)) ∧ Aside0 (kq ≤ k) ∧ Aside0 (wc.heap[gb164]? = some (.cells #[.string ⟨#[]⟩,.string ⟨#[]⟩] 25 (0,0))) ∧ Aside0 (Below w.heap.size w wc))
 case first =>
  have H:=HC3.out
  clear HC3
  have H':=aM H
  clear H
  go_wp2
  repeat (go_quiet (fail);try go_wp2)
  go_loopg [1,6] k (fun kq v1 v6 w'=>∃ (x1_1:ByteArray) (x6_1:Int),v1 = .string x1_1 ∧ v6 = .int .i64 x6_1 ∧ Aside0 (spec_l01Canonical.l0 kq a0 x1_1 (a1.size:Int) x6_1 = some (r1,r2)) ∧ Aside0 (kq ≤ k) ∧ Aside0 (w'.heap[gb164]? = some (.cells #[.string ⟨#[]⟩,.string ⟨#[]⟩] 25 (0,0))) ∧ Aside0 (Below w.heap.size w w'))
  case atStart=>exact ⟨(a1),(1),(by first|rfl|(simp;done)|(simp [*];done)),(by first|rfl|(simp;done)|(simp [*];done)),H',⟨Nat.le_refl _⟩,⟨BK164.out⟩,⟨HB.out⟩⟩
  case round =>
   clear H'
   try clear p2
   try clear c3
   obtain ⟨x1_1,x6_1,rfl,rfl,HA,HK1,BK164,HB⟩:=hrel
   cases gk with
   | zero=>exact absurd HA.out (by simp [spec_l01Canonical.l0])
   | succ k1 =>
    have H:=HA.out
    clear HA
    simp only [spec_l01Canonical.l0] at H
    by_cases c5:x6_1 ≤ (a1.size:Int)
    ·rw [if_pos c5] at H
     have c5b0:decide (x6_1 ≤ (a1.size:Int)) = true:=decide_eq_true c5
     clear c5
     (first|rw [c5b0]|(simp only [i64_w,i32_w];rw [c5b0])|skip)
     by_cases c6:x6_1 = 0
     ·rw [if_pos c6] at H
      exact absurd H (by simp)
     ·rw [if_neg c6] at H
      have c6b0:(x6_1 == 0) = false:=beq_eq_false_iff_ne.mpr c6
      have c6b1:(x6_1 != 0) = true:=bne_iff_ne.mpr c6
      have c7t:=Int.tmod_eq_emod_of_nonneg (a:=(a1.size:Int)) (b:=x6_1) (by omega)
      by_cases c7:(Int.tmod (a1.size:Int) x6_1) = 0
      ·rw [if_pos c7] at H
       have c7b0:((Int.tmod (a1.size:Int) x6_1) == 0) = true:=beq_iff_eq.mpr c7
       have c7b1:((Int.tmod (a1.size:Int) x6_1) != 0) = false:=bne_eq_false_iff_eq.mpr c7
       try (have c7u:=c7b0;rw [c7t] at c7u;have c7v:=c7b1;rw [c7t] at c7v)
       clear c7
       have H':=aM H
       clear H
       go_wp2
       repeat (go_quiet (fail);try go_wp2)
       go_loopg [7,8] k1 (fun kq v7 v8 w'=>∃ (x7_2:Bool) (x8_2:Int),v7 = .bool x7_2 ∧ v8 = .int .i64 x8_2 ∧ Aside0 (spec_l01Canonical.l1 kq a0 x1_1 (a1.size:Int) x6_1 x7_2 x8_2 = some (r1,r2)) ∧ Aside0 (kq ≤ k1) ∧ Aside0 (w'.heap[gb164]? = some (.cells #[.string ⟨#[]⟩,.string ⟨#[]⟩] 25 (0,0))) ∧ Aside0 (Below w.heap.size w w'))
       case atStart=>exact ⟨(true),(x6_1),(by first|rfl|(simp;done)|(simp [*];done)),(by first|rfl|(simp;done)|(simp [*];done)),H',⟨Nat.le_refl _⟩,⟨BK164.out⟩,⟨HB.out⟩⟩
       case round =>
        clear H'
        try clear p2
        try clear c3
        try clear c5
        try clear c5b0
        try clear c6
        try clear c6b0
        try clear c6b1
        try clear c7
        try clear c7b0
        try clear c7b1
        try clear p2
        obtain ⟨x7_2,x8_2,rfl,rfl,HA,HK2,BK164,HB⟩:=hrel
        cases gk with
        | zero=>exact absurd HA.out (by simp [spec_l01Canonical.l1])
        | succ k2 =>
         have H:=HA.out
         clear HA
         simp only [spec_l01Canonical.l1] at H
         by_cases c8:x8_2 < (a1.size:Int)
         ·rw [if_pos c8] at H
          have c8b0:decide (x8_2 < (a1.size:Int)) = true:=decide_eq_true c8
          clear c8
          by_cases c9:x7_2 = true
          ·subst c9
           have H1:(if 0 ≤ x8_2 then (if x8_2 < (x1_1.size:Int) then (if 0 ≤ (wrap64 (x8_2 - x6_1)) then (if (wrap64 (x8_2 - x6_1)) < (x1_1.size:Int) then (spec_l01Canonical.l1 k2 a0 x1_1 (a1.size:Int) x6_1 ((bt x1_1 x8_2) == (bt x1_1 (wrap64 (x8_2 - x6_1)))) (wrap64 (x8_2 + 1))) else (none)) else (none)) else (none)) else (none)) = some (r1,r2):=by rw [if_pos rfl] at H;exact H
           clear H
           have H:=H1
           clear H1
           by_cases c10:0 ≤ x8_2
           ·rw [if_pos c10] at H
            have c10b0:decide (0 ≤ x8_2) = true:=decide_eq_true c10
            clear c10
            by_cases c11:x8_2 < (x1_1.size:Int)
            ·rw [if_pos c11] at H
             have c11b0:decide (x8_2 < (x1_1.size:Int)) = true:=decide_eq_true c11
             clear c11
             obtain ⟨ji13,hji13⟩:∃ j_:Int,(wrap64 (x8_2 - x6_1)) = j_:=⟨_,rfl⟩
             replace H:(if 0 ≤ (ji13) then (if (ji13) < (x1_1.size:Int) then (spec_l01Canonical.l1 k2 a0 x1_1 (a1.size:Int) x6_1 ((bt x1_1 x8_2) == (bt x1_1 (ji13))) (wrap64 (x8_2 + 1))) else (none)) else (none)) = some (r1,r2):=by first|(rw [hji13] at H;exact H)|(simp only [hji13] at H ⊢;exact H)
             have hji13w:(IntKind.i64.wrap (x8_2 - x6_1)) = ji13:=(i64_w _).trans hji13
             by_cases c14:0 ≤ (ji13)
             ·rw [if_pos c14] at H
              have c14b0:decide (0 ≤ (ji13)) = true:=decide_eq_true c14
              clear c14
              by_cases c15:(ji13) < (x1_1.size:Int)
              ·rw [if_pos c15] at H
               have c15b0:decide ((ji13) < (x1_1.size:Int)) = true:=decide_eq_true c15
               clear c15
               have H':=aM H
               clear H
               have p12:0 ≤ (x8_2:Int):=of_decide_eq_true (by first|(with_reducible assumption)|assumption)
               have q12:x8_2 < (x1_1.size:Int):=of_decide_eq_true (by first|(with_reducible assumption)|assumption)
               have hx12:=bt_at x1_1 x8_2
               replace p12:=eq_true p12
               replace q12:=eq_true q12
               have p16:0 ≤ ((ji13):Int):=of_decide_eq_true (by first|(with_reducible assumption)|assumption)
               have q16:(ji13) < (x1_1.size:Int):=of_decide_eq_true (by first|(with_reducible assumption)|assumption)
               have hx16:=bt_at x1_1 (ji13)
               replace p16:=eq_true p16
               replace q16:=eq_true q16
               go_wp2
               repeat (go_quiet (fail);try go_wp2)
               go_roundg k2
               case measure=>have:=HK1.out;have:=HK2.out;omega
               case rel=>exact ⟨(((bt x1_1 x8_2) == (bt x1_1 (ji13)))),(wrap64 (x8_2 + 1)),(by first|rfl|(simp;done)|(simp only [← hji13] <;> (first|rfl|simp))|(simp [*];done)),(by first|rfl|(simp;done)|(simp [*];done)),H',⟨by have:=HK1.out;have:=HK2.out;omega⟩,⟨by (with_reducible repeat (first|apply yN|apply yD|apply yA));exact BK164.out⟩,⟨by repeat (first|(with_reducible first|exact HB.out|apply zA|apply zN|apply zD|refine zS ?_ GE164.out)|exact HB.out)⟩⟩
              ·rw [if_neg c15] at H
               exact absurd H (by simp)
             ·rw [if_neg c14] at H
              exact absurd H (by simp)
            ·rw [if_neg c11] at H
             exact absurd H (by simp)
           ·rw [if_neg c10] at H
            exact absurd H (by simp)
          ·replace c9:=Bool.eq_false_iff.mpr c9
           subst c9
           have H1:(spec_l01Canonical.l1 k2 a0 x1_1 (a1.size:Int) x6_1 false (wrap64 (x8_2 + 1))) = some (r1,r2):=by rw [if_neg (show ¬ (false = true) by decide)] at H;exact H
           clear H
           have H:=H1
           clear H1
           have H':=aM H
           clear H
           go_wp2
           repeat (go_quiet (fail);try go_wp2)
           go_roundg k2
           case measure=>have:=HK1.out;have:=HK2.out;omega
           case rel=>exact ⟨(false),(wrap64 (x8_2 + 1)),(by first|rfl|(simp;done)|(simp [*];done)),(by first|rfl|(simp;done)|(simp [*];done)),H',⟨by have:=HK1.out;have:=HK2.out;omega⟩,⟨by (with_reducible repeat (first|apply yN|apply yD|apply yA));exact BK164.out⟩,⟨by repeat (first|(with_reducible first|exact HB.out|apply zA|apply zN|apply zD|refine zS ?_ GE164.out)|exact HB.out)⟩⟩
         ·rw [if_neg c8] at H
          have c8b0:decide (x8_2 < (a1.size:Int)) = false:=decide_eq_false c8
          clear c8
          by_cases c17:x7_2 = true
          ·subst c17
           have H1:(if 0 ≤ x6_1 then (if x6_1 ≤ (x1_1.size:Int) then (spec_l01Canonical.j2 k2 a0 (x1_1.extract 0 (x6_1:Int).toNat)) else (none)) else (none)) = some (r1,r2):=by rw [if_pos rfl] at H;exact H
           clear H
           have H:=H1
           clear H1
           by_cases c18:0 ≤ x6_1
           ·rw [if_pos c18] at H
            have c18b0:=eq_true c18
            have c18b1:decide (0 ≤ x6_1) = true:=decide_eq_true c18
            clear c18
            by_cases c19:x6_1 ≤ (x1_1.size:Int)
            ·rw [if_pos c19] at H
             have c19b0:=eq_true c19
             have c19b1:decide (x6_1 ≤ (x1_1.size:Int)) = true:=decide_eq_true c19
             clear c19
             have H':=aM H
             clear H
             go_wp2
             repeat (go_quiet (fail);try go_wp2)
             go_meet
             case rel=>exact ⟨_,(x1_1.extract 0 (x6_1:Int).toNat),(by first|rfl|(simp;done)|(simp [*];done)),H',⟨by have:=HK1.out;have:=HK2.out;first|omega|exact Nat.le_refl _⟩,⟨BK164.out⟩,⟨HB.out⟩⟩
            ·rw [if_neg c19] at H
             exact absurd H (by simp)
           ·rw [if_neg c18] at H
            exact absurd H (by simp)
          ·replace c17:=Bool.eq_false_iff.mpr c17
           subst c17
           have H1:(spec_l01Canonical.l0 k2 a0 x1_1 (a1.size:Int) (wrap64 (x6_1 + 1))) = some (r1,r2):=by rw [if_neg (show ¬ (false = true) by decide)] at H;exact H
           clear H
           have H:=H1
           clear H1
           have H':=aM H
           clear H
           go_wp2
           repeat (go_quiet (fail);try go_wp2)
           go_roundg k2
           case measure=>have:=HK1.out;have:=HK2.out;omega
           case rel=>exact ⟨(x1_1),(wrap64 (x6_1 + 1)),(by first|rfl|(simp;done)|(simp [*];done)),(by first|rfl|(simp;done)|(simp [*];done)),H',⟨by have:=HK1.out;have:=HK2.out;omega⟩,⟨BK164.out⟩,⟨HB.out⟩⟩
      ·rw [if_neg c7] at H
       have c7b0:((Int.tmod (a1.size:Int) x6_1) == 0) = false:=beq_eq_false_iff_ne.mpr c7
       have c7b1:((Int.tmod (a1.size:Int) x6_1) != 0) = true:=bne_iff_ne.mpr c7
       try (have c7u:=c7b0;rw [c7t] at c7u;have c7v:=c7b1;rw [c7t] at c7v)
       have H':=aM H
       clear H
       go_wp2
       repeat (go_quiet (fail);try go_wp2)
       go_roundg k1
       case measure=>have:=HK1.out;omega
       case rel=>exact ⟨(x1_1),(wrap64 (x6_1 + 1)),(by first|rfl|(simp;done)|(simp [*];done)),(by first|rfl|(simp;done)|(simp [*];done)),H',⟨by have:=HK1.out;omega⟩,⟨BK164.out⟩,⟨HB.out⟩⟩
    ·rw [if_neg c5] at H
     have c5b0:decide (x6_1 ≤ (a1.size:Int)) = false:=decide_eq_false c5
     clear c5
     (first|rw [c5b0]|(simp only [i64_w,i32_w];rw [c5b0])|skip)
     have H':=aM H
     clear H
     go_wp2
     repeat (go_quiet (fail);try go_wp2)
     go_meet
     case rel=>exact ⟨_,(x1_1),(by first|rfl|(simp;done)|(simp [*];done)),H',⟨by have:=HK1.out;first|omega|exact Nat.le_refl _⟩,⟨BK164.out⟩,⟨HB.out⟩⟩
 case rest =>
  clear HC3
  try clear c1
  try clear p1
  try clear q1
  try clear hx1
  try clear p2
  try clear c3
  try clear c5
  try clear c5b0
  try clear c6
  try clear c6b0
  try clear c6b1
  try clear p6
  try clear c7
  try clear c7b0
  try clear c7b1
  try clear c8
  try clear c8b0
  try clear c9
  try clear c10
  try clear c10b0
  try clear c11
  try clear c11b0
  try clear p12
  try clear q12
  try clear hx12
  try clear c14
  try clear c14b0
  try clear c15
  try clear c15b0
  try clear p16
  try clear q16
  try clear hx16
  try clear c17
  try clear c18
  try clear c18b0
  try clear c18b1
  try clear c19
  try clear c19b0
  try clear c19b1
  try clear p12
  try clear p16
  try clear p2
  try clear q12
  try clear q16
  obtain ⟨kq,x1_2,rfl,HA,HJ2,BK164,HB⟩:=hcut
  cases kq with
  | zero=>exact absurd HA.out (by simp [spec_l01Canonical.j2])
  | succ kj2 =>
   have H:=HA.out
   clear HA
   simp only [spec_l01Canonical.j2] at H
   have H':=aM H
   clear H
   go_wp2
   repeat (go_quiet (fail);try go_wp2)
   go_loopg [0,1] kj2 (fun kq v0 v1 w'=>∃ (x0_2:ByteArray) (x1_2:ByteArray),v0 = .string x0_2 ∧ v1 = .string x1_2 ∧ Aside0 (spec_l01Canonical.l2 kq x0_2 x1_2 = some (r1,r2)) ∧ Aside0 (kq ≤ kj2) ∧ Aside0 (w'.heap[gb164]? = some (.cells #[.string ⟨#[]⟩,.string ⟨#[]⟩] 25 (0,0))) ∧ Aside0 (Below w.heap.size w w'))
   case atStart=>exact ⟨(a0),(x1_2),(by first|rfl|(simp;done)|(simp [*];done)),(by first|rfl|(simp;done)|(simp [*];done)),H',⟨Nat.le_refl _⟩,⟨BK164.out⟩,⟨HB.out⟩⟩
   case round =>
    clear H'
    try clear c1
    try clear p1
    try clear q1
    try clear hx1
    try clear p2
    try clear c3
    try clear c5
    try clear c5b0
    try clear c6
    try clear c6b0
    try clear c6b1
    try clear p6
    try clear c7
    try clear c7b0
    try clear c7b1
    try clear c8
    try clear c8b0
    try clear c9
    try clear c10
    try clear c10b0
    try clear c11
    try clear c11b0
    try clear p12
    try clear q12
    try clear hx12
    try clear c14
    try clear c14b0
    try clear c15
    try clear c15b0
    try clear p16
    try clear q16
    try clear hx16
    try clear c17
    try clear c18
    try clear c18b0
    try clear c18b1
    try clear c19
    try clear c19b0
    try clear c19b1
    try clear p1
    try clear p12
    try clear p16
    try clear p2
    try clear p6
    try clear q1
    try clear q12
    try clear q16
    obtain ⟨x0_2,x1_2,rfl,rfl,HA,HK2,BK164,HB⟩:=hrel
    cases gk with
    | zero=>exact absurd HA.out (by simp [spec_l01Canonical.l2])
    | succ k2 =>
     have H:=HA.out
     clear HA
     simp only [spec_l01Canonical.l2] at H
     by_cases c20:(x0_2.size:Int) > 0
     ·rw [if_pos c20] at H
      have c20b0:decide (0 < (x0_2.size:Int)) = true:=decide_eq_true c20
      have c20b1:decide (0 < x0_2.size) = true:=decide_eq_true (by omega)
      clear c20
      obtain ⟨ji21,hji21⟩:∃ j_:Int,(wrap64 ((x0_2.size:Int) - 1)) = j_:=⟨_,rfl⟩
      replace H:(if 0 ≤ (ji21) then (if (ji21) < (x0_2.size:Int) then (if 0 ≤ (wrap64 ((x1_2.size:Int) - 1)) then (if (wrap64 ((x1_2.size:Int) - 1)) < (x1_2.size:Int) then (if (bt x0_2 (ji21)) = (bt x1_2 (wrap64 ((x1_2.size:Int) - 1))) then (if (wrap64 ((x1_2.size:Int) - 1)) ≤ (x1_2.size:Int) then (if (x1_2.extract ((wrap64 ((x1_2.size:Int) - 1)):Int).toNat x1_2.size).size + (x1_2.extract 0 ((wrap64 ((x1_2.size:Int) - 1)):Int).toNat).size ≤ 9223372036854775807 then (if (ji21) ≤ (x0_2.size:Int) then (spec_l01Canonical.l2 k2 (x0_2.extract 0 ((ji21):Int).toNat) ((x1_2.extract ((wrap64 ((x1_2.size:Int) - 1)):Int).toNat x1_2.size) ++ (x1_2.extract 0 ((wrap64 ((x1_2.size:Int) - 1)):Int).toNat))) else (none)) else (none)) else (none)) else (some (x0_2,x1_2))) else (none)) else (none)) else (none)) else (none)) = some (r1,r2):=by first|(rw [hji21] at H;exact H)|(simp only [hji21] at H ⊢;exact H)
      have hji21w:(IntKind.i64.wrap ((x0_2.size:Int) - 1)) = ji21:=(i64_w _).trans hji21
      by_cases c22:0 ≤ (ji21)
      ·rw [if_pos c22] at H
       have c22b0:decide (0 ≤ (ji21)) = true:=decide_eq_true c22
       clear c22
       by_cases c23:(ji21) < (x0_2.size:Int)
       ·rw [if_pos c23] at H
        have c23b0:decide ((ji21) < (x0_2.size:Int)) = true:=decide_eq_true c23
        clear c23
        obtain ⟨ji25,hji25⟩:∃ j_:Int,(wrap64 ((x1_2.size:Int) - 1)) = j_:=⟨_,rfl⟩
        replace H:(if 0 ≤ (ji25) then (if (ji25) < (x1_2.size:Int) then (if (bt x0_2 (ji21)) = (bt x1_2 (ji25)) then (if (ji25) ≤ (x1_2.size:Int) then (if (x1_2.extract ((ji25):Int).toNat x1_2.size).size + (x1_2.extract 0 ((ji25):Int).toNat).size ≤ 9223372036854775807 then (if (ji21) ≤ (x0_2.size:Int) then (spec_l01Canonical.l2 k2 (x0_2.extract 0 ((ji21):Int).toNat) ((x1_2.extract ((ji25):Int).toNat x1_2.size) ++ (x1_2.extract 0 ((ji25):Int).toNat))) else (none)) else (none)) else (none)) else (some (x0_2,x1_2))) else (none)) else (none)) = some (r1,r2):=by first|(rw [hji25] at H;exact H)|(simp only [hji25] at H ⊢;exact H)
        have hji25w:(IntKind.i64.wrap ((x1_2.size:Int) - 1)) = ji25:=(i64_w _).trans hji25
        by_cases c26:0 ≤ (ji25)
        ·rw [if_pos c26] at H
         have c26b0:decide (0 ≤ (ji25)) = true:=decide_eq_true c26
         clear c26
         by_cases c27:(ji25) < (x1_2.size:Int)
         ·rw [if_pos c27] at H
          have c27b0:decide ((ji25) < (x1_2.size:Int)) = true:=decide_eq_true c27
          clear c27
          by_cases c29:(bt x0_2 (ji21)) = (bt x1_2 (ji25))
          ·rw [if_pos c29] at H
           have c29b0:((bt x0_2 (ji21)) == (bt x1_2 (ji25))) = true:=beq_iff_eq.mpr c29
           have c29b1:((bt x0_2 (ji21)) != (bt x1_2 (ji25))) = false:=bne_eq_false_iff_eq.mpr c29
           clear c29
           have c30b0:=eq_true (of_decide_eq_true (by first|(with_reducible assumption)|assumption):0 ≤ (ji25))
           by_cases c31:(ji25) ≤ (x1_2.size:Int)
           ·rw [if_pos c31] at H
            have c31b0:=eq_true c31
            have c31b1:decide ((ji25) ≤ (x1_2.size:Int)) = true:=decide_eq_true c31
            clear c31
            have c32b0:=eq_true (of_decide_eq_true (by first|(with_reducible assumption)|assumption):0 ≤ (ji25))
            have c33b0:=eq_true (of_decide_eq_true (by first|(with_reducible assumption)|assumption):(ji25) ≤ (x1_2.size:Int))
            by_cases c34:(x1_2.extract ((ji25):Int).toNat x1_2.size).size + (x1_2.extract 0 ((ji25):Int).toNat).size ≤ 9223372036854775807
            ·rw [if_pos c34] at H
             have c34b0:=eq_true c34
             have c34b1:decide ((x1_2.extract ((ji25):Int).toNat x1_2.size).size + (x1_2.extract 0 ((ji25):Int).toNat).size ≤ 9223372036854775807) = true:=decide_eq_true c34
             try have c34b2:(9223372036854775807 < (x1_2.extract ((ji25):Int).toNat x1_2.size).size + (x1_2.extract 0 ((ji25):Int).toNat).size) = False:=eq_false (Nat.not_lt.2 c34)
             try (have c34b3:=c34;simp at c34b3;have c34b4:=eq_false (Nat.not_lt.2 c34b3))
             have c35b0:=eq_true (of_decide_eq_true (by first|(with_reducible assumption)|assumption):0 ≤ (ji21))
             by_cases c36:(ji21) ≤ (x0_2.size:Int)
             ·rw [if_pos c36] at H
              have c36b0:=eq_true c36
              have c36b1:decide ((ji21) ≤ (x0_2.size:Int)) = true:=decide_eq_true c36
              clear c36
              have H':=aM H
              clear H
              have p24:0 ≤ ((ji21):Int):=of_decide_eq_true (by first|(with_reducible assumption)|assumption)
              have q24:(ji21) < (x0_2.size:Int):=of_decide_eq_true (by first|(with_reducible assumption)|assumption)
              have hx24:=bt_at x0_2 (ji21)
              replace p24:=eq_true p24
              replace q24:=eq_true q24
              have p28:0 ≤ ((ji25):Int):=of_decide_eq_true (by first|(with_reducible assumption)|assumption)
              have q28:(ji25) < (x1_2.size:Int):=of_decide_eq_true (by first|(with_reducible assumption)|assumption)
              have hx28:=bt_at x1_2 (ji25)
              replace p28:=eq_true p28
              replace q28:=eq_true q28
              go_wp2
              repeat (go_quiet (fail);try go_wp2)
              go_roundg k2
              case measure=>have:=HJ2.out;have:=HK2.out;omega
              case rel=>exact ⟨(x0_2.extract 0 ((ji21):Int).toNat),((x1_2.extract ((ji25):Int).toNat x1_2.size) ++ (x1_2.extract 0 ((ji25):Int).toNat)),(by first|rfl|(simp;done)|(simp only [← hji21] <;> (first|rfl|simp))|(simp [*];done)),(by first|rfl|(simp;done)|(simp only [← hji25] <;> (first|rfl|simp))|(simp [*];done)),H',⟨by have:=HJ2.out;have:=HK2.out;omega⟩,⟨by (with_reducible repeat (first|apply yN|apply yD|apply yA));exact BK164.out⟩,⟨by repeat (first|(with_reducible first|exact HB.out|apply zA|apply zN|apply zD|refine zS ?_ GE164.out)|exact HB.out)⟩⟩
             ·rw [if_neg c36] at H
              exact absurd H (by simp)
            ·rw [if_neg c34] at H
             exact absurd H (by simp)
           ·rw [if_neg c31] at H
            exact absurd H (by simp)
          ·rw [if_neg c29] at H
           have c29b0:((bt x0_2 (ji21)) == (bt x1_2 (ji25))) = false:=beq_eq_false_iff_ne.mpr c29
           have c29b1:((bt x0_2 (ji21)) != (bt x1_2 (ji25))) = true:=bne_iff_ne.mpr c29
           simp only [Option.some.injEq,Prod.mk.injEq] at H
           obtain ⟨rfl,rfl⟩:=H
           have p24:0 ≤ ((ji21):Int):=of_decide_eq_true (by first|(with_reducible assumption)|assumption)
           have q24:(ji21) < (x0_2.size:Int):=of_decide_eq_true (by first|(with_reducible assumption)|assumption)
           have hx24:=bt_at x0_2 (ji21)
           replace p24:=eq_true p24
           replace q24:=eq_true q24
           have p28:0 ≤ ((ji25):Int):=of_decide_eq_true (by first|(with_reducible assumption)|assumption)
           have q28:(ji25) < (x1_2.size:Int):=of_decide_eq_true (by first|(with_reducible assumption)|assumption)
           have hx28:=bt_at x1_2 (ji25)
           replace p28:=eq_true p28
           replace q28:=eq_true q28
           have hcz37_0:wr.cell? ⟨gb164,0,none⟩ = some (.string ⟨#[]⟩):=(blk_cell BK164.out 0).trans rfl
           have hcz37_1:wr.cell? ⟨gb164,1,none⟩ = some (.string ⟨#[]⟩):=(blk_cell BK164.out 1).trans rfl
           have hfz37_0:=blk_frozen BK164.out 0
           have hfz37_1:=blk_frozen BK164.out 1
           go_wp2
           repeat (go_quiet (fail);try go_wp2)
           refine bodyPost_ret (results_cell_row rfl _ _ gb164 25 #[.string x0_2,.string x1_2] (0,0) _ rfl (by (with_reducible repeat (first|apply yN|apply yD|apply yA));refine blk_put (cs:=#[.string x0_2,.string ⟨#[]⟩]) ?_ 1 _ rfl;(with_reducible repeat (first|apply yN|apply yD|apply yA));refine blk_put (cs:=#[.string ⟨#[]⟩,.string ⟨#[]⟩]) ?_ 0 _ rfl;(with_reducible repeat (first|apply yN|apply yD|apply yA));exact BK164.out) Try.underlying25 rfl (by kernel_rfl)) rfl ?_
           exact ⟨by first|rfl|(simp [errW_none,errW_some] <;> rfl)|(simp only [← hji21,← hji25];first|rfl|(simp [errW_none,errW_some] <;> rfl))|(simp [*,errW_none,errW_some] <;> rfl),by repeat (first|(with_reducible first|exact HB.out|apply zA|apply zN|apply zD|refine zS ?_ GE164.out)|exact HB.out)⟩
         ·rw [if_neg c27] at H
          exact absurd H (by simp)
        ·rw [if_neg c26] at H
         exact absurd H (by simp)
       ·rw [if_neg c23] at H
        exact absurd H (by simp)
      ·rw [if_neg c22] at H
       exact absurd H (by simp)
     ·rw [if_neg c20] at H
      have c20b0:decide (0 < (x0_2.size:Int)) = false:=decide_eq_false c20
      have c20b1:decide (0 < x0_2.size) = false:=decide_eq_false (by omega)
      clear c20
      simp only [Option.some.injEq,Prod.mk.injEq] at H
      obtain ⟨rfl,rfl⟩:=H
      have hcz38_0:wr.cell? ⟨gb164,0,none⟩ = some (.string ⟨#[]⟩):=(blk_cell BK164.out 0).trans rfl
      have hcz38_1:wr.cell? ⟨gb164,1,none⟩ = some (.string ⟨#[]⟩):=(blk_cell BK164.out 1).trans rfl
      have hfz38_0:=blk_frozen BK164.out 0
      have hfz38_1:=blk_frozen BK164.out 1
      go_wp2
      repeat (go_quiet (fail);try go_wp2)
      refine bodyPost_ret (results_cell_row rfl _ _ gb164 25 #[.string x0_2,.string x1_2] (0,0) _ rfl (by (with_reducible repeat (first|apply yN|apply yD|apply yA));refine blk_put (cs:=#[.string x0_2,.string ⟨#[]⟩]) ?_ 1 _ rfl;(with_reducible repeat (first|apply yN|apply yD|apply yA));refine blk_put (cs:=#[.string ⟨#[]⟩,.string ⟨#[]⟩]) ?_ 0 _ rfl;(with_reducible repeat (first|apply yN|apply yD|apply yA));exact BK164.out) Try.underlying25 rfl (by kernel_rfl)) rfl ?_
      exact ⟨by first|rfl|(simp [errW_none,errW_some] <;> rfl)|(simp [*,errW_none,errW_some] <;> rfl),by repeat (first|(with_reducible first|exact HB.out|apply zA|apply zN|apply zD|refine zS ?_ GE164.out)|exact HB.out)⟩
theorem eqA59 (d:Nat) (w:World) (x0 y0:Int) (x1 y1:Int) :
  (Op.equalIn (d + 2) 59 (.agg #[.int .i64 x0,.int .i64 x1]) (.agg #[.int .i64 y0,.int .i64 y1])).run Try.prog w = .ok (x0 == y0 && (x1 == y1)) w:=by
 refine eqA_of Try.underlying59 (by kernel_rfl) ?_
 refine eqf_cons (by rfl) (by go_simp;rfl) (by go_simp;rfl) (by go_simp) ?_
 exact eqf_last (by rfl) (by go_simp;rfl) (by go_simp;rfl) (by go_simp)
def spec_l01Double.f (k:Nat) (a0_0:Int) (a0_1:Int):Option (Int × Int):=(spec_l01Of.f k (wrap64 (2 * a0_0)) a0_1).bind fun bt167=>(some (bt167.1,bt167.2))
theorem spec_l01Double.mono:∀ a0 a1 k,LeO (spec_l01Double.f k a0 a1) (spec_l01Double.f (k + 1) a0 a1):=by
 intro a0 a1 k
 unfold spec_l01Double.f
 repeat' first
   | (with_reducible exact spec_l01Of.mono _ _ _)
   | (with_reducible exact LeO.refl _)
   | (with_reducible exact LeO.none _)
   | (with_reducible refine LeO.ite ?_ ?_)
   | (with_reducible refine LeO.bind ?_ (fun _=>?_))
   | exact spec_l01Of.mono _ _ _
   | exact LeO.none _
   | refine LeO.ite ?_ ?_
   | refine LeO.bind ?_ (fun _=>?_)
set_option maxHeartbeats 8000000 in
set_option maxRecDepth 100000 in
theorem spec_l01Double.calls (k:Nat) (a0_0:Int) (a0_1:Int) (r1:Int) (r2:Int) (w:World) (h:spec_l01Double.f k a0_0 a0_1 = some (r1,r2)) :
  Calls Try.prog 60 #[.agg #[.int .i64 a0_0,.int .i64 a0_1]] w fun e w'=>e = .returned (.agg #[.int .i64 r1,.int .i64 r2]) ∧ Below w.heap.size w w':=by
 have hu59:=Try.underlying59
 have HB:=aM (Below.refl w.heap.size w)
 have H:((spec_l01Of.f k (wrap64 (2 * a0_0)) a0_1).bind fun bt167=>(some (bt167.1,bt167.2))) = some (r1,r2):=h
 clear h
 replace H:=Option.bind_eq_some_iff.mp H
 obtain ⟨⟨t167,t168⟩,A20,H⟩:=H
 replace H:(some (t167,t168)) = some (r1,r2):=H
 have A2:=aM A20
 clear A20
 simp only [Option.some.injEq,Prod.mk.injEq] at H
 obtain ⟨rfl,rfl⟩:=H
 go_enter Try.func60,Try.ntmps60
 go_wp2_with (first|((with_reducible refine gate_dst (N:=1) rfl ?_);refine box_event ?hg (N:=1) ?hd (cs:=#[.int .i64 a0_0,.int .i64 a0_1]) (t:=59) ?hr ?_;(case hd=>rfl);(case hg=>rfl);(case hr=>first|(go_simp;done)|(go_simp;rfl));intro gb165 hg w3 hbox hb;have n0_:=aM (below_step (by repeat (first|(with_reducible first|exact HB.out|apply zA|apply zN|apply zD)|exact HB.out)) hb);have n1_:=aM (hbox);have n2_:=aM ((by rw [hg];exact (below_size (by repeat (first|(with_reducible first|exact HB.out|apply zA|apply zN|apply zD)|exact HB.out))):w.heap.size ≤ gb165));have n3_:=aM ((by rw [hg];exact (below_size (by repeat (first|(with_reducible first|exact HB.out|apply zA|apply zN|apply zD)|exact HB.out))):w.heap.size ≤ gb165));clear HB;have HB:=n0_;have BK165:=n1_;have GW165:=n2_;have GE165:=n3_;clear n0_ n1_ n2_ n3_;clear hb hbox hg)|((with_reducible refine gate_dst (N:=2) rfl ?_);refine box_event ?hg (N:=2) ?hd (cs:=#[.int .i64 0,.int .i64 0]) (t:=59) ?hr ?_;(case hd=>rfl);(case hg=>rfl);(case hr=>first|(go_simp;done)|(go_simp;rfl));intro gb166 hg w4 hbox hb;have n0_:=aM (blk_below (g:=gb165) (o:=.cells #[.int .i64 a0_0,.int .i64 a0_1] 59 (0,0)) (by (with_reducible repeat (first|apply yN|apply yD|apply yA));exact BK165.out) hb);have n1_:=aM (below_step (by repeat (first|(with_reducible first|exact HB.out|apply zA|apply zN|apply zD|refine zS ?_ GE165.out)|exact HB.out)) hb);have n2_:=aM (hbox);have n3_:=aM ((by rw [hg];exact (below_size (by repeat (first|(with_reducible first|exact HB.out|apply zA|apply zN|apply zD|refine zS ?_ GE165.out)|exact HB.out))):w.heap.size ≤ gb166));have n4_:=aM ((by rw [hg];exact (below_size (by repeat (first|(with_reducible first|exact HB.out|apply zA|apply zN|apply zD|refine zS ?_ GE165.out)|exact HB.out))):w.heap.size ≤ gb166));have n5_:=aM ((by rw [hg];exact Nat.ne_of_lt (blk_lt (g:=gb165) (o:=.cells #[.int .i64 a0_0,.int .i64 a0_1] 59 (0,0)) (by (with_reducible repeat (first|apply yN|apply yD|apply yA));exact BK165.out)):gb165 ≠ gb166));have n6_:=aM ((by rw [hg];exact Nat.ne_of_gt (blk_lt (g:=gb165) (o:=.cells #[.int .i64 a0_0,.int .i64 a0_1] 59 (0,0)) (by (with_reducible repeat (first|apply yN|apply yD|apply yA));exact BK165.out)):gb166 ≠ gb165));clear BK165;clear HB;have BK165:=n0_;have HB:=n1_;have BK166:=n2_;have GW166:=n3_;have GE166:=n4_;have NB165_166:=n5_;have NB166_165:=n6_;clear n0_ n1_ n2_ n3_ n4_ n5_ n6_;clear hb hbox hg;have hnb5:=NB165_166.out;have hnc5:=NB166_165.out;have hcz6_0:w4.cell? ⟨gb165,0,none⟩ = some (.int .i64 a0_0):=(blk_cell BK165.out 0).trans rfl;have hcz6_1:w4.cell? ⟨gb165,1,none⟩ = some (.int .i64 a0_1):=(blk_cell BK165.out 1).trans rfl;have hfz6_0:=blk_frozen BK165.out 0;have hfz6_1:=blk_frozen BK165.out 1)|((with_reducible refine gate_callee (f:=44) rfl ?_);refine goesL_ (some 8) rfl rfl Try.func44 (by kernel_rfl) rfl #[.int .i64 (wrap64 (2 * a0_0)),.int .i64 a0_1] rfl (by (try simp only [sM,sC,sN]);first|done|rfl|(simp only [List.length_drop,List.length_take];rfl)) ?_;(with_reducible refine (spec_l01Of.calls k (wrap64 (2 * a0_0)) a0_1 t167 t168 _ A2.out).mono ?_);rintro e w7 ⟨rfl,hb⟩;refine ⟨_,rfl,?_⟩;replace BK165:=aM (blk_below (g:=gb165) (o:=.cells #[.int .i64 a0_0,.int .i64 a0_1] 59 (0,0)) (by (with_reducible repeat (first|apply yN|apply yD|apply yA));exact BK165.out) hb);replace BK166:=aM (blk_below (g:=gb166) (o:=.cells #[.int .i64 0,.int .i64 0] 59 (0,0)) (by (with_reducible repeat (first|apply yN|apply yD|apply yA));exact BK166.out) hb);replace HB:=aM (below_step (by repeat (first|(with_reducible first|exact HB.out|apply zA|apply zN|apply zD|refine zS ?_ GE165.out|refine zS ?_ GE166.out)|exact HB.out)) hb);(try clear hb);(try clear hb2);(try clear hk);(try clear hi);have hcz8_0:w7.cell? ⟨gb166,0,none⟩ = some (.int .i64 0):=(blk_cell BK166.out 0).trans rfl;have hcz8_1:w7.cell? ⟨gb166,1,none⟩ = some (.int .i64 0):=(blk_cell BK166.out 1).trans rfl;have hfz8_0:=blk_frozen BK166.out 0;have hfz8_1:=blk_frozen BK166.out 1))
 refine bodyPost_ret (results_cell_row rfl _ _ gb166 59 #[.int .i64 t167,.int .i64 t168] (0,0) _ rfl (by (with_reducible repeat (first|apply yN|apply yD|apply yA));refine blk_put (cs:=#[.int .i64 t167,.int .i64 0]) ?_ 1 _ rfl;(with_reducible repeat (first|apply yN|apply yD|apply yA));refine blk_put (cs:=#[.int .i64 0,.int .i64 0]) ?_ 0 _ rfl;(with_reducible repeat (first|apply yN|apply yD|apply yA));exact BK166.out) Try.underlying59 rfl (by kernel_rfl)) rfl ?_
 exact ⟨by first|rfl|(simp [errW_none,errW_some] <;> rfl)|(simp [*,errW_none,errW_some] <;> rfl),by repeat (first|(with_reducible first|exact HB.out|apply zA|apply zN|apply zD|refine zS ?_ GE165.out|refine zS ?_ GE166.out)|exact HB.out)⟩
end Go.Proofs.Ytccinmopfchjlaa.Q
end
section
namespace Go.Proofs.Ytccinmopfchjlaa.Q
open Go.Proofs.YtccinmopfchjlaaW.Ext
open Go.RowKit Go.Proofs.YtccinmopfchjlaaW.PrintWords Go.Proofs.YtccinmopfchjlaaW.PrintLast Go.Proofs.YtccinmopfchjlaaW.PrintMore
attribute [local go_sem] max2_int min2_int max_two min_two max_three min_three max_four min_four   -- for this text's walks alone
set_option linter.unusedVariables false
set_option linter.unusedSimpArgs false
attribute [local go_sem high] eqA59
mutual
def spec_l01Orbit.l0:Nat → Int → Int → Int → Int → Option ((List (S59)) × Int × Bool)
 | 0,_,_,_,_=>none
 | k + 1,x5,x6,x170000,x170001=>if (Int.tmod x6 2) = 0 then (spec_l01Orbit.l0 k (wrap64 (x5 + 1)) (wrap64 (Int.tdiv x6 2)) x170000 x170001) else (spec_l01Orbit.l1 k x5 (([]:List (S59))) x170000 x170001)
def spec_l01Orbit.l1:Nat → Int → List (S59) → Int → Int → Option ((List (S59)) × Int × Bool)
 | 0,_,_,_,_=>none
 | k + 1,x5,x7,x174000,x174001=>if (x7.length:Int) > x5 then (if 0 ≤ x5 then (if x5 < (x7.length:Int) then (spec_l01Orbit.j2 k x5 x7 (x174000 == ((rd_T59 x7 x5).f0) && (x174001 == ((rd_T59 x7 x5).f1))) x174000 x174001) else (none)) else (none)) else (spec_l01Orbit.j2 k x5 x7 false x174000 x174001)
def spec_l01Orbit.j2:Nat → Int → List (S59) → Bool → Int → Int → Option ((List (S59)) × Int × Bool)
 | 0,_,_,_,_,_=>none
 | k + 1,x5,x7,x33,x174000,x174001=>if x33 = true then (some (x7,x5,true)) else (if (x7.length:Int) = 64 then (some (([]:List (S59)),0,false)) else (if x7.length < 8796093022208 then ((spec_l01Double.f k x174000 x174001).bind fun bt179=>(spec_l01Orbit.l1 k x5 (x7 ++ [(⟨x174000,x174001⟩:S59)]) bt179.1 bt179.2)) else (none)))
end
def spec_l01Orbit.f (k:Nat) (a0_0:Int) (a0_1:Int):Option ((List (S59)) × Int × Bool):=spec_l01Orbit.l0 k 0 a0_1 a0_0 a0_1
theorem spec_l01Orbit.mono_l:∀ k,(∀ y0 y1 y2 y3,LeO (spec_l01Orbit.l0 k y0 y1 y2 y3) (spec_l01Orbit.l0 (k + 1) y0 y1 y2 y3)) ∧ (∀ y0 y1 y2 y3,LeO (spec_l01Orbit.l1 k y0 y1 y2 y3) (spec_l01Orbit.l1 (k + 1) y0 y1 y2 y3)) ∧ (∀ y0 y1 y2 y3 y4,LeO (spec_l01Orbit.j2 k y0 y1 y2 y3 y4) (spec_l01Orbit.j2 (k + 1) y0 y1 y2 y3 y4))
 | 0=>⟨fun _ _ _ _ r h=>by simp [spec_l01Orbit.l0] at h,fun _ _ _ _ r h=>by simp [spec_l01Orbit.l1] at h,fun _ _ _ _ _ r h=>by simp [spec_l01Orbit.j2] at h⟩
 | k + 1=>by
  obtain ⟨ih0,ih1,ih2⟩:=spec_l01Orbit.mono_l k
  refine ⟨?_,?_,?_⟩
  ·intro y0 y1 y2 y3
   unfold spec_l01Orbit.l0
   repeat' first
   | (with_reducible exact ih0 _ _ _ _)
   | (with_reducible exact ih1 _ _ _ _)
   | (with_reducible exact ih2 _ _ _ _ _)
   | (with_reducible exact spec_l01Double.mono _ _ _)
   | (with_reducible exact LeO.refl _)
   | (with_reducible exact LeO.none _)
   | (with_reducible refine LeO.ite ?_ ?_)
   | (with_reducible refine LeO.bind ?_ (fun _=>?_))
   | exact ih0 _ _ _ _
   | exact ih1 _ _ _ _
   | exact ih2 _ _ _ _ _
   | exact spec_l01Double.mono _ _ _
   | exact LeO.none _
   | refine LeO.ite ?_ ?_
   | refine LeO.bind ?_ (fun _=>?_)
  ·intro y0 y1 y2 y3
   unfold spec_l01Orbit.l1
   repeat' first
   | (with_reducible exact ih0 _ _ _ _)
   | (with_reducible exact ih1 _ _ _ _)
   | (with_reducible exact ih2 _ _ _ _ _)
   | (with_reducible exact spec_l01Double.mono _ _ _)
   | (with_reducible exact LeO.refl _)
   | (with_reducible exact LeO.none _)
   | (with_reducible refine LeO.ite ?_ ?_)
   | (with_reducible refine LeO.bind ?_ (fun _=>?_))
   | exact ih0 _ _ _ _
   | exact ih1 _ _ _ _
   | exact ih2 _ _ _ _ _
   | exact spec_l01Double.mono _ _ _
   | exact LeO.none _
   | refine LeO.ite ?_ ?_
   | refine LeO.bind ?_ (fun _=>?_)
  ·intro y0 y1 y2 y3 y4
   unfold spec_l01Orbit.j2
   repeat' first
   | (with_reducible exact ih0 _ _ _ _)
   | (with_reducible exact ih1 _ _ _ _)
   | (with_reducible exact ih2 _ _ _ _ _)
   | (with_reducible exact spec_l01Double.mono _ _ _)
   | (with_reducible exact LeO.refl _)
   | (with_reducible exact LeO.none _)
   | (with_reducible refine LeO.ite ?_ ?_)
   | (with_reducible refine LeO.bind ?_ (fun _=>?_))
   | exact ih0 _ _ _ _
   | exact ih1 _ _ _ _
   | exact ih2 _ _ _ _ _
   | exact spec_l01Double.mono _ _ _
   | exact LeO.none _
   | refine LeO.ite ?_ ?_
   | refine LeO.bind ?_ (fun _=>?_)
theorem spec_l01Orbit.mono:∀ a0 a1 k,LeO (spec_l01Orbit.f k a0 a1) (spec_l01Orbit.f (k + 1) a0 a1):=by
 intro a0 a1 k
 obtain ⟨ih0,ih1,ih2⟩:=spec_l01Orbit.mono_l k
 unfold spec_l01Orbit.f
 repeat' first
   | (with_reducible exact ih0 _ _ _ _)
   | (with_reducible exact ih1 _ _ _ _)
   | (with_reducible exact ih2 _ _ _ _ _)
   | (with_reducible exact spec_l01Double.mono _ _ _)
   | (with_reducible exact LeO.refl _)
   | (with_reducible exact LeO.none _)
   | (with_reducible refine LeO.ite ?_ ?_)
   | (with_reducible refine LeO.bind ?_ (fun _=>?_))
   | exact ih0 _ _ _ _
   | exact ih1 _ _ _ _
   | exact ih2 _ _ _ _ _
   | exact spec_l01Double.mono _ _ _
   | exact LeO.none _
   | refine LeO.ite ?_ ?_
   | refine LeO.bind ?_ (fun _=>?_)
set_option maxHeartbeats 8000000 in
set_option maxRecDepth 100000 in
theorem spec_l01Orbit.calls (k:Nat) (a0_0:Int) (a0_1:Int) (r1:List (S59)) (r2:Int) (r3:Bool) (w:World) (h:spec_l01Orbit.f k a0_0 a0_1 = some (r1,r2,r3)) :
  Calls Try.prog 45 #[.agg #[.int .i64 a0_0,.int .i64 a0_1]] w fun e w'=>∃ v0_:Value,e = .returned (.tuple #[v0_,.int .i64 r2,.bool r3]) ∧ Kd.R k59 59 w' w.heap.size (fun _=>True) v0_ r1 ∧ Below w.heap.size w w':=by
 have hu59:=Try.underlying59
 have HB:=aM (Below.refl w.heap.size w)
 have H:(spec_l01Orbit.l0 k 0 a0_1 a0_0 a0_1) = some (r1,r2,r3):=h
 clear h
 have H':=aM H
 clear H
 go_enter Try.func45,Try.ntmps45
 go_wp2_with (first|((with_reducible refine gate_dst (N:=1) rfl ?_);refine box_event ?hg (N:=1) ?hd (cs:=#[.int .i64 a0_0,.int .i64 a0_1]) (t:=59) ?hr ?_;(case hd=>rfl);(case hg=>rfl);(case hr=>first|(go_simp;done)|(go_simp;rfl));intro gb169 hg w2 hbox hb;have n0_:=aM (below_step HB.out hb);have n1_:=aM (hbox);have n2_:=aM ((by rw [hg];exact (below_size HB.out):w.heap.size ≤ gb169));have n3_:=aM ((by rw [hg];exact (below_size HB.out):w.heap.size ≤ gb169));clear HB;have HB:=n0_;have BK169:=n1_;have GW169:=n2_;have GE169:=n3_;clear n0_ n1_ n2_ n3_;clear hb hbox hg;have hcz3_0:w2.cell? ⟨gb169,0,none⟩ = some (.int .i64 a0_0):=(blk_cell BK169.out 0).trans rfl;have hcz3_1:w2.cell? ⟨gb169,1,none⟩ = some (.int .i64 a0_1):=(blk_cell BK169.out 1).trans rfl;have hfz3_0:=blk_frozen BK169.out 0;have hfz3_1:=blk_frozen BK169.out 1))
 repeat (go_quiet (first|((with_reducible refine gate_dst (N:=1) rfl ?_);refine box_event ?hg (N:=1) ?hd (cs:=#[.int .i64 a0_0,.int .i64 a0_1]) (t:=59) ?hr ?_;(case hd=>rfl);(case hg=>rfl);(case hr=>first|(go_simp;done)|(go_simp;rfl));intro gb169 hg w2 hbox hb;have n0_:=aM (below_step HB.out hb);have n1_:=aM (hbox);have n2_:=aM ((by rw [hg];exact (below_size HB.out):w.heap.size ≤ gb169));have n3_:=aM ((by rw [hg];exact (below_size HB.out):w.heap.size ≤ gb169));clear HB;have HB:=n0_;have BK169:=n1_;have GW169:=n2_;have GE169:=n3_;clear n0_ n1_ n2_ n3_;clear hb hbox hg;have hcz3_0:w2.cell? ⟨gb169,0,none⟩ = some (.int .i64 a0_0):=(blk_cell BK169.out 0).trans rfl;have hcz3_1:w2.cell? ⟨gb169,1,none⟩ = some (.int .i64 a0_1):=(blk_cell BK169.out 1).trans rfl;have hfz3_0:=blk_frozen BK169.out 0;have hfz3_1:=blk_frozen BK169.out 1));try go_wp2_with (first|((with_reducible refine gate_dst (N:=1) rfl ?_);refine box_event ?hg (N:=1) ?hd (cs:=#[.int .i64 a0_0,.int .i64 a0_1]) (t:=59) ?hr ?_;(case hd=>rfl);(case hg=>rfl);(case hr=>first|(go_simp;done)|(go_simp;rfl));intro gb169 hg w2 hbox hb;have n0_:=aM (below_step HB.out hb);have n1_:=aM (hbox);have n2_:=aM ((by rw [hg];exact (below_size HB.out):w.heap.size ≤ gb169));have n3_:=aM ((by rw [hg];exact (below_size HB.out):w.heap.size ≤ gb169));clear HB;have HB:=n0_;have BK169:=n1_;have GW169:=n2_;have GE169:=n3_;clear n0_ n1_ n2_ n3_;clear hb hbox hg;have hcz3_0:w2.cell? ⟨gb169,0,none⟩ = some (.int .i64 a0_0):=(blk_cell BK169.out 0).trans rfl;have hcz3_1:w2.cell? ⟨gb169,1,none⟩ = some (.int .i64 a0_1):=(blk_cell BK169.out 1).trans rfl;have hfz3_0:=blk_frozen BK169.out 0;have hfz3_1:=blk_frozen BK169.out 1)))
 go_loopg [5,6] k (fun kq v5 v6 w'=>∃ (x5_1:Int) (x6_1:Int),v5 = .int .i64 x5_1 ∧ v6 = .int .i64 x6_1 ∧ Aside0 (spec_l01Orbit.l0 kq x5_1 x6_1 a0_0 a0_1 = some (r1,r2,r3)) ∧ Aside0 (kq ≤ k) ∧ Aside0 (w'.heap[gb169]? = some (.cells #[.int .i64 a0_0,.int .i64 a0_1] 59 (0,0))) ∧ Aside0 (Below w.heap.size w w'))
 case atStart=>exact ⟨(0),(a0_1),(by first|rfl|(simp;done)|(simp [*];done)),(by first|rfl|(simp;done)|(simp [*];done)),H',⟨Nat.le_refl _⟩,⟨BK169.out⟩,⟨HB.out⟩⟩
 case round =>
  clear H'
  try clear p2
  try clear hcz3_0
  try clear hcz3_1
  try clear hfz3_0
  try clear hfz3_1
  obtain ⟨x5_1,x6_1,rfl,rfl,HA,HK1,BK169,HB⟩:=hrel
  cases gk with
  | zero=>exact absurd HA.out (by simp [spec_l01Orbit.l0])
  | succ k1 =>
   have H:=HA.out
   clear HA
   simp only [spec_l01Orbit.l0] at H
   by_cases c4:(Int.tmod x6_1 2) = 0
   ·rw [if_pos c4] at H
    have c4b0:((Int.tmod x6_1 2) == 0) = true:=beq_iff_eq.mpr c4
    have c4b1:((Int.tmod x6_1 2) != 0) = false:=bne_eq_false_iff_eq.mpr c4
    clear c4
    have H':=aM H
    clear H
    go_wp2
    repeat (go_quiet (fail);try go_wp2)
    go_roundg k1
    case measure=>have:=HK1.out;omega
    case rel=>exact ⟨(wrap64 (x5_1 + 1)),(wrap64 (Int.tdiv x6_1 2)),(by first|rfl|(simp;done)|(simp [*];done)),(by first|rfl|(simp;done)|(simp [*];done)),H',⟨by have:=HK1.out;omega⟩,⟨BK169.out⟩,⟨HB.out⟩⟩
   ·rw [if_neg c4] at H
    have c4b0:((Int.tmod x6_1 2) == 0) = false:=beq_eq_false_iff_ne.mpr c4
    have c4b1:((Int.tmod x6_1 2) != 0) = true:=bne_iff_ne.mpr c4
    obtain ⟨y170,hy170⟩:∃ y_:List (S59),y_ = (([]:List (S59))):=⟨_,rfl⟩
    replace H:(spec_l01Orbit.l1 k1 x5_1 y170 a0_0 a0_1) = some (r1,r2,r3):=by first|(rw [hy170];with_reducible exact H)|(have H2_:=(Option.bind_some _ _).symm.trans H;rw [hy170];with_reducible exact H2_)|(have H2_:=(Option.bind_some _ _).symm.trans H;with_reducible exact H2_)|with_reducible exact H|(rw [hy170];exact H)|exact H
    have Ny170:=aM hy170
    clear hy170
    have H':=aM H
    clear H
    go_wp2_with (first|((with_reducible refine gate_dst (N:=18) rfl ?_);refine Kd.R_lit k59 _ 59 ?hg (N:=18) ?hd (xs:=([]:List (S59))) (inner:=[]) (ok:=fun _=>True) (okp:=fun _=>True) ?hr ?hp (fun _ hk=>hk) trivial (Below.refl _ _) (Nat.le_refl _) (by simp) ?_;(case hd=>rfl);(case hg=>rfl);(case hr=>first|(go_simp;done)|(go_simp;rfl));(case hp=>exact (Reps.none _ _));intro v171 w5 ho6 hb hg_ hnew_;clear hg_ hnew_;(first|rw [← Ny170.out] at ho6|(simp only [Int.reduceToNat] at ho6;rw [← Ny170.out] at ho6));have HO172:=aM (Kd.R_lower (Kd.R_newB ho6 (g:=gb169) (o:=.cells #[.int .i64 a0_0,.int .i64 a0_1] 59 (0,0)) BK169.out) (below_size HB.out));replace BK169:=aM (blk_below (g:=gb169) (o:=.cells #[.int .i64 a0_0,.int .i64 a0_1] 59 (0,0)) BK169.out hb);replace HB:=aM (below_step HB.out hb);clear hb ho6;have hcz7_0:w5.cell? ⟨gb169,0,none⟩ = some (.int .i64 a0_0):=(blk_cell BK169.out 0).trans rfl;have hcz7_1:w5.cell? ⟨gb169,1,none⟩ = some (.int .i64 a0_1):=(blk_cell BK169.out 1).trans rfl;have hfz7_0:=blk_frozen BK169.out 0;have hfz7_1:=blk_frozen BK169.out 1)|((with_reducible refine gate_dst (N:=8) rfl ?_);refine box_event ?hg (N:=8) ?hd (cs:=#[.int .i64 0,.int .i64 0]) (t:=59) ?hr ?_;(case hd=>rfl);(case hg=>rfl);(case hr=>first|(go_simp;done)|(go_simp;rfl));intro gb173 hg w8 hbox hb;have n0_:=aM (Kd.R_below (Kd.R_elderB HO172.out gb173 (Nat.le_of_eq hg.symm)) hb);have n1_:=aM (blk_below (g:=gb169) (o:=.cells #[.int .i64 a0_0,.int .i64 a0_1] 59 (0,0)) BK169.out hb);have n2_:=aM (below_step HB.out hb);have n3_:=aM (hbox);have n4_:=aM ((by rw [hg];exact (below_size HB.out):w.heap.size ≤ gb173));have n5_:=aM ((by rw [hg];exact (below_size HB.out):w.heap.size ≤ gb173));have n6_:=aM ((by rw [hg];exact Nat.ne_of_lt (blk_lt (g:=gb169) (o:=.cells #[.int .i64 a0_0,.int .i64 a0_1] 59 (0,0)) BK169.out):gb169 ≠ gb173));have n7_:=aM ((by rw [hg];exact Nat.ne_of_gt (blk_lt (g:=gb169) (o:=.cells #[.int .i64 a0_0,.int .i64 a0_1] 59 (0,0)) BK169.out):gb173 ≠ gb169));clear HO172;clear BK169;clear HB;have HO172:=n0_;have BK169:=n1_;have HB:=n2_;have BK173:=n3_;have GW173:=n4_;have GE173:=n5_;have NB169_173:=n6_;have NB173_169:=n7_;clear n0_ n1_ n2_ n3_ n4_ n5_ n6_ n7_;clear hb hbox hg;have hnb9:=NB173_169.out;have hnc9:=NB169_173.out;have hcz10_0:w8.cell? ⟨gb173,0,none⟩ = some (.int .i64 0):=(blk_cell BK173.out 0).trans rfl;have hcz10_1:w8.cell? ⟨gb173,1,none⟩ = some (.int .i64 0):=(blk_cell BK173.out 1).trans rfl;have hfz10_0:=blk_frozen BK173.out 0;have hfz10_1:=blk_frozen BK173.out 1))
    repeat (go_quiet (first|((with_reducible refine gate_dst (N:=18) rfl ?_);refine Kd.R_lit k59 _ 59 ?hg (N:=18) ?hd (xs:=([]:List (S59))) (inner:=[]) (ok:=fun _=>True) (okp:=fun _=>True) ?hr ?hp (fun _ hk=>hk) trivial (Below.refl _ _) (Nat.le_refl _) (by simp) ?_;(case hd=>rfl);(case hg=>rfl);(case hr=>first|(go_simp;done)|(go_simp;rfl));(case hp=>exact (Reps.none _ _));intro v171 w5 ho6 hb hg_ hnew_;clear hg_ hnew_;(first|rw [← Ny170.out] at ho6|(simp only [Int.reduceToNat] at ho6;rw [← Ny170.out] at ho6));have HO172:=aM (Kd.R_lower (Kd.R_newB ho6 (g:=gb169) (o:=.cells #[.int .i64 a0_0,.int .i64 a0_1] 59 (0,0)) BK169.out) (below_size HB.out));replace BK169:=aM (blk_below (g:=gb169) (o:=.cells #[.int .i64 a0_0,.int .i64 a0_1] 59 (0,0)) BK169.out hb);replace HB:=aM (below_step HB.out hb);clear hb ho6;have hcz7_0:w5.cell? ⟨gb169,0,none⟩ = some (.int .i64 a0_0):=(blk_cell BK169.out 0).trans rfl;have hcz7_1:w5.cell? ⟨gb169,1,none⟩ = some (.int .i64 a0_1):=(blk_cell BK169.out 1).trans rfl;have hfz7_0:=blk_frozen BK169.out 0;have hfz7_1:=blk_frozen BK169.out 1)|((with_reducible refine gate_dst (N:=8) rfl ?_);refine box_event ?hg (N:=8) ?hd (cs:=#[.int .i64 0,.int .i64 0]) (t:=59) ?hr ?_;(case hd=>rfl);(case hg=>rfl);(case hr=>first|(go_simp;done)|(go_simp;rfl));intro gb173 hg w8 hbox hb;have n0_:=aM (Kd.R_below (Kd.R_elderB HO172.out gb173 (Nat.le_of_eq hg.symm)) hb);have n1_:=aM (blk_below (g:=gb169) (o:=.cells #[.int .i64 a0_0,.int .i64 a0_1] 59 (0,0)) BK169.out hb);have n2_:=aM (below_step HB.out hb);have n3_:=aM (hbox);have n4_:=aM ((by rw [hg];exact (below_size HB.out):w.heap.size ≤ gb173));have n5_:=aM ((by rw [hg];exact (below_size HB.out):w.heap.size ≤ gb173));have n6_:=aM ((by rw [hg];exact Nat.ne_of_lt (blk_lt (g:=gb169) (o:=.cells #[.int .i64 a0_0,.int .i64 a0_1] 59 (0,0)) BK169.out):gb169 ≠ gb173));have n7_:=aM ((by rw [hg];exact Nat.ne_of_gt (blk_lt (g:=gb169) (o:=.cells #[.int .i64 a0_0,.int .i64 a0_1] 59 (0,0)) BK169.out):gb173 ≠ gb169));clear HO172;clear BK169;clear HB;have HO172:=n0_;have BK169:=n1_;have HB:=n2_;have BK173:=n3_;have GW173:=n4_;have GE173:=n5_;have NB169_173:=n6_;have NB173_169:=n7_;clear n0_ n1_ n2_ n3_ n4_ n5_ n6_ n7_;clear hb hbox hg;have hnb9:=NB173_169.out;have hnc9:=NB169_173.out;have hcz10_0:w8.cell? ⟨gb173,0,none⟩ = some (.int .i64 0):=(blk_cell BK173.out 0).trans rfl;have hcz10_1:w8.cell? ⟨gb173,1,none⟩ = some (.int .i64 0):=(blk_cell BK173.out 1).trans rfl;have hfz10_0:=blk_frozen BK173.out 0;have hfz10_1:=blk_frozen BK173.out 1));try go_wp2_with (first|((with_reducible refine gate_dst (N:=18) rfl ?_);refine Kd.R_lit k59 _ 59 ?hg (N:=18) ?hd (xs:=([]:List (S59))) (inner:=[]) (ok:=fun _=>True) (okp:=fun _=>True) ?hr ?hp (fun _ hk=>hk) trivial (Below.refl _ _) (Nat.le_refl _) (by simp) ?_;(case hd=>rfl);(case hg=>rfl);(case hr=>first|(go_simp;done)|(go_simp;rfl));(case hp=>exact (Reps.none _ _));intro v171 w5 ho6 hb hg_ hnew_;clear hg_ hnew_;(first|rw [← Ny170.out] at ho6|(simp only [Int.reduceToNat] at ho6;rw [← Ny170.out] at ho6));have HO172:=aM (Kd.R_lower (Kd.R_newB ho6 (g:=gb169) (o:=.cells #[.int .i64 a0_0,.int .i64 a0_1] 59 (0,0)) BK169.out) (below_size HB.out));replace BK169:=aM (blk_below (g:=gb169) (o:=.cells #[.int .i64 a0_0,.int .i64 a0_1] 59 (0,0)) BK169.out hb);replace HB:=aM (below_step HB.out hb);clear hb ho6;have hcz7_0:w5.cell? ⟨gb169,0,none⟩ = some (.int .i64 a0_0):=(blk_cell BK169.out 0).trans rfl;have hcz7_1:w5.cell? ⟨gb169,1,none⟩ = some (.int .i64 a0_1):=(blk_cell BK169.out 1).trans rfl;have hfz7_0:=blk_frozen BK169.out 0;have hfz7_1:=blk_frozen BK169.out 1)|((with_reducible refine gate_dst (N:=8) rfl ?_);refine box_event ?hg (N:=8) ?hd (cs:=#[.int .i64 0,.int .i64 0]) (t:=59) ?hr ?_;(case hd=>rfl);(case hg=>rfl);(case hr=>first|(go_simp;done)|(go_simp;rfl));intro gb173 hg w8 hbox hb;have n0_:=aM (Kd.R_below (Kd.R_elderB HO172.out gb173 (Nat.le_of_eq hg.symm)) hb);have n1_:=aM (blk_below (g:=gb169) (o:=.cells #[.int .i64 a0_0,.int .i64 a0_1] 59 (0,0)) BK169.out hb);have n2_:=aM (below_step HB.out hb);have n3_:=aM (hbox);have n4_:=aM ((by rw [hg];exact (below_size HB.out):w.heap.size ≤ gb173));have n5_:=aM ((by rw [hg];exact (below_size HB.out):w.heap.size ≤ gb173));have n6_:=aM ((by rw [hg];exact Nat.ne_of_lt (blk_lt (g:=gb169) (o:=.cells #[.int .i64 a0_0,.int .i64 a0_1] 59 (0,0)) BK169.out):gb169 ≠ gb173));have n7_:=aM ((by rw [hg];exact Nat.ne_of_gt (blk_lt (g:=gb169) (o:=.cells #[.int .i64 a0_0,.int .i64 a0_1] 59 (0,0)) BK169.out):gb173 ≠ gb169));clear HO172;clear BK169;clear HB;have HO172:=n0_;have BK169:=n1_;have HB:=n2_;have BK173:=n3_;have GW173:=n4_;have GE173:=n5_;have NB169_173:=n6_;have NB173_169:=n7_;clear n0_ n1_ n2_ n3_ n4_ n5_ n6_ n7_;clear hb hbox hg;have hnb9:=NB173_169.out;have hnc9:=NB169_173.out;have hcz10_0:w8.cell? ⟨gb173,0,none⟩ = some (.int .i64 0):=(blk_cell BK173.out 0).trans rfl;have hcz10_1:w8.cell? ⟨gb173,1,none⟩ = some (.int .i64 0):=(blk_cell BK173.out 1).trans rfl;have hfz10_0:=blk_frozen BK173.out 0;have hfz10_1:=blk_frozen BK173.out 1)))
    go_loopg [7,8] k1 (fun kq v7 v8 w'=>∃ (x7_2:List (S59)) (x174000_2:Int) (x174001_2:Int) (gb173:Nat),v8 = .pointer (some ⟨gb173,0,none⟩) ∧ Aside0 (spec_l01Orbit.l1 kq x5_1 x7_2 x174000_2 x174001_2 = some (r1,r2,r3)) ∧ Aside0 (kq ≤ k1) ∧ Aside0 (Kd.R k59 59 w' w.heap.size (fun k_=>k_ ≠ gb169 ∧ k_ ≠ gb173) v7 x7_2) ∧ Aside0 (w'.heap[gb169]? = some (.cells #[.int .i64 a0_0,.int .i64 a0_1] 59 (0,0))) ∧ Aside0 (w'.heap[gb173]? = some (.cells #[.int .i64 x174000_2,.int .i64 x174001_2] 59 (0,0))) ∧ Aside0 (w.heap.size ≤ gb173) ∧ Aside0 (w.heap.size ≤ gb173) ∧ Aside0 (gb173 ≠ gb169) ∧ Aside0 (gb169 ≠ gb173) ∧ Aside0 (Below w.heap.size w w'))
    case atStart=>exact ⟨(y170),(a0_0),(a0_1),gb173,(by first|rfl|(simp;done)),H',⟨Nat.le_refl _⟩,⟨by (with_reducible repeat (first|apply rA|apply rN|apply rD));exact Kd.R_mono (Kd.R_far (p:=⟨gb173,1,none⟩) (Kd.R_far (p:=⟨gb173,0,none⟩) (Kd.R_mono HO172.out (fun k_ hk=>(⟨hk,hk.2⟩:_ ∧ k_ ≠ gb173))) (fun _ hk=>hk.2) (.int .i64 a0_0)) (fun _ hk=>hk.2) (.int .i64 a0_1)) (fun _ hk=>⟨hk.1.1.2,hk.1.2⟩)⟩,⟨by (with_reducible repeat (first|apply yN|apply yD|apply yA));refine blk_far ?_ NB169_173.out _;(with_reducible repeat (first|apply yN|apply yD|apply yA));refine blk_far ?_ NB169_173.out _;(with_reducible repeat (first|apply yN|apply yD|apply yA));exact BK169.out⟩,⟨by (with_reducible repeat (first|apply yN|apply yD|apply yA));refine blk_put (cs:=#[.int .i64 a0_0,.int .i64 0]) ?_ 1 _ rfl;(with_reducible repeat (first|apply yN|apply yD|apply yA));refine blk_put (cs:=#[.int .i64 0,.int .i64 0]) ?_ 0 _ rfl;(with_reducible repeat (first|apply yN|apply yD|apply yA));exact BK173.out⟩,⟨GW173.out⟩,⟨GE173.out⟩,⟨NB173_169.out⟩,⟨NB169_173.out⟩,⟨by repeat (first|(with_reducible first|exact HB.out|apply zA|apply zN|apply zD|refine zS ?_ GE169.out|refine zS ?_ GE173.out)|exact HB.out)⟩⟩
    case round =>
     clear H'
     try clear p2
     try clear c4
     try clear c4b0
     try clear c4b1
     try clear p6
     try clear c9
     try clear hcz10_0
     try clear hcz10_1
     try clear hcz3_0
     try clear hcz3_1
     try clear hcz7_0
     try clear hcz7_1
     try clear hfz10_0
     try clear hfz10_1
     try clear hfz3_0
     try clear hfz3_1
     try clear hfz7_0
     try clear hfz7_1
     try clear p2
     obtain ⟨x7_2,x174000_2,x174001_2,gb173,rfl,HA,HK2,HO_7,BK169,BK173,GW173,GE173,NB173_169,NB169_173,HB⟩:=hrel
     cases gk with
     | zero=>exact absurd HA.out (by simp [spec_l01Orbit.l1])
     | succ k2 =>
      have H:=HA.out
      clear HA
      simp only [spec_l01Orbit.l1] at H
      have HC11:=aM H
      clear H
      go_upto_region 9 with (fail)
      repeat (go_quiet (fail);go_upto_region 9 with (fail))
      go_cut [33] (fun v33 wc=>∃ (kq:Nat) (x33_10:Bool),v33 = .bool x33_10 ∧ Aside0 (spec_l01Orbit.j2 kq x5_1 x7_2 x33_10 x174000_2 x174001_2 = some (r1,r2,r3)) ∧ Aside0 (kq ≤ k2) ∧ Aside0 (Kd.R k59 59 wc w.heap.size (fun k_=>k_ ≠ gb169 ∧ k_ ≠ gb173) u7 x7_2) ∧ Aside0 (wc.heap[gb169]? = some (.cells #[.int .i64 a0_0,.int .i64 a0_1] 59 (0,0))) ∧ Aside0 (wc.heap[gb173]? = some (.cells #[.int .i64 x174000_2,.int .i64 x174001_2] 59 (0,0))) ∧ Aside0 (Below w.heap.size w wc))
      case first =>
       have H:=HC11.out
       clear HC11
       by_cases c12:(x7_2.length:Int) > x5_1
       ·rw [if_pos c12] at H
        have c12b0:decide (x5_1 < (x7_2.length:Int)) = true:=decide_eq_true c12
        clear c12
        (first|rw [c12b0]|(simp only [i64_w,i32_w];rw [c12b0])|skip)
        by_cases c13:0 ≤ x5_1
        ·rw [if_pos c13] at H
         have c13b0:decide (0 ≤ x5_1) = true:=decide_eq_true c13
         clear c13
         by_cases c14:x5_1 < (x7_2.length:Int)
         ·rw [if_pos c14] at H
          have c14b0:decide (x5_1 < (x7_2.length:Int)) = true:=decide_eq_true c14
          clear c14
          have H':=aM H
          clear H
          obtain ⟨Ao15,co15,eo15⟩:=Kd.R_slice HO_7.out
          subst eo15
          have hnb16:=NB173_169.out
          have hnc16:=NB169_173.out
          have hcz17_0:wr.cell? ⟨gb173,0,none⟩ = some (.int .i64 x174000_2):=(blk_cell BK173.out 0).trans rfl
          have hcz17_1:wr.cell? ⟨gb173,1,none⟩ = some (.int .i64 x174001_2):=(blk_cell BK173.out 1).trans rfl
          have hfz17_0:=blk_frozen BK173.out 0
          have hfz17_1:=blk_frozen BK173.out 1
          have p174:0 ≤ (x5_1:Int):=of_decide_eq_true (by first|(with_reducible assumption)|assumption)
          have q174:x5_1 < (x7_2.length:Int):=of_decide_eq_true (by first|(with_reducible assumption)|assumption)
          obtain ⟨ad174,e174,hx174_0,hx174_1⟩:=at_T59 (Kd.R_reads' HO_7.out).2.2 x5_1 p174 q174
          cases e174
          replace p174:=eq_true p174
          replace q174:=eq_true q174
          go_wp2
          repeat (go_quiet (fail);try go_wp2)
          go_meet
          case rel=>exact ⟨_,((x174000_2 == ((rd_T59 x7_2 x5_1).f0) && (x174001_2 == ((rd_T59 x7_2 x5_1).f1)))),(by first|rfl|(simp;done)|(simp [*];done)),H',⟨by have:=HK1.out;have:=HK2.out;first|omega|exact Nat.le_refl _⟩,⟨by (with_reducible repeat (first|apply rA|apply rN|apply rD));exact HO_7.out⟩,⟨by (with_reducible repeat (first|apply yN|apply yD|apply yA));exact BK169.out⟩,⟨by (with_reducible repeat (first|apply yN|apply yD|apply yA));exact BK173.out⟩,⟨by repeat (first|(with_reducible first|exact HB.out|apply zA|apply zN|apply zD|refine zS ?_ GE169.out|refine zS ?_ GE173.out)|exact HB.out)⟩⟩
         ·rw [if_neg c14] at H
          exact absurd H (by simp)
        ·rw [if_neg c13] at H
         exact absurd H (by simp)
       ·rw [if_neg c12] at H
        have c12b0:decide (x5_1 < (x7_2.length:Int)) = false:=decide_eq_false c12
        clear c12
        (first|rw [c12b0]|(simp only [i64_w,i32_w];rw [c12b0])|skip)
        have H':=aM H
        clear H
        obtain ⟨Ao18,co18,eo18⟩:=Kd.R_slice HO_7.out
        subst eo18
        go_wp2
        repeat (go_quiet (fail);try go_wp2)
        go_meet
        case rel=>exact ⟨_,(false),(by first|rfl|(simp;done)|(simp [*];done)),H',⟨by have:=HK1.out;have:=HK2.out;first|omega|exact Nat.le_refl _⟩,⟨by (with_reducible repeat (first|apply rA|apply rN|apply rD));exact HO_7.out⟩,⟨by (with_reducible repeat (first|apply yN|apply yD|apply yA));exact BK169.out⟩,⟨by (with_reducible repeat (first|apply yN|apply yD|apply yA));exact BK173.out⟩,⟨by repeat (first|(with_reducible first|exact HB.out|apply zA|apply zN|apply zD|refine zS ?_ GE169.out|refine zS ?_ GE173.out)|exact HB.out)⟩⟩
      case rest =>
       clear HC11
       try clear c1
       try clear p1
       try clear q1
       try clear hx1
       try clear p2
       try clear c4
       try clear c4b0
       try clear c4b1
       try clear p6
       try clear c9
       try clear c12
       try clear c12b0
       try clear c13
       try clear c13b0
       try clear c14
       try clear c14b0
       try clear c16
       try clear p17
       try clear q17
       try clear hx17
       try clear hcz10_0
       try clear hcz10_1
       try clear hcz17_0
       try clear hcz17_1
       try clear hcz3_0
       try clear hcz3_1
       try clear hcz7_0
       try clear hcz7_1
       try clear hfz10_0
       try clear hfz10_1
       try clear hfz17_0
       try clear hfz17_1
       try clear hfz3_0
       try clear hfz3_1
       try clear hfz7_0
       try clear hfz7_1
       try clear hx174_0
       try clear hx174_1
       try clear p174
       try clear p2
       try clear p6
       try clear q174
       obtain ⟨kq,x33_10,rfl,HA,HJ10,HO_7,BK169,BK173,HB⟩:=hcut
       cases kq with
       | zero=>exact absurd HA.out (by simp [spec_l01Orbit.j2])
       | succ kj10 =>
        have H:=HA.out
        clear HA
        simp only [spec_l01Orbit.j2] at H
        by_cases c19:x33_10 = true
        ·subst c19
         have H1:(some (x7_2,x5_1,true)) = some (r1,r2,r3):=by rw [if_pos rfl] at H;exact H
         clear H
         have H:=H1
         clear H1
         simp only [Option.some.injEq,Prod.mk.injEq] at H
         obtain ⟨rfl,rfl,rfl⟩:=H
         go_wp2
         repeat (go_quiet (fail);try go_wp2)
         go_ret3
         exact ⟨_,by first|rfl|(simp [errW_none,errW_some] <;> rfl)|(simp [*,errW_none,errW_some] <;> rfl),by (with_reducible repeat (first|apply rA|apply rN|apply rD));exact Kd.R_mono HO_7.out (fun _ hk=>trivial),HB.out⟩
        ·replace c19:=Bool.eq_false_iff.mpr c19
         subst c19
         have H1:(if (x7_2.length:Int) = 64 then (some (([]:List (S59)),0,false)) else (if x7_2.length < 8796093022208 then ((spec_l01Double.f kj10 x174000_2 x174001_2).bind fun bt179=>(spec_l01Orbit.l1 kj10 x5_1 (x7_2 ++ [(⟨x174000_2,x174001_2⟩:S59)]) bt179.1 bt179.2)) else (none))) = some (r1,r2,r3):=by rw [if_neg (show ¬ (false = true) by decide)] at H;exact H
         clear H
         have H:=H1
         clear H1
         by_cases c20:(x7_2.length:Int) = 64
         ·rw [if_pos c20] at H
          have c20b0:((x7_2.length:Int) == 64) = true:=beq_iff_eq.mpr c20
          have c20b1:((x7_2.length:Int) != 64) = false:=bne_eq_false_iff_eq.mpr c20
          clear c20
          simp only [Option.some.injEq,Prod.mk.injEq] at H
          obtain ⟨rfl,rfl,rfl⟩:=H
          obtain ⟨Ao21,co21,eo21⟩:=Kd.R_slice HO_7.out
          subst eo21
          go_wp2
          repeat (go_quiet (fail);try go_wp2)
          go_ret3
          exact ⟨_,by first|rfl|(simp [errW_none,errW_some] <;> rfl)|(simp [*,errW_none,errW_some] <;> rfl),by first|exact Kd.R_nil _ _ _ _ _|exact Kd.N_nil _ _ _ _ _|exact Kd.V_nil _ _ _ _ _|exact Kd.Q_nil _ _ _ _ _|exact Kd.S_nil _ _ _ _ _,HB.out⟩
         ·rw [if_neg c20] at H
          have c20b0:((x7_2.length:Int) == 64) = false:=beq_eq_false_iff_ne.mpr c20
          have c20b1:((x7_2.length:Int) != 64) = true:=bne_iff_ne.mpr c20
          by_cases c22:x7_2.length < 8796093022208
          ·rw [if_pos c22] at H
           have LMc22:=aM c22
           clear c22
           obtain ⟨y175,hy175⟩:∃ y_:List (S59),y_ = (x7_2 ++ [(⟨x174000_2,x174001_2⟩:S59)]):=⟨_,rfl⟩
           replace H:((spec_l01Double.f kj10 x174000_2 x174001_2).bind fun bt179=>(spec_l01Orbit.l1 kj10 x5_1 y175 bt179.1 bt179.2)) = some (r1,r2,r3):=by first|(rw [hy175];with_reducible exact H)|(have H2_:=(Option.bind_some _ _).symm.trans H;rw [hy175];with_reducible exact H2_)|(have H2_:=(Option.bind_some _ _).symm.trans H;with_reducible exact H2_)|with_reducible exact H|(rw [hy175];exact H)|exact H
           have Ny175:=aM hy175
           clear hy175
           replace H:=Option.bind_eq_some_iff.mp H
           obtain ⟨⟨t179,t180⟩,A230,H⟩:=H
           replace H:(spec_l01Orbit.l1 kj10 x5_1 y175 t179 t180) = some (r1,r2,r3):=H
           have A23:=aM A230
           clear A230
           have H':=aM H
           clear H
           obtain ⟨Ao24,co24,eo24⟩:=Kd.R_slice HO_7.out
           subst eo24
           have hnb25:=NB173_169.out
           have hnc25:=NB169_173.out
           have hcz26_0:wc.cell? ⟨gb173,0,none⟩ = some (.int .i64 x174000_2):=(blk_cell BK173.out 0).trans rfl
           have hcz26_1:wc.cell? ⟨gb173,1,none⟩ = some (.int .i64 x174001_2):=(blk_cell BK173.out 1).trans rfl
           have hfz26_0:=blk_frozen BK173.out 0
           have hfz26_1:=blk_frozen BK173.out 1
           go_wp2_with (first|((with_reducible refine gate_builtin (b:=.append) (xs:=#[.tmp 39,.tmp 41]) rfl ?_);at_builtin;refine Kd.R_append k59 (w0:=w) w.heap.size rfl (.tmp 39) (.tmp 41) 75 59 (.agg #[(.int .i64 0),(.int .i64 0)]) 16 rfl Try.underlying75 info59 rfl (by decide) (by omega) (.slice Ao24 x7_2.length co24) x7_2 (⟨x174000_2,x174001_2⟩:S59) [.int .i64 x174000_2,.int .i64 x174001_2] (fun k_=>k_ ≠ gb169 ∧ k_ ≠ gb173) (fun _=>False) rfl rfl ?aP (fun _ hk=>hk.elim) ?aF ?aO ?aB ?aS ?aL ?_;(case aP=>exact k59_mkM _ _ _ (⟨x174000_2,x174001_2⟩:S59));(case aB=>exact (by repeat (first|(with_reducible first|exact HB.out|apply zA|apply zN|apply zD|refine zS ?_ GE169.out|refine zS ?_ GE173.out)|exact HB.out)));(case aF=>exact (fun k_ hk=>⟨Kd.freshB (g:=gb169) (o:=.cells #[.int .i64 a0_0,.int .i64 a0_1] 59 (0,0)) (by (with_reducible repeat (first|apply yN|apply yD|apply yA));exact BK169.out) k_ hk,Kd.freshB (g:=gb173) (o:=.cells #[.int .i64 x174000_2,.int .i64 x174001_2] 59 (0,0)) (by (with_reducible repeat (first|apply yN|apply yD|apply yA));exact BK173.out) k_ hk⟩));(case aO=>exact (by (with_reducible repeat (first|apply rA|apply rN|apply rD));exact HO_7.out));(case aS=>exact (below_size (by repeat (first|(with_reducible first|exact HB.out|apply zA|apply zN|apply zD|refine zS ?_ GE169.out|refine zS ?_ GE173.out)|exact HB.out))));(case aL=>have:=LMc22.out;omega);intro v176 w27 ho hb hg hat;rw [← Ny175.out] at ho;have n0_:=aM (blk_grown (g:=gb169) (o:=.cells #[.int .i64 a0_0,.int .i64 a0_1] 59 (0,0)) (by (with_reducible repeat (first|apply yN|apply yD|apply yA));exact BK169.out) hg (Kd.R_away HO_7.out (fun _ hk=>hk.1)));have n1_:=aM (blk_grown (g:=gb173) (o:=.cells #[.int .i64 x174000_2,.int .i64 x174001_2] 59 (0,0)) (by (with_reducible repeat (first|apply yN|apply yD|apply yA));exact BK173.out) hg (Kd.R_away HO_7.out (fun _ hk=>hk.2)));have n2_:=aM (hb);have n3_:=aM (ho);clear BK169;clear BK173;clear HB;clear HO_7;have BK169:=n0_;have BK173:=n1_;have HB:=n2_;have HO177:=n3_;clear n0_ n1_ n2_ n3_;clear ho hb hg hat;have hcz28_0:w27.cell? ⟨gb173,0,none⟩ = some (.int .i64 x174000_2):=(blk_cell BK173.out 0).trans rfl;have hcz28_1:w27.cell? ⟨gb173,1,none⟩ = some (.int .i64 x174001_2):=(blk_cell BK173.out 1).trans rfl;have hfz28_0:=blk_frozen BK173.out 0;have hfz28_1:=blk_frozen BK173.out 1)|((with_reducible refine gate_dst (N:=8) rfl ?_);refine box_event ?hg (N:=8) ?hd (cs:=#[.int .i64 0,.int .i64 0]) (t:=59) ?hr ?_;(case hd=>rfl);(case hg=>rfl);(case hr=>first|(go_simp;done)|(go_simp;rfl));intro gb178 hg w29 hbox hb;have n0_:=aM (Kd.R_below (Kd.R_elderB (by (with_reducible repeat (first|apply rA|apply rN|apply rD));exact HO177.out) gb178 (Nat.le_of_eq hg.symm)) hb);have n1_:=aM (blk_below (g:=gb169) (o:=.cells #[.int .i64 a0_0,.int .i64 a0_1] 59 (0,0)) (by (with_reducible repeat (first|apply yN|apply yD|apply yA));exact BK169.out) hb);have n2_:=aM (blk_below (g:=gb173) (o:=.cells #[.int .i64 x174000_2,.int .i64 x174001_2] 59 (0,0)) (by (with_reducible repeat (first|apply yN|apply yD|apply yA));exact BK173.out) hb);have n3_:=aM (below_step (by repeat (first|(with_reducible first|exact HB.out|apply zA|apply zN|apply zD|refine zS ?_ GE169.out|refine zS ?_ GE173.out)|exact HB.out)) hb);have n4_:=aM (hbox);have n5_:=aM ((by rw [hg];exact (below_size (by repeat (first|(with_reducible first|exact HB.out|apply zA|apply zN|apply zD|refine zS ?_ GE169.out|refine zS ?_ GE173.out)|exact HB.out))):w.heap.size ≤ gb178));have n6_:=aM ((by rw [hg];exact (below_size (by repeat (first|(with_reducible first|exact HB.out|apply zA|apply zN|apply zD|refine zS ?_ GE169.out|refine zS ?_ GE173.out)|exact HB.out))):w.heap.size ≤ gb178));have n7_:=aM ((by rw [hg];exact Nat.ne_of_lt (blk_lt (g:=gb169) (o:=.cells #[.int .i64 a0_0,.int .i64 a0_1] 59 (0,0)) (by (with_reducible repeat (first|apply yN|apply yD|apply yA));exact BK169.out)):gb169 ≠ gb178));have n8_:=aM ((by rw [hg];exact Nat.ne_of_gt (blk_lt (g:=gb169) (o:=.cells #[.int .i64 a0_0,.int .i64 a0_1] 59 (0,0)) (by (with_reducible repeat (first|apply yN|apply yD|apply yA));exact BK169.out)):gb178 ≠ gb169));have n9_:=aM ((by rw [hg];exact Nat.ne_of_lt (blk_lt (g:=gb173) (o:=.cells #[.int .i64 x174000_2,.int .i64 x174001_2] 59 (0,0)) (by (with_reducible repeat (first|apply yN|apply yD|apply yA));exact BK173.out)):gb173 ≠ gb178));have n10_:=aM ((by rw [hg];exact Nat.ne_of_gt (blk_lt (g:=gb173) (o:=.cells #[.int .i64 x174000_2,.int .i64 x174001_2] 59 (0,0)) (by (with_reducible repeat (first|apply yN|apply yD|apply yA));exact BK173.out)):gb178 ≠ gb173));clear HO177;clear BK169;clear BK173;clear HB;have HO177:=n0_;have BK169:=n1_;have BK173:=n2_;have HB:=n3_;have BK178:=n4_;have GW178:=n5_;have GE178:=n6_;have NB169_178:=n7_;have NB178_169:=n8_;have NB173_178:=n9_;have NB178_173:=n10_;clear n0_ n1_ n2_ n3_ n4_ n5_ n6_ n7_ n8_ n9_ n10_;clear hb hbox hg;have hnb30:=NB178_169.out;have hnc30:=NB169_178.out;have hnb31:=NB178_173.out;have hnc31:=NB173_178.out;have hcz32_0:w29.cell? ⟨gb178,0,none⟩ = some (.int .i64 0):=(blk_cell BK178.out 0).trans rfl;have hcz32_1:w29.cell? ⟨gb178,1,none⟩ = some (.int .i64 0):=(blk_cell BK178.out 1).trans rfl;have hfz32_0:=blk_frozen BK178.out 0;have hfz32_1:=blk_frozen BK178.out 1)|(go_at_call 60;(with_reducible refine (spec_l01Double.calls kj10 x174000_2 x174001_2 t179 t180 _ A23.out).mono ?_);rintro e w33 ⟨rfl,hb⟩;replace HO177:=aM (Kd.R_below (by (with_reducible repeat (first|apply rA|apply rN|apply rD));exact (Kd.R_mono (Kd.R_far (p:=⟨gb178,1,none⟩) (Kd.R_far (p:=⟨gb178,0,none⟩) (Kd.R_mono HO177.out (fun k_ hk=>(⟨hk,hk.2⟩:_ ∧ k_ ≠ gb178))) (fun _ hk=>hk.2) (.int .i64 x174000_2)) (fun _ hk=>hk.2) (.int .i64 x174001_2)) (fun _ h_=>h_.1))) hb);replace BK169:=aM (blk_below (g:=gb169) (o:=.cells #[.int .i64 a0_0,.int .i64 a0_1] 59 (0,0)) (by (with_reducible repeat (first|apply yN|apply yD|apply yA));refine blk_far ?_ NB169_178.out _;(with_reducible repeat (first|apply yN|apply yD|apply yA));refine blk_far ?_ NB169_178.out _;(with_reducible repeat (first|apply yN|apply yD|apply yA));exact BK169.out) hb);replace BK173:=aM (blk_below (g:=gb173) (o:=.cells #[.int .i64 x174000_2,.int .i64 x174001_2] 59 (0,0)) (by (with_reducible repeat (first|apply yN|apply yD|apply yA));refine blk_far ?_ NB173_178.out _;(with_reducible repeat (first|apply yN|apply yD|apply yA));refine blk_far ?_ NB173_178.out _;(with_reducible repeat (first|apply yN|apply yD|apply yA));exact BK173.out) hb);replace BK178:=aM (blk_below (g:=gb178) (o:=.cells #[.int .i64 x174000_2,.int .i64 x174001_2] 59 (0,0)) (by (with_reducible repeat (first|apply yN|apply yD|apply yA));refine blk_put (cs:=#[.int .i64 x174000_2,.int .i64 0]) ?_ 1 _ rfl;(with_reducible repeat (first|apply yN|apply yD|apply yA));refine blk_put (cs:=#[.int .i64 0,.int .i64 0]) ?_ 0 _ rfl;(with_reducible repeat (first|apply yN|apply yD|apply yA));exact BK178.out) hb);replace HB:=aM (below_step (by repeat (first|(with_reducible first|exact HB.out|apply zA|apply zN|apply zD|refine zS ?_ GE169.out|refine zS ?_ GE173.out|refine zS ?_ GE178.out)|exact HB.out)) hb);(try clear hb);(try clear hb2);(try clear hk);(try clear hi);have hcz34_0:w33.cell? ⟨gb178,0,none⟩ = some (.int .i64 x174000_2):=(blk_cell BK178.out 0).trans rfl;have hcz34_1:w33.cell? ⟨gb178,1,none⟩ = some (.int .i64 x174001_2):=(blk_cell BK178.out 1).trans rfl;have hfz34_0:=blk_frozen BK178.out 0;have hfz34_1:=blk_frozen BK178.out 1))
           repeat (go_quiet (first|((with_reducible refine gate_builtin (b:=.append) (xs:=#[.tmp 39,.tmp 41]) rfl ?_);at_builtin;refine Kd.R_append k59 (w0:=w) w.heap.size rfl (.tmp 39) (.tmp 41) 75 59 (.agg #[(.int .i64 0),(.int .i64 0)]) 16 rfl Try.underlying75 info59 rfl (by decide) (by omega) (.slice Ao24 x7_2.length co24) x7_2 (⟨x174000_2,x174001_2⟩:S59) [.int .i64 x174000_2,.int .i64 x174001_2] (fun k_=>k_ ≠ gb169 ∧ k_ ≠ gb173) (fun _=>False) rfl rfl ?aP (fun _ hk=>hk.elim) ?aF ?aO ?aB ?aS ?aL ?_;(case aP=>exact k59_mkM _ _ _ (⟨x174000_2,x174001_2⟩:S59));(case aB=>exact (by repeat (first|(with_reducible first|exact HB.out|apply zA|apply zN|apply zD|refine zS ?_ GE169.out|refine zS ?_ GE173.out)|exact HB.out)));(case aF=>exact (fun k_ hk=>⟨Kd.freshB (g:=gb169) (o:=.cells #[.int .i64 a0_0,.int .i64 a0_1] 59 (0,0)) (by (with_reducible repeat (first|apply yN|apply yD|apply yA));exact BK169.out) k_ hk,Kd.freshB (g:=gb173) (o:=.cells #[.int .i64 x174000_2,.int .i64 x174001_2] 59 (0,0)) (by (with_reducible repeat (first|apply yN|apply yD|apply yA));exact BK173.out) k_ hk⟩));(case aO=>exact (by (with_reducible repeat (first|apply rA|apply rN|apply rD));exact HO_7.out));(case aS=>exact (below_size (by repeat (first|(with_reducible first|exact HB.out|apply zA|apply zN|apply zD|refine zS ?_ GE169.out|refine zS ?_ GE173.out)|exact HB.out))));(case aL=>have:=LMc22.out;omega);intro v176 w27 ho hb hg hat;rw [← Ny175.out] at ho;have n0_:=aM (blk_grown (g:=gb169) (o:=.cells #[.int .i64 a0_0,.int .i64 a0_1] 59 (0,0)) (by (with_reducible repeat (first|apply yN|apply yD|apply yA));exact BK169.out) hg (Kd.R_away HO_7.out (fun _ hk=>hk.1)));have n1_:=aM (blk_grown (g:=gb173) (o:=.cells #[.int .i64 x174000_2,.int .i64 x174001_2] 59 (0,0)) (by (with_reducible repeat (first|apply yN|apply yD|apply yA));exact BK173.out) hg (Kd.R_away HO_7.out (fun _ hk=>hk.2)));have n2_:=aM (hb);have n3_:=aM (ho);clear BK169;clear BK173;clear HB;clear HO_7;have BK169:=n0_;have BK173:=n1_;have HB:=n2_;have HO177:=n3_;clear n0_ n1_ n2_ n3_;clear ho hb hg hat;have hcz28_0:w27.cell? ⟨gb173,0,none⟩ = some (.int .i64 x174000_2):=(blk_cell BK173.out 0).trans rfl;have hcz28_1:w27.cell? ⟨gb173,1,none⟩ = some (.int .i64 x174001_2):=(blk_cell BK173.out 1).trans rfl;have hfz28_0:=blk_frozen BK173.out 0;have hfz28_1:=blk_frozen BK173.out 1)|((with_reducible refine gate_dst (N:=8) rfl ?_);refine box_event ?hg (N:=8) ?hd (cs:=#[.int .i64 0,.int .i64 0]) (t:=59) ?hr ?_;(case hd=>rfl);(case hg=>rfl);(case hr=>first|(go_simp;done)|(go_simp;rfl));intro gb178 hg w29 hbox hb;have n0_:=aM (Kd.R_below (Kd.R_elderB (by (with_reducible repeat (first|apply rA|apply rN|apply rD));exact HO177.out) gb178 (Nat.le_of_eq hg.symm)) hb);have n1_:=aM (blk_below (g:=gb169) (o:=.cells #[.int .i64 a0_0,.int .i64 a0_1] 59 (0,0)) (by (with_reducible repeat (first|apply yN|apply yD|apply yA));exact BK169.out) hb);have n2_:=aM (blk_below (g:=gb173) (o:=.cells #[.int .i64 x174000_2,.int .i64 x174001_2] 59 (0,0)) (by (with_reducible repeat (first|apply yN|apply yD|apply yA));exact BK173.out) hb);have n3_:=aM (below_step (by repeat (first|(with_reducible first|exact HB.out|apply zA|apply zN|apply zD|refine zS ?_ GE169.out|refine zS ?_ GE173.out)|exact HB.out)) hb);have n4_:=aM (hbox);have n5_:=aM ((by rw [hg];exact (below_size (by repeat (first|(with_reducible first|exact HB.out|apply zA|apply zN|apply zD|refine zS ?_ GE169.out|refine zS ?_ GE173.out)|exact HB.out))):w.heap.size ≤ gb178));have n6_:=aM ((by rw [hg];exact (below_size (by repeat (first|(with_reducible first|exact HB.out|apply zA|apply zN|apply zD|refine zS ?_ GE169.out|refine zS ?_ GE173.out)|exact HB.out))):w.heap.size ≤ gb178));have n7_:=aM ((by rw [hg];exact Nat.ne_of_lt (blk_lt (g:=gb169) (o:=.cells #[.int .i64 a0_0,.int .i64 a0_1] 59 (0,0)) (by (with_reducible repeat (first|apply yN|apply yD|apply yA));exact BK169.out)):gb169 ≠ gb178));have n8_:=aM ((by rw [hg];exact Nat.ne_of_gt (blk_lt (g:=gb169) (o:=.cells #[.int .i64 a0_0,.int .i64 a0_1] 59 (0,0)) (by (with_reducible repeat (first|apply yN|apply yD|apply yA));exact BK169.out)):gb178 ≠ gb169));have n9_:=aM ((by rw [hg];exact Nat.ne_of_lt (blk_lt (g:=gb173) (o:=.cells #[.int .i64 x174000_2,.int .i64 x174001_2] 59 (0,0)) (by (with_reducible repeat (first|apply yN|apply yD|apply yA));exact BK173.out)):gb173 ≠ gb178));have n10_:=aM ((by rw [hg];exact Nat.ne_of_gt (blk_lt (g:=gb173) (o:=.cells #[.int .i64 x174000_2,.int .i64 x174001_2] 59 (0,0)) (by (with_reducible repeat (first|apply yN|apply yD|apply yA));exact BK173.out)):gb178 ≠ gb173));clear HO177;clear BK169;clear BK173;clear HB;have HO177:=n0_;have BK169:=n1_;have BK173:=n2_;have HB:=n3_;have BK178:=n4_;have GW178:=n5_;have GE178:=n6_;have NB169_178:=n7_;have NB178_169:=n8_;have NB173_178:=n9_;have NB178_173:=n10_;clear n0_ n1_ n2_ n3_ n4_ n5_ n6_ n7_ n8_ n9_ n10_;clear hb hbox hg;have hnb30:=NB178_169.out;have hnc30:=NB169_178.out;have hnb31:=NB178_173.out;have hnc31:=NB173_178.out;have hcz32_0:w29.cell? ⟨gb178,0,none⟩ = some (.int .i64 0):=(blk_cell BK178.out 0).trans rfl;have hcz32_1:w29.cell? ⟨gb178,1,none⟩ = some (.int .i64 0):=(blk_cell BK178.out 1).trans rfl;have hfz32_0:=blk_frozen BK178.out 0;have hfz32_1:=blk_frozen BK178.out 1)|(go_at_call 60;(with_reducible refine (spec_l01Double.calls kj10 x174000_2 x174001_2 t179 t180 _ A23.out).mono ?_);rintro e w33 ⟨rfl,hb⟩;replace HO177:=aM (Kd.R_below (by (with_reducible repeat (first|apply rA|apply rN|apply rD));exact (Kd.R_mono (Kd.R_far (p:=⟨gb178,1,none⟩) (Kd.R_far (p:=⟨gb178,0,none⟩) (Kd.R_mono HO177.out (fun k_ hk=>(⟨hk,hk.2⟩:_ ∧ k_ ≠ gb178))) (fun _ hk=>hk.2) (.int .i64 x174000_2)) (fun _ hk=>hk.2) (.int .i64 x174001_2)) (fun _ h_=>h_.1))) hb);replace BK169:=aM (blk_below (g:=gb169) (o:=.cells #[.int .i64 a0_0,.int .i64 a0_1] 59 (0,0)) (by (with_reducible repeat (first|apply yN|apply yD|apply yA));refine blk_far ?_ NB169_178.out _;(with_reducible repeat (first|apply yN|apply yD|apply yA));refine blk_far ?_ NB169_178.out _;(with_reducible repeat (first|apply yN|apply yD|apply yA));exact BK169.out) hb);replace BK173:=aM (blk_below (g:=gb173) (o:=.cells #[.int .i64 x174000_2,.int .i64 x174001_2] 59 (0,0)) (by (with_reducible repeat (first|apply yN|apply yD|apply yA));refine blk_far ?_ NB173_178.out _;(with_reducible repeat (first|apply yN|apply yD|apply yA));refine blk_far ?_ NB173_178.out _;(with_reducible repeat (first|apply yN|apply yD|apply yA));exact BK173.out) hb);replace BK178:=aM (blk_below (g:=gb178) (o:=.cells #[.int .i64 x174000_2,.int .i64 x174001_2] 59 (0,0)) (by (with_reducible repeat (first|apply yN|apply yD|apply yA));refine blk_put (cs:=#[.int .i64 x174000_2,.int .i64 0]) ?_ 1 _ rfl;(with_reducible repeat (first|apply yN|apply yD|apply yA));refine blk_put (cs:=#[.int .i64 0,.int .i64 0]) ?_ 0 _ rfl;(with_reducible repeat (first|apply yN|apply yD|apply yA));exact BK178.out) hb);replace HB:=aM (below_step (by repeat (first|(with_reducible first|exact HB.out|apply zA|apply zN|apply zD|refine zS ?_ GE169.out|refine zS ?_ GE173.out|refine zS ?_ GE178.out)|exact HB.out)) hb);(try clear hb);(try clear hb2);(try clear hk);(try clear hi);have hcz34_0:w33.cell? ⟨gb178,0,none⟩ = some (.int .i64 x174000_2):=(blk_cell BK178.out 0).trans rfl;have hcz34_1:w33.cell? ⟨gb178,1,none⟩ = some (.int .i64 x174001_2):=(blk_cell BK178.out 1).trans rfl;have hfz34_0:=blk_frozen BK178.out 0;have hfz34_1:=blk_frozen BK178.out 1));try go_wp2_with (first|((with_reducible refine gate_builtin (b:=.append) (xs:=#[.tmp 39,.tmp 41]) rfl ?_);at_builtin;refine Kd.R_append k59 (w0:=w) w.heap.size rfl (.tmp 39) (.tmp 41) 75 59 (.agg #[(.int .i64 0),(.int .i64 0)]) 16 rfl Try.underlying75 info59 rfl (by decide) (by omega) (.slice Ao24 x7_2.length co24) x7_2 (⟨x174000_2,x174001_2⟩:S59) [.int .i64 x174000_2,.int .i64 x174001_2] (fun k_=>k_ ≠ gb169 ∧ k_ ≠ gb173) (fun _=>False) rfl rfl ?aP (fun _ hk=>hk.elim) ?aF ?aO ?aB ?aS ?aL ?_;(case aP=>exact k59_mkM _ _ _ (⟨x174000_2,x174001_2⟩:S59));(case aB=>exact (by repeat (first|(with_reducible first|exact HB.out|apply zA|apply zN|apply zD|refine zS ?_ GE169.out|refine zS ?_ GE173.out)|exact HB.out)));(case aF=>exact (fun k_ hk=>⟨Kd.freshB (g:=gb169) (o:=.cells #[.int .i64 a0_0,.int .i64 a0_1] 59 (0,0)) (by (with_reducible repeat (first|apply yN|apply yD|apply yA));exact BK169.out) k_ hk,Kd.freshB (g:=gb173) (o:=.cells #[.int .i64 x174000_2,.int .i64 x174001_2] 59 (0,0)) (by (with_reducible repeat (first|apply yN|apply yD|apply yA));exact BK173.out) k_ hk⟩));(case aO=>exact (by (with_reducible repeat (first|apply rA|apply rN|apply rD));exact HO_7.out));(case aS=>exact (below_size (by repeat (first|(with_reducible first|exact HB.out|apply zA|apply zN|apply zD|refine zS ?_ GE169.out|refine zS ?_ GE173.out)|exact HB.out))));(case aL=>have:=LMc22.out;omega);intro v176 w27 ho hb hg hat;rw [← Ny175.out] at ho;have n0_:=aM (blk_grown (g:=gb169) (o:=.cells #[.int .i64 a0_0,.int .i64 a0_1] 59 (0,0)) (by (with_reducible repeat (first|apply yN|apply yD|apply yA));exact BK169.out) hg (Kd.R_away HO_7.out (fun _ hk=>hk.1)));have n1_:=aM (blk_grown (g:=gb173) (o:=.cells #[.int .i64 x174000_2,.int .i64 x174001_2] 59 (0,0)) (by (with_reducible repeat (first|apply yN|apply yD|apply yA));exact BK173.out) hg (Kd.R_away HO_7.out (fun _ hk=>hk.2)));have n2_:=aM (hb);have n3_:=aM (ho);clear BK169;clear BK173;clear HB;clear HO_7;have BK169:=n0_;have BK173:=n1_;have HB:=n2_;have HO177:=n3_;clear n0_ n1_ n2_ n3_;clear ho hb hg hat;have hcz28_0:w27.cell? ⟨gb173,0,none⟩ = some (.int .i64 x174000_2):=(blk_cell BK173.out 0).trans rfl;have hcz28_1:w27.cell? ⟨gb173,1,none⟩ = some (.int .i64 x174001_2):=(blk_cell BK173.out 1).trans rfl;have hfz28_0:=blk_frozen BK173.out 0;have hfz28_1:=blk_frozen BK173.out 1)|((with_reducible refine gate_dst (N:=8) rfl ?_);refine box_event ?hg (N:=8) ?hd (cs:=#[.int .i64 0,.int .i64 0]) (t:=59) ?hr ?_;(case hd=>rfl);(case hg=>rfl);(case hr=>first|(go_simp;done)|(go_simp;rfl));intro gb178 hg w29 hbox hb;have n0_:=aM (Kd.R_below (Kd.R_elderB (by (with_reducible repeat (first|apply rA|apply rN|apply rD));exact HO177.out) gb178 (Nat.le_of_eq hg.symm)) hb);have n1_:=aM (blk_below (g:=gb169) (o:=.cells #[.int .i64 a0_0,.int .i64 a0_1] 59 (0,0)) (by (with_reducible repeat (first|apply yN|apply yD|apply yA));exact BK169.out) hb);have n2_:=aM (blk_below (g:=gb173) (o:=.cells #[.int .i64 x174000_2,.int .i64 x174001_2] 59 (0,0)) (by (with_reducible repeat (first|apply yN|apply yD|apply yA));exact BK173.out) hb);have n3_:=aM (below_step (by repeat (first|(with_reducible first|exact HB.out|apply zA|apply zN|apply zD|refine zS ?_ GE169.out|refine zS ?_ GE173.out)|exact HB.out)) hb);have n4_:=aM (hbox);have n5_:=aM ((by rw [hg];exact (below_size (by repeat (first|(with_reducible first|exact HB.out|apply zA|apply zN|apply zD|refine zS ?_ GE169.out|refine zS ?_ GE173.out)|exact HB.out))):w.heap.size ≤ gb178));have n6_:=aM ((by rw [hg];exact (below_size (by repeat (first|(with_reducible first|exact HB.out|apply zA|apply zN|apply zD|refine zS ?_ GE169.out|refine zS ?_ GE173.out)|exact HB.out))):w.heap.size ≤ gb178));have n7_:=aM ((by rw [hg];exact Nat.ne_of_lt (blk_lt (g:=gb169) (o:=.cells #[.int .i64 a0_0,.int .i64 a0_1] 59 (0,0)) (by (with_reducible repeat (first|apply yN|apply yD|apply yA));exact BK169.out)):gb169 ≠ gb178));have n8_:=aM ((by rw [hg];exact Nat.ne_of_gt (blk_lt (g:=gb169) (o:=.cells #[.int .i64 a0_0,.int .i64 a0_1] 59 (0,0)) (by (with_reducible repeat (first|apply yN|apply yD|apply yA));exact BK169.out)):gb178 ≠ gb169));have n9_:=aM ((by rw [hg];exact Nat.ne_of_lt (blk_lt (g:=gb173) (o:=.cells #[.int .i64 x174000_2,.int .i64 x174001_2] 59 (0,0)) (by (with_reducible repeat (first|apply yN|apply yD|apply yA));exact BK173.out)):gb173 ≠ gb178));have n10_:=aM ((by rw [hg];exact Nat.ne_of_gt (blk_lt (g:=gb173) (o:=.cells #[.int .i64 x174000_2,.int .i64 x174001_2] 59 (0,0)) (by (with_reducible repeat (first|apply yN|apply yD|apply yA));exact BK173.out)):gb178 ≠ gb173));clear HO177;clear BK169;clear BK173;clear HB;have HO177:=n0_;have BK169:=n1_;have BK173:=n2_;have HB:=n3_;have BK178:=n4_;have GW178:=n5_;have GE178:=n6_;have NB169_178:=n7_;have NB178_169:=n8_;have NB173_178:=n9_;have NB178_173:=n10_;clear n0_ n1_ n2_ n3_ n4_ n5_ n6_ n7_ n8_ n9_ n10_;clear hb hbox hg;have hnb30:=NB178_169.out;have hnc30:=NB169_178.out;have hnb31:=NB178_173.out;have hnc31:=NB173_178.out;have hcz32_0:w29.cell? ⟨gb178,0,none⟩ = some (.int .i64 0):=(blk_cell BK178.out 0).trans rfl;have hcz32_1:w29.cell? ⟨gb178,1,none⟩ = some (.int .i64 0):=(blk_cell BK178.out 1).trans rfl;have hfz32_0:=blk_frozen BK178.out 0;have hfz32_1:=blk_frozen BK178.out 1)|(go_at_call 60;(with_reducible refine (spec_l01Double.calls kj10 x174000_2 x174001_2 t179 t180 _ A23.out).mono ?_);rintro e w33 ⟨rfl,hb⟩;replace HO177:=aM (Kd.R_below (by (with_reducible repeat (first|apply rA|apply rN|apply rD));exact (Kd.R_mono (Kd.R_far (p:=⟨gb178,1,none⟩) (Kd.R_far (p:=⟨gb178,0,none⟩) (Kd.R_mono HO177.out (fun k_ hk=>(⟨hk,hk.2⟩:_ ∧ k_ ≠ gb178))) (fun _ hk=>hk.2) (.int .i64 x174000_2)) (fun _ hk=>hk.2) (.int .i64 x174001_2)) (fun _ h_=>h_.1))) hb);replace BK169:=aM (blk_below (g:=gb169) (o:=.cells #[.int .i64 a0_0,.int .i64 a0_1] 59 (0,0)) (by (with_reducible repeat (first|apply yN|apply yD|apply yA));refine blk_far ?_ NB169_178.out _;(with_reducible repeat (first|apply yN|apply yD|apply yA));refine blk_far ?_ NB169_178.out _;(with_reducible repeat (first|apply yN|apply yD|apply yA));exact BK169.out) hb);replace BK173:=aM (blk_below (g:=gb173) (o:=.cells #[.int .i64 x174000_2,.int .i64 x174001_2] 59 (0,0)) (by (with_reducible repeat (first|apply yN|apply yD|apply yA));refine blk_far ?_ NB173_178.out _;(with_reducible repeat (first|apply yN|apply yD|apply yA));refine blk_far ?_ NB173_178.out _;(with_reducible repeat (first|apply yN|apply yD|apply yA));exact BK173.out) hb);replace BK178:=aM (blk_below (g:=gb178) (o:=.cells #[.int .i64 x174000_2,.int .i64 x174001_2] 59 (0,0)) (by (with_reducible repeat (first|apply yN|apply yD|apply yA));refine blk_put (cs:=#[.int .i64 x174000_2,.int .i64 0]) ?_ 1 _ rfl;(with_reducible repeat (first|apply yN|apply yD|apply yA));refine blk_put (cs:=#[.int .i64 0,.int .i64 0]) ?_ 0 _ rfl;(with_reducible repeat (first|apply yN|apply yD|apply yA));exact BK178.out) hb);replace HB:=aM (below_step (by repeat (first|(with_reducible first|exact HB.out|apply zA|apply zN|apply zD|refine zS ?_ GE169.out|refine zS ?_ GE173.out|refine zS ?_ GE178.out)|exact HB.out)) hb);(try clear hb);(try clear hb2);(try clear hk);(try clear hi);have hcz34_0:w33.cell? ⟨gb178,0,none⟩ = some (.int .i64 x174000_2):=(blk_cell BK178.out 0).trans rfl;have hcz34_1:w33.cell? ⟨gb178,1,none⟩ = some (.int .i64 x174001_2):=(blk_cell BK178.out 1).trans rfl;have hfz34_0:=blk_frozen BK178.out 0;have hfz34_1:=blk_frozen BK178.out 1)))
           go_roundg kj10
           case measure=>have:=HK1.out;have:=HK2.out;have:=HJ10.out;omega
           case rel=>exact ⟨(y175),(t179),(t180),gb178,(by first|rfl|(simp;done)),H',⟨by have:=HK1.out;have:=HK2.out;have:=HJ10.out;omega⟩,⟨by (with_reducible repeat (first|apply rA|apply rN|apply rD));exact Kd.R_mono (Kd.R_far (p:=⟨gb178,1,none⟩) (Kd.R_far (p:=⟨gb178,0,none⟩) (Kd.R_mono HO177.out (fun k_ hk=>(⟨hk,hk.2⟩:_ ∧ k_ ≠ gb178))) (fun _ hk=>hk.2) (.int .i64 t179)) (fun _ hk=>hk.2) (.int .i64 t180)) (fun _ hk=>⟨hk.1.1.1,hk.1.2⟩)⟩,⟨by (with_reducible repeat (first|apply yN|apply yD|apply yA));refine blk_far ?_ NB169_178.out _;(with_reducible repeat (first|apply yN|apply yD|apply yA));refine blk_far ?_ NB169_178.out _;(with_reducible repeat (first|apply yN|apply yD|apply yA));exact BK169.out⟩,⟨by (with_reducible repeat (first|apply yN|apply yD|apply yA));refine blk_put (cs:=#[.int .i64 t179,.int .i64 x174001_2]) ?_ 1 _ rfl;(with_reducible repeat (first|apply yN|apply yD|apply yA));refine blk_put (cs:=#[.int .i64 x174000_2,.int .i64 x174001_2]) ?_ 0 _ rfl;(with_reducible repeat (first|apply yN|apply yD|apply yA));exact BK178.out⟩,⟨GW178.out⟩,⟨GE178.out⟩,⟨NB178_169.out⟩,⟨NB169_178.out⟩,⟨by repeat (first|(with_reducible first|exact HB.out|apply zA|apply zN|apply zD|refine zS ?_ GE169.out|refine zS ?_ GE173.out|refine zS ?_ GE178.out)|exact HB.out)⟩⟩
          ·rw [if_neg c22] at H
           exact absurd H (by simp)
end Go.Proofs.Ytccinmopfchjlaa.Q
end
