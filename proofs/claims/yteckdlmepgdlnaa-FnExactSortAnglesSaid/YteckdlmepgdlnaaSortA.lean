/- A list of valid angles, sorted in place and struck of its doubles by the library's functions, walked: what comes back is a row of the call's own with the ascending list, each angle once. -/
import Derived.Test.YteckdlmepgdlnaaProg
import Derived.Test.YteckdlmepgdlnaaWMore
import Derived.Test.YteckdlmepgdlnaaExtWords
import Derived.RangeFuncBox
import Derived.RangeFuncLeaves
import Derived.Shelf.Abstract
import Derived.WalkKit
import Derived.OwnWalkIn
import Derived.TacticsInMore
import Derived.LoopNIn
import Derived.LoopIn
import Derived.RangeFuncGives
import Derived.RangeFuncNested
import Derived.Maps.AppendAt
import Derived.Deep.QuietTactic
import Derived.BigQuiet
import Derived.Laws.StructEq
import Derived.Laws.IdiomCopy
import Derived.Shelf.SlSortCmp.WholeK
import Derived.Shelf.Lay
import Derived.Ground.SlsfProg
import Derived.Sort.LotA
import Derived.Shelf.SlSortCmp.NoneTotal
set_option linter.unusedVariables false
set_option linter.unusedSimpArgs false
namespace Go.Proofs.Yteckdlmepgdlnaa.SortA
open Go.Proofs.YteckdlmepgdlnaaW.Ext
open Go.RowKit Go.Proofs.YteckdlmepgdlnaaW.PrintWords Go.Proofs.YteckdlmepgdlnaaW.PrintLast Go.Proofs.YteckdlmepgdlnaaW.PrintMore
theorem cmp_isNaN.calls (x : Int) (w : World) : Calls Try.prog 38 #[.int .i64 x] w fun e w' => e = .returned (.bool false) ∧ w' = w := by
  go_enter Try.func38, Try.ntmps38
  go_wp2
  go_ret
  exact ⟨by simp, rfl⟩
/-- What cmp.Compare tells of two whole numbers. -/
def cmpI (x y : Int) : Int := if x < y then -1 else if y < x then 1 else 0
theorem cmp_Compare.calls (x y : Int) (w : World) : Calls Try.prog 33 #[.int .i64 x, .int .i64 y] w fun e w' => e = .returned (.int .i64 (cmpI x y)) ∧ w' = w := by
  unfold cmpI
  by_cases h1 : x < y
  · rw [if_pos h1]
    have h1b : decide (x < y) = true := decide_eq_true h1
    clear h1
    go_enter Try.func33, Try.ntmps33
    go_wp2_with (go_at_call 38; refine (cmp_isNaN.calls _ _).mono ?_; rintro e w' ⟨rfl, rfl⟩)
    go_ret
    exact ⟨rfl, rfl⟩
  · rw [if_neg h1]
    have h1b : decide (x < y) = false := decide_eq_false h1
    clear h1
    by_cases h2 : y < x
    · rw [if_pos h2]
      have h2b : decide (y < x) = true := decide_eq_true h2
      have h2c : decide (x > y) = true := decide_eq_true h2
      clear h2
      go_enter Try.func33, Try.ntmps33
      go_wp2_with (go_at_call 38; refine (cmp_isNaN.calls _ _).mono ?_; rintro e w' ⟨rfl, rfl⟩)
      go_ret
      exact ⟨rfl, rfl⟩
    · rw [if_neg h2]
      have h2b : decide (y < x) = false := decide_eq_false h2
      have h2c : decide (x > y) = false := decide_eq_false h2
      clear h2
      go_enter Try.func33, Try.ntmps33
      go_wp2_with (go_at_call 38; refine (cmp_isNaN.calls _ _).mono ?_; rintro e w' ⟨rfl, rfl⟩)
      go_ret
      exact ⟨rfl, rfl⟩
section
open Go.Shelf Go.Lib Go.Sort
theorem ang_compare.calls (x y : Int × Int) (W : World) : Calls Try.prog 25 #[.agg #[.int .i64 x.1, .int .i64 x.2], .agg #[.int .i64 y.1, .int .i64 y.2]] W fun e w' => e = .returned (.int .i64 (cmpI (wrap64 (x.1 * y.2)) (wrap64 (y.1 * x.2)))) ∧ ∃ q os', w' = grow (W.drewN q) os' := by
  have hcon := fun W' => cmp_Compare.calls (wrap64 (x.1 * y.2)) (wrap64 (y.1 * x.2)) W'
  have e1 : IntKind.i64.wrap (x.1 * y.2) = wrap64 (x.1 * y.2) := i64_w _
  have e2 : IntKind.i64.wrap (y.1 * x.2) = wrap64 (y.1 * x.2) := i64_w _
  generalize wrap64 (x.1 * y.2) = p at hcon e1 ⊢
  generalize wrap64 (y.1 * x.2) = q at hcon e2 ⊢
  generalize cmpI p q = r at hcon ⊢
  go_enter Try.func25, Try.ntmps25
  go_wp2_with (go_at_call 33; (try rw [e1, e2]); refine (hcon _).mono ?_; rintro e w' ⟨rfl, rfl⟩)
  go_ret
  exact ⟨rfl, 0, _, by rw [alloc_eq_grow, alloc_eq_grow, grow_grow]; rfl⟩
end
section
open Go.Shelf Go.Lib Go.Sort
/-- An angle that is valid. -/
def okAng (x : Int × Int) : Prop := 0 ≤ x.1 ∧ x.1 < x.2 ∧ x.2 ≤ 8191 ∧ Int.gcd x.1 x.2 = 1
abbrev Ang5 := { x : Int × Int // okAng x }
instance : Inhabited Ang5 := ⟨⟨(0, 1), by decide, by decide, by decide, by decide⟩⟩
def encAng (x : Ang5) : List Value := [.int .i64 x.1.1, .int .i64 x.1.2]
def cfAng (x y : Ang5) : Int := cmpI (wrap64 (x.1.1 * y.1.2)) (wrap64 (y.1.1 * x.1.2))
theorem cmpLaysAng (blk off size : Nat) (w : World) : CmpLays Try.prog 25 #[] encAng 2 cfAng blk off size w :=
  fun _ _ _ _ x y => ang_compare.calls x.1 y.1 _
shelf_lay_g SlLaysF0.n6 Slsf 6 at Try 31 as Try.sortAng
theorem isAgg33 : ∀ w, (isAgg 33).run Try.prog w = .ok true w := fun w => by kernel_rfl
theorem sizeOf33 : ∀ w, (Go.sizeOf 33).run Try.prog w = .ok 2 w := fun w => by kernel_rfl
theorem prod_rng (x y : Ang5) : 0 ≤ x.1.1 * y.1.2 ∧ x.1.1 * y.1.2 ≤ 67092481 := by
  obtain ⟨h1, h2, h3, _⟩ := x.2
  obtain ⟨g1, g2, g3, _⟩ := y.2
  have hm := Int.mul_le_mul (show x.1.1 ≤ 8191 by omega) g3 (show 0 ≤ y.1.2 by omega) (by omega)
  exact ⟨Int.mul_nonneg h1 (by omega), by omega⟩
theorem ltAng (x y : Ang5) : ltOf cfAng x y = decide (x.1.1 * y.1.2 < y.1.1 * x.1.2) := by
  have h1 := prod_rng x y
  have h2 := prod_rng y x
  unfold ltOf cfAng cmpI
  rw [show wrap64 (x.1.1 * y.1.2) = x.1.1 * y.1.2 by unfold wrap64; omega, show wrap64 (y.1.1 * x.1.2) = y.1.1 * x.1.2 by unfold wrap64; omega]
  by_cases h : x.1.1 * y.1.2 < y.1.1 * x.1.2
  · simp [h]
  · by_cases h2 : y.1.1 * x.1.2 < x.1.1 * y.1.2 <;> simp [h, h2]
theorem cross_trans {a b c d e f : Int} (hb : 0 < b) (hd : 0 < d) (hf : 0 < f) (h1 : a * d < c * b) (h2 : c * f ≤ e * d) : a * f < e * b := by
  have e1 := Int.mul_lt_mul_of_pos_right h1 hf
  have e2 := Int.mul_le_mul_of_nonneg_right h2 (Int.le_of_lt hb)
  have e3 : (a * f) * d < (e * b) * d := by
    calc (a * f) * d = a * d * f := by rw [Int.mul_assoc, Int.mul_comm f d, ← Int.mul_assoc]
      _ < c * b * f := e1
      _ = c * f * b := by rw [Int.mul_assoc, Int.mul_comm b f, ← Int.mul_assoc]
      _ ≤ e * d * b := e2
      _ = (e * b) * d := by rw [Int.mul_assoc, Int.mul_comm d b, ← Int.mul_assoc]
  exact Int.lt_of_mul_lt_mul_right e3 (Int.le_of_lt hd)
theorem cross_ntrans {a b c d e f : Int} (hb : 0 < b) (hd : 0 < d) (hf : 0 < f) (h1 : c * b ≤ a * d) (h2 : e * d ≤ c * f) : e * b ≤ a * f := by
  have e1 := Int.mul_le_mul_of_nonneg_right h1 (Int.le_of_lt hf)
  have e2 := Int.mul_le_mul_of_nonneg_right h2 (Int.le_of_lt hb)
  have e3 : (e * b) * d ≤ (a * f) * d := by
    calc (e * b) * d = e * d * b := by rw [Int.mul_assoc, Int.mul_comm b d, ← Int.mul_assoc]
      _ ≤ c * f * b := e2
      _ = c * b * f := by rw [Int.mul_assoc, Int.mul_comm f b, ← Int.mul_assoc]
      _ ≤ a * d * f := e1
      _ = (a * f) * d := by rw [Int.mul_assoc, Int.mul_comm d f, ← Int.mul_assoc]
  exact Int.le_of_mul_le_mul_right e3 hd
theorem den_pos (x : Ang5) : 0 < x.1.2 := by
  obtain ⟨h1, h2, _, _⟩ := x.2
  omega
theorem swoAng : SWO (ltOf cfAng) where
  irrefl x := by rw [ltAng]; simp
  trans x y z h1 h2 := by
    rw [ltAng] at *
    simp only [decide_eq_true_eq] at *
    exact cross_trans (den_pos x) (den_pos y) (den_pos z) h1 (Int.le_of_lt h2)
  ntrans x y z h1 h2 := by
    rw [ltAng] at *
    simp only [decide_eq_false_iff_not, Int.not_lt] at *
    exact cross_ntrans (den_pos x) (den_pos y) (den_pos z) h1 h2
theorem slices_SortFunc_Ang.calls (blk off cap : Nat) (d : Array Ang5) (w : World) (hH : HoldsK encAng 2 w blk off d) (hblk : blk < w.heap.size) (hsz : d.size < 4611686018427387904) :
    Calls Try.prog 31 #[.slice (some ⟨blk, off, none⟩) d.size cap, .func (.func 25) #[] #[]] w fun e w' => e = .returned (.tuple #[]) ∧ ∃ d' n os, PermIn 0 d.size d d' ∧ SortedIn (ltOf cfAng) 0 d.size d' ∧ w' = sortWorldK encAng 2 w blk off n d' os :=
  AnyQ.slices_SortFunc Try.sortAng 2 isAgg33 sizeOf33 encAng (fun _ => rfl) (fun x v hv => by simp [encAng] at hv; rcases hv with rfl | rfl <;> rfl) cfAng swoAng 25 #[] blk off cap d w (enters_of Try.func25 (by kernel_rfl) rfl) (cmpLaysAng blk off d.size w) hH hblk hsz
theorem dvd_cop {a b c : Int} (h : a ∣ b * c) (g : Int.gcd b a = 1) : a ∣ c := by
  rw [← Int.natAbs_dvd_natAbs] at h ⊢
  rw [Int.natAbs_mul] at h
  exact Nat.Coprime.dvd_of_dvd_mul_left (by show Nat.gcd _ _ = 1; rw [Nat.gcd_comm]; exact g) h
theorem totAng (x y : Ang5) (h1 : ltOf cfAng x y = false) (h2 : ltOf cfAng y x = false) : x = y := by
  rw [ltAng] at h1 h2
  simp only [decide_eq_false_iff_not, Int.not_lt] at h1 h2
  have he : x.1.1 * y.1.2 = y.1.1 * x.1.2 := by omega
  have dx := den_pos x
  have dy := den_pos y
  have g1 : Int.gcd x.1.1 x.1.2 = 1 := x.2.2.2.2
  have g2 : Int.gcd y.1.1 y.1.2 = 1 := y.2.2.2.2
  have d1 : x.1.2 ∣ y.1.2 := dvd_cop (b := x.1.1) ⟨y.1.1, by rw [he, Int.mul_comm]⟩ g1
  have d2 : y.1.2 ∣ x.1.2 := dvd_cop (b := y.1.1) ⟨x.1.1, by rw [← he, Int.mul_comm]⟩ g2
  have e2 : x.1.2 = y.1.2 := Int.le_antisymm (Int.le_of_dvd dy d1) (Int.le_of_dvd dx d2)
  have e1 : x.1.1 = y.1.1 := by
    rw [e2] at he
    exact Int.eq_of_mul_eq_mul_right (by omega) he
  exact Subtype.ext (Prod.ext e1 e2)
end
section
open Go.Shelf
attribute [local go_sem] Oper.semAt_some
/-- The first k of what f tells. -/
def upto5 {α : Type} (f : Nat → α) (k : Nat) : List α := (List.range k).map f
theorem upto5_succ {α : Type} (f : Nat → α) (k : Nat) : upto5 f (k + 1) = upto5 f k ++ [f k] := by simp [upto5, List.range_succ]
theorem upto5_length {α : Type} (f : Nat → α) (k : Nat) : (upto5 f k).length = k := by simp [upto5]
set_option maxRecDepth 100000 in
set_option maxHeartbeats 2000000 in
theorem values1_in5 (F : Fence) (n : Nat) (h7 : F.fn 32) (hro : F.round = none) (hn : 1 ≤ n) (l Bs n₀ b off len cap : Nat) (zs : Nat → Int × Int) (hreach : len * 16 ≤ 140737488351232) (hb : b < n₀) (J Jx : List (Int × Int) → World → Prop)
    (hY : ∀ pre x W, J pre W → pre.length < len → YieldAt F (n - 1) Try.prog l #[.agg #[.int .i64 x.1, .int .i64 x.2]] W fun e W' =>
      (e = .returned (.bool true) ∧ J (pre ++ [x]) W' ∧ Below n₀ W W') ∨ (e = .returned (.bool false) ∧ Jx (pre ++ [x]) W'))
    (hA : ∀ pre W o, n₀ ≤ W.heap.size → J pre W → J pre (W.alloc o))
    (W : World) (hn₀ : n₀ ≤ W.heap.size) (hBs : W.cell? ⟨Bs, 0, none⟩ = some (.slice (some ⟨b, off, none⟩) len cap)) (hc : ∀ j, j < len → W.cell? ⟨b, off + j * 2, none⟩ = some (.int .i64 (zs j).1) ∧ W.cell? ⟨b, off + j * 2 + 1, none⟩ = some (.int .i64 (zs j).2)) (h0 : J [] W) :
    CallsIn F n Try.prog 32 #[.func (.yield l) #[] #[], .pointer (some ⟨Bs, 0, none⟩)] W fun e W' => (∃ v, e = .returned v) ∧ (J (upto5 zs len) W' ∨ ∃ pre, Jx pre W') := by
  refine callsIn_of_wp Try.func32 rfl h7 ?_ hro
  simp only [Try.ntmps32, List.size_toArray, List.length_cons, List.length_nil, Nat.reduceAdd, Nat.reduceSub, Array.replicate_succ, Array.replicate_zero, List.push_toArray, List.append_toArray, List.nil_append, List.cons_append]
  gi_wp2
  gi_loopw [7] (fun i wr => ∃ k : Nat, k ≤ len ∧ i = .int .i64 k ∧ J (upto5 zs k) wr ∧ Below n₀ W wr)
    (fun i _ => len - (intOf i).toNat)
  case atStart => exact ⟨0, Nat.zero_le _, rfl, h0, Below.refl _ _⟩
  case round =>
    obtain ⟨k, hk, rfl, hJs, hnx⟩ := hrel
    by_cases hlt : k < len
    · have hc1 : wr.cell? ⟨b, off + k * 2, none⟩ = some (.int .i64 (zs k).1) := (hnx.cell (p := ⟨b, off + k * 2, none⟩) hb).trans (hc k hlt).1
      have hc2 : wr.cell? ⟨b, off + k * 2 + 1, none⟩ = some (.int .i64 (zs k).2) := (hnx.cell (p := ⟨b, off + k * 2 + 1, none⟩) hb).trans (hc k hlt).2
      have hge : n₀ ≤ wr.heap.size := Nat.le_trans hn₀ hnx.size
      have hJ' := hA _ wr (.cells #[.int .i64 (zs k).1, .int .i64 (zs k).2] 33) hge hJs
      obtain ⟨fn, tmps, assign, body, hy, hR⟩ := hY _ (zs k) _ hJ' (by rw [upto5_length]; exact hlt)
      gi_wp2
      refine hR.mono ?_
      rintro e W3 (⟨rfl, hJ3, hk3⟩ | ⟨rfl, hJx3⟩)
      · gi_wp2
        go_roundw
        case rel => exact ⟨k + 1, by omega, by simp, by rw [upto5_succ]; exact hJ3, (hnx.alloc hge _).trans hk3⟩
        case measure => simp [intOf]; omega
      · gi_wp2
        refine bodyPost_ret (results_none rfl _ _ _) rfl ?_
        exact ⟨⟨_, rfl⟩, .inr ⟨_, hJx3⟩⟩
    · obtain rfl : k = len := by omega
      gi_wp2
      go_end0
      exact ⟨⟨_, rfl⟩, .inl hJs⟩
set_option maxHeartbeats 1000000 in
theorem values1_nil_in5 (F : Fence) (n : Nat) (h7 : F.fn 32) (hro : F.round = none) (l Bs : Nat) (a : Option Addr) (cap : Nat) (J : List (Int × Int) → World → Prop) (W : World) (hBs : W.cell? ⟨Bs, 0, none⟩ = some (.slice a 0 cap)) (h0 : J [] W) :
    CallsIn F n Try.prog 32 #[.func (.yield l) #[] #[], .pointer (some ⟨Bs, 0, none⟩)] W fun e W' => (∃ v, e = .returned v) ∧ J [] W' := by
  refine callsIn_of_wp Try.func32 rfl h7 ?_ hro
  simp only [Try.ntmps32, List.size_toArray, List.length_cons, List.length_nil, Nat.reduceAdd, Nat.reduceSub, Array.replicate_succ, Array.replicate_zero, List.push_toArray, List.append_toArray, List.nil_append, List.cons_append]
  gi_wp2
  gi_loopw [7] (fun i wr => i = .int .i64 0 ∧ J [] wr) (fun _ _ => 0)
  case atStart => exact ⟨rfl, h0⟩
  case round =>
    obtain ⟨rfl, hJs⟩ := hrel
    gi_wp2
    go_end0
    exact ⟨⟨_, rfl⟩, hJs⟩
theorem values_in5 (F : Fence) (n : Nat) (h5 : F.fn 24) (hro : F.round = none) (a : Option Addr) (len cap : Nat) (w : World) :
    CallsIn F n Try.prog 24 #[.slice a len cap] w fun e w' => e = .returned (.func (.func 32) #[] #[.pointer (some ⟨w.heap.size, 0, none⟩)]) ∧ w' = w.alloc (.cells #[.slice a len cap] 24) := by
  refine callsIn_of_wp Try.func24 rfl h5 ?_ hro
  simp only [Try.ntmps24, List.size_toArray, List.length_cons, List.length_nil, Nat.reduceAdd, Nat.reduceSub, Array.replicate_succ, Array.replicate_zero, List.push_toArray, List.append_toArray, List.nil_append, List.cons_append]
  gi_wp2
  go_ret
  exact ⟨rfl, rfl⟩
/-- The slice value holds the angles zs, in a block below n₀; or it is nil and there are none. -/
def Angs5 (n₀ : Nat) (W : World) (sv : Value) (zs : List (Int × Int)) : Prop :=
  (∃ a cap, sv = .slice a 0 cap ∧ zs = []) ∨ ∃ b off cap, sv = .slice (some ⟨b, off, none⟩) zs.length cap ∧ b < n₀ ∧ ∀ j, j < zs.length → W.cell? ⟨b, off + j * 2, none⟩ = some (.int .i64 (zs[j]?.getD (0, 0)).1) ∧ W.cell? ⟨b, off + j * 2 + 1, none⟩ = some (.int .i64 (zs[j]?.getD (0, 0)).2)
theorem upto5_all (zs : List (Int × Int)) : upto5 (fun j => zs[j]?.getD (0, 0)) zs.length = zs := by
  apply List.ext_getElem
  · simp [upto5]
  · intro i h1 h2
    simp [upto5, h2]
theorem values_stops5 (F : Fence) (n : Nat) (h7 : F.fn 32) (hro : F.round = none) (hn : 1 ≤ n) (Bs n₀ : Nat) (sv : Value) (zs : List (Int × Int)) (hreach : zs.length * 16 ≤ 140737488351232) (w : World) (hBs : Bs < w.heap.size) (hn₀ : n₀ ≤ w.heap.size)
    (hc : w.cell? ⟨Bs, 0, none⟩ = some sv) (hI : Angs5 n₀ w sv zs) :
    SeqStopsK F n Try.prog 32 #[.pointer (some ⟨Bs, 0, none⟩)] (fun x : Int × Int => #[.agg #[.int .i64 x.1, .int .i64 x.2]]) (Below n₀) (fun ys => ys = zs) (fun _ => True) zs.length w := fun l J Jx W hW hJ _ hY h0 => by
  have hc' := (hW.cell (p := ⟨Bs, 0, none⟩) hBs).trans hc
  rcases hI with ⟨a, cap, rfl, rfl⟩ | ⟨b, off, cap, rfl, hb, hcs⟩
  · exact (values1_nil_in5 F n h7 hro l Bs a cap J W hc' h0).mono fun e W' ⟨hv, h⟩ => ⟨hv, .inl ⟨[], rfl, h⟩⟩
  · have hbw : b < w.heap.size := Nat.lt_of_lt_of_le hb hn₀
    refine (values1_in5 F n h7 hro hn l Bs n₀ b off zs.length cap (fun j => zs[j]?.getD (0, 0)) hreach hb J Jx hY (fun pre W2 o hge hj => ?_) W (Nat.le_trans hn₀ hW.size) hc' (fun j hj => ⟨(hW.cell (p := ⟨b, off + j * 2, none⟩) hbw).trans (hcs j hj).1, (hW.cell (p := ⟨b, off + j * 2 + 1, none⟩) hbw).trans (hcs j hj).2⟩) h0).mono fun e W' ⟨hv, h⟩ => ⟨hv, ?_⟩
    · exact hJ pre W2 _ none hj (World.grownBy_alloc W2 o none) (fun r e => by cases e)
    · rcases h with h | ⟨pre, h⟩
      · rw [upto5_all] at h
        exact .inl ⟨zs, rfl, h⟩
      · exact .inr ⟨pre, trivial, h⟩
end
section
open Go.Shelf
attribute [local go_sem] Oper.semAt_some
abbrev enc5 (x : Int × Int) : List Value := [.int .i64 x.1, .int .i64 x.2]
theorem info33_5 : (Try.prog.info? 33).map (fun i => (i.zero, i.size, i.bytes)) = some (some (.agg #[.int .i64 0, .int .i64 0]), 2, 16) := by kernel_rfl
theorem cell_two_new5 (w : World) (x y : Value) (t : TypeId) : ∀ j u, [x, y][j]? = some u → (w.alloc (.cells #[x, y] t)).cell? ((⟨w.heap.size, 0, none⟩ : Addr).add j) = some u := by
  intro j u hj
  have hn := World.alloc_heap_new w (.cells #[x, y] t)
  match j, hj with
  | 0, hj => simp at hj; subst hj; unfold World.cell?; rw [show ((⟨w.heap.size, 0, none⟩ : Addr).add 0).block = w.heap.size from rfl, hn]; rfl
  | 1, hj => simp at hj; subst hj; unfold World.cell?; rw [show ((⟨w.heap.size, 0, none⟩ : Addr).add 1).block = w.heap.size from rfl, hn]; rfl
  | j + 2, hj => simp at hj
set_option maxRecDepth 100000 in
set_option maxHeartbeats 4000000 in
theorem appendSeq_in5 (F : Fence) (n : Nat) (h35 : F.fn 35) (h32 : F.fn 32) (hro : F.round = none) (hn : 3 ≤ n) (Bs n₀ : Nat) (sv : Value) (zs : List (Int × Int)) (hreach : zs.length * 16 ≤ 140737488351232) (w : World) (hBs : Bs < w.heap.size) (hn₀ : n₀ ≤ w.heap.size)
    (hc : w.cell? ⟨Bs, 0, none⟩ = some sv) (hI : Angs5 n₀ w sv zs) :
    CallsIn F n Try.prog 35 #[.slice none 0 0, .func (.func 32) #[] #[.pointer (some ⟨Bs, 0, none⟩)]] w fun e w' => ∃ v : Value, e = .returned v ∧ w'.ownsRow w.heap.size 33 2 v zs.length (zs.flatMap enc5) ∧ (v = .slice none 0 0 ↔ zs = []) ∧ Below w.heap.size w w' := by
  have h1 : 1 ≤ n := by omega
  refine callsIn_of_wp_marks Try.func35 rfl h35 ?_ hro
  simp only [Try.ntmps35, List.size_toArray, List.length_cons, List.length_nil, Nat.reduceAdd, Nat.reduceSub, Array.replicate_succ, Array.replicate_zero, List.push_toArray, List.append_toArray, List.nil_append, List.cons_append]
  gi_wp2
  refine wpIn_rangeFunc_ownH hro h1 (gf := 32) (lb := #[.pointer (some ⟨Bs, 0, none⟩)]) rfl h32 (enters_of Try.func32 (by kernel_rfl) rfl)
    (values_stops5 F (n - 1) h32 hro (by omega) Bs n₀ sv zs hreach w hBs hn₀ hc hI) (fun h k => h.trans k) (belowK_b (by simp; omega)) ((Below.refl _ w).alloc (Nat.le_refl _) _) (fun _ => rfl)
    (fun pre W => (∃ v, Boxed W w.heap.size 24 v ∧ W.ownsRow w.heap.size 33 2 v pre.length (pre.flatMap enc5) ∧ (v = .slice none 0 0 ↔ pre = [])) ∧ Below w.heap.size w W) (fun _ _ _ => False)
    (OwnFrom.and (Own.from (holdsRow_own w.heap.size w.heap.size 24 33 2 (fun pre : List (Int × Int) => pre.length) (fun pre => pre.flatMap enc5) (fun pre v => v = .slice none 0 0 ↔ pre = [])) _) (ownFrom_below (Nat.le_refl _) (by simp)))
    (fun _ => ownFrom_pure _ _) ⟨⟨_, Boxed.new w 24 _, World.ownsRow_nil _ _ _ _, by simp⟩, (Below.refl _ w).alloc (Nat.le_refl _) _⟩
    (fun x a' W => ∃ Bx, w.heap.size < Bx ∧ W.heap[Bx]? = some (.cells #[.int .i64 x.1, .int .i64 x.2] 33 (0, 0)) ∧ a' = { tmps := #[.slice none 0 0, .func (.func 32) #[] #[.pointer (some ⟨Bs, 0, none⟩)], .pointer (some ⟨w.heap.size, 0, none⟩), undef, .slice none 0 0, .pointer (some ⟨Bx, 0, none⟩), .func (.func 32) #[] #[.pointer (some ⟨Bs, 0, none⟩)], .agg #[.int .i64 x.1, .int .i64 x.2], undef, undef, undef, undef, undef], defers := [] })
    (fun x a' => ?own) ?assign ?body ?done ?stop
  case own =>
    rintro s X Y row ⟨Bx, e1, e2, e3⟩ hg hr
    refine ⟨Bx, e1, (hg.block Bx (Array.getElem?_eq_some_iff.1 e2).1 (fun e => ?_)).trans e2, e3⟩
    obtain ⟨_, o, ho, hcl⟩ := hr Bx e.symm
    rw [e2] at ho
    cases ho
    cases hcl
  case assign =>
    rintro l pre x W K ⟨⟨v, hv, hr, hn0⟩, hb⟩ hK
    have hle := hb.size
    gi_wp2
    exact hK _ _ ((KeepsOthers.alloc _ _).from _) ((Below.refl n₀ W).alloc (by omega) _) ⟨⟨v, hv.alloc _, hr.alloc _, hn0⟩, hb.alloc hb.size _⟩ ⟨W.heap.size, hv.lt, World.alloc_heap_new W _, rfl⟩
  case body =>
    rintro l pre x a' W hl ⟨r, hr⟩ ⟨⟨v, hv, hrow, hn0⟩, hB⟩ ⟨Bx, hBx, bX, rfl⟩ hlt
    obtain ⟨i0, hi, hz0, hz1, hz2⟩ := info_parts info33_5
    have hx0 : W.cell? ⟨Bx, 0, none⟩ = some (.int .i64 x.1) := by simp [World.cell?, bX]
    have hx1 : W.cell? ⟨Bx, 1, none⟩ = some (.int .i64 x.2) := by simp [World.cell?, bX]
    have hvc := hv.cell
    have hle : w.heap.size ≤ w.heap.size := Nat.le_refl _
    have hml : zs.length ≤ maxLen := by unfold maxLen; omega
    gi_wp2_with (gi_at_builtin; refine wpListIn_append_own _ rfl _ _ 24 rfl w.heap.size 33 i0 (.agg #[.int .i64 0, .int .i64 0]) 2 16 Try.underlying24 hi hz0 hz1 hz2 rfl (by decide) _ _ _ rfl (hrow.alloc _) ⟨W.heap.size, 0, none⟩ 1 1 (enc5 x) rfl rfl (cell_two_new5 _ _ _ _) (by simp [Value.oneCell']) (by omega) (by omega) (by have := hB.size; simp; omega) ?_; intro v' w1 hown' hgrow _; obtain ⟨g', cap', rfl⟩ := ownsRow_succ hown'; obtain ⟨hv1, hv2, hr2, hk2, hb2⟩ := hv.appended (by decide) hrow hB.size hle hown' hgrow; have hc1 := hv1.cell; have hf1 := hv1.frozen)
    exact ⟨hk2.from _, hb2.mono hn₀, ⟨_, hv2, by simpa using hr2, by simp⟩, hB.trans (hb2.mono (Nat.le_refl _))⟩
  case done =>
    rintro D ys W hD rfl ⟨⟨v, hv, hr, hn0⟩, hb⟩ hK
    have hvc := hv.cell
    gi_wp2
    refine ⟨by simp, .inl ⟨_, _, rfl, run_takeDeferred hK, ?_⟩⟩
    exact ⟨_, results_tmp rfl _ _ _, v, rfl, ownsRow_putObj hr _ hK rfl, hn0, hb.trans (belowK_b (w := w) (Nat.le_refl _) W D _ _ (by simp at hD; omega) hK rfl rfl)⟩
  case stop => rintro D c pre W hD _ h; exact h.elim
theorem collect_in5 (F : Fence) (n : Nat) (h30 : F.fn 30) (h35 : F.fn 35) (h32 : F.fn 32) (hro : F.round = none) (hn : 4 ≤ n) (Bs n₀ : Nat) (sv : Value) (zs : List (Int × Int)) (hreach : zs.length * 16 ≤ 140737488351232) (w : World) (hBs : Bs < w.heap.size) (hn₀ : n₀ ≤ w.heap.size)
    (hc : w.cell? ⟨Bs, 0, none⟩ = some sv) (hI : Angs5 n₀ w sv zs) :
    CallsIn F n Try.prog 30 #[.func (.func 32) #[] #[.pointer (some ⟨Bs, 0, none⟩)]] w fun e w' => ∃ v : Value, e = .returned v ∧ w'.ownsRow w.heap.size 33 2 v zs.length (zs.flatMap enc5) ∧ (v = .slice none 0 0 ↔ zs = []) ∧ Below w.heap.size w w' := by
  have h1 : 1 ≤ n := by omega
  refine callsIn_of_wp Try.func30 rfl h30 ?_ hro
  simp only [Try.ntmps30, List.size_toArray, List.length_cons, List.length_nil, Nat.reduceAdd, Nat.reduceSub, Array.replicate_succ, Array.replicate_zero, List.push_toArray, List.append_toArray, List.nil_append, List.cons_append]
  gi_wp2_with (gi_at_call 35; refine (appendSeq_in5 F (n - 1) h35 h32 hro (by omega) Bs n₀ sv zs hreach _ hBs hn₀ hc hI).mono ?_; rintro e w' ⟨v, rfl, hrow, hnil, hb⟩)
  go_ret
  exact ⟨v, rfl, hrow, hnil, hb⟩
end
theorem collect.calls5 (Bs n₀ : Nat) (sv : Value) (zs : List (Int × Int)) (hreach : zs.length * 16 ≤ 140737488351232) (w : World) (hBs : Bs < w.heap.size) (hn₀ : n₀ ≤ w.heap.size) (hc : w.cell? ⟨Bs, 0, none⟩ = some sv) (hI : Angs5 n₀ w sv zs) :
    Calls Try.prog 30 #[.func (.func 32) #[] #[.pointer (some ⟨Bs, 0, none⟩)]] w fun e w' => ∃ v : Value, e = .returned v ∧ w'.ownsRow w.heap.size 33 2 v zs.length (zs.flatMap enc5) ∧ (v = .slice none 0 0 ↔ zs = []) ∧ Below w.heap.size w w' :=
  (callsIn_wide (n := 4)).1 (collect_in5 _ 4 trivial trivial trivial rfl (by omega) Bs n₀ sv zs hreach w hBs hn₀ hc hI)
theorem values.calls5 (a : Option Addr) (len cap : Nat) (w : World) :
    Calls Try.prog 24 #[.slice a len cap] w fun e w' => e = .returned (.func (.func 32) #[] #[.pointer (some ⟨w.heap.size, 0, none⟩)]) ∧ w' = w.alloc (.cells #[.slice a len cap] 24) :=
  (callsIn_wide (n := 4)).1 (values_in5 _ 4 trivial rfl a len cap w)
section
open Go.Shelf
/-- Strikes what equals its neighbour. -/
def compactA : List (Int × Int) → List (Int × Int)
  | [] => []
  | x :: xs => match compactA xs with
    | [] => [x]
    | y :: ys => if x = y then y :: ys else x :: y :: ys
theorem compactA_ne : ∀ (x : Int × Int) (l : List (Int × Int)), compactA (x :: l) ≠ []
  | x, l => by
    unfold compactA
    split
    · simp
    · split <;> simp
theorem compactA_snoc (x y : Int × Int) : ∀ l, compactA (l ++ [x, y]) = if y = x then compactA (l ++ [x]) else compactA (l ++ [x]) ++ [y]
  | [] => by
    by_cases h : y = x
    · subst h; simp [compactA]
    · simp [compactA, h, Ne.symm h]
  | a :: l => by
    have ih := compactA_snoc x y l
    rw [List.cons_append, List.cons_append]
    rw [compactA, ih]
    by_cases h : y = x
    · rw [if_pos h, if_pos h, compactA]
    · rw [if_neg h, if_neg h]
      rw [compactA]
      cases hc : compactA (l ++ [x]) with
      | nil =>
        cases l with
        | nil => exact absurd hc (compactA_ne x [])
        | cons b l => exact absurd hc (compactA_ne b (l ++ [x]))
      | cons c cs =>
        by_cases hac : a = c <;> simp [hac]
theorem compactA_take (zs : List (Int × Int)) {j : Nat} (h0 : 0 < j) (hj : j < zs.length) : compactA (zs.take (j + 1)) = if zs[j] = zs[j - 1] then compactA (zs.take j) else compactA (zs.take j) ++ [zs[j]] := by
  have e1 : zs.take (j + 1) = zs.take j ++ [zs[j]] := List.take_succ_eq_append_getElem hj
  have e2 : zs.take j = zs.take (j - 1) ++ [zs[j - 1]] := by
    have := List.take_succ_eq_append_getElem (l := zs) (i := j - 1) (by omega)
    rwa [show j - 1 + 1 = j by omega] at this
  rw [e1, e2, List.append_assoc]
  exact compactA_snoc _ _ _
theorem neA {x y : Int × Int} (h : ¬ x = y) : ¬ x.1 = y.1 ∨ (x.1 = y.1 ∧ ¬ x.2 = y.2) := by
  by_cases hx : x.1 = y.1
  · exact .inr ⟨hx, fun hy => h (Prod.ext hx hy)⟩
  · exact .inl hx
/-- The row of angles in block g. -/
structure RowA (w : World) (g cap : Nat) (zs : List (Int × Int)) : Prop where
  blk : ∃ cur : Array Value, w.heap[g]? = some (.cells cur 33 (0, 0)) ∧ cur.size = cap * 2 ∧ ∀ j (hj : j < zs.length), cur[j * 2]? = some (.int .i64 zs[j].1) ∧ cur[j * 2 + 1]? = some (.int .i64 zs[j].2)
  le : zs.length ≤ cap
  mx : cap ≤ maxLen
theorem RowA.drewN {w : World} {g cap : Nat} {zs : List (Int × Int)} (h : RowA w g cap zs) (n : Nat) : RowA (w.drewN n) g cap zs := ⟨h.blk, h.le, h.mx⟩
theorem RowA.cell {w : World} {g cap : Nat} {zs : List (Int × Int)} (h : RowA w g cap zs) {j : Nat} (hj : j < zs.length) :
    w.cell? ⟨g, j * 2, none⟩ = some (.int .i64 zs[j].1) ∧ w.cell? ⟨g, j * 2 + 1, none⟩ = some (.int .i64 zs[j].2) := by
  obtain ⟨cur, hh, hs, hc⟩ := h.blk
  exact ⟨(blk_cell hh _).trans (hc j hj).1, (blk_cell hh _).trans (hc j hj).2⟩
theorem RowA.frozen {w : World} {g cap : Nat} {zs : List (Int × Int)} (h : RowA w g cap zs) (i : Nat) : w.frozen? ⟨g, i, none⟩ = false := by
  obtain ⟨cur, hh, hs, hc⟩ := h.blk
  exact blk_frozen hh _
theorem RowA.some {w : World} {g cap : Nat} {zs : List (Int × Int)} (h : RowA w g cap zs) {i : Nat} (hi : i < cap * 2) : ∃ v, w.cell? ⟨g, i, none⟩ = some v := by
  obtain ⟨cur, hh, hs, hc⟩ := h.blk
  exact ⟨cur[i], (blk_cell hh _).trans (by simp [hs, hi])⟩
theorem RowA.put {w : World} {g cap : Nat} {zs : List (Int × Int)} (h : RowA w g cap zs) {i : Nat} (hi : i < zs.length) (x : Int × Int) :
    RowA ((w.setCell ⟨g, i * 2, none⟩ (.int .i64 x.1)).setCell ⟨g, i * 2 + 1, none⟩ (.int .i64 x.2)) g cap (zs.set i x) := by
  obtain ⟨cur, hh, hs, hc⟩ := h.blk
  have hle := h.le
  refine ⟨⟨_, blk_set (blk_set hh (i * 2) _) (i * 2 + 1) _, by simpa using hs, fun j hj => ?_⟩, by rw [List.length_set]; exact h.le, h.mx⟩
  rw [List.length_set] at hj
  by_cases hij : i = j
  · subst hij
    simp [Array.getElem?_setIfInBounds, hs, hi]
    omega
  · rw [List.getElem_set_ne hij]
    have n1 : i * 2 ≠ j * 2 := by omega
    have n2 : i * 2 + 1 ≠ j * 2 := by omega
    have n3 : i * 2 ≠ j * 2 + 1 := by omega
    have n4 : i * 2 + 1 ≠ j * 2 + 1 := by omega
    rw [Array.getElem?_setIfInBounds_ne n2, Array.getElem?_setIfInBounds_ne n1, Array.getElem?_setIfInBounds_ne n4, Array.getElem?_setIfInBounds_ne n3]
    exact hc j hj
theorem RowA.cut {w : World} {g cap : Nat} {zs : List (Int × Int)} (h : RowA w g cap zs) (k : Nat) : RowA w g cap (zs.take k) := by
  obtain ⟨cur, hh, hs, hc⟩ := h.blk
  refine ⟨⟨cur, hh, hs, fun j hj => ?_⟩, Nat.le_trans (by rw [List.length_take]; omega) h.le, h.mx⟩
  rw [List.getElem_take]
  exact hc j (by rw [List.length_take] at hj; omega)
theorem RowA.past {w : World} {g cap : Nat} {zs : List (Int × Int)} (h : RowA w g cap zs) {i : Nat} (hi : zs.length * 2 ≤ i) (u : Value) : RowA (w.setCell ⟨g, i, none⟩ u) g cap zs := by
  obtain ⟨cur, hh, hs, hc⟩ := h.blk
  refine ⟨⟨_, blk_set hh i u, by simpa using hs, fun j hj => ?_⟩, h.le, h.mx⟩
  rw [Array.getElem?_setIfInBounds_ne (by omega), Array.getElem?_setIfInBounds_ne (by omega)]
  exact hc j hj
theorem RowA.clear {g cap : Nat} {zs : List (Int × Int)} : ∀ (vs : List Value) (w : World) (i : Nat), RowA w g cap zs → zs.length * 2 ≤ i → RowA (w.setCells g i vs) g cap zs
  | [], _, _, h, _ => h
  | v :: vs, w, i, h, hi => RowA.clear vs _ (i + 1) (h.past hi v) (by omega)
theorem belowA_drewN {B : Nat} {a w : World} (h : Below B a w) (n : Nat) : Below B a (w.drewN n) := h.trans ⟨rfl, rfl, rfl, Nat.le_refl _, fun _ _ => rfl⟩
theorem belowA_clear {B b : Nat} {a : World} (hb : B ≤ b) : ∀ (vs : List Value) (o : Nat) (w : World), Below B a w → Below B a (w.setCells b o vs)
  | [], _, _, h => h
  | v :: r, o, w, h => belowA_clear hb r (o + 1) _ (h.setCell (by exact hb) v)
/-- The row while it is being rewritten. -/
structure CompInv (zs ys : List (Int × Int)) (k j : Nat) : Prop where
  len : ys.length = zs.length
  pos : 0 < k
  lt : k < j
  le : j ≤ zs.length
  low : ys.take k = compactA (zs.take j)
  high : ∀ m, j - 1 ≤ m → ys[m]? = zs[m]?
theorem CompInv.at_ {zs ys : List (Int × Int)} {k j : Nat} (h : CompInv zs ys k j) (hj : j < zs.length) : ys[j]'(by rw [h.len]; exact hj) = zs[j] ∧ ys[j - 1]'(by rw [h.len]; omega) = zs[j - 1] := by
  have hl := h.len
  have h1 := h.high j (by omega)
  have h2 := h.high (j - 1) (Nat.le_refl _)
  rw [List.getElem?_eq_getElem (by omega), List.getElem?_eq_getElem (by omega)] at h1 h2
  injection h1 with h1
  injection h2 with h2
  exact ⟨h1, h2⟩
theorem CompInv.skip {zs ys : List (Int × Int)} {k j : Nat} (h : CompInv zs ys k j) (hj : j < zs.length) (he : zs[j] = zs[j - 1]) : CompInv zs ys k (j + 1) :=
  ⟨h.len, h.pos, by have := h.lt; omega, hj, by rw [compactA_take zs (by have := h.lt; omega) hj, if_pos he]; exact h.low, fun m hm => h.high m (by omega)⟩
theorem CompInv.keep {zs ys : List (Int × Int)} {k j : Nat} (h : CompInv zs ys k j) (hj : j < zs.length) (he : ¬ zs[j] = zs[j - 1]) : CompInv zs (ys.set k (ys[j]'(by rw [h.len]; exact hj))) (k + 1) (j + 1) := by
  have hl := h.len
  have hlt := h.lt
  refine ⟨by rw [List.length_set]; exact hl, by omega, by omega, hj, ?_, fun m hm => ?_⟩
  · rw [compactA_take zs (by omega) hj, if_neg he, ← h.low, List.take_succ_eq_append_getElem (by rw [List.length_set]; omega), List.getElem_set_self, List.take_set_of_le (Nat.le_refl _), (h.at_ hj).1]
  · rw [List.getElem?_set_ne (by omega)]
    exact h.high m (by omega)
theorem CompInv.start {zs : List (Int × Int)} {k : Nat} (h0 : 0 < k) (hk : k < zs.length) (hp : compactA (zs.take k) = zs.take k) (he : zs[k] = zs[k - 1]) : CompInv zs zs k (k + 1) :=
  ⟨rfl, h0, by omega, hk, by rw [compactA_take zs h0 hk, if_pos he, hp], fun m _ => rfl⟩
theorem compact_next {zs : List (Int × Int)} {k : Nat} (h0 : 0 < k) (hk : k < zs.length) (hp : compactA (zs.take k) = zs.take k) (he : ¬ zs[k] = zs[k - 1]) : compactA (zs.take (k + 1)) = zs.take (k + 1) := by
  rw [compactA_take zs h0 hk, if_neg he, hp]
  exact (List.take_succ_eq_append_getElem hk).symm
theorem compact_short {zs : List (Int × Int)} (h : zs.length < 2) : compactA zs = zs := by
  match zs, h with
  | [], _ => rfl
  | [x], _ => rfl
theorem run_clear_two (w : World) (t e ty : TypeId) (u : Value) (ht : Try.prog.underlying t = some (.slice e)) (hv : ∀ w, (zeroValue e).run Try.prog w = .ok (.agg #[u, u]) w) (h1 : u.oneCell' = true) (b o n c : Nat) (hn : 0 < n)
    (hc : ∀ j, j < n * 2 → (w.cell? ⟨b, o + j, none⟩).isSome = true) (hf : ∀ j, j < n * 2 → w.frozen? ⟨b, o + j, none⟩ = false) (hcs : (Value.agg #[u, u]).cells = #[u, u] := by rfl) :
    (Builtin.clear_ #[t] ty #[.slice (some ⟨b, o, none⟩) n c]).run Try.prog w = .ok (.tuple #[]) (w.setCells b o (List.replicate (n * 2) u)) := by
  have hzc : (Builtin.zeroCells (Value.agg #[u, u]).cells n).toList = List.replicate (n * 2) u := by
    rw [hcs]
    simp only [Builtin.zeroCells, List.size_toArray, List.length_cons, List.length_nil]
    apply List.ext_getElem
    · simp
    · intro i h1 h2
      simp
      have : i % 2 = 0 ∨ i % 2 = 1 := by omega
      rcases this with h | h <;> simp [h]
  have hst := run_storeCells_cells (P := Try.prog) b o (List.replicate (n * 2) u) 0 w (by simpa using hc) (by simpa using hf) (by intro v hv'; rw [List.eq_of_mem_replicate hv']; exact h1)
  simp only [Nat.add_zero] at hst
  obtain ⟨m, rfl⟩ : ∃ m, n = m + 1 := ⟨n - 1, by omega⟩
  simp [Builtin.clear_, run_underlying ht, hv, hzc, hst]
set_option maxHeartbeats 8000000 in
set_option maxRecDepth 100000 in
theorem slices_Compact_A.calls (g cap : Nat) (zs : List (Int × Int)) (w0 w : World) (hB : Below w0.heap.size w0 w) (hg : w0.heap.size ≤ g) (hR : RowA w g cap zs) :
    Calls Try.prog 22 #[.slice (some ⟨g, 0, none⟩) zs.length cap] w fun e w' => e = .returned (.slice (some ⟨g, 0, none⟩) (compactA zs).length cap) ∧ RowA w' g cap (compactA zs) ∧ Below w0.heap.size w0 w' := by
  have HB := Aside0.mk hB
  have HR := Aside0.mk hR
  have HG := Aside0.mk hg
  have hnc : zs.length ≤ cap := hR.le
  have hcm : cap ≤ 9223372036854775807 := by have := hR.mx; unfold maxLen at this; omega
  have hu33 := Try.underlying33
  clear hB hR hg
  by_cases h2 : zs.length < 2
  · have h2z : (zs.length : Int) < 2 := by omega
    have h2b : decide ((zs.length : Int) < 2) = true := decide_eq_true h2z
    have hcs := compact_short h2
    go_enter Try.func22, Try.ntmps22
    go_wp2
    go_ret
    exact ⟨by rw [hcs]; rfl, by rw [hcs]; exact HR.out, HB.out⟩
  · have h2z : ¬ (zs.length : Int) < 2 := by omega
    have h2b : decide ((zs.length : Int) < 2) = false := decide_eq_false h2z
    go_enter Try.func22, Try.ntmps22
    go_wp2
    go_loopg [3, 4, 5] zs.length (fun gg s3 _ _ wr => ∃ (k : Nat), s3 = .int .i64 k ∧ zs.length - k ≤ gg ∧ 0 < k ∧ k ≤ zs.length ∧ Aside0 (compactA (zs.take k) = zs.take k) ∧ Aside0 (RowA wr g cap zs) ∧ Aside0 (Below w0.heap.size w0 wr))
    case atStart => exact ⟨1, rfl, by omega, by omega, by omega, ⟨by
      cases zs with
      | nil => exact absurd h2 (by simp)
      | cons z zs => rfl⟩, HR, HB⟩
    case round =>
      clear HB HR
      obtain ⟨k, rfl, hgg, hk0, hk1, HP, HR, HB⟩ := hrel
      by_cases hlt : k < zs.length
      · have hltz : (k : Int) < (zs.length : Int) := by omega
        have hltb : decide ((k : Int) < (zs.length : Int)) = true := decide_eq_true hltz
        have hk9 : ((k : Int) - 1).toNat = k - 1 := by omega
        have hwr : wrap64 ((k : Int) - 1) = ((k - 1 : Nat) : Int) := by unfold wrap64; omega
        have hwr2 : IntKind.i64.wrap ((k : Int) - 1) = ((k - 1 : Nat) : Int) := by rw [show (k : Int) - 1 = ((k - 1 : Nat) : Int) by omega]; exact (IntWalk.i64_left _).trans (IntWalk.wrap64_in _ (by omega))
        obtain ⟨ca, cb⟩ := HR.out.cell hlt
        obtain ⟨cc, cd⟩ := HR.out.cell (j := k - 1) (by omega)
        have hl1 : k - 1 < zs.length := by omega
        by_cases he : zs[k] = zs[k - 1]
        · have heq : ((zs[k].1 == (zs[k - 1]).1) && (zs[k].2 == (zs[k - 1]).2)) = true := by rw [he]; simp
          go_wp2
          go_quiet (fail)
          go_wp2
          have HI := Aside0.mk (CompInv.start hk0 hlt HP.out he)
          have HP1 := Aside0.mk hk0
          have hkn : zs.length - k ≤ cap - k := by omega
          clear hk9 ca cb cc cd he heq HP hgg
          go_loopg [3, 5] zs.length (fun gg s3 s5 wi => ∃ (i j : Nat) (ys : List (Int × Int)), s3 = .int .i64 i ∧ s5 = .int .i64 j ∧ zs.length - (k + j) ≤ gg ∧ 0 < j ∧ Aside0 (CompInv zs ys i (k + j)) ∧ Aside0 (RowA wi g cap ys) ∧ Aside0 (Below w0.heap.size w0 wi))
          case atStart => exact ⟨k, 1, zs, rfl, rfl, by omega, by omega, HI, ⟨HR.out.drewN _⟩, ⟨belowA_drewN HB.out _⟩⟩
          case round =>
            clear HI HR HB
            obtain ⟨i, j, ys, rfl, rfl, hgg, hj0, I, HR, HB⟩ := hrel
            have hyl : ys.length = zs.length := I.out.len
            have hle := I.out.le
            have hil := I.out.lt
            have hi0 := I.out.pos
            by_cases hjl : k + j < zs.length
            · have hjz : (j : Int) < ((zs.length - k : Nat) : Int) := by omega
              have hjb : decide ((j : Int) < ((zs.length - k : Nat) : Int)) = true := decide_eq_true hjz
              have hj9 : ((j : Int) - 1).toNat = j - 1 := by omega
              have hwr2 : IntKind.i64.wrap ((j : Int) - 1) = ((j - 1 : Nat) : Int) := by rw [show (j : Int) - 1 = ((j - 1 : Nat) : Int) by omega]; exact (IntWalk.i64_left _).trans (IntWalk.wrap64_in _ (by omega))
              have hwr : wrap64 ((j : Int) - 1) = ((j - 1 : Nat) : Int) := (IntWalk.i64_left _).symm.trans hwr2
              obtain ⟨ea, eb⟩ := I.out.at_ hjl
              obtain ⟨ca, cb⟩ := HR.out.cell (j := k + j) (by omega)
              obtain ⟨cc, cd⟩ := HR.out.cell (j := k + j - 1) (by omega)
              rw [ea] at ca cb
              rw [eb] at cc cd
              rw [show (k + j) * 2 = k * 2 + j * 2 by omega] at ca cb
              rw [show (k + j - 1) * 2 = k * 2 + (j - 1) * 2 by omega] at cc cd
              have hl1 : j - 1 < zs.length - k := by omega
              have hl2 : j < zs.length - k := by omega
              have hin : i < zs.length := by omega
              have hfz1 := HR.out.frozen (i * 2)
              have hfz2 := HR.out.frozen (i * 2 + 1)
              obtain ⟨va, ha⟩ := HR.out.some (i := i * 2) (by omega)
              obtain ⟨vb, hb⟩ := HR.out.some (i := i * 2 + 1) (by omega)
              by_cases he : zs[k + j] = zs[k + j - 1]
              · have heq : ((zs[k + j].1 == (zs[k + j - 1]).1) && (zs[k + j].2 == (zs[k + j - 1]).2)) = true := by rw [he]; simp
                go_wp2
                go_quiet (fail)
                go_wp2
                go_roundg (zs.length - (k + (j + 1)))
                case measure => omega
                case rel => exact ⟨i, j + 1, ys, rfl, by go_num, Nat.le_refl _, by omega, ⟨I.out.skip hjl he⟩, ⟨HR.out.drewN _⟩, ⟨belowA_drewN HB.out _⟩⟩
              · have hq := neA he
                generalize hz1 : zs[k + j].1 = a1 at ca cb cc cd hq
                generalize hz2 : zs[k + j].2 = a2 at ca cb cc cd hq
                generalize (zs[k + j - 1]).1 = b1 at ca cb cc cd hq
                generalize (zs[k + j - 1]).2 = b2 at ca cb cc cd hq
                rcases hq with hq | ⟨rfl, hq⟩
                all_goals
                  go_wp2
                  go_quiet (fail)
                  go_wp2
                  go_roundg (zs.length - (k + (j + 1)))
                  case measure => omega
                  case rel => exact ⟨i + 1, j + 1, ys.set i zs[k + j], by go_num, by go_num, Nat.le_refl _, by omega, ⟨by rw [← ea]; exact I.out.keep hjl he⟩, ⟨by first | (rw [← hz2, ← hz1]; exact (HR.out.drewN _).put (by omega) zs[k + j]) | (rw [← hz2, ← hz1]; exact (HR.out.drewN _).put (by omega) zs[k + j])⟩, ⟨below_set (below_set (belowA_drewN HB.out _) HG.out) HG.out⟩⟩
            · have hjn : k + j = zs.length := by omega
              have hjz : ¬ (j : Int) < ((zs.length - k : Nat) : Int) := by omega
              have hjb : decide ((j : Int) < ((zs.length - k : Nat) : Int)) = false := decide_eq_false hjz
              have hin : i < zs.length := by omega
              have hcl : ∀ ty, (Builtin.clear_ #[24] ty #[.slice (some ⟨g, i * 2, none⟩) (zs.length - i) (cap - i)]).run Try.prog wr = .ok (.tuple #[]) (wr.setCells g (i * 2) (List.replicate ((zs.length - i) * 2) (.int .i64 0))) :=
                fun ty => run_clear_two wr 24 33 ty (.int .i64 0) Try.underlying24 (fun w => by kernel_rfl) rfl g (i * 2) _ _ (by omega) (fun t ht => by rw [show i * 2 + t = i * 2 + t from rfl]; obtain ⟨v, hv⟩ := HR.out.some (i := i * 2 + t) (by omega); rw [hv]; rfl) (fun t _ => HR.out.frozen _)
              have hlow : ys.take i = compactA zs := by
                have := I.out.low
                rwa [hjn, List.take_length] at this
              have hcnt : (compactA zs).length = i := by rw [← hlow, List.length_take]; omega
              have hR4 := (HR.out.cut i).clear (List.replicate ((zs.length - i) * 2) (.int .i64 0)) wr (i * 2) (by rw [List.length_take]; omega)
              rw [hlow] at hR4
              have H4 := Aside0.mk hR4
              have HCN := Aside0.mk hcnt
              have HB4 := Aside0.mk (belowA_clear HG.out (List.replicate ((zs.length - i) * 2) (.int .i64 0)) (i * 2) wr HB.out)
              have hic : i ≤ cap := by omega
              have hnic : zs.length - i ≤ cap - i := by omega
              clear hR4 hcnt hlow
              go_wp2
              go_ret
              exact ⟨by rw [HCN.out]; rfl, H4.out, HB4.out⟩
        · have hq := neA he
          generalize zs[k].1 = a1 at ca cb cc cd hq
          generalize zs[k].2 = a2 at ca cb cc cd hq
          generalize (zs[k - 1]).1 = b1 at ca cb cc cd hq
          generalize (zs[k - 1]).2 = b2 at ca cb cc cd hq
          rcases hq with hq | ⟨rfl, hq⟩
          all_goals
            go_wp2
            go_quiet (fail)
            go_wp2
            go_roundg (zs.length - (k + 1))
            case measure => omega
            case rel => exact ⟨k + 1, by go_num, Nat.le_refl _, by omega, by omega, ⟨compact_next hk0 hlt HP.out he⟩, ⟨HR.out.drewN _⟩, ⟨belowA_drewN HB.out _⟩⟩
      · have hkn : k = zs.length := by omega
        have hltz : ¬ (k : Int) < (zs.length : Int) := by omega
        have hltb : decide ((k : Int) < (zs.length : Int)) = false := decide_eq_false hltz
        have hcs : compactA zs = zs := by
          have := HP.out
          rwa [hkn, List.take_length] at this
        have HCS := Aside0.mk hcs
        clear hcs
        go_wp2
        go_ret
        exact ⟨by rw [HCS.out]; rfl, by rw [HCS.out]; exact HR.out, HB.out⟩
end
section
open Go.Shelf
open Go.Sort (putRowK HoldsK putCells flatK)
open Go.Proofs (sortWorldK)
theorem flat5 : ∀ (zs : List (Int × Int)) (j : Nat) (hj : j < zs.length), (zs.flatMap enc5)[j * 2]? = some (.int .i64 zs[j].1) ∧ (zs.flatMap enc5)[j * 2 + 1]? = some (.int .i64 zs[j].2)
  | z :: zs, 0, _ => ⟨rfl, rfl⟩
  | z :: zs, j + 1, h => by
    have ih := flat5 zs j (by simpa using h)
    rw [List.flatMap_cons]
    constructor
    · rw [List.getElem?_append_right (by simp [enc5]; omega), show (j + 1) * 2 - (enc5 z).length = j * 2 by simp [enc5]; omega]
      exact ih.1
    · rw [List.getElem?_append_right (by simp [enc5]; omega), show (j + 1) * 2 + 1 - (enc5 z).length = j * 2 + 1 by simp [enc5]; omega]
      exact ih.2
/-- A new row of angles, told cell by cell. -/
theorem rowA_of_own {w : World} {base : Nat} {v : Value} {zs : List (Int × Int)} (h : w.ownsRow base 33 2 v zs.length (zs.flatMap enc5)) (hv : v ≠ .slice none 0 0) :
    ∃ g cap, v = .slice (some ⟨g, 0, none⟩) zs.length cap ∧ base ≤ g ∧ RowA w g cap zs := by
  obtain ⟨hl, ⟨h0, _⟩ | ⟨g, cap, cur, hv2, hb, hh, hn, hm, hs, ht⟩⟩ := h
  · exact absurd h0 hv
  · refine ⟨g, cap, hv2, hb, ⟨cur, hh, hs, fun j hj => ?_⟩, hn, hm⟩
    obtain ⟨f1, f2⟩ := flat5 zs j hj
    rw [← ht, List.getElem?_take_of_lt (by omega), Array.getElem?_toList] at f1 f2
    exact ⟨f1, f2⟩
theorem RowA.lt {w : World} {g cap : Nat} {zs : List (Int × Int)} (h : RowA w g cap zs) : g < w.heap.size := by
  obtain ⟨cur, hh, _⟩ := h.blk
  exact (Array.getElem?_eq_some_iff.1 hh).1
theorem RowA.holds {w : World} {g cap : Nat} {d : Array Ang5} (h : RowA w g cap (d.toList.map (·.1))) : HoldsK encAng 2 w g 0 d := by
  intro t ht
  have hF : (flatK encAng 2 d)[t]! = (encAng d[t / 2]!)[t % 2]! := by
    rw [Go.Sort.size_flatK] at ht
    exact Go.Sort.get_flatK _ _ _ _ ht
  rw [hF]
  rw [Go.Sort.size_flatK] at ht
  have hj : t / 2 < d.size := by omega
  have hjl : t / 2 < (d.toList.map (·.1)).length := by simpa using hj
  obtain ⟨c1, c2⟩ := h.cell hjl
  have he : (d.toList.map (·.1))[t / 2] = d[t / 2]!.1 := by simp [getElem!_pos d (t / 2) hj]
  rw [he] at c1 c2
  refine ⟨?_, h.frozen _⟩
  rw [Nat.zero_add]
  rcases (show t % 2 = 0 ∨ t % 2 = 1 by omega) with hm | hm
  · rw [hm]
    have : t = t / 2 * 2 := by omega
    rw [this]
    simpa [encAng] using c1
  · rw [hm]
    have : t = t / 2 * 2 + 1 := by omega
    rw [this, show (t / 2 * 2 + 1) / 2 = t / 2 by omega]
    simpa [encAng] using c2
theorem heap_sortedA {w : World} {g n : Nat} {os : Array Obj} {cur : Array Value} {e : TypeId} {fr : Nat × Nat} (d : Array Ang5) (hb : w.heap[g]? = some (.cells cur e fr)) :
    (sortWorldK encAng 2 w g 0 n d os).heap[g]? = some (.cells (putCells id 0 (flatK encAng 2 d) cur) e fr) := by
  have hg : g < w.heap.size := (Array.getElem?_eq_some_iff.1 hb).1
  unfold sortWorldK putRowK
  rw [Go.Sort.heap_grow_old _ _ (by simpa using hg)]
  simp [Go.Sort.putRow, Go.Sort.mapBlock, Go.Sort.ahead, Array.getElem?_modify, hb, Go.Sort.onCells]
theorem RowA.sorted {w : World} {g cap : Nat} {zs : List (Int × Int)} (h : RowA w g cap zs) (n : Nat) (os : Array Obj) (d : Array Ang5) (hd : d.size = zs.length) : RowA (sortWorldK encAng 2 w g 0 n d os) g cap (d.toList.map (·.1)) := by
  obtain ⟨cur, hh, hs, hc⟩ := h.blk
  have hle := h.le
  refine ⟨⟨_, heap_sortedA d hh, by simpa [putCells] using hs, fun j hj => ?_⟩, by simpa [hd] using h.le, h.mx⟩
  have hj' : j < d.size := by simpa using hj
  have e1 : (flatK encAng 2 d)[j * 2]! = .int .i64 d[j].1.1 := by
    rw [Go.Sort.get_flatK _ _ _ _ (by omega), show j * 2 / 2 = j by omega, show j * 2 % 2 = 0 by omega, getElem!_pos d j hj']
    rfl
  have e2 : (flatK encAng 2 d)[j * 2 + 1]! = .int .i64 d[j].1.2 := by
    rw [Go.Sort.get_flatK _ _ _ _ (by omega), show (j * 2 + 1) / 2 = j by omega, show (j * 2 + 1) % 2 = 1 by omega, getElem!_pos d j hj']
    rfl
  have hz : (flatK encAng 2 d).size = d.size * 2 := Go.Sort.size_flatK _ _ _
  have k1 : j * 2 < cur.size := by omega
  have k2 : j * 2 + 1 < cur.size := by omega
  constructor
  · simp only [putCells, Array.getElem?_mapIdx, Array.getElem?_eq_getElem k1, Option.map_some, Nat.zero_add, Nat.sub_zero]
    rw [if_pos (by omega), e1]
    simp
  · simp only [putCells, Array.getElem?_mapIdx, Array.getElem?_eq_getElem k2, Option.map_some, Nat.zero_add, Nat.sub_zero]
    rw [if_pos (by omega), e2]
    simp
theorem belowA_sorted {B : Nat} {a w : World} {g : Nat} (h : Below B a w) (hg : B ≤ g) (hB : B ≤ w.heap.size) (n : Nat) (os : Array Obj) (d : Array Ang5) : Below B a (sortWorldK encAng 2 w g 0 n d os) := by
  refine h.trans ⟨rfl, rfl, rfl, ?_, fun k hk => ?_⟩
  · unfold sortWorldK putRowK
    simp [Go.Sort.grow]
  · unfold sortWorldK putRowK
    rw [Go.Sort.heap_grow_old _ _ (by simp; omega)]
    simp [Go.Sort.putRow, Go.Sort.mapBlock, Go.Sort.ahead, Array.getElem?_modify, show g ≠ k by omega]
end
section
open Go.Shelf
/-- Ascending order of angles. -/
def sortA (zs : List (Int × Int)) : List (Int × Int) := zs.mergeSort fun x y => !decide (y.1 * x.2 < x.1 * y.2)
/-- A row of angles of the call's own, or nil. -/
def OwnA (W : World) (base : Nat) (v : Value) (ys : List (Int × Int)) : Prop := (v = .slice none 0 0 ∧ ys = []) ∨ ∃ g cap, v = .slice (some ⟨g, 0, none⟩) ys.length cap ∧ base ≤ g ∧ RowA W g cap ys
theorem sortA_of (zs : List (Int × Int)) (hok : ∀ x ∈ zs, okAng x) (d : Array Ang5) (hp : Go.Sort.PermIn 0 (zs.attachWith okAng hok).toArray.size (zs.attachWith okAng hok).toArray d) (hs : Go.Sort.SortedIn (ltOf cfAng) 0 (zs.attachWith okAng hok).toArray.size d) : d.toList.map (·.1) = sortA zs := by
  have h := Go.Sort.sorted_unique_holds swoAng totAng _ _ hp hs
  rw [h, List.map_mergeSort (s := fun x y => !decide (y.1 * x.2 < x.1 * y.2)) (fun a _ b _ => by rw [ltAng])]
  unfold sortA
  congr 1
  apply List.ext_getElem <;> simp
theorem sortA_length (zs : List (Int × Int)) : (sortA zs).length = zs.length := by unfold sortA; simp
set_option maxHeartbeats 4000000 in
set_option maxRecDepth 100000 in
theorem slices_SortedFunc_A.calls (Bs n₀ : Nat) (sv : Value) (zs : List (Int × Int)) (hreach : zs.length * 16 ≤ 140737488351232) (hok : ∀ x ∈ zs, okAng x) (w : World) (hBs : Bs < w.heap.size) (hn₀ : n₀ ≤ w.heap.size) (hc : w.cell? ⟨Bs, 0, none⟩ = some sv) (hI : Angs5 n₀ w sv zs) :
    Calls Try.prog 23 #[.func (.func 32) #[] #[.pointer (some ⟨Bs, 0, none⟩)], .func (.func 25) #[] #[]] w fun e w' => ∃ v, e = .returned v ∧ OwnA w' w.heap.size v (sortA zs) ∧ Below w.heap.size w w' := by
  have hcol := collect.calls5 Bs n₀ sv zs hreach w hBs hn₀ hc hI
  have HO := Aside0.mk hok
  clear hc hI hBs hn₀ hok
  cases zs with
  | nil =>
    go_enter Try.func23, Try.ntmps23
    go_wp2_with (first | (go_at_call 30; refine hcol.mono ?_; rintro e w1 ⟨v, rfl, hr, hnil, hb⟩; obtain rfl := hnil.2 rfl; have hsn := Go.Proofs.AnyF.slices_SortFunc_none Try.sortAng none 0 (.func (.func 25) #[] #[]) w1) | (go_at_call 31; refine hsn.mono ?_; rintro e w2 ⟨rfl, rfl⟩))
    go_ret
    exact ⟨_, rfl, .inl ⟨rfl, by simp [sortA]⟩, hb⟩
  | cons z zs =>
    have hne : z :: zs ≠ [] := by simp
    generalize z :: zs = ys at hne hcol HO hreach
    have hdl : (ys.attachWith okAng HO.out).toArray.size = ys.length := by simp
    have hsf : ∀ (w1 : World) (g cap : Nat), RowA w1 g cap ys → Calls Try.prog 31 #[.slice (some ⟨g, 0, none⟩) ys.length cap, .func (.func 25) #[] #[]] w1 fun e w' => e = .returned (.tuple #[]) ∧ ∃ d' n os, Go.Sort.PermIn 0 ys.length (ys.attachWith okAng HO.out).toArray d' ∧ Go.Sort.SortedIn (ltOf cfAng) 0 ys.length d' ∧ w' = sortWorldK encAng 2 w1 g 0 n d' os := fun w1 g cap hR => by
      have hm : (ys.attachWith okAng HO.out).toArray.toList.map (·.1) = ys := by apply List.ext_getElem <;> simp
      have h := slices_SortFunc_Ang.calls g 0 cap (ys.attachWith okAng HO.out).toArray w1 (RowA.holds (cap := cap) (by rw [hm]; exact hR)) hR.lt (by rw [hdl]; omega)
      rw [hdl] at h
      exact h
    go_enter Try.func23, Try.ntmps23
    go_wp2_with (first | (go_at_call 30; refine hcol.mono ?_; rintro e w1 ⟨v, rfl, hr, hnil, hb⟩; obtain ⟨g, cap, rfl, hg, hR⟩ := rowA_of_own hr (fun e => hne (hnil.1 e)); have hsg := hsf w1 g cap hR) | (go_at_call 31; refine hsg.mono ?_; rintro e w2 ⟨rfl, d, n, os, hp, hs, rfl⟩))
    go_ret
    have hds : d.size = ys.length := by rw [hp.1]; simp
    have hso := sortA_of ys HO.out d (by rw [hdl]; exact hp) (by rw [hdl]; exact hs)
    have hR2 := hR.sorted n os d hds
    rw [hso] at hR2
    exact ⟨_, rfl, .inr ⟨g, cap, by rw [sortA_length]; rfl, hg, hR2⟩, belowA_sorted hb hg hb.size n os d⟩
theorem slices_Compact_nil.calls (w : World) : Calls Try.prog 22 #[.slice none 0 0] w fun e w' => e = .returned (.slice none 0 0) ∧ w' = w := by
  go_enter Try.func22, Try.ntmps22
  go_wp2
  go_ret
  exact ⟨rfl, rfl⟩
theorem OwnA.mono {W : World} {b b' : Nat} {v : Value} {ys : List (Int × Int)} (h : OwnA W b v ys) (hb : b' ≤ b) : OwnA W b' v ys := by
  rcases h with h | ⟨g, cap, e, hg, hR⟩
  · exact .inl h
  · exact .inr ⟨g, cap, e, Nat.le_trans hb hg, hR⟩
theorem slices_Compact_own.calls (v : Value) (ys : List (Int × Int)) (w0 w : World) (hB : Below w0.heap.size w0 w) (ho : OwnA w w0.heap.size v ys) :
    Calls Try.prog 22 #[v] w fun e w' => ∃ v', e = .returned v' ∧ OwnA w' w0.heap.size v' (compactA ys) ∧ Below w0.heap.size w0 w' := by
  rcases ho with ⟨rfl, rfl⟩ | ⟨g, cap, rfl, hg, hR⟩
  · exact (slices_Compact_nil.calls w).mono fun e w' ⟨he, hw⟩ => ⟨_, he, .inl ⟨rfl, rfl⟩, by rw [hw]; exact hB⟩
  · exact (slices_Compact_A.calls g cap ys w0 w hB hg hR).mono fun e w' ⟨he, hR', hb⟩ => ⟨_, he, .inr ⟨g, cap, rfl, hg, hR'⟩, hb⟩
set_option maxHeartbeats 4000000 in
set_option maxRecDepth 100000 in
theorem sorted_A.calls (a : Option Addr) (cap : Nat) (zs : List (Int × Int)) (hreach : zs.length * 16 ≤ 140737488351232) (hok : ∀ x ∈ zs, okAng x) (w : World) (hI : Angs5 w.heap.size w (.slice a zs.length cap) zs) :
    Calls Try.prog 15 #[.slice a zs.length cap] w fun e w' => ∃ v, e = .returned v ∧ OwnA w' w.heap.size v (compactA (sortA zs)) ∧ Below w.heap.size w w' := by
  have hB1 : Below w.heap.size w (w.alloc (.cells #[.slice a zs.length cap] 24)) := (Below.refl _ w).alloc (Nat.le_refl _) _
  have hv := values.calls5 a zs.length cap w
  have hsz : (w.alloc (.cells #[.slice a zs.length cap] 24)).heap.size = w.heap.size + 1 := by simp
  have hs := slices_SortedFunc_A.calls w.heap.size w.heap.size (.slice a zs.length cap) zs hreach hok (w.alloc (.cells #[.slice a zs.length cap] 24)) (by omega) (by omega) (by have hn := World.alloc_heap_new w (.cells #[.slice a zs.length cap] 24); unfold World.cell?; rw [show (⟨w.heap.size, 0, none⟩ : Addr).block = w.heap.size from rfl, hn]; rfl) (by
    rcases hI with ⟨a', c', h1, h2⟩ | ⟨b, off, c', h1, h2, h3⟩
    · exact .inl ⟨a', c', h1, h2⟩
    · exact .inr ⟨b, off, c', h1, h2, fun j hj => ⟨(hB1.cell (p := ⟨b, off + j * 2, none⟩) h2).trans (h3 j hj).1, (hB1.cell (p := ⟨b, off + j * 2 + 1, none⟩) h2).trans (h3 j hj).2⟩⟩)
  generalize hw1 : w.alloc (.cells #[.slice a zs.length cap] 24) = w1 at hB1 hv hs hsz
  clear hw1
  generalize sortA zs = ys at hs ⊢
  go_enter Try.func15, Try.ntmps15
  go_wp2_with (first | (go_at_call 24; refine hv.mono ?_; rintro e w2 ⟨rfl, rfl⟩) | (go_at_call 23; refine hs.mono ?_; rintro e w3 ⟨v, rfl, ho, hb⟩; have hb2 : Below w.heap.size w w3 := hB1.trans (hb.mono (by omega)); clear hb; have hcm := slices_Compact_own.calls v ys w w3 hb2 (ho.mono (by omega))) | (go_at_call 22; refine hcm.mono ?_; rintro e w4 ⟨v4, rfl, ho4, hb4⟩))
  go_ret
  exact ⟨_, rfl, ho4, hb4⟩
end
end Go.Proofs.Yteckdlmepgdlnaa.SortA
