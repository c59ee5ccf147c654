/- strings.Repeat at this program, for results of at most 8192 bytes. Conditions: the count is not negative, the result is not longer. -/
import Derived.Test.YthljodbopmcgeaaDoorRep
namespace Go.Proofs.YthljodbopmcgeaaDoor.Rep
open Go.Shelf Go.RowKit Go.Proofs
set_option linter.unusedVariables false
set_option linter.unusedSimpArgs false
theorem min3 {P : Program} {w : World} (ts : Array TypeId) (t : TypeId) (x y z : Int) :
    (Builtin.min_ ts t #[.int .i64 x, .int .i64 y, .int .i64 z]).run P w = .ok (.int .i64 (min (min x y) z)) w := by
  simp [Builtin.min_, Builtin.min2]
  repeat' split
  all_goals (congr 2; omega)

set_option maxHeartbeats 1600000 in
set_option maxRecDepth 1000000 in
theorem main (s : ByteArray) (c : Nat) (w : World) (hc2 : 2 ≤ c) (hlen : s.size * c ≤ 8192) (h0 : 0 < s.size) :
    Calls Tryd.prog 24 #[.string s, .int .i64 c] w fun e w' => e = .returned (.string ⟨(Lib.repeatL s.data.toList c).toArray⟩) ∧ Below w.heap.size w w' := by
  have hc : c ≤ 8192 := Nat.le_trans (Nat.le_mul_of_pos_left _ h0) hlen
  have hsz : s.size ≤ 8192 := Nat.le_trans (Nat.le_mul_of_pos_right _ (by omega)) hlen
  have hMul := Tryd.bits_Mul s.size c (by omega) (by omega) w
  rw [Nat.div_eq_of_lt (by omega : s.size * c < 18446744073709551616), Nat.mod_eq_of_lt (by omega : s.size * c < 18446744073709551616)] at hMul
  obtain ⟨n, hn⟩ : ∃ n, s.size * c = n := ⟨_, rfl⟩
  rw [hn] at hMul hlen
  have HN : Aside (s.size * c = n) := hn
  clear hn
  have mixed := mixed
  go_enter Tryd.func24, Tryd.ntmps24
  go_upto_block 1 with (go_at_call 34; refine hMul.mono ?_; rintro e w' ⟨rfl, hw⟩; rw [hw])
  clear hMul
  go_cut [] (fun wx => w = wx)
  case first =>
    go_upto_if 43 with fail
    go_cut [43] (fun s43 wx => w = wx ∧ ∃ B : Bool, s43 = .bool B)
    case first =>
      go_wp2
      all_goals (go_meet; exact ⟨rfl, _, rfl⟩)
    case rest =>
      obtain ⟨rfl, B, rfl⟩ := hcut
      cases B
      · go_wp2
        go_meet
        rfl
      · go_wp2_with (go_at_call 35; refine (hasPrefix _ _ _).mono ?_; rintro e w' ⟨rfl, hw⟩; rw [hw])
        all_goals (first
          | (go_meet; rfl)
          | (go_ret; first
              | exact ⟨by rw [Lib.fast_ok _ 32 128 (by rfl) s c n HN.out (by omega) (by assumption)] <;> rfl, Below.refl _ _⟩
              | exact ⟨by rw [Lib.fast_ok _ 45 128 (by rfl) s c n HN.out (by omega) (by assumption)] <;> rfl, Below.refl _ _⟩
              | exact ⟨by rw [Lib.fast_ok _ 48 64 (by rfl) s c n HN.out (by omega) (by assumption)] <;> rfl, Below.refl _ _⟩
              | exact ⟨by rw [Lib.fast_ok _ 61 128 (by rfl) s c n HN.out (by omega) (by assumption)] <;> rfl, Below.refl _ _⟩
              | exact ⟨by rw [Lib.fast_ok _ 9 64 (by rfl) s c n HN.out (by omega) (by assumption)] <;> rfl, Below.refl _ _⟩))
  case rest =>
    obtain rfl := hcut
    have b0 : Below w.heap.size w (w.alloc (.cells #[.pointer none, .slice none 0 0] TB)) := (Below.refl _ w).alloc (Nat.le_refl _) _
    have cG := Tryd.Builder_Grow_fresh w.heap.size w.heap.size n (w.alloc (.cells #[.pointer none, .slice none 0 0] TB)) (Nat.le_refl _) (heap_alloc_new w _) b0.size (by omega)
    go_wp2_with (go_at_call 26; refine cG.mono ?_; rintro e W1 ⟨rfl, h1, b1⟩)
    clear cG
    have cW := write w.heap.size w.heap.size [] s W1 (Lib.IsBuilderF.of (Or.inr h1)) (by simp; omega) (Nat.le_trans b0.size b1.size)
    go_wp2_with (go_at_call 28; refine cW.mono ?_; rintro e W2 ⟨rfl, h2, b2⟩)
    clear cW h1
    have h2' : Lib.IsBuilderF TB TU w.heap.size w.heap.size (Lib.byteCells (Lib.repeatL s.data.toList 1)) W2 := by
      rw [List.nil_append, Lib.strCells_eq] at h2
      rw [Lib.repeatL_one]
      exact Or.inr h2
    have b02 : Below w.heap.size w W2 := b0.trans (b1.trans b2)
    clear h2 b0 b1 b2
    go_loopg [] (c - 1) (fun g wx => ∃ q : Nat, 1 ≤ q ∧ q + g = c ∧ Lib.IsBuilderF TB TU w.heap.size w.heap.size (Lib.byteCells (Lib.repeatL s.data.toList q)) wx ∧ Below w.heap.size w wx)
    case atStart => exact ⟨1, Nat.le_refl _, by omega, h2', b02⟩
    case round =>
      obtain ⟨q, hq1, hqg, hB, hbx⟩ := hrel
      have hnc : c * s.size = n := by rw [Nat.mul_comm]; exact HN.out
      obtain ⟨Q, hQ⟩ : ∃ Q, q * s.size = Q := ⟨_, rfl⟩
      obtain ⟨S, hS⟩ : ∃ S : ByteArray, (⟨(Lib.repeatL s.data.toList q).toArray⟩ : ByteArray) = S := ⟨_, rfl⟩
      have hSd : S.data.toList = Lib.repeatL s.data.toList q := by rw [← hS]
      have hlq : (Lib.byteCells (Lib.repeatL s.data.toList q)).length = Q := by rw [Lib.byteCells_length, Lib.repeatL_length, ← Lib.size_eq, hQ]
      have hSz : S.size = Q := by rw [Lib.size_eq, hSd, Lib.repeatL_length, ← Lib.size_eq, hQ]
      have hne : Lib.repeatL s.data.toList q ≠ [] := by
        intro h
        have hl := Lib.repeatL_length s.data.toList q
        rw [h, ← Lib.size_eq] at hl
        have := Nat.mul_pos (show 0 < q by omega) h0
        simp at hl
        omega
      have cLen := len w.heap.size w.heap.size _ wr hB
      rw [hlq] at cLen
      have cStr := str w.heap.size w.heap.size (Lib.repeatL s.data.toList q) wr hB hne
      rw [hS] at cStr
      cases gk with
      | zero =>
        obtain rfl : q = c := by omega
        have hQn : ¬ ((Q : Int) < (n : Int)) := by omega
        go_wp2_with (first
          | (go_at_call 36; refine cLen.mono ?_; rintro e w' ⟨rfl, hw⟩; rw [hw])
          | (go_at_call 30; refine cStr.mono ?_; rintro e W3 ⟨rfl, h3, b3⟩))
        go_ret
        exact ⟨by rw [hS] <;> rfl, hbx.trans b3⟩
      | succ g =>
        have hqc : q < c := by omega
        obtain ⟨k, hk1, hkq, hkc, hmin⟩ := Lib.chunk_ok c q c s.size hq1 hqc (by omega)
        rw [hnc, hQ] at hmin
        obtain ⟨CH, hCH⟩ : ∃ CH, k * s.size = CH := ⟨_, rfl⟩
        rw [hCH] at hmin
        have hsum : Q + CH ≤ n := by
          have h1 : (q + k) * s.size ≤ c * s.size := Nat.mul_le_mul_right _ hkc
          rw [Nat.add_mul, hQ, hCH, hnc] at h1
          exact h1
        have hCH1 : 1 ≤ CH := by
          rw [← hCH]
          exact Nat.mul_pos hk1 h0
        have hCHQ : CH ≤ Q := by rw [← hCH, ← hQ]; exact Nat.mul_le_mul_right _ hkq
        have hQn : (Q : Int) < (n : Int) := by omega
        have hmin3 : ∀ (ts : Array TypeId) (t : TypeId) (W : World), (Builtin.min_ ts t #[.int .i64 ((n : Int) - (Q : Int)), .int .i64 (Q : Int), .int .i64 (n : Int)]).run Tryd.prog W = .ok (.int .i64 (CH : Int)) W := fun ts t W => by
          rw [min3]
          congr 2
          omega
        clear hmin
        go_wp2_with (first
          | (go_at_call 36; refine cLen.mono ?_; rintro e w' ⟨rfl, hw⟩; rw [hw])
          | (go_at_call 30; refine cStr.mono ?_; rintro e W3 ⟨rfl, h3, b3⟩))
        have cWr := write w.heap.size w.heap.size _ (S.extract 0 CH) W3 h3 (by
          rw [hlq, Lib.size_eq, Lib.extract_data, hSd]
          simp only [List.drop_zero, Nat.sub_zero, List.length_take, Lib.repeatL_length]
          omega) (Nat.le_trans hbx.size b3.size)
        go_wp2_with (go_at_call 28; refine cWr.mono ?_; rintro e W4 ⟨rfl, h4, b4⟩)
        go_roundg (c - (q + k))
        case measure => omega
        case rel =>
          refine ⟨q + k, by omega, by omega, Or.inr ?_, hbx.trans (b3.trans b4)⟩
          rw [Lib.strCells_eq, ← Lib.byteCells_append, Lib.extract_data, hSd] at h4
          simp only [List.drop_zero, Nat.sub_zero] at h4
          rw [← hCH, Lib.size_eq, Lib.step_ok _ _ _ hkq] at h4
          exact h4
set_option maxRecDepth 1000000 in
theorem zero (s : ByteArray) (w : World) : Calls Tryd.prog 24 #[.string s, .int .i64 0] w fun e w' => e = .returned (.string ⟨#[]⟩) ∧ w' = w := by
  have mixed := mixed
  go_enter Tryd.func24, Tryd.ntmps24
  go_wp2
  go_ret
  exact ⟨rfl, rfl⟩
set_option maxRecDepth 1000000 in
theorem one (s : ByteArray) (w : World) : Calls Tryd.prog 24 #[.string s, .int .i64 1] w fun e w' => e = .returned (.string s) ∧ w' = w := by
  have mixed := mixed
  go_enter Tryd.func24, Tryd.ntmps24
  go_wp2
  go_ret
  exact ⟨rfl, rfl⟩
set_option maxHeartbeats 800000 in
set_option maxRecDepth 1000000 in
theorem none (s : ByteArray) (c : Nat) (w : World) (hc2 : 2 ≤ c) (hc : c ≤ 9223372036854775807) (h0 : s.size = 0) :
    Calls Tryd.prog 24 #[.string s, .int .i64 c] w fun e w' => e = .returned (.string ⟨#[]⟩) ∧ w' = w := by
  have hMul := Tryd.bits_Mul s.size c (by omega) (by omega) w
  rw [h0, Nat.zero_mul] at hMul
  have mixed := mixed
  go_enter Tryd.func24, Tryd.ntmps24
  go_wp2_with (go_at_call 34; refine hMul.mono ?_; rintro e w' ⟨rfl, hw⟩; rw [hw])
  go_ret
  exact ⟨rfl, rfl⟩
/-- What it returns. -/
def val (s : ByteArray) (c : Int) : ByteArray := ⟨(Lib.repeatL s.data.toList c.toNat).toArray⟩
theorem calls (s : ByteArray) (c : Int) (w : World) (hc : 0 ≤ c) (hm : c ≤ 9223372036854775807) (hlen : s.size * c.toNat ≤ 8192) :
    Calls Tryd.prog 24 #[.string s, .int .i64 c] w fun e w' => e = .returned (.string (val s c)) ∧ Below w.heap.size w w' := by
  obtain ⟨n, rfl⟩ : ∃ n : Nat, c = (n : Int) := ⟨c.toNat, by omega⟩
  rw [Int.toNat_natCast] at hlen
  unfold val
  rw [Int.toNat_natCast]
  rcases (show n = 0 ∨ n = 1 ∨ 2 ≤ n by omega) with rfl | rfl | h2
  · refine (zero s w).mono ?_
    rintro e w' ⟨rfl, rfl⟩
    exact ⟨rfl, Below.refl _ _⟩
  · refine (one s w).mono ?_
    rintro e w' ⟨rfl, rfl⟩
    exact ⟨by simp [Lib.repeatL], Below.refl _ _⟩
  · rcases (show s.size = 0 ∨ 0 < s.size by omega) with h0 | h0
    · refine (none s n w h2 (by omega) h0).mono ?_
      rintro e w' ⟨rfl, rfl⟩
      refine ⟨?_, Below.refl _ _⟩
      have hl := Lib.repeatL_length s.data.toList n
      rw [← Lib.size_eq, h0, Nat.mul_zero] at hl
      rw [List.eq_nil_of_length_eq_zero hl]
    · exact main s n w h2 hlen h0
end Go.Proofs.YthljodbopmcgeaaDoor.Rep
