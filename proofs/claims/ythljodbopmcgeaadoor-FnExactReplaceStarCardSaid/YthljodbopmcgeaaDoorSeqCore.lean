/- What the printed functions on letters and sequences answer: letters, the shortest word, the one way to tell a sequence. -/
import Derived.Test.YthljodbopmcgeaaDoorQx4
import Derived.Test.YthljodbopmcgeaaDoorQx17
import Derived.Test.YthljodbopmcgeaaDoorQx3
import Derived.Test.YthljodbopmcgeaaDoorQx15
import Derived.Test.YthljodbopmcgeaaDoorQx16
import Derived.Test.YthljodbopmcgeaaDoorQx18
namespace Go.Proofs.YthljodbopmcgeaaDoor.Q
open Go.RowKit Go.Proofs.YthljodbopmcgeaaDoorW.PrintWords Go.Proofs.YthljodbopmcgeaaDoorW.PrintLast Go.Proofs.YthljodbopmcgeaaDoorW.Ext
set_option linter.unusedVariables false
set_option linter.unusedSimpArgs false

theorem wrS {x : Int} (h0 : -9223372036854775808 ≤ x) (h1 : x ≤ 9223372036854775807) : wrap64 x = x := by unfold wrap64; omega
/-- Are all bytes letters. -/
def lettersB (s : ByteArray) : Bool := (bytesOf s).all isLetterN
theorem get_bytesOf (s : ByteArray) (i : Nat) (hi : i < (bytesOf s).length) : (bytesOf s)[i] = bt s (i : Int) := by
  rw [← rd_bytesOf]
  simp [rd, hi]
theorem ev_spec_letters (s : ByteArray) (hs : s.size ≤ 1048576) : Ev (fun k => spec_l01Letters.f k s) (lettersB s) := by
  unfold spec_l01Letters.f lettersB
  have key : ∀ d i : Nat, i + d = s.size → Ev (fun k => spec_l01Letters.l0 k s (i : Int)) (((bytesOf s).drop i).all isLetterN) := by
    intro d
    induction d with
    | zero =>
      intro i h
      refine Ev.step (f := fun _ => some true) (fun k => by rw [spec_l01Letters.l0, if_neg (by omega)]) ?_
      rw [List.drop_of_length_le (by rw [bytesOf_length]; omega)]
      exact Ev.now _
    | succ d ih =>
      intro i h
      have hi : i < (bytesOf s).length := by rw [bytesOf_length]; omega
      refine Ev.step (f := fun k => if isLetterN (bt s (i : Int)) = true then spec_l01Letters.l0 k s ((i + 1 : Nat) : Int) else some false) (fun k => ?_) ?_
      · rw [spec_l01Letters.l0, if_pos (by omega), if_pos (by omega), wrS (x := (i : Int) + 1) (by omega) (by omega)]
        rw [show ((i : Int) + 1) = ((i + 1 : Nat) : Int) by omega]
        unfold isLetterN
        by_cases h1 : bt s (i : Int) = 48
        · simp [h1]
        · by_cases h2 : bt s (i : Int) = 49
          · simp [h2]
          · by_cases h3 : bt s (i : Int) = 42
            · simp [h3]
            · simp [h1, h2, h3]
      · rw [List.drop_eq_getElem_cons hi, List.all_cons, get_bytesOf s i hi]
        cases hl : isLetterN (bt s (i : Int)) with
        | true => simpa using ih (i + 1) (by omega)
        | false => simpa using Ev.now false
  simpa using key s.size 0 (by omega)
theorem impl_letters (s : ByteArray) (hs : s.size ≤ 1048576 + 1048576) : impl_areLetters.f s = some (lettersB s) := by
  unfold impl_areLetters.f lettersB
  rw [if_pos (by omega)]
theorem letters_append (a b : ByteArray) : lettersB (a ++ b) = (lettersB a && lettersB b) := by
  unfold lettersB bytesOf
  rw [← List.all_append, ← List.map_append]
  simp
/-! ### the shortest word -/
def perP (s : ByteArray) (m : Nat) : Prop := s.size % m = 0 ∧ ∀ i : Nat, m ≤ i → i < s.size → bt s (i : Int) = bt s ((i - m : Nat) : Int)
theorem leastS {P : Nat → Prop} : ∀ n, 1 ≤ n → P n → ∃ M, 1 ≤ M ∧ M ≤ n ∧ P M ∧ ∀ j, 1 ≤ j → j < M → ¬ P j := by
  intro n
  induction n using Nat.strongRecOn with
  | _ n ih =>
    intro h1 hn
    by_cases h : ∃ j, 1 ≤ j ∧ j < n ∧ P j
    · obtain ⟨j, a, b, c⟩ := h
      obtain ⟨M, m1, m2, m3, m4⟩ := ih j b a c
      exact ⟨M, m1, by omega, m3, m4⟩
    · exact ⟨n, h1, Nat.le_refl _, hn, fun j a b c => h ⟨j, a, b, c⟩⟩
theorem perP_least (s : ByteArray) (h : 1 ≤ s.size) : ∃ M, 1 ≤ M ∧ M ≤ s.size ∧ perP s M ∧ ∀ j, 1 ≤ j → j < M → ¬ perP s j :=
  leastS s.size h ⟨Nat.mod_self _, fun i h1 h2 => by omega⟩
section
variable {s x : ByteArray} {r : ByteArray × ByteArray}
theorem in_false (hs : s.size ≤ 1048576) {c : Nat} (h1 : 1 ≤ c) (hc : c < s.size) (hr : Ev (fun k => spec_l01Canonical.l0 k x s (s.size : Int) ((c + 1 : Nat) : Int)) r) :
    ∀ d i : Nat, i + d = s.size → Ev (fun k => spec_l01Canonical.l1 k x s (s.size : Int) (c : Int) false (i : Int)) r := by
  intro d
  induction d with
  | zero =>
    intro i h
    refine Ev.step (f := fun k => spec_l01Canonical.l0 k x s (s.size : Int) ((c + 1 : Nat) : Int)) (fun k => ?_) hr
    rw [spec_l01Canonical.l1, if_neg (by omega), if_neg (by decide), wrS (x := (c : Int) + 1) (by omega) (by omega)]
    rw [show (c : Int) + 1 = ((c + 1 : Nat) : Int) by omega]
  | succ d ih =>
    intro i h
    refine Ev.step (f := fun k => spec_l01Canonical.l1 k x s (s.size : Int) (c : Int) false ((i + 1 : Nat) : Int)) (fun k => ?_) (ih (i + 1) (by omega))
    rw [spec_l01Canonical.l1, if_pos (by omega), if_neg (by decide), wrS (x := (i : Int) + 1) (by omega) (by omega)]
    rw [show (i : Int) + 1 = ((i + 1 : Nat) : Int) by omega]
theorem in_step (hs : s.size ≤ 1048576) {c i : Nat} (h1 : 1 ≤ c) (hi : i < s.size) (hc : c ≤ i) (k : Nat) :
    spec_l01Canonical.l1 (k + 1) x s (s.size : Int) (c : Int) true (i : Int) = spec_l01Canonical.l1 k x s (s.size : Int) (c : Int) (bt s (i : Int) == bt s ((i - c : Nat) : Int)) ((i + 1 : Nat) : Int) := by
  rw [spec_l01Canonical.l1, if_pos (by omega), if_pos rfl, if_pos (by omega), if_pos (by omega), wrS (x := (i : Int) - (c : Int)) (by omega) (by omega), if_pos (by omega), if_pos (by omega), wrS (x := (i : Int) + 1) (by omega) (by omega)]
  rw [show (i : Int) + 1 = ((i + 1 : Nat) : Int) by omega, show (i : Int) - (c : Int) = ((i - c : Nat) : Int) by omega]
theorem in_all (hs : s.size ≤ 1048576) {c : Nat} (h1 : 1 ≤ c) (hc : c ≤ s.size) (hp : ∀ i : Nat, c ≤ i → i < s.size → bt s (i : Int) = bt s ((i - c : Nat) : Int)) (hr : Ev (fun k => spec_l01Canonical.j2 k x (s.extract 0 c)) r) :
    ∀ d i : Nat, i + d = s.size → c ≤ i → Ev (fun k => spec_l01Canonical.l1 k x s (s.size : Int) (c : Int) true (i : Int)) r := by
  intro d
  induction d with
  | zero =>
    intro i h _
    refine Ev.step (f := fun k => spec_l01Canonical.j2 k x (s.extract 0 c)) (fun k => ?_) hr
    rw [spec_l01Canonical.l1, if_neg (by omega), if_pos rfl, if_pos (by omega), if_pos (by omega), Int.toNat_natCast]
  | succ d ih =>
    intro i h hci
    refine Ev.step (f := fun k => spec_l01Canonical.l1 k x s (s.size : Int) (c : Int) true ((i + 1 : Nat) : Int)) (fun k => ?_) (ih (i + 1) (by omega) (by omega))
    rw [in_step hs h1 (by omega) hci, hp i hci (by omega)]
    simp
theorem in_some (hs : s.size ≤ 1048576) {c : Nat} (h1 : 1 ≤ c) (hc : c < s.size) (hr : Ev (fun k => spec_l01Canonical.l0 k x s (s.size : Int) ((c + 1 : Nat) : Int)) r) :
    ∀ d i : Nat, i + d = s.size → c ≤ i → (∃ t, i ≤ t ∧ t < s.size ∧ bt s (t : Int) ≠ bt s ((t - c : Nat) : Int)) → Ev (fun k => spec_l01Canonical.l1 k x s (s.size : Int) (c : Int) true (i : Int)) r := by
  intro d
  induction d with
  | zero =>
    intro i h _ ht
    obtain ⟨t, t1, t2, _⟩ := ht
    omega
  | succ d ih =>
    intro i h hci ht
    obtain ⟨t, t1, t2, t3⟩ := ht
    by_cases e : bt s (i : Int) = bt s ((i - c : Nat) : Int)
    · refine Ev.step (f := fun k => spec_l01Canonical.l1 k x s (s.size : Int) (c : Int) true ((i + 1 : Nat) : Int)) (fun k => ?_) (ih (i + 1) (by omega) (by omega) ⟨t, ?_, t2, t3⟩)
      · rw [in_step hs h1 (by omega) hci, e]
        simp
      · rcases Nat.lt_or_ge i t with h' | h'
        · exact h'
        · have : t = i := by omega
          subst this
          exact absurd e t3
    · refine Ev.step (f := fun k => spec_l01Canonical.l1 k x s (s.size : Int) (c : Int) false ((i + 1 : Nat) : Int)) (fun k => ?_) (in_false hs h1 hc hr d (i + 1) (by omega))
      rw [in_step hs h1 (by omega) hci, beq_eq_false_iff_ne.2 e]
theorem not_perP {c : Nat} (h : ¬ perP s c) (hd : s.size % c = 0) : ∃ t, c ≤ t ∧ t < s.size ∧ bt s (t : Int) ≠ bt s ((t - c : Nat) : Int) := by
  by_cases g : ∃ t, c ≤ t ∧ t < s.size ∧ bt s (t : Int) ≠ bt s ((t - c : Nat) : Int)
  · exact g
  · exfalso
    refine h ⟨hd, fun i h1 h2 => ?_⟩
    by_cases e : bt s (i : Int) = bt s ((i - c : Nat) : Int)
    · exact e
    · exact absurd ⟨i, h1, h2, e⟩ g
theorem tmod_nat (a b : Nat) : Int.tmod (a : Int) (b : Int) = ((a % b : Nat) : Int) := by
  rw [Int.tmod_eq_emod_of_nonneg (by omega)]
  omega
theorem out_root (hs : s.size ≤ 1048576) {m : Nat} (m1 : 1 ≤ m) (m2 : m ≤ s.size) (hp : perP s m) (hl : ∀ j, 1 ≤ j → j < m → ¬ perP s j) (hr : Ev (fun k => spec_l01Canonical.j2 k x (s.extract 0 m)) r) :
    ∀ d c : Nat, c + d = m → 1 ≤ c → Ev (fun k => spec_l01Canonical.l0 k x s (s.size : Int) (c : Int)) r := by
  intro d
  induction d with
  | zero =>
    intro c h h1
    obtain rfl : c = m := by omega
    refine Ev.step (f := fun k => spec_l01Canonical.l1 k x s (s.size : Int) (c : Int) true (c : Int)) (fun k => ?_) (in_all hs h1 m2 hp.2 hr (s.size - c) c (by omega) (Nat.le_refl _))
    rw [spec_l01Canonical.l0, if_pos (by omega), if_neg (by omega), tmod_nat, hp.1, if_pos (by omega)]
  | succ d ih =>
    intro c h h1
    have next := ih (c + 1) (by omega) (by omega)
    by_cases hd : s.size % c = 0
    · refine Ev.step (f := fun k => spec_l01Canonical.l1 k x s (s.size : Int) (c : Int) true (c : Int)) (fun k => ?_) (in_some hs h1 (by omega) next (s.size - c) c (by omega) (Nat.le_refl _) (not_perP (hl c h1 (by omega)) hd))
      rw [spec_l01Canonical.l0, if_pos (by omega), if_neg (by omega), tmod_nat, hd, if_pos (by omega)]
    · refine Ev.step (f := fun k => spec_l01Canonical.l0 k x s (s.size : Int) ((c + 1 : Nat) : Int)) (fun k => ?_) next
      rw [spec_l01Canonical.l0, if_pos (by omega), if_neg (by omega), tmod_nat, if_neg (by omega), wrS (x := (c : Int) + 1) (by omega) (by omega)]
      rw [show (c : Int) + 1 = ((c + 1 : Nat) : Int) by omega]
end
/-! ### the same, as the program asks it: by repeating -/
theorem rep_get (l : List UInt8) (hl : 0 < l.length) : ∀ c i, i < c * l.length → (Lib.repeatL l c)[i]? = l[i % l.length]? := by
  intro c
  induction c with
  | zero => intro i h; omega
  | succ c ih =>
    intro i h
    show (l ++ Lib.repeatL l c)[i]? = _
    rw [Nat.succ_mul] at h
    by_cases hi : i < l.length
    · rw [List.getElem?_append_left hi, Nat.mod_eq_of_lt hi]
    · rw [List.getElem?_append_right (by omega), ih (i - l.length) (by omega), ← Nat.mod_eq_sub_mod (by omega)]
theorem bt_eq (s t : ByteArray) (i j : Nat) (hi : i < s.size) (hj : j < t.size) : bt s (i : Int) = bt t (j : Int) ↔ s.data.toList[i]? = t.data.toList[j]? := by
  have hi' : i < s.data.toList.length := by rw [← Lib.size_eq]; exact hi
  have hj' : j < t.data.toList.length := by rw [← Lib.size_eq]; exact hj
  rw [List.getElem?_eq_getElem hi', List.getElem?_eq_getElem hj']
  unfold bt
  rw [Int.toNat_natCast, Int.toNat_natCast, dif_pos hi, dif_pos hj]
  have e1 : s[i] = s.data.toList[i] := by simp [ByteArray.getElem_eq_getElem_data]
  have e2 : t[j] = t.data.toList[j] := by simp [ByteArray.getElem_eq_getElem_data]
  rw [e1, e2]
  constructor
  · intro h
    have : s.data.toList[i].toNat = t.data.toList[j].toNat := by omega
    rw [UInt8.toNat_inj.1 this]
  · intro h
    rw [Option.some.inj h]
theorem per_mod {s : ByteArray} {c : Nat} (h1 : 1 ≤ c) (hc : c ≤ s.size) : (∀ i : Nat, c ≤ i → i < s.size → bt s (i : Int) = bt s ((i - c : Nat) : Int)) ↔ (∀ i : Nat, i < s.size → bt s (i : Int) = bt s ((i % c : Nat) : Int)) := by
  constructor
  · intro h i
    induction i using Nat.strongRecOn with
    | _ i ih =>
      intro hi
      by_cases hci : c ≤ i
      · rw [h i hci hi, ih (i - c) (by omega) (by omega), ← Nat.mod_eq_sub_mod hci]
      · rw [Nat.mod_eq_of_lt (by omega)]
  · intro h i hci hi
    rw [h i hi, h (i - c) (by omega), ← Nat.mod_eq_sub_mod hci]
theorem rep_iff {s : ByteArray} {c : Nat} (h1 : 1 ≤ c) (hc : c ≤ s.size) (hd : s.size % c = 0) :
    (Go.Proofs.YthljodbopmcgeaaDoor.Rep.val (s.extract 0 c) ((s.size / c : Nat) : Int)).toList = s.toList ↔ ∀ i : Nat, c ≤ i → i < s.size → bt s (i : Int) = bt s ((i - c : Nat) : Int) := by
  rw [per_mod h1 hc, Lib.toList_data, Lib.toList_data]
  unfold Go.Proofs.YthljodbopmcgeaaDoor.Rep.val
  rw [Int.toNat_natCast, Lib.extract_data]
  simp only [List.drop_zero, Nat.sub_zero]
  have hL : s.data.toList.length = s.size := (Lib.size_eq s).symm
  have hl : (s.data.toList.take c).length = c := by rw [List.length_take, hL]; omega
  have hn : s.size / c * c = s.size := Nat.div_mul_cancel (Nat.dvd_of_mod_eq_zero hd)
  have hlen : (Lib.repeatL (s.data.toList.take c) (s.size / c)).length = s.size := by rw [Lib.repeatL_length, hl, hn]
  have get : ∀ i, i < s.size → (Lib.repeatL (s.data.toList.take c) (s.size / c))[i]? = s.data.toList[i % c]? := by
    intro i hi
    rw [rep_get _ (by omega) _ _ (by rw [hl, hn]; exact hi), hl, List.getElem?_take, if_pos (Nat.mod_lt _ (by omega))]
  constructor
  · intro h i hi
    have hm : i % c < s.size := Nat.lt_of_lt_of_le (Nat.mod_lt _ (by omega)) hc
    rw [bt_eq s s i (i % c) hi hm, ← get i hi, h]
  · intro h
    refine List.ext_getElem? fun i => ?_
    by_cases hi : i < s.size
    · have hm : i % c < s.size := Nat.lt_of_lt_of_le (Nat.mod_lt _ (by omega)) hc
      have := (bt_eq s s i (i % c) hi hm).1 (h i hi)
      rw [this]
      exact get i hi
    · rw [List.getElem?_eq_none (by show _ ≤ _; simp only [hlen]; omega), List.getElem?_eq_none (by omega)]
theorem ev_impl_root {s : ByteArray} (hs : s.size ≤ 8192) {m : Nat} (m1 : 1 ≤ m) (m2 : m ≤ s.size) (hp : perP s m) (hl : ∀ j, 1 ≤ j → j < m → ¬ perP s j) :
    Ev (fun k => impl_root.f k s) (s.extract 0 m) := by
  unfold impl_root.f
  have key : ∀ d c : Nat, c + d = m → 1 ≤ c → Ev (fun k => impl_root.l0 k s (c : Int)) (s.extract 0 m) := by
    intro d
    have ev : ∀ c : Nat, 1 ≤ c → c ≤ s.size → s.size % c = 0 → ∀ k, impl_root.l0 (k + 1) s (c : Int) = if (Go.Proofs.YthljodbopmcgeaaDoor.Rep.val (s.extract 0 c) ((s.size / c : Nat) : Int)).toList = s.toList then some (s.extract 0 c) else impl_root.l0 k s ((c + 1 : Nat) : Int) := by
      intro c h1 hc hd k
      have hq : s.size / c * c = s.size := Nat.div_mul_cancel (Nat.dvd_of_mod_eq_zero hd)
      have hq2 : s.size / c ≤ s.size := Nat.div_le_self _ _
      have hx : (s.extract 0 c).size = c := by simp; omega
      rw [impl_root.l0, if_neg (by omega), if_pos (by omega), if_pos (by omega), if_pos (by omega)]
      unfold strings_Repeat.f
      rw [show ((s.size : Nat) : Int) / (c : Int) = ((s.size / c : Nat) : Int) from (Int.natCast_ediv _ _).symm]
      generalize s.size / c = q at *
      rw [wrS (x := (q : Int)) (by omega) (by omega), Int.toNat_natCast, Int.toNat_natCast, if_pos ⟨by omega, by omega, by rw [hx, Nat.mul_comm, hq]; omega⟩]
      rw [wrS (x := (c : Int) + 1) (by omega) (by omega), show (c : Int) + 1 = ((c + 1 : Nat) : Int) by omega]
      rfl
    induction d with
    | zero =>
      intro c h h1
      obtain rfl : c = m := by omega
      refine Ev.step (f := fun k => some (s.extract 0 c)) (fun k => ?_) (Ev.now _)
      rw [ev c h1 m2 hp.1, if_pos ((rep_iff h1 m2 hp.1).2 hp.2)]
    | succ d ih =>
      intro c h h1
      have next := ih (c + 1) (by omega) (by omega)
      refine Ev.step (f := fun k => impl_root.l0 k s ((c + 1 : Nat) : Int)) (fun k => ?_) next
      by_cases hd : s.size % c = 0
      · rw [ev c h1 (by omega) hd, if_neg (fun e => hl c h1 (by omega) ⟨hd, (rep_iff h1 (by omega) hd).1 e⟩)]
      · rw [impl_root.l0, if_neg (by omega), if_neg (by omega), wrS (x := (c : Int) + 1) (by omega) (by omega)]
        rw [show (c : Int) + 1 = ((c + 1 : Nat) : Int) by omega]
  exact key (m - 1) 1 (by omega) (by omega)
/-! ### letters of Pre taken into Per -/
def rotB : Nat → ByteArray → ByteArray → ByteArray × ByteArray
  | 0, x, y => (x, y)
  | n + 1, x, y => if bt x (n : Int) = bt y ((y.size - 1 : Nat) : Int) then rotB n (x.extract 0 n) (y.extract (y.size - 1) y.size ++ y.extract 0 (y.size - 1)) else (x, y)
theorem rot_size (y : ByteArray) (h : 1 ≤ y.size) : (y.extract (y.size - 1) y.size ++ y.extract 0 (y.size - 1)).size = y.size := by
  simp <;> omega
theorem rotB_size : ∀ n x y, x.size = n → 1 ≤ y.size → (rotB n x y).1.size ≤ n ∧ (rotB n x y).2.size = y.size := by
  intro n
  induction n with
  | zero => intro x y hx hy; simp [rotB, hx]
  | succ n ih =>
    intro x y hx hy
    unfold rotB
    split
    · have := ih (x.extract 0 n) (y.extract (y.size - 1) y.size ++ y.extract 0 (y.size - 1)) (by simp; omega) (by rw [rot_size y hy]; exact hy)
      rw [rot_size y hy] at this
      omega
    · simp [hx]
theorem nil_iff (x : ByteArray) : x.toList = ([] : List UInt8) ↔ x.size = 0 := by
  rw [Lib.toList_data, Lib.size_eq]
  exact List.length_eq_zero_iff.symm
theorem ev_spec_rot : ∀ n x y, x.size = n → n ≤ 64 → 1 ≤ y.size → y.size ≤ 64 → Ev (fun k => spec_l01Canonical.l2 k x y) (rotB n x y) := by
  intro n
  induction n with
  | zero =>
    intro x y hx _ _ _
    exact Ev.step (f := fun _ => some (x, y)) (fun k => by rw [spec_l01Canonical.l2, if_neg (by omega)]) (Ev.now _)
  | succ n ih =>
    intro x y hx hn hy hy64
    refine Ev.step (f := fun k => if bt x (n : Int) = bt y ((y.size - 1 : Nat) : Int) then spec_l01Canonical.l2 k (x.extract 0 n) (y.extract (y.size - 1) y.size ++ y.extract 0 (y.size - 1)) else some (x, y)) (fun k => ?_) ?_
    · have e := rot_size y hy
      rw [ByteArray.size_append] at e
      rw [spec_l01Canonical.l2, if_pos (by omega), wrS (x := (x.size : Int) - 1) (by omega) (by omega), wrS (x := (y.size : Int) - 1) (by omega) (by omega), show (x.size : Int) - 1 = (n : Int) by omega, show (y.size : Int) - 1 = ((y.size - 1 : Nat) : Int) by omega]
      rw [if_pos (by omega), if_pos (by omega), if_pos (by omega), if_pos (by omega), if_pos (show ((y.size - 1 : Nat) : Int) ≤ (y.size : Int) by omega), Int.toNat_natCast, Int.toNat_natCast, if_pos (show (y.extract (y.size - 1) y.size).size + (y.extract 0 (y.size - 1)).size ≤ 9223372036854775807 by omega), if_pos (show (n : Int) ≤ (x.size : Int) by omega)]
    · unfold rotB
      by_cases h : bt x (n : Int) = bt y ((y.size - 1 : Nat) : Int)
      · simp only [if_pos h]
        exact ih _ _ (by simp; omega) (by omega) (by rw [rot_size y hy]; exact hy) (by rw [rot_size y hy]; exact hy64)
      · simp only [if_neg h]
        exact Ev.now _
theorem ev_impl_rot : ∀ n x y, x.size = n → n ≤ 64 → 1 ≤ y.size → y.size ≤ 64 → Ev (fun k => impl_sequence.l0 k x y) (rotB n x y) := by
  intro n
  induction n with
  | zero =>
    intro x y hx _ _ _
    exact Ev.step (f := fun _ => some (x, y)) (fun k => by rw [impl_sequence.l0, if_pos ((nil_iff x).2 hx)]) (Ev.now _)
  | succ n ih =>
    intro x y hx hn hy hy64
    refine Ev.step (f := fun k => if bt x (n : Int) = bt y ((y.size - 1 : Nat) : Int) then impl_sequence.l0 k (x.extract 0 n) (y.extract (y.size - 1) y.size ++ y.extract 0 (y.size - 1)) else some (x, y)) (fun k => ?_) ?_
    · have e := rot_size y hy
      rw [ByteArray.size_append] at e
      rw [impl_sequence.l0, if_neg (fun z => by have := (nil_iff x).1 z; omega), wrS (x := (x.size : Int) - 1) (by omega) (by omega), wrS (x := (y.size : Int) - 1) (by omega) (by omega), show (x.size : Int) - 1 = (n : Int) by omega, show (y.size : Int) - 1 = ((y.size - 1 : Nat) : Int) by omega]
      rw [if_pos (by omega), if_pos (by omega), if_pos (by omega), if_pos (by omega), if_pos (show (n : Int) ≤ (x.size : Int) by omega), if_pos (show ((y.size - 1 : Nat) : Int) ≤ (y.size : Int) by omega), Int.toNat_natCast, Int.toNat_natCast, if_pos (show (y.extract (y.size - 1) y.size).size + (y.extract 0 (y.size - 1)).size ≤ 9223372036854775807 by omega)]
    · unfold rotB
      by_cases h : bt x (n : Int) = bt y ((y.size - 1 : Nat) : Int)
      · simp only [if_pos h]
        exact ih _ _ (by simp; omega) (by omega) (by rw [rot_size y hy]; exact hy) (by rw [rot_size y hy]; exact hy64)
      · simp only [if_neg h]
        exact Ev.now _
/-- Both tell a sequence in the same way. -/
theorem both_canon (x y : ByteArray) (hy : 1 ≤ y.size) (h64 : x.size + y.size ≤ 64) :
    ∃ c : ByteArray × ByteArray, Ev (fun k => spec_l01Canonical.f k x y) c ∧ Ev (fun k => impl_sequence.f k x y) c ∧ c.1.size ≤ x.size ∧ 1 ≤ c.2.size ∧ c.2.size ≤ y.size := by
  obtain ⟨m, m1, m2, hp, hl⟩ := perP_least y hy
  have hz : (y.extract 0 m).size = m := by simp; omega
  have sz := rotB_size x.size x (y.extract 0 m) rfl (by omega)
  refine ⟨rotB x.size x (y.extract 0 m), ?_, ?_, sz.1, by omega, by omega⟩
  · unfold spec_l01Canonical.f
    have hr : Ev (fun k => spec_l01Canonical.j2 k x (y.extract 0 m)) (rotB x.size x (y.extract 0 m)) :=
      Ev.step (f := fun k => spec_l01Canonical.l2 k x (y.extract 0 m)) (fun k => by rw [spec_l01Canonical.j2]) (ev_spec_rot x.size x (y.extract 0 m) rfl (by omega) (by omega) (by omega))
    exact out_root (by omega) m1 m2 hp hl hr (m - 1) 1 (by omega) (by omega)
  · unfold impl_sequence.f
    refine Ev.bind (ev_impl_root (by omega) m1 m2 hp hl) ?_
    exact ev_impl_rot x.size x (y.extract 0 m) rfl (by omega) (by omega) (by omega)
end Go.Proofs.YthljodbopmcgeaaDoor.Q
