/- A letter of a sequence; rho, and the list of it (the part of SeqCore, SeqIs, SeqRho that words need). -/
import Derived.Test.YtnbaembdmfiimaaQx3
import Derived.Test.YtnbaembdmfiimaaQx9
import Derived.Test.YtnbaembdmfiimaaQx4
import Derived.Test.YtnbaembdmfiimaaQx10
import Derived.Test.YtnbaembdmfiimaaQx5
namespace Go.Proofs.Ytnbaembdmfiimaa.Q
open Go.RowKit Go.Proofs.YtnbaembdmfiimaaW.PrintWords Go.Proofs.YtnbaembdmfiimaaW.PrintLast Go.Proofs.YtnbaembdmfiimaaW.Ext
set_option linter.unusedVariables false
set_option linter.unusedSimpArgs false

theorem wrS {x : Int} (h0 : -9223372036854775808 ≤ x) (h1 : x ≤ 9223372036854775807) : wrap64 x = x := by unfold wrap64; omega
theorem tmod_nat (a b : Nat) : Int.tmod (a : Int) (b : Int) = ((a % b : Nat) : Int) := by
  rw [Int.tmod_eq_emod_of_nonneg (by omega)]
  omega
theorem get_bytesOf (s : ByteArray) (i : Nat) (hi : i < (bytesOf s).length) : (bytesOf s)[i] = bt s (i : Int) := by
  rw [← rd_bytesOf]
  simp [rd, hi]
theorem rep_get (l : List UInt8) (hl : 0 < l.length) : ∀ c i, i < c * l.length → (Lib.repeatL l c)[i]? = l[i % l.length]? := by
  intro c
  induction c with
  | zero => intro i h; omega
  | succ c ih =>
    intro i h
    show (l ++ Lib.repeatL l c)[i]? = _
    rw [Nat.succ_mul] at h
    by_cases hi : i < l.length
    · rw [List.getElem?_append_left hi, Nat.mod_eq_of_lt hi]
    · rw [List.getElem?_append_right (by omega), ih (i - l.length) (by omega), ← Nat.mod_eq_sub_mod (by omega)]
theorem bt_eq (s t : ByteArray) (i j : Nat) (hi : i < s.size) (hj : j < t.size) : bt s (i : Int) = bt t (j : Int) ↔ s.data.toList[i]? = t.data.toList[j]? := by
  have hi' : i < s.data.toList.length := by rw [← Lib.size_eq]; exact hi
  have hj' : j < t.data.toList.length := by rw [← Lib.size_eq]; exact hj
  rw [List.getElem?_eq_getElem hi', List.getElem?_eq_getElem hj']
  unfold bt
  rw [Int.toNat_natCast, Int.toNat_natCast, dif_pos hi, dif_pos hj]
  have e1 : s[i] = s.data.toList[i] := by simp [ByteArray.getElem_eq_getElem_data]
  have e2 : t[j] = t.data.toList[j] := by simp [ByteArray.getElem_eq_getElem_data]
  rw [e1, e2]
  constructor
  · intro h
    have : s.data.toList[i].toNat = t.data.toList[j].toNat := by omega
    rw [UInt8.toNat_inj.1 this]
  · intro h
    rw [Option.some.inj h]
/-- A letter, by its number. -/
def atV (a b : ByteArray) (k : Nat) : Int := if k < a.size then bt a (k : Int) else bt b (((k - a.size) % b.size : Nat) : Int)
theorem at_val (a b : ByteArray) (k : Nat) (hb : 1 ≤ b.size) (ha : a.size ≤ 64) (hk : k ≤ 1000000000) : spec_l01At.f a b (k : Int) = some (atV a b k) := by
  unfold spec_l01At.f atV
  by_cases h : k < a.size
  · rw [if_pos (by omega), if_pos (by omega), if_pos h]
  · have hm := Nat.mod_lt (k - a.size) (show 0 < b.size by omega)
    rw [if_neg (by omega), if_neg (by omega), wrS (by omega) (by omega), show (k : Int) - (a.size : Int) = ((k - a.size : Nat) : Int) by omega, tmod_nat]
    generalize (k - a.size) % b.size = m at *
    rw [if_pos (by omega), if_pos (by omega), if_neg h]
theorem at_val' (a b : ByteArray) (k : Nat) (hb : 1 ≤ b.size) (ha : a.size ≤ 64) (hk : k ≤ 1000000000) : impl_Sequence_at.f a b (k : Int) = some (atV a b k) := at_val a b k hb ha hk
/-! ### rho -/
def rhoGo (a b : ByteArray) (k : Nat) : Nat → Nat → Nat
  | 0, _ => 0
  | f + 1, i => if atV a b (i + k) = atV a b i then rhoGo a b k f (i + 1) else i + k + 1
def rhoV (a b : ByteArray) (k : Nat) : Nat := rhoGo a b k (a.size + b.size) 0
theorem rhoGo_bd (a b : ByteArray) (k : Nat) : ∀ f i, rhoGo a b k f i = 0 ∨ (k < rhoGo a b k f i ∧ rhoGo a b k f i ≤ i + f + k) := by
  intro f
  induction f with
  | zero => intro i; left; rfl
  | succ f ih =>
    intro i
    unfold rhoGo
    split
    · rcases ih (i + 1) with h | h
      · left; exact h
      · right; omega
    · right; omega
theorem rhoV_bd (a b : ByteArray) (k : Nat) (h64 : a.size + b.size ≤ 64) : rhoV a b k = 0 ∨ (k < rhoV a b k ∧ rhoV a b k ≤ k + 64) := by
  rcases rhoGo_bd a b k (a.size + b.size) 0 with h | h
  · left; exact h
  · right; unfold rhoV; omega
theorem ev_spec_rho (a b : ByteArray) (k : Nat) (hb : 1 ≤ b.size) (h64 : a.size + b.size ≤ 64) (hk : k ≤ 1000000) : Ev (fun n => spec_l02Rho.f n a b (k : Int)) ((rhoV a b k : Nat) : Int) := by
  unfold spec_l02Rho.f rhoV
  have key : ∀ f i, i + f = a.size + b.size → Ev (fun n => spec_l02Rho.l0 n (k : Int) ((i + k + 1 : Nat) : Int) a b) ((rhoGo a b k f i : Nat) : Int) := by
    intro f
    induction f with
    | zero =>
      intro i h
      refine Ev.step (f := fun _ => some 0) (fun n => ?_) (Ev.now _)
      rw [spec_l02Rho.l0, wrS (x := (a.size : Int) + (b.size : Int)) (by omega) (by omega), wrS (x := (k : Int) + ((a.size : Int) + (b.size : Int))) (by omega) (by omega), if_neg (by omega)]
    | succ f ih =>
      intro i h
      refine Ev.step (f := fun n => if atV a b (i + k) = atV a b i then spec_l02Rho.l0 n (k : Int) ((i + 1 + k + 1 : Nat) : Int) a b else some ((i + k + 1 : Nat) : Int)) (fun n => ?_) ?_
      · rw [spec_l02Rho.l0, wrS (x := (a.size : Int) + (b.size : Int)) (by omega) (by omega), wrS (x := (k : Int) + ((a.size : Int) + (b.size : Int))) (by omega) (by omega), if_pos (by omega), wrS (x := ((i + k + 1 : Nat) : Int) - 1) (by omega) (by omega), wrS (x := ((i + k + 1 : Nat) : Int) - (k : Int)) (by omega) (by omega), wrS (x := ((i + k + 1 : Nat) : Int) - (k : Int) - 1) (by omega) (by omega)]
        rw [show ((i + k + 1 : Nat) : Int) - 1 = ((i + k : Nat) : Int) by omega, show ((i + k + 1 : Nat) : Int) - (k : Int) - 1 = (i : Int) by omega, at_val a b (i + k) hb (by omega) (by omega), at_val a b i hb (by omega) (by omega)]
        simp only [Option.bind_some]
        rw [wrS (x := ((i + k + 1 : Nat) : Int) + 1) (by omega) (by omega), show ((i + k + 1 : Nat) : Int) + 1 = ((i + 1 + k + 1 : Nat) : Int) by omega]
      · unfold rhoGo
        by_cases z : atV a b (i + k) = atV a b i
        · simp only [if_pos z]; exact ih (i + 1) (by omega)
        · simp only [if_neg z]; exact Ev.now _
  rw [wrS (by omega) (by omega)]
  have := key (a.size + b.size) 0 (by omega)
  rw [show ((0 + k + 1 : Nat) : Int) = (k : Int) + 1 by omega] at this
  exact this
theorem ev_impl_rho (a b : ByteArray) (k : Nat) (hb : 1 ≤ b.size) (h64 : a.size + b.size ≤ 64) (hk : k ≤ 1000000) : Ev (fun n => impl_Sequence_rho.f n a b (k : Int)) ((rhoV a b k : Nat) : Int) := by
  unfold impl_Sequence_rho.f rhoV
  have key : ∀ f i, i + f = a.size + b.size → Ev (fun n => impl_Sequence_rho.l0 n (k : Int) ((a.size : Int) + (b.size : Int)) (i : Int) a b) ((rhoGo a b k f i : Nat) : Int) := by
    intro f
    induction f with
    | zero =>
      intro i h
      exact Ev.step (f := fun _ => some 0) (fun n => by rw [impl_Sequence_rho.l0, if_neg (by omega)]) (Ev.now _)
    | succ f ih =>
      intro i h
      refine Ev.step (f := fun n => if atV a b (i + k) = atV a b i then impl_Sequence_rho.l0 n (k : Int) ((a.size : Int) + (b.size : Int)) ((i + 1 : Nat) : Int) a b else some ((i + k + 1 : Nat) : Int)) (fun n => ?_) ?_
      · rw [impl_Sequence_rho.l0, if_pos (by omega), wrS (x := (i : Int) + (k : Int)) (by omega) (by omega), show (i : Int) + (k : Int) = ((i + k : Nat) : Int) by omega, at_val' a b (i + k) hb (by omega) (by omega), at_val' a b i hb (by omega) (by omega)]
        simp only [Option.bind_some]
        rw [wrS (x := (i : Int) + 1) (by omega) (by omega), wrS (x := ((i + k : Nat) : Int) + 1) (by omega) (by omega), show ((i + k : Nat) : Int) + 1 = ((i + k + 1 : Nat) : Int) by omega, show (i : Int) + 1 = ((i + 1 : Nat) : Int) by omega]
        by_cases z : atV a b (i + k) = atV a b i
        · rw [if_pos z.symm, if_pos z]
        · rw [if_neg (fun e => z e.symm), if_neg z]
      · unfold rhoGo
        by_cases z : atV a b (i + k) = atV a b i
        · simp only [if_pos z]; exact ih (i + 1) (by omega)
        · simp only [if_neg z]; exact Ev.now _
  rw [wrS (by omega) (by omega)]
  exact key (a.size + b.size) 0 (by omega)
/-! ### the list of it -/
def alongGo (a b : ByteArray) : Nat → List Int → Nat → List Int
  | 0, acc, _ => acc
  | f + 1, acc, x => if x = 0 then acc else alongGo a b f (acc ++ [(x : Int)]) (rhoV a b x)
theorem alongGo_len (a b : ByteArray) : ∀ f acc x, (alongGo a b f acc x).length ≤ acc.length + f := by
  intro f
  induction f with
  | zero => intro acc x; simp [alongGo]
  | succ f ih =>
    intro acc x
    unfold alongGo
    split
    · omega
    · refine Nat.le_trans (ih _ _) ?_
      simp
      omega
theorem ev_spec_along (a b : ByteArray) (M : Nat) (hM : M ≤ 100) (hb : 1 ≤ b.size) (h64 : a.size + b.size ≤ 64) :
    ∀ (f : Nat) (acc : List Int) (x : Nat), acc.length + f = M → x ≤ 100 * (acc.length + 1) → Ev (fun n => spec_l02Along.l0 n (M : Int) acc (x : Int) a b) (alongGo a b f acc x) := by
  intro f
  induction f with
  | zero =>
    intro acc x h hx
    refine Ev.step (f := fun _ => some acc) (fun n => ?_) (Ev.now _)
    rw [spec_l02Along.l0]
    by_cases h0 : (x : Int) > 0
    · rw [if_pos h0, if_neg (by omega)]
    · rw [if_neg h0]
  | succ f ih =>
    intro acc x h hx
    unfold alongGo
    by_cases h0 : x = 0
    · rw [if_pos h0]
      exact Ev.step (f := fun _ => some acc) (fun n => by rw [spec_l02Along.l0, if_neg (by omega)]) (Ev.now _)
    · rw [if_neg h0]
      refine Ev.step (f := fun n => (spec_l02Rho.f n a b (x : Int)).bind fun t => spec_l02Along.l0 n (M : Int) (acc ++ [(x : Int)]) t a b) (fun n => ?_) ?_
      · rw [spec_l02Along.l0, if_pos (by omega), if_pos (by omega), if_pos (by omega)]
      · refine Ev.bind (ev_spec_rho a b x hb h64 (by omega)) ?_
        have := rhoV_bd a b x h64
        exact ih _ _ (by simp; omega) (by simp; omega)
end Go.Proofs.Ytnbaembdmfiimaa.Q
