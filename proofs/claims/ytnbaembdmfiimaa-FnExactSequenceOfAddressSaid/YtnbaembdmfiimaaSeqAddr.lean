/- The word of an address: both ways to build it give the same. -/
import Derived.Test.YtnbaembdmfiimaaSeqLite
import Derived.Test.YtnbaembdmfiimaaQx20
import Derived.Test.YtnbaembdmfiimaaQx25
import Derived.Test.YtnbaembdmfiimaaQx21
import Derived.Test.YtnbaembdmfiimaaQx32
import Derived.Test.YtnbaembdmfiimaaQx22
import Derived.Test.YtnbaembdmfiimaaQx33
namespace Go.Proofs.Ytnbaembdmfiimaa.Q
open Go.RowKit Go.Proofs.YtnbaembdmfiimaaW.PrintWords Go.Proofs.YtnbaembdmfiimaaW.PrintLast Go.Proofs.YtnbaembdmfiimaaW.Ext
set_option linter.unusedVariables false
set_option linter.unusedSimpArgs false

theorem in_valA (n lo hi : Int) : impl_within.f n lo hi = some (decide (lo ≤ n ∧ n ≤ hi)) := by
  unfold impl_within.f
  by_cases h : lo ≤ n
  · rw [if_pos h]; congr 1; rw [decide_eq_decide]; omega
  · rw [if_neg h]; congr 1; symm; rw [decide_eq_false_iff_not]; omega
section
variable {l : List Int} (hl : l.length ≤ 1048576)
include hl
theorem addr_step_s {i : Nat} (h1 : 1 ≤ i) (hi : i < l.length) (k : Nat) : spec_l02Address.l0 (k + 1) l (i : Int) = if rd l (i : Int) ≤ rd l ((i - 1 : Nat) : Int) then some false else spec_l02Address.l0 k l ((i + 1 : Nat) : Int) := by
  rw [spec_l02Address.l0, if_pos (by omega), if_pos (by omega), wrS (x := (i : Int) - 1) (by omega) (by omega), if_pos (by omega), if_pos (by omega), wrS (x := (i : Int) + 1) (by omega) (by omega), show (i : Int) - 1 = ((i - 1 : Nat) : Int) by omega]
  rfl
theorem addr_step_i {i : Nat} (h1 : 1 ≤ i) (hi : i < l.length) (k : Nat) : impl_isAddress.l0 (k + 1) l (i : Int) = if rd l (i : Int) ≤ rd l ((i - 1 : Nat) : Int) then some false else impl_isAddress.l0 k l ((i + 1 : Nat) : Int) := by
  rw [impl_isAddress.l0, if_pos (by omega), if_pos (by omega), wrS (x := (i : Int) - 1) (by omega) (by omega), if_pos (by omega), if_pos (by omega), wrS (x := (i : Int) + 1) (by omega) (by omega), show (i : Int) - 1 = ((i - 1 : Nat) : Int) by omega]
  rfl
theorem addr_bad : ∀ d i : Nat, i + d = l.length → 1 ≤ i → (∃ t : Nat, i ≤ t ∧ t < l.length ∧ rd l (t : Int) ≤ rd l ((t - 1 : Nat) : Int)) →
    Ev (fun k => spec_l02Address.l0 k l (i : Int)) false ∧ Ev (fun k => impl_isAddress.l0 k l (i : Int)) false := by
  intro d
  induction d with
  | zero =>
    intro i h _ ht
    obtain ⟨t, t1, t2, _⟩ := ht
    omega
  | succ d ih =>
    intro i h h1 ht
    by_cases e : rd l (i : Int) ≤ rd l ((i - 1 : Nat) : Int)
    · exact ⟨Ev.step (f := fun _ => some false) (fun k => by rw [addr_step_s hl h1 (by omega), if_pos e]) (Ev.now _), Ev.step (f := fun _ => some false) (fun k => by rw [addr_step_i hl h1 (by omega), if_pos e]) (Ev.now _)⟩
    · obtain ⟨t, t1, t2, t3⟩ := ht
      have g : i + 1 ≤ t := by
        rcases Nat.lt_or_ge i t with g | g
        · exact g
        · have : t = i := by omega
          subst this
          exact absurd t3 e
      obtain ⟨a, b⟩ := ih (i + 1) (by omega) (by omega) ⟨t, g, t2, t3⟩
      exact ⟨Ev.step (f := fun k => spec_l02Address.l0 k l ((i + 1 : Nat) : Int)) (fun k => by rw [addr_step_s hl h1 (by omega), if_neg e]) a, Ev.step (f := fun k => impl_isAddress.l0 k l ((i + 1 : Nat) : Int)) (fun k => by rw [addr_step_i hl h1 (by omega), if_neg e]) b⟩
theorem addr_good : ∀ d i : Nat, i + d = l.length → 1 ≤ i → (∀ t : Nat, i ≤ t → t < l.length → rd l ((t - 1 : Nat) : Int) < rd l (t : Int)) →
    Ev (fun k => spec_l02Address.l0 k l (i : Int)) (decide (rd l ((l.length - 1 : Nat) : Int) ≤ 40)) ∧ Ev (fun k => impl_isAddress.l0 k l (i : Int)) true := by
  intro d
  induction d with
  | zero =>
    intro i h h1 _
    refine ⟨Ev.step (f := fun _ => some (decide (rd l ((l.length - 1 : Nat) : Int) ≤ 40))) (fun k => ?_) (Ev.now _), Ev.step (f := fun _ => some true) (fun k => by rw [impl_isAddress.l0, if_neg (by omega)]) (Ev.now _)⟩
    rw [spec_l02Address.l0, if_neg (by omega), wrS (x := (l.length : Int) - 1) (by omega) (by omega), if_pos (by omega), if_pos (by omega), show (l.length : Int) - 1 = ((l.length - 1 : Nat) : Int) by omega]
  | succ d ih =>
    intro i h h1 ht
    have e := ht i (Nat.le_refl _) (by omega)
    obtain ⟨a, b⟩ := ih (i + 1) (by omega) (by omega) (fun t t1 t2 => ht t (by omega) t2)
    exact ⟨Ev.step (f := fun k => spec_l02Address.l0 k l ((i + 1 : Nat) : Int)) (fun k => by rw [addr_step_s hl h1 (by omega), if_neg (by omega)]) a, Ev.step (f := fun k => impl_isAddress.l0 k l ((i + 1 : Nat) : Int)) (fun k => by rw [addr_step_i hl h1 (by omega), if_neg (by omega)]) b⟩
theorem both_addr : ∃ r : Bool, Ev (fun k => spec_l02Address.f k l) r ∧ Ev (fun k => impl_isAddress.f k l) r ∧
    (r = true → 1 ≤ l.length ∧ l.length ≤ 20 ∧ rd l 0 = 1 ∧ rd l ((l.length - 1 : Nat) : Int) ≤ 40 ∧ ∀ t : Nat, 1 ≤ t → t < l.length → rd l ((t - 1 : Nat) : Int) < rd l (t : Int)) := by
  have st : Ev (fun k => spec_l02Address.j0 k l true) false := Ev.step (f := fun _ => some false) (fun k => by rw [spec_l02Address.j0, if_pos rfl]) (Ev.now _)
  have it : Ev (fun k => impl_isAddress.j0 k l true) false := Ev.step (f := fun _ => some false) (fun k => by rw [impl_isAddress.j0, if_pos rfl]) (Ev.now _)
  have sf : ∀ r, Ev (fun k => spec_l02Address.l0 k l 1) r → Ev (fun k => spec_l02Address.j0 k l false) r := fun r h => Ev.step (f := fun k => spec_l02Address.l0 k l 1) (fun k => by rw [spec_l02Address.j0, if_neg (by decide)]) h
  have jf : ∀ r, Ev (fun k => impl_isAddress.l0 k l 1) r → Ev (fun k => impl_isAddress.j0 k l false) r := fun r h => Ev.step (f := fun k => impl_isAddress.l0 k l 1) (fun k => by rw [impl_isAddress.j0, if_neg (by decide)]) h
  by_cases hn : 1 ≤ l.length ∧ l.length ≤ 20
  · have hs : ∀ r, Ev (fun k => spec_l02Address.j0 k l (rd l 0 != 1)) r → Ev (fun k => spec_l02Address.f k l) r := by
      intro r h
      refine Ev.congr (fun k => ?_) h
      unfold spec_l02Address.f
      rw [if_neg (by omega), if_neg (by omega), if_pos (by omega)]
    have hi : ∀ r, Ev (fun k => if rd l 0 = 1 then impl_isAddress.j0 k l (decide (rd l ((l.length - 1 : Nat) : Int) > 40)) else impl_isAddress.j0 k l true) r → Ev (fun k => impl_isAddress.f k l) r := by
      intro r h
      refine Ev.congr (fun k => ?_) h
      unfold impl_isAddress.f impl_length_int64.f
      rw [Option.bind_some, in_valA, Option.bind_some, if_pos (decide_eq_true ⟨by omega, by omega⟩), if_pos (by omega), wrS (x := (l.length : Int) - 1) (by omega) (by omega), if_pos (show 0 ≤ (l.length : Int) - 1 by omega), if_pos (show (l.length : Int) - 1 < (l.length : Int) by omega), show (l.length : Int) - 1 = ((l.length - 1 : Nat) : Int) by omega]
    by_cases h0 : rd l 0 = 1
    · have e0 : (rd l 0 != 1) = false := bne_eq_false_iff_eq.2 h0
      rw [e0] at hs
      simp only [if_pos h0] at hi
      by_cases hm : ∀ t : Nat, 1 ≤ t → t < l.length → rd l ((t - 1 : Nat) : Int) < rd l (t : Int)
      · obtain ⟨g1, g2⟩ := addr_good hl (l.length - 1) 1 (by omega) (by omega) hm
        by_cases h40 : rd l ((l.length - 1 : Nat) : Int) ≤ 40
        · refine ⟨true, hs _ (sf _ ?_), hi _ ?_, fun _ => ⟨hn.1, hn.2, h0, h40, hm⟩⟩
          · rw [decide_eq_true h40] at g1; exact g1
          · rw [decide_eq_false (show ¬ rd l ((l.length - 1 : Nat) : Int) > 40 by omega)]
            exact jf _ g2
        · refine ⟨false, hs _ (sf _ ?_), hi _ ?_, by simp⟩
          · rw [decide_eq_false h40] at g1; exact g1
          · rw [decide_eq_true (show rd l ((l.length - 1 : Nat) : Int) > 40 by omega)]
            exact it
      · have hb : ∃ t : Nat, 1 ≤ t ∧ t < l.length ∧ rd l (t : Int) ≤ rd l ((t - 1 : Nat) : Int) := by
          by_cases g : ∃ t : Nat, 1 ≤ t ∧ t < l.length ∧ rd l (t : Int) ≤ rd l ((t - 1 : Nat) : Int)
          · exact g
          · exfalso
            refine hm fun t t1 t2 => ?_
            rcases Int.lt_or_le (rd l ((t - 1 : Nat) : Int)) (rd l (t : Int)) with z | z
            · exact z
            · exact absurd ⟨t, t1, t2, z⟩ g
        obtain ⟨g1, g2⟩ := addr_bad hl (l.length - 1) 1 (by omega) (by omega) hb
        refine ⟨false, hs _ (sf _ g1), hi _ ?_, by simp⟩
        cases decide (rd l ((l.length - 1 : Nat) : Int) > 40)
        · exact jf _ g2
        · exact it
    · have e0 : (rd l 0 != 1) = true := bne_iff_ne.2 h0
      rw [e0] at hs
      simp only [if_neg h0] at hi
      exact ⟨false, hs _ st, hi _ it, by simp⟩
  · refine ⟨false, ?_, ?_, by simp⟩
    · unfold spec_l02Address.f
      by_cases h1 : (l.length : Int) < 1
      · simp only [if_pos h1]; exact st
      · simp only [if_neg h1, if_pos (show (l.length : Int) > 20 by omega)]; exact st
    · unfold impl_isAddress.f impl_length_int64.f
      have e : decide (1 ≤ (l.length : Int) ∧ (l.length : Int) ≤ 20) = false := decide_eq_false (by omega)
      simp only [Option.bind_some, in_valA, e, Bool.false_eq_true, if_false]
      exact it
end
/-! ### repeating a word -/
theorem rd_get (L : List Int) (i : Nat) (hi : i < L.length) : rd L (i : Int) = L[i] := by simp [rd, hi]
def repI (W : List Int) (n : Nat) : List Int := (List.range n).map fun i => rd W ((i % W.length : Nat) : Int)
theorem repI_length (W : List Int) (n : Nat) : (repI W n).length = n := by simp [repI]
theorem ev_spec_repeated (W : List Int) (n : Nat) (hW : 1 ≤ W.length) (hW2 : W.length ≤ 1000) (hn : n ≤ 1000) : Ev (fun k => spec_l02Repeated.f k W (n : Int)) (repI W n) := by
  unfold spec_l02Repeated.f
  have key : ∀ d i : Nat, i + d = n → Ev (fun k => spec_l02Repeated.l0 k W (n : Int) (repI W i) (i : Int)) (repI W n) := by
    intro d
    induction d with
    | zero =>
      intro i h
      obtain rfl : i = n := by omega
      exact Ev.step (f := fun _ => some (repI W i)) (fun k => by rw [spec_l02Repeated.l0, if_neg (by omega)]) (Ev.now _)
    | succ d ih =>
      intro i h
      have hm := Nat.mod_lt i (show 0 < W.length by omega)
      refine Ev.step (f := fun k => spec_l02Repeated.l0 k W (n : Int) (repI W (i + 1)) ((i + 1 : Nat) : Int)) (fun k => ?_) (ih (i + 1) (by omega))
      rw [spec_l02Repeated.l0, if_pos (by omega), if_neg (by omega), tmod_nat]
      have e : repI W (i + 1) = repI W i ++ [rd W ((i % W.length : Nat) : Int)] := by simp [repI, List.range_succ]
      rw [e]
      generalize i % W.length = q at *
      rw [if_pos (by omega), if_pos (by omega), repI_length, if_pos (by omega), wrS (x := (i : Int) + 1) (by omega) (by omega)]
      rfl
  have := key n 0 (by omega)
  simpa [repI] using this
theorem bytes_ext {x : ByteArray} {L : List Int} (h : x.size = L.length) (g : ∀ i : Nat, i < x.size → bt x (i : Int) = rd L (i : Int)) : bytesOf x = L := by
  refine List.ext_getElem (by rw [bytesOf_length]; exact h) fun i h1 h2 => ?_
  rw [get_bytesOf x i h1, g i (by rw [h]; exact h2), rd_get L i h2]
theorem bt_bytes {x : ByteArray} {L : List Int} (h : bytesOf x = L) (i : Nat) (hi : i < x.size) : bt x (i : Int) = rd L (i : Int) := by
  have hl : i < (bytesOf x).length := by rw [bytesOf_length]; exact hi
  subst h
  rw [rd_get _ i hl, get_bytesOf x i hl]
theorem nums_bytes (x : ByteArray) : strOfNums (bytesOf x) = x := by
  apply ByteArray.ext
  apply Array.ext'
  rw [strOfNums_data]
  unfold bytesOf
  rw [List.map_map]
  conv => rhs; rw [← List.map_id x.data.toList]
  refine List.map_congr_left fun b _ => ?_
  simp
theorem bytes_append (x y : ByteArray) : bytesOf (x ++ y) = bytesOf x ++ bytesOf y := by simp [bytesOf]
theorem repeated_val (s : ByteArray) (n : Nat) (h1 : 1 ≤ s.size) (h2 : s.size ≤ 40) (n1 : 1 ≤ n) (n2 : n ≤ 40) :
    ∃ front : ByteArray, impl_repeated.f s (n : Int) = some (front, rd (repI (bytesOf s) n) ((n - 1 : Nat) : Int)) ∧ bytesOf front = (repI (bytesOf s) n).take (n - 1) := by
  obtain ⟨c, hc⟩ : ∃ c : Nat, n / s.size + 1 = c := ⟨_, rfl⟩
  have hq : n / s.size ≤ n := Nat.div_le_self _ _
  have hdm := Nat.div_add_mod n s.size
  have hml := Nat.mod_lt n (show 0 < s.size by omega)
  have hcn : n ≤ c * s.size := by
    rw [← hc, Nat.add_mul, Nat.one_mul, Nat.mul_comm]
    omega
  have hcs : c * s.size ≤ 41 * 40 := Nat.mul_le_mul (by omega) h2
  obtain ⟨all, hall⟩ : ∃ all, Go.Proofs.Ytnbaembdmfiimaa.Rep.val s (c : Int) = all := ⟨_, rfl⟩
  have hL : s.data.toList.length = s.size := (Lib.size_eq s).symm
  have hdat : all.data.toList = Lib.repeatL s.data.toList c := by rw [← hall]; unfold Go.Proofs.Ytnbaembdmfiimaa.Rep.val; simp
  have hsz : all.size = c * s.size := by rw [Lib.size_eq, hdat, Lib.repeatL_length, hL]
  have hget : ∀ i : Nat, i < n → bt all (i : Int) = rd (repI (bytesOf s) n) (i : Int) := by
    intro i hi
    have hm := Nat.mod_lt i (show 0 < s.size by omega)
    have e1 : bt all (i : Int) = bt s ((i % s.size : Nat) : Int) := by
      rw [bt_eq all s i (i % s.size) (by omega) hm, hdat, rep_get _ (by omega) _ _ (by rw [hL]; omega), hL]
    rw [e1, rd_get _ i (by rw [repI_length]; exact hi)]
    simp only [repI, List.getElem_map, List.getElem_range, bytesOf_length]
    exact bt_bytes rfl _ hm
  refine ⟨all.extract 0 (n - 1), ?_, ?_⟩
  · unfold impl_repeated.f strings_Repeat.f
    have ed : Int.tdiv (n : Int) (s.size : Int) = ((n / s.size : Nat) : Int) := by
      rw [Int.tdiv_eq_ediv_of_nonneg (by omega)]
      exact (Int.natCast_ediv _ _).symm
    rw [if_neg (by omega), ed]
    generalize n / s.size = q at *
    rw [wrS (x := (q : Int)) (by omega) (by omega), wrS (x := (q : Int) + 1) (by omega) (by omega), show (q : Int) + 1 = (c : Int) by omega, Int.toNat_natCast, if_pos ⟨by omega, by omega, by rw [Nat.mul_comm]; omega⟩, hall, Option.bind_some, wrS (x := (n : Int) - 1) (by omega) (by omega), show (n : Int) - 1 = ((n - 1 : Nat) : Int) by omega, if_pos (by omega), if_pos (by omega), if_pos (by omega), Int.toNat_natCast, hget (n - 1) (by omega)]
  · have hfs : (all.extract 0 (n - 1)).size = n - 1 := by simp; omega
    refine bytes_ext (by rw [hfs, List.length_take, repI_length]; omega) fun i hi => ?_
    rw [hfs] at hi
    have e : bt (all.extract 0 (n - 1)) (i : Int) = bt all (i : Int) := by
      rw [bt_eq _ all i i (by omega) (by omega), Lib.extract_data]
      simp only [List.drop_zero, Nat.sub_zero, List.getElem?_take, if_pos hi]
    rw [e, hget i (by omega), rd_get _ i (by rw [repI_length]; omega), rd_get _ i (by rw [List.length_take, repI_length]; omega), List.getElem_take]
theorem set_last (L : List Int) (n : Nat) (h : L.length = n) (h1 : 1 ≤ n) (x : Int) : L.set (n - 1) x = L.take (n - 1) ++ [x] := by
  rw [List.set_eq_take_append_cons_drop, if_pos (by omega), List.drop_of_length_le (by omega)]
theorem repI_two {W : List Int} {n : Nat} (hW : 1 ≤ W.length) (h : ∀ x ∈ W, x = 48 ∨ x = 49) : ∀ x ∈ repI W n, x = 48 ∨ x = 49 := by
  intro x hx
  unfold repI at hx
  obtain ⟨i, _, rfl⟩ := List.mem_map.1 hx
  have hm := Nat.mod_lt i (show 0 < W.length by omega)
  rw [rd_get W _ hm]
  exact h _ (List.getElem_mem hm)
/-- The two loops over an address. -/
theorem both_words {l : List Int} (l1 : 2 ≤ l.length) (l2 : l.length ≤ 20) (hb : ∀ t : Nat, 1 ≤ t → t < l.length → 1 ≤ rd l (t : Int) ∧ rd l (t : Int) ≤ 40) :
    ∀ (d i : Nat) (w : ByteArray), i + d = l.length - 1 → 1 ≤ i → 1 ≤ w.size → w.size ≤ 40 → (∀ x ∈ bytesOf w, x = 48 ∨ x = 49) →
      ∃ r : ByteArray, Ev (fun k => spec_SequenceOfAddress.l0 k l (bytesOf w) (i : Int)) ((⟨#[]⟩ : ByteArray), r, 0) ∧ Ev (fun k => impl_SequenceOfAddress.l0 k l w l (l.length : Int) (i : Int)) ((⟨#[]⟩ : ByteArray), r, 0) := by
  intro d
  induction d with
  | zero =>
    intro i w h h1 w1 w2 hw
    have hbi := hb i h1 (by omega)
    obtain ⟨n, hn⟩ := Int.eq_ofNat_of_zero_le (show 0 ≤ rd l (i : Int) by omega)
    obtain ⟨front, f1, f2⟩ := repeated_val w n w1 w2 (by omega) (by omega)
    have hs := ev_spec_repeated (bytesOf w) n (by rw [bytesOf_length]; exact w1) (by rw [bytesOf_length]; omega) (by omega)
    have hlen := repI_length (bytesOf w) n
    have hfs : front.size = n - 1 := by rw [← bytesOf_length, f2, List.length_take, hlen]; omega
    have hr : strOfNums ((repI (bytesOf w) n).set (n - 1) 42) = front ++ (⟨#[42]⟩ : ByteArray) := by
      rw [set_last _ n hlen (by omega), ← f2, ← nums_bytes (front ++ (⟨#[42]⟩ : ByteArray)), bytes_append]
      rfl
    refine ⟨front ++ (⟨#[42]⟩ : ByteArray), ?_, ?_⟩
    · refine Ev.step (f := fun k => (spec_l02Repeated.f k (bytesOf w) (n : Int)).bind fun t227 => if 0 ≤ (wrap64 ((t227.length : Int) - 1)) then (if (wrap64 ((t227.length : Int) - 1)) < (t227.length : Int) then (some ((⟨#[]⟩ : ByteArray), strOfNums (t227.set ((wrap64 ((t227.length : Int) - 1)) : Int).toNat 42), 0)) else (none)) else (none)) (fun k => ?_) (Ev.bind hs ?_)
      · rw [spec_SequenceOfAddress.l0, wrS (x := (l.length : Int) - 1) (by omega) (by omega), if_neg (by omega), if_pos (by omega), if_pos (by omega), if_pos (by omega), show (l.length : Int) - 1 = (i : Int) by omega, hn]
      · rw [hlen, wrS (x := (n : Int) - 1) (by omega) (by omega), if_pos (by omega), if_pos (by omega), show ((n : Int) - 1).toNat = n - 1 by omega, hr]
        exact Ev.now _
    · refine Ev.step (f := fun k => impl_SequenceOfAddress.l0 k l (front ++ (⟨#[42]⟩ : ByteArray)) l (l.length : Int) ((i + 1 : Nat) : Int)) (fun k => ?_) ?_
      · rw [impl_SequenceOfAddress.l0, if_pos (by omega), if_pos (by omega), if_pos (by omega), if_neg (by omega), if_neg (by omega), hn, f1, Option.bind_some, wrS (x := (l.length : Int) - 1) (by omega) (by omega), if_pos (by omega), if_pos (by simp only; omega), wrS (x := (i : Int) + 1) (by omega) (by omega)]
        rfl
      · exact Ev.step (f := fun _ => some ((⟨#[]⟩ : ByteArray), front ++ (⟨#[42]⟩ : ByteArray), 0)) (fun k => by rw [impl_SequenceOfAddress.l0, if_neg (by omega)]) (Ev.now _)
  | succ d ih =>
    intro i w h h1 w1 w2 hw
    have hbi := hb i h1 (by omega)
    obtain ⟨n, hn⟩ := Int.eq_ofNat_of_zero_le (show 0 ≤ rd l (i : Int) by omega)
    obtain ⟨front, f1, f2⟩ := repeated_val w n w1 w2 (by omega) (by omega)
    have hW : 1 ≤ (bytesOf w).length := by rw [bytesOf_length]; exact w1
    have hs := ev_spec_repeated (bytesOf w) n hW (by rw [bytesOf_length]; omega) (by omega)
    have hlen := repI_length (bytesOf w) n
    have two := repI_two (n := n) hW hw
    have hfs : front.size = n - 1 := by rw [← bytesOf_length, f2, List.length_take, hlen]; omega
    obtain ⟨x, hx⟩ : ∃ x, rd (repI (bytesOf w) n) ((n - 1 : Nat) : Int) = x := ⟨_, rfl⟩
    have hx2 : x = 48 ∨ x = 49 := by
      rw [← hx, rd_get _ (n - 1) (by rw [hlen]; omega)]
      exact two _ (List.getElem_mem _)
    obtain ⟨y, hy, hy2⟩ : ∃ y : ByteArray, y = (if x = 48 then (⟨#[49]⟩ : ByteArray) else ⟨#[48]⟩) ∧ bytesOf y = [(97 - x) % 256] := by
      refine ⟨_, rfl, ?_⟩
      rcases hx2 with rfl | rfl <;> rfl
    have hys : y.size = 1 := by rw [← bytesOf_length, hy2]; rfl
    have hr : (repI (bytesOf w) n).set (n - 1) ((97 - x) % 256) = bytesOf (front ++ y) := by
      rw [set_last _ n hlen (by omega), ← f2, bytes_append, hy2]
    have hws : (front ++ y).size = n := by rw [ByteArray.size_append, hfs, hys]; omega
    obtain ⟨r, r1, r2⟩ := ih (i + 1) (front ++ y) (by omega) (by omega) (by omega) (by omega) (by
      intro z hz
      rw [bytes_append, List.mem_append] at hz
      rcases hz with hz | hz
      · rw [f2] at hz
        exact two z (List.mem_of_mem_take hz)
      · rw [hy2] at hz
        obtain rfl := List.mem_singleton.1 hz
        rcases hx2 with rfl | rfl
        · right; rfl
        · left; rfl)
    refine ⟨r, ?_, ?_⟩
    · refine Ev.step (f := fun k => (spec_l02Repeated.f k (bytesOf w) (n : Int)).bind fun t221 => if 0 ≤ (wrap64 ((t221.length : Int) - 1)) then (if (wrap64 ((t221.length : Int) - 1)) < (t221.length : Int) then (spec_SequenceOfAddress.l0 k l (t221.set ((wrap64 ((t221.length : Int) - 1)) : Int).toNat ((97 - (rd t221 (wrap64 ((t221.length : Int) - 1)))) % 256)) ((i + 1 : Nat) : Int)) else (none)) else (none)) (fun k => ?_) (Ev.bind hs ?_)
      · rw [spec_SequenceOfAddress.l0, wrS (x := (l.length : Int) - 1) (by omega) (by omega), if_pos (by omega), if_pos (by omega), if_pos (by omega), hn, wrS (x := (i : Int) + 1) (by omega) (by omega)]
        rfl
      · rw [hlen, wrS (x := (n : Int) - 1) (by omega) (by omega)]
        simp only [if_pos (show 0 ≤ (n : Int) - 1 by omega), if_pos (show (n : Int) - 1 < (n : Int) by omega)]
        rw [show ((n : Int) - 1).toNat = n - 1 by omega, show (n : Int) - 1 = ((n - 1 : Nat) : Int) by omega, hx, hr]
        exact r1
    · refine Ev.step (f := fun k => impl_SequenceOfAddress.l0 k l (front ++ y) l (l.length : Int) ((i + 1 : Nat) : Int)) (fun k => ?_) r2
      rw [impl_SequenceOfAddress.l0, if_pos (by omega), if_pos (by omega), if_pos (by omega), if_neg (by omega), if_neg (by omega), hn, f1, Option.bind_some, wrS (x := (l.length : Int) - 1) (by omega) (by omega), if_neg (by omega), hx, wrS (x := (i : Int) + 1) (by omega) (by omega), hy]
      simp only [hfs, if_pos (show n - 1 + 1 ≤ 9223372036854775807 by omega)]
      by_cases z : x = 48
      · rw [if_pos z, if_pos z]; rfl
      · rw [if_neg z, if_neg z]; rfl
end Go.Proofs.Ytnbaembdmfiimaa.Q
