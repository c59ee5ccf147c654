/- HYPS: no string is longer than Go's longest. The pure statement of FnExactReplaceStar: both fill the stars alike, or give the same error. -/
import Derived.Test.YthljodbopmcgeaaDoorSeqIsR
import Derived.Lib.Replace
import Derived.Test.YthljodbopmcgeaaDoorQx25
import Derived.Test.YthljodbopmcgeaaDoorQx7
import Derived.Test.YthljodbopmcgeaaDoorQx23
import Derived.Test.YthljodbopmcgeaaDoorQx6
import Derived.Test.YthljodbopmcgeaaDoorQx22
import Derived.Test.YthljodbopmcgeaaDoorQx24
import Derived.Test.YthljodbopmcgeaaDoorQx8
namespace Go.Proofs.YthljodbopmcgeaaDoor.Q
open Go.RowKit Go.Proofs.YthljodbopmcgeaaDoorW.PrintWords Go.Proofs.YthljodbopmcgeaaDoorW.PrintLast Go.Proofs.YthljodbopmcgeaaDoorW.Ext
set_option linter.unusedVariables false
set_option linter.unusedSimpArgs false

/-- One letter put for another. -/
theorem repl1 (o c : UInt8) : ∀ (s : List UInt8) (n : Nat), Lib.count s [o] ≤ n → Lib.replaceK [o] [c] n s = s.map fun b => if b = o then c else b
  | [], 0, _ => rfl
  | [], n + 1, _ => by
    rw [Lib.replaceK]
    simp [Lib.index]
  | b :: s, n, h => by
    by_cases hb : b = o
    · subst hb
      rw [Lib.count_cons_eq] at h
      obtain ⟨m, rfl⟩ : ∃ m, n = m + 1 := ⟨n - 1, by omega⟩
      rw [Lib.replaceK_hit [b] [c] m (b :: s) 0 (by simp [Lib.index])]
      have := repl1 b c s m (by omega)
      simp [this]
    · rw [Lib.count_cons_ne b o s hb] at h
      have hix : Lib.index (b :: s) [o] = if Lib.index s [o] == -1 then -1 else Lib.index s [o] + 1 := by
        rw [Lib.index, if_neg]
        simp [List.isPrefixOf, Ne.symm hb]
      have ih := repl1 o c s n h
      rw [List.map_cons, if_neg hb, ← ih]
      cases n with
      | zero => rfl
      | succ m =>
        by_cases hm : Lib.index s [o] = -1
        · rw [Lib.replaceK, Lib.replaceK, hix]
          simp [hm]
        · have hge := Lib.index_ge s [o]
          obtain ⟨i, hi⟩ : ∃ i : Nat, Lib.index s [o] = i := ⟨(Lib.index s [o]).toNat, by omega⟩
          rw [Lib.replaceK_hit [o] [c] m s i hi, Lib.replaceK_hit [o] [c] m (b :: s) (i + 1) (by rw [hix, hi, if_neg (by simp <;> omega)]; omega)]
          simp [show i + 1 + 1 = (i + 1) + 1 from rfl]
theorem replAll1 (o c : UInt8) (s : List UInt8) : Lib.replaceAll s [o] [c] = s.map fun b => if b = o then c else b := by
  unfold Lib.replaceAll Lib.replace
  by_cases h : o = c
  · subst h
    simp
    conv => lhs; rw [← List.map_id s]
    apply List.map_congr_left
    intro a _
    by_cases ha : a = o <;> simp [ha]
  · rw [if_neg (by simpa using h), repl1]
    unfold Lib.replaceNum
    simp
/-- Stars filled. -/
def fillB (s : ByteArray) (c : Int) : ByteArray := strOfNums ((bytesOf s).map fun b => if b = 42 then c else b)
theorem fillB_size (s : ByteArray) (c : Int) : (fillB s c).size = s.size := by
  unfold fillB
  rw [strOfNums_size, List.length_map, bytesOf_length]
theorem ev_filled (s : ByteArray) (c : Int) (hs : s.size ≤ 1048576) : Ev (fun k => spec_l02Filled.f k s c) (fillB s c) := by
  unfold spec_l02Filled.f
  have key : ∀ d i, i + d = s.size → Ev (fun k => spec_l02Filled.l0 k s c (((bytesOf s).take i).map fun b => if b = 42 then c else b) (i : Int)) (fillB s c) := by
    intro d
    induction d with
    | zero =>
      intro i h
      refine Ev.step (f := fun _ => some (fillB s c)) (fun k => ?_) (Ev.now _)
      rw [spec_l02Filled.l0, if_neg (by omega), List.take_of_length_le (by rw [bytesOf_length]; omega)]
      rfl
    | succ d ih =>
      intro i h
      refine Ev.step (f := fun k => spec_l02Filled.l0 k s c (((bytesOf s).take (i + 1)).map fun b => if b = 42 then c else b) ((i + 1 : Nat) : Int)) (fun k => ?_) (ih (i + 1) (by omega))
      have hi : i < (bytesOf s).length := by rw [bytesOf_length]; omega
      have hl : (((bytesOf s).take i).map fun b => if b = 42 then c else b).length < 140737488355328 := by simp; omega
      rw [spec_l02Filled.l0, if_pos (by omega), if_pos (by omega), wrS (by omega) (by omega), if_pos hl, if_pos hl, List.take_succ_eq_append_getElem hi, get_bytesOf s i hi, List.map_append]
      by_cases hb : bt s (i : Int) = 42
      · rw [if_pos hb]; simp [hb]
      · rw [if_neg hb]; simp [hb]
  exact key s.size 0 (by omega)
theorem repl_val (s a : ByteArray) (c : UInt8) (ha : a.toList = [c]) (hs : s.size ≤ 1048576) : strings_ReplaceAll.f s (⟨#[42]⟩ : ByteArray) a = some (fillB s (c.toNat : Int)) := by
  have hal : a.data.toList = [c] := by
    rw [← ha]
    exact (Lib.toList_data a).symm
  have hsz : a.size = 1 := by rw [← data_length, hal]; rfl
  unfold strings_ReplaceAll.f
  rw [if_pos ⟨hs, rfl, by omega⟩, hal]
  congr 1
  have h42 : (⟨#[42]⟩ : ByteArray).data.toList = [(42 : UInt8)] := rfl
  rw [h42, replAll1]
  unfold fillB strOfNums bytesOf
  congr 1
  rw [List.map_map, List.map_map]
  congr 1
  apply List.map_congr_left
  intro b _
  simp only [Function.comp]
  by_cases hb : b = 42
  · subst hb
    simp
  · have : ¬ ((b.toNat : Int) = 42) := fun e => hb (UInt8.toNat_inj.1 (show b.toNat = 42 by omega))
    rw [if_neg hb, if_neg this]
    simp
theorem pure_FnExactReplaceStar (a b l : ByteArray) (ha : a.size ≤ maxLen) (hb : b.size ≤ maxLen) (hl : l.size ≤ maxLen) : ∃ k, laws_FnExactReplaceStar.f k a b l = some true := by
  refine Ev.rounds (g := fun k => laws_FnExactReplaceStar.f k a b l) ?_
  unfold laws_FnExactReplaceStar.f
  by_cases h1 : (l.size : Int) > 1048576
  · simp only [if_pos h1]; exact Ev.now _
  · simp only [if_neg h1]
    refine sz_frame ha hb fun hz => ?_
    simp only [laws_toSequence.f, Option.bind_some]
    have fin : ∀ r : ByteArray × ByteArray × Int, Ev (fun k => spec_ReplaceStar.f k a b l) r → Ev (fun k => impl_ReplaceStar.f k a b l) r → Ev (fun k => (spec_ReplaceStar.f k a b l).bind fun x => (impl_ReplaceStar.f k a b l).bind fun y => (laws_eqSequence.f y.1 y.2.1 x.1 x.2.1).bind fun t => if t = true then (if y.2.2 = x.2.2 then some true else some false) else some false) true := by
      intro r hs hi
      refine Ev.bind hs (Ev.bind hi ?_)
      simp [laws_eqSequence.f]
      exact Ev.now _
    obtain ⟨v, hs, hi, hv⟩ := both_seq a b (by omega)
    have hc := fun q => ev_code1 q hi
    cases v with
    | false =>
      refine fin (⟨#[]⟩, ⟨#[]⟩, 1) ?_ ?_
      · unfold spec_ReplaceStar.f
        refine Ev.bind hs ?_
        exact Ev.now _
      · unfold impl_ReplaceStar.f
        have hj : Ev (fun k => impl_ReplaceStar.j0 k l 1 a b) (⟨#[]⟩, ⟨#[]⟩, 1) := Ev.step (f := fun _ => some (⟨#[]⟩, ⟨#[]⟩, 1)) (fun k => by rw [impl_ReplaceStar.j0, if_neg (by decide)]) (Ev.now _)
        by_cases h0 : l.toList = ([48] : List UInt8)
        · simp only [if_pos h0]
          exact Ev.bind (hc true) hj
        · simp only [if_neg h0]
          exact Ev.bind (hc _) hj
    | true =>
      obtain ⟨_, _, hb1, h64⟩ := hv rfl
      have good : ∀ c : UInt8, l.toList = [c] → (l.toList = ([48] : List UInt8) ∨ (l.toList == ([49] : List UInt8)) = true) → ∃ r : ByteArray × ByteArray × Int, Ev (fun k => spec_ReplaceStar.j0 k l false a b) r ∧ Ev (fun k => impl_ReplaceStar.j0 k l 0 a b) r := by
        intro c hcl _
        have hd : l.data.toList = [c] := (Lib.toList_data l).symm.trans hcl
        have hls : l.size = 1 := by rw [← data_length, hd]; rfl
        have hbt : bt l 0 = (c.toNat : Int) := by
          have := get_bytesOf l 0 (by rw [bytesOf_length]; omega)
          simp only [bytesOf, hd] at this
          exact this.symm
        obtain ⟨z, z1, z2, _⟩ := both_canon (fillB a (c.toNat : Int)) (fillB b (c.toNat : Int)) (by rw [fillB_size]; exact hb1) (by rw [fillB_size, fillB_size]; exact h64)
        refine ⟨(z.1, z.2, 0), ?_, ?_⟩
        · refine Ev.step (f := fun k => (spec_l02Filled.f k a (c.toNat : Int)).bind fun t => (spec_l02Filled.f k b (c.toNat : Int)).bind fun u => (spec_l01Canonical.f k t u).bind fun x => some (x.1, x.2, 0)) (fun k => by rw [spec_ReplaceStar.j0, if_neg (by decide), if_pos (by omega), hbt]) ?_
          exact Ev.bind (ev_filled a _ (by omega)) (Ev.bind (ev_filled b _ (by omega)) (Ev.bind z1 (Ev.now _)))
        · refine Ev.step (f := fun k => (impl_sequence.f k (fillB a (c.toNat : Int)) (fillB b (c.toNat : Int))).bind fun x => some (x.1, x.2, 0)) (fun k => by rw [impl_ReplaceStar.j0, if_pos rfl, repl_val a l c hcl (by omega), repl_val b l c hcl (by omega)]; rfl) ?_
          exact Ev.bind z2 (Ev.now _)
      by_cases h0 : l.toList = ([48] : List UInt8)
      · obtain ⟨r, r1, r2⟩ := good 48 h0 (.inl h0)
        refine fin r ?_ ?_
        · unfold spec_ReplaceStar.f
          refine Ev.bind hs ?_
          simp only [if_true, if_pos h0]
          exact r1
        · unfold impl_ReplaceStar.f
          simp only [if_pos h0]
          exact Ev.bind (hc true) (by simpa using r2)
      · by_cases h1 : l.toList = ([49] : List UInt8)
        · obtain ⟨r, r1, r2⟩ := good 49 h1 (.inr (beq_iff_eq.2 h1))
          refine fin r ?_ ?_
          · unfold spec_ReplaceStar.f
            refine Ev.bind hs ?_
            have e : (l.toList != ([49] : List UInt8)) = false := bne_eq_false_iff_eq.mpr h1
            simp only [if_true, if_neg h0, e]
            exact r1
          · unfold impl_ReplaceStar.f
            have e : (l.toList == ([49] : List UInt8)) = true := beq_iff_eq.2 h1
            simp only [if_neg h0, e]
            exact Ev.bind (hc true) (by simpa using r2)
        · refine fin (⟨#[]⟩, ⟨#[]⟩, 2) ?_ ?_
          · unfold spec_ReplaceStar.f
            refine Ev.bind hs ?_
            have e : (l.toList != ([49] : List UInt8)) = true := bne_iff_ne.mpr h1
            simp only [if_true, if_neg h0, e]
            exact Ev.step (f := fun _ => some (⟨#[]⟩, ⟨#[]⟩, 2)) (fun k => by rw [spec_ReplaceStar.j0, if_pos rfl]) (Ev.now _)
          · unfold impl_ReplaceStar.f
            have e : (l.toList == ([49] : List UInt8)) = false := beq_eq_false_iff_ne.mpr h1
            simp only [if_neg h0, e]
            refine Ev.bind (hc false) ?_
            exact Ev.step (f := fun _ => some (⟨#[]⟩, ⟨#[]⟩, 2)) (fun k => by rw [impl_ReplaceStar.j0]; simp) (Ev.now _)
end Go.Proofs.YthljodbopmcgeaaDoor.Q
