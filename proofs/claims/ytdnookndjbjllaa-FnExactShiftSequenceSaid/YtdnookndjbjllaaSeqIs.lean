/- Whether two words are a sequence; a letter of a sequence; rho: both ways to ask answer alike. -/
import Derived.Test.YtdnookndjbjllaaSeqCore
import Derived.Test.YtdnookndjbjllaaQx20
import Derived.Test.YtdnookndjbjllaaQx23
import Derived.Test.YtdnookndjbjllaaQx27
import Derived.Test.YtdnookndjbjllaaQx25
import Derived.Test.YtdnookndjbjllaaQx28
import Derived.Test.YtdnookndjbjllaaQx19
import Derived.Test.YtdnookndjbjllaaQx2
namespace Go.Proofs.Ytdnookndjbjllaa.Q
open Go.RowKit Go.Proofs.YtdnookndjbjllaaW.PrintWords Go.Proofs.YtdnookndjbjllaaW.PrintLast Go.Proofs.YtdnookndjbjllaaW.Ext
set_option linter.unusedVariables false
set_option linter.unusedSimpArgs false

theorem sz_some (a b : ByteArray) (n : Int) (h0 : 0 ≤ n) (h1 : n ≤ 1048576) (ha : a.size ≤ maxLen) (hb : b.size ≤ maxLen) :
    ∃ z, laws_szSequence.f a b n = some z ∧ (z < 0 ∨ (0 ≤ z ∧ z ≤ n ∧ (a.size : Int) + (b.size : Int) ≤ n)) := by
  unfold maxLen at ha hb
  unfold laws_szSequence.f
  rw [wrS (x := n - (a.size : Int)) (by omega) (by omega)]
  by_cases c : n - (a.size : Int) < 0
  · exact ⟨-1, by rw [if_pos c], by omega⟩
  · rw [if_neg c, wrS (x := n - (a.size : Int) - (b.size : Int)) (by omega) (by omega)]
    by_cases d : n - (a.size : Int) - (b.size : Int) < 0
    · exact ⟨-1, by rw [if_pos d], by omega⟩
    · exact ⟨_, by rw [if_neg d], by omega⟩
theorem given_val (a b : ByteArray) (h : a.size + b.size ≤ 4194304) : impl_areGiven.f a b = some (decide (1 ≤ b.size ∧ a.size + b.size ≤ 64)) := by
  unfold impl_areGiven.f
  by_cases hb : b.size = 0
  · rw [if_pos ((nil_iff b).2 hb)]
    simp [hb]
  · rw [if_neg (fun z => hb ((nil_iff b).1 z)), wrS (by omega) (by omega)]
    congr 1
    rw [decide_eq_decide]
    omega
theorem both_seq (a b : ByteArray) (h : a.size + b.size ≤ 1048576) : ∃ r : Bool, Ev (fun k => spec_l01Seq.f k a b) r ∧ Ev (fun k => impl_IsSequence.f k a b) r ∧
    (r = true → lettersB a = true ∧ lettersB b = true ∧ 1 ≤ b.size ∧ a.size + b.size ≤ 64) := by
  have la := ev_spec_letters a (by omega)
  have lb := ev_spec_letters b (by omega)
  have li : impl_areLetters.f (a ++ b) = some (lettersB a && lettersB b) := by rw [impl_letters _ (by rw [ByteArray.size_append]; omega), letters_append]
  have himpl : ∀ k, impl_IsSequence.f k a b = if (lettersB a && lettersB b) = true then (if 1 ≤ b.size ∧ a.size + b.size ≤ 64 then (impl_sequence.f k a b).bind fun c => some (c.1.toList == a.toList && (c.2.toList == b.toList)) else some false) else some false := by
    intro k
    unfold impl_IsSequence.f
    rw [if_pos (by omega), li, Option.bind_some, given_val a b (by omega), Option.bind_some]
    simp only [decide_eq_true_eq]
  have hspec : ∀ r, Ev (fun k => if lettersB b = true then (if b.size = 0 then some false else if a.size + b.size ≤ 64 then (spec_l01Canonical.f k a b).bind fun c => some (c.1.toList == a.toList && (c.2.toList == b.toList)) else some false) else some false) r → lettersB a = true → Ev (fun k => spec_l01Seq.f k a b) r := by
    intro r hr h1
    unfold spec_l01Seq.f
    refine Ev.bind la ?_
    simp only [h1, if_true]
    refine Ev.bind lb ?_
    refine Ev.congr (fun k => ?_) hr
    by_cases hb : b.size = 0
    · rw [if_pos ((nil_iff b).2 hb), if_pos hb]
    · rw [if_neg (fun z => hb ((nil_iff b).1 z)), if_neg hb, wrS (by omega) (by omega)]
      by_cases h64 : a.size + b.size ≤ 64
      · rw [if_neg (show ¬ (a.size : Int) + (b.size : Int) > 64 by omega), if_pos h64]
      · rw [if_pos (show (a.size : Int) + (b.size : Int) > 64 by omega), if_neg h64]
  cases h1 : lettersB a with
  | false =>
    refine ⟨false, ?_, ?_, by simp⟩
    · unfold spec_l01Seq.f
      refine Ev.bind la ?_
      simp only [h1, Bool.false_eq_true, if_false]
      exact Ev.now _
    · exact Ev.congr (fun k => by rw [himpl k, h1, Bool.false_and, if_neg (by decide)]) (Ev.now false)
  | true =>
    cases h2 : lettersB b with
    | false =>
      refine ⟨false, hspec _ ?_ h1, ?_, by simp⟩
      · simp only [h2, Bool.false_eq_true, if_false]
        exact Ev.now _
      · exact Ev.congr (fun k => by rw [himpl k, h1, h2, if_neg (by decide)]) (Ev.now false)
    | true =>
      by_cases hb : 1 ≤ b.size ∧ a.size + b.size ≤ 64
      · obtain ⟨c, c1, c2, _⟩ := both_canon a b hb.1 hb.2
        refine ⟨c.1.toList == a.toList && (c.2.toList == b.toList), hspec _ ?_ h1, ?_, fun _ => ⟨rfl, rfl, hb⟩⟩
        · simp only [h2, if_true, if_neg (show ¬ b.size = 0 by omega), if_pos hb.2]
          exact Ev.bind c1 (Ev.now _)
        · refine Ev.congr (f := fun k => (impl_sequence.f k a b).bind fun c => some (c.1.toList == a.toList && (c.2.toList == b.toList))) (fun k => by rw [himpl k, h1, h2, if_pos (by decide), if_pos hb]) ?_
          exact Ev.bind c2 (Ev.now _)
      · refine ⟨false, hspec _ ?_ h1, ?_, by simp⟩
        · simp only [h2, if_true]
          by_cases hz : b.size = 0
          · simp only [if_pos hz]; exact Ev.now _
          · simp only [if_neg hz, if_neg (show ¬ a.size + b.size ≤ 64 by omega)]; exact Ev.now _
        · exact Ev.congr (fun k => by rw [himpl k, h1, h2, if_pos (by decide), if_neg hb]) (Ev.now false)
/-- The code for sequences. -/
theorem ev_all1 {a b : ByteArray} {r : Bool} (h : Ev (fun k => impl_IsSequence.f k a b) r) : Ev (fun k => allM (fun x : S23 => impl_IsSequence.f k x.f0 x.f1) [⟨a, b⟩]) r := by
  refine Ev.congr (f := fun k => (impl_IsSequence.f k a b).bind fun q => if q = true then some true else some false) (fun k => rfl) ?_
  refine Ev.bind h ?_
  cases r <;> exact Ev.now _
theorem ev_code1 {a b : ByteArray} {r : Bool} (q : Bool) (h : Ev (fun k => impl_IsSequence.f k a b) r) : Ev (fun k => impl_sequencesCode.f k q [⟨a, b⟩]) (if r = true then (if q = true then 0 else 2) else 1) := by
  unfold impl_sequencesCode.f
  exact Ev.bind (ev_all1 h) (Ev.now _)
theorem ev_code2 {a b c d : ByteArray} {r s : Bool} (q : Bool) (h : Ev (fun k => impl_IsSequence.f k a b) r) (g : Ev (fun k => impl_IsSequence.f k c d) s) : Ev (fun k => impl_sequencesCode.f k q [⟨a, b⟩, ⟨c, d⟩]) (if (r && s) = true then (if q = true then 0 else 2) else 1) := by
  unfold impl_sequencesCode.f
  refine Ev.bind (a := (r && s)) ?_ (Ev.now _)
  refine Ev.congr (f := fun k => (impl_IsSequence.f k a b).bind fun q => if q = true then allM (fun x : S23 => impl_IsSequence.f k x.f0 x.f1) [⟨c, d⟩] else some false) (fun k => rfl) ?_
  refine Ev.bind h ?_
  cases r
  · exact Ev.now _
  · simpa using ev_all1 g
/-- A letter, by its number. -/
def atV (a b : ByteArray) (k : Nat) : Int := if k < a.size then bt a (k : Int) else bt b (((k - a.size) % b.size : Nat) : Int)
theorem at_val (a b : ByteArray) (k : Nat) (hb : 1 ≤ b.size) (ha : a.size ≤ 64) (hk : k ≤ 1000000000) : spec_l01At.f a b (k : Int) = some (atV a b k) := by
  unfold spec_l01At.f atV
  by_cases h : k < a.size
  · rw [if_pos (by omega), if_pos (by omega), if_pos h]
  · have hm := Nat.mod_lt (k - a.size) (show 0 < b.size by omega)
    rw [if_neg (by omega), if_neg (by omega), wrS (by omega) (by omega), show (k : Int) - (a.size : Int) = ((k - a.size : Nat) : Int) by omega, tmod_nat]
    generalize (k - a.size) % b.size = m at *
    rw [if_pos (by omega), if_pos (by omega), if_neg h]
theorem at_val' (a b : ByteArray) (k : Nat) (hb : 1 ≤ b.size) (ha : a.size ≤ 64) (hk : k ≤ 1000000000) : impl_Sequence_at.f a b (k : Int) = some (atV a b k) := at_val a b k hb ha hk
theorem bt_letter {s : ByteArray} (h : lettersB s = true) (i : Nat) (hi : i < s.size) : bt s (i : Int) = 48 ∨ bt s (i : Int) = 49 ∨ bt s (i : Int) = 42 := by
  have hl : i < (bytesOf s).length := by rw [bytesOf_length]; exact hi
  have := List.all_eq_true.1 h _ (List.getElem_mem hl)
  rw [get_bytesOf s i hl] at this
  unfold isLetterN at this
  simpa using this
theorem at_letter {a b : ByteArray} (ha : lettersB a = true) (hb : lettersB b = true) (h1 : 1 ≤ b.size) (k : Nat) : atV a b k = 48 ∨ atV a b k = 49 ∨ atV a b k = 42 := by
  unfold atV
  split
  · rename_i h; exact bt_letter ha k h
  · exact bt_letter hb _ (Nat.mod_lt _ (by omega))
/-- What the laws ask first: how long the words are. -/
theorem sz_frame {a b : ByteArray} (ha : a.size ≤ maxLen) (hb : b.size ≤ maxLen) {g : Nat → Option Bool} (h : a.size + b.size ≤ 1048576 → Ev g true) :
    Ev (fun k => (laws_szSequence.f a b 1048576).bind fun t => if t < 0 then some true else g k) true := by
  obtain ⟨z, hz, h1⟩ := sz_some a b 1048576 (by omega) (by omega) ha hb
  rw [hz]
  simp only [Option.bind_some]
  by_cases hn : z < 0
  · simp only [if_pos hn]; exact Ev.now _
  · simp only [if_neg hn]; exact h (by omega)
theorem in_val (n lo hi : Int) : spec_l01In.f n lo hi = some (decide (lo ≤ n ∧ n ≤ hi)) := by
  unfold spec_l01In.f
  by_cases h : n ≥ lo
  · rw [if_pos h]; congr 1; rw [decide_eq_decide]; omega
  · rw [if_neg h]; congr 1; symm; rw [decide_eq_false_iff_not]; omega
theorem in_val' (n lo hi : Int) : impl_within.f n lo hi = some (decide (lo ≤ n ∧ n ≤ hi)) := by
  unfold impl_within.f
  by_cases h : lo ≤ n
  · rw [if_pos h]; congr 1; rw [decide_eq_decide]; omega
  · rw [if_neg h]; congr 1; symm; rw [decide_eq_false_iff_not]; omega
end Go.Proofs.Ytdnookndjbjllaa.Q
