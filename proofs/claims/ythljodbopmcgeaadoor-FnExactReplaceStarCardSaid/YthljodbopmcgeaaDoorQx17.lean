-- By wip/hyb/hyb.py of this session, over the kit's print.py
import Derived.Test.YthljodbopmcgeaaDoorQx0
namespace Go.Proofs.YthljodbopmcgeaaDoor.Q
open Go.Proofs.YthljodbopmcgeaaDoorW.Ext
open Go.RowKit Go.Proofs.YthljodbopmcgeaaDoorW.PrintWords Go.Proofs.YthljodbopmcgeaaDoorW.PrintLast Go.Proofs.YthljodbopmcgeaaDoorW.PrintMore
attribute [local go_sem] max2_int min2_int max_two min_two max_three min_three max_four min_four   -- for this text's walks alone
set_option linter.unusedVariables false
set_option linter.unusedSimpArgs false

/-! ### impl_areLetters: function 22 -/
/-! ### areAll at byte, and what it calls -/
set_option maxHeartbeats 1000000 in
theorem indexFunc_byte.calls (g : Nat) (lb : Array Value) (eg : ∀ args w, (callFunc g args).run Tryd.prog w = .ok (.enter g args) w) (p : Int → Option Bool) (A0 : Option Addr) (c0 : Nat) (l0 : List Int) (r : Int) (w : World)
    (hr0 : Kd.C (Kd.int .u8) w A0 l0.length l0) (hc0 : l0.length ≤ c0)
    (hp : ∀ W x b, Below w.heap.size w W → p x = some b → Calls Tryd.prog g (#[.int .u8 x] ++ lb) W fun e w' => e = .returned (.bool b) ∧ Below W.heap.size W w')
    (h : idxGo p 0 l0 = some r) :
    Calls Tryd.prog 54 #[.slice A0 l0.length c0, .func (.func g) #[] lb] w fun e w' => e = .returned (.int .i64 r) ∧ Below w.heap.size w w' := by
  have hm := Kd.C_max hr0
  have HR := Aside0.mk hr0
  have H0 := Aside0.mk h
  have HP := Aside0.mk hp
  clear hr0 h hp
  go_enter Tryd.func54, Tryd.ntmps54
  go_wp2
  go_loopg [8] l0.length (fun gg i wr => ∃ k : Nat, k ≤ l0.length ∧ l0.length - k ≤ gg ∧ i = .int .i64 k ∧ Aside0 (idxGo p k (l0.drop k) = some r) ∧ Aside0 (Below w.heap.size w wr))
  case atStart => exact ⟨0, Nat.zero_le _, by omega, rfl, Aside0.mk (by simpa using H0.out), Aside0.mk (Below.refl _ _)⟩
  case round =>
    obtain ⟨k, hk, hg, rfl, HJ, HB⟩ := hrel
    clear H0
    by_cases hlt : k < l0.length
    · have hlti : (k : Int) < (l0.length : Int) := by omega
      obtain ⟨b, hb, hstep⟩ := idxGo_drop p l0 k k r hlt HJ.out
      obtain ⟨ad, e, e0⟩ := Kd.at_int (Kd.C_below HR.out HB.out) (k : Int) (by omega) hlti
      have hx : rd l0 (k : Int) = l0[k] := by simp [rd, hlt]
      rw [hx] at e0
      simp only [Int.toNat_natCast] at e0
      generalize l0[k] = x at hb e0
      have hcall := HP.out wr x b HB.out hb
      subst e
      rcases hstep with ⟨rfl, rfl⟩ | ⟨rfl, hj⟩
      · have HC := Aside0.mk hcall
        have HB1 := HB.out
        clear hcall hb hx HP HJ
        go_wp2_with (go_at_fn g; refine HC.out.mono ?_; rintro e w' ⟨rfl, hb'⟩)
        go_ret
        exact ⟨rfl, HB1.trans (hb'.mono HB1.size)⟩
      · have HC := Aside0.mk hcall
        have HJ2 := Aside0.mk hj
        clear hcall hb hx hj
        go_wp2_with (go_at_fn g; refine HC.out.mono ?_; rintro e w' ⟨rfl, hb'⟩)
        go_roundg (l0.length - (k + 1))
        case measure => omega
        case rel => exact ⟨k + 1, by omega, by omega, by go_num, ⟨by simpa using HJ2.out⟩, ⟨HB.out.trans (hb'.mono HB.out.size)⟩⟩
    · have hlti : ¬ (k : Int) < (l0.length : Int) := by omega
      have hr : r = -1 := idxGo_end p l0 k k r (by omega) HJ.out
      have HR1 := Aside0.mk hr
      have HB1 := HB.out
      clear hr HP HJ
      go_wp2
      go_ret
      exact ⟨by rw [HR1.out]; rfl, HB1⟩
set_option maxHeartbeats 1000000 in
theorem containsFunc_byte.calls (g : Nat) (lb : Array Value) (eg : ∀ args w, (callFunc g args).run Tryd.prog w = .ok (.enter g args) w) (p : Int → Option Bool) (A0 : Option Addr) (c0 : Nat) (l0 : List Int) (r : Int) (w : World)
    (hr0 : Kd.C (Kd.int .u8) w A0 l0.length l0) (hc0 : l0.length ≤ c0)
    (hp : ∀ W x b, Below w.heap.size w W → p x = some b → Calls Tryd.prog g (#[.int .u8 x] ++ lb) W fun e w' => e = .returned (.bool b) ∧ Below W.heap.size W w')
    (h : idxGo p 0 l0 = some r) :
    Calls Tryd.prog 43 #[.slice A0 l0.length c0, .func (.func g) #[] lb] w fun e w' => e = .returned (.bool (decide (0 ≤ r))) ∧ Below w.heap.size w w' := by
  have hcon := indexFunc_byte.calls g lb eg p A0 c0 l0 r w hr0 hc0 hp h
  have HC := Aside0.mk hcon
  clear hcon hp h hr0
  go_enter Tryd.func43, Tryd.ntmps43
  go_wp2_with (go_at_call 54; refine HC.out.mono ?_; rintro e w' ⟨rfl, hb'⟩)
  go_ret
  exact ⟨rfl, hb'⟩
set_option maxHeartbeats 1000000 in
theorem notIs_byte.calls (g : Nat) (eg : ∀ args w, (callFunc g args).run Tryd.prog w = .ok (.enter g args) w) (B : Nat) (w : World) (hcell : w.cell? ⟨B, 0, none⟩ = some (.func (.func g) #[] #[])) (hB : B < w.heap.size) (x : Int) (b : Bool)
    (hp : ∀ W, Below w.heap.size w W → Calls Tryd.prog g #[.int .u8 x] W fun e w' => e = .returned (.bool b) ∧ Below W.heap.size W w') :
    Calls Tryd.prog 44 #[.int .u8 x, .pointer (some ⟨B, 0, none⟩)] w fun e w' => e = .returned (.bool (!b)) ∧ Below w.heap.size w w' := by
  have HP := Aside0.mk hp
  have hu := Tryd.underlying5
  clear hp
  go_enter Tryd.func44, Tryd.ntmps44
  go_wp2_with (go_at_fn g; refine (HP.out _ (Below.refl _ _)).mono ?_; rintro e w' ⟨rfl, hb'⟩)
  go_ret
  exact ⟨rfl, hb'⟩
set_option maxHeartbeats 1000000 in
theorem areAll_byte.calls (g : Nat) (eg : ∀ args w, (callFunc g args).run Tryd.prog w = .ok (.enter g args) w) (p : Int → Option Bool) (A0 : Option Addr) (c0 : Nat) (l0 : List Int) (r : Bool) (w : World)
    (hr0 : Kd.C (Kd.int .u8) w A0 l0.length l0) (hc0 : l0.length ≤ c0)
    (hp : ∀ W x b, Below w.heap.size w W → p x = some b → Calls Tryd.prog g #[.int .u8 x] W fun e w' => e = .returned (.bool b) ∧ Below W.heap.size W w')
    (h : allM p l0 = some r) :
    Calls Tryd.prog 32 #[.slice A0 l0.length c0, .func (.func g) #[] #[]] w fun e w' => e = .returned (.bool r) ∧ Below w.heap.size w w' := by
  obtain ⟨i, h1, h2⟩ := allM_idx p l0 0 r (by omega) h
  have hw1 : Below w.heap.size w (w.alloc (.cells #[.func (.func g) #[] #[]] 58)) := (Below.refl _ w).alloc (Nat.le_refl _) _
  have hcon := containsFunc_byte.calls 44 #[.pointer (some ⟨w.heap.size, 0, none⟩)] (enters_of Tryd.func44 (by kernel_rfl) rfl)
    (fun x => (p x).map (fun b => !b)) A0 c0 l0 i (w.alloc (.cells #[.func (.func g) #[] #[]] 58)) (Kd.C_below hr0 hw1) hc0
    (fun W x b hW hx => by
      obtain ⟨q, hq, rfl⟩ := Option.map_eq_some_iff.1 hx
      have hcell : W.cell? ⟨w.heap.size, 0, none⟩ = some (.func (.func g) #[] #[]) := (hW.cell (p := ⟨w.heap.size, 0, none⟩) (by simp)).trans (by simp)
      exact notIs_byte.calls g eg w.heap.size W hcell (by have := hW.size; simp at this; omega) x q (fun W' hW' => hp W' x q (hw1.trans ((hW.mono (by simp)).trans (hW'.mono (by have := hW.size; simp at this; omega)))) hq)) h1
  have HC := Aside0.mk hcon
  have H2 := Aside0.mk h2
  clear hcon hp h hr0 h1 h2
  go_enter Tryd.func32, Tryd.ntmps32
  go_wp2_with (go_at_call 43; refine HC.out.mono ?_; rintro e w' ⟨rfl, hb'⟩)
  go_ret
  exact ⟨by rw [H2.out]; simp, hw1.trans (hb'.mono (by simp))⟩
/-! ### areLetters -/
def isLetterN (x : Int) : Bool := decide (x = 48) || (decide (x = 49) || decide (x = 42))
theorem allM_some {α : Type} (q : α → Bool) : ∀ l : List α, allM (fun x => some (q x)) l = some (l.all q)
  | [] => rfl
  | x :: xs => by
    unfold allM
    simp only [Option.bind_some, List.all_cons]
    cases h : q x
    · simp
    · simpa using allM_some q xs
set_option maxHeartbeats 1000000 in
theorem isLetterN.calls (x : Int) (w : World) :
    Calls Tryd.prog 33 #[.int .u8 x] w fun e w' => e = .returned (.bool (isLetterN x)) ∧ Below w.heap.size w w' := by
  go_enter Tryd.func33, Tryd.ntmps33
  go_wp2
  all_goals (go_ret; refine ⟨?_, Below.refl _ _⟩; unfold isLetterN; first | (simp_all; done) | (simp_all; rw [Bool.eq_iff_iff]; simp; omega))
def impl_areLetters.f (a0 : ByteArray) : Option Bool := if a0.size ≤ 9223372036854775807 then some ((bytesOf a0).all isLetterN) else none
set_option maxHeartbeats 1000000 in
theorem impl_areLetters.calls (a0 : ByteArray) (r : Bool) (w : World) (h : impl_areLetters.f a0 = some r) :
    Calls Tryd.prog 22 #[.string a0] w fun e w' => e = .returned (.bool r) ∧ Below w.heap.size w w' := by
  unfold impl_areLetters.f at h
  by_cases hs : a0.size ≤ 9223372036854775807
  · rw [if_pos hs] at h
    have hcv := print_bytes (P := Tryd.prog) 9 37 5 Tryd.underlying9 Tryd.underlying37 Tryd.underlying5 a0 w
    have hrd : Kd.C (Kd.int .u8) (Lib.bytesWorld w 5 a0) (some ⟨w.heap.size, 0, none⟩) (bytesOf a0).length (bytesOf a0) := by
      rw [bytesOf_length]
      exact Kd.C_of_reads (enc := Value.int .u8) (d := (0 : Int)) (h1 := fun _ => rfl) (bytes_reads w 5 a0 hs)
    have hb := bytes_below (Below.refl w.heap.size w) (Nat.le_refl _) 5 a0
    have hcap : (bytesOf a0).length ≤ grownCap w a0.size 0 5 := by rw [bytesOf_length]; exact grownCap_ge w a0.size 0 5
    have hall := areAll_byte.calls 33 (enters_of Tryd.func33 (by kernel_rfl) rfl) (fun x => some (isLetterN x)) (some ⟨w.heap.size, 0, none⟩) (grownCap w a0.size 0 5) (bytesOf a0) r (Lib.bytesWorld w 5 a0) hrd hcap
      (fun W x b _ hx => by
        obtain rfl := Option.some.inj hx
        exact isLetterN.calls x W) (by rw [allM_some]; exact h)
    rw [bytesOf_length] at hall
    have HC := Aside0.mk hall
    have HB := Aside0.mk hb
    clear hall hb hrd h hcap
    generalize Lib.bytesWorld w 5 a0 = W1 at hcv HC HB
    generalize grownCap w a0.size 0 5 = cap at hcv HC
    go_enter Tryd.func22, Tryd.ntmps22
    go_wp2_with (go_at_call 32; refine HC.out.mono ?_; rintro e w' ⟨rfl, hb'⟩)
    go_ret
    exact ⟨rfl, HB.out.trans (hb'.mono HB.out.size)⟩
  · rw [if_neg hs] at h
    cases h

end Go.Proofs.YthljodbopmcgeaaDoor.Q
