-- By wip/hyb/hyb.py of this session, over the kit's print.py
import Derived.Test.YthljodbopmcgeaaDoorQx0
import Derived.Test.YthljodbopmcgeaaDoorQx19
namespace Go.Proofs.YthljodbopmcgeaaDoor.Q
open Go.Proofs.YthljodbopmcgeaaDoorW.Ext
open Go.RowKit Go.Proofs.YthljodbopmcgeaaDoorW.PrintWords Go.Proofs.YthljodbopmcgeaaDoorW.PrintLast Go.Proofs.YthljodbopmcgeaaDoorW.PrintMore
attribute [local go_sem] max2_int min2_int max_two min_two max_three min_three max_four min_four   -- for this text's walks alone
set_option linter.unusedVariables false
set_option linter.unusedSimpArgs false

/-! ### areAll at Sequence, and what it calls -/
set_option maxHeartbeats 1000000 in
theorem indexFunc_Sequence.calls (g : Nat) (lb : Array Value) (eg : ∀ args w, (callFunc g args).run Tryd.prog w = .ok (.enter g args) w) (p : S25 → Option Bool) (A0 : Option Addr) (c0 : Nat) (l0 : List S25) (r : Int) (w : World)
    (hr0 : Kd.C k25 w A0 l0.length l0) (hc0 : l0.length ≤ c0)
    (hp : ∀ W x b, Below w.heap.size w W → p x = some b → Calls Tryd.prog g (#[.agg #[.string x.f0, .string x.f1]] ++ lb) W fun e w' => e = .returned (.bool b) ∧ Below W.heap.size W w')
    (h : idxGo p 0 l0 = some r) :
    Calls Tryd.prog 31 #[.slice A0 l0.length c0, .func (.func g) #[] lb] w fun e w' => e = .returned (.int .i64 r) ∧ Below w.heap.size w w' := by
  have hm := Kd.C_max hr0
  have HR := Aside0.mk hr0
  have H0 := Aside0.mk h
  have HP := Aside0.mk hp
  clear hr0 h hp
  go_enter Tryd.func31, Tryd.ntmps31
  go_wp2
  go_loopg [8] l0.length (fun gg i wr => ∃ k : Nat, k ≤ l0.length ∧ l0.length - k ≤ gg ∧ i = .int .i64 k ∧ Aside0 (idxGo p k (l0.drop k) = some r) ∧ Aside0 (Below w.heap.size w wr))
  case atStart => exact ⟨0, Nat.zero_le _, by omega, rfl, Aside0.mk (by simpa using H0.out), Aside0.mk (Below.refl _ _)⟩
  case round =>
    obtain ⟨k, hk, hg, rfl, HJ, HB⟩ := hrel
    clear H0
    by_cases hlt : k < l0.length
    · have hlti : (k : Int) < (l0.length : Int) := by omega
      obtain ⟨b, hb, hstep⟩ := idxGo_drop p l0 k k r hlt HJ.out
      obtain ⟨ad, e, e0, e1⟩ := at_T25 (Kd.C_below HR.out HB.out) (k : Int) (by omega) hlti
      have hx : rd_T25 l0 (k : Int) = l0[k] := by simp [rd_T25, hlt]
      rw [hx] at e0 e1
      simp only [Int.toNat_natCast] at e0 e1
      generalize l0[k] = x at hb e0 e1
      have hcall := HP.out wr x b HB.out hb
      subst e
      rcases hstep with ⟨rfl, rfl⟩ | ⟨rfl, hj⟩
      · have HC := Aside0.mk hcall
        have HB1 := HB.out
        clear hcall hb hx HP HJ
        go_wp2_with (go_at_fn g; refine HC.out.mono ?_; rintro e w' ⟨rfl, hb'⟩)
        go_ret
        exact ⟨rfl, HB1.trans (hb'.mono HB1.size)⟩
      · have HC := Aside0.mk hcall
        have HJ2 := Aside0.mk hj
        clear hcall hb hx hj
        go_wp2_with (go_at_fn g; refine HC.out.mono ?_; rintro e w' ⟨rfl, hb'⟩)
        go_roundg (l0.length - (k + 1))
        case measure => omega
        case rel => exact ⟨k + 1, by omega, by omega, by go_num, ⟨by simpa using HJ2.out⟩, ⟨HB.out.trans (hb'.mono HB.out.size)⟩⟩
    · have hlti : ¬ (k : Int) < (l0.length : Int) := by omega
      have hr : r = -1 := idxGo_end p l0 k k r (by omega) HJ.out
      have HR1 := Aside0.mk hr
      have HB1 := HB.out
      clear hr HP HJ
      go_wp2
      go_ret
      exact ⟨by rw [HR1.out]; rfl, HB1⟩
set_option maxHeartbeats 1000000 in
theorem containsFunc_Sequence.calls (g : Nat) (lb : Array Value) (eg : ∀ args w, (callFunc g args).run Tryd.prog w = .ok (.enter g args) w) (p : S25 → Option Bool) (A0 : Option Addr) (c0 : Nat) (l0 : List S25) (r : Int) (w : World)
    (hr0 : Kd.C k25 w A0 l0.length l0) (hc0 : l0.length ≤ c0)
    (hp : ∀ W x b, Below w.heap.size w W → p x = some b → Calls Tryd.prog g (#[.agg #[.string x.f0, .string x.f1]] ++ lb) W fun e w' => e = .returned (.bool b) ∧ Below W.heap.size W w')
    (h : idxGo p 0 l0 = some r) :
    Calls Tryd.prog 20 #[.slice A0 l0.length c0, .func (.func g) #[] lb] w fun e w' => e = .returned (.bool (decide (0 ≤ r))) ∧ Below w.heap.size w w' := by
  have hcon := indexFunc_Sequence.calls g lb eg p A0 c0 l0 r w hr0 hc0 hp h
  have HC := Aside0.mk hcon
  clear hcon hp h hr0
  go_enter Tryd.func20, Tryd.ntmps20
  go_wp2_with (go_at_call 31; refine HC.out.mono ?_; rintro e w' ⟨rfl, hb'⟩)
  go_ret
  exact ⟨rfl, hb'⟩
set_option maxHeartbeats 1000000 in
theorem notIs_Sequence.calls (g : Nat) (eg : ∀ args w, (callFunc g args).run Tryd.prog w = .ok (.enter g args) w) (B : Nat) (w : World) (hcell : w.cell? ⟨B, 0, none⟩ = some (.func (.func g) #[] #[])) (hB : B < w.heap.size) (x : S25) (b : Bool)
    (hp : ∀ W, Below w.heap.size w W → Calls Tryd.prog g #[.agg #[.string x.f0, .string x.f1]] W fun e w' => e = .returned (.bool b) ∧ Below W.heap.size W w') :
    Calls Tryd.prog 21 #[.agg #[.string x.f0, .string x.f1], .pointer (some ⟨B, 0, none⟩)] w fun e w' => e = .returned (.bool (!b)) ∧ Below w.heap.size w w' := by
  have HP := Aside0.mk hp
  have hu := Tryd.underlying25
  clear hp
  go_enter Tryd.func21, Tryd.ntmps21
  go_wp2_with (go_at_fn g; refine (HP.out _ ((Below.refl _ _).alloc (Nat.le_refl _) _)).mono ?_; rintro e w' ⟨rfl, hb'⟩)
  go_ret
  exact ⟨rfl, ((Below.refl _ w).alloc (Nat.le_refl _) _).trans (hb'.mono (by simp))⟩
set_option maxHeartbeats 1000000 in
theorem areAll_Sequence.calls (g : Nat) (eg : ∀ args w, (callFunc g args).run Tryd.prog w = .ok (.enter g args) w) (p : S25 → Option Bool) (A0 : Option Addr) (c0 : Nat) (l0 : List S25) (r : Bool) (w : World)
    (hr0 : Kd.C k25 w A0 l0.length l0) (hc0 : l0.length ≤ c0)
    (hp : ∀ W x b, Below w.heap.size w W → p x = some b → Calls Tryd.prog g #[.agg #[.string x.f0, .string x.f1]] W fun e w' => e = .returned (.bool b) ∧ Below W.heap.size W w')
    (h : allM p l0 = some r) :
    Calls Tryd.prog 16 #[.slice A0 l0.length c0, .func (.func g) #[] #[]] w fun e w' => e = .returned (.bool r) ∧ Below w.heap.size w w' := by
  obtain ⟨i, h1, h2⟩ := allM_idx p l0 0 r (by omega) h
  have hw1 : Below w.heap.size w (w.alloc (.cells #[.func (.func g) #[] #[]] 31)) := (Below.refl _ w).alloc (Nat.le_refl _) _
  have hcon := containsFunc_Sequence.calls 21 #[.pointer (some ⟨w.heap.size, 0, none⟩)] (enters_of Tryd.func21 (by kernel_rfl) rfl)
    (fun x => (p x).map (fun b => !b)) A0 c0 l0 i (w.alloc (.cells #[.func (.func g) #[] #[]] 31)) (Kd.C_below hr0 hw1) hc0
    (fun W x b hW hx => by
      obtain ⟨q, hq, rfl⟩ := Option.map_eq_some_iff.1 hx
      have hcell : W.cell? ⟨w.heap.size, 0, none⟩ = some (.func (.func g) #[] #[]) := (hW.cell (p := ⟨w.heap.size, 0, none⟩) (by simp)).trans (by simp)
      exact notIs_Sequence.calls g eg w.heap.size W hcell (by have := hW.size; simp at this; omega) x q (fun W' hW' => hp W' x q (hw1.trans ((hW.mono (by simp)).trans (hW'.mono (by have := hW.size; simp at this; omega)))) hq)) h1
  have HC := Aside0.mk hcon
  have H2 := Aside0.mk h2
  clear hcon hp h hr0 h1 h2
  go_enter Tryd.func16, Tryd.ntmps16
  go_wp2_with (go_at_call 20; refine HC.out.mono ?_; rintro e w' ⟨rfl, hb'⟩)
  go_ret
  exact ⟨by rw [H2.out]; simp, hw1.trans (hb'.mono (by simp))⟩

/-! ### impl_sequencesCode: function 12 -/
def impl_sequencesCode.f (k : Nat) (a0 : Bool) (l1 : List S25) : Option Int := (allM (fun x => impl_IsSequence.f k x.f0 x.f1) l1).bind fun b => some (if b = true then (if a0 = true then 0 else 2) else 1)
theorem impl_sequencesCode.mono : ∀ a0 a1 k, LeO (impl_sequencesCode.f k a0 a1) (impl_sequencesCode.f (k + 1) a0 a1) := by
  intro a l k r h
  unfold impl_sequencesCode.f at h ⊢
  cases hb : allM (fun x : S25 => impl_IsSequence.f k x.f0 x.f1) l with
  | none => rw [hb] at h; simp at h
  | some b =>
    rw [hb] at h
    rw [allM_mono (q := fun x : S25 => impl_IsSequence.f (k + 1) x.f0 x.f1) (fun x => impl_IsSequence.mono _ _ k) l b hb]
    exact h
set_option maxHeartbeats 1000000 in
theorem impl_sequencesCode.calls (k : Nat) (a0 : Bool) (A1 : Option Addr) (c1 : Nat) (l1 : List S25) (r : Int) (w : World) (hr1 : Kd.C k25 w A1 l1.length l1) (hc1 : l1.length ≤ c1) (h : impl_sequencesCode.f k a0 l1 = some r) :
    Calls Tryd.prog 12 #[.bool a0, .slice A1 l1.length c1] w fun e w' => e = .returned (.int .i64 r) ∧ Below w.heap.size w w' := by
  unfold impl_sequencesCode.f at h
  obtain ⟨b, hb, hr⟩ := Option.bind_eq_some_iff.1 h
  have hcon := areAll_Sequence.calls 17 (enters_of Tryd.func17 (by kernel_rfl) rfl) (fun x : S25 => impl_IsSequence.f k x.f0 x.f1) A1 c1 l1 b w hr1 hc1
    (fun W x q _ hx => (impl_IsSequence.calls k _ _ q W hx).mono fun e w' ⟨he, hd⟩ => ⟨he, by first | exact hd | exact hd.below⟩) hb
  have HR := Aside0.mk hr
  clear h hr hb hr1
  cases b <;> cases a0 <;>
  · go_enter Tryd.func12, Tryd.ntmps12
    go_wp2_with (go_at_call 16; refine hcon.mono ?_; rintro e w' ⟨rfl, hb'⟩)
    go_ret
    have hr := HR.out
    simp at hr
    subst hr
    exact ⟨rfl, hb'⟩

-- NOT PRINTED: function 55 (bytealg_IndexByteString)

-- NOT PRINTED: function 50 (stringslite_IndexByte)

-- NOT PRINTED: function 51 (bytealg_IndexString)

end Go.Proofs.YthljodbopmcgeaaDoor.Q
