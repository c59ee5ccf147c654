-- By wip/hyb/hyb.py of this session, over the kit's print.py
import Derived.Test.YteckdlmepgdlnaaQx0
import Derived.Test.YteckdlmepgdlnaaQx2
namespace Go.Proofs.Yteckdlmepgdlnaa.Q
open Go.Proofs.YteckdlmepgdlnaaW.Ext
open Go.RowKit Go.Proofs.YteckdlmepgdlnaaW.PrintWords Go.Proofs.YteckdlmepgdlnaaW.PrintLast Go.Proofs.YteckdlmepgdlnaaW.PrintMore
attribute [local go_sem] max2_int min2_int max_two min_two max_three min_three max_four min_four   -- for this text's walks alone
set_option linter.unusedVariables false
set_option linter.unusedSimpArgs false

/-! ### areAll at Angle, and what it calls -/
set_option maxHeartbeats 1000000 in
theorem indexFunc_Angle.calls (g : Nat) (lb : Array Value) (eg : ∀ args w, (callFunc g args).run Try.prog w = .ok (.enter g args) w) (p : S33 → Option Bool) (A0 : Option Addr) (c0 : Nat) (l0 : List S33) (r : Int) (w : World)
    (hr0 : Kd.C k33 w A0 l0.length l0) (hc0 : l0.length ≤ c0)
    (hp : ∀ W x b, Below w.heap.size w W → p x = some b → Calls Try.prog g (#[.agg #[.int .i64 x.f0, .int .i64 x.f1]] ++ lb) W fun e w' => e = .returned (.bool b) ∧ Below W.heap.size W w')
    (h : idxGo p 0 l0 = some r) :
    Calls Try.prog 34 #[.slice A0 l0.length c0, .func (.func g) #[] lb] w fun e w' => e = .returned (.int .i64 r) ∧ Below w.heap.size w w' := by
  have hm := Kd.C_max hr0
  have HR := Aside0.mk hr0
  have H0 := Aside0.mk h
  have HP := Aside0.mk hp
  clear hr0 h hp
  go_enter Try.func34, Try.ntmps34
  go_wp2
  go_loopg [8] l0.length (fun gg i wr => ∃ k : Nat, k ≤ l0.length ∧ l0.length - k ≤ gg ∧ i = .int .i64 k ∧ Aside0 (idxGo p k (l0.drop k) = some r) ∧ Aside0 (Below w.heap.size w wr))
  case atStart => exact ⟨0, Nat.zero_le _, by omega, rfl, Aside0.mk (by simpa using H0.out), Aside0.mk (Below.refl _ _)⟩
  case round =>
    obtain ⟨k, hk, hg, rfl, HJ, HB⟩ := hrel
    clear H0
    by_cases hlt : k < l0.length
    · have hlti : (k : Int) < (l0.length : Int) := by omega
      obtain ⟨b, hb, hstep⟩ := idxGo_drop p l0 k k r hlt HJ.out
      obtain ⟨ad, e, e0, e1⟩ := at_T33 (Kd.C_below HR.out HB.out) (k : Int) (by omega) hlti
      have hx : rd_T33 l0 (k : Int) = l0[k] := by simp [rd_T33, hlt]
      rw [hx] at e0 e1
      simp only [Int.toNat_natCast] at e0 e1
      generalize l0[k] = x at hb e0 e1
      have hcall := HP.out wr x b HB.out hb
      subst e
      rcases hstep with ⟨rfl, rfl⟩ | ⟨rfl, hj⟩
      · have HC := Aside0.mk hcall
        have HB1 := HB.out
        clear hcall hb hx HP HJ
        go_wp2_with (go_at_fn g; refine HC.out.mono ?_; rintro e w' ⟨rfl, hb'⟩)
        go_ret
        exact ⟨rfl, HB1.trans (hb'.mono HB1.size)⟩
      · have HC := Aside0.mk hcall
        have HJ2 := Aside0.mk hj
        clear hcall hb hx hj
        go_wp2_with (go_at_fn g; refine HC.out.mono ?_; rintro e w' ⟨rfl, hb'⟩)
        go_roundg (l0.length - (k + 1))
        case measure => omega
        case rel => exact ⟨k + 1, by omega, by omega, by go_num, ⟨by simpa using HJ2.out⟩, ⟨HB.out.trans (hb'.mono HB.out.size)⟩⟩
    · have hlti : ¬ (k : Int) < (l0.length : Int) := by omega
      have hr : r = -1 := idxGo_end p l0 k k r (by omega) HJ.out
      have HR1 := Aside0.mk hr
      have HB1 := HB.out
      clear hr HP HJ
      go_wp2
      go_ret
      exact ⟨by rw [HR1.out]; rfl, HB1⟩
set_option maxHeartbeats 1000000 in
theorem containsFunc_Angle.calls (g : Nat) (lb : Array Value) (eg : ∀ args w, (callFunc g args).run Try.prog w = .ok (.enter g args) w) (p : S33 → Option Bool) (A0 : Option Addr) (c0 : Nat) (l0 : List S33) (r : Int) (w : World)
    (hr0 : Kd.C k33 w A0 l0.length l0) (hc0 : l0.length ≤ c0)
    (hp : ∀ W x b, Below w.heap.size w W → p x = some b → Calls Try.prog g (#[.agg #[.int .i64 x.f0, .int .i64 x.f1]] ++ lb) W fun e w' => e = .returned (.bool b) ∧ Below W.heap.size W w')
    (h : idxGo p 0 l0 = some r) :
    Calls Try.prog 26 #[.slice A0 l0.length c0, .func (.func g) #[] lb] w fun e w' => e = .returned (.bool (decide (0 ≤ r))) ∧ Below w.heap.size w w' := by
  have hcon := indexFunc_Angle.calls g lb eg p A0 c0 l0 r w hr0 hc0 hp h
  have HC := Aside0.mk hcon
  clear hcon hp h hr0
  go_enter Try.func26, Try.ntmps26
  go_wp2_with (go_at_call 34; refine HC.out.mono ?_; rintro e w' ⟨rfl, hb'⟩)
  go_ret
  exact ⟨rfl, hb'⟩
set_option maxHeartbeats 1000000 in
theorem notIs_Angle.calls (g : Nat) (eg : ∀ args w, (callFunc g args).run Try.prog w = .ok (.enter g args) w) (B : Nat) (w : World) (hcell : w.cell? ⟨B, 0, none⟩ = some (.func (.func g) #[] #[])) (hB : B < w.heap.size) (x : S33) (b : Bool)
    (hp : ∀ W, Below w.heap.size w W → Calls Try.prog g #[.agg #[.int .i64 x.f0, .int .i64 x.f1]] W fun e w' => e = .returned (.bool b) ∧ Below W.heap.size W w') :
    Calls Try.prog 27 #[.agg #[.int .i64 x.f0, .int .i64 x.f1], .pointer (some ⟨B, 0, none⟩)] w fun e w' => e = .returned (.bool (!b)) ∧ Below w.heap.size w w' := by
  have HP := Aside0.mk hp
  have hu := Try.underlying33
  clear hp
  go_enter Try.func27, Try.ntmps27
  go_wp2_with (go_at_fn g; refine (HP.out _ ((Below.refl _ _).alloc (Nat.le_refl _) _)).mono ?_; rintro e w' ⟨rfl, hb'⟩)
  go_ret
  exact ⟨rfl, ((Below.refl _ w).alloc (Nat.le_refl _) _).trans (hb'.mono (by simp))⟩
set_option maxHeartbeats 1000000 in
theorem areAll_Angle.calls (g : Nat) (eg : ∀ args w, (callFunc g args).run Try.prog w = .ok (.enter g args) w) (p : S33 → Option Bool) (A0 : Option Addr) (c0 : Nat) (l0 : List S33) (r : Bool) (w : World)
    (hr0 : Kd.C k33 w A0 l0.length l0) (hc0 : l0.length ≤ c0)
    (hp : ∀ W x b, Below w.heap.size w W → p x = some b → Calls Try.prog g #[.agg #[.int .i64 x.f0, .int .i64 x.f1]] W fun e w' => e = .returned (.bool b) ∧ Below W.heap.size W w')
    (h : allM p l0 = some r) :
    Calls Try.prog 20 #[.slice A0 l0.length c0, .func (.func g) #[] #[]] w fun e w' => e = .returned (.bool r) ∧ Below w.heap.size w w' := by
  obtain ⟨i, h1, h2⟩ := allM_idx p l0 0 r (by omega) h
  have hw1 : Below w.heap.size w (w.alloc (.cells #[.func (.func g) #[] #[]] 31)) := (Below.refl _ w).alloc (Nat.le_refl _) _
  have hcon := containsFunc_Angle.calls 27 #[.pointer (some ⟨w.heap.size, 0, none⟩)] (enters_of Try.func27 (by kernel_rfl) rfl)
    (fun x => (p x).map (fun b => !b)) A0 c0 l0 i (w.alloc (.cells #[.func (.func g) #[] #[]] 31)) (Kd.C_below hr0 hw1) hc0
    (fun W x b hW hx => by
      obtain ⟨q, hq, rfl⟩ := Option.map_eq_some_iff.1 hx
      have hcell : W.cell? ⟨w.heap.size, 0, none⟩ = some (.func (.func g) #[] #[]) := (hW.cell (p := ⟨w.heap.size, 0, none⟩) (by simp)).trans (by simp)
      exact notIs_Angle.calls g eg w.heap.size W hcell (by have := hW.size; simp at this; omega) x q (fun W' hW' => hp W' x q (hw1.trans ((hW.mono (by simp)).trans (hW'.mono (by have := hW.size; simp at this; omega)))) hq)) h1
  have HC := Aside0.mk hcon
  have H2 := Aside0.mk h2
  clear hcon hp h hr0 h1 h2
  go_enter Try.func20, Try.ntmps20
  go_wp2_with (go_at_call 26; refine HC.out.mono ?_; rintro e w' ⟨rfl, hb'⟩)
  go_ret
  exact ⟨by rw [H2.out]; simp, hw1.trans (hb'.mono (by simp))⟩

/-! ### impl_anglesCode: function 14 -/
def impl_anglesCode.f (k : Nat) (l0 : List S33) : Option Int := (allM (fun x => impl_IsAngle.f k x.f0 x.f1) l0).bind fun b => some (if b = true then 0 else 1)
theorem impl_anglesCode.mono : ∀ a0 k, LeO (impl_anglesCode.f k a0) (impl_anglesCode.f (k + 1) a0) := by
  intro l k r h
  unfold impl_anglesCode.f at h ⊢
  cases hb : allM (fun x : S33 => impl_IsAngle.f k x.f0 x.f1) l with
  | none => rw [hb] at h; simp at h
  | some b =>
    rw [hb] at h
    rw [allM_mono (q := fun x : S33 => impl_IsAngle.f (k + 1) x.f0 x.f1) (fun x => impl_IsAngle.mono _ _ k) l b hb]
    exact h
set_option maxHeartbeats 1000000 in
theorem impl_anglesCode.calls (k : Nat) (A0 : Option Addr) (c0 : Nat) (l0 : List S33) (r : Int) (w : World) (hr0 : Kd.C k33 w A0 l0.length l0) (hc0 : l0.length ≤ c0) (h : impl_anglesCode.f k l0 = some r) :
    Calls Try.prog 14 #[.slice A0 l0.length c0] w fun e w' => e = .returned (.int .i64 r) ∧ Below w.heap.size w w' := by
  unfold impl_anglesCode.f at h
  obtain ⟨b, hb, hr⟩ := Option.bind_eq_some_iff.1 h
  have hcon := areAll_Angle.calls 21 (enters_of Try.func21 (by kernel_rfl) rfl) (fun x : S33 => impl_IsAngle.f k x.f0 x.f1) A0 c0 l0 b w hr0 hc0
    (fun W x q _ hx => (impl_IsAngle.calls k _ _ q W hx).mono fun e w' ⟨he, hd⟩ => ⟨he, by first | exact hd | exact hd.below⟩) hb
  have HR := Aside0.mk hr
  clear h hr hb hr0
  cases b with
  | true =>
    go_enter Try.func14, Try.ntmps14
    go_wp2_with (go_at_call 20; refine hcon.mono ?_; rintro e w' ⟨rfl, hb'⟩)
    go_ret
    have hr := HR.out
    simp at hr
    subst hr
    exact ⟨rfl, hb'⟩
  | false =>
    go_enter Try.func14, Try.ntmps14
    go_wp2_with (go_at_call 20; refine hcon.mono ?_; rintro e w' ⟨rfl, hb'⟩)
    go_ret
    have hr := HR.out
    simp at hr
    subst hr
    exact ⟨rfl, hb'⟩

-- NOT PRINTED: function 22 (impl_Angle_22)

-- NOT PRINTED: function 35 (impl_Angle_35)

-- NOT PRINTED: function 30 (impl_Angle_30)

-- NOT PRINTED: function 39 (impl_Angle_39)

-- NOT PRINTED: function 49 (impl_Angle_49)

-- NOT PRINTED: function 40 (impl_Angle_40)

-- NOT PRINTED: function 47 (bits_Len32)

-- NOT PRINTED: function 48 (bits_Len64)

-- NOT PRINTED: function 37 (bits_Len)

-- NOT PRINTED: function 50 (slices_nextPowerOfTwo)

-- NOT PRINTED: function 51 (slices_xorshift_Next)

-- NOT PRINTED: function 41 (impl_Angle_41)

-- NOT PRINTED: function 54 (impl_Angle_54)

-- NOT PRINTED: function 53 (impl_Angle_53)

-- NOT PRINTED: function 52 (impl_Angle_52)

-- NOT PRINTED: function 42 (impl_Angle_42)

-- NOT PRINTED: function 43 (impl_Angle_43)

-- NOT PRINTED: function 44 (impl_Angle_44)

-- NOT PRINTED: function 45 (impl_Angle_45)

-- NOT PRINTED: function 46 (impl_Angle_46)

-- NOT PRINTED: function 36 (impl_Angle_36)

-- NOT PRINTED: function 31 (impl_Angle_31)

-- NOT PRINTED: function 23 (impl_Angle_23)

-- NOT PRINTED: function 24 (impl_Angle_24)

end Go.Proofs.Yteckdlmepgdlnaa.Q
