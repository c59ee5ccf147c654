-- By wip/hyb/hyb.py of this session, over the kit's print.py
import Derived.Test.YtnbaembdmfiimaaQx0
import Derived.Test.YtnbaembdmfiimaaQx31
namespace Go.Proofs.Ytnbaembdmfiimaa.Q
open Go.Proofs.YtnbaembdmfiimaaW.Ext
open Go.RowKit Go.Proofs.YtnbaembdmfiimaaW.PrintWords Go.Proofs.YtnbaembdmfiimaaW.PrintLast Go.Proofs.YtnbaembdmfiimaaW.PrintMore
attribute [local go_sem] max2_int min2_int max_two min_two max_three min_three max_four min_four   -- for this text's walks alone
set_option linter.unusedVariables false
set_option linter.unusedSimpArgs false

/-! ### impl_repeated: function 23 -/
def impl_repeated.f (a0 : ByteArray) (a1 : Int) : Option (ByteArray × Int) := if (a0.size : Int) = 0 then (none) else ((strings_Repeat.f a0 (wrap64 ((wrap64 (Int.tdiv a1 (a0.size : Int))) + 1))).bind fun t246 => (if 0 ≤ (wrap64 (a1 - 1)) then (if (wrap64 (a1 - 1)) ≤ (t246.size : Int) then (if (wrap64 (a1 - 1)) < (t246.size : Int) then (some (t246.extract 0 ((wrap64 (a1 - 1)) : Int).toNat, bt t246 (wrap64 (a1 - 1)))) else (none)) else (none)) else (none)))
set_option maxHeartbeats 8000000 in
set_option maxRecDepth 100000 in
theorem impl_repeated.calls (a0 : ByteArray) (a1 : Int) (r1 : ByteArray) (r2 : Int) (w : World) (h : impl_repeated.f a0 a1 = some (r1, r2)) :
    Calls Try.prog 23 #[.string a0, .int .i64 a1] w fun e w' => e = .returned (.tuple #[.string r1, .int .u8 r2]) ∧ Below w.heap.size w w' := by
  have HB := Aside0.mk (Below.refl w.heap.size w)
  have H : (if (a0.size : Int) = 0 then (none) else ((strings_Repeat.f a0 (wrap64 ((wrap64 (Int.tdiv a1 (a0.size : Int))) + 1))).bind fun t246 => (if 0 ≤ (wrap64 (a1 - 1)) then (if (wrap64 (a1 - 1)) ≤ (t246.size : Int) then (if (wrap64 (a1 - 1)) < (t246.size : Int) then (some (t246.extract 0 ((wrap64 (a1 - 1)) : Int).toNat, bt t246 (wrap64 (a1 - 1)))) else (none)) else (none)) else (none)))) = some (r1, r2) := h
  clear h
  by_cases c3 : (a0.size : Int) = 0
  · rw [if_pos c3] at H
    exact absurd H (by simp)
  · rw [if_neg c3] at H
    have c3b0 : ((a0.size : Int) == 0) = false := beq_eq_false_iff_ne.mpr c3
    have c3b1 : ((a0.size : Int) != 0) = true := bne_iff_ne.mpr c3
    replace H := Option.bind_eq_some_iff.mp H
    obtain ⟨t246, A40, H⟩ := H
    replace H : (if 0 ≤ (wrap64 (a1 - 1)) then (if (wrap64 (a1 - 1)) ≤ (t246.size : Int) then (if (wrap64 (a1 - 1)) < (t246.size : Int) then (some (t246.extract 0 ((wrap64 (a1 - 1)) : Int).toNat, bt t246 (wrap64 (a1 - 1)))) else (none)) else (none)) else (none)) = some (r1, r2) := H
    have A4 := Aside0.mk A40
    clear A40
    obtain ⟨ji5, hji5⟩ : ∃ j_ : Int, (wrap64 (a1 - 1)) = j_ := ⟨_, rfl⟩
    replace H : (if 0 ≤ (ji5) then (if (ji5) ≤ (t246.size : Int) then (if (ji5) < (t246.size : Int) then (some (t246.extract 0 ((ji5) : Int).toNat, bt t246 (ji5))) else (none)) else (none)) else (none)) = some (r1, r2) := by first | (rw [hji5] at H; exact H) | (simp only [hji5] at H ⊢; exact H)
    (try rw [hji5] at A4)
    have hji5w : (IntKind.i64.wrap (a1 - 1)) = ji5 := (i64_w _).trans hji5
    by_cases c6 : 0 ≤ (ji5)
    · rw [if_pos c6] at H
      have c6b0 := eq_true c6
      have c6b1 : decide (0 ≤ (ji5)) = true := decide_eq_true c6
      clear c6
      by_cases c7 : (ji5) ≤ (t246.size : Int)
      · rw [if_pos c7] at H
        have c7b0 := eq_true c7
        have c7b1 : decide ((ji5) ≤ (t246.size : Int)) = true := decide_eq_true c7
        clear c7
        by_cases c8 : (ji5) < (t246.size : Int)
        · rw [if_pos c8] at H
          have c8b0 : decide ((ji5) < (t246.size : Int)) = true := decide_eq_true c8
          clear c8
          simp only [Option.some.injEq, Prod.mk.injEq] at H
          obtain ⟨rfl, rfl⟩ := H
          go_enter Try.func23, Try.ntmps23
          go_wp2_with (first | (go_at_call 27; (with_reducible refine (strings_Repeat.calls a0 (wrap64 ((wrap64 (Int.tdiv a1 (a0.size : Int))) + 1)) t246 _ A4.out).mono ?_); rintro e w10 ⟨rfl, hb⟩; have n0_ := Aside0.mk (below_step (by repeat (first | (with_reducible first | exact HB.out | apply below_alloc | apply pw_below_drewN | apply below_drew1) | exact HB.out)) hb); clear HB; have HB := n0_; clear n0_; (try clear hb); (try clear hb2); (try clear hk); (try clear hi); have p9 : 0 ≤ ((ji5) : Int) := of_decide_eq_true (by first | (with_reducible assumption) | assumption); have q9 : (ji5) < (t246.size : Int) := of_decide_eq_true (by first | (with_reducible assumption) | assumption); have hx9 := bt_at t246 (ji5); replace p9 := eq_true p9; replace q9 := eq_true q9))
          repeat (go_quiet (first | (go_at_call 27; (with_reducible refine (strings_Repeat.calls a0 (wrap64 ((wrap64 (Int.tdiv a1 (a0.size : Int))) + 1)) t246 _ A4.out).mono ?_); rintro e w10 ⟨rfl, hb⟩; have n0_ := Aside0.mk (below_step (by repeat (first | (with_reducible first | exact HB.out | apply below_alloc | apply pw_below_drewN | apply below_drew1) | exact HB.out)) hb); clear HB; have HB := n0_; clear n0_; (try clear hb); (try clear hb2); (try clear hk); (try clear hi); have p9 : 0 ≤ ((ji5) : Int) := of_decide_eq_true (by first | (with_reducible assumption) | assumption); have q9 : (ji5) < (t246.size : Int) := of_decide_eq_true (by first | (with_reducible assumption) | assumption); have hx9 := bt_at t246 (ji5); replace p9 := eq_true p9; replace q9 := eq_true q9)); try go_wp2_with (first | (go_at_call 27; (with_reducible refine (strings_Repeat.calls a0 (wrap64 ((wrap64 (Int.tdiv a1 (a0.size : Int))) + 1)) t246 _ A4.out).mono ?_); rintro e w10 ⟨rfl, hb⟩; have n0_ := Aside0.mk (below_step (by repeat (first | (with_reducible first | exact HB.out | apply below_alloc | apply pw_below_drewN | apply below_drew1) | exact HB.out)) hb); clear HB; have HB := n0_; clear n0_; (try clear hb); (try clear hb2); (try clear hk); (try clear hi); have p9 : 0 ≤ ((ji5) : Int) := of_decide_eq_true (by first | (with_reducible assumption) | assumption); have q9 : (ji5) < (t246.size : Int) := of_decide_eq_true (by first | (with_reducible assumption) | assumption); have hx9 := bt_at t246 (ji5); replace p9 := eq_true p9; replace q9 := eq_true q9)))
          go_ret2
          exact ⟨by first | rfl | (simp [errW_none, errW_some] <;> rfl) | (simp only [← hji5]; first | rfl | (simp [errW_none, errW_some] <;> rfl)) | (simp [*, errW_none, errW_some] <;> rfl), by repeat (first | (with_reducible first | exact HB.out | apply below_alloc | apply pw_below_drewN | apply below_drew1) | exact HB.out)⟩
        · rw [if_neg c8] at H
          exact absurd H (by simp)
      · rw [if_neg c7] at H
        exact absurd H (by simp)
    · rw [if_neg c6] at H
      exact absurd H (by simp)

end Go.Proofs.Ytnbaembdmfiimaa.Q
