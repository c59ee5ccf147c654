/- Joined texts: Qx27, AngMath, Qx36, AngCore, AngCmp, AngOrder, AngLeaves, AngCross, AngCross3, LawSizesLL, PureFnExactIsLamination -/
import Derived.Test.YtngffoffjiofbaaPkFnExactIsLamination0
import Derived.Test.YtngffoffjiofbaaPkFnExactIsLamination1
import Derived.Test.YtngffoffjiofbaaPkFnExactIsLamination2
section
-- By wip/hyb/hyb.py of this session, over the kit's print.py
namespace Go.Proofs.Ytngffoffjiofbaa.Q
open Go.Proofs.YtngffoffjiofbaaW.Ext
open Go.RowKit Go.Proofs.YtngffoffjiofbaaW.PrintWords Go.Proofs.YtngffoffjiofbaaW.PrintLast Go.Proofs.YtngffoffjiofbaaW.PrintMore
attribute [local go_sem] max2_int min2_int max_two min_two max_three min_three max_four min_four   -- for this text's walks alone
set_option linter.unusedVariables false
set_option linter.unusedSimpArgs false

/-! ### laws_FnExactIsLamination: function 3 -/
def laws_FnExactIsLamination.f (k : Nat) (l0 : List (S58)) : Option (Bool) := (laws_szLeafS.f l0 1048576).bind fun t220 => (if t220 < 0 then (some true) else ((laws_toLeafS.f k l0).bind fun t221 => ((spec_IsLamination.f k t221).bind fun t224 => ((laws_toLeafS.f k l0).bind fun t225 => ((impl_IsLamination.f k t225).bind fun t228 => (if (t228 != t224) = true then (some false) else ((laws_toLeafS.f k l0).bind fun t229 => ((laws_eqLeafS.f k t225 t229).bind fun t232 => (if t232 = true then (some true) else (some false))))))))))
theorem laws_FnExactIsLamination.mono : ∀ a0 k, LeO (laws_FnExactIsLamination.f k a0) (laws_FnExactIsLamination.f (k + 1) a0) := by
  intro a0 k
  unfold laws_FnExactIsLamination.f
  repeat' first
      | (with_reducible exact impl_IsLamination.mono _ _)
      | (with_reducible exact laws_eqLeafS.mono _ _ _)
      | (with_reducible exact laws_toLeafS.mono _ _)
      | (with_reducible exact spec_IsLamination.mono _ _)
      | (with_reducible exact LeO.refl _)
      | (with_reducible exact LeO.none _)
      | (with_reducible refine LeO.ite ?_ ?_)
      | (with_reducible refine LeO.bind ?_ (fun _ => ?_))
      | exact impl_IsLamination.mono _ _
      | exact laws_eqLeafS.mono _ _ _
      | exact laws_toLeafS.mono _ _
      | exact spec_IsLamination.mono _ _
      | exact LeO.none _
      | refine LeO.ite ?_ ?_
      | refine LeO.bind ?_ (fun _ => ?_)
set_option maxHeartbeats 8000000 in
set_option maxRecDepth 100000 in
theorem laws_FnExactIsLamination.calls (k : Nat) (A0 : Option Addr) (c0 : Nat) (l0 : List (S58)) (r_ : Bool) (w : World) (hr0 : Kd.C k58 w A0 l0.length l0) (hc0 : l0.length ≤ c0) (h : laws_FnExactIsLamination.f k l0 = some true) :
    Calls Try.prog 3 #[.slice A0 l0.length c0] w fun e w' => e = .returned (.bool true) ∧ Below w.heap.size w w' := by
  have HR0 := Aside0.mk hr0
  have HC0 := Aside0.mk hc0
  clear hr0 hc0
  have HB := Aside0.mk (Below.refl w.heap.size w)
  have H : ((laws_szLeafS.f l0 1048576).bind fun t220 => (if t220 < 0 then (some true) else ((laws_toLeafS.f k l0).bind fun t221 => ((spec_IsLamination.f k t221).bind fun t224 => ((laws_toLeafS.f k l0).bind fun t225 => ((impl_IsLamination.f k t225).bind fun t228 => (if (t228 != t224) = true then (some false) else ((laws_toLeafS.f k l0).bind fun t229 => ((laws_eqLeafS.f k t225 t229).bind fun t232 => (if t232 = true then (some true) else (some false))))))))))) = some true := h
  clear h
  replace H := Option.bind_eq_some_iff.mp H
  obtain ⟨t220, A20, H⟩ := H
  replace H : (if t220 < 0 then (some true) else ((laws_toLeafS.f k l0).bind fun t221 => ((spec_IsLamination.f k t221).bind fun t224 => ((laws_toLeafS.f k l0).bind fun t225 => ((impl_IsLamination.f k t225).bind fun t228 => (if (t228 != t224) = true then (some false) else ((laws_toLeafS.f k l0).bind fun t229 => ((laws_eqLeafS.f k t225 t229).bind fun t232 => (if t232 = true then (some true) else (some false)))))))))) = some true := H
  have A2 := Aside0.mk A20
  clear A20
  by_cases c3 : t220 < 0
  · rw [if_pos c3] at H
    have c3b0 : decide (t220 < 0) = true := decide_eq_true c3
    clear c3
    clear H
    go_enter Try.func3, Try.ntmps3
    go_wp2_with (first | ((with_reducible refine gate_callee (f := 8) rfl ?_); refine goesL_ (some 9) rfl rfl Try.func8 (by kernel_rfl) rfl #[.slice A0 l0.length c0, .int .i64 1048576] rfl (by (try simp only [List.map_toArray, List.map_cons, List.map_nil]); first | done | rfl | (simp only [List.length_drop, List.length_take]; rfl)) ?_; (with_reducible refine (laws_szLeafS.calls _ _ l0 1048576 t220 _ ?side1 ?side2 A2.out).mono ?_); (case side1 => repeat (first | exact HR0.out | (with_reducible refine Kd.C_alloc ?_ _) | (with_reducible refine Kd.C_drewN ?_ _) | (with_reducible refine Kd.C_drew ?_))); (case side2 => exact HC0.out); rintro e w' ⟨rfl, ⟨nd, rfl⟩⟩; refine ⟨_, rfl, ?_⟩))
    go_ret
    exact ⟨by first | rfl | (simp [errW_none, errW_some] <;> rfl) | (simp [*, errW_none, errW_some] <;> rfl), by repeat (first | (with_reducible first | exact HB.out | apply below_alloc | apply pw_below_drewN | apply below_drew1) | exact HB.out)⟩
  · rw [if_neg c3] at H
    have c3b0 : decide (t220 < 0) = false := decide_eq_false c3
    clear c3
    replace H := Option.bind_eq_some_iff.mp H
    obtain ⟨t221, A40, H⟩ := H
    replace H : ((spec_IsLamination.f k t221).bind fun t224 => ((laws_toLeafS.f k l0).bind fun t225 => ((impl_IsLamination.f k t225).bind fun t228 => (if (t228 != t224) = true then (some false) else ((laws_toLeafS.f k l0).bind fun t229 => ((laws_eqLeafS.f k t225 t229).bind fun t232 => (if t232 = true then (some true) else (some false)))))))) = some true := H
    have A4 := Aside0.mk A40
    clear A40
    replace H := Option.bind_eq_some_iff.mp H
    obtain ⟨t224, A50, H⟩ := H
    replace H : ((laws_toLeafS.f k l0).bind fun t225 => ((impl_IsLamination.f k t225).bind fun t228 => (if (t228 != t224) = true then (some false) else ((laws_toLeafS.f k l0).bind fun t229 => ((laws_eqLeafS.f k t225 t229).bind fun t232 => (if t232 = true then (some true) else (some false))))))) = some true := H
    have A5 := Aside0.mk A50
    clear A50
    replace H := Option.bind_eq_some_iff.mp H
    obtain ⟨t225, A60, H⟩ := H
    replace H : ((impl_IsLamination.f k t225).bind fun t228 => (if (t228 != t224) = true then (some false) else ((laws_toLeafS.f k l0).bind fun t229 => ((laws_eqLeafS.f k t225 t229).bind fun t232 => (if t232 = true then (some true) else (some false)))))) = some true := H
    have A6 := Aside0.mk A60
    clear A60
    replace H := Option.bind_eq_some_iff.mp H
    obtain ⟨t228, A70, H⟩ := H
    replace H : (if (t228 != t224) = true then (some false) else ((laws_toLeafS.f k l0).bind fun t229 => ((laws_eqLeafS.f k t225 t229).bind fun t232 => (if t232 = true then (some true) else (some false))))) = some true := H
    have A7 := Aside0.mk A70
    clear A70
    by_cases c8 : (t228 != t224) = true
    · rw [if_pos c8] at H
      have c8b0 : (t228 != t224) = true := c8
      (try (have c8b1 : decide (t228 = t224) = false := by simpa using c8))
      (try (have c8b2 : (t228 == t224) = false := by simpa using c8))
      (try (have c8b3 : ¬ (t228 = t224) := by simpa using c8))
      clear c8
      exact absurd H (by simp)
    · rw [if_neg c8] at H
      have c8b0 : (t228 != t224) = false := by simpa using c8
      (try (have c8b1 : decide (t228 = t224) = true := by simpa using c8))
      (try (have c8b2 : (t228 == t224) = true := by simpa using c8))
      clear c8
      replace H := Option.bind_eq_some_iff.mp H
      obtain ⟨t229, A90, H⟩ := H
      replace H : ((laws_eqLeafS.f k t225 t229).bind fun t232 => (if t232 = true then (some true) else (some false))) = some true := H
      have A9 := Aside0.mk A90
      clear A90
      replace H := Option.bind_eq_some_iff.mp H
      obtain ⟨t232, A100, H⟩ := H
      replace H : (if t232 = true then (some true) else (some false)) = some true := H
      have A10 := Aside0.mk A100
      clear A100
      by_cases c11 : t232 = true
      · subst c11
        have H1 : (some true) = some true := by first | (rw [if_pos rfl] at H; exact H) | rfl
        clear H
        have H := H1
        clear H1
        clear H
        go_enter Try.func3, Try.ntmps3
        go_wp2_with (first | ((with_reducible refine gate_callee (f := 8) rfl ?_); refine goesL_ (some 9) rfl rfl Try.func8 (by kernel_rfl) rfl #[.slice A0 l0.length c0, .int .i64 1048576] rfl (by (try simp only [List.map_toArray, List.map_cons, List.map_nil]); first | done | rfl | (simp only [List.length_drop, List.length_take]; rfl)) ?_; (with_reducible refine (laws_szLeafS.calls _ _ l0 1048576 t220 _ ?side1 ?side2 A2.out).mono ?_); (case side1 => repeat (first | exact HR0.out | (with_reducible refine Kd.C_alloc ?_ _) | (with_reducible refine Kd.C_drewN ?_ _) | (with_reducible refine Kd.C_drew ?_))); (case side2 => exact HC0.out); rintro e w' ⟨rfl, ⟨nd, rfl⟩⟩; refine ⟨_, rfl, ?_⟩) | ((with_reducible refine gate_callee (f := 10) rfl ?_); refine goesL_ (some 13) rfl rfl Try.func10 (by kernel_rfl) rfl #[.slice A0 l0.length c0] rfl (by (try simp only [List.map_toArray, List.map_cons, List.map_nil]); first | done | rfl | (simp only [List.length_drop, List.length_take]; rfl)) ?_; (with_reducible refine (laws_toLeafS.calls k _ _ l0 t221 _ ?side1 ?side2 A4.out).mono ?_); (case side1 => repeat (first | exact HR0.out | (with_reducible refine Kd.C_alloc ?_ _) | (with_reducible refine Kd.C_drewN ?_ _) | (with_reducible refine Kd.C_drew ?_))); (case side2 => exact HC0.out); rintro e w12 ⟨v222, rfl, ho0, hb⟩; refine ⟨_, rfl, ?_⟩; have n0_ := Aside0.mk (Kd.R_lower ho0 (below_size (by repeat (first | (with_reducible first | exact HB.out | apply below_alloc | apply pw_below_drewN | apply below_drew1) | exact HB.out)))); have n1_ := Aside0.mk (below_step (by repeat (first | (with_reducible first | exact HB.out | apply below_alloc | apply pw_below_drewN | apply below_drew1) | exact HB.out)) hb); clear HB; have HO223 := n0_; have HB := n1_; clear n0_ n1_; (try clear hb); (try clear hb2); (try clear hk); (try clear hi); (try clear ho0); obtain ⟨Ao13, co13, eo13⟩ := Kd.R_slice HO223.out; subst eo13) | ((with_reducible refine gate_callee (f := 9) rfl ?_); refine goesL_ (some 14) rfl rfl Try.func9 (by kernel_rfl) rfl #[.slice Ao13 t221.length co13] rfl (by (try simp only [List.map_toArray, List.map_cons, List.map_nil]); first | done | rfl | (simp only [List.length_drop, List.length_take]; rfl)) ?_; (with_reducible refine (spec_IsLamination.calls k _ _ t221 t224 _ ?side1 ?side2 A5.out).mono ?_); (case side1 => repeat (first | exact (Kd.R_reads' HO223.out).2.2 | (with_reducible refine Kd.C_alloc ?_ _) | (with_reducible refine Kd.C_drewN ?_ _) | (with_reducible refine Kd.C_drew ?_))); (case side2 => exact (Kd.R_reads' HO223.out).2.1); rintro e w14 ⟨rfl, hb⟩; refine ⟨_, rfl, ?_⟩; have n0_ := Aside0.mk (Kd.R_below (by (with_reducible repeat (first | apply Kd.R_alloc | apply Kd.R_drewN | apply Kd.R_drew)); exact HO223.out) hb); have n1_ := Aside0.mk (below_step (by repeat (first | (with_reducible first | exact HB.out | apply below_alloc | apply pw_below_drewN | apply below_drew1) | exact HB.out)) hb); clear HO223; clear HB; have HO223 := n0_; have HB := n1_; clear n0_ n1_; (try clear hb); (try clear hb2); (try clear hk); (try clear hi)) | ((with_reducible refine gate_callee (f := 10) rfl ?_); refine goesL_ (some 16) rfl rfl Try.func10 (by kernel_rfl) rfl #[.slice A0 l0.length c0] rfl (by (try simp only [List.map_toArray, List.map_cons, List.map_nil]); first | done | rfl | (simp only [List.length_drop, List.length_take]; rfl)) ?_; (with_reducible refine (laws_toLeafS.calls k _ _ l0 t225 _ ?side1 ?side2 A6.out).mono ?_); (case side1 => repeat (first | exact (Kd.C_below HR0.out HB.out) | (with_reducible refine Kd.C_alloc ?_ _) | (with_reducible refine Kd.C_drewN ?_ _) | (with_reducible refine Kd.C_drew ?_))); (case side2 => exact HC0.out); rintro e w15 ⟨v226, rfl, ho0, hb⟩; refine ⟨_, rfl, ?_⟩; have n0_ := Aside0.mk (Kd.R_elder' (by (with_reducible repeat (first | apply Kd.R_alloc | apply Kd.R_drewN | apply Kd.R_drew)); exact HO223.out) (Kd.R_base ho0) hb); have n1_ := Aside0.mk (Kd.R_lower (Kd.R_new' ho0 (Kd.R_lt (by (with_reducible repeat (first | apply Kd.R_alloc | apply Kd.R_drewN | apply Kd.R_drew)); exact HO223.out))) (below_size (by repeat (first | (with_reducible first | exact HB.out | apply below_alloc | apply pw_below_drewN | apply below_drew1) | exact HB.out)))); have n2_ := Aside0.mk (below_step (by repeat (first | (with_reducible first | exact HB.out | apply below_alloc | apply pw_below_drewN | apply below_drew1) | exact HB.out)) hb); clear HO223; clear HB; have HO223 := n0_; have HO227 := n1_; have HB := n2_; clear n0_ n1_ n2_; (try clear hb); (try clear hb2); (try clear hk); (try clear hi); (try clear ho0); obtain ⟨Ao16, co16, eo16⟩ := Kd.R_slice HO227.out; subst eo16) | ((with_reducible refine gate_callee (f := 11) rfl ?_); refine goesL_ (some 18) rfl rfl Try.func11 (by kernel_rfl) rfl #[.slice Ao16 t225.length co16] rfl (by (try simp only [List.map_toArray, List.map_cons, List.map_nil]); first | done | rfl | (simp only [List.length_drop, List.length_take]; rfl)) ?_; (with_reducible refine (impl_IsLamination.calls k _ _ t225 t228 _ ?side1 ?side2 A7.out).mono ?_); (case side1 => repeat (first | exact (Kd.R_reads' HO227.out).2.2 | (with_reducible refine Kd.C_alloc ?_ _) | (with_reducible refine Kd.C_drewN ?_ _) | (with_reducible refine Kd.C_drew ?_))); (case side2 => exact (Kd.R_reads' HO227.out).2.1); rintro e w17 ⟨rfl, hb⟩; refine ⟨_, rfl, ?_⟩; have n0_ := Aside0.mk (Kd.R_below (by (with_reducible repeat (first | apply Kd.R_alloc | apply Kd.R_drewN | apply Kd.R_drew)); exact HO223.out) hb); have n1_ := Aside0.mk (Kd.R_below (by (with_reducible repeat (first | apply Kd.R_alloc | apply Kd.R_drewN | apply Kd.R_drew)); exact HO227.out) hb); have n2_ := Aside0.mk (below_step (by repeat (first | (with_reducible first | exact HB.out | apply below_alloc | apply pw_below_drewN | apply below_drew1) | exact HB.out)) hb); clear HO223; clear HO227; clear HB; have HO223 := n0_; have HO227 := n1_; have HB := n2_; clear n0_ n1_ n2_; (try clear hb); (try clear hb2); (try clear hk); (try clear hi)) | ((with_reducible refine gate_callee (f := 10) rfl ?_); refine goesL_ (some 24) rfl rfl Try.func10 (by kernel_rfl) rfl #[.slice A0 l0.length c0] rfl (by (try simp only [List.map_toArray, List.map_cons, List.map_nil]); first | done | rfl | (simp only [List.length_drop, List.length_take]; rfl)) ?_; (with_reducible refine (laws_toLeafS.calls k _ _ l0 t229 _ ?side1 ?side2 A9.out).mono ?_); (case side1 => repeat (first | exact (Kd.C_below HR0.out HB.out) | (with_reducible refine Kd.C_alloc ?_ _) | (with_reducible refine Kd.C_drewN ?_ _) | (with_reducible refine Kd.C_drew ?_))); (case side2 => exact HC0.out); rintro e w18 ⟨v230, rfl, ho0, hb⟩; refine ⟨_, rfl, ?_⟩; have n0_ := Aside0.mk (Kd.R_elder' (by (with_reducible repeat (first | apply Kd.R_alloc | apply Kd.R_drewN | apply Kd.R_drew)); exact HO223.out) (Kd.R_base ho0) hb); have n1_ := Aside0.mk (Kd.R_elder' (by (with_reducible repeat (first | apply Kd.R_alloc | apply Kd.R_drewN | apply Kd.R_drew)); exact HO227.out) (Kd.R_base ho0) hb); have n2_ := Aside0.mk (Kd.R_lower (Kd.R_new' (Kd.R_new' ho0 (Kd.R_lt (by (with_reducible repeat (first | apply Kd.R_alloc | apply Kd.R_drewN | apply Kd.R_drew)); exact HO223.out))) (Kd.R_lt (by (with_reducible repeat (first | apply Kd.R_alloc | apply Kd.R_drewN | apply Kd.R_drew)); exact HO227.out))) (below_size (by repeat (first | (with_reducible first | exact HB.out | apply below_alloc | apply pw_below_drewN | apply below_drew1) | exact HB.out)))); have n3_ := Aside0.mk (below_step (by repeat (first | (with_reducible first | exact HB.out | apply below_alloc | apply pw_below_drewN | apply below_drew1) | exact HB.out)) hb); clear HO223; clear HO227; clear HB; have HO223 := n0_; have HO227 := n1_; have HO231 := n2_; have HB := n3_; clear n0_ n1_ n2_ n3_; (try clear hb); (try clear hb2); (try clear hk); (try clear hi); (try clear ho0); obtain ⟨Ao19, co19, eo19⟩ := Kd.R_slice HO231.out; subst eo19) | ((with_reducible refine gate_callee (f := 12) rfl ?_); refine goesL_ (some 25) rfl rfl Try.func12 (by kernel_rfl) rfl #[.slice Ao16 t225.length co16, .slice Ao19 t229.length co19] rfl (by (try simp only [List.map_toArray, List.map_cons, List.map_nil]); first | done | rfl | (simp only [List.length_drop, List.length_take]; rfl)) ?_; (with_reducible refine (laws_eqLeafS.calls k _ _ t225 _ _ t229 true _ ?side1 ?side2 ?side3 ?side4 A10.out).mono ?_); (case side1 => repeat (first | exact (Kd.R_reads' HO227.out).2.2 | (with_reducible refine Kd.C_alloc ?_ _) | (with_reducible refine Kd.C_drewN ?_ _) | (with_reducible refine Kd.C_drew ?_))); (case side2 => exact (Kd.R_reads' HO227.out).2.1); (case side3 => repeat (first | exact (Kd.R_reads' HO231.out).2.2 | (with_reducible refine Kd.C_alloc ?_ _) | (with_reducible refine Kd.C_drewN ?_ _) | (with_reducible refine Kd.C_drew ?_))); (case side4 => exact (Kd.R_reads' HO231.out).2.1); rintro e w20 ⟨rfl, hb⟩; refine ⟨_, rfl, ?_⟩; have n0_ := Aside0.mk (Kd.R_below (by (with_reducible repeat (first | apply Kd.R_alloc | apply Kd.R_drewN | apply Kd.R_drew)); exact HO223.out) hb); have n1_ := Aside0.mk (Kd.R_below (by (with_reducible repeat (first | apply Kd.R_alloc | apply Kd.R_drewN | apply Kd.R_drew)); exact HO227.out) hb); have n2_ := Aside0.mk (Kd.R_below (by (with_reducible repeat (first | apply Kd.R_alloc | apply Kd.R_drewN | apply Kd.R_drew)); exact HO231.out) hb); have n3_ := Aside0.mk (below_step (by repeat (first | (with_reducible first | exact HB.out | apply below_alloc | apply pw_below_drewN | apply below_drew1) | exact HB.out)) hb); clear HO223; clear HO227; clear HO231; clear HB; have HO223 := n0_; have HO227 := n1_; have HO231 := n2_; have HB := n3_; clear n0_ n1_ n2_ n3_; (try clear hb); (try clear hb2); (try clear hk); (try clear hi)))
        go_ret
        exact ⟨by first | rfl | (simp [errW_none, errW_some] <;> rfl) | (simp [*, errW_none, errW_some] <;> rfl), by repeat (first | (with_reducible first | exact HB.out | apply below_alloc | apply pw_below_drewN | apply below_drew1) | exact HB.out)⟩
      · replace c11 := Bool.eq_false_iff.mpr c11
        subst c11
        have H1 : (some false) = some true := by first | (rw [if_neg (show ¬ (false = true) by decide)] at H; exact H) | rfl
        clear H
        have H := H1
        clear H1
        exact absurd H (by simp)

end Go.Proofs.Ytngffoffjiofbaa.Q
end
section
/- Angles as fractions in lowest terms: plain arithmetic, no program. -/
namespace Go.Proofs.Ytngffoffjiofbaa.Ang
/-- A part of a turn, without whole turns, in lowest terms. -/
def ang (n d : Int) : Int × Int := ((n % d) / Int.gcd (n % d) d, d / Int.gcd (n % d) d)
/-- Is it an angle. -/
def isA (n d : Int) : Bool := decide (1 ≤ d ∧ d ≤ 8191 ∧ 0 ≤ n ∧ n ≤ d - 1 ∧ Int.gcd n d = 1)
/-- Is it an angle but for the bound on its Den. -/
def wide (n d : Int) : Prop := 1 ≤ d ∧ 0 ≤ n ∧ n < d ∧ Int.gcd n d = 1

theorem isA_iff {n d : Int} : isA n d = true ↔ 1 ≤ d ∧ d ≤ 8191 ∧ 0 ≤ n ∧ n ≤ d - 1 ∧ Int.gcd n d = 1 := by simp [isA]
theorem isA_wide {n d : Int} (h : isA n d = true) : wide n d := by
  obtain ⟨a, b, c, e, f⟩ := isA_iff.1 h
  exact ⟨a, c, by omega, f⟩

theorem gcd_pos {n d : Int} (hd : 0 < d) : (0 : Int) < (Int.gcd n d : Int) := by
  have := Int.gcd_pos_iff.2 (show n ≠ 0 ∨ d ≠ 0 from .inr (by omega))
  omega
theorem gcd_le {n d : Int} (hd : 0 < d) : (Int.gcd n d : Int) ≤ d := by
  exact Int.le_of_dvd hd (Int.gcd_dvd_right _ _)

theorem ang_den_pos {n d : Int} (hd : 0 < d) : 0 < (ang n d).2 := by
  have h1 := gcd_pos (n := n % d) hd
  have h2 := gcd_le (n := n % d) hd
  exact Int.ediv_pos_of_pos_of_dvd hd (by omega) (Int.gcd_dvd_right _ _)

theorem ang_den_le {n d : Int} (hd : 0 < d) : (ang n d).2 ≤ d := Int.ediv_le_self _ (by omega)

/-- The two parts, times the divisor. -/
theorem ang_mul {n d : Int} (hd : 0 < d) : ∃ g : Int, 0 < g ∧ (ang n d).1 * g = n % d ∧ (ang n d).2 * g = d := by
  refine ⟨Int.gcd (n % d) d, gcd_pos hd, ?_, ?_⟩
  · exact Int.ediv_mul_cancel (Int.gcd_dvd_left _ _)
  · exact Int.ediv_mul_cancel (Int.gcd_dvd_right _ _)

theorem ang_wide {n d : Int} (hd : 0 < d) : wide (ang n d).1 (ang n d).2 := by
  obtain ⟨g, hg, h1, h2⟩ := ang_mul (n := n) hd
  have hn := Int.emod_nonneg n (show d ≠ 0 by omega)
  have hl := Int.emod_lt_of_pos n hd
  have hp := ang_den_pos (n := n) hd
  have hn0 : 0 ≤ (ang n d).1 := by
    unfold ang
    exact Int.ediv_nonneg hn (by omega)
  refine ⟨by omega, hn0, ?_, ?_⟩
  · have : (ang n d).1 * g < (ang n d).2 * g := by omega
    exact (Int.mul_lt_mul_right hg).1 this
  · unfold ang
    have hg2 := gcd_pos (n := n % d) hd
    rw [Int.gcd_ediv (Int.gcd_dvd_left _ _) (Int.gcd_dvd_right _ _), Int.natAbs_natCast]
    exact Nat.div_self (by omega)

/-- What is in lowest terms is told as it is. -/
theorem ang_self {n d : Int} (h : wide n d) : ang n d = (n, d) := by
  obtain ⟨h1, h2, h3, h4⟩ := h
  unfold ang
  rw [Int.emod_eq_of_lt h2 h3, h4]
  simp

/-- What two have in common falls away. -/
theorem ang_scale {g n d : Int} (hg : 0 < g) (hd : 0 < d) : ang (g * n) (g * d) = ang n d := by
  unfold ang
  rw [Int.mul_emod_mul_of_pos _ _ hg, Int.gcd_mul_left]
  have hgg := gcd_pos (n := n % d) hd
  have e : ((g.natAbs * Int.gcd (n % d) d : Nat) : Int) = g * (Int.gcd (n % d) d : Int) := by
    rw [Int.natCast_mul, Int.natAbs_of_nonneg (by omega)]
  rw [e, Int.mul_ediv_mul_of_pos _ _ hg, Int.mul_ediv_mul_of_pos _ _ hg]

theorem ang_emod {n d : Int} : ang (n % d) d = ang n d := by
  unfold ang
  rw [Int.emod_emod_of_dvd _ (Int.dvd_refl d)]

theorem ang_congr {n m d : Int} (h : n % d = m % d) : ang n d = ang m d := by
  unfold ang
  rw [h]

/-- Two in lowest terms of one size are one. -/
theorem wide_eq {a b c d : Int} (h : wide a b) (k : wide c d) (e : a * d = c * b) : a = c ∧ b = d := by
  have h1 := ang_self h
  have h2 := ang_self k
  have e1 : ang (d * a) (d * b) = (a, b) := by rw [ang_scale (by have := k.1; omega) (by have := h.1; omega), h1]
  have e2 : ang (b * c) (b * d) = (c, d) := by rw [ang_scale (by have := h.1; omega) (by have := k.1; omega), h2]
  rw [show d * a = b * c by rw [Int.mul_comm, e, Int.mul_comm], show d * b = b * d from Int.mul_comm _ _, e2] at e1
  simp only [Prod.mk.injEq] at e1
  exact ⟨e1.1.symm, e1.2.symm⟩

/-- Back from an angle forward: the angle that is lacking. -/
theorem ang_neg {n d : Int} (hd : 0 < d) : ang (-(ang n d).1) (ang n d).2 = ang (-n) d := by
  obtain ⟨g, hg, h1, h2⟩ := ang_mul (n := n) hd
  rw [← ang_scale hg (ang_den_pos hd)]
  have e1 : g * -(ang n d).1 = -(n % d) := by rw [← h1]; grind
  have e2 : g * (ang n d).2 = d := by rw [Int.mul_comm]; exact h2
  rw [e1, e2]
  apply ang_congr
  have := Int.emod_add_mul_ediv n d
  have e3 : -(n % d) = -n + d * (n / d) := by omega
  rw [e3, Int.add_mul_emod_self_left]

/-- Is the first less. -/
def lt (a b : Int × Int) : Prop := a.1 * b.2 < b.1 * a.2
instance (a b : Int × Int) : Decidable (lt a b) := by unfold lt; exact inferInstance

theorem lt_irrefl (a : Int × Int) : ¬ lt a a := by unfold lt; omega
theorem lt_asymm {a b : Int × Int} (h : lt a b) : ¬ lt b a := by unfold lt at *; omega
theorem lt_trans {a b c : Int × Int} (ha : 0 < a.2) (hb : 0 < b.2) (hc : 0 < c.2) (h : lt a b) (k : lt b c) : lt a c := by
  unfold lt at *
  have h1 : a.1 * b.2 * c.2 < b.1 * a.2 * c.2 := (Int.mul_lt_mul_right hc).2 h
  have h2 : b.1 * c.2 * a.2 < c.1 * b.2 * a.2 := (Int.mul_lt_mul_right ha).2 k
  have h3 : a.1 * c.2 * b.2 < c.1 * a.2 * b.2 := by
    have e1 : a.1 * c.2 * b.2 = a.1 * b.2 * c.2 := by grind
    have e2 : b.1 * a.2 * c.2 = b.1 * c.2 * a.2 := by grind
    have e3 : c.1 * a.2 * b.2 = c.1 * b.2 * a.2 := by grind
    omega
  exact (Int.mul_lt_mul_right hb).1 h3
theorem lt_or {a b : Int × Int} (ha : wide a.1 a.2) (hb : wide b.1 b.2) (h : a ≠ b) : lt a b ∨ lt b a := by
  unfold lt
  by_cases e : a.1 * b.2 = b.1 * a.2
  · obtain ⟨e1, e2⟩ := wide_eq ha hb e
    exact absurd (Prod.ext e1 e2) h
  · omega

/-- The angle from a forward to b. -/
def fwd (a b : Int × Int) : Int × Int := ang (b.1 * a.2 - a.1 * b.2) (b.2 * a.2)

/-- How far it is forward, in parts of the turn. -/
theorem fwd_val {a b : Int × Int} (ha : wide a.1 a.2) (hb : wide b.1 b.2) :
    (b.1 * a.2 - a.1 * b.2) % (b.2 * a.2) = b.1 * a.2 - a.1 * b.2 + (if lt b a then b.2 * a.2 else 0) := by
  obtain ⟨a1, a2, a3, _⟩ := ha
  obtain ⟨b1, b2, b3, _⟩ := hb
  have p1 : b.1 * a.2 < b.2 * a.2 := (Int.mul_lt_mul_right (by omega)).2 b3
  have p2 : a.1 * b.2 < b.2 * a.2 := by rw [Int.mul_comm b.2]; exact (Int.mul_lt_mul_right (by omega)).2 a3
  have p3 : 0 ≤ b.1 * a.2 := Int.mul_nonneg b2 (by omega)
  have p4 : 0 ≤ a.1 * b.2 := Int.mul_nonneg a2 (by omega)
  by_cases h : lt b a
  · rw [if_pos h]
    unfold lt at h
    rw [← Int.add_emod_right, Int.emod_eq_of_lt (by omega) (by omega)]
  · rw [if_neg h]
    unfold lt at h
    rw [Int.emod_eq_of_lt (by omega) (by omega)]
    omega

/-- Of two that differ from a and from each other, the one behind the other in the arc. -/
theorem fwd_lt {a b c : Int × Int} (ha : wide a.1 a.2) (hb : wide b.1 b.2) (hc : wide c.1 c.2) :
    lt (fwd a b) (fwd a c) ↔ (if lt b a then (if lt c a then lt b c else False) else (if lt c a then True else lt b c)) := by
  have A := ha.1; have B := hb.1; have C := hc.1
  have hba : 0 < b.2 * a.2 := Int.mul_pos (by omega) (by omega)
  have hca : 0 < c.2 * a.2 := Int.mul_pos (by omega) (by omega)
  obtain ⟨g, hg, g1, g2⟩ := ang_mul (n := b.1 * a.2 - a.1 * b.2) hba
  obtain ⟨h, hh, h1, h2⟩ := ang_mul (n := c.1 * a.2 - a.1 * c.2) hca
  rw [fwd_val ha hb] at g1
  rw [fwd_val ha hc] at h1
  have key : lt (fwd a b) (fwd a c) ↔ (b.1 * a.2 - a.1 * b.2 + (if lt b a then b.2 * a.2 else 0)) * (c.2 * a.2) < (c.1 * a.2 - a.1 * c.2 + (if lt c a then c.2 * a.2 else 0)) * (b.2 * a.2) := by
    have e0 : (fwd a b).1 * g = _ := g1
    have e1 : (fwd a b).2 * g = b.2 * a.2 := g2
    have e3 : (fwd a c).1 * h = _ := h1
    have e2 : (fwd a c).2 * h = c.2 * a.2 := h2
    rw [← e0, ← e3, ← e1, ← e2]
    unfold lt
    have f1 : (fwd a b).1 * g * ((fwd a c).2 * h) = (fwd a b).1 * (fwd a c).2 * (g * h) := by grind
    have f2 : (fwd a c).1 * h * ((fwd a b).2 * g) = (fwd a c).1 * (fwd a b).2 * (g * h) := by grind
    rw [f1, f2]
    exact (Int.mul_lt_mul_right (Int.mul_pos hg hh)).symm
  rw [key]
  have fac : ∀ (x y : Int), (b.1 * a.2 - a.1 * b.2 + x * (b.2 * a.2)) * (c.2 * a.2) < (c.1 * a.2 - a.1 * c.2 + y * (c.2 * a.2)) * (b.2 * a.2) ↔ b.1 * c.2 + x * (b.2 * c.2) < c.1 * b.2 + y * (b.2 * c.2) := by
    intro x y
    have f1 : (b.1 * a.2 - a.1 * b.2 + x * (b.2 * a.2)) * (c.2 * a.2) = (b.1 * c.2 + x * (b.2 * c.2)) * (a.2 * a.2) - a.1 * b.2 * (c.2 * a.2) := by grind
    have f2 : (c.1 * a.2 - a.1 * c.2 + y * (c.2 * a.2)) * (b.2 * a.2) = (c.1 * b.2 + y * (b.2 * c.2)) * (a.2 * a.2) - a.1 * b.2 * (c.2 * a.2) := by grind
    rw [f1, f2]
    have hp : 0 < a.2 * a.2 := Int.mul_pos (by omega) (by omega)
    have z := Int.mul_lt_mul_right (b := b.1 * c.2 + x * (b.2 * c.2)) (c := c.1 * b.2 + y * (b.2 * c.2)) hp
    omega
  have bc : 0 < b.2 * c.2 := Int.mul_pos (by omega) (by omega)
  have q1 : b.1 * c.2 < b.2 * c.2 := (Int.mul_lt_mul_right (by omega)).2 hb.2.2.1
  have q2 : c.1 * b.2 < b.2 * c.2 := by rw [Int.mul_comm b.2]; exact (Int.mul_lt_mul_right (by omega)).2 hc.2.2.1
  have q3 : 0 ≤ b.1 * c.2 := Int.mul_nonneg hb.2.1 (by omega)
  have q4 : 0 ≤ c.1 * b.2 := Int.mul_nonneg hc.2.1 (by omega)
  have ee : ∀ (p : Prop) [Decidable p] (z : Int), (if p then z else 0) = (if p then 1 else 0) * z := by
    intro p _ z
    split <;> simp
  rw [ee (lt b a), ee (lt c a), fac]
  by_cases u : lt b a <;> by_cases v : lt c a <;> simp only [u, v, if_true, if_false, iff_true, iff_false] <;> (try unfold lt) <;> omega

/-- Is x in the arc from a to b (as the document's reference has it). -/
def within (x a b : Int × Int) : Bool := if lt a b then decide (lt a x) && decide (lt x b) else decide (lt a x) || decide (lt x b)

/-- The cyclic order by what is forward, and by arcs. -/
theorem order_within {a b c : Int × Int} (ha : wide a.1 a.2) (hb : wide b.1 b.2) (hc : wide c.1 c.2) (hab : a ≠ b) (hbc : b ≠ c) (hac : a ≠ c) :
    decide (lt (fwd a b) (fwd a c)) = within b a c := by
  have h := fwd_lt ha hb hc
  have t1 := lt_or ha hb hab
  have t2 := lt_or hb hc hbc
  have t3 := lt_or ha hc hac
  have s1 : ¬ (lt a b ∧ lt b a) := fun z => lt_asymm z.1 z.2
  have s2 : ¬ (lt b c ∧ lt c b) := fun z => lt_asymm z.1 z.2
  have s3 : ¬ (lt a c ∧ lt c a) := fun z => lt_asymm z.1 z.2
  unfold within
  by_cases u : lt a b <;> by_cases v : lt b a <;> by_cases p : lt b c <;> by_cases q : lt c b <;> by_cases m : lt a c <;> by_cases n : lt c a <;> simp_all

theorem order_within_ne {a b c : Int × Int} (ha : wide a.1 a.2) (hb : wide b.1 b.2) (hc : wide c.1 c.2) (hac : a ≠ c) (h : within b a c = true) : a ≠ b ∧ b ≠ c := by
  unfold within at h
  have t3 := lt_or ha hc hac
  constructor
  · rintro rfl
    have := lt_irrefl a
    by_cases u : lt a c
    · simp [u, this] at h
    · simp [u, this] at h
  · rintro rfl
    have := lt_irrefl b
    by_cases u : lt a b
    · simp [u, this] at h
    · simp [u, this] at h

/-! A number that all dens divide: sizes as whole numbers. -/
theorem exists_mult : ∀ n : Nat, ∃ L : Int, 0 < L ∧ ∀ d : Int, 1 ≤ d → d ≤ n → d ∣ L
  | 0 => ⟨1, by omega, fun d h1 h2 => by omega⟩
  | n + 1 => by
    obtain ⟨L, hL, h⟩ := exists_mult n
    refine ⟨L * (n + 1 : Nat), Int.mul_pos hL (by omega), fun d h1 h2 => ?_⟩
    by_cases e : d = (n + 1 : Nat)
    · subst e
      exact Int.dvd_mul_left _ _
    · exact Int.dvd_trans (h d h1 (by omega)) (Int.dvd_mul_right _ _)
def denMax : Nat := 1152921504606846976
noncomputable def bigL : Int := Classical.choose (exists_mult denMax)
theorem bigL_pos : 0 < bigL := (Classical.choose_spec (exists_mult denMax)).1
theorem bigL_dvd {d : Int} (h1 : 1 ≤ d) (h2 : d ≤ denMax) : d ∣ bigL := (Classical.choose_spec (exists_mult denMax)).2 d h1 h2
/-- The size of an angle, as a whole number. -/
noncomputable def key (a : Int × Int) : Int := a.1 * (bigL / a.2)
theorem lt_key {a b : Int × Int} (ha : 1 ≤ a.2) (ha' : a.2 ≤ denMax) (hb : 1 ≤ b.2) (hb' : b.2 ≤ denMax) : lt a b ↔ key a < key b := by
  have h1 : bigL / a.2 * a.2 = bigL := Int.ediv_mul_cancel (bigL_dvd ha ha')
  have h2 : bigL / b.2 * b.2 = bigL := Int.ediv_mul_cancel (bigL_dvd hb hb')
  have hp : 0 < a.2 * b.2 := Int.mul_pos (by omega) (by omega)
  have z := Int.mul_lt_mul_right (b := key a) (c := key b) hp
  have e1 : key a * (a.2 * b.2) = (a.1 * b.2) * bigL := by unfold key; rw [← h1]; grind
  have e2 : key b * (a.2 * b.2) = (b.1 * a.2) * bigL := by unfold key; rw [← h2]; grind
  rw [e1, e2, Int.mul_lt_mul_right bigL_pos] at z
  exact z
theorem key_inj {a b : Int × Int} (ha : wide a.1 a.2) (ha' : a.2 ≤ denMax) (hb : wide b.1 b.2) (hb' : b.2 ≤ denMax) : key a = key b ↔ a = b := by
  constructor
  · intro h
    by_cases e : a = b
    · exact e
    · rcases lt_or ha hb e with z | z
      · rw [lt_key ha.1 ha' hb.1 hb'] at z; omega
      · rw [lt_key hb.1 hb' ha.1 ha'] at z; omega
  · rintro rfl; rfl

/-- Two leaves cross, asked from either one: in whole numbers. -/
theorem cross_int (P Q R S : Int) (h : P < Q) (k : R < S) :
    (((if P = R ∨ R = Q ∨ P = Q then (0:Int) else if (if P < Q then decide (P < R) && decide (R < Q) else decide (P < R) || decide (R < Q)) = true then 1 else -1) * (if P = S ∨ S = Q ∨ P = Q then (0:Int) else if (if P < Q then decide (P < S) && decide (S < Q) else decide (P < S) || decide (S < Q)) = true then 1 else -1)) == -1)
      = (if P = R ∨ P = S ∨ Q = R ∨ Q = S then false else ((if R < S then decide (R < P) && decide (P < S) else decide (R < P) || decide (P < S)) != (if R < S then decide (R < Q) && decide (Q < S) else decide (R < Q) || decide (Q < S)))) := by
  rcases Int.lt_trichotomy P R with a | a | a <;> rcases Int.lt_trichotomy P S with b | b | b <;> rcases Int.lt_trichotomy Q R with c | c | c <;> rcases Int.lt_trichotomy Q S with d | d | d <;> first | omega | (simp [h, k, a, b, c, d, Int.lt_asymm a, Int.lt_asymm b, Int.lt_asymm c, Int.lt_asymm d, Int.ne_of_lt]; done) | (simp_all; omega) | grind
end Go.Proofs.Ytngffoffjiofbaa.Ang
end
section
-- By wip/hyb/hyb.py of this session, over the kit's print.py
namespace Go.Proofs.Ytngffoffjiofbaa.Q
open Go.Proofs.YtngffoffjiofbaaW.Ext
open Go.RowKit Go.Proofs.YtngffoffjiofbaaW.PrintWords Go.Proofs.YtngffoffjiofbaaW.PrintLast Go.Proofs.YtngffoffjiofbaaW.PrintMore
attribute [local go_sem] max2_int min2_int max_two min_two max_three min_three max_four min_four   -- for this text's walks alone
set_option linter.unusedVariables false
set_option linter.unusedSimpArgs false

/-! ### areAll at Angle, and what it calls -/
set_option maxHeartbeats 1000000 in
theorem indexFunc_Angle.calls (g : Nat) (lb : Array Value) (eg : ∀ args w, (callFunc g args).run Try.prog w = .ok (.enter g args) w) (p : S51 → Option Bool) (A0 : Option Addr) (c0 : Nat) (l0 : List S51) (r : Int) (w : World)
    (hr0 : Kd.C k51 w A0 l0.length l0) (hc0 : l0.length ≤ c0)
    (hp : ∀ W x b, Below w.heap.size w W → p x = some b → Calls Try.prog g (#[.agg #[.int .i64 x.f0, .int .i64 x.f1]] ++ lb) W fun e w' => e = .returned (.bool b) ∧ Below W.heap.size W w')
    (h : idxGo p 0 l0 = some r) :
    Calls Try.prog 105 #[.slice A0 l0.length c0, .func (.func g) #[] lb] w fun e w' => e = .returned (.int .i64 r) ∧ Below w.heap.size w w' := by
  have hm := Kd.C_max hr0
  have HR := Aside0.mk hr0
  have H0 := Aside0.mk h
  have HP := Aside0.mk hp
  clear hr0 h hp
  go_enter Try.func105, Try.ntmps105
  go_wp2
  go_loopg [8] l0.length (fun gg i wr => ∃ k : Nat, k ≤ l0.length ∧ l0.length - k ≤ gg ∧ i = .int .i64 k ∧ Aside0 (idxGo p k (l0.drop k) = some r) ∧ Aside0 (Below w.heap.size w wr))
  case atStart => exact ⟨0, Nat.zero_le _, by omega, rfl, Aside0.mk (by simpa using H0.out), Aside0.mk (Below.refl _ _)⟩
  case round =>
    obtain ⟨k, hk, hg, rfl, HJ, HB⟩ := hrel
    clear H0
    by_cases hlt : k < l0.length
    · have hlti : (k : Int) < (l0.length : Int) := by omega
      obtain ⟨b, hb, hstep⟩ := idxGo_drop p l0 k k r hlt HJ.out
      obtain ⟨ad, e, e0, e1⟩ := at_T51 (Kd.C_below HR.out HB.out) (k : Int) (by omega) hlti
      have hx : rd_T51 l0 (k : Int) = l0[k] := by simp [rd_T51, hlt]
      rw [hx] at e0 e1
      simp only [Int.toNat_natCast] at e0 e1
      generalize l0[k] = x at hb e0 e1
      have hcall := HP.out wr x b HB.out hb
      subst e
      rcases hstep with ⟨rfl, rfl⟩ | ⟨rfl, hj⟩
      · have HC := Aside0.mk hcall
        have HB1 := HB.out
        clear hcall hb hx HP HJ
        go_wp2_with (go_at_fn g; refine HC.out.mono ?_; rintro e w' ⟨rfl, hb'⟩)
        go_ret
        exact ⟨rfl, HB1.trans (hb'.mono HB1.size)⟩
      · have HC := Aside0.mk hcall
        have HJ2 := Aside0.mk hj
        clear hcall hb hx hj
        go_wp2_with (go_at_fn g; refine HC.out.mono ?_; rintro e w' ⟨rfl, hb'⟩)
        go_roundg (l0.length - (k + 1))
        case measure => omega
        case rel => exact ⟨k + 1, by omega, by omega, by go_num, ⟨by simpa using HJ2.out⟩, ⟨HB.out.trans (hb'.mono HB.out.size)⟩⟩
    · have hlti : ¬ (k : Int) < (l0.length : Int) := by omega
      have hr : r = -1 := idxGo_end p l0 k k r (by omega) HJ.out
      have HR1 := Aside0.mk hr
      have HB1 := HB.out
      clear hr HP HJ
      go_wp2
      go_ret
      exact ⟨by rw [HR1.out]; rfl, HB1⟩
set_option maxHeartbeats 1000000 in
theorem containsFunc_Angle.calls (g : Nat) (lb : Array Value) (eg : ∀ args w, (callFunc g args).run Try.prog w = .ok (.enter g args) w) (p : S51 → Option Bool) (A0 : Option Addr) (c0 : Nat) (l0 : List S51) (r : Int) (w : World)
    (hr0 : Kd.C k51 w A0 l0.length l0) (hc0 : l0.length ≤ c0)
    (hp : ∀ W x b, Below w.heap.size w W → p x = some b → Calls Try.prog g (#[.agg #[.int .i64 x.f0, .int .i64 x.f1]] ++ lb) W fun e w' => e = .returned (.bool b) ∧ Below W.heap.size W w')
    (h : idxGo p 0 l0 = some r) :
    Calls Try.prog 102 #[.slice A0 l0.length c0, .func (.func g) #[] lb] w fun e w' => e = .returned (.bool (decide (0 ≤ r))) ∧ Below w.heap.size w w' := by
  have hcon := indexFunc_Angle.calls g lb eg p A0 c0 l0 r w hr0 hc0 hp h
  have HC := Aside0.mk hcon
  clear hcon hp h hr0
  go_enter Try.func102, Try.ntmps102
  go_wp2_with (go_at_call 105; refine HC.out.mono ?_; rintro e w' ⟨rfl, hb'⟩)
  go_ret
  exact ⟨rfl, hb'⟩
set_option maxHeartbeats 1000000 in
theorem notIs_Angle.calls (g : Nat) (eg : ∀ args w, (callFunc g args).run Try.prog w = .ok (.enter g args) w) (B : Nat) (w : World) (hcell : w.cell? ⟨B, 0, none⟩ = some (.func (.func g) #[] #[])) (hB : B < w.heap.size) (x : S51) (b : Bool)
    (hp : ∀ W, Below w.heap.size w W → Calls Try.prog g #[.agg #[.int .i64 x.f0, .int .i64 x.f1]] W fun e w' => e = .returned (.bool b) ∧ Below W.heap.size W w') :
    Calls Try.prog 103 #[.agg #[.int .i64 x.f0, .int .i64 x.f1], .pointer (some ⟨B, 0, none⟩)] w fun e w' => e = .returned (.bool (!b)) ∧ Below w.heap.size w w' := by
  have HP := Aside0.mk hp
  have hu := Try.underlying51
  clear hp
  go_enter Try.func103, Try.ntmps103
  go_wp2_with (go_at_fn g; refine (HP.out _ ((Below.refl _ _).alloc (Nat.le_refl _) _)).mono ?_; rintro e w' ⟨rfl, hb'⟩)
  go_ret
  exact ⟨rfl, ((Below.refl _ w).alloc (Nat.le_refl _) _).trans (hb'.mono (by simp))⟩
set_option maxHeartbeats 1000000 in
theorem areAll_Angle.calls (g : Nat) (eg : ∀ args w, (callFunc g args).run Try.prog w = .ok (.enter g args) w) (p : S51 → Option Bool) (A0 : Option Addr) (c0 : Nat) (l0 : List S51) (r : Bool) (w : World)
    (hr0 : Kd.C k51 w A0 l0.length l0) (hc0 : l0.length ≤ c0)
    (hp : ∀ W x b, Below w.heap.size w W → p x = some b → Calls Try.prog g #[.agg #[.int .i64 x.f0, .int .i64 x.f1]] W fun e w' => e = .returned (.bool b) ∧ Below W.heap.size W w')
    (h : allM p l0 = some r) :
    Calls Try.prog 83 #[.slice A0 l0.length c0, .func (.func g) #[] #[]] w fun e w' => e = .returned (.bool r) ∧ Below w.heap.size w w' := by
  obtain ⟨i, h1, h2⟩ := allM_idx p l0 0 r (by omega) h
  have hw1 : Below w.heap.size w (w.alloc (.cells #[.func (.func g) #[] #[]] 63)) := (Below.refl _ w).alloc (Nat.le_refl _) _
  have hcon := containsFunc_Angle.calls 103 #[.pointer (some ⟨w.heap.size, 0, none⟩)] (enters_of Try.func103 (by kernel_rfl) rfl)
    (fun x => (p x).map (fun b => !b)) A0 c0 l0 i (w.alloc (.cells #[.func (.func g) #[] #[]] 63)) (Kd.C_below hr0 hw1) hc0
    (fun W x b hW hx => by
      obtain ⟨q, hq, rfl⟩ := Option.map_eq_some_iff.1 hx
      have hcell : W.cell? ⟨w.heap.size, 0, none⟩ = some (.func (.func g) #[] #[]) := (hW.cell (p := ⟨w.heap.size, 0, none⟩) (by simp)).trans (by simp)
      exact notIs_Angle.calls g eg w.heap.size W hcell (by have := hW.size; simp at this; omega) x q (fun W' hW' => hp W' x q (hw1.trans ((hW.mono (by simp)).trans (hW'.mono (by have := hW.size; simp at this; omega)))) hq)) h1
  have HC := Aside0.mk hcon
  have H2 := Aside0.mk h2
  clear hcon hp h hr0 h1 h2
  go_enter Try.func83, Try.ntmps83
  go_wp2_with (go_at_call 102; refine HC.out.mono ?_; rintro e w' ⟨rfl, hb'⟩)
  go_ret
  exact ⟨by rw [H2.out]; simp, hw1.trans (hb'.mono (by simp))⟩

/-! ### impl_anglesCode: function 47 -/
def impl_anglesCode.f (k : Nat) (l0 : List S51) : Option Int := (allM (fun x => impl_IsAngle.f k x.f0 x.f1) l0).bind fun b => some (if b = true then 0 else 1)
theorem impl_anglesCode.mono : ∀ a0 k, LeO (impl_anglesCode.f k a0) (impl_anglesCode.f (k + 1) a0) := by
  intro l k r h
  unfold impl_anglesCode.f at h ⊢
  cases hb : allM (fun x : S51 => impl_IsAngle.f k x.f0 x.f1) l with
  | none => rw [hb] at h; simp at h
  | some b =>
    rw [hb] at h
    rw [allM_mono (q := fun x : S51 => impl_IsAngle.f (k + 1) x.f0 x.f1) (fun x => impl_IsAngle.mono _ _ k) l b hb]
    exact h
set_option maxHeartbeats 1000000 in
theorem impl_anglesCode.calls (k : Nat) (A0 : Option Addr) (c0 : Nat) (l0 : List S51) (r : Int) (w : World) (hr0 : Kd.C k51 w A0 l0.length l0) (hc0 : l0.length ≤ c0) (h : impl_anglesCode.f k l0 = some r) :
    Calls Try.prog 47 #[.slice A0 l0.length c0] w fun e w' => e = .returned (.int .i64 r) ∧ Below w.heap.size w w' := by
  unfold impl_anglesCode.f at h
  obtain ⟨b, hb, hr⟩ := Option.bind_eq_some_iff.1 h
  have hcon := areAll_Angle.calls 74 (enters_of Try.func74 (by kernel_rfl) rfl) (fun x : S51 => impl_IsAngle.f k x.f0 x.f1) A0 c0 l0 b w hr0 hc0
    (fun W x q _ hx => (impl_IsAngle.calls k _ _ q W hx).mono fun e w' ⟨he, hd⟩ => ⟨he, by first | exact hd | exact hd.below⟩) hb
  have HR := Aside0.mk hr
  clear h hr hb hr0
  cases b with
  | true =>
    go_enter Try.func47, Try.ntmps47
    go_wp2_with (go_at_call 83; refine hcon.mono ?_; rintro e w' ⟨rfl, hb'⟩)
    go_ret
    have hr := HR.out
    simp at hr
    subst hr
    exact ⟨rfl, hb'⟩
  | false =>
    go_enter Try.func47, Try.ntmps47
    go_wp2_with (go_at_call 83; refine hcon.mono ?_; rintro e w' ⟨rfl, hb'⟩)
    go_ret
    have hr := HR.out
    simp at hr
    subst hr
    exact ⟨rfl, hb'⟩

end Go.Proofs.Ytngffoffjiofbaa.Q
end
section
/- What the printed functions on one angle answer: from some number of rounds on, the plain values of AngMath. -/
namespace Go.Proofs.Ytngffoffjiofbaa.Q
open Go.RowKit Go.Proofs.YtngffoffjiofbaaW.PrintWords Go.Proofs.YtngffoffjiofbaaW.PrintLast Go.Proofs.YtngffoffjiofbaaW.Ext Go.Proofs.Ytngffoffjiofbaa.Ang
set_option linter.unusedVariables false

/-- A whole number that fits. -/
theorem wrap_in {x : Int} (h0 : -9223372036854775808 ≤ x) (h1 : x ≤ 9223372036854775807) : wrap64 x = x := by unfold wrap64; omega

theorem ev_if {α : Type} {c : Prop} [Decidable c] {f g : Nat → Option α} {r : α} (h1 : c → Ev f r) (h2 : ¬ c → Ev g r) : Ev (fun k => if c then f k else g k) r := by
  by_cases h : c
  · simp only [if_pos h]; exact h1 h
  · simp only [if_neg h]; exact h2 h

theorem ev_impl_divisor : ∀ (n m : Nat), Ev (fun k => impl_divisor.f k (m : Int) (n : Int)) ((Nat.gcd m n : Nat) : Int) := by
  intro n
  induction n using Nat.strongRecOn with
  | _ n ih =>
    intro m
    refine Ev.step (f := fun k => if (n : Int) = 0 then (some (m : Int)) else impl_divisor.f k (n : Int) (Int.tmod (m : Int) (n : Int))) (fun k => rfl) ?_
    refine ev_if (fun h => ?_) (fun h => ?_)
    · have : n = 0 := by omega
      subst this
      rw [Nat.gcd_zero_right]
      exact Ev.now _
    · have hn : 0 < n := by omega
      have e : Int.tmod (m : Int) (n : Int) = ((m % n : Nat) : Int) := by
        rw [Int.tmod_eq_emod_of_nonneg (by omega)]
        omega
      rw [e]
      have := ih (m % n) (Nat.mod_lt _ hn) n
      rw [show Nat.gcd m n = Nat.gcd n (m % n) by rw [Nat.gcd_comm m n, Nat.gcd_rec n m, Nat.gcd_comm]]
      exact this

theorem ev_spec_divisor : ∀ (n m : Nat), Ev (fun k => spec_l01Divisor.f k (m : Int) (n : Int)) ((Nat.gcd m n : Nat) : Int) := by
  intro n
  induction n using Nat.strongRecOn with
  | _ n ih =>
    intro m
    refine Ev.step (f := fun k => if (n : Int) > 0 then (if (n : Int) = 0 then none else spec_l01Divisor.f k (n : Int) (Int.tmod (m : Int) (n : Int))) else some (m : Int)) (fun k => rfl) ?_
    refine ev_if (fun h => ?_) (fun h => ?_)
    · have hn : 0 < n := by omega
      have e : Int.tmod (m : Int) (n : Int) = ((m % n : Nat) : Int) := by
        rw [Int.tmod_eq_emod_of_nonneg (by omega)]
        omega
      simp only [if_neg (show ¬ (n : Int) = 0 by omega)]
      rw [e]
      have := ih (m % n) (Nat.mod_lt _ hn) n
      rw [show Nat.gcd m n = Nat.gcd n (m % n) by rw [Nat.gcd_comm m n, Nat.gcd_rec n m, Nat.gcd_comm]]
      exact this
    · have : n = 0 := by omega
      subst this
      rw [Nat.gcd_zero_right]
      exact Ev.now _

theorem ev_impl_gcd {a b : Int} (ha : 0 ≤ a) (hb : 0 ≤ b) : Ev (fun k => impl_divisor.f k a b) (Int.gcd a b : Int) := by
  obtain ⟨m, rfl⟩ := Int.eq_ofNat_of_zero_le ha
  obtain ⟨n, rfl⟩ := Int.eq_ofNat_of_zero_le hb
  exact ev_impl_divisor n m
theorem ev_spec_gcd {a b : Int} (ha : 0 ≤ a) (hb : 0 ≤ b) : Ev (fun k => spec_l01Divisor.f k a b) (Int.gcd a b : Int) := by
  obtain ⟨m, rfl⟩ := Int.eq_ofNat_of_zero_le ha
  obtain ⟨n, rfl⟩ := Int.eq_ofNat_of_zero_le hb
  exact ev_spec_divisor n m

theorem ev_impl_IsAngle (n d : Int) : Ev (fun k => impl_IsAngle.f k n d) (isA n d) := by
  unfold impl_IsAngle.f impl_within.f isA
  by_cases h1 : 1 ≤ d
  · by_cases h2 : d ≤ 8191
    · simp only [if_pos h1, decide_eq_true h2, Option.bind_some, if_true]
      rw [wrap_in (show -9223372036854775808 ≤ d - 1 by omega) (by omega)]
      by_cases h3 : 0 ≤ n
      · by_cases h4 : n ≤ d - 1
        · simp only [if_pos h3, decide_eq_true h4, Option.bind_some, if_true]
          refine Ev.bind (ev_impl_gcd (by omega) (by omega)) ?_
          have e : ((Int.gcd d n : Int) == 1) = decide (1 ≤ d ∧ d ≤ 8191 ∧ 0 ≤ n ∧ n ≤ d - 1 ∧ Int.gcd n d = 1) := by
            rw [Int.gcd_comm d n, Bool.eq_iff_iff]
            simp [h1, h2, h3, h4]
            omega
          simp only [e]
          exact Ev.now _
        · simp only [if_pos h3, decide_eq_false h4, Option.bind_some]
          simp [h4]
          exact Ev.now _
      · simp only [if_neg h3, Option.bind_some]
        simp [h3]
        exact Ev.now _
    · simp only [if_pos h1, decide_eq_false h2, Option.bind_some]
      simp [h2]
      exact Ev.now _
  · simp only [if_neg h1, Option.bind_some]
    simp [h1]
    exact Ev.now _

theorem ev_spec_Is (n d : Int) : Ev (fun k => spec_l01Is.f k n d) (isA n d) := by
  unfold spec_l01Is.f spec_l01In.f isA
  by_cases h1 : 1 ≤ d
  · by_cases h2 : d ≤ 8191
    · simp only [ge_iff_le, if_pos h1, decide_eq_true h2, Option.bind_some, if_true]
      rw [wrap_in (show -9223372036854775808 ≤ d - 1 by omega) (by omega)]
      by_cases h3 : 0 ≤ n
      · by_cases h4 : n ≤ d - 1
        · simp only [if_pos h3, decide_eq_true h4, Option.bind_some, if_true]
          refine Ev.bind (ev_spec_gcd (by omega) (by omega)) ?_
          have e : ((Int.gcd n d : Int) == 1) = decide (1 ≤ d ∧ d ≤ 8191 ∧ 0 ≤ n ∧ n ≤ d - 1 ∧ Int.gcd n d = 1) := by
            rw [Bool.eq_iff_iff]
            simp [h1, h2, h3, h4]
            omega
          simp only [e]
          exact Ev.now _
        · simp only [if_pos h3, decide_eq_false h4, Option.bind_some]
          simp [h4]
          exact Ev.now _
      · simp only [if_neg h3, Option.bind_some]
        simp [h3]
        exact Ev.now _
    · simp only [ge_iff_le, if_pos h1, decide_eq_false h2, Option.bind_some]
      simp [h2]
      exact Ev.now _
  · simp only [ge_iff_le, if_neg h1, Option.bind_some]
    simp [h1]
    exact Ev.now _

theorem tmod_turn {n d : Int} (hd : 0 < d) : Int.tmod (Int.tmod n d + d) d = n % d := by
  have h0 : 0 ≤ Int.tmod n d + d := by
    have := Int.lt_tmod_of_pos n hd
    omega
  rw [Int.tmod_eq_emod_of_nonneg h0, Int.add_emod_right]
  by_cases h : 0 ≤ n
  · rw [Int.tmod_eq_emod_of_nonneg h, Int.emod_emod_of_dvd _ (Int.dvd_refl d)]
  · obtain ⟨m, rfl⟩ : ∃ m, n = -m := ⟨-n, by omega⟩
    rw [Int.neg_tmod, Int.tmod_eq_emod_of_nonneg (by omega)]
    have e := Int.emod_add_mul_ediv m d
    have e3 : -(m % d) = -m + d * (m / d) := by omega
    rw [e3, Int.add_mul_emod_self_left]

theorem ang_fst (n d : Int) : (ang n d).1 = (n % d) / Int.gcd (n % d) d := rfl
theorem ang_snd (n d : Int) : (ang n d).2 = d / Int.gcd (n % d) d := rfl
theorem pair_eq (p : Int × Int) : (p.1, p.2) = p := rfl

theorem ev_impl_angle {n d : Int} (hd : 0 < d) (hd' : d ≤ 4611686018427387904) : Ev (fun k => impl_angle.f k n d) (ang n d) := by
  have t1 := Int.lt_tmod_of_pos n hd
  have t2 := Int.tmod_lt_of_pos n hd
  have m0 := Int.emod_nonneg n (show d ≠ 0 by omega)
  have m1 := Int.emod_lt_of_pos n hd
  have hg := gcd_pos (n := n % d) hd
  have w := ang_wide (n := n) hd
  have wd := ang_den_le (n := n) hd
  unfold impl_angle.f
  simp only [if_neg (show ¬ d = 0 by omega)]
  rw [wrap_in (show -9223372036854775808 ≤ Int.tmod n d + d by omega) (by omega), tmod_turn hd]
  refine Ev.bind (ev_impl_gcd (by omega) m0) ?_
  rw [Int.gcd_comm d]
  simp only [if_neg (show ¬ (Int.gcd (n % d) d : Int) = 0 by omega)]
  rw [Int.tdiv_eq_ediv_of_nonneg m0, Int.tdiv_eq_ediv_of_nonneg (by omega), ← ang_fst, ← ang_snd, wrap_in (by have := w.2.1; omega) (by have := w.2.2.1; omega), wrap_in (by have := w.1; omega) (by omega)]
  exact Ev.now _

theorem ev_spec_Of {n d : Int} (hd : 0 < d) (hd' : d ≤ 4611686018427387904) : Ev (fun k => spec_l01Of.f k n d) (ang n d) := by
  have t1 := Int.lt_tmod_of_pos n hd
  have t2 := Int.tmod_lt_of_pos n hd
  have m0 := Int.emod_nonneg n (show d ≠ 0 by omega)
  have m1 := Int.emod_lt_of_pos n hd
  have hg := gcd_pos (n := n % d) hd
  have w := ang_wide (n := n) hd
  have wd := ang_den_le (n := n) hd
  unfold spec_l01Of.f
  simp only [if_neg (show ¬ d = 0 by omega)]
  rw [wrap_in (show -9223372036854775808 ≤ Int.tmod n d + d by omega) (by omega), tmod_turn hd]
  refine Ev.bind (ev_spec_gcd m0 (by omega)) ?_
  simp only [if_neg (show ¬ (Int.gcd (n % d) d : Int) = 0 by omega)]
  rw [Int.tdiv_eq_ediv_of_nonneg m0, Int.tdiv_eq_ediv_of_nonneg (by omega), ← ang_fst, ← ang_snd, wrap_in (by have := w.2.1; omega) (by have := w.2.2.1; omega), wrap_in (by have := w.1; omega) (by omega)]
  exact Ev.now _

/-- All of a list are angles. -/
def allA (l : List S51) : Bool := l.all fun x => isA x.f0 x.f1
theorem ev_allM (l : List S51) : Ev (fun k => allM (fun x : S51 => impl_IsAngle.f k x.f0 x.f1) l) (allA l) := by
  induction l with
  | nil => exact Ev.now _
  | cons x xs ih =>
    unfold allM
    refine Ev.bind (ev_impl_IsAngle x.f0 x.f1) ?_
    unfold allA
    rw [List.all_cons]
    cases isA x.f0 x.f1 with
    | true => simpa [allA] using ih
    | false => simpa using Ev.now false
theorem ev_anglesCode (l : List S51) : Ev (fun k => impl_anglesCode.f k l) (if allA l = true then 0 else 1) := by
  unfold impl_anglesCode.f
  exact Ev.bind (ev_allM l) (Ev.now _)

theorem eqAngle_same (a b : Int) : laws_eqAngle.f a b a b = some true := by simp [laws_eqAngle.f]
end Go.Proofs.Ytngffoffjiofbaa.Q
end
section
/- Comparing angles, cyclic orders and arcs: the printed functions' plain values. -/
namespace Go.Proofs.Ytngffoffjiofbaa.Q
open Go.RowKit Go.Proofs.YtngffoffjiofbaaW.PrintWords Go.Proofs.YtngffoffjiofbaaW.PrintLast Go.Proofs.YtngffoffjiofbaaW.Ext Go.Proofs.Ytngffoffjiofbaa.Ang
set_option linter.unusedVariables false

/-- What is small enough for products: Nums and Dens below 2^31. -/
def small (n d : Int) : Prop := 0 ≤ n ∧ n ≤ 2147483648 ∧ 1 ≤ d ∧ d ≤ 2147483648
theorem isA_small {n d : Int} (h : isA n d = true) : small n d := by
  obtain ⟨a, b, c, e, _⟩ := isA_iff.1 h
  exact ⟨by omega, by omega, by omega, by omega⟩
theorem mul_in {x y : Int} (h0 : 0 ≤ x) (h1 : x ≤ 2147483648) (h2 : 0 ≤ y) (h3 : y ≤ 2147483648) : 0 ≤ x * y ∧ x * y ≤ 4611686018427387904 := by
  have a : 0 ≤ x * y := Int.mul_nonneg h0 h2
  have b : x * y ≤ 2147483648 * y := Int.mul_le_mul_of_nonneg_right h1 h2
  omega
theorem less_val {a b c d : Int} (h : small a b) (k : small c d) : spec_l01Less.f a b c d = some (decide (lt (a, b) (c, d))) := by
  obtain ⟨h1, h2, h3, h4⟩ := h
  obtain ⟨k1, k2, k3, k4⟩ := k
  have p := mul_in h1 h2 (show 0 ≤ d by omega) k4
  have q := mul_in k1 k2 (show 0 ≤ b by omega) h4
  unfold spec_l01Less.f lt
  rw [wrap_in (by omega) (by omega), wrap_in (by omega) (by omega)]
/-- -1, 0 or 1. -/
def cmpA (a b : Int × Int) : Int := if lt a b then -1 else if lt b a then 1 else 0
theorem compare_val {a b c d : Int} (h : small a b) (k : small c d) : impl_Angle_compare.f a b c d = some (cmpA (a, b) (c, d)) := by
  obtain ⟨h1, h2, h3, h4⟩ := h
  obtain ⟨k1, k2, k3, k4⟩ := k
  have p := mul_in h1 h2 (show 0 ≤ d by omega) k4
  have q := mul_in k1 k2 (show 0 ≤ b by omega) h4
  unfold impl_Angle_compare.f cmp_Compare_int64.f cmp_isNaN_int64.f cmpA lt
  rw [wrap_in (by omega) (by omega), wrap_in (by omega) (by omega)]
  simp
  by_cases e1 : a * d < c * b
  · simp [e1]
  · by_cases e2 : c * b < a * d
    · simp [e1, e2]
    · simp [e1, e2]
theorem cmpA_neg {a b : Int × Int} : cmpA a b < 0 ↔ lt a b := by
  unfold cmpA
  by_cases h : lt a b
  · simp [h]
  · by_cases k : lt b a <;> simp [h, k]
theorem cmpA_pos {a b : Int × Int} : cmpA a b > 0 ↔ lt b a := by
  unfold cmpA
  by_cases h : lt a b
  · have := lt_asymm h
    simp [h, this]
  · by_cases k : lt b a <;> simp [h, k]
theorem eq_pair {a b c d : Int} : (a == c && (b == d)) = decide ((a, b) = (c, d)) := by
  rw [Bool.eq_iff_iff]; simp
end Go.Proofs.Ytngffoffjiofbaa.Q
end
section
/- Cyclic orders and arcs: the printed functions' plain values. -/
namespace Go.Proofs.Ytngffoffjiofbaa.Q
open Go.RowKit Go.Proofs.YtngffoffjiofbaaW.PrintWords Go.Proofs.YtngffoffjiofbaaW.PrintLast Go.Proofs.YtngffoffjiofbaaW.Ext Go.Proofs.Ytngffoffjiofbaa.Ang
set_option linter.unusedVariables false

theorem within_val {x1 x2 a1 a2 b1 b2 : Int} (hx : small x1 x2) (ha : small a1 a2) (hb : small b1 b2) : spec_l01Within.f x1 x2 a1 a2 b1 b2 = some (within (x1, x2) (a1, a2) (b1, b2)) := by
  unfold spec_l01Within.f within
  rw [less_val ha hb, less_val ha hx, less_val hx hb]
  by_cases h : lt (a1, a2) (b1, b2) <;> by_cases k : lt (a1, a2) (x1, x2) <;> simp [h, k]

/-- Nums and Dens of angles. -/
theorem prod_in {a b : Int} (h0 : 0 ≤ a) (h1 : a ≤ 8191) (h2 : 0 ≤ b) (h3 : b ≤ 8191) : 0 ≤ a * b ∧ a * b ≤ 67092481 := by
  have x : 0 ≤ a * b := Int.mul_nonneg h0 h2
  have y : a * b ≤ 8191 * b := Int.mul_le_mul_of_nonneg_right h1 h2
  omega
/-- From b forward to a. -/
theorem ev_minus {a1 a2 b1 b2 : Int} (ha : isA a1 a2 = true) (hb : isA b1 b2 = true) : Ev (fun k => impl_Angle_minus.f k a1 a2 b1 b2) (fwd (b1, b2) (a1, a2)) := by
  obtain ⟨h1, h2, h3, h4, _⟩ := isA_iff.1 ha
  obtain ⟨k1, k2, k3, k4, _⟩ := isA_iff.1 hb
  have p1 := prod_in h3 (show a1 ≤ 8191 by omega) (show 0 ≤ b2 by omega) k2
  have p2 := prod_in k3 (show b1 ≤ 8191 by omega) (show 0 ≤ a2 by omega) h2
  have p3 := prod_in (show 0 ≤ a2 by omega) h2 (show 0 ≤ b2 by omega) k2
  have p4 : 0 < a2 * b2 := Int.mul_pos (by omega) (by omega)
  unfold impl_Angle_minus.f
  rw [wrap_in (x := a1 * b2) (by omega) (by omega), wrap_in (x := b1 * a2) (by omega) (by omega), wrap_in (x := a1 * b2 - b1 * a2) (by omega) (by omega), wrap_in (x := a2 * b2) (by omega) (by omega)]
  exact Ev.bind (ev_impl_angle p4 (by omega)) (Ev.now _)
theorem fwd_small {a1 a2 b1 b2 : Int} (ha : isA a1 a2 = true) (hb : isA b1 b2 = true) : small (fwd (b1, b2) (a1, a2)).1 (fwd (b1, b2) (a1, a2)).2 := by
  obtain ⟨h1, h2, h3, h4, _⟩ := isA_iff.1 ha
  obtain ⟨k1, k2, k3, k4, _⟩ := isA_iff.1 hb
  have p3 := prod_in (show 0 ≤ a2 by omega) h2 (show 0 ≤ b2 by omega) k2
  have p4 : 0 < a2 * b2 := Int.mul_pos (by omega) (by omega)
  have w := ang_wide (n := a1 * b2 - b1 * a2) p4
  have l := ang_den_le (n := a1 * b2 - b1 * a2) p4
  have e : fwd (b1, b2) (a1, a2) = ang (a1 * b2 - b1 * a2) (a2 * b2) := rfl
  rw [e]
  exact ⟨w.2.1, by have := w.2.2.1; omega, w.1, by omega⟩
/-- The cyclic order: 0 if two are equal, 1 if b is in the arc from a to c, else -1. -/
def ordV (a b c : Int × Int) : Int := if a = b ∨ b = c ∨ a = c then 0 else if within b a c = true then 1 else -1
theorem ev_order {a1 a2 b1 b2 c1 c2 : Int} (ha : isA a1 a2 = true) (hb : isA b1 b2 = true) (hc : isA c1 c2 = true) : Ev (fun k => impl_order.f k a1 a2 b1 b2 c1 c2) (ordV (a1, a2) (b1, b2) (c1, c2)) := by
  unfold impl_order.f
  simp only [eq_pair, decide_eq_true_eq]
  have zero : ∀ r : Int, r = 0 → Ev (fun k => impl_order.j0 k true a1 a2 b1 b2 c1 c2) r := fun r hr => Ev.step (f := fun _ => some 0) (fun k => by simp [impl_order.j0]) (hr ▸ Ev.now _)
  unfold ordV
  refine ev_if (fun h => zero _ (by simp only [h, true_or, if_true])) (fun h1 => ?_)
  refine ev_if (fun h => zero _ (by simp only [h, true_or, or_true, if_true])) (fun h2 => ?_)
  by_cases h3 : (a1, a2) = (c1, c2)
  · simp only [decide_eq_true h3]
    exact zero _ (by simp only [h3, or_true, if_true])
  · simp only [decide_eq_false h3]
    rw [if_neg (by simp only [h1, h2, h3, or_self, not_false_eq_true])]
    refine Ev.step (f := fun k => (impl_Angle_minus.f k b1 b2 a1 a2).bind fun x => (impl_Angle_minus.f k c1 c2 a1 a2).bind fun y => (impl_Angle_compare.f x.1 x.2 y.1 y.2).bind fun t => if t < 0 then some 1 else some (-1)) (fun k => by simp [impl_order.j0]) ?_
    refine Ev.bind (ev_minus hb ha) ?_
    refine Ev.bind (ev_minus hc ha) ?_
    simp only [compare_val (fwd_small hb ha) (fwd_small hc ha), Option.bind_some]
    have e := order_within (isA_wide ha) (isA_wide hb) (isA_wide hc) h1 h2 h3
    have e2 : (cmpA ((fwd (a1, a2) (b1, b2)).1, (fwd (a1, a2) (b1, b2)).2) ((fwd (a1, a2) (c1, c2)).1, (fwd (a1, a2) (c1, c2)).2) < 0) ↔ within (b1, b2) (a1, a2) (c1, c2) = true := by
      rw [cmpA_neg, ← e]
      simp
    by_cases h : within (b1, b2) (a1, a2) (c1, c2) = true
    · simp only [if_pos (e2.2 h), if_pos h]
      exact Ev.now _
    · simp only [if_neg (fun z => h (e2.1 z)), if_neg h]
      exact Ev.now _
end Go.Proofs.Ytngffoffjiofbaa.Q
end
section
/- Leaves, and whether they cross: the printed functions' plain values. -/
namespace Go.Proofs.Ytngffoffjiofbaa.Q
open Go.RowKit Go.Proofs.YtngffoffjiofbaaW.PrintWords Go.Proofs.YtngffoffjiofbaaW.PrintLast Go.Proofs.YtngffoffjiofbaaW.Ext Go.Proofs.Ytngffoffjiofbaa.Ang
set_option linter.unusedVariables false

/-- Is it a leaf. -/
def isL (a b c d : Int) : Bool := isA a b && isA c d && decide (lt (a, b) (c, d))
theorem isL_iff {a b c d : Int} : isL a b c d = true ↔ isA a b = true ∧ isA c d = true ∧ lt (a, b) (c, d) := by
  unfold isL
  simp [and_assoc]
theorem ev_spec_l03Is (a b c d : Int) : Ev (fun k => spec_l03Is.f k a b c d) (isL a b c d) := by
  unfold spec_l03Is.f isL
  refine Ev.bind (ev_spec_Is a b) ?_
  cases h : isA a b with
  | false => simp; exact Ev.now _
  | true =>
    simp only [if_true, Bool.true_and]
    refine Ev.bind (ev_spec_Is c d) ?_
    cases k : isA c d with
    | false => simp; exact Ev.now _
    | true => simp only [if_true, Bool.true_and, less_val (isA_small h) (isA_small k), Option.bind_some]; exact Ev.now _
theorem ev_impl_IsLeaf (a b c d : Int) : Ev (fun k => impl_IsLeaf.f k a b c d) (isL a b c d) := by
  unfold impl_IsLeaf.f isL
  refine Ev.bind (ev_impl_IsAngle a b) ?_
  cases h : isA a b with
  | false => simp; exact Ev.now _
  | true =>
    simp only [if_true, Bool.true_and]
    refine Ev.bind (ev_impl_IsAngle c d) ?_
    cases k : isA c d with
    | false => simp; exact Ev.now _
    | true => simp only [if_true, Bool.true_and, compare_val (isA_small h) (isA_small k), Option.bind_some, cmpA_neg]; exact Ev.now _
end Go.Proofs.Ytngffoffjiofbaa.Q
end
section
/- Whether two leaves cross: the two ways to ask answer alike. -/
namespace Go.Proofs.Ytngffoffjiofbaa.Q
open Go.RowKit Go.Proofs.YtngffoffjiofbaaW.PrintWords Go.Proofs.YtngffoffjiofbaaW.PrintLast Go.Proofs.YtngffoffjiofbaaW.Ext Go.Proofs.Ytngffoffjiofbaa.Ang
set_option linter.unusedVariables false
set_option linter.unusedSimpArgs false

theorem isA_den {n d : Int} (h : isA n d = true) : d ≤ denMax := by
  obtain ⟨a, b, _⟩ := isA_iff.1 h
  unfold denMax
  omega
/-- Do two leaves cross, as the reference asks. -/
def crossV (p q r s : Int × Int) : Bool := if p = r ∨ p = s ∨ q = r ∨ q = s then false else within p r s != within q r s
theorem lt_keyA {a b : Int × Int} (ha : isA a.1 a.2 = true) (hb : isA b.1 b.2 = true) : lt a b ↔ key a < key b := lt_key (isA_wide ha).1 (isA_den ha) (isA_wide hb).1 (isA_den hb)
theorem eq_keyA {a b : Int × Int} (ha : isA a.1 a.2 = true) (hb : isA b.1 b.2 = true) : a = b ↔ key a = key b := (key_inj (isA_wide ha) (isA_den ha) (isA_wide hb) (isA_den hb)).symm
theorem cross_eq {p q r s : Int × Int} (hp : isA p.1 p.2 = true) (hq : isA q.1 q.2 = true) (hr : isA r.1 r.2 = true) (hs : isA s.1 s.2 = true) (h : lt p q) (k : lt r s) :
    (ordV p r q * ordV p s q == -1) = crossV p q r s := by
  have z := cross_int (key p) (key q) (key r) (key s) ((lt_keyA hp hq).1 h) ((lt_keyA hr hs).1 k)
  unfold ordV crossV within
  simp only [lt_keyA hp hq, lt_keyA hp hr, lt_keyA hp hs, lt_keyA hr hq, lt_keyA hs hq, lt_keyA hr hs, lt_keyA hr hp, lt_keyA hs hp, lt_keyA hq hr, lt_keyA hq hs, eq_keyA hp hq, eq_keyA hp hr, eq_keyA hp hs, eq_keyA hr hq, eq_keyA hs hq, eq_keyA hr hs, eq_keyA hr hp, eq_keyA hs hp, eq_keyA hq hr, eq_keyA hq hs]
  exact z
theorem ordV_small (a b c : Int × Int) : -1 ≤ ordV a b c ∧ ordV a b c ≤ 1 := by
  unfold ordV
  split
  · omega
  · split <;> omega
theorem ev_impl_cross {p1 p2 q1 q2 r1 r2 s1 s2 : Int} (hp : isA p1 p2 = true) (hq : isA q1 q2 = true) (hr : isA r1 r2 = true) (hs : isA s1 s2 = true) (h : lt (p1, p2) (q1, q2)) (k : lt (r1, r2) (s1, s2)) :
    Ev (fun n => impl_Leaf_cross.f n p1 p2 q1 q2 r1 r2 s1 s2) (crossV (p1, p2) (q1, q2) (r1, r2) (s1, s2)) := by
  unfold impl_Leaf_cross.f
  refine Ev.bind (ev_order hp hr hq) ?_
  refine Ev.bind (ev_order hp hs hq) ?_
  rw [← cross_eq hp hq hr hs h k]
  have b1 := ordV_small (p1, p2) (r1, r2) (q1, q2)
  have b2 := ordV_small (p1, p2) (s1, s2) (q1, q2)
  have e : wrap64 (ordV (p1, p2) (r1, r2) (q1, q2) * ordV (p1, p2) (s1, s2) (q1, q2)) = ordV (p1, p2) (r1, r2) (q1, q2) * ordV (p1, p2) (s1, s2) (q1, q2) := by
    generalize ordV (p1, p2) (r1, r2) (q1, q2) = x at *
    generalize ordV (p1, p2) (s1, s2) (q1, q2) = y at *
    have hx : x = -1 ∨ x = 0 ∨ x = 1 := by omega
    have hy : y = -1 ∨ y = 0 ∨ y = 1 := by omega
    rcases hx with rfl | rfl | rfl <;> rcases hy with rfl | rfl | rfl <;> exact wrap_in (by decide) (by decide)
  rw [e]
  exact Ev.now _
end Go.Proofs.Ytngffoffjiofbaa.Q
end
section
/- Whether two leaves cross: the reference's plain value. -/
namespace Go.Proofs.Ytngffoffjiofbaa.Q
open Go.RowKit Go.Proofs.YtngffoffjiofbaaW.PrintWords Go.Proofs.YtngffoffjiofbaaW.PrintLast Go.Proofs.YtngffoffjiofbaaW.Ext Go.Proofs.Ytngffoffjiofbaa.Ang
set_option linter.unusedVariables false
set_option linter.unusedSimpArgs false

theorem ev_spec_cross {p1 p2 q1 q2 r1 r2 s1 s2 : Int} (hp : isA p1 p2 = true) (hq : isA q1 q2 = true) (hr : isA r1 r2 = true) (hs : isA s1 s2 = true) :
    Ev (fun n => spec_l03Cross.f n p1 p2 q1 q2 r1 r2 s1 s2) (crossV (p1, p2) (q1, q2) (r1, r2) (s1, s2)) := by
  unfold spec_l03Cross.f
  simp only [eq_pair, decide_eq_true_eq]
  have zero : (((p1, p2) = (r1, r2)) ∨ ((p1, p2) = (s1, s2)) ∨ ((q1, q2) = (r1, r2)) ∨ ((q1, q2) = (s1, s2))) → Ev (fun n => spec_l03Cross.j0 n true p1 p2 q1 q2 r1 r2 s1 s2) (crossV (p1, p2) (q1, q2) (r1, r2) (s1, s2)) := fun z => by
    unfold crossV
    rw [if_pos z]
    exact Ev.step (f := fun _ => some false) (fun k => by simp [spec_l03Cross.j0]) (Ev.now _)
  refine ev_if (fun h => zero (.inl h)) (fun h1 => ?_)
  refine ev_if (fun h => zero (.inr (.inl h))) (fun h2 => ?_)
  refine ev_if (fun h => zero (.inr (.inr (.inl h)))) (fun h3 => ?_)
  by_cases h4 : (q1, q2) = (s1, s2)
  · simp only [decide_eq_true h4]
    exact zero (.inr (.inr (.inr h4)))
  · simp only [decide_eq_false h4]
    unfold crossV
    rw [if_neg (by simp only [h1, h2, h3, h4, or_self, not_false_eq_true])]
    exact Ev.step (f := fun _ => some (within (p1, p2) (r1, r2) (s1, s2) != within (q1, q2) (r1, r2) (s1, s2))) (fun k => by simp [spec_l03Cross.j0, within_val (isA_small hp) (isA_small hr) (isA_small hs), within_val (isA_small hq) (isA_small hr) (isA_small hs)]) (Ev.now _)
end Go.Proofs.Ytngffoffjiofbaa.Q
end
section
/- What the laws ask of lists of leaves that came in: their sizes, and copies of them. -/
namespace Go.Proofs.Ytngffoffjiofbaa.Q
open Go.RowKit Go.Proofs.YtngffoffjiofbaaW.PrintWords Go.Proofs.YtngffoffjiofbaaW.PrintLast Go.Proofs.YtngffoffjiofbaaW.Ext Go.Proofs.Ytngffoffjiofbaa.Ang
set_option linter.unusedVariables false
set_option linter.unusedSimpArgs false

theorem eqLeaf_same (a b c d : Int) : laws_eqLeaf.f a b c d a b c d = some true := by simp [laws_eqLeaf.f, laws_eqAngle.f]

theorem rdF_at (pre rest : List S55) (x : S55) : rd_T55 (pre ++ x :: rest) (pre.length : Int) = x := by simp [rd_T55]
theorem rdLF_at (pre rest : List S58) (x : S58) : rd_T58 (pre ++ x :: rest) (pre.length : Int) = x := by simp [rd_T58]
theorem setF_at {α : Type} (pre rest : List α) (x y : α) : (pre ++ x :: rest).set pre.length y = pre ++ y :: rest := by simp
theorem ev_eqLeaves (l : List S55) (hl : l.length ≤ 1099511627776) : Ev (fun k => laws_eqLeafS.f k l l) true := by
  unfold laws_eqLeafS.f
  simp only [if_true]
  have key : ∀ (rest pre : List S55), (pre ++ rest).length ≤ 1099511627776 → Ev (fun k => laws_eqLeafS.l0 k (pre ++ rest) (pre ++ rest) (pre.length : Int)) true := by
    intro rest
    induction rest with
    | nil =>
      intro pre _
      exact Ev.step (f := fun _ => some true) (fun k => by simp [laws_eqLeafS.l0]) (Ev.now _)
    | cons x xs ih =>
      intro pre hp
      have hlen : (pre.length : Int) < ((pre ++ x :: xs).length : Int) := by simp <;> omega
      have hp2 : (pre.length : Int) ≤ 1099511627776 := by simp at hp; omega
      refine Ev.step (f := fun k => laws_eqLeafS.l0 k (pre ++ x :: xs) (pre ++ x :: xs) ((pre ++ [x]).length : Int)) (fun k => ?_) ?_
      · rw [laws_eqLeafS.l0, if_pos hlen, if_pos (by omega), if_pos hlen, rdF_at, eqLeaf_same]
        simp only [Option.bind_some, if_true]
        rw [wrap_in (by omega) (by omega)]
        simp
      · have := ih (pre ++ [x]) (by simpa using hp)
        simpa using this
  simpa using key l [] (by simpa using hl)
/-- The same leaves, as the program has them. -/
def cpF (l : List S58) : List S55 := l.map fun x => ⟨⟨x.f0.f0, x.f0.f1⟩, ⟨x.f1.f0, x.f1.f1⟩⟩
theorem cpF_length (l : List S58) : (cpF l).length = l.length := by simp [cpF]
theorem ev_toLeaves (l : List S58) (hl : l.length ≤ 1048576) : Ev (fun k => laws_toLeafS.f k l) (cpF l) := by
  unfold laws_toLeafS.f
  simp only [Int.toNat_natCast]
  simp only [if_pos (show (0 : Int) ≤ (l.length : Int) by omega), if_pos (show l.length ≤ 8796093022208 by omega), if_pos (show l.length ≤ 17592186044416 by omega)]
  have key : ∀ (rest pre : List S58), (pre ++ rest).length ≤ 1048576 →
      Ev (fun k => laws_toLeafS.l0 k (pre ++ rest) (cpF pre ++ List.replicate rest.length z55) (pre.length : Int)) (cpF (pre ++ rest)) := by
    intro rest
    induction rest with
    | nil =>
      intro pre _
      exact Ev.step (f := fun _ => some (cpF (pre ++ []))) (fun k => by simp [laws_toLeafS.l0, cpF]) (Ev.now _)
    | cons x xs ih =>
      intro pre hp
      have hlen : (pre.length : Int) < ((pre ++ x :: xs).length : Int) := by simp <;> omega
      have hp2 : (pre.length : Int) ≤ 1048576 := by simp at hp; omega
      refine Ev.step (f := fun k => laws_toLeafS.l0 k ((pre ++ [x]) ++ xs) (cpF (pre ++ [x]) ++ List.replicate xs.length z55) ((pre ++ [x]).length : Int)) (fun k => ?_) ?_
      · have hl2 : (pre.length : Int) < ((cpF pre ++ List.replicate (x :: xs).length z55).length : Int) := by simp [cpF] <;> omega
        rw [laws_toLeafS.l0, if_pos hlen, if_pos (by omega), rdLF_at]
        simp only [laws_toLeaf.f, laws_toAngle.f, Option.bind_some]
        rw [if_pos hl2, wrap_in (by omega) (by omega)]
        have e : (cpF pre ++ List.replicate (x :: xs).length z55).set pre.length ⟨⟨x.f0.f0, x.f0.f1⟩, ⟨x.f1.f0, x.f1.f1⟩⟩ = cpF (pre ++ [x]) ++ List.replicate xs.length z55 := by
          have h := setF_at (cpF pre) (List.replicate xs.length z55) z55 (⟨⟨x.f0.f0, x.f0.f1⟩, ⟨x.f1.f0, x.f1.f1⟩⟩ : S55)
          rw [cpF_length] at h
          rw [List.length_cons, List.replicate_succ, h]
          simp [cpF]
        rw [Int.toNat_natCast, e]
        simp
      · have := ih (pre ++ [x]) (by simpa using hp)
        simpa using this
  simpa [cpF] using key l [] (by simpa using hl)
theorem szF_frame {l : List S58} {g : Nat → Option Bool} (hm : l.length ≤ 9223372036854775807) (h : l.length ≤ 1048576 → Ev g true) :
    Ev (fun k => (laws_szLeafS.f l 1048576).bind fun t => if t < 0 then some true else g k) true := by
  unfold laws_szLeafS.f
  rw [wrap_in (by omega) (by omega)]
  by_cases hl : (1048576 : Int) - (l.length : Int) < 0
  · rw [if_pos hl]
    simp
    exact Ev.now _
  · rw [if_neg hl]
    simp only [Option.bind_some, if_neg hl]
    exact h (by omega)
end Go.Proofs.Ytngffoffjiofbaa.Q
end
section
/- HYPS: no list is longer than Go's longest. The pure statement of FnExactIsLamination: both say whether a list is a lamination. -/
namespace Go.Proofs.Ytngffoffjiofbaa.Q
open Go.RowKit Go.Proofs.YtngffoffjiofbaaW.PrintWords Go.Proofs.YtngffoffjiofbaaW.PrintLast Go.Proofs.YtngffoffjiofbaaW.Ext Go.Proofs.Ytngffoffjiofbaa.Ang
set_option linter.unusedVariables false
set_option linter.unusedSimpArgs false

abbrev LF := S55
abbrev fsA (x : LF) : Int × Int := (x.f0.f0, x.f0.f1)
abbrev snA (x : LF) : Int × Int := (x.f1.f0, x.f1.f1)
def isX (x : LF) : Bool := isL x.f0.f0 x.f0.f1 x.f1.f0 x.f1.f1
def lessX (x y : LF) : Bool := if fsA x = fsA y then decide (lt (snA x) (snA y)) else decide (lt (fsA x) (fsA y))
def crossX (x y : LF) : Bool := crossV (fsA x) (snA x) (fsA y) (snA y)
theorem isX_iff {x : LF} : isX x = true ↔ isA x.f0.f0 x.f0.f1 = true ∧ isA x.f1.f0 x.f1.f1 = true ∧ lt (fsA x) (snA x) := isL_iff
theorem lessX_val {x y : LF} (hx : isX x = true) (hy : isX y = true) : spec_l03Less.f x.f0.f0 x.f0.f1 x.f1.f0 x.f1.f1 y.f0.f0 y.f0.f1 y.f1.f0 y.f1.f1 = some (lessX x y) := by
  obtain ⟨a1, a2, a3⟩ := isX_iff.1 hx
  obtain ⟨b1, b2, b3⟩ := isX_iff.1 hy
  unfold spec_l03Less.f lessX
  rw [less_val (isA_small a1) (isA_small b1), less_val (isA_small a2) (isA_small b2)]
  by_cases h : fsA x = fsA y
  · have h' := h
    simp only [Prod.mk.injEq] at h'
    rw [if_neg (by simp [h'.1, h'.2]), if_pos h]
    rfl
  · have h' := h
    simp only [Prod.mk.injEq] at h'
    rw [if_pos (by simp; by_cases z : x.f0.f0 = y.f0.f0 <;> simp_all), if_neg h]
    rfl
theorem ev_or (a b : Int) : Ev (fun k => cmp_Or_int.f k [a, b]) (if a = 0 then b else a) := by
  refine Ev.of (fun k => cmp_Or_int.mono _ k) (k := 4) ?_
  by_cases h : a = 0
  · by_cases h2 : b = 0
    · simp [cmp_Or_int.f, cmp_Or_int.l0, rd, h, h2, wrap64]
    · simp [cmp_Or_int.f, cmp_Or_int.l0, rd, h, h2, wrap64]
  · simp [cmp_Or_int.f, cmp_Or_int.l0, rd, h, wrap64]
theorem ev_compareX {x y : LF} (hx : isX x = true) (hy : isX y = true) : ∃ c : Int, (c ≥ 0 ↔ lessX x y = false) ∧ Ev (fun k => impl_Leaf_compare.f k x.f0.f0 x.f0.f1 x.f1.f0 x.f1.f1 y.f0.f0 y.f0.f1 y.f1.f0 y.f1.f1) c := by
  obtain ⟨a1, a2, a3⟩ := isX_iff.1 hx
  obtain ⟨b1, b2, b3⟩ := isX_iff.1 hy
  refine ⟨if cmpA (fsA x) (fsA y) = 0 then cmpA (snA x) (snA y) else cmpA (fsA x) (fsA y), ?_, ?_⟩
  · unfold lessX
    by_cases h : fsA x = fsA y
    · have z : cmpA (fsA x) (fsA y) = 0 := by rw [h]; unfold cmpA; simp [lt_irrefl]
      rw [if_pos h, if_pos z]
      have := @cmpA_neg (snA x) (snA y)
      simp only [decide_eq_false_iff_not, ← this]
      omega
    · have z : cmpA (fsA x) (fsA y) ≠ 0 := by
        unfold cmpA
        rcases lt_or (isA_wide a1) (isA_wide b1) h with q | q
        · simp [q]
        · have := lt_asymm q
          simp [q, this]
      rw [if_neg h, if_neg z]
      have := @cmpA_neg (fsA x) (fsA y)
      simp only [decide_eq_false_iff_not, ← this]
      omega
  · unfold impl_Leaf_compare.f
    rw [compare_val (isA_small a1) (isA_small b1), compare_val (isA_small a2) (isA_small b2)]
    simp only [Option.bind_some]
    exact Ev.bind (ev_or _ _) (Ev.now _)
theorem ev_anyM {α : Type} {p : Nat → α → Option Bool} {q : α → Bool} : ∀ l : List α, (∀ x ∈ l, Ev (fun k => p k x) (q x)) → Ev (fun k => anyM (p k) l) (l.any q)
  | [], _ => Ev.now _
  | x :: xs, h => by
    unfold anyM
    refine Ev.bind (h x (by simp)) ?_
    rw [List.any_cons]
    cases q x with
    | true => simp; exact Ev.now _
    | false => simpa using ev_anyM xs fun y hy => h y (by simp [hy])
/-- From place i on: each is a leaf, behind the one ahead of it, and crosses none ahead of it. -/
def laV (l : List LF) : Nat → Nat → Bool
  | 0, _ => true
  | d + 1, i => if isX (rd_T55 l (i : Int)) = true then (if 0 < i ∧ lessX (rd_T55 l ((i - 1 : Nat) : Int)) (rd_T55 l (i : Int)) = false then false else if ((l.take i).any fun y => crossX (rd_T55 l (i : Int)) y) = true then false else laV l d (i + 1)) else false
theorem rdF_get (l : List LF) (i : Nat) (h : i < l.length) : rd_T55 l (i : Int) = l[i] := by simp [rd_T55, h]
theorem laV_all (l : List LF) : ∀ d i, i + d = l.length → laV l d i = true → ∀ j, i ≤ j → (h : j < l.length) → isX l[j] = true := by
  intro d
  induction d with
  | zero => intro i h _ j hj hl; omega
  | succ d ih =>
    intro i h hv j hj hl
    unfold laV at hv
    rw [rdF_get l i (by omega)] at hv
    cases hx : isX l[i] with
    | false => rw [hx] at hv; simp at hv
    | true =>
      rw [hx, if_pos rfl] at hv
      by_cases hji : j = i
      · subst hji; exact hx
      · refine ih (i + 1) (by omega) ?_ j (by omega) hl
        split at hv
        · cases hv
        · split at hv
          · cases hv
          · exact hv
theorem ev_spec_in (l : List LF) (hl : l.length ≤ 200) {i : Nat} (hi : i < l.length) (hx : ∀ j, (h : j < l.length) → j ≤ i → isX l[j] = true) {r : Bool} (hr : Ev (fun k => spec_l03Lamination.l0 k l ((i + 1 : Nat) : Int)) r) :
    ∀ d j, j + d = i → Ev (fun k => spec_l03Lamination.l1 k l (i : Int) (j : Int)) (if (((l.take i).drop j).any fun y => crossX (rd_T55 l (i : Int)) y) = true then false else r) := by
  intro d
  induction d with
  | zero =>
    intro j h
    rw [List.drop_of_length_le (by simp; omega)]
    refine Ev.step (f := fun k => spec_l03Lamination.l0 k l ((i + 1 : Nat) : Int)) (fun k => ?_) (by simpa using hr)
    rw [spec_l03Lamination.l1, if_neg (by omega), wrap_in (by omega) (by omega)]
    simp
  | succ d ih =>
    intro j h
    have e : (l.take i).drop j = l[j] :: (l.take i).drop (j + 1) := by
      rw [List.drop_eq_getElem_cons (by simp; omega)]
      simp
    rw [e, List.any_cons]
    have xi := hx i hi (Nat.le_refl _)
    have xj := hx j (by omega) (by omega)
    refine Ev.step (f := fun k => (spec_l03Cross.f k l[i].f0.f0 l[i].f0.f1 l[i].f1.f0 l[i].f1.f1 l[j].f0.f0 l[j].f0.f1 l[j].f1.f0 l[j].f1.f1).bind fun t => if t = true then some false else spec_l03Lamination.l1 k l (i : Int) ((j + 1 : Nat) : Int)) (fun k => ?_) ?_
    · rw [spec_l03Lamination.l1, if_pos (by omega), if_pos (by omega), if_pos (by omega), if_pos (by omega), if_pos (by omega), rdF_get l i hi, rdF_get l j (by omega), wrap_in (x := (j : Int) + 1) (by omega) (by omega)]
      rfl
    · obtain ⟨a1, a2, a3⟩ := isX_iff.1 xi
      obtain ⟨b1, b2, b3⟩ := isX_iff.1 xj
      refine Ev.bind (ev_spec_cross a1 a2 b1 b2) ?_
      rw [rdF_get l i hi]
      show Ev (fun k => if crossX l[i] l[j] = true then some false else spec_l03Lamination.l1 k l (i : Int) ((j + 1 : Nat) : Int)) _
      cases hc : crossX l[i] l[j] with
      | true => simp; exact Ev.now _
      | false =>
        have z := ih (j + 1) (by omega)
        rw [rdF_get l i hi] at z
        simpa using z
theorem ev_spec_la (l : List LF) (hl : l.length ≤ 200) : ∀ d i, i + d = l.length → (∀ j, (h : j < l.length) → j < i → isX l[j] = true) → Ev (fun k => spec_l03Lamination.l0 k l (i : Int)) (laV l d i) := by
  intro d
  induction d with
  | zero =>
    intro i h _
    exact Ev.step (f := fun _ => some true) (fun k => by rw [spec_l03Lamination.l0, if_neg (by omega)]) (Ev.now _)
  | succ d ih =>
    intro i h hj
    have hi : i < l.length := by omega
    unfold laV
    rw [rdF_get l i hi]
    refine Ev.step (f := fun k => (spec_l03Is.f k l[i].f0.f0 l[i].f0.f1 l[i].f1.f0 l[i].f1.f1).bind fun t => if t = true then (if (i : Int) > 0 then (spec_l03Less.f (rd_T55 l ((i - 1 : Nat) : Int)).f0.f0 (rd_T55 l ((i - 1 : Nat) : Int)).f0.f1 (rd_T55 l ((i - 1 : Nat) : Int)).f1.f0 (rd_T55 l ((i - 1 : Nat) : Int)).f1.f1 l[i].f0.f0 l[i].f0.f1 l[i].f1.f0 l[i].f1.f1).bind fun t => spec_l03Lamination.j1 k l (i : Int) (!t) else spec_l03Lamination.j1 k l (i : Int) false) else spec_l03Lamination.j1 k l (i : Int) true) (fun k => ?_) ?_
    · rw [spec_l03Lamination.l0, if_pos (by omega), if_pos (by omega), rdF_get l i hi]
      by_cases h0 : (i : Int) > 0
      · rw [if_pos h0, wrap_in (x := (i : Int) - 1) (by omega) (by omega), if_pos (by omega), if_pos (by omega), show (i : Int) - 1 = ((i - 1 : Nat) : Int) by omega, if_pos h0]
      · rw [if_neg h0, if_neg h0]
    · refine Ev.bind (ev_spec_l03Is _ _ _ _) ?_
      show Ev (fun k => if isX l[i] = true then _ else _) _
      cases hx : isX l[i] with
      | false =>
        simp only [Bool.false_eq_true, if_false]
        exact Ev.step (f := fun _ => some false) (fun k => by rw [spec_l03Lamination.j1, if_pos rfl]) (Ev.now _)
      | true =>
        simp only [if_true]
        have all : ∀ j, (h : j < l.length) → j ≤ i → isX l[j] = true := fun j h hji => by
          by_cases e : j = i
          · subst e; exact hx
          · exact hj j h (by omega)
        have z := ev_spec_in l hl hi all (ih (i + 1) (by omega) fun j h hji => all j h (by omega)) i 0 (by omega)
        rw [List.drop_zero, rdF_get l i hi, show ((0 : Nat) : Int) = 0 from rfl] at z
        by_cases h0 : 0 < i
        · have h0' : (i : Int) > 0 := by omega
          simp only [if_pos h0']
          rw [rdF_get l (i - 1) (by omega), lessX_val (all (i - 1) (by omega) (by omega)) hx]
          simp only [Option.bind_some]
          cases hL : lessX l[i - 1] l[i] with
          | false =>
            rw [if_pos ⟨h0, rfl⟩]
            exact Ev.step (f := fun _ => some false) (fun k => by rw [spec_l03Lamination.j1, if_pos (by rfl)]) (Ev.now _)
          | true =>
            rw [if_neg (by simp)]
            exact Ev.step (fun k => by rw [spec_l03Lamination.j1, if_neg (by simp)]) z
        · have h0' : ¬ (i : Int) > 0 := by omega
          simp only [if_neg h0']
          rw [if_neg (by simp; omega)]
          exact Ev.step (fun k => by rw [spec_l03Lamination.j1, if_neg (by simp)]) z
theorem ev_any_cross (l : List LF) (x : LF) (hx : isX x = true) (hl : ∀ y ∈ l, isX y = true) : Ev (fun k => slices_ContainsFunc_cross.f k l x.f0.f0 x.f0.f1 x.f1.f0 x.f1.f1) (l.any fun y => crossX x y) := by
  unfold slices_ContainsFunc_cross.f
  refine ev_anyM l fun y hy => ?_
  obtain ⟨a1, a2, a3⟩ := isX_iff.1 hx
  obtain ⟨b1, b2, b3⟩ := isX_iff.1 (hl y hy)
  exact ev_impl_cross a1 a2 b1 b2 a3 b3
theorem ev_impl_la (l : List LF) (hl : l.length ≤ 200) (hx : ∀ j, (h : j < l.length) → isX l[j] = true) : ∀ d i, i + d = l.length → Ev (fun k => impl_IsLamination.l0 k l l (l.length : Int) (i : Int)) (laV l d i) := by
  intro d
  induction d with
  | zero =>
    intro i h
    exact Ev.step (f := fun _ => some true) (fun k => by rw [impl_IsLamination.l0, if_neg (by omega)]) (Ev.now _)
  | succ d ih =>
    intro i h
    have hi : i < l.length := by omega
    unfold laV
    rw [rdF_get l i hi, hx i hi, if_pos rfl]
    have tail : Ev (fun k => (slices_ContainsFunc_cross.f k (l.take i) l[i].f0.f0 l[i].f0.f1 l[i].f1.f0 l[i].f1.f1).bind fun t => if t = true then some false else impl_IsLamination.l0 k l l (l.length : Int) ((i + 1 : Nat) : Int)) (if ((l.take i).any fun y => crossX l[i] y) = true then false else laV l d (i + 1)) := by
      refine Ev.bind (ev_any_cross (l.take i) l[i] (hx i hi) fun y hy => ?_) ?_
      · obtain ⟨j, hj, rfl⟩ := List.getElem_of_mem (List.mem_of_mem_take hy)
        exact hx j hj
      · cases ((l.take i).any fun y => crossX l[i] y) with
        | true => simp; exact Ev.now _
        | false => simpa using ih (i + 1) (by omega)
    by_cases h0 : 0 < i
    · obtain ⟨c, hc, hv⟩ := ev_compareX (hx (i - 1) (by omega)) (hx i hi)
      refine Ev.step (f := fun k => (impl_Leaf_compare.f k l[i - 1].f0.f0 l[i - 1].f0.f1 l[i - 1].f1.f0 l[i - 1].f1.f1 l[i].f0.f0 l[i].f0.f1 l[i].f1.f0 l[i].f1.f1).bind fun t => if t ≥ 0 then some false else (slices_ContainsFunc_cross.f k (l.take i) l[i].f0.f0 l[i].f0.f1 l[i].f1.f0 l[i].f1.f1).bind fun t => if t = true then some false else impl_IsLamination.l0 k l l (l.length : Int) ((i + 1 : Nat) : Int)) (fun k => ?_) ?_
      · rw [impl_IsLamination.l0, if_pos (by omega), if_pos (by omega), if_pos (by omega), if_pos (by omega), wrap_in (x := (i : Int) - 1) (by omega) (by omega), if_pos (by omega), if_pos (by omega), show (i : Int) - 1 = ((i - 1 : Nat) : Int) by omega, rdF_get l i hi, rdF_get l (i - 1) (by omega), if_pos (show (i : Int) ≤ (l.length : Int) by omega), Int.toNat_natCast, wrap_in (x := (i : Int) + 1) (by omega) (by omega)]
        rfl
      · refine Ev.bind hv ?_
        rw [rdF_get l (i - 1) (by omega)]
        cases hL : lessX l[i - 1] l[i] with
        | false =>
          simp only [if_pos (hc.2 hL)]
          rw [if_pos ⟨h0, by simp⟩]
          exact Ev.now _
        | true =>
          have hn : ¬ c ≥ 0 := fun z => by have := hc.1 z; rw [hL] at this; cases this
          simp only [if_neg hn]
          rw [if_neg (by simp)]
          exact tail
    · refine Ev.step (f := fun k => (slices_ContainsFunc_cross.f k (l.take i) l[i].f0.f0 l[i].f0.f1 l[i].f1.f0 l[i].f1.f1).bind fun t => if t = true then some false else impl_IsLamination.l0 k l l (l.length : Int) ((i + 1 : Nat) : Int)) (fun k => ?_) ?_
      · rw [impl_IsLamination.l0, if_pos (by omega), if_pos (by omega), if_pos (by omega), if_neg (by omega), rdF_get l i hi, if_pos (show (i : Int) ≤ (l.length : Int) by omega), Int.toNat_natCast, wrap_in (x := (i : Int) + 1) (by omega) (by omega)]
        rfl
      · rw [if_neg (by simp; omega)]
        exact tail
theorem pure_FnExactIsLamination (l : List S58) (hm : l.length ≤ 9223372036854775807) : ∃ k, laws_FnExactIsLamination.f k l = some true := by
  refine Ev.rounds (g := fun k => laws_FnExactIsLamination.f k l) ?_
  unfold laws_FnExactIsLamination.f
  refine szF_frame hm fun hl => ?_
  have hc := ev_toLeaves l hl
  have hn : (cpF l).length ≤ 1048576 := by rw [cpF_length]; exact hl
  generalize cpF l = L at hc hn
  have fin : ∀ r : Bool, Ev (fun k => spec_l03Lamination.f k L) r → Ev (fun k => impl_IsLamination.f k L) r → Ev (fun k => (laws_toLeafS.f k l).bind fun t221 => ((spec_IsLamination.f k t221).bind fun t224 => ((laws_toLeafS.f k l).bind fun t225 => ((impl_IsLamination.f k t225).bind fun t228 => (if (t228 != t224) = true then (some false) else ((laws_toLeafS.f k l).bind fun t229 => ((laws_eqLeafS.f k t225 t229).bind fun t232 => (if t232 = true then (some true) else (some false))))))))) true := by
    intro r h1 h2
    refine Ev.bind hc (Ev.bind (a := r) ?_ (Ev.bind hc (Ev.bind h2 ?_)))
    · unfold spec_IsLamination.f
      exact Ev.bind h1 (Ev.now _)
    · simp only [bne_self_eq_false, Bool.false_eq_true, if_false]
      refine Ev.bind hc (Ev.bind (ev_eqLeaves L (by omega)) ?_)
      simp only [if_true]
      exact Ev.now _
  have jfalse : Ev (fun k => impl_IsLamination.j0 k L true) false := Ev.step (f := fun _ => some false) (fun k => by rw [impl_IsLamination.j0, if_pos rfl]) (Ev.now _)
  by_cases h200 : (L.length : Int) > 200
  · refine fin false ?_ ?_
    · unfold spec_l03Lamination.f
      simp only [if_pos h200]
      exact Ev.now _
    · unfold impl_IsLamination.f
      simp only [if_pos h200]
      exact jfalse
  · have hl2 : L.length ≤ 200 := by omega
    have hs := ev_spec_la L hl2 L.length 0 (by omega) (fun j h hj => absurd hj (by omega))
    have hall : Ev (fun k => impl_areAll_IsLeaf.f k L) (L.all isX) := by
      unfold impl_areAll_IsLeaf.f
      clear hs hl2 h200 jfalse fin hn hc
      induction L with
      | nil => exact Ev.now _
      | cons x xs ih =>
        unfold allM
        refine Ev.bind (ev_impl_IsLeaf _ _ _ _) ?_
        rw [List.all_cons]
        show Ev (fun k => if isX x = true then _ else _) _
        cases isX x with
        | true => simpa using ih
        | false => simpa using Ev.now false
    refine fin (laV L L.length 0) ?_ ?_
    · unfold spec_l03Lamination.f
      simp only [if_neg h200]
      exact hs
    · unfold impl_IsLamination.f
      simp only [if_neg h200]
      refine Ev.bind hall ?_
      cases hA : L.all isX with
      | false =>
        have hv : laV L L.length 0 = false := by
          cases hv : laV L L.length 0 with
          | false => rfl
          | true =>
            exfalso
            have : L.all isX = true := List.all_eq_true.2 fun x hx => by
              obtain ⟨j, hj, rfl⟩ := List.getElem_of_mem hx
              exact laV_all L L.length 0 (by omega) hv j (by omega) hj
            rw [hA] at this
            cases this
        rw [hv]
        exact jfalse
      | true =>
        refine Ev.step (f := fun k => impl_IsLamination.l0 k L L (L.length : Int) 0) (fun k => by rw [impl_IsLamination.j0, if_neg (by simp)]) ?_
        exact ev_impl_la L hl2 (fun j h => List.all_eq_true.1 hA _ (List.getElem_mem h)) L.length 0 (by omega)
end Go.Proofs.Ytngffoffjiofbaa.Q
end
