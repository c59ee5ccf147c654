/- Joined texts: Qx68, AngMath, Qx36, AngCore, Qx81, LawIntsSS, CharMath, CharLoop, LawSizesSS, PureFnExactCharacteristicOf -/
import Derived.Test.YtngffoffjiofbaaPkFnExactCharacteristicOf0
import Derived.Test.YtngffoffjiofbaaPkFnExactCharacteristicOf1
section
-- By wip/hyb/hyb.py of this session, over the kit's print.py
namespace Go.Proofs.Ytngffoffjiofbaa.Q
open Go.Proofs.YtngffoffjiofbaaW.Ext
open Go.RowKit Go.Proofs.YtngffoffjiofbaaW.PrintWords Go.Proofs.YtngffoffjiofbaaW.PrintLast Go.Proofs.YtngffoffjiofbaaW.PrintMore
attribute [local go_sem] max2_int min2_int max_two min_two max_three min_three max_four min_four   -- for this text's walks alone
set_option linter.unusedVariables false
set_option linter.unusedSimpArgs false

/-! ### laws_FnExactCharacteristicOf: function 5 -/
/-- what marking a row of rows tells, without the rows -/
def laws_markInt64SS1.f (k : Nat) (l : List (List Int)) (a : Int) : Option Int := (laws_markInt64SS.f k l a).map Prod.fst
theorem laws_markInt64SS1.mono : ∀ l a k, LeO (laws_markInt64SS1.f k l a) (laws_markInt64SS1.f (k + 1) l a) := fun l a k => LeO.map _ (laws_markInt64SS.mono l a k)
theorem laws_markInt64SS1.pair {k : Nat} {l : List (List Int)} {a r : Int} (h : laws_markInt64SS1.f k l a = some r) : ∃ m, laws_markInt64SS.f k l a = some (r, m) := by
  obtain ⟨⟨x, m⟩, h1, h2⟩ := Option.map_eq_some_iff.1 h
  cases h2
  exact ⟨m, h1⟩
mutual
def laws_FnExactCharacteristicOf.j0 : Nat → List (List Int) → List Int → Int → List (List Int) → List Int → Int → Bool → Option (Bool)
  | 0, _, _, _, _, _, _, _ => none
  | k + 1, x0, x4, x5, x6, x7, x8, x40 => if x40 = true then (some false) else ((laws_toInt64SS.f k x0).bind fun t432 => ((laws_eqInt64SS.f k x6 t432).bind fun t435 => (if t435 = true then ((laws_markInt64SS1.f k x6 1).bind fun t436 => (if t436 < 0 then (laws_FnExactCharacteristicOf.j1 k x0 x4 x5 x7 true) else ((laws_eqInt64S.f k x7 x4).bind fun t437 => (if t437 = true then (laws_FnExactCharacteristicOf.j1 k x0 x4 x5 x7 (x8 != x5)) else (laws_FnExactCharacteristicOf.j1 k x0 x4 x5 x7 true))))) else (some false))))
def laws_FnExactCharacteristicOf.j1 : Nat → List (List Int) → List Int → Int → List Int → Bool → Option (Bool)
  | 0, _, _, _, _, _ => none
  | k + 1, x0, x4, x5, x7, x61 => if x61 = true then (some false) else ((laws_markInt64S.f k x7 1).bind fun bt438 => ((laws_heldInt64S.f k bt438.2 1).bind fun t440 => (if t440 < 0 then (some false) else (if t440 = bt438.1 then ((laws_toInt64SS.f k x0).bind fun t441 => ((impl_CharacteristicOf.f k t441).bind fun bt444 => ((laws_eqInt64S.f k bt444.1 x4).bind fun t448 => (if t448 = true then (laws_FnExactCharacteristicOf.j2 k bt438.2 bt438.1 (bt444.2 != x5)) else (laws_FnExactCharacteristicOf.j2 k bt438.2 bt438.1 true))))) else (some false)))))
def laws_FnExactCharacteristicOf.j2 : Nat → List Int → Int → Bool → Option (Bool)
  | 0, _, _, _ => none
  | k + 1, x7, x10, x87 => if x87 = true then (some false) else ((laws_heldInt64S.f k x7 1).bind fun t449 => (if t449 < 0 then (some false) else (if t449 = x10 then (some true) else (some false))))
end
def laws_FnExactCharacteristicOf.f (k : Nat) (l0 : List (List Int)) : Option (Bool) := (laws_szInt64SS.f k l0 1048576).bind fun t416 => (if t416 < 0 then (some true) else ((laws_toInt64SS.f k l0).bind fun t417 => ((spec_CharacteristicOf.f k t417).bind fun bt420 => ((laws_toInt64SS.f k l0).bind fun t424 => ((impl_CharacteristicOf.f k t424).bind fun bt427 => ((laws_eqInt64S.f k bt427.1 bt420.1).bind fun t431 => (if t431 = true then (laws_FnExactCharacteristicOf.j0 k l0 bt420.1 bt420.2 t424 bt427.1 bt427.2 (bt427.2 != bt420.2)) else (laws_FnExactCharacteristicOf.j0 k l0 bt420.1 bt420.2 t424 bt427.1 bt427.2 true))))))))
theorem laws_FnExactCharacteristicOf.mono_l : ∀ k, (∀ y0 y1 y2 y3 y4 y5 y6, LeO (laws_FnExactCharacteristicOf.j0 k y0 y1 y2 y3 y4 y5 y6) (laws_FnExactCharacteristicOf.j0 (k + 1) y0 y1 y2 y3 y4 y5 y6)) ∧ (∀ y0 y1 y2 y3 y4, LeO (laws_FnExactCharacteristicOf.j1 k y0 y1 y2 y3 y4) (laws_FnExactCharacteristicOf.j1 (k + 1) y0 y1 y2 y3 y4)) ∧ (∀ y0 y1 y2, LeO (laws_FnExactCharacteristicOf.j2 k y0 y1 y2) (laws_FnExactCharacteristicOf.j2 (k + 1) y0 y1 y2))
  | 0 => ⟨fun _ _ _ _ _ _ _ r h => by simp [laws_FnExactCharacteristicOf.j0] at h, fun _ _ _ _ _ r h => by simp [laws_FnExactCharacteristicOf.j1] at h, fun _ _ _ r h => by simp [laws_FnExactCharacteristicOf.j2] at h⟩
  | k + 1 => by
    obtain ⟨ih0, ih1, ih2⟩ := laws_FnExactCharacteristicOf.mono_l k
    refine ⟨?_, ?_, ?_⟩
    · intro y0 y1 y2 y3 y4 y5 y6
      unfold laws_FnExactCharacteristicOf.j0
      repeat' first
      | (with_reducible exact ih0 _ _ _ _ _ _ _)
      | (with_reducible exact ih1 _ _ _ _ _)
      | (with_reducible exact ih2 _ _ _)
      | (with_reducible exact impl_CharacteristicOf.mono _ _)
      | (with_reducible exact laws_eqInt64S.mono _ _ _)
      | (with_reducible exact laws_eqInt64SS.mono _ _ _)
      | (with_reducible exact laws_heldInt64S.mono _ _ _)
      | (with_reducible exact laws_markInt64S.mono _ _ _)
      | (with_reducible exact laws_markInt64SS1.mono _ _ _)
      | (with_reducible exact laws_szInt64SS.mono _ _ _)
      | (with_reducible exact laws_toInt64SS.mono _ _)
      | (with_reducible exact spec_CharacteristicOf.mono _ _)
      | (with_reducible exact LeO.refl _)
      | (with_reducible exact LeO.none _)
      | (with_reducible refine LeO.ite ?_ ?_)
      | (with_reducible refine LeO.bind ?_ (fun _ => ?_))
      | exact ih0 _ _ _ _ _ _ _
      | exact ih1 _ _ _ _ _
      | exact ih2 _ _ _
      | exact impl_CharacteristicOf.mono _ _
      | exact laws_eqInt64S.mono _ _ _
      | exact laws_eqInt64SS.mono _ _ _
      | exact laws_heldInt64S.mono _ _ _
      | exact laws_markInt64S.mono _ _ _
      | exact laws_markInt64SS1.mono _ _ _
      | exact laws_szInt64SS.mono _ _ _
      | exact laws_toInt64SS.mono _ _
      | exact spec_CharacteristicOf.mono _ _
      | exact LeO.none _
      | refine LeO.ite ?_ ?_
      | refine LeO.bind ?_ (fun _ => ?_)
    · intro y0 y1 y2 y3 y4
      unfold laws_FnExactCharacteristicOf.j1
      repeat' first
      | (with_reducible exact ih0 _ _ _ _ _ _ _)
      | (with_reducible exact ih1 _ _ _ _ _)
      | (with_reducible exact ih2 _ _ _)
      | (with_reducible exact impl_CharacteristicOf.mono _ _)
      | (with_reducible exact laws_eqInt64S.mono _ _ _)
      | (with_reducible exact laws_eqInt64SS.mono _ _ _)
      | (with_reducible exact laws_heldInt64S.mono _ _ _)
      | (with_reducible exact laws_markInt64S.mono _ _ _)
      | (with_reducible exact laws_markInt64SS1.mono _ _ _)
      | (with_reducible exact laws_szInt64SS.mono _ _ _)
      | (with_reducible exact laws_toInt64SS.mono _ _)
      | (with_reducible exact spec_CharacteristicOf.mono _ _)
      | (with_reducible exact LeO.refl _)
      | (with_reducible exact LeO.none _)
      | (with_reducible refine LeO.ite ?_ ?_)
      | (with_reducible refine LeO.bind ?_ (fun _ => ?_))
      | exact ih0 _ _ _ _ _ _ _
      | exact ih1 _ _ _ _ _
      | exact ih2 _ _ _
      | exact impl_CharacteristicOf.mono _ _
      | exact laws_eqInt64S.mono _ _ _
      | exact laws_eqInt64SS.mono _ _ _
      | exact laws_heldInt64S.mono _ _ _
      | exact laws_markInt64S.mono _ _ _
      | exact laws_markInt64SS1.mono _ _ _
      | exact laws_szInt64SS.mono _ _ _
      | exact laws_toInt64SS.mono _ _
      | exact spec_CharacteristicOf.mono _ _
      | exact LeO.none _
      | refine LeO.ite ?_ ?_
      | refine LeO.bind ?_ (fun _ => ?_)
    · intro y0 y1 y2
      unfold laws_FnExactCharacteristicOf.j2
      repeat' first
      | (with_reducible exact ih0 _ _ _ _ _ _ _)
      | (with_reducible exact ih1 _ _ _ _ _)
      | (with_reducible exact ih2 _ _ _)
      | (with_reducible exact impl_CharacteristicOf.mono _ _)
      | (with_reducible exact laws_eqInt64S.mono _ _ _)
      | (with_reducible exact laws_eqInt64SS.mono _ _ _)
      | (with_reducible exact laws_heldInt64S.mono _ _ _)
      | (with_reducible exact laws_markInt64S.mono _ _ _)
      | (with_reducible exact laws_markInt64SS1.mono _ _ _)
      | (with_reducible exact laws_szInt64SS.mono _ _ _)
      | (with_reducible exact laws_toInt64SS.mono _ _)
      | (with_reducible exact spec_CharacteristicOf.mono _ _)
      | (with_reducible exact LeO.refl _)
      | (with_reducible exact LeO.none _)
      | (with_reducible refine LeO.ite ?_ ?_)
      | (with_reducible refine LeO.bind ?_ (fun _ => ?_))
      | exact ih0 _ _ _ _ _ _ _
      | exact ih1 _ _ _ _ _
      | exact ih2 _ _ _
      | exact impl_CharacteristicOf.mono _ _
      | exact laws_eqInt64S.mono _ _ _
      | exact laws_eqInt64SS.mono _ _ _
      | exact laws_heldInt64S.mono _ _ _
      | exact laws_markInt64S.mono _ _ _
      | exact laws_markInt64SS1.mono _ _ _
      | exact laws_szInt64SS.mono _ _ _
      | exact laws_toInt64SS.mono _ _
      | exact spec_CharacteristicOf.mono _ _
      | exact LeO.none _
      | refine LeO.ite ?_ ?_
      | refine LeO.bind ?_ (fun _ => ?_)
theorem laws_FnExactCharacteristicOf.mono : ∀ a0 k, LeO (laws_FnExactCharacteristicOf.f k a0) (laws_FnExactCharacteristicOf.f (k + 1) a0) := by
  intro a0 k
  obtain ⟨ih0, ih1, ih2⟩ := laws_FnExactCharacteristicOf.mono_l k
  unfold laws_FnExactCharacteristicOf.f
  repeat' first
      | (with_reducible exact ih0 _ _ _ _ _ _ _)
      | (with_reducible exact ih1 _ _ _ _ _)
      | (with_reducible exact ih2 _ _ _)
      | (with_reducible exact impl_CharacteristicOf.mono _ _)
      | (with_reducible exact laws_eqInt64S.mono _ _ _)
      | (with_reducible exact laws_eqInt64SS.mono _ _ _)
      | (with_reducible exact laws_heldInt64S.mono _ _ _)
      | (with_reducible exact laws_markInt64S.mono _ _ _)
      | (with_reducible exact laws_markInt64SS1.mono _ _ _)
      | (with_reducible exact laws_szInt64SS.mono _ _ _)
      | (with_reducible exact laws_toInt64SS.mono _ _)
      | (with_reducible exact spec_CharacteristicOf.mono _ _)
      | (with_reducible exact LeO.refl _)
      | (with_reducible exact LeO.none _)
      | (with_reducible refine LeO.ite ?_ ?_)
      | (with_reducible refine LeO.bind ?_ (fun _ => ?_))
      | exact ih0 _ _ _ _ _ _ _
      | exact ih1 _ _ _ _ _
      | exact ih2 _ _ _
      | exact impl_CharacteristicOf.mono _ _
      | exact laws_eqInt64S.mono _ _ _
      | exact laws_eqInt64SS.mono _ _ _
      | exact laws_heldInt64S.mono _ _ _
      | exact laws_markInt64S.mono _ _ _
      | exact laws_markInt64SS1.mono _ _ _
      | exact laws_szInt64SS.mono _ _ _
      | exact laws_toInt64SS.mono _ _
      | exact spec_CharacteristicOf.mono _ _
      | exact LeO.none _
      | refine LeO.ite ?_ ?_
      | refine LeO.bind ?_ (fun _ => ?_)
set_option maxHeartbeats 8000000 in
set_option maxRecDepth 100000 in
theorem laws_FnExactCharacteristicOf.calls (k : Nat) (A0 : Option Addr) (c0 : Nat) (l0 : List (List Int)) (r_ : Bool) (w : World) (hr0 : Kd.C (Kd.slice 2 (Kd.int .i64)) w A0 l0.length l0) (hc0 : l0.length ≤ c0) (h : laws_FnExactCharacteristicOf.f k l0 = some true) :
    Calls Try.prog 5 #[.slice A0 l0.length c0] w fun e w' => e = .returned (.bool true) ∧ Below w.heap.size w w' := by
  have HR0 := Aside0.mk hr0
  have HC0 := Aside0.mk hc0
  clear hr0 hc0
  have HB := Aside0.mk (Below.refl w.heap.size w)
  have H : ((laws_szInt64SS.f k l0 1048576).bind fun t416 => (if t416 < 0 then (some true) else ((laws_toInt64SS.f k l0).bind fun t417 => ((spec_CharacteristicOf.f k t417).bind fun bt420 => ((laws_toInt64SS.f k l0).bind fun t424 => ((impl_CharacteristicOf.f k t424).bind fun bt427 => ((laws_eqInt64S.f k bt427.1 bt420.1).bind fun t431 => (if t431 = true then (laws_FnExactCharacteristicOf.j0 k l0 bt420.1 bt420.2 t424 bt427.1 bt427.2 (bt427.2 != bt420.2)) else (laws_FnExactCharacteristicOf.j0 k l0 bt420.1 bt420.2 t424 bt427.1 bt427.2 true))))))))) = some true := h
  clear h
  replace H := Option.bind_eq_some_iff.mp H
  obtain ⟨t416, A20, H⟩ := H
  replace H : (if t416 < 0 then (some true) else ((laws_toInt64SS.f k l0).bind fun t417 => ((spec_CharacteristicOf.f k t417).bind fun bt420 => ((laws_toInt64SS.f k l0).bind fun t424 => ((impl_CharacteristicOf.f k t424).bind fun bt427 => ((laws_eqInt64S.f k bt427.1 bt420.1).bind fun t431 => (if t431 = true then (laws_FnExactCharacteristicOf.j0 k l0 bt420.1 bt420.2 t424 bt427.1 bt427.2 (bt427.2 != bt420.2)) else (laws_FnExactCharacteristicOf.j0 k l0 bt420.1 bt420.2 t424 bt427.1 bt427.2 true)))))))) = some true := H
  have A2 := Aside0.mk A20
  clear A20
  by_cases c3 : t416 < 0
  · rw [if_pos c3] at H
    have c3b0 : decide (t416 < 0) = true := decide_eq_true c3
    clear c3
    clear H
    go_enter Try.func5, Try.ntmps5
    go_wp2_with (first | ((with_reducible refine gate_callee (f := 18) rfl ?_); refine goesL_ (some 16) rfl rfl Try.func18 (by kernel_rfl) rfl #[.slice A0 l0.length c0, .int .i64 1048576] rfl (by (try simp only [List.map_toArray, List.map_cons, List.map_nil]); first | done | rfl | (simp only [List.length_drop, List.length_take]; rfl)) ?_; (with_reducible refine (laws_szInt64SS.calls k _ _ l0 1048576 t416 _ ?side1 ?side2 A2.out).mono ?_); (case side1 => repeat (first | exact HR0.out | (with_reducible refine Kd.C_alloc ?_ _) | (with_reducible refine Kd.C_drewN ?_ _) | (with_reducible refine Kd.C_drew ?_))); (case side2 => exact HC0.out); rintro e w' ⟨rfl, ⟨nd, rfl⟩⟩; refine ⟨_, rfl, ?_⟩))
    go_ret
    exact ⟨by first | rfl | (simp [errW_none, errW_some] <;> rfl) | (simp [*, errW_none, errW_some] <;> rfl), by repeat (first | (with_reducible first | exact HB.out | apply below_alloc | apply pw_below_drewN | apply below_drew1) | exact HB.out)⟩
  · rw [if_neg c3] at H
    have c3b0 : decide (t416 < 0) = false := decide_eq_false c3
    clear c3
    replace H := Option.bind_eq_some_iff.mp H
    obtain ⟨t417, A40, H⟩ := H
    replace H : ((spec_CharacteristicOf.f k t417).bind fun bt420 => ((laws_toInt64SS.f k l0).bind fun t424 => ((impl_CharacteristicOf.f k t424).bind fun bt427 => ((laws_eqInt64S.f k bt427.1 bt420.1).bind fun t431 => (if t431 = true then (laws_FnExactCharacteristicOf.j0 k l0 bt420.1 bt420.2 t424 bt427.1 bt427.2 (bt427.2 != bt420.2)) else (laws_FnExactCharacteristicOf.j0 k l0 bt420.1 bt420.2 t424 bt427.1 bt427.2 true)))))) = some true := H
    have A4 := Aside0.mk A40
    clear A40
    replace H := Option.bind_eq_some_iff.mp H
    obtain ⟨⟨t420, t421⟩, A50, H⟩ := H
    replace H : ((laws_toInt64SS.f k l0).bind fun t424 => ((impl_CharacteristicOf.f k t424).bind fun bt427 => ((laws_eqInt64S.f k bt427.1 t420).bind fun t431 => (if t431 = true then (laws_FnExactCharacteristicOf.j0 k l0 t420 t421 t424 bt427.1 bt427.2 (bt427.2 != t421)) else (laws_FnExactCharacteristicOf.j0 k l0 t420 t421 t424 bt427.1 bt427.2 true))))) = some true := H
    have A5 := Aside0.mk A50
    clear A50
    replace H := Option.bind_eq_some_iff.mp H
    obtain ⟨t424, A60, H⟩ := H
    replace H : ((impl_CharacteristicOf.f k t424).bind fun bt427 => ((laws_eqInt64S.f k bt427.1 t420).bind fun t431 => (if t431 = true then (laws_FnExactCharacteristicOf.j0 k l0 t420 t421 t424 bt427.1 bt427.2 (bt427.2 != t421)) else (laws_FnExactCharacteristicOf.j0 k l0 t420 t421 t424 bt427.1 bt427.2 true)))) = some true := H
    have A6 := Aside0.mk A60
    clear A60
    replace H := Option.bind_eq_some_iff.mp H
    obtain ⟨⟨t427, t428⟩, A70, H⟩ := H
    replace H : ((laws_eqInt64S.f k t427 t420).bind fun t431 => (if t431 = true then (laws_FnExactCharacteristicOf.j0 k l0 t420 t421 t424 t427 t428 (t428 != t421)) else (laws_FnExactCharacteristicOf.j0 k l0 t420 t421 t424 t427 t428 true))) = some true := H
    have A7 := Aside0.mk A70
    clear A70
    have HC8 := Aside0.mk H
    clear H
    go_enter Try.func5, Try.ntmps5
    go_upto_region 8 with (first | ((with_reducible refine gate_callee (f := 18) rfl ?_); refine goesL_ (some 16) rfl rfl Try.func18 (by kernel_rfl) rfl #[.slice A0 l0.length c0, .int .i64 1048576] rfl (by (try simp only [List.map_toArray, List.map_cons, List.map_nil]); first | done | rfl | (simp only [List.length_drop, List.length_take]; rfl)) ?_; (with_reducible refine (laws_szInt64SS.calls k _ _ l0 1048576 t416 _ ?side1 ?side2 A2.out).mono ?_); (case side1 => repeat (first | exact HR0.out | (with_reducible refine Kd.C_alloc ?_ _) | (with_reducible refine Kd.C_drewN ?_ _) | (with_reducible refine Kd.C_drew ?_))); (case side2 => exact HC0.out); rintro e w' ⟨rfl, ⟨nd, rfl⟩⟩; refine ⟨_, rfl, ?_⟩) | ((with_reducible refine gate_callee (f := 20) rfl ?_); refine goesL_ (some 21) rfl rfl Try.func20 (by kernel_rfl) rfl #[.slice A0 l0.length c0] rfl (by (try simp only [List.map_toArray, List.map_cons, List.map_nil]); first | done | rfl | (simp only [List.length_drop, List.length_take]; rfl)) ?_; (with_reducible refine (laws_toInt64SS.calls k _ _ l0 t417 _ ?side1 ?side2 A4.out).mono ?_); (case side1 => repeat (first | exact HR0.out | (with_reducible refine Kd.C_alloc ?_ _) | (with_reducible refine Kd.C_drewN ?_ _) | (with_reducible refine Kd.C_drew ?_))); (case side2 => exact HC0.out); rintro e w9 ⟨v418, rfl, ho0, hb⟩; refine ⟨_, rfl, ?_⟩; have n0_ := Aside0.mk (Kd.S_lower ho0 (below_size (by repeat (first | (with_reducible first | exact HB.out | apply below_alloc | apply pw_below_drewN | apply below_drew1) | exact HB.out)))); have n1_ := Aside0.mk (below_step (by repeat (first | (with_reducible first | exact HB.out | apply below_alloc | apply pw_below_drewN | apply below_drew1) | exact HB.out)) hb); clear HB; have HO419 := n0_; have HB := n1_; clear n0_ n1_; (try clear hb); (try clear hb2); (try clear hk); (try clear hi); (try clear ho0); obtain ⟨Ao10, co10, eo10⟩ := Kd.S_slice HO419.out; subst eo10) | ((with_reducible refine gate_callee (f := 19) rfl ?_); refine goesL_ (some 22) rfl rfl Try.func19 (by kernel_rfl) rfl #[.slice Ao10 t417.length co10] rfl (by (try simp only [List.map_toArray, List.map_cons, List.map_nil]); first | done | rfl | (simp only [List.length_drop, List.length_take]; rfl)) ?_; (with_reducible refine (spec_CharacteristicOf.calls k _ _ t417 t420 t421 _ ?side1 ?side2 A5.out).mono ?_); (case side1 => repeat (first | exact (Kd.S_reads' HO419.out).2.2 | (with_reducible refine Kd.C_alloc ?_ _) | (with_reducible refine Kd.C_drewN ?_ _) | (with_reducible refine Kd.C_drew ?_))); (case side2 => exact (Kd.S_reads' HO419.out).2.1); rintro e w11 ⟨v422, rfl, ho0, hb⟩; refine ⟨_, rfl, ?_⟩; have n0_ := Aside0.mk (Kd.S_elder' (by (with_reducible repeat (first | apply Kd.S_alloc | apply Kd.S_drewN | apply Kd.S_drew)); exact HO419.out) (Kd.R_base ho0) hb); have n1_ := Aside0.mk (Kd.R_lower ho0 (below_size (by repeat (first | (with_reducible first | exact HB.out | apply below_alloc | apply pw_below_drewN | apply below_drew1) | exact HB.out)))); have n2_ := Aside0.mk (below_step (by repeat (first | (with_reducible first | exact HB.out | apply below_alloc | apply pw_below_drewN | apply below_drew1) | exact HB.out)) hb); clear HO419; clear HB; have HO419 := n0_; have HO423 := n1_; have HB := n2_; clear n0_ n1_ n2_; (try clear hb); (try clear hb2); (try clear hk); (try clear hi); (try clear ho0)) | ((with_reducible refine gate_callee (f := 20) rfl ?_); refine goesL_ (some 26) rfl rfl Try.func20 (by kernel_rfl) rfl #[.slice A0 l0.length c0] rfl (by (try simp only [List.map_toArray, List.map_cons, List.map_nil]); first | done | rfl | (simp only [List.length_drop, List.length_take]; rfl)) ?_; (with_reducible refine (laws_toInt64SS.calls k _ _ l0 t424 _ ?side1 ?side2 A6.out).mono ?_); (case side1 => repeat (first | exact (Kd.C_below HR0.out HB.out) | (with_reducible refine Kd.C_alloc ?_ _) | (with_reducible refine Kd.C_drewN ?_ _) | (with_reducible refine Kd.C_drew ?_))); (case side2 => exact HC0.out); rintro e w12 ⟨v425, rfl, ho0, hb⟩; refine ⟨_, rfl, ?_⟩; have n0_ := Aside0.mk (Kd.S_elder' (by (with_reducible repeat (first | apply Kd.S_alloc | apply Kd.S_drewN | apply Kd.S_drew)); exact HO419.out) (Kd.S_base ho0) hb); have n1_ := Aside0.mk (Kd.R_below (by (with_reducible repeat (first | apply Kd.R_alloc | apply Kd.R_drewN | apply Kd.R_drew)); exact HO423.out) hb); have n2_ := Aside0.mk (Kd.S_lower (Kd.S_new' (Kd.S_new' ho0 (Kd.S_lt (by (with_reducible repeat (first | apply Kd.S_alloc | apply Kd.S_drewN | apply Kd.S_drew)); exact HO419.out))) (Kd.R_lt (by (with_reducible repeat (first | apply Kd.R_alloc | apply Kd.R_drewN | apply Kd.R_drew)); exact HO423.out))) (below_size (by repeat (first | (with_reducible first | exact HB.out | apply below_alloc | apply pw_below_drewN | apply below_drew1) | exact HB.out)))); have n3_ := Aside0.mk (below_step (by repeat (first | (with_reducible first | exact HB.out | apply below_alloc | apply pw_below_drewN | apply below_drew1) | exact HB.out)) hb); clear HO419; clear HO423; clear HB; have HO419 := n0_; have HO423 := n1_; have HO426 := n2_; have HB := n3_; clear n0_ n1_ n2_ n3_; (try clear hb); (try clear hb2); (try clear hk); (try clear hi); (try clear ho0); obtain ⟨Ao13, co13, eo13⟩ := Kd.S_slice HO426.out; subst eo13) | ((with_reducible refine gate_callee (f := 21) rfl ?_); refine goesL_ (some 29) rfl rfl Try.func21 (by kernel_rfl) rfl #[.slice Ao13 t424.length co13] rfl (by (try simp only [List.map_toArray, List.map_cons, List.map_nil]); first | done | rfl | (simp only [List.length_drop, List.length_take]; rfl)) ?_; (with_reducible refine (impl_CharacteristicOf.calls k _ _ t424 t427 t428 _ ?side1 ?side2 A7.out).mono ?_); (case side1 => repeat (first | exact (Kd.S_reads' HO426.out).2.2 | (with_reducible refine Kd.C_alloc ?_ _) | (with_reducible refine Kd.C_drewN ?_ _) | (with_reducible refine Kd.C_drew ?_))); (case side2 => exact (Kd.S_reads' HO426.out).2.1); rintro e w14 ⟨v429, rfl, ho0, hb⟩; refine ⟨_, rfl, ?_⟩; have n0_ := Aside0.mk (Kd.S_elder' (by (with_reducible repeat (first | apply Kd.S_alloc | apply Kd.S_drewN | apply Kd.S_drew)); exact HO419.out) (Kd.R_base ho0) hb); have n1_ := Aside0.mk (Kd.R_elder' (by (with_reducible repeat (first | apply Kd.R_alloc | apply Kd.R_drewN | apply Kd.R_drew)); exact HO423.out) (Kd.R_base ho0) hb); have n2_ := Aside0.mk (Kd.S_elder' (by (with_reducible repeat (first | apply Kd.S_alloc | apply Kd.S_drewN | apply Kd.S_drew)); exact HO426.out) (Kd.R_base ho0) hb); have n3_ := Aside0.mk (Kd.R_lower (Kd.R_new' ho0 (Kd.R_lt (by (with_reducible repeat (first | apply Kd.R_alloc | apply Kd.R_drewN | apply Kd.R_drew)); exact HO423.out))) (below_size (by repeat (first | (with_reducible first | exact HB.out | apply below_alloc | apply pw_below_drewN | apply below_drew1) | exact HB.out)))); have n4_ := Aside0.mk (below_step (by repeat (first | (with_reducible first | exact HB.out | apply below_alloc | apply pw_below_drewN | apply below_drew1) | exact HB.out)) hb); clear HO419; clear HO423; clear HO426; clear HB; have HO419 := n0_; have HO423 := n1_; have HO426 := n2_; have HO430 := n3_; have HB := n4_; clear n0_ n1_ n2_ n3_ n4_; (try clear hb); (try clear hb2); (try clear hk); (try clear hi); (try clear ho0)))
    (try simp only [Act.put, List.setIfInBounds_toArray, List.set_cons_zero, List.set_cons_succ])
    go_cut [40] (fun v40 wc => ∃ (kq : Nat) (x40_7 : Bool), v40 = .bool x40_7 ∧ Aside0 (laws_FnExactCharacteristicOf.j0 kq l0 t420 t421 t424 t427 t428 x40_7 = some true) ∧ Aside0 (kq ≤ k) ∧ Aside0 (Kd.R (Kd.int .i64) 2 wc w.heap.size (fun k_ => some k_ ≠ (v429 : Value).ownBlock) v422 t420) ∧ Aside0 (Kd.S (Kd.slice 2 (Kd.int .i64)) 39 wc w.heap.size (fun k_ => some k_ ≠ (v422 : Value).ownBlock ∧ some k_ ≠ (v429 : Value).ownBlock) (.slice Ao13 t424.length co13) t424) ∧ Aside0 (Kd.R (Kd.int .i64) 2 wc w.heap.size (fun k_ => some k_ ≠ (v422 : Value).ownBlock) v429 t427) ∧ Aside0 (Below w.heap.size w wc))
    case first =>
      have H := HC8.out
      clear HC8
      replace H := Option.bind_eq_some_iff.mp H
      obtain ⟨t431, A150, H⟩ := H
      replace H : (if t431 = true then (laws_FnExactCharacteristicOf.j0 k l0 t420 t421 t424 t427 t428 (t428 != t421)) else (laws_FnExactCharacteristicOf.j0 k l0 t420 t421 t424 t427 t428 true)) = some true := H
      have A15 := Aside0.mk A150
      clear A150
      by_cases c16 : t431 = true
      · subst c16
        have H1 : (laws_FnExactCharacteristicOf.j0 k l0 t420 t421 t424 t427 t428 (t428 != t421)) = some true := by first | (rw [if_pos rfl] at H; exact H) | rfl
        clear H
        have H := H1
        clear H1
        have H' := Aside0.mk H
        clear H
        obtain ⟨Ao17, co17, eo17⟩ := Kd.R_slice HO430.out
        subst eo17
        obtain ⟨Ao18, co18, eo18⟩ := Kd.R_slice HO423.out
        subst eo18
        go_wp2_with (first | ((with_reducible refine gate_callee (f := 22) rfl ?_); refine goesL_ (some 34) rfl rfl Try.func22 (by kernel_rfl) rfl #[.slice Ao17 t427.length co17, .slice Ao18 t420.length co18] rfl (by (try simp only [List.map_toArray, List.map_cons, List.map_nil]); first | done | rfl | (simp only [List.length_drop, List.length_take]; rfl)) ?_; (with_reducible refine (laws_eqInt64S.calls k _ _ t427 _ _ t420 true _ ?side1 ?side2 ?side3 ?side4 A15.out).mono ?_); (case side1 => repeat (first | exact (Kd.R_reads' HO430.out).2.2 | (with_reducible refine Kd.C_alloc ?_ _) | (with_reducible refine Kd.C_drewN ?_ _) | (with_reducible refine Kd.C_drew ?_))); (case side2 => exact (Kd.R_reads' HO430.out).2.1); (case side3 => repeat (first | exact (Kd.R_reads' HO423.out).2.2 | (with_reducible refine Kd.C_alloc ?_ _) | (with_reducible refine Kd.C_drewN ?_ _) | (with_reducible refine Kd.C_drew ?_))); (case side4 => exact (Kd.R_reads' HO423.out).2.1); rintro e w' ⟨rfl, ⟨nd, rfl⟩⟩; refine ⟨_, rfl, ?_⟩))
        go_meet
        case rel => exact ⟨_, ((t428 != t421)), (by first | rfl | (simp; done) | (simp [*]; done)), H', ⟨by first | omega | exact Nat.le_refl _⟩, ⟨by (with_reducible repeat (first | apply Kd.R_alloc | apply Kd.R_drewN | apply Kd.R_drew)); exact Kd.R_mono HO423.out (fun _ hk => hk.2)⟩, ⟨by (with_reducible repeat (first | apply Kd.S_alloc | apply Kd.S_drewN | apply Kd.S_drew)); exact Kd.S_mono HO426.out (fun _ hk => ⟨hk.1.2, hk.2⟩)⟩, ⟨by (with_reducible repeat (first | apply Kd.R_alloc | apply Kd.R_drewN | apply Kd.R_drew)); exact Kd.R_mono HO430.out (fun _ hk => hk.2)⟩, ⟨by repeat (first | (with_reducible first | exact HB.out | apply below_alloc | apply pw_below_drewN | apply below_drew1) | exact HB.out)⟩⟩
      · replace c16 := Bool.eq_false_iff.mpr c16
        subst c16
        have H1 : (laws_FnExactCharacteristicOf.j0 k l0 t420 t421 t424 t427 t428 true) = some true := by first | (rw [if_neg (show ¬ (false = true) by decide)] at H; exact H) | rfl
        clear H
        have H := H1
        clear H1
        have H' := Aside0.mk H
        clear H
        obtain ⟨Ao19, co19, eo19⟩ := Kd.R_slice HO430.out
        subst eo19
        obtain ⟨Ao20, co20, eo20⟩ := Kd.R_slice HO423.out
        subst eo20
        go_wp2_with (first | ((with_reducible refine gate_callee (f := 22) rfl ?_); refine goesL_ (some 34) rfl rfl Try.func22 (by kernel_rfl) rfl #[.slice Ao19 t427.length co19, .slice Ao20 t420.length co20] rfl (by (try simp only [List.map_toArray, List.map_cons, List.map_nil]); first | done | rfl | (simp only [List.length_drop, List.length_take]; rfl)) ?_; (with_reducible refine (laws_eqInt64S.calls k _ _ t427 _ _ t420 false _ ?side1 ?side2 ?side3 ?side4 A15.out).mono ?_); (case side1 => repeat (first | exact (Kd.R_reads' HO430.out).2.2 | (with_reducible refine Kd.C_alloc ?_ _) | (with_reducible refine Kd.C_drewN ?_ _) | (with_reducible refine Kd.C_drew ?_))); (case side2 => exact (Kd.R_reads' HO430.out).2.1); (case side3 => repeat (first | exact (Kd.R_reads' HO423.out).2.2 | (with_reducible refine Kd.C_alloc ?_ _) | (with_reducible refine Kd.C_drewN ?_ _) | (with_reducible refine Kd.C_drew ?_))); (case side4 => exact (Kd.R_reads' HO423.out).2.1); rintro e w' ⟨rfl, ⟨nd, rfl⟩⟩; refine ⟨_, rfl, ?_⟩))
        go_meet
        case rel => exact ⟨_, (true), (by first | rfl | (simp; done) | (simp [*]; done)), H', ⟨by first | omega | exact Nat.le_refl _⟩, ⟨by (with_reducible repeat (first | apply Kd.R_alloc | apply Kd.R_drewN | apply Kd.R_drew)); exact Kd.R_mono HO423.out (fun _ hk => hk.2)⟩, ⟨by (with_reducible repeat (first | apply Kd.S_alloc | apply Kd.S_drewN | apply Kd.S_drew)); exact Kd.S_mono HO426.out (fun _ hk => ⟨hk.1.2, hk.2⟩)⟩, ⟨by (with_reducible repeat (first | apply Kd.R_alloc | apply Kd.R_drewN | apply Kd.R_drew)); exact Kd.R_mono HO430.out (fun _ hk => hk.2)⟩, ⟨by repeat (first | (with_reducible first | exact HB.out | apply below_alloc | apply pw_below_drewN | apply below_drew1) | exact HB.out)⟩⟩
    case rest =>
      clear HC8
      try clear c1
      try clear c2
      try clear p2
      try clear c3
      try clear c3b0
      try clear c5
      try clear c16
      try clear c18
      try clear c19
      try clear c20
      obtain ⟨kq, x40_7, rfl, HA, HJ7, HO_4, HO_6, HO_7, HB⟩ := hcut
      cases kq with
      | zero => exact absurd HA.out (by simp [laws_FnExactCharacteristicOf.j0])
      | succ kj7 =>
        have H := HA.out
        clear HA
        simp only [laws_FnExactCharacteristicOf.j0] at H
        by_cases c21 : x40_7 = true
        · subst c21
          have H1 : (some false) = some true := by first | (rw [if_pos rfl] at H; exact H) | rfl
          clear H
          have H := H1
          clear H1
          exact absurd H (by simp)
        · replace c21 := Bool.eq_false_iff.mpr c21
          subst c21
          have H1 : ((laws_toInt64SS.f kj7 l0).bind fun t432 => ((laws_eqInt64SS.f kj7 t424 t432).bind fun t435 => (if t435 = true then ((laws_markInt64SS1.f kj7 t424 1).bind fun t436 => (if t436 < 0 then (laws_FnExactCharacteristicOf.j1 kj7 l0 t420 t421 t427 true) else ((laws_eqInt64S.f kj7 t427 t420).bind fun t437 => (if t437 = true then (laws_FnExactCharacteristicOf.j1 kj7 l0 t420 t421 t427 (t428 != t421)) else (laws_FnExactCharacteristicOf.j1 kj7 l0 t420 t421 t427 true))))) else (some false)))) = some true := by first | (rw [if_neg (show ¬ (false = true) by decide)] at H; exact H) | rfl
          clear H
          have H := H1
          clear H1
          replace H := Option.bind_eq_some_iff.mp H
          obtain ⟨t432, A220, H⟩ := H
          replace H : ((laws_eqInt64SS.f kj7 t424 t432).bind fun t435 => (if t435 = true then ((laws_markInt64SS1.f kj7 t424 1).bind fun t436 => (if t436 < 0 then (laws_FnExactCharacteristicOf.j1 kj7 l0 t420 t421 t427 true) else ((laws_eqInt64S.f kj7 t427 t420).bind fun t437 => (if t437 = true then (laws_FnExactCharacteristicOf.j1 kj7 l0 t420 t421 t427 (t428 != t421)) else (laws_FnExactCharacteristicOf.j1 kj7 l0 t420 t421 t427 true))))) else (some false))) = some true := H
          have A22 := Aside0.mk A220
          clear A220
          replace H := Option.bind_eq_some_iff.mp H
          obtain ⟨t435, A230, H⟩ := H
          replace H : (if t435 = true then ((laws_markInt64SS1.f kj7 t424 1).bind fun t436 => (if t436 < 0 then (laws_FnExactCharacteristicOf.j1 kj7 l0 t420 t421 t427 true) else ((laws_eqInt64S.f kj7 t427 t420).bind fun t437 => (if t437 = true then (laws_FnExactCharacteristicOf.j1 kj7 l0 t420 t421 t427 (t428 != t421)) else (laws_FnExactCharacteristicOf.j1 kj7 l0 t420 t421 t427 true))))) else (some false)) = some true := H
          have A23 := Aside0.mk A230
          clear A230
          by_cases c24 : t435 = true
          · subst c24
            have H1 : ((laws_markInt64SS1.f kj7 t424 1).bind fun t436 => (if t436 < 0 then (laws_FnExactCharacteristicOf.j1 kj7 l0 t420 t421 t427 true) else ((laws_eqInt64S.f kj7 t427 t420).bind fun t437 => (if t437 = true then (laws_FnExactCharacteristicOf.j1 kj7 l0 t420 t421 t427 (t428 != t421)) else (laws_FnExactCharacteristicOf.j1 kj7 l0 t420 t421 t427 true))))) = some true := by first | (rw [if_pos rfl] at H; exact H) | rfl
            clear H
            have H := H1
            clear H1
            replace H := Option.bind_eq_some_iff.mp H
            obtain ⟨t436, A250, H⟩ := H
            replace H : (if t436 < 0 then (laws_FnExactCharacteristicOf.j1 kj7 l0 t420 t421 t427 true) else ((laws_eqInt64S.f kj7 t427 t420).bind fun t437 => (if t437 = true then (laws_FnExactCharacteristicOf.j1 kj7 l0 t420 t421 t427 (t428 != t421)) else (laws_FnExactCharacteristicOf.j1 kj7 l0 t420 t421 t427 true)))) = some true := H
            have A25 := Aside0.mk A250
            clear A250
            have HC26 := Aside0.mk H
            clear H
            go_upto_region 14 with (first | ((with_reducible refine gate_callee (f := 20) rfl ?_); refine goesL_ (some 43) rfl rfl Try.func20 (by kernel_rfl) rfl #[.slice A0 l0.length c0] rfl (by (try simp only [List.map_toArray, List.map_cons, List.map_nil]); first | done | rfl | (simp only [List.length_drop, List.length_take]; rfl)) ?_; (with_reducible refine (laws_toInt64SS.calls kj7 _ _ l0 t432 _ ?side1 ?side2 A22.out).mono ?_); (case side1 => repeat (first | exact (Kd.C_below HR0.out HB.out) | (with_reducible refine Kd.C_alloc ?_ _) | (with_reducible refine Kd.C_drewN ?_ _) | (with_reducible refine Kd.C_drew ?_))); (case side2 => exact HC0.out); rintro e w27 ⟨v433, rfl, ho0, hb⟩; refine ⟨_, rfl, ?_⟩; have n0_ := Aside0.mk (Kd.R_below (by (with_reducible repeat (first | apply Kd.R_alloc | apply Kd.R_drewN | apply Kd.R_drew)); exact HO_4.out) hb); have n1_ := Aside0.mk (Kd.S_elder' (by (with_reducible repeat (first | apply Kd.S_alloc | apply Kd.S_drewN | apply Kd.S_drew)); exact HO_6.out) (Kd.S_base ho0) hb); have n2_ := Aside0.mk (Kd.R_below (by (with_reducible repeat (first | apply Kd.R_alloc | apply Kd.R_drewN | apply Kd.R_drew)); exact HO_7.out) hb); have n3_ := Aside0.mk (Kd.S_lower (Kd.S_new' (Kd.S_new' (Kd.S_new' ho0 (Kd.R_lt (by (with_reducible repeat (first | apply Kd.R_alloc | apply Kd.R_drewN | apply Kd.R_drew)); exact HO_4.out))) (Kd.S_lt (by (with_reducible repeat (first | apply Kd.S_alloc | apply Kd.S_drewN | apply Kd.S_drew)); exact HO_6.out))) (Kd.R_lt (by (with_reducible repeat (first | apply Kd.R_alloc | apply Kd.R_drewN | apply Kd.R_drew)); exact HO_7.out))) (below_size (by repeat (first | (with_reducible first | exact HB.out | apply below_alloc | apply pw_below_drewN | apply below_drew1) | exact HB.out)))); have n4_ := Aside0.mk (below_step (by repeat (first | (with_reducible first | exact HB.out | apply below_alloc | apply pw_below_drewN | apply below_drew1) | exact HB.out)) hb); clear HO_4; clear HO_6; clear HO_7; clear HB; have HO_4 := n0_; have HO_6 := n1_; have HO_7 := n2_; have HO434 := n3_; have HB := n4_; clear n0_ n1_ n2_ n3_ n4_; (try clear hb); (try clear hb2); (try clear hk); (try clear hi); (try clear ho0); obtain ⟨Ao28, co28, eo28⟩ := Kd.S_slice HO434.out; subst eo28) | ((with_reducible refine gate_callee (f := 23) rfl ?_); refine goesL_ (some 44) rfl rfl Try.func23 (by kernel_rfl) rfl #[.slice Ao13 t424.length co13, .slice Ao28 t432.length co28] rfl (by (try simp only [List.map_toArray, List.map_cons, List.map_nil]); first | done | rfl | (simp only [List.length_drop, List.length_take]; rfl)) ?_; (with_reducible refine (laws_eqInt64SS.calls kj7 _ _ t424 _ _ t432 true _ ?side1 ?side2 ?side3 ?side4 A23.out).mono ?_); (case side1 => repeat (first | exact (Kd.S_reads' HO_6.out).2.2 | (with_reducible refine Kd.C_alloc ?_ _) | (with_reducible refine Kd.C_drewN ?_ _) | (with_reducible refine Kd.C_drew ?_))); (case side2 => exact (Kd.S_reads' HO_6.out).2.1); (case side3 => repeat (first | exact (Kd.S_reads' HO434.out).2.2 | (with_reducible refine Kd.C_alloc ?_ _) | (with_reducible refine Kd.C_drewN ?_ _) | (with_reducible refine Kd.C_drew ?_))); (case side4 => exact (Kd.S_reads' HO434.out).2.1); rintro e w' ⟨rfl, ⟨nd, rfl⟩⟩; refine ⟨_, rfl, ?_⟩) | ((with_reducible refine gate_callee (f := 24) rfl ?_); refine goesL_ (some 48) rfl rfl Try.func24 (by kernel_rfl) rfl #[.slice Ao13 t424.length co13, .int .i64 1] rfl (by (try simp only [List.map_toArray, List.map_cons, List.map_nil]); first | done | rfl | (simp only [List.length_drop, List.length_take]; rfl)) ?_; obtain ⟨m2_, hm2_⟩ := laws_markInt64SS1.pair A25.out; have HM2_ := Aside0.mk hm2_; clear hm2_; refine (laws_markInt64SS.calls kj7 ?P1 _ t424 1 t436 m2_ w _ ?side1 ?side2 HM2_.out).mono ?_; (case side1 => repeat (first | (with_reducible first | exact HB.out | apply below_alloc | apply pw_below_drewN | apply below_drew1) | exact HB.out)); (case side2 => (with_reducible repeat (first | apply Kd.S_alloc | apply Kd.S_drewN | apply Kd.S_drew)); exact HO_6.out); rintro e w29 ⟨rfl, hs_, hb, hk⟩; refine ⟨_, rfl, ?_⟩; clear hs_; have n0_ := Aside0.mk (Kd.R_mono (ok' := fun k_ => some k_ ≠ (v429 : Value).ownBlock) (Kd.R_keptB (Kd.R_tight2 rfl (by (with_reducible repeat (first | apply Kd.R_alloc | apply Kd.R_drewN | apply Kd.R_drew)); exact HO_4.out)) hk (fun k_ hk_ h_ => absurd hk_.1 (by first | exact h_.1.1 | exact h_.1 | exact h_.1.1.1))) (fun k_ hk_ => hk_.1.2)); have n2_ := Aside0.mk (Kd.R_mono (ok' := fun k_ => some k_ ≠ (v422 : Value).ownBlock) (Kd.R_keptB (Kd.R_tight2 rfl (by (with_reducible repeat (first | apply Kd.R_alloc | apply Kd.R_drewN | apply Kd.R_drew)); exact HO_7.out)) hk (fun k_ hk_ h_ => absurd hk_.1 (by first | exact h_.1.2 | exact h_.2 | exact h_.1.1.2))) (fun k_ hk_ => hk_.1.2)); have n9_ := Aside0.mk hb; clear hb hk HB HM2_; clear HO_4; clear HO_6; clear HO_7; clear HO434; have HO_4 := n0_; have HO_7 := n2_; have HB := n9_; clear n9_ n0_ n2_; (try clear hk); (try clear hi)))
            (try simp only [Act.put, List.setIfInBounds_toArray, List.set_cons_zero, List.set_cons_succ])
            go_cut [61] (fun v61 wc => ∃ (kq : Nat) (x61_25 : Bool), v61 = .bool x61_25 ∧ Aside0 (laws_FnExactCharacteristicOf.j1 kq l0 t420 t421 t427 x61_25 = some true) ∧ Aside0 (kq ≤ kj7) ∧ Aside0 (Kd.R (Kd.int .i64) 2 wc w.heap.size (fun k_ => some k_ ≠ (v429 : Value).ownBlock) v422 t420) ∧ Aside0 (Kd.R (Kd.int .i64) 2 wc w.heap.size (fun k_ => some k_ ≠ (v422 : Value).ownBlock) v429 t427) ∧ Aside0 (Below w.heap.size w wc))
            case first =>
              have H := HC26.out
              clear HC26
              by_cases c30 : t436 < 0
              · rw [if_pos c30] at H
                have c30b0 : decide (t436 < 0) = true := decide_eq_true c30
                clear c30
                (first | rw [c30b0] | (simp only [i64_w, i32_w]; rw [c30b0]) | skip)
                have H' := Aside0.mk H
                clear H
                go_wp2
                go_meet
                case rel => exact ⟨_, (true), (by first | rfl | (simp; done) | (simp [*]; done)), H', ⟨by have := HJ7.out; first | omega | exact Nat.le_refl _⟩, ⟨by (with_reducible repeat (first | apply Kd.R_alloc | apply Kd.R_drewN | apply Kd.R_drew)); exact HO_4.out⟩, ⟨by (with_reducible repeat (first | apply Kd.R_alloc | apply Kd.R_drewN | apply Kd.R_drew)); exact HO_7.out⟩, ⟨by repeat (first | (with_reducible first | exact HB.out | apply below_alloc | apply pw_below_drewN | apply below_drew1) | exact HB.out)⟩⟩
              · rw [if_neg c30] at H
                have c30b0 : decide (t436 < 0) = false := decide_eq_false c30
                clear c30
                (first | rw [c30b0] | (simp only [i64_w, i32_w]; rw [c30b0]) | skip)
                replace H := Option.bind_eq_some_iff.mp H
                obtain ⟨t437, A310, H⟩ := H
                replace H : (if t437 = true then (laws_FnExactCharacteristicOf.j1 kj7 l0 t420 t421 t427 (t428 != t421)) else (laws_FnExactCharacteristicOf.j1 kj7 l0 t420 t421 t427 true)) = some true := H
                have A31 := Aside0.mk A310
                clear A310
                by_cases c32 : t437 = true
                · subst c32
                  have H1 : (laws_FnExactCharacteristicOf.j1 kj7 l0 t420 t421 t427 (t428 != t421)) = some true := by first | (rw [if_pos rfl] at H; exact H) | rfl
                  clear H
                  have H := H1
                  clear H1
                  have H' := Aside0.mk H
                  clear H
                  obtain ⟨Ao33, co33, eo33⟩ := Kd.R_slice HO_7.out
                  subst eo33
                  obtain ⟨Ao34, co34, eo34⟩ := Kd.R_slice HO_4.out
                  subst eo34
                  go_wp2_with (first | (go_at_call 22; (with_reducible refine (laws_eqInt64S.calls kj7 _ _ t427 _ _ t420 true _ ?side1 ?side2 ?side3 ?side4 A31.out).mono ?_); (case side1 => repeat (first | exact (Kd.R_reads' HO_7.out).2.2 | (with_reducible refine Kd.C_alloc ?_ _) | (with_reducible refine Kd.C_drewN ?_ _) | (with_reducible refine Kd.C_drew ?_))); (case side2 => exact (Kd.R_reads' HO_7.out).2.1); (case side3 => repeat (first | exact (Kd.R_reads' HO_4.out).2.2 | (with_reducible refine Kd.C_alloc ?_ _) | (with_reducible refine Kd.C_drewN ?_ _) | (with_reducible refine Kd.C_drew ?_))); (case side4 => exact (Kd.R_reads' HO_4.out).2.1); rintro e w' ⟨rfl, ⟨nd, rfl⟩⟩))
                  go_meet
                  case rel => exact ⟨_, ((t428 != t421)), (by first | rfl | (simp; done) | (simp [*]; done)), H', ⟨by have := HJ7.out; first | omega | exact Nat.le_refl _⟩, ⟨by (with_reducible repeat (first | apply Kd.R_alloc | apply Kd.R_drewN | apply Kd.R_drew)); exact HO_4.out⟩, ⟨by (with_reducible repeat (first | apply Kd.R_alloc | apply Kd.R_drewN | apply Kd.R_drew)); exact HO_7.out⟩, ⟨by repeat (first | (with_reducible first | exact HB.out | apply below_alloc | apply pw_below_drewN | apply below_drew1) | exact HB.out)⟩⟩
                · replace c32 := Bool.eq_false_iff.mpr c32
                  subst c32
                  have H1 : (laws_FnExactCharacteristicOf.j1 kj7 l0 t420 t421 t427 true) = some true := by first | (rw [if_neg (show ¬ (false = true) by decide)] at H; exact H) | rfl
                  clear H
                  have H := H1
                  clear H1
                  have H' := Aside0.mk H
                  clear H
                  obtain ⟨Ao35, co35, eo35⟩ := Kd.R_slice HO_7.out
                  subst eo35
                  obtain ⟨Ao36, co36, eo36⟩ := Kd.R_slice HO_4.out
                  subst eo36
                  go_wp2_with (first | (go_at_call 22; (with_reducible refine (laws_eqInt64S.calls kj7 _ _ t427 _ _ t420 false _ ?side1 ?side2 ?side3 ?side4 A31.out).mono ?_); (case side1 => repeat (first | exact (Kd.R_reads' HO_7.out).2.2 | (with_reducible refine Kd.C_alloc ?_ _) | (with_reducible refine Kd.C_drewN ?_ _) | (with_reducible refine Kd.C_drew ?_))); (case side2 => exact (Kd.R_reads' HO_7.out).2.1); (case side3 => repeat (first | exact (Kd.R_reads' HO_4.out).2.2 | (with_reducible refine Kd.C_alloc ?_ _) | (with_reducible refine Kd.C_drewN ?_ _) | (with_reducible refine Kd.C_drew ?_))); (case side4 => exact (Kd.R_reads' HO_4.out).2.1); rintro e w' ⟨rfl, ⟨nd, rfl⟩⟩))
                  go_meet
                  case rel => exact ⟨_, (true), (by first | rfl | (simp; done) | (simp [*]; done)), H', ⟨by have := HJ7.out; first | omega | exact Nat.le_refl _⟩, ⟨by (with_reducible repeat (first | apply Kd.R_alloc | apply Kd.R_drewN | apply Kd.R_drew)); exact HO_4.out⟩, ⟨by (with_reducible repeat (first | apply Kd.R_alloc | apply Kd.R_drewN | apply Kd.R_drew)); exact HO_7.out⟩, ⟨by repeat (first | (with_reducible first | exact HB.out | apply below_alloc | apply pw_below_drewN | apply below_drew1) | exact HB.out)⟩⟩
            case rest =>
              clear HC26
              try clear c1
              try clear c2
              try clear p2
              try clear c3
              try clear c3b0
              try clear c5
              try clear c16
              try clear c18
              try clear c19
              try clear c20
              try clear c21
              try clear c22
              try clear c23
              try clear c24
              try clear c30
              try clear c30b0
              try clear c32
              try clear p2
              obtain ⟨kq, x61_25, rfl, HA, HJ25, HO_4, HO_7, HB⟩ := hcut
              cases kq with
              | zero => exact absurd HA.out (by simp [laws_FnExactCharacteristicOf.j1])
              | succ kj25 =>
                have H := HA.out
                clear HA
                simp only [laws_FnExactCharacteristicOf.j1] at H
                by_cases c37 : x61_25 = true
                · subst c37
                  have H1 : (some false) = some true := by first | (rw [if_pos rfl] at H; exact H) | rfl
                  clear H
                  have H := H1
                  clear H1
                  exact absurd H (by simp)
                · replace c37 := Bool.eq_false_iff.mpr c37
                  subst c37
                  have H1 : ((laws_markInt64S.f kj25 t427 1).bind fun bt438 => ((laws_heldInt64S.f kj25 bt438.2 1).bind fun t440 => (if t440 < 0 then (some false) else (if t440 = bt438.1 then ((laws_toInt64SS.f kj25 l0).bind fun t441 => ((impl_CharacteristicOf.f kj25 t441).bind fun bt444 => ((laws_eqInt64S.f kj25 bt444.1 t420).bind fun t448 => (if t448 = true then (laws_FnExactCharacteristicOf.j2 kj25 bt438.2 bt438.1 (bt444.2 != t421)) else (laws_FnExactCharacteristicOf.j2 kj25 bt438.2 bt438.1 true))))) else (some false))))) = some true := by first | (rw [if_neg (show ¬ (false = true) by decide)] at H; exact H) | rfl
                  clear H
                  have H := H1
                  clear H1
                  replace H := Option.bind_eq_some_iff.mp H
                  obtain ⟨⟨t438, t439⟩, A380, H⟩ := H
                  replace H : ((laws_heldInt64S.f kj25 t439 1).bind fun t440 => (if t440 < 0 then (some false) else (if t440 = t438 then ((laws_toInt64SS.f kj25 l0).bind fun t441 => ((impl_CharacteristicOf.f kj25 t441).bind fun bt444 => ((laws_eqInt64S.f kj25 bt444.1 t420).bind fun t448 => (if t448 = true then (laws_FnExactCharacteristicOf.j2 kj25 t439 t438 (bt444.2 != t421)) else (laws_FnExactCharacteristicOf.j2 kj25 t439 t438 true))))) else (some false)))) = some true := H
                  have A38 := Aside0.mk A380
                  clear A380
                  replace H := Option.bind_eq_some_iff.mp H
                  obtain ⟨t440, A390, H⟩ := H
                  replace H : (if t440 < 0 then (some false) else (if t440 = t438 then ((laws_toInt64SS.f kj25 l0).bind fun t441 => ((impl_CharacteristicOf.f kj25 t441).bind fun bt444 => ((laws_eqInt64S.f kj25 bt444.1 t420).bind fun t448 => (if t448 = true then (laws_FnExactCharacteristicOf.j2 kj25 t439 t438 (bt444.2 != t421)) else (laws_FnExactCharacteristicOf.j2 kj25 t439 t438 true))))) else (some false))) = some true := H
                  have A39 := Aside0.mk A390
                  clear A390
                  by_cases c40 : t440 < 0
                  · rw [if_pos c40] at H
                    have c40b0 : decide (t440 < 0) = true := decide_eq_true c40
                    clear c40
                    exact absurd H (by simp)
                  · rw [if_neg c40] at H
                    have c40b0 : decide (t440 < 0) = false := decide_eq_false c40
                    clear c40
                    by_cases c41 : t440 = t438
                    · rw [if_pos c41] at H
                      have c41b0 : (t440 == t438) = true := beq_iff_eq.mpr c41
                      have c41b1 : (t440 != t438) = false := bne_eq_false_iff_eq.mpr c41
                      clear c41
                      replace H := Option.bind_eq_some_iff.mp H
                      obtain ⟨t441, A420, H⟩ := H
                      replace H : ((impl_CharacteristicOf.f kj25 t441).bind fun bt444 => ((laws_eqInt64S.f kj25 bt444.1 t420).bind fun t448 => (if t448 = true then (laws_FnExactCharacteristicOf.j2 kj25 t439 t438 (bt444.2 != t421)) else (laws_FnExactCharacteristicOf.j2 kj25 t439 t438 true)))) = some true := H
                      have A42 := Aside0.mk A420
                      clear A420
                      replace H := Option.bind_eq_some_iff.mp H
                      obtain ⟨⟨t444, t445⟩, A430, H⟩ := H
                      replace H : ((laws_eqInt64S.f kj25 t444 t420).bind fun t448 => (if t448 = true then (laws_FnExactCharacteristicOf.j2 kj25 t439 t438 (t445 != t421)) else (laws_FnExactCharacteristicOf.j2 kj25 t439 t438 true))) = some true := H
                      have A43 := Aside0.mk A430
                      clear A430
                      have HC44 := Aside0.mk H
                      clear H
                      obtain ⟨Ao45, co45, eo45⟩ := Kd.R_slice HO_7.out
                      subst eo45
                      go_upto_region 25 with (first | ((with_reducible refine gate_callee (f := 25) rfl ?_); refine goesL_ (some 64) rfl rfl Try.func25 (by kernel_rfl) rfl #[.slice Ao45 t427.length co45, .int .i64 1] rfl (by (try simp only [List.map_toArray, List.map_cons, List.map_nil]); first | done | rfl | (simp only [List.length_drop, List.length_take]; rfl)) ?_; (with_reducible refine (laws_markInt64S.calls kj25 (fun k_ => some k_ = (.slice Ao45 t427.length co45 : Value).ownBlock) (.slice Ao45 t427.length co45) t427 1 t438 t439 w _ ?side1 ?side2 A38.out).mono ?_); (case side1 => repeat (first | (with_reducible first | exact HB.out | apply below_alloc | apply pw_below_drewN | apply below_drew1) | exact HB.out)); (case side2 => exact Kd.R_tight rfl HO_7.out); rintro e w46 ⟨rfl, hy0, hb, hkp⟩; refine ⟨_, rfl, ?_⟩; have n0_ := Aside0.mk (Kd.R_mono (ok' := fun k_ => some k_ ≠ (.slice Ao45 t427.length co45 : Value).ownBlock) (Kd.R_keptB (HO_4.out) hkp (fun k_ hk_ hs_ => (hk_) hs_)) (fun k_ hk_ => hk_.1)); have n1_ := Aside0.mk (Kd.R_reok rfl hy0 (fun k_ e_ => HO_7.out.1 k_ e_)); have n2_ := Aside0.mk (hb); clear HO_4; clear HO_7; clear HB; have HO_4 := n0_; have HO_7 := n1_; have HB := n2_; clear n0_ n1_ n2_; (try clear hb); (try clear hkp); (try clear hy0)) | ((with_reducible refine gate_callee (f := 26) rfl ?_); refine goesL_ (some 67) rfl rfl Try.func26 (by kernel_rfl) rfl #[.slice Ao45 t439.length co45, .int .i64 1] rfl (by (try simp only [List.map_toArray, List.map_cons, List.map_nil]); first | done | (rw [show t439.length = t427.length from (Kd.R_reads' HO_7.out).1.symm] <;> rfl) | rfl | (simp only [List.length_drop, List.length_take]; rfl)) ?_; (with_reducible refine (laws_heldInt64S.calls kj25 _ _ t439 1 t440 _ ?side1 ?side2 A39.out).mono ?_); (case side1 => repeat (first | exact (Kd.R_reads' HO_7.out).2.2 | (with_reducible refine Kd.C_alloc ?_ _) | (with_reducible refine Kd.C_drewN ?_ _) | (with_reducible refine Kd.C_drew ?_))); (case side2 => rw [show t439.length = t427.length from (Kd.R_reads' HO_7.out).1.symm]; exact (Kd.R_reads' HO_7.out).2.1); rintro e w' ⟨rfl, ⟨nd, rfl⟩⟩; refine ⟨_, rfl, ?_⟩) | ((with_reducible refine gate_callee (f := 20) rfl ?_); refine goesL_ (some 75) rfl rfl Try.func20 (by kernel_rfl) rfl #[.slice A0 l0.length c0] rfl (by (try simp only [List.map_toArray, List.map_cons, List.map_nil]); first | done | rfl | (simp only [List.length_drop, List.length_take]; rfl)) ?_; (with_reducible refine (laws_toInt64SS.calls kj25 _ _ l0 t441 _ ?side1 ?side2 A42.out).mono ?_); (case side1 => repeat (first | exact (Kd.C_below HR0.out (by repeat (first | (with_reducible first | exact HB.out | apply below_alloc | apply pw_below_drewN | apply below_drew1) | exact HB.out))) | (with_reducible refine Kd.C_alloc ?_ _) | (with_reducible refine Kd.C_drewN ?_ _) | (with_reducible refine Kd.C_drew ?_))); (case side2 => exact HC0.out); rintro e w47 ⟨v442, rfl, ho0, hb⟩; refine ⟨_, rfl, ?_⟩; have n0_ := Aside0.mk (Kd.R_below (by (with_reducible repeat (first | apply Kd.R_alloc | apply Kd.R_drewN | apply Kd.R_drew)); exact HO_4.out) hb); have n1_ := Aside0.mk (Kd.R_below (by (with_reducible repeat (first | apply Kd.R_alloc | apply Kd.R_drewN | apply Kd.R_drew)); exact HO_7.out) hb); have n2_ := Aside0.mk (Kd.S_lower (Kd.S_new' (Kd.S_new' ho0 (Kd.R_lt (by (with_reducible repeat (first | apply Kd.R_alloc | apply Kd.R_drewN | apply Kd.R_drew)); exact HO_4.out))) (Kd.R_lt (by (with_reducible repeat (first | apply Kd.R_alloc | apply Kd.R_drewN | apply Kd.R_drew)); exact HO_7.out))) (below_size (by repeat (first | (with_reducible first | exact HB.out | apply below_alloc | apply pw_below_drewN | apply below_drew1) | exact HB.out)))); have n3_ := Aside0.mk (below_step (by repeat (first | (with_reducible first | exact HB.out | apply below_alloc | apply pw_below_drewN | apply below_drew1) | exact HB.out)) hb); clear HO_4; clear HO_7; clear HB; have HO_4 := n0_; have HO_7 := n1_; have HO443 := n2_; have HB := n3_; clear n0_ n1_ n2_ n3_; (try clear hb); (try clear hb2); (try clear hk); (try clear hi); (try clear ho0); obtain ⟨Ao48, co48, eo48⟩ := Kd.S_slice HO443.out; subst eo48) | ((with_reducible refine gate_callee (f := 21) rfl ?_); refine goesL_ (some 76) rfl rfl Try.func21 (by kernel_rfl) rfl #[.slice Ao48 t441.length co48] rfl (by (try simp only [List.map_toArray, List.map_cons, List.map_nil]); first | done | rfl | (simp only [List.length_drop, List.length_take]; rfl)) ?_; (with_reducible refine (impl_CharacteristicOf.calls kj25 _ _ t441 t444 t445 _ ?side1 ?side2 A43.out).mono ?_); (case side1 => repeat (first | exact (Kd.S_reads' HO443.out).2.2 | (with_reducible refine Kd.C_alloc ?_ _) | (with_reducible refine Kd.C_drewN ?_ _) | (with_reducible refine Kd.C_drew ?_))); (case side2 => exact (Kd.S_reads' HO443.out).2.1); rintro e w49 ⟨v446, rfl, ho0, hb⟩; refine ⟨_, rfl, ?_⟩; have n0_ := Aside0.mk (Kd.R_elder' (by (with_reducible repeat (first | apply Kd.R_alloc | apply Kd.R_drewN | apply Kd.R_drew)); exact HO_4.out) (Kd.R_base ho0) hb); have n1_ := Aside0.mk (Kd.R_elder' (by (with_reducible repeat (first | apply Kd.R_alloc | apply Kd.R_drewN | apply Kd.R_drew)); exact HO_7.out) (Kd.R_base ho0) hb); have n2_ := Aside0.mk (Kd.S_elder' (by (with_reducible repeat (first | apply Kd.S_alloc | apply Kd.S_drewN | apply Kd.S_drew)); exact HO443.out) (Kd.R_base ho0) hb); have n3_ := Aside0.mk (Kd.R_lower (Kd.R_new' (Kd.R_new' ho0 (Kd.R_lt (by (with_reducible repeat (first | apply Kd.R_alloc | apply Kd.R_drewN | apply Kd.R_drew)); exact HO_4.out))) (Kd.R_lt (by (with_reducible repeat (first | apply Kd.R_alloc | apply Kd.R_drewN | apply Kd.R_drew)); exact HO_7.out))) (below_size (by repeat (first | (with_reducible first | exact HB.out | apply below_alloc | apply pw_below_drewN | apply below_drew1) | exact HB.out)))); have n4_ := Aside0.mk (below_step (by repeat (first | (with_reducible first | exact HB.out | apply below_alloc | apply pw_below_drewN | apply below_drew1) | exact HB.out)) hb); clear HO_4; clear HO_7; clear HO443; clear HB; have HO_4 := n0_; have HO_7 := n1_; have HO443 := n2_; have HO447 := n3_; have HB := n4_; clear n0_ n1_ n2_ n3_ n4_; (try clear hb); (try clear hb2); (try clear hk); (try clear hi); (try clear ho0)))
                      (try simp only [Act.put, List.setIfInBounds_toArray, List.set_cons_zero, List.set_cons_succ])
                      go_cut [87] (fun v87 wc => ∃ (kq : Nat) (x87_43 : Bool), v87 = .bool x87_43 ∧ Aside0 (laws_FnExactCharacteristicOf.j2 kq t439 t438 x87_43 = some true) ∧ Aside0 (kq ≤ kj25) ∧ Aside0 (Kd.R (Kd.int .i64) 2 wc w.heap.size (fun _ => True) (.slice Ao45 t427.length co45) t439) ∧ Aside0 (Below w.heap.size w wc))
                      case first =>
                        have H := HC44.out
                        clear HC44
                        replace H := Option.bind_eq_some_iff.mp H
                        obtain ⟨t448, A500, H⟩ := H
                        replace H : (if t448 = true then (laws_FnExactCharacteristicOf.j2 kj25 t439 t438 (t445 != t421)) else (laws_FnExactCharacteristicOf.j2 kj25 t439 t438 true)) = some true := H
                        have A50 := Aside0.mk A500
                        clear A500
                        by_cases c51 : t448 = true
                        · subst c51
                          have H1 : (laws_FnExactCharacteristicOf.j2 kj25 t439 t438 (t445 != t421)) = some true := by first | (rw [if_pos rfl] at H; exact H) | rfl
                          clear H
                          have H := H1
                          clear H1
                          have H' := Aside0.mk H
                          clear H
                          obtain ⟨Ao52, co52, eo52⟩ := Kd.R_slice HO447.out
                          subst eo52
                          obtain ⟨Ao53, co53, eo53⟩ := Kd.R_slice HO_4.out
                          subst eo53
                          go_wp2_with (first | ((with_reducible refine gate_callee (f := 22) rfl ?_); refine goesL_ (some 81) rfl rfl Try.func22 (by kernel_rfl) rfl #[.slice Ao52 t444.length co52, .slice Ao53 t420.length co53] rfl (by (try simp only [List.map_toArray, List.map_cons, List.map_nil]); first | done | rfl | (simp only [List.length_drop, List.length_take]; rfl)) ?_; (with_reducible refine (laws_eqInt64S.calls kj25 _ _ t444 _ _ t420 true _ ?side1 ?side2 ?side3 ?side4 A50.out).mono ?_); (case side1 => repeat (first | exact (Kd.R_reads' HO447.out).2.2 | (with_reducible refine Kd.C_alloc ?_ _) | (with_reducible refine Kd.C_drewN ?_ _) | (with_reducible refine Kd.C_drew ?_))); (case side2 => exact (Kd.R_reads' HO447.out).2.1); (case side3 => repeat (first | exact (Kd.R_reads' HO_4.out).2.2 | (with_reducible refine Kd.C_alloc ?_ _) | (with_reducible refine Kd.C_drewN ?_ _) | (with_reducible refine Kd.C_drew ?_))); (case side4 => exact (Kd.R_reads' HO_4.out).2.1); rintro e w' ⟨rfl, ⟨nd, rfl⟩⟩; refine ⟨_, rfl, ?_⟩))
                          go_meet
                          case rel => exact ⟨_, ((t445 != t421)), (by first | rfl | (simp; done) | (simp [*]; done)), H', ⟨by have := HJ7.out; have := HJ25.out; first | omega | exact Nat.le_refl _⟩, ⟨by (with_reducible repeat (first | apply Kd.R_alloc | apply Kd.R_drewN | apply Kd.R_drew)); exact Kd.R_mono HO_7.out (fun _ hk => trivial)⟩, ⟨by repeat (first | (with_reducible first | exact HB.out | apply below_alloc | apply pw_below_drewN | apply below_drew1) | exact HB.out)⟩⟩
                        · replace c51 := Bool.eq_false_iff.mpr c51
                          subst c51
                          have H1 : (laws_FnExactCharacteristicOf.j2 kj25 t439 t438 true) = some true := by first | (rw [if_neg (show ¬ (false = true) by decide)] at H; exact H) | rfl
                          clear H
                          have H := H1
                          clear H1
                          have H' := Aside0.mk H
                          clear H
                          obtain ⟨Ao54, co54, eo54⟩ := Kd.R_slice HO447.out
                          subst eo54
                          obtain ⟨Ao55, co55, eo55⟩ := Kd.R_slice HO_4.out
                          subst eo55
                          go_wp2_with (first | ((with_reducible refine gate_callee (f := 22) rfl ?_); refine goesL_ (some 81) rfl rfl Try.func22 (by kernel_rfl) rfl #[.slice Ao54 t444.length co54, .slice Ao55 t420.length co55] rfl (by (try simp only [List.map_toArray, List.map_cons, List.map_nil]); first | done | rfl | (simp only [List.length_drop, List.length_take]; rfl)) ?_; (with_reducible refine (laws_eqInt64S.calls kj25 _ _ t444 _ _ t420 false _ ?side1 ?side2 ?side3 ?side4 A50.out).mono ?_); (case side1 => repeat (first | exact (Kd.R_reads' HO447.out).2.2 | (with_reducible refine Kd.C_alloc ?_ _) | (with_reducible refine Kd.C_drewN ?_ _) | (with_reducible refine Kd.C_drew ?_))); (case side2 => exact (Kd.R_reads' HO447.out).2.1); (case side3 => repeat (first | exact (Kd.R_reads' HO_4.out).2.2 | (with_reducible refine Kd.C_alloc ?_ _) | (with_reducible refine Kd.C_drewN ?_ _) | (with_reducible refine Kd.C_drew ?_))); (case side4 => exact (Kd.R_reads' HO_4.out).2.1); rintro e w' ⟨rfl, ⟨nd, rfl⟩⟩; refine ⟨_, rfl, ?_⟩))
                          go_meet
                          case rel => exact ⟨_, (true), (by first | rfl | (simp; done) | (simp [*]; done)), H', ⟨by have := HJ7.out; have := HJ25.out; first | omega | exact Nat.le_refl _⟩, ⟨by (with_reducible repeat (first | apply Kd.R_alloc | apply Kd.R_drewN | apply Kd.R_drew)); exact Kd.R_mono HO_7.out (fun _ hk => trivial)⟩, ⟨by repeat (first | (with_reducible first | exact HB.out | apply below_alloc | apply pw_below_drewN | apply below_drew1) | exact HB.out)⟩⟩
                      case rest =>
                        clear HC44
                        try clear c1
                        try clear c2
                        try clear p2
                        try clear c3
                        try clear c3b0
                        try clear c4
                        try clear c5
                        try clear c16
                        try clear c18
                        try clear c19
                        try clear c20
                        try clear c21
                        try clear c22
                        try clear c23
                        try clear c24
                        try clear c25
                        try clear c26
                        try clear c30
                        try clear c30b0
                        try clear c32
                        try clear c37
                        try clear c40
                        try clear c40b0
                        try clear c41
                        try clear c41b0
                        try clear c41b1
                        try clear c51
                        try clear p2
                        obtain ⟨kq, x87_43, rfl, HA, HJ43, HO_7, HB⟩ := hcut
                        have hl7_43 := (Kd.R_reads' HO_7.out).1
                        rw [hl7_43] at HO_7
                        (try simp only [hl7_43])
                        cases kq with
                        | zero => exact absurd HA.out (by simp [laws_FnExactCharacteristicOf.j2])
                        | succ kj43 =>
                          have H := HA.out
                          clear HA
                          simp only [laws_FnExactCharacteristicOf.j2] at H
                          by_cases c56 : x87_43 = true
                          · subst c56
                            have H1 : (some false) = some true := by first | (rw [if_pos rfl] at H; exact H) | rfl
                            clear H
                            have H := H1
                            clear H1
                            exact absurd H (by simp)
                          · replace c56 := Bool.eq_false_iff.mpr c56
                            subst c56
                            have H1 : ((laws_heldInt64S.f kj43 t439 1).bind fun t449 => (if t449 < 0 then (some false) else (if t449 = t438 then (some true) else (some false)))) = some true := by first | (rw [if_neg (show ¬ (false = true) by decide)] at H; exact H) | rfl
                            clear H
                            have H := H1
                            clear H1
                            replace H := Option.bind_eq_some_iff.mp H
                            obtain ⟨t449, A570, H⟩ := H
                            replace H : (if t449 < 0 then (some false) else (if t449 = t438 then (some true) else (some false))) = some true := H
                            have A57 := Aside0.mk A570
                            clear A570
                            by_cases c58 : t449 < 0
                            · rw [if_pos c58] at H
                              have c58b0 : decide (t449 < 0) = true := decide_eq_true c58
                              clear c58
                              exact absurd H (by simp)
                            · rw [if_neg c58] at H
                              have c58b0 : decide (t449 < 0) = false := decide_eq_false c58
                              clear c58
                              by_cases c59 : t449 = t438
                              · rw [if_pos c59] at H
                                have c59b0 : (t449 == t438) = true := beq_iff_eq.mpr c59
                                have c59b1 : (t449 != t438) = false := bne_eq_false_iff_eq.mpr c59
                                clear c59
                                clear H
                                go_wp2_with (first | ((with_reducible refine gate_callee (f := 26) rfl ?_); refine goesL_ (some 90) rfl rfl Try.func26 (by kernel_rfl) rfl #[.slice Ao45 t439.length co45, .int .i64 1] rfl (by (try simp only [List.map_toArray, List.map_cons, List.map_nil]); first | done | rfl | (simp only [List.length_drop, List.length_take]; rfl)) ?_; (with_reducible refine (laws_heldInt64S.calls kj43 _ _ t439 1 t449 _ ?side1 ?side2 A57.out).mono ?_); (case side1 => repeat (first | exact (Kd.R_reads' HO_7.out).2.2 | (with_reducible refine Kd.C_alloc ?_ _) | (with_reducible refine Kd.C_drewN ?_ _) | (with_reducible refine Kd.C_drew ?_))); (case side2 => exact (Kd.R_reads' HO_7.out).2.1); rintro e w' ⟨rfl, ⟨nd, rfl⟩⟩; refine ⟨_, rfl, ?_⟩))
                                go_ret
                                exact ⟨by first | rfl | (simp [errW_none, errW_some] <;> rfl) | (simp [*, errW_none, errW_some] <;> rfl), by repeat (first | (with_reducible first | exact HB.out | apply below_alloc | apply pw_below_drewN | apply below_drew1) | exact HB.out)⟩
                              · rw [if_neg c59] at H
                                have c59b0 : (t449 == t438) = false := beq_eq_false_iff_ne.mpr c59
                                have c59b1 : (t449 != t438) = true := bne_iff_ne.mpr c59
                                exact absurd H (by simp)
                    · rw [if_neg c41] at H
                      have c41b0 : (t440 == t438) = false := beq_eq_false_iff_ne.mpr c41
                      have c41b1 : (t440 != t438) = true := bne_iff_ne.mpr c41
                      exact absurd H (by simp)
          · replace c24 := Bool.eq_false_iff.mpr c24
            subst c24
            have H1 : (some false) = some true := by first | (rw [if_neg (show ¬ (false = true) by decide)] at H; exact H) | rfl
            clear H
            have H := H1
            clear H1
            exact absurd H (by simp)

end Go.Proofs.Ytngffoffjiofbaa.Q
end
section
/- Angles as fractions in lowest terms: plain arithmetic, no program. -/
namespace Go.Proofs.Ytngffoffjiofbaa.Ang
/-- A part of a turn, without whole turns, in lowest terms. -/
def ang (n d : Int) : Int × Int := ((n % d) / Int.gcd (n % d) d, d / Int.gcd (n % d) d)
/-- Is it an angle. -/
def isA (n d : Int) : Bool := decide (1 ≤ d ∧ d ≤ 8191 ∧ 0 ≤ n ∧ n ≤ d - 1 ∧ Int.gcd n d = 1)
/-- Is it an angle but for the bound on its Den. -/
def wide (n d : Int) : Prop := 1 ≤ d ∧ 0 ≤ n ∧ n < d ∧ Int.gcd n d = 1

theorem isA_iff {n d : Int} : isA n d = true ↔ 1 ≤ d ∧ d ≤ 8191 ∧ 0 ≤ n ∧ n ≤ d - 1 ∧ Int.gcd n d = 1 := by simp [isA]
theorem isA_wide {n d : Int} (h : isA n d = true) : wide n d := by
  obtain ⟨a, b, c, e, f⟩ := isA_iff.1 h
  exact ⟨a, c, by omega, f⟩

theorem gcd_pos {n d : Int} (hd : 0 < d) : (0 : Int) < (Int.gcd n d : Int) := by
  have := Int.gcd_pos_iff.2 (show n ≠ 0 ∨ d ≠ 0 from .inr (by omega))
  omega
theorem gcd_le {n d : Int} (hd : 0 < d) : (Int.gcd n d : Int) ≤ d := by
  exact Int.le_of_dvd hd (Int.gcd_dvd_right _ _)

theorem ang_den_pos {n d : Int} (hd : 0 < d) : 0 < (ang n d).2 := by
  have h1 := gcd_pos (n := n % d) hd
  have h2 := gcd_le (n := n % d) hd
  exact Int.ediv_pos_of_pos_of_dvd hd (by omega) (Int.gcd_dvd_right _ _)

theorem ang_den_le {n d : Int} (hd : 0 < d) : (ang n d).2 ≤ d := Int.ediv_le_self _ (by omega)

/-- The two parts, times the divisor. -/
theorem ang_mul {n d : Int} (hd : 0 < d) : ∃ g : Int, 0 < g ∧ (ang n d).1 * g = n % d ∧ (ang n d).2 * g = d := by
  refine ⟨Int.gcd (n % d) d, gcd_pos hd, ?_, ?_⟩
  · exact Int.ediv_mul_cancel (Int.gcd_dvd_left _ _)
  · exact Int.ediv_mul_cancel (Int.gcd_dvd_right _ _)

theorem ang_wide {n d : Int} (hd : 0 < d) : wide (ang n d).1 (ang n d).2 := by
  obtain ⟨g, hg, h1, h2⟩ := ang_mul (n := n) hd
  have hn := Int.emod_nonneg n (show d ≠ 0 by omega)
  have hl := Int.emod_lt_of_pos n hd
  have hp := ang_den_pos (n := n) hd
  have hn0 : 0 ≤ (ang n d).1 := by
    unfold ang
    exact Int.ediv_nonneg hn (by omega)
  refine ⟨by omega, hn0, ?_, ?_⟩
  · have : (ang n d).1 * g < (ang n d).2 * g := by omega
    exact (Int.mul_lt_mul_right hg).1 this
  · unfold ang
    have hg2 := gcd_pos (n := n % d) hd
    rw [Int.gcd_ediv (Int.gcd_dvd_left _ _) (Int.gcd_dvd_right _ _), Int.natAbs_natCast]
    exact Nat.div_self (by omega)

/-- What is in lowest terms is told as it is. -/
theorem ang_self {n d : Int} (h : wide n d) : ang n d = (n, d) := by
  obtain ⟨h1, h2, h3, h4⟩ := h
  unfold ang
  rw [Int.emod_eq_of_lt h2 h3, h4]
  simp

/-- What two have in common falls away. -/
theorem ang_scale {g n d : Int} (hg : 0 < g) (hd : 0 < d) : ang (g * n) (g * d) = ang n d := by
  unfold ang
  rw [Int.mul_emod_mul_of_pos _ _ hg, Int.gcd_mul_left]
  have hgg := gcd_pos (n := n % d) hd
  have e : ((g.natAbs * Int.gcd (n % d) d : Nat) : Int) = g * (Int.gcd (n % d) d : Int) := by
    rw [Int.natCast_mul, Int.natAbs_of_nonneg (by omega)]
  rw [e, Int.mul_ediv_mul_of_pos _ _ hg, Int.mul_ediv_mul_of_pos _ _ hg]

theorem ang_emod {n d : Int} : ang (n % d) d = ang n d := by
  unfold ang
  rw [Int.emod_emod_of_dvd _ (Int.dvd_refl d)]

theorem ang_congr {n m d : Int} (h : n % d = m % d) : ang n d = ang m d := by
  unfold ang
  rw [h]

/-- Two in lowest terms of one size are one. -/
theorem wide_eq {a b c d : Int} (h : wide a b) (k : wide c d) (e : a * d = c * b) : a = c ∧ b = d := by
  have h1 := ang_self h
  have h2 := ang_self k
  have e1 : ang (d * a) (d * b) = (a, b) := by rw [ang_scale (by have := k.1; omega) (by have := h.1; omega), h1]
  have e2 : ang (b * c) (b * d) = (c, d) := by rw [ang_scale (by have := h.1; omega) (by have := k.1; omega), h2]
  rw [show d * a = b * c by rw [Int.mul_comm, e, Int.mul_comm], show d * b = b * d from Int.mul_comm _ _, e2] at e1
  simp only [Prod.mk.injEq] at e1
  exact ⟨e1.1.symm, e1.2.symm⟩

/-- Back from an angle forward: the angle that is lacking. -/
theorem ang_neg {n d : Int} (hd : 0 < d) : ang (-(ang n d).1) (ang n d).2 = ang (-n) d := by
  obtain ⟨g, hg, h1, h2⟩ := ang_mul (n := n) hd
  rw [← ang_scale hg (ang_den_pos hd)]
  have e1 : g * -(ang n d).1 = -(n % d) := by rw [← h1]; grind
  have e2 : g * (ang n d).2 = d := by rw [Int.mul_comm]; exact h2
  rw [e1, e2]
  apply ang_congr
  have := Int.emod_add_mul_ediv n d
  have e3 : -(n % d) = -n + d * (n / d) := by omega
  rw [e3, Int.add_mul_emod_self_left]

/-- Is the first less. -/
def lt (a b : Int × Int) : Prop := a.1 * b.2 < b.1 * a.2
instance (a b : Int × Int) : Decidable (lt a b) := by unfold lt; exact inferInstance

theorem lt_irrefl (a : Int × Int) : ¬ lt a a := by unfold lt; omega
theorem lt_asymm {a b : Int × Int} (h : lt a b) : ¬ lt b a := by unfold lt at *; omega
theorem lt_trans {a b c : Int × Int} (ha : 0 < a.2) (hb : 0 < b.2) (hc : 0 < c.2) (h : lt a b) (k : lt b c) : lt a c := by
  unfold lt at *
  have h1 : a.1 * b.2 * c.2 < b.1 * a.2 * c.2 := (Int.mul_lt_mul_right hc).2 h
  have h2 : b.1 * c.2 * a.2 < c.1 * b.2 * a.2 := (Int.mul_lt_mul_right ha).2 k
  have h3 : a.1 * c.2 * b.2 < c.1 * a.2 * b.2 := by
    have e1 : a.1 * c.2 * b.2 = a.1 * b.2 * c.2 := by grind
    have e2 : b.1 * a.2 * c.2 = b.1 * c.2 * a.2 := by grind
    have e3 : c.1 * a.2 * b.2 = c.1 * b.2 * a.2 := by grind
    omega
  exact (Int.mul_lt_mul_right hb).1 h3
theorem lt_or {a b : Int × Int} (ha : wide a.1 a.2) (hb : wide b.1 b.2) (h : a ≠ b) : lt a b ∨ lt b a := by
  unfold lt
  by_cases e : a.1 * b.2 = b.1 * a.2
  · obtain ⟨e1, e2⟩ := wide_eq ha hb e
    exact absurd (Prod.ext e1 e2) h
  · omega

/-- The angle from a forward to b. -/
def fwd (a b : Int × Int) : Int × Int := ang (b.1 * a.2 - a.1 * b.2) (b.2 * a.2)

/-- How far it is forward, in parts of the turn. -/
theorem fwd_val {a b : Int × Int} (ha : wide a.1 a.2) (hb : wide b.1 b.2) :
    (b.1 * a.2 - a.1 * b.2) % (b.2 * a.2) = b.1 * a.2 - a.1 * b.2 + (if lt b a then b.2 * a.2 else 0) := by
  obtain ⟨a1, a2, a3, _⟩ := ha
  obtain ⟨b1, b2, b3, _⟩ := hb
  have p1 : b.1 * a.2 < b.2 * a.2 := (Int.mul_lt_mul_right (by omega)).2 b3
  have p2 : a.1 * b.2 < b.2 * a.2 := by rw [Int.mul_comm b.2]; exact (Int.mul_lt_mul_right (by omega)).2 a3
  have p3 : 0 ≤ b.1 * a.2 := Int.mul_nonneg b2 (by omega)
  have p4 : 0 ≤ a.1 * b.2 := Int.mul_nonneg a2 (by omega)
  by_cases h : lt b a
  · rw [if_pos h]
    unfold lt at h
    rw [← Int.add_emod_right, Int.emod_eq_of_lt (by omega) (by omega)]
  · rw [if_neg h]
    unfold lt at h
    rw [Int.emod_eq_of_lt (by omega) (by omega)]
    omega

/-- Of two that differ from a and from each other, the one behind the other in the arc. -/
theorem fwd_lt {a b c : Int × Int} (ha : wide a.1 a.2) (hb : wide b.1 b.2) (hc : wide c.1 c.2) :
    lt (fwd a b) (fwd a c) ↔ (if lt b a then (if lt c a then lt b c else False) else (if lt c a then True else lt b c)) := by
  have A := ha.1; have B := hb.1; have C := hc.1
  have hba : 0 < b.2 * a.2 := Int.mul_pos (by omega) (by omega)
  have hca : 0 < c.2 * a.2 := Int.mul_pos (by omega) (by omega)
  obtain ⟨g, hg, g1, g2⟩ := ang_mul (n := b.1 * a.2 - a.1 * b.2) hba
  obtain ⟨h, hh, h1, h2⟩ := ang_mul (n := c.1 * a.2 - a.1 * c.2) hca
  rw [fwd_val ha hb] at g1
  rw [fwd_val ha hc] at h1
  have key : lt (fwd a b) (fwd a c) ↔ (b.1 * a.2 - a.1 * b.2 + (if lt b a then b.2 * a.2 else 0)) * (c.2 * a.2) < (c.1 * a.2 - a.1 * c.2 + (if lt c a then c.2 * a.2 else 0)) * (b.2 * a.2) := by
    have e0 : (fwd a b).1 * g = _ := g1
    have e1 : (fwd a b).2 * g = b.2 * a.2 := g2
    have e3 : (fwd a c).1 * h = _ := h1
    have e2 : (fwd a c).2 * h = c.2 * a.2 := h2
    rw [← e0, ← e3, ← e1, ← e2]
    unfold lt
    have f1 : (fwd a b).1 * g * ((fwd a c).2 * h) = (fwd a b).1 * (fwd a c).2 * (g * h) := by grind
    have f2 : (fwd a c).1 * h * ((fwd a b).2 * g) = (fwd a c).1 * (fwd a b).2 * (g * h) := by grind
    rw [f1, f2]
    exact (Int.mul_lt_mul_right (Int.mul_pos hg hh)).symm
  rw [key]
  have fac : ∀ (x y : Int), (b.1 * a.2 - a.1 * b.2 + x * (b.2 * a.2)) * (c.2 * a.2) < (c.1 * a.2 - a.1 * c.2 + y * (c.2 * a.2)) * (b.2 * a.2) ↔ b.1 * c.2 + x * (b.2 * c.2) < c.1 * b.2 + y * (b.2 * c.2) := by
    intro x y
    have f1 : (b.1 * a.2 - a.1 * b.2 + x * (b.2 * a.2)) * (c.2 * a.2) = (b.1 * c.2 + x * (b.2 * c.2)) * (a.2 * a.2) - a.1 * b.2 * (c.2 * a.2) := by grind
    have f2 : (c.1 * a.2 - a.1 * c.2 + y * (c.2 * a.2)) * (b.2 * a.2) = (c.1 * b.2 + y * (b.2 * c.2)) * (a.2 * a.2) - a.1 * b.2 * (c.2 * a.2) := by grind
    rw [f1, f2]
    have hp : 0 < a.2 * a.2 := Int.mul_pos (by omega) (by omega)
    have z := Int.mul_lt_mul_right (b := b.1 * c.2 + x * (b.2 * c.2)) (c := c.1 * b.2 + y * (b.2 * c.2)) hp
    omega
  have bc : 0 < b.2 * c.2 := Int.mul_pos (by omega) (by omega)
  have q1 : b.1 * c.2 < b.2 * c.2 := (Int.mul_lt_mul_right (by omega)).2 hb.2.2.1
  have q2 : c.1 * b.2 < b.2 * c.2 := by rw [Int.mul_comm b.2]; exact (Int.mul_lt_mul_right (by omega)).2 hc.2.2.1
  have q3 : 0 ≤ b.1 * c.2 := Int.mul_nonneg hb.2.1 (by omega)
  have q4 : 0 ≤ c.1 * b.2 := Int.mul_nonneg hc.2.1 (by omega)
  have ee : ∀ (p : Prop) [Decidable p] (z : Int), (if p then z else 0) = (if p then 1 else 0) * z := by
    intro p _ z
    split <;> simp
  rw [ee (lt b a), ee (lt c a), fac]
  by_cases u : lt b a <;> by_cases v : lt c a <;> simp only [u, v, if_true, if_false, iff_true, iff_false] <;> (try unfold lt) <;> omega

/-- Is x in the arc from a to b (as the document's reference has it). -/
def within (x a b : Int × Int) : Bool := if lt a b then decide (lt a x) && decide (lt x b) else decide (lt a x) || decide (lt x b)

/-- The cyclic order by what is forward, and by arcs. -/
theorem order_within {a b c : Int × Int} (ha : wide a.1 a.2) (hb : wide b.1 b.2) (hc : wide c.1 c.2) (hab : a ≠ b) (hbc : b ≠ c) (hac : a ≠ c) :
    decide (lt (fwd a b) (fwd a c)) = within b a c := by
  have h := fwd_lt ha hb hc
  have t1 := lt_or ha hb hab
  have t2 := lt_or hb hc hbc
  have t3 := lt_or ha hc hac
  have s1 : ¬ (lt a b ∧ lt b a) := fun z => lt_asymm z.1 z.2
  have s2 : ¬ (lt b c ∧ lt c b) := fun z => lt_asymm z.1 z.2
  have s3 : ¬ (lt a c ∧ lt c a) := fun z => lt_asymm z.1 z.2
  unfold within
  by_cases u : lt a b <;> by_cases v : lt b a <;> by_cases p : lt b c <;> by_cases q : lt c b <;> by_cases m : lt a c <;> by_cases n : lt c a <;> simp_all

theorem order_within_ne {a b c : Int × Int} (ha : wide a.1 a.2) (hb : wide b.1 b.2) (hc : wide c.1 c.2) (hac : a ≠ c) (h : within b a c = true) : a ≠ b ∧ b ≠ c := by
  unfold within at h
  have t3 := lt_or ha hc hac
  constructor
  · rintro rfl
    have := lt_irrefl a
    by_cases u : lt a c
    · simp [u, this] at h
    · simp [u, this] at h
  · rintro rfl
    have := lt_irrefl b
    by_cases u : lt a b
    · simp [u, this] at h
    · simp [u, this] at h

/-! A number that all dens divide: sizes as whole numbers. -/
theorem exists_mult : ∀ n : Nat, ∃ L : Int, 0 < L ∧ ∀ d : Int, 1 ≤ d → d ≤ n → d ∣ L
  | 0 => ⟨1, by omega, fun d h1 h2 => by omega⟩
  | n + 1 => by
    obtain ⟨L, hL, h⟩ := exists_mult n
    refine ⟨L * (n + 1 : Nat), Int.mul_pos hL (by omega), fun d h1 h2 => ?_⟩
    by_cases e : d = (n + 1 : Nat)
    · subst e
      exact Int.dvd_mul_left _ _
    · exact Int.dvd_trans (h d h1 (by omega)) (Int.dvd_mul_right _ _)
def denMax : Nat := 1152921504606846976
noncomputable def bigL : Int := Classical.choose (exists_mult denMax)
theorem bigL_pos : 0 < bigL := (Classical.choose_spec (exists_mult denMax)).1
theorem bigL_dvd {d : Int} (h1 : 1 ≤ d) (h2 : d ≤ denMax) : d ∣ bigL := (Classical.choose_spec (exists_mult denMax)).2 d h1 h2
/-- The size of an angle, as a whole number. -/
noncomputable def key (a : Int × Int) : Int := a.1 * (bigL / a.2)
theorem lt_key {a b : Int × Int} (ha : 1 ≤ a.2) (ha' : a.2 ≤ denMax) (hb : 1 ≤ b.2) (hb' : b.2 ≤ denMax) : lt a b ↔ key a < key b := by
  have h1 : bigL / a.2 * a.2 = bigL := Int.ediv_mul_cancel (bigL_dvd ha ha')
  have h2 : bigL / b.2 * b.2 = bigL := Int.ediv_mul_cancel (bigL_dvd hb hb')
  have hp : 0 < a.2 * b.2 := Int.mul_pos (by omega) (by omega)
  have z := Int.mul_lt_mul_right (b := key a) (c := key b) hp
  have e1 : key a * (a.2 * b.2) = (a.1 * b.2) * bigL := by unfold key; rw [← h1]; grind
  have e2 : key b * (a.2 * b.2) = (b.1 * a.2) * bigL := by unfold key; rw [← h2]; grind
  rw [e1, e2, Int.mul_lt_mul_right bigL_pos] at z
  exact z
theorem key_inj {a b : Int × Int} (ha : wide a.1 a.2) (ha' : a.2 ≤ denMax) (hb : wide b.1 b.2) (hb' : b.2 ≤ denMax) : key a = key b ↔ a = b := by
  constructor
  · intro h
    by_cases e : a = b
    · exact e
    · rcases lt_or ha hb e with z | z
      · rw [lt_key ha.1 ha' hb.1 hb'] at z; omega
      · rw [lt_key hb.1 hb' ha.1 ha'] at z; omega
  · rintro rfl; rfl

/-- Two leaves cross, asked from either one: in whole numbers. -/
theorem cross_int (P Q R S : Int) (h : P < Q) (k : R < S) :
    (((if P = R ∨ R = Q ∨ P = Q then (0:Int) else if (if P < Q then decide (P < R) && decide (R < Q) else decide (P < R) || decide (R < Q)) = true then 1 else -1) * (if P = S ∨ S = Q ∨ P = Q then (0:Int) else if (if P < Q then decide (P < S) && decide (S < Q) else decide (P < S) || decide (S < Q)) = true then 1 else -1)) == -1)
      = (if P = R ∨ P = S ∨ Q = R ∨ Q = S then false else ((if R < S then decide (R < P) && decide (P < S) else decide (R < P) || decide (P < S)) != (if R < S then decide (R < Q) && decide (Q < S) else decide (R < Q) || decide (Q < S)))) := by
  rcases Int.lt_trichotomy P R with a | a | a <;> rcases Int.lt_trichotomy P S with b | b | b <;> rcases Int.lt_trichotomy Q R with c | c | c <;> rcases Int.lt_trichotomy Q S with d | d | d <;> first | omega | (simp [h, k, a, b, c, d, Int.lt_asymm a, Int.lt_asymm b, Int.lt_asymm c, Int.lt_asymm d, Int.ne_of_lt]; done) | (simp_all; omega) | grind
end Go.Proofs.Ytngffoffjiofbaa.Ang
end
section
-- By wip/hyb/hyb.py of this session, over the kit's print.py
namespace Go.Proofs.Ytngffoffjiofbaa.Q
open Go.Proofs.YtngffoffjiofbaaW.Ext
open Go.RowKit Go.Proofs.YtngffoffjiofbaaW.PrintWords Go.Proofs.YtngffoffjiofbaaW.PrintLast Go.Proofs.YtngffoffjiofbaaW.PrintMore
attribute [local go_sem] max2_int min2_int max_two min_two max_three min_three max_four min_four   -- for this text's walks alone
set_option linter.unusedVariables false
set_option linter.unusedSimpArgs false

/-! ### areAll at Angle, and what it calls -/
set_option maxHeartbeats 1000000 in
theorem indexFunc_Angle.calls (g : Nat) (lb : Array Value) (eg : ∀ args w, (callFunc g args).run Try.prog w = .ok (.enter g args) w) (p : S51 → Option Bool) (A0 : Option Addr) (c0 : Nat) (l0 : List S51) (r : Int) (w : World)
    (hr0 : Kd.C k51 w A0 l0.length l0) (hc0 : l0.length ≤ c0)
    (hp : ∀ W x b, Below w.heap.size w W → p x = some b → Calls Try.prog g (#[.agg #[.int .i64 x.f0, .int .i64 x.f1]] ++ lb) W fun e w' => e = .returned (.bool b) ∧ Below W.heap.size W w')
    (h : idxGo p 0 l0 = some r) :
    Calls Try.prog 105 #[.slice A0 l0.length c0, .func (.func g) #[] lb] w fun e w' => e = .returned (.int .i64 r) ∧ Below w.heap.size w w' := by
  have hm := Kd.C_max hr0
  have HR := Aside0.mk hr0
  have H0 := Aside0.mk h
  have HP := Aside0.mk hp
  clear hr0 h hp
  go_enter Try.func105, Try.ntmps105
  go_wp2
  go_loopg [8] l0.length (fun gg i wr => ∃ k : Nat, k ≤ l0.length ∧ l0.length - k ≤ gg ∧ i = .int .i64 k ∧ Aside0 (idxGo p k (l0.drop k) = some r) ∧ Aside0 (Below w.heap.size w wr))
  case atStart => exact ⟨0, Nat.zero_le _, by omega, rfl, Aside0.mk (by simpa using H0.out), Aside0.mk (Below.refl _ _)⟩
  case round =>
    obtain ⟨k, hk, hg, rfl, HJ, HB⟩ := hrel
    clear H0
    by_cases hlt : k < l0.length
    · have hlti : (k : Int) < (l0.length : Int) := by omega
      obtain ⟨b, hb, hstep⟩ := idxGo_drop p l0 k k r hlt HJ.out
      obtain ⟨ad, e, e0, e1⟩ := at_T51 (Kd.C_below HR.out HB.out) (k : Int) (by omega) hlti
      have hx : rd_T51 l0 (k : Int) = l0[k] := by simp [rd_T51, hlt]
      rw [hx] at e0 e1
      simp only [Int.toNat_natCast] at e0 e1
      generalize l0[k] = x at hb e0 e1
      have hcall := HP.out wr x b HB.out hb
      subst e
      rcases hstep with ⟨rfl, rfl⟩ | ⟨rfl, hj⟩
      · have HC := Aside0.mk hcall
        have HB1 := HB.out
        clear hcall hb hx HP HJ
        go_wp2_with (go_at_fn g; refine HC.out.mono ?_; rintro e w' ⟨rfl, hb'⟩)
        go_ret
        exact ⟨rfl, HB1.trans (hb'.mono HB1.size)⟩
      · have HC := Aside0.mk hcall
        have HJ2 := Aside0.mk hj
        clear hcall hb hx hj
        go_wp2_with (go_at_fn g; refine HC.out.mono ?_; rintro e w' ⟨rfl, hb'⟩)
        go_roundg (l0.length - (k + 1))
        case measure => omega
        case rel => exact ⟨k + 1, by omega, by omega, by go_num, ⟨by simpa using HJ2.out⟩, ⟨HB.out.trans (hb'.mono HB.out.size)⟩⟩
    · have hlti : ¬ (k : Int) < (l0.length : Int) := by omega
      have hr : r = -1 := idxGo_end p l0 k k r (by omega) HJ.out
      have HR1 := Aside0.mk hr
      have HB1 := HB.out
      clear hr HP HJ
      go_wp2
      go_ret
      exact ⟨by rw [HR1.out]; rfl, HB1⟩
set_option maxHeartbeats 1000000 in
theorem containsFunc_Angle.calls (g : Nat) (lb : Array Value) (eg : ∀ args w, (callFunc g args).run Try.prog w = .ok (.enter g args) w) (p : S51 → Option Bool) (A0 : Option Addr) (c0 : Nat) (l0 : List S51) (r : Int) (w : World)
    (hr0 : Kd.C k51 w A0 l0.length l0) (hc0 : l0.length ≤ c0)
    (hp : ∀ W x b, Below w.heap.size w W → p x = some b → Calls Try.prog g (#[.agg #[.int .i64 x.f0, .int .i64 x.f1]] ++ lb) W fun e w' => e = .returned (.bool b) ∧ Below W.heap.size W w')
    (h : idxGo p 0 l0 = some r) :
    Calls Try.prog 102 #[.slice A0 l0.length c0, .func (.func g) #[] lb] w fun e w' => e = .returned (.bool (decide (0 ≤ r))) ∧ Below w.heap.size w w' := by
  have hcon := indexFunc_Angle.calls g lb eg p A0 c0 l0 r w hr0 hc0 hp h
  have HC := Aside0.mk hcon
  clear hcon hp h hr0
  go_enter Try.func102, Try.ntmps102
  go_wp2_with (go_at_call 105; refine HC.out.mono ?_; rintro e w' ⟨rfl, hb'⟩)
  go_ret
  exact ⟨rfl, hb'⟩
set_option maxHeartbeats 1000000 in
theorem notIs_Angle.calls (g : Nat) (eg : ∀ args w, (callFunc g args).run Try.prog w = .ok (.enter g args) w) (B : Nat) (w : World) (hcell : w.cell? ⟨B, 0, none⟩ = some (.func (.func g) #[] #[])) (hB : B < w.heap.size) (x : S51) (b : Bool)
    (hp : ∀ W, Below w.heap.size w W → Calls Try.prog g #[.agg #[.int .i64 x.f0, .int .i64 x.f1]] W fun e w' => e = .returned (.bool b) ∧ Below W.heap.size W w') :
    Calls Try.prog 103 #[.agg #[.int .i64 x.f0, .int .i64 x.f1], .pointer (some ⟨B, 0, none⟩)] w fun e w' => e = .returned (.bool (!b)) ∧ Below w.heap.size w w' := by
  have HP := Aside0.mk hp
  have hu := Try.underlying51
  clear hp
  go_enter Try.func103, Try.ntmps103
  go_wp2_with (go_at_fn g; refine (HP.out _ ((Below.refl _ _).alloc (Nat.le_refl _) _)).mono ?_; rintro e w' ⟨rfl, hb'⟩)
  go_ret
  exact ⟨rfl, ((Below.refl _ w).alloc (Nat.le_refl _) _).trans (hb'.mono (by simp))⟩
set_option maxHeartbeats 1000000 in
theorem areAll_Angle.calls (g : Nat) (eg : ∀ args w, (callFunc g args).run Try.prog w = .ok (.enter g args) w) (p : S51 → Option Bool) (A0 : Option Addr) (c0 : Nat) (l0 : List S51) (r : Bool) (w : World)
    (hr0 : Kd.C k51 w A0 l0.length l0) (hc0 : l0.length ≤ c0)
    (hp : ∀ W x b, Below w.heap.size w W → p x = some b → Calls Try.prog g #[.agg #[.int .i64 x.f0, .int .i64 x.f1]] W fun e w' => e = .returned (.bool b) ∧ Below W.heap.size W w')
    (h : allM p l0 = some r) :
    Calls Try.prog 83 #[.slice A0 l0.length c0, .func (.func g) #[] #[]] w fun e w' => e = .returned (.bool r) ∧ Below w.heap.size w w' := by
  obtain ⟨i, h1, h2⟩ := allM_idx p l0 0 r (by omega) h
  have hw1 : Below w.heap.size w (w.alloc (.cells #[.func (.func g) #[] #[]] 63)) := (Below.refl _ w).alloc (Nat.le_refl _) _
  have hcon := containsFunc_Angle.calls 103 #[.pointer (some ⟨w.heap.size, 0, none⟩)] (enters_of Try.func103 (by kernel_rfl) rfl)
    (fun x => (p x).map (fun b => !b)) A0 c0 l0 i (w.alloc (.cells #[.func (.func g) #[] #[]] 63)) (Kd.C_below hr0 hw1) hc0
    (fun W x b hW hx => by
      obtain ⟨q, hq, rfl⟩ := Option.map_eq_some_iff.1 hx
      have hcell : W.cell? ⟨w.heap.size, 0, none⟩ = some (.func (.func g) #[] #[]) := (hW.cell (p := ⟨w.heap.size, 0, none⟩) (by simp)).trans (by simp)
      exact notIs_Angle.calls g eg w.heap.size W hcell (by have := hW.size; simp at this; omega) x q (fun W' hW' => hp W' x q (hw1.trans ((hW.mono (by simp)).trans (hW'.mono (by have := hW.size; simp at this; omega)))) hq)) h1
  have HC := Aside0.mk hcon
  have H2 := Aside0.mk h2
  clear hcon hp h hr0 h1 h2
  go_enter Try.func83, Try.ntmps83
  go_wp2_with (go_at_call 102; refine HC.out.mono ?_; rintro e w' ⟨rfl, hb'⟩)
  go_ret
  exact ⟨by rw [H2.out]; simp, hw1.trans (hb'.mono (by simp))⟩

/-! ### impl_anglesCode: function 47 -/
def impl_anglesCode.f (k : Nat) (l0 : List S51) : Option Int := (allM (fun x => impl_IsAngle.f k x.f0 x.f1) l0).bind fun b => some (if b = true then 0 else 1)
theorem impl_anglesCode.mono : ∀ a0 k, LeO (impl_anglesCode.f k a0) (impl_anglesCode.f (k + 1) a0) := by
  intro l k r h
  unfold impl_anglesCode.f at h ⊢
  cases hb : allM (fun x : S51 => impl_IsAngle.f k x.f0 x.f1) l with
  | none => rw [hb] at h; simp at h
  | some b =>
    rw [hb] at h
    rw [allM_mono (q := fun x : S51 => impl_IsAngle.f (k + 1) x.f0 x.f1) (fun x => impl_IsAngle.mono _ _ k) l b hb]
    exact h
set_option maxHeartbeats 1000000 in
theorem impl_anglesCode.calls (k : Nat) (A0 : Option Addr) (c0 : Nat) (l0 : List S51) (r : Int) (w : World) (hr0 : Kd.C k51 w A0 l0.length l0) (hc0 : l0.length ≤ c0) (h : impl_anglesCode.f k l0 = some r) :
    Calls Try.prog 47 #[.slice A0 l0.length c0] w fun e w' => e = .returned (.int .i64 r) ∧ Below w.heap.size w w' := by
  unfold impl_anglesCode.f at h
  obtain ⟨b, hb, hr⟩ := Option.bind_eq_some_iff.1 h
  have hcon := areAll_Angle.calls 74 (enters_of Try.func74 (by kernel_rfl) rfl) (fun x : S51 => impl_IsAngle.f k x.f0 x.f1) A0 c0 l0 b w hr0 hc0
    (fun W x q _ hx => (impl_IsAngle.calls k _ _ q W hx).mono fun e w' ⟨he, hd⟩ => ⟨he, by first | exact hd | exact hd.below⟩) hb
  have HR := Aside0.mk hr
  clear h hr hb hr0
  cases b with
  | true =>
    go_enter Try.func47, Try.ntmps47
    go_wp2_with (go_at_call 83; refine hcon.mono ?_; rintro e w' ⟨rfl, hb'⟩)
    go_ret
    have hr := HR.out
    simp at hr
    subst hr
    exact ⟨rfl, hb'⟩
  | false =>
    go_enter Try.func47, Try.ntmps47
    go_wp2_with (go_at_call 83; refine hcon.mono ?_; rintro e w' ⟨rfl, hb'⟩)
    go_ret
    have hr := HR.out
    simp at hr
    subst hr
    exact ⟨rfl, hb'⟩

end Go.Proofs.Ytngffoffjiofbaa.Q
end
section
/- What the printed functions on one angle answer: from some number of rounds on, the plain values of AngMath. -/
namespace Go.Proofs.Ytngffoffjiofbaa.Q
open Go.RowKit Go.Proofs.YtngffoffjiofbaaW.PrintWords Go.Proofs.YtngffoffjiofbaaW.PrintLast Go.Proofs.YtngffoffjiofbaaW.Ext Go.Proofs.Ytngffoffjiofbaa.Ang
set_option linter.unusedVariables false

/-- A whole number that fits. -/
theorem wrap_in {x : Int} (h0 : -9223372036854775808 ≤ x) (h1 : x ≤ 9223372036854775807) : wrap64 x = x := by unfold wrap64; omega

theorem ev_if {α : Type} {c : Prop} [Decidable c] {f g : Nat → Option α} {r : α} (h1 : c → Ev f r) (h2 : ¬ c → Ev g r) : Ev (fun k => if c then f k else g k) r := by
  by_cases h : c
  · simp only [if_pos h]; exact h1 h
  · simp only [if_neg h]; exact h2 h

theorem ev_impl_divisor : ∀ (n m : Nat), Ev (fun k => impl_divisor.f k (m : Int) (n : Int)) ((Nat.gcd m n : Nat) : Int) := by
  intro n
  induction n using Nat.strongRecOn with
  | _ n ih =>
    intro m
    refine Ev.step (f := fun k => if (n : Int) = 0 then (some (m : Int)) else impl_divisor.f k (n : Int) (Int.tmod (m : Int) (n : Int))) (fun k => rfl) ?_
    refine ev_if (fun h => ?_) (fun h => ?_)
    · have : n = 0 := by omega
      subst this
      rw [Nat.gcd_zero_right]
      exact Ev.now _
    · have hn : 0 < n := by omega
      have e : Int.tmod (m : Int) (n : Int) = ((m % n : Nat) : Int) := by
        rw [Int.tmod_eq_emod_of_nonneg (by omega)]
        omega
      rw [e]
      have := ih (m % n) (Nat.mod_lt _ hn) n
      rw [show Nat.gcd m n = Nat.gcd n (m % n) by rw [Nat.gcd_comm m n, Nat.gcd_rec n m, Nat.gcd_comm]]
      exact this

theorem ev_spec_divisor : ∀ (n m : Nat), Ev (fun k => spec_l01Divisor.f k (m : Int) (n : Int)) ((Nat.gcd m n : Nat) : Int) := by
  intro n
  induction n using Nat.strongRecOn with
  | _ n ih =>
    intro m
    refine Ev.step (f := fun k => if (n : Int) > 0 then (if (n : Int) = 0 then none else spec_l01Divisor.f k (n : Int) (Int.tmod (m : Int) (n : Int))) else some (m : Int)) (fun k => rfl) ?_
    refine ev_if (fun h => ?_) (fun h => ?_)
    · have hn : 0 < n := by omega
      have e : Int.tmod (m : Int) (n : Int) = ((m % n : Nat) : Int) := by
        rw [Int.tmod_eq_emod_of_nonneg (by omega)]
        omega
      simp only [if_neg (show ¬ (n : Int) = 0 by omega)]
      rw [e]
      have := ih (m % n) (Nat.mod_lt _ hn) n
      rw [show Nat.gcd m n = Nat.gcd n (m % n) by rw [Nat.gcd_comm m n, Nat.gcd_rec n m, Nat.gcd_comm]]
      exact this
    · have : n = 0 := by omega
      subst this
      rw [Nat.gcd_zero_right]
      exact Ev.now _

theorem ev_impl_gcd {a b : Int} (ha : 0 ≤ a) (hb : 0 ≤ b) : Ev (fun k => impl_divisor.f k a b) (Int.gcd a b : Int) := by
  obtain ⟨m, rfl⟩ := Int.eq_ofNat_of_zero_le ha
  obtain ⟨n, rfl⟩ := Int.eq_ofNat_of_zero_le hb
  exact ev_impl_divisor n m
theorem ev_spec_gcd {a b : Int} (ha : 0 ≤ a) (hb : 0 ≤ b) : Ev (fun k => spec_l01Divisor.f k a b) (Int.gcd a b : Int) := by
  obtain ⟨m, rfl⟩ := Int.eq_ofNat_of_zero_le ha
  obtain ⟨n, rfl⟩ := Int.eq_ofNat_of_zero_le hb
  exact ev_spec_divisor n m

theorem ev_impl_IsAngle (n d : Int) : Ev (fun k => impl_IsAngle.f k n d) (isA n d) := by
  unfold impl_IsAngle.f impl_within.f isA
  by_cases h1 : 1 ≤ d
  · by_cases h2 : d ≤ 8191
    · simp only [if_pos h1, decide_eq_true h2, Option.bind_some, if_true]
      rw [wrap_in (show -9223372036854775808 ≤ d - 1 by omega) (by omega)]
      by_cases h3 : 0 ≤ n
      · by_cases h4 : n ≤ d - 1
        · simp only [if_pos h3, decide_eq_true h4, Option.bind_some, if_true]
          refine Ev.bind (ev_impl_gcd (by omega) (by omega)) ?_
          have e : ((Int.gcd d n : Int) == 1) = decide (1 ≤ d ∧ d ≤ 8191 ∧ 0 ≤ n ∧ n ≤ d - 1 ∧ Int.gcd n d = 1) := by
            rw [Int.gcd_comm d n, Bool.eq_iff_iff]
            simp [h1, h2, h3, h4]
            omega
          simp only [e]
          exact Ev.now _
        · simp only [if_pos h3, decide_eq_false h4, Option.bind_some]
          simp [h4]
          exact Ev.now _
      · simp only [if_neg h3, Option.bind_some]
        simp [h3]
        exact Ev.now _
    · simp only [if_pos h1, decide_eq_false h2, Option.bind_some]
      simp [h2]
      exact Ev.now _
  · simp only [if_neg h1, Option.bind_some]
    simp [h1]
    exact Ev.now _

theorem ev_spec_Is (n d : Int) : Ev (fun k => spec_l01Is.f k n d) (isA n d) := by
  unfold spec_l01Is.f spec_l01In.f isA
  by_cases h1 : 1 ≤ d
  · by_cases h2 : d ≤ 8191
    · simp only [ge_iff_le, if_pos h1, decide_eq_true h2, Option.bind_some, if_true]
      rw [wrap_in (show -9223372036854775808 ≤ d - 1 by omega) (by omega)]
      by_cases h3 : 0 ≤ n
      · by_cases h4 : n ≤ d - 1
        · simp only [if_pos h3, decide_eq_true h4, Option.bind_some, if_true]
          refine Ev.bind (ev_spec_gcd (by omega) (by omega)) ?_
          have e : ((Int.gcd n d : Int) == 1) = decide (1 ≤ d ∧ d ≤ 8191 ∧ 0 ≤ n ∧ n ≤ d - 1 ∧ Int.gcd n d = 1) := by
            rw [Bool.eq_iff_iff]
            simp [h1, h2, h3, h4]
            omega
          simp only [e]
          exact Ev.now _
        · simp only [if_pos h3, decide_eq_false h4, Option.bind_some]
          simp [h4]
          exact Ev.now _
      · simp only [if_neg h3, Option.bind_some]
        simp [h3]
        exact Ev.now _
    · simp only [ge_iff_le, if_pos h1, decide_eq_false h2, Option.bind_some]
      simp [h2]
      exact Ev.now _
  · simp only [ge_iff_le, if_neg h1, Option.bind_some]
    simp [h1]
    exact Ev.now _

theorem tmod_turn {n d : Int} (hd : 0 < d) : Int.tmod (Int.tmod n d + d) d = n % d := by
  have h0 : 0 ≤ Int.tmod n d + d := by
    have := Int.lt_tmod_of_pos n hd
    omega
  rw [Int.tmod_eq_emod_of_nonneg h0, Int.add_emod_right]
  by_cases h : 0 ≤ n
  · rw [Int.tmod_eq_emod_of_nonneg h, Int.emod_emod_of_dvd _ (Int.dvd_refl d)]
  · obtain ⟨m, rfl⟩ : ∃ m, n = -m := ⟨-n, by omega⟩
    rw [Int.neg_tmod, Int.tmod_eq_emod_of_nonneg (by omega)]
    have e := Int.emod_add_mul_ediv m d
    have e3 : -(m % d) = -m + d * (m / d) := by omega
    rw [e3, Int.add_mul_emod_self_left]

theorem ang_fst (n d : Int) : (ang n d).1 = (n % d) / Int.gcd (n % d) d := rfl
theorem ang_snd (n d : Int) : (ang n d).2 = d / Int.gcd (n % d) d := rfl
theorem pair_eq (p : Int × Int) : (p.1, p.2) = p := rfl

theorem ev_impl_angle {n d : Int} (hd : 0 < d) (hd' : d ≤ 4611686018427387904) : Ev (fun k => impl_angle.f k n d) (ang n d) := by
  have t1 := Int.lt_tmod_of_pos n hd
  have t2 := Int.tmod_lt_of_pos n hd
  have m0 := Int.emod_nonneg n (show d ≠ 0 by omega)
  have m1 := Int.emod_lt_of_pos n hd
  have hg := gcd_pos (n := n % d) hd
  have w := ang_wide (n := n) hd
  have wd := ang_den_le (n := n) hd
  unfold impl_angle.f
  simp only [if_neg (show ¬ d = 0 by omega)]
  rw [wrap_in (show -9223372036854775808 ≤ Int.tmod n d + d by omega) (by omega), tmod_turn hd]
  refine Ev.bind (ev_impl_gcd (by omega) m0) ?_
  rw [Int.gcd_comm d]
  simp only [if_neg (show ¬ (Int.gcd (n % d) d : Int) = 0 by omega)]
  rw [Int.tdiv_eq_ediv_of_nonneg m0, Int.tdiv_eq_ediv_of_nonneg (by omega), ← ang_fst, ← ang_snd, wrap_in (by have := w.2.1; omega) (by have := w.2.2.1; omega), wrap_in (by have := w.1; omega) (by omega)]
  exact Ev.now _

theorem ev_spec_Of {n d : Int} (hd : 0 < d) (hd' : d ≤ 4611686018427387904) : Ev (fun k => spec_l01Of.f k n d) (ang n d) := by
  have t1 := Int.lt_tmod_of_pos n hd
  have t2 := Int.tmod_lt_of_pos n hd
  have m0 := Int.emod_nonneg n (show d ≠ 0 by omega)
  have m1 := Int.emod_lt_of_pos n hd
  have hg := gcd_pos (n := n % d) hd
  have w := ang_wide (n := n) hd
  have wd := ang_den_le (n := n) hd
  unfold spec_l01Of.f
  simp only [if_neg (show ¬ d = 0 by omega)]
  rw [wrap_in (show -9223372036854775808 ≤ Int.tmod n d + d by omega) (by omega), tmod_turn hd]
  refine Ev.bind (ev_spec_gcd m0 (by omega)) ?_
  simp only [if_neg (show ¬ (Int.gcd (n % d) d : Int) = 0 by omega)]
  rw [Int.tdiv_eq_ediv_of_nonneg m0, Int.tdiv_eq_ediv_of_nonneg (by omega), ← ang_fst, ← ang_snd, wrap_in (by have := w.2.1; omega) (by have := w.2.2.1; omega), wrap_in (by have := w.1; omega) (by omega)]
  exact Ev.now _

/-- All of a list are angles. -/
def allA (l : List S51) : Bool := l.all fun x => isA x.f0 x.f1
theorem ev_allM (l : List S51) : Ev (fun k => allM (fun x : S51 => impl_IsAngle.f k x.f0 x.f1) l) (allA l) := by
  induction l with
  | nil => exact Ev.now _
  | cons x xs ih =>
    unfold allM
    refine Ev.bind (ev_impl_IsAngle x.f0 x.f1) ?_
    unfold allA
    rw [List.all_cons]
    cases isA x.f0 x.f1 with
    | true => simpa [allA] using ih
    | false => simpa using Ev.now false
theorem ev_anglesCode (l : List S51) : Ev (fun k => impl_anglesCode.f k l) (if allA l = true then 0 else 1) := by
  unfold impl_anglesCode.f
  exact Ev.bind (ev_allM l) (Ev.now _)

theorem eqAngle_same (a b : Int) : laws_eqAngle.f a b a b = some true := by simp [laws_eqAngle.f]
end Go.Proofs.Ytngffoffjiofbaa.Q
end
section
-- By wip/hyb/hyb.py of this session, over the kit's print.py
namespace Go.Proofs.Ytngffoffjiofbaa.Q
open Go.Proofs.YtngffoffjiofbaaW.Ext
open Go.RowKit Go.Proofs.YtngffoffjiofbaaW.PrintWords Go.Proofs.YtngffoffjiofbaaW.PrintLast Go.Proofs.YtngffoffjiofbaaW.PrintMore
attribute [local go_sem] max2_int min2_int max_two min_two max_three min_three max_four min_four   -- for this text's walks alone
set_option linter.unusedVariables false
set_option linter.unusedSimpArgs false

/-! ### laws_heldInt64SS: function 30 -/
def laws_heldInt64SS.l0 : Nat → List (List Int) → Int → Int → Option (Int)
  | 0, _, _, _ => none
  | k + 1, x0, x1, x5 => if x5 < (x0.length : Int) then (if 0 ≤ x5 then ((laws_heldInt64S.f k (rd_L8 x0 x5) x1).bind fun t519 => (if t519 < 0 then (some (-1)) else (laws_heldInt64SS.l0 k x0 t519 (wrap64 (x5 + 1))))) else (none)) else (some x1)
def laws_heldInt64SS.f (k : Nat) (l0 : List (List Int)) (a1 : Int) : Option (Int) := laws_heldInt64SS.l0 k l0 a1 0
theorem laws_heldInt64SS.mono_l : ∀ k, (∀ y0 y1 y2, LeO (laws_heldInt64SS.l0 k y0 y1 y2) (laws_heldInt64SS.l0 (k + 1) y0 y1 y2))
  | 0 => fun _ _ _ r h => by simp [laws_heldInt64SS.l0] at h
  | k + 1 => by
    have ih0 := laws_heldInt64SS.mono_l k
    · intro y0 y1 y2
      unfold laws_heldInt64SS.l0
      repeat' first
      | (with_reducible exact ih0 _ _ _)
      | (with_reducible exact laws_heldInt64S.mono _ _ _)
      | (with_reducible exact LeO.refl _)
      | (with_reducible exact LeO.none _)
      | (with_reducible refine LeO.ite ?_ ?_)
      | (with_reducible refine LeO.bind ?_ (fun _ => ?_))
      | exact ih0 _ _ _
      | exact laws_heldInt64S.mono _ _ _
      | exact LeO.none _
      | refine LeO.ite ?_ ?_
      | refine LeO.bind ?_ (fun _ => ?_)
theorem laws_heldInt64SS.mono : ∀ a0 a1 k, LeO (laws_heldInt64SS.f k a0 a1) (laws_heldInt64SS.f (k + 1) a0 a1) := by
  intro a0 a1 k
  have ih0 := laws_heldInt64SS.mono_l k
  unfold laws_heldInt64SS.f
  repeat' first
      | (with_reducible exact ih0 _ _ _)
      | (with_reducible exact laws_heldInt64S.mono _ _ _)
      | (with_reducible exact LeO.refl _)
      | (with_reducible exact LeO.none _)
      | (with_reducible refine LeO.ite ?_ ?_)
      | (with_reducible refine LeO.bind ?_ (fun _ => ?_))
      | exact ih0 _ _ _
      | exact laws_heldInt64S.mono _ _ _
      | exact LeO.none _
      | refine LeO.ite ?_ ?_
      | refine LeO.bind ?_ (fun _ => ?_)
set_option maxHeartbeats 8000000 in
set_option maxRecDepth 100000 in
theorem laws_heldInt64SS.calls (k : Nat) (A0 : Option Addr) (c0 : Nat) (l0 : List (List Int)) (a1 : Int) (r : Int) (w : World) (hr0 : Kd.C (Kd.slice 2 (Kd.int .i64)) w A0 l0.length l0) (hc0 : l0.length ≤ c0) (h : laws_heldInt64SS.f k l0 a1 = some r) :
    Calls Try.prog 30 #[.slice A0 l0.length c0, .int .i64 a1] w fun e w' => e = .returned (.int .i64 r) ∧ Drawn0 w w' := by
  have HR0 := Aside0.mk hr0
  have HC0 := Aside0.mk hc0
  clear hr0 hc0
  have H : (laws_heldInt64SS.l0 k l0 a1 0) = some r := h
  clear h
  have H' := Aside0.mk H
  clear H
  go_enter Try.func30, Try.ntmps30
  go_wp2
  go_loopg [1, 5] k (fun kq v1 v5 w' => ∃ (x1_1 : Int) (x5_1 : Int), v1 = .int .i64 x1_1 ∧ v5 = .int .i64 x5_1 ∧ Aside0 (laws_heldInt64SS.l0 kq l0 x1_1 x5_1 = some r) ∧ Aside0 (kq ≤ k) ∧ Drawn0 w w')
  case atStart => exact ⟨(a1), (0), (by first | rfl | (simp; done) | (simp [*]; done)), (by first | rfl | (simp; done) | (simp [*]; done)), H', ⟨Nat.le_refl _⟩, by repeat (first | exact Drawn0.refl _ | apply Drawn0.step)⟩
  case round =>
    clear H'
    try clear p2
    obtain ⟨x1_1, x5_1, rfl, rfl, HA, HK1, ⟨m1, rfl⟩⟩ := hrel
    cases gk with
    | zero => exact absurd HA.out (by simp [laws_heldInt64SS.l0])
    | succ k1 =>
      have H := HA.out
      clear HA
      simp only [laws_heldInt64SS.l0] at H
      by_cases c3 : x5_1 < (l0.length : Int)
      · rw [if_pos c3] at H
        have c3b0 : decide (x5_1 < (l0.length : Int)) = true := decide_eq_true c3
        clear c3
        by_cases c4 : 0 ≤ x5_1
        · rw [if_pos c4] at H
          have c4b0 : decide (0 ≤ x5_1) = true := decide_eq_true c4
          clear c4
          replace H := Option.bind_eq_some_iff.mp H
          obtain ⟨t519, A50, H⟩ := H
          replace H : (if t519 < 0 then (some (-1)) else (laws_heldInt64SS.l0 k1 l0 t519 (wrap64 (x5_1 + 1)))) = some r := H
          have A5 := Aside0.mk A50
          clear A50
          by_cases c6 : t519 < 0
          · rw [if_pos c6] at H
            have c6b0 : decide (t519 < 0) = true := decide_eq_true c6
            clear c6
            obtain rfl := Option.some.inj H
            have p518 : 0 ≤ (x5_1 : Int) := of_decide_eq_true (by first | (with_reducible assumption) | assumption)
            have q518 : x5_1 < (l0.length : Int) := of_decide_eq_true (by first | (with_reducible assumption) | assumption)
            obtain ⟨ad518, A518_0, c518_0, e518, hx518_0, hl518_0, hi518_0⟩ := at_L8 HR0.out x5_1 p518 q518
            cases e518
            have HR518_0 := Aside0.mk hi518_0
            have HC518_0 := Aside0.mk hl518_0
            clear hi518_0 hl518_0
            replace p518 := eq_true p518
            replace q518 := eq_true q518
            go_wp2_with (first | ((with_reducible refine gate_callee (f := 26) rfl ?_); refine goesL_ (some 17) rfl rfl Try.func26 (by kernel_rfl) rfl #[.slice A518_0 (rd_L8 l0 x5_1).length c518_0, .int .i64 x1_1] rfl (by (try simp only [List.map_toArray, List.map_cons, List.map_nil]); first | done | rfl | (simp only [List.length_drop, List.length_take]; rfl)) ?_; (with_reducible refine (laws_heldInt64S.calls k1 _ _ (rd_L8 l0 x5_1) x1_1 t519 _ ?side1 ?side2 A5.out).mono ?_); (case side1 => repeat (first | exact HR518_0.out | (with_reducible refine Kd.C_alloc ?_ _) | (with_reducible refine Kd.C_drewN ?_ _) | (with_reducible refine Kd.C_drew ?_))); (case side2 => exact HC518_0.out); rintro e w' ⟨rfl, ⟨nd, rfl⟩⟩; refine ⟨_, rfl, ?_⟩))
            go_ret
            exact ⟨by first | rfl | (simp; done) | (simp [*]; done), by repeat (first | exact Drawn0.refl _ | apply Drawn0.step)⟩
          · rw [if_neg c6] at H
            have c6b0 : decide (t519 < 0) = false := decide_eq_false c6
            clear c6
            have H' := Aside0.mk H
            clear H
            have p518 : 0 ≤ (x5_1 : Int) := of_decide_eq_true (by first | (with_reducible assumption) | assumption)
            have q518 : x5_1 < (l0.length : Int) := of_decide_eq_true (by first | (with_reducible assumption) | assumption)
            obtain ⟨ad518, A518_0, c518_0, e518, hx518_0, hl518_0, hi518_0⟩ := at_L8 HR0.out x5_1 p518 q518
            cases e518
            have HR518_0 := Aside0.mk hi518_0
            have HC518_0 := Aside0.mk hl518_0
            clear hi518_0 hl518_0
            replace p518 := eq_true p518
            replace q518 := eq_true q518
            go_wp2_with (first | ((with_reducible refine gate_callee (f := 26) rfl ?_); refine goesL_ (some 17) rfl rfl Try.func26 (by kernel_rfl) rfl #[.slice A518_0 (rd_L8 l0 x5_1).length c518_0, .int .i64 x1_1] rfl (by (try simp only [List.map_toArray, List.map_cons, List.map_nil]); first | done | rfl | (simp only [List.length_drop, List.length_take]; rfl)) ?_; (with_reducible refine (laws_heldInt64S.calls k1 _ _ (rd_L8 l0 x5_1) x1_1 t519 _ ?side1 ?side2 A5.out).mono ?_); (case side1 => repeat (first | exact HR518_0.out | (with_reducible refine Kd.C_alloc ?_ _) | (with_reducible refine Kd.C_drewN ?_ _) | (with_reducible refine Kd.C_drew ?_))); (case side2 => exact HC518_0.out); rintro e w' ⟨rfl, ⟨nd, rfl⟩⟩; refine ⟨_, rfl, ?_⟩))
            go_roundg k1
            case measure => have := HK1.out; omega
            case rel => exact ⟨(t519), (wrap64 (x5_1 + 1)), (by first | rfl | (simp; done) | (simp [*]; done)), (by first | rfl | (simp; done) | (simp [*]; done)), H', ⟨by have := HK1.out; omega⟩, by repeat (first | exact Drawn0.refl _ | apply Drawn0.step)⟩
        · rw [if_neg c4] at H
          exact absurd H (by simp)
      · rw [if_neg c3] at H
        have c3b0 : decide (x5_1 < (l0.length : Int)) = false := decide_eq_false c3
        clear c3
        obtain rfl := Option.some.inj H
        go_wp2
        go_ret
        exact ⟨by first | rfl | (simp; done) | (simp [*]; done), by repeat (first | exact Drawn0.refl _ | apply Drawn0.step)⟩

end Go.Proofs.Ytngffoffjiofbaa.Q
end
section
/- What the laws ask of lists of lists of numbers: equal lists, marks laid and found again. -/
namespace Go.Proofs.Ytngffoffjiofbaa.Q
open Go.RowKit Go.Proofs.YtngffoffjiofbaaW.PrintWords Go.Proofs.YtngffoffjiofbaaW.PrintLast Go.Proofs.YtngffoffjiofbaaW.Ext Go.Proofs.Ytngffoffjiofbaa.Ang
set_option linter.unusedVariables false

theorem rdI_at (pre rest : List Int) (x : Int) : rd (pre ++ x :: rest) (pre.length : Int) = x := by simp [rd]
theorem rdL_at (pre rest : List (List Int)) (x : List Int) : rd_L8 (pre ++ x :: rest) (pre.length : Int) = x := by simp [rd_L8]
theorem setI_at {α : Type} (pre rest : List α) (x y : α) : (pre ++ x :: rest).set pre.length y = pre ++ y :: rest := by simp
theorem ev_eqInt64S (l : List Int) (hl : l.length ≤ 1099511627776) : Ev (fun k => laws_eqInt64S.f k l l) true := by
  unfold laws_eqInt64S.f
  simp only [if_true]
  have key : ∀ (rest pre : List Int), (pre ++ rest).length ≤ 1099511627776 → Ev (fun k => laws_eqInt64S.l0 k (pre ++ rest) (pre ++ rest) (pre.length : Int)) true := by
    intro rest
    induction rest with
    | nil =>
      intro pre _
      exact Ev.step (f := fun _ => some true) (fun k => by simp [laws_eqInt64S.l0]) (Ev.now _)
    | cons x xs ih =>
      intro pre hp
      have hlen : (pre.length : Int) < ((pre ++ x :: xs).length : Int) := by simp <;> omega
      have hp2 : (pre.length : Int) ≤ 1099511627776 := by simp at hp; omega
      refine Ev.step (f := fun k => laws_eqInt64S.l0 k (pre ++ x :: xs) (pre ++ x :: xs) ((pre ++ [x]).length : Int)) (fun k => ?_) ?_
      · rw [laws_eqInt64S.l0, if_pos hlen, if_pos (by omega), if_pos hlen, rdI_at, if_pos rfl, wrap_in (by omega) (by omega)]
        simp
      · have := ih (pre ++ [x]) (by simpa using hp)
        simpa using this
  simpa using key l [] (by simpa using hl)
/-- The marks c, c + 1, .. on a list of numbers. -/
def markedI : Int → List Int → List Int
  | _, [] => []
  | c, _ :: xs => c :: markedI (c + 1) xs
theorem ev_markInt64S (l : List Int) (c0 : Int) (h0 : 0 ≤ c0) (h1 : c0 ≤ 1099511627776) (hl : l.length ≤ 1099511627776) : Ev (fun k => laws_markInt64S.f k l c0) (c0 + (l.length : Int), markedI c0 l) := by
  unfold laws_markInt64S.f
  have key : ∀ (rest pre : List Int) (c : Int), 0 ≤ c → c ≤ c0 + (pre.length : Int) → (pre ++ rest).length ≤ 1099511627776 →
      Ev (fun k => laws_markInt64S.l0 k (pre ++ rest) c (pre.length : Int)) (c + (rest.length : Int), pre ++ markedI c rest) := by
    intro rest
    induction rest with
    | nil =>
      intro pre c _ _ _
      exact Ev.step (f := fun _ => some (c + (([] : List Int).length : Int), pre ++ markedI c [])) (fun k => by simp [laws_markInt64S.l0, markedI]) (Ev.now _)
    | cons x xs ih =>
      intro pre c h0 h1 hp
      have hlen : (pre.length : Int) < ((pre ++ x :: xs).length : Int) := by simp <;> omega
      have hp2 : (pre.length : Int) ≤ 1099511627776 := by simp at hp; omega
      refine Ev.step (f := fun k => laws_markInt64S.l0 k ((pre ++ [c]) ++ xs) (c + 1) ((pre ++ [c]).length : Int)) (fun k => ?_) ?_
      · rw [laws_markInt64S.l0, if_pos hlen, if_pos (by omega), wrap_in (x := c + 1) (by omega) (by omega), wrap_in (x := (pre.length : Int) + 1) (by omega) (by omega)]
        simp only [Int.toNat_natCast, setI_at]
        simp
      · have := ih (pre ++ [c]) (c + 1) (by omega) (by simp; omega) (by simpa using hp)
        have e : c + 1 + (xs.length : Int) = c + ((x :: xs).length : Int) := by simp; omega
        rw [e] at this
        simpa [markedI] using this
  simpa using key l [] c0 h0 (by simp) (by simpa using hl)
theorem ev_heldInt64S (l : List Int) (c0 : Int) (h0 : 0 ≤ c0) (h1 : c0 ≤ 1099511627776) (hl : l.length ≤ 1099511627776) : Ev (fun k => laws_heldInt64S.f k (markedI c0 l) c0) (c0 + (l.length : Int)) := by
  unfold laws_heldInt64S.f
  have key : ∀ (rest pre : List Int) (c : Int), 0 ≤ c → c ≤ c0 + (pre.length : Int) → (pre ++ rest).length ≤ 1099511627776 →
      Ev (fun k => laws_heldInt64S.l0 k (pre ++ markedI c rest) c (pre.length : Int)) (c + (rest.length : Int)) := by
    intro rest
    induction rest with
    | nil =>
      intro pre c _ _ _
      exact Ev.step (f := fun _ => some (c + (([] : List Int).length : Int))) (fun k => by simp [laws_heldInt64S.l0, markedI]) (Ev.now _)
    | cons x xs ih =>
      intro pre c h0 h1 hp
      unfold markedI
      have hlen : (pre.length : Int) < ((pre ++ c :: markedI (c + 1) xs).length : Int) := by simp <;> omega
      have hp2 : (pre.length : Int) ≤ 1099511627776 := by simp at hp; omega
      refine Ev.step (f := fun k => laws_heldInt64S.l0 k ((pre ++ [c]) ++ markedI (c + 1) xs) (c + 1) ((pre ++ [c]).length : Int)) (fun k => ?_) ?_
      · rw [laws_heldInt64S.l0, if_pos hlen, if_pos (by omega), rdI_at, wrap_in (x := c + 1) (by omega) (by omega), wrap_in (x := (pre.length : Int) + 1) (by omega) (by omega), if_pos rfl]
        simp
      · have := ih (pre ++ [c]) (c + 1) (by omega) (by simp; omega) (by simpa using hp)
        have e : c + 1 + (xs.length : Int) = c + ((x :: xs).length : Int) := by simp; omega
        rw [e] at this
        simpa using this
  simpa using key l [] c0 h0 (by simp) (by simpa using hl)
/-- How many numbers. -/
def tot : List (List Int) → Nat
  | [] => 0
  | r :: l => r.length + tot l
theorem tot_app (a b : List (List Int)) : tot (a ++ b) = tot a + tot b := by
  induction a with
  | nil => simp [tot]
  | cons r a ih => simp only [List.cons_append, tot, ih]; omega
def markedL : Int → List (List Int) → List (List Int)
  | _, [] => []
  | c, r :: l => markedI c r :: markedL (c + (r.length : Int)) l
theorem ev_eqInt64SS (l : List (List Int)) (hl : l.length ≤ 1099511627776) (ht : tot l ≤ 1099511627776) : Ev (fun k => laws_eqInt64SS.f k l l) true := by
  unfold laws_eqInt64SS.f
  simp only [if_true]
  have key : ∀ (rest pre : List (List Int)), (pre ++ rest).length ≤ 1099511627776 → tot (pre ++ rest) ≤ 1099511627776 → Ev (fun k => laws_eqInt64SS.l0 k (pre ++ rest) (pre ++ rest) (pre.length : Int)) true := by
    intro rest
    induction rest with
    | nil =>
      intro pre _ _
      exact Ev.step (f := fun _ => some true) (fun k => by simp [laws_eqInt64SS.l0]) (Ev.now _)
    | cons x xs ih =>
      intro pre hp hq
      have hlen : (pre.length : Int) < ((pre ++ x :: xs).length : Int) := by simp <;> omega
      have hp2 : (pre.length : Int) ≤ 1099511627776 := by simp at hp; omega
      have hx : x.length ≤ 1099511627776 := by rw [tot_app] at hq; simp only [tot] at hq; omega
      refine Ev.step (f := fun k => (laws_eqInt64S.f k x x).bind fun t => if t = true then laws_eqInt64SS.l0 k (pre ++ x :: xs) (pre ++ x :: xs) ((pre ++ [x]).length : Int) else some false) (fun k => ?_) ?_
      · rw [laws_eqInt64SS.l0, if_pos hlen, if_pos (by omega), if_pos hlen, rdL_at, wrap_in (by omega) (by omega)]
        simp
      · refine Ev.bind (ev_eqInt64S x hx) ?_
        simp only [if_true]
        have := ih (pre ++ [x]) (by simpa using hp) (by simpa using hq)
        simpa using this
  simpa using key l [] (by simpa using hl) (by simpa using ht)
theorem ev_markInt64SS (l : List (List Int)) (c0 : Int) (h0 : 0 ≤ c0) (h1 : c0 ≤ 10) (hl : l.length ≤ 1099511627776) (ht : tot l ≤ 1099511627000) : Ev (fun k => laws_markInt64SS.f k l c0) (c0 + (tot l : Int), markedL c0 l) := by
  unfold laws_markInt64SS.f
  have key : ∀ (rest pre : List (List Int)) (c : Int), 0 ≤ c → c ≤ c0 + (tot pre : Int) → (pre ++ rest).length ≤ 1099511627776 → tot (pre ++ rest) ≤ 1099511627000 →
      Ev (fun k => laws_markInt64SS.l0 k (pre ++ rest) c (pre.length : Int)) (c + (tot rest : Int), pre ++ markedL c rest) := by
    intro rest
    induction rest with
    | nil =>
      intro pre c _ _ _ _
      exact Ev.step (f := fun _ => some (c + (tot ([] : List (List Int)) : Int), pre ++ markedL c [])) (fun k => by simp [laws_markInt64SS.l0, markedL, tot]) (Ev.now _)
    | cons x xs ih =>
      intro pre c h0 h2 hp hq
      have hlen : (pre.length : Int) < ((pre ++ x :: xs).length : Int) := by simp <;> omega
      have hp2 : (pre.length : Int) ≤ 1099511627776 := by simp at hp; omega
      have hq2 := hq
      rw [tot_app] at hq2
      simp only [tot] at hq2
      refine Ev.step (f := fun k => (laws_markInt64S.f k x c).bind fun t => laws_markInt64SS.l0 k ((pre ++ [t.2]) ++ xs) t.1 ((pre ++ [x]).length : Int)) (fun k => ?_) ?_
      · rw [laws_markInt64SS.l0, if_pos hlen, if_pos (by omega), rdL_at, wrap_in (x := (pre.length : Int) + 1) (by omega) (by omega)]
        simp only [Int.toNat_natCast, setI_at]
        simp
      · refine Ev.bind (ev_markInt64S x c h0 (by omega) (by omega)) ?_
        have hm : (markedI c x).length = x.length := by
          have g : ∀ (l : List Int) (c : Int), (markedI c l).length = l.length := by
            intro l
            induction l with
            | nil => intro c; rfl
            | cons y ys ih => intro c; simp only [markedI, List.length_cons, ih]
          exact g x c
        have ht2 : tot (pre ++ [markedI c x]) = tot pre + x.length := by rw [tot_app]; simp [tot, hm]
        have := ih (pre ++ [markedI c x]) (c + (x.length : Int)) (by omega) (by rw [ht2]; omega) (by simpa using hp) (by rw [tot_app, ht2]; omega)
        have e : c + (x.length : Int) + (tot xs : Int) = c + (tot (x :: xs) : Int) := by simp only [tot]; omega
        rw [e] at this
        simpa [markedL] using this
  simpa using key l [] c0 h0 (by simp [tot]) (by simpa using hl) (by simpa using ht)
theorem ev_heldInt64SS (l : List (List Int)) (c0 : Int) (h0 : 0 ≤ c0) (h1 : c0 ≤ 10) (hl : l.length ≤ 1099511627776) (ht : tot l ≤ 1099511627000) : Ev (fun k => laws_heldInt64SS.f k (markedL c0 l) c0) (c0 + (tot l : Int)) := by
  unfold laws_heldInt64SS.f
  have key : ∀ (rest pre : List (List Int)) (c : Int), 0 ≤ c → c ≤ c0 + (tot pre : Int) → (pre ++ rest).length ≤ 1099511627776 → tot (pre ++ rest) ≤ 1099511627000 →
      Ev (fun k => laws_heldInt64SS.l0 k (pre ++ markedL c rest) c (pre.length : Int)) (c + (tot rest : Int)) := by
    intro rest
    induction rest with
    | nil =>
      intro pre c _ _ _ _
      exact Ev.step (f := fun _ => some (c + (tot ([] : List (List Int)) : Int))) (fun k => by simp [laws_heldInt64SS.l0, markedL, tot]) (Ev.now _)
    | cons x xs ih =>
      intro pre c h0 h2 hp hq
      have hq2 := hq
      rw [tot_app] at hq2
      simp only [tot] at hq2
      unfold markedL
      have hlen : (pre.length : Int) < ((pre ++ markedI c x :: markedL (c + (x.length : Int)) xs).length : Int) := by simp <;> omega
      have hp2 : (pre.length : Int) ≤ 1099511627776 := by simp at hp; omega
      refine Ev.step (f := fun k => (laws_heldInt64S.f k (markedI c x) c).bind fun t => if t < 0 then some (-1) else laws_heldInt64SS.l0 k ((pre ++ [markedI c x]) ++ markedL (c + (x.length : Int)) xs) t ((pre ++ [x]).length : Int)) (fun k => ?_) ?_
      · rw [laws_heldInt64SS.l0, if_pos hlen, if_pos (by omega), rdL_at, wrap_in (x := (pre.length : Int) + 1) (by omega) (by omega)]
        simp
      · refine Ev.bind (ev_heldInt64S x c h0 (by omega) (by omega)) ?_
        simp only [if_neg (show ¬ c + (x.length : Int) < 0 by omega)]
        have hm : (markedI c x).length = x.length := by
          have g : ∀ (l : List Int) (c : Int), (markedI c l).length = l.length := by
            intro l
            induction l with
            | nil => intro c; rfl
            | cons y ys ih => intro c; simp only [markedI, List.length_cons, ih]
          exact g x c
        have ht2 : tot (pre ++ [markedI c x]) = tot pre + x.length := by rw [tot_app]; simp [tot, hm]
        have := ih (pre ++ [markedI c x]) (c + (x.length : Int)) (by omega) (by rw [ht2]; omega) (by simpa using hp) (by rw [tot_app, ht2]; omega)
        have e : c + (x.length : Int) + (tot xs : Int) = c + (tot (x :: xs) : Int) := by simp only [tot]; omega
        rw [e] at this
        simpa using this
  simpa using key l [] c0 h0 (by simp [tot]) (by simpa using hl) (by simpa using ht)
end Go.Proofs.Ytngffoffjiofbaa.Q
end
section
/- Matrices modulo 2^64: what both sides of CharacteristicOf compute. -/
namespace Go.Proofs.Ytngffoffjiofbaa.Q
open Go.RowKit Go.Proofs.YtngffoffjiofbaaW.PrintWords Go.Proofs.YtngffoffjiofbaaW.PrintLast Go.Proofs.YtngffoffjiofbaaW.Ext Go.Proofs.Ytngffoffjiofbaa.Ang
set_option linter.unusedVariables false
set_option linter.unusedSimpArgs false

theorem wrap_rng (x : Int) : -9223372036854775808 ≤ wrap64 x ∧ wrap64 x ≤ 9223372036854775807 := by unfold wrap64; omega
def addRow (x : Int) : List Int → List Int → List Int
  | [], _ => []
  | r :: rs, [] => r :: rs
  | r :: rs, b :: bs => wrap64 (r + wrap64 (x * b)) :: addRow x rs bs
theorem addRow_len (x : Int) : ∀ r b, (addRow x r b).length = r.length
  | [], _ => rfl
  | _ :: _, [] => rfl
  | r :: rs, b :: bs => by simp only [addRow, List.length_cons, addRow_len x rs bs]
def InR (r : List Int) : Prop := ∀ x, x ∈ r → -9223372036854775808 ≤ x ∧ x ≤ 9223372036854775807
theorem InR.addRow {x : Int} : ∀ {r b : List Int}, InR r → InR (addRow x r b)
  | [], _, h => fun y hy => by cases hy
  | _ :: _, [], h => h
  | r :: rs, b :: bs, h => fun y hy => by
    rcases List.mem_cons.1 hy with rfl | hy
    · exact wrap_rng _
    · exact InR.addRow (r := rs) (b := bs) (fun z hz => h z (List.mem_cons_of_mem _ hz)) y hy
theorem addRow_zero : ∀ {r : List Int} (b : List Int), InR r → addRow 0 r b = r
  | [], _, h => rfl
  | _ :: _, [], h => rfl
  | r :: rs, b :: bs, h => by
    have h0 := h r List.mem_cons_self
    rw [addRow, addRow_zero bs (fun z hz => h z (List.mem_cons_of_mem _ hz)), Int.zero_mul, wrap_in (x := 0) (by omega) (by omega), Int.add_zero, wrap_in h0.1 h0.2]
def rowFold : List Int → List (List Int) → List Int → List Int
  | [], _, acc => acc
  | _ :: _, [], acc => acc
  | x :: xs, b :: bs, acc => rowFold xs bs (addRow x acc b)
theorem rowFold_len : ∀ xs m acc, (rowFold xs m acc).length = acc.length
  | [], _, _ => rfl
  | _ :: _, [], _ => rfl
  | x :: xs, b :: bs, acc => by rw [rowFold, rowFold_len xs bs, addRow_len]
/-- The product of matrices with n columns. -/
def prodM (a m : List (List Int)) (n : Nat) : List (List Int) := a.map fun ai => rowFold ai m (List.replicate n 0)
/-- A matrix of n rows and columns. -/
def Sq (n : Nat) (m : List (List Int)) : Prop := m.length = n ∧ ∀ r, r ∈ m → r.length = n
theorem prodM_sq {a m : List (List Int)} {n : Nat} (h : a.length = n) : Sq n (prodM a m n) := by
  refine ⟨by simp [prodM, h], fun r hr => ?_⟩
  obtain ⟨ai, _, rfl⟩ := List.mem_map.1 hr
  rw [rowFold_len, List.length_replicate]
/-! ### the product of impl -/
theorem ev_p2 : ∀ (rest pre rpre rrest : List Int) (X Y x1 x23 : List (List Int)) (x35 : List Int) (x6 x10 x24 x25 x36 x37 : Int) (V : List (List Int)), rrest.length = rest.length → rpre.length = pre.length → (pre ++ rest).length ≤ 100 → X.length ≤ 100 →
    Ev (fun k => impl_product.l1 k x1 (X ++ (rpre ++ addRow x10 rrest rest) :: Y) x6 (X.length : Int) x23 x24 x25 x35 x36 (wrap64 (x37 + 1))) V →
    Ev (fun k => impl_product.l2 k x1 (X ++ (rpre ++ rrest) :: Y) x6 (X.length : Int) x10 x23 x24 x25 x35 x36 x37 (pre ++ rest) ((pre ++ rest).length : Int) (pre.length : Int)) V := by
  intro rest
  induction rest with
  | nil =>
    intro pre rpre rrest X Y x1 x23 x35 x6 x10 x24 x25 x36 x37 V h1 h2 h3 h4 h
    cases rrest with
    | nil =>
      refine Ev.step (fun k => ?_) h
      rw [impl_product.l2, if_neg (by simp)]
      rfl
    | cons _ _ => simp at h1
  | cons b bs ih =>
    intro pre rpre rrest X Y x1 x23 x35 x6 x10 x24 x25 x36 x37 V h1 h2 h3 h4 h
    cases rrest with
    | nil => simp at h1
    | cons r rs =>
      have hlen : (pre.length : Int) < ((pre ++ b :: bs).length : Int) := by simp <;> omega
      have hp2 : (pre.length : Int) ≤ 100 := by simp at h3; omega
      have hX : (X.length : Int) < ((X ++ (rpre ++ r :: rs) :: Y).length : Int) := by simp <;> omega
      have hR : (pre.length : Int) < ((rpre ++ r :: rs).length : Int) := by simp; omega
      have r1 : rd (rpre ++ r :: rs) (pre.length : Int) = r := by rw [← h2]; exact rdI_at _ _ _
      have s1 : ∀ v, (rpre ++ r :: rs).set pre.length v = (rpre ++ [v]) ++ rs := fun v => by rw [← h2, setI_at]; simp
      have := ih (pre ++ [b]) (rpre ++ [wrap64 (r + wrap64 (x10 * b))]) rs X Y x1 x23 x35 x6 x10 x24 x25 x36 x37 V (by simpa using h1) (by simp [h2]) (by simpa using h3) h4 (by simpa [addRow] using h)
      refine Ev.step (fun k => ?_) this
      rw [impl_product.l2, if_pos hlen, if_pos (by omega), if_pos hlen, if_pos (by omega), if_pos hX, rdL_at, if_pos hR, r1, rdI_at, wrap_in (x := (pre.length : Int) + 1) (by omega) (by omega)]
      simp only [Int.toNat_natCast, s1, setI_at]
      simp
theorem ev_p1 : ∀ (rest pre : List Int) (mpre mrest : List (List Int)) (r : List Int) (X Y x23 : List (List Int)) (x6 x24 x25 : Int) (n : Nat) (V : List (List Int)), mrest.length = rest.length → mpre.length = pre.length → (∀ b, b ∈ mrest → b.length = n) → r.length = n → n ≤ 100 → (pre ++ rest).length ≤ 100 → X.length ≤ 100 →
    Ev (fun k => impl_product.l0 k (mpre ++ mrest) (X ++ rowFold rest mrest r :: Y) x6 x23 x24 (wrap64 (x25 + 1))) V →
    Ev (fun k => impl_product.l1 k (mpre ++ mrest) (X ++ r :: Y) x6 (X.length : Int) x23 x24 x25 (pre ++ rest) ((pre ++ rest).length : Int) (pre.length : Int)) V := by
  intro rest
  induction rest with
  | nil =>
    intro pre mpre mrest r X Y x23 x6 x24 x25 n V h1 h2 h3 h4 h5 h6 h7 h
    refine Ev.step (fun k => ?_) h
    rw [impl_product.l1, if_neg (by simp)]
    rfl
  | cons x xs ih =>
    intro pre mpre mrest r X Y x23 x6 x24 x25 n V h1 h2 h3 h4 h5 h6 h7 h
    cases mrest with
    | nil => simp at h1
    | cons b bs =>
      have hlen : (pre.length : Int) < ((pre ++ x :: xs).length : Int) := by simp <;> omega
      have hp2 : (pre.length : Int) ≤ 100 := by simp at h6; omega
      have hm : (pre.length : Int) < ((mpre ++ b :: bs).length : Int) := by simp; omega
      have m1 : rd_L8 (mpre ++ b :: bs) (pre.length : Int) = b := by rw [← h2]; exact rdL_at _ _ _
      have hb := h3 b List.mem_cons_self
      have hi := ih (pre ++ [x]) (mpre ++ [b]) bs (addRow x r b) X Y x23 x6 x24 x25 n V (by simpa using h1) (by simp [h2]) (fun c hc => h3 c (List.mem_cons_of_mem _ hc)) (by rw [addRow_len, h4]) h5 (by simpa using h6) h7 (by simpa [rowFold] using h)
      have hj := ev_p2 b [] [] r X Y (mpre ++ b :: bs) x23 (pre ++ x :: xs) x6 x x24 x25 ((pre ++ x :: xs).length : Int) (pre.length : Int) V (by omega) rfl (by simp; omega) h7 (by
        rw [wrap_in (x := (pre.length : Int) + 1) (by omega) (by omega)]
        simpa using hi)
      refine Ev.step (fun k => ?_) hj
      rw [impl_product.l1, if_pos hlen, if_pos (by omega), if_pos hlen, if_pos hm, m1, rdI_at]
      simp
theorem ev_p0 (m : List (List Int)) (n : Nat) (hm : Sq n m) (hn : n ≤ 100) : ∀ (rest pre done : List (List Int)), done.length = pre.length → (∀ r, r ∈ rest → r.length = n) → (pre ++ rest).length ≤ 100 →
    Ev (fun k => impl_product.l0 k m (done ++ List.replicate rest.length []) (n : Int) (pre ++ rest) ((pre ++ rest).length : Int) (pre.length : Int)) (done ++ rest.map fun ai => rowFold ai m (List.replicate n 0)) := by
  intro rest
  induction rest with
  | nil =>
    intro pre done h1 h2 h3
    exact Ev.step (f := fun _ => some (done ++ [])) (fun k => by simp [impl_product.l0]) (by simpa using Ev.now done)
  | cons ai rs ih =>
    intro pre done h1 h2 h3
    have hlen : (pre.length : Int) < ((pre ++ ai :: rs).length : Int) := by simp <;> omega
    have hp2 : (pre.length : Int) ≤ 100 := by simp at h3; omega
    have hd : (pre.length : Int) < ((done ++ List.replicate (ai :: rs).length ([] : List Int)).length : Int) := by simp; omega
    have s1 : ∀ v : List Int, (done ++ List.replicate (ai :: rs).length ([] : List Int)).set pre.length v = done ++ v :: List.replicate rs.length [] := fun v => by rw [← h1, List.length_cons, List.replicate_succ, setI_at]
    have ha := h2 ai List.mem_cons_self
    have hi := ih (pre ++ [ai]) (done ++ [rowFold ai m (List.replicate n 0)]) (by simp [h1]) (fun r hr => h2 r (List.mem_cons_of_mem _ hr)) (by simpa using h3)
    have hj := ev_p1 ai [] [] m (List.replicate n 0) done (List.replicate rs.length []) (pre ++ ai :: rs) (n : Int) ((pre ++ ai :: rs).length : Int) (pre.length : Int) n _ (by rw [hm.1, ha]) rfl hm.2 (by simp) hn (by simp; omega) (by simp at h3; omega) (by
      rw [wrap_in (x := (pre.length : Int) + 1) (by omega) (by omega)]
      simpa using hi)
    refine Ev.step (fun k => ?_) (by simpa using hj)
    rw [impl_product.l0, if_pos hlen, if_pos (by omega), if_pos hlen, if_pos (by omega), if_pos (by omega), if_pos hd, rdL_at]
    simp only [Int.toNat_natCast, s1]
    simp [h1]
theorem ev_product {a m : List (List Int)} {n : Nat} (ha : Sq n a) (hm : Sq n m) (hn : n ≤ 100) : Ev (fun k => impl_product.f k a m) (prodM a m n) := by
  unfold impl_product.f
  simp only [Int.toNat_natCast]
  simp only [if_pos (show (0 : Int) ≤ (a.length : Int) by omega), if_pos (show a.length ≤ 11728124029610 by have := ha.1; omega), Option.bind_some]
  have key := ev_p0 m n hm hn a [] [] rfl ha.2 (by have := ha.1; simp; omega)
  have hj : Ev (fun k => impl_product.j0 k a m (List.replicate a.length []) (n : Int)) (prodM a m n) :=
    Ev.step (fun k => by rw [impl_product.j0]) (by simpa [prodM] using key)
  by_cases h0 : (m.length : Int) > 0
  · simp only [if_pos h0, if_pos (show 0 < (m.length : Int) from h0)]
    have : ((rd_L8 m 0).length : Int) = (n : Int) := by
      cases m with
      | nil => simp at h0
      | cons r rs => rw [← hm.2 r List.mem_cons_self]; rfl
    rw [this]
    exact hj
  · simp only [if_neg h0]
    have : (n : Int) = 0 := by have := hm.1; omega
    rw [this] at hj
    exact hj
/-! ### the product of spec -/
theorem ev_t2 : ∀ (rest pre rpre rrest : List Int) (a m x5 : List (List Int)) (x6 x8 x : Int) (V : List (List Int)), rrest.length = rest.length → rpre.length = pre.length → (pre ++ rest).length ≤ 100 → a.length = (pre ++ rest).length → 0 ≤ x6 → x6 < (a.length : Int) → 0 ≤ x8 → x8 < ((rd_L8 a x6).length : Int) → rd (rd_L8 a x6) x8 = x → x ≠ 0 → x8 < (m.length : Int) → rd_L8 m x8 = pre ++ rest →
    Ev (fun k => spec_l08Times.l1 k a m x5 x6 (rpre ++ addRow x rrest rest) (wrap64 (x8 + 1))) V →
    Ev (fun k => spec_l08Times.l2 k a m x5 x6 (rpre ++ rrest) x8 (pre.length : Int)) V := by
  intro rest
  induction rest with
  | nil =>
    intro pre rpre rrest a m x5 x6 x8 x V h1 h2 h3 ha h60 h61 h80 h81 hx hx0 hm hr h
    cases rrest with
    | nil =>
      refine Ev.step (fun k => ?_) h
      rw [spec_l08Times.l2, if_neg (by rw [ha]; simp)]
      rfl
    | cons _ _ => simp at h1
  | cons b bs ih =>
    intro pre rpre rrest a m x5 x6 x8 x V h1 h2 h3 ha h60 h61 h80 h81 hx hx0 hm hr h
    cases rrest with
    | nil => simp at h1
    | cons r rs =>
      have hlen : (pre.length : Int) < (a.length : Int) := by rw [ha]; simp <;> omega
      have hlen2 : (pre.length : Int) < ((pre ++ b :: bs).length : Int) := by simp <;> omega
      have hp2 : (pre.length : Int) ≤ 100 := by simp at h3; omega
      have hR : (pre.length : Int) < ((rpre ++ r :: rs).length : Int) := by simp; omega
      have r1 : rd (rpre ++ r :: rs) (pre.length : Int) = r := by rw [← h2]; exact rdI_at _ _ _
      have s1 : ∀ v, (rpre ++ r :: rs).set pre.length v = (rpre ++ [v]) ++ rs := fun v => by rw [← h2, setI_at]; simp
      have := ih (pre ++ [b]) (rpre ++ [wrap64 (r + wrap64 (x * b))]) rs a m x5 x6 x8 x V (by simpa using h1) (by simp [h2]) (by simpa using h3) (by simpa using ha) h60 h61 h80 h81 hx hx0 hm (by simpa using hr) (by simpa [addRow] using h)
      refine Ev.step (fun k => ?_) this
      rw [spec_l08Times.l2, if_pos hlen, if_pos h60, if_pos h61, if_pos h80, if_pos h81, hx, if_neg hx0, if_pos (by omega), if_pos hR, if_pos hm, hr, if_pos hlen2, r1, rdI_at, wrap_in (x := (pre.length : Int) + 1) (by omega) (by omega)]
      simp only [Int.toNat_natCast, s1]
      simp
set_option maxHeartbeats 2000000 in
theorem ev_t1 (a : List (List Int)) (n : Nat) (han : a.length = n) (hn : n ≤ 100) (x6 : Int) (h60 : 0 ≤ x6) (h61 : x6 < (a.length : Int)) (x5 : List (List Int)) (hx5 : x5.length ≤ 100) : ∀ (rest pre : List Int) (mpre mrest : List (List Int)) (r : List Int) (V : List (List Int)), rd_L8 a x6 = pre ++ rest → (pre ++ rest).length = n → mrest.length = rest.length → mpre.length = pre.length → (∀ b, b ∈ mrest → b.length = n) → r.length = n → InR r →
    Ev (fun k => spec_l08Times.l0 k a (mpre ++ mrest) (x5 ++ [rowFold rest mrest r]) (wrap64 (x6 + 1))) V →
    Ev (fun k => spec_l08Times.l1 k a (mpre ++ mrest) x5 x6 r (pre.length : Int)) V := by
  intro rest
  induction rest with
  | nil =>
    intro pre mpre mrest r V h0 h1 h2 h3 h4 h5 h6 h
    refine Ev.step (fun k => ?_) h
    rw [spec_l08Times.l1, if_neg (by rw [han, ← h1]; simp), if_pos (by omega)]
    rfl
  | cons x xs ih =>
    intro pre mpre mrest r V h0 h1 h2 h3 h4 h5 h6 h
    cases mrest with
    | nil => simp at h2
    | cons b bs =>
      have hp : pre.length < n := by rw [← h1]; simp <;> omega
      have hlen : (pre.length : Int) < (a.length : Int) := by omega
      have hrow : (pre.length : Int) < ((rd_L8 a x6).length : Int) := by rw [h0, h1]; omega
      have hm : (pre.length : Int) < ((mpre ++ b :: bs).length : Int) := by simp; omega
      have m1 : rd_L8 (mpre ++ b :: bs) (pre.length : Int) = b := by rw [← h3]; exact rdL_at _ _ _
      have hx : rd (rd_L8 a x6) (pre.length : Int) = x := by rw [h0]; exact rdI_at _ _ _
      have hb := h4 b List.mem_cons_self
      have z0 : (0 : Int) ≤ (pre.length : Int) := Int.natCast_nonneg _
      have z1 : (0 : Int) < (a.length : Int) := Int.lt_of_le_of_lt z0 hlen
      have hw : wrap64 ((pre.length : Int) + 1) = (pre.length : Int) + 1 := by clear hx hm m1 hrow h6 h h60 h61; exact wrap_in (by omega) (by omega)
      have hi := ih (pre ++ [x]) (mpre ++ [b]) bs (addRow x r b) V (by simpa using h0) (by simpa using h1) (by simpa using h2) (by simp [h3]) (fun c hc => h4 c (List.mem_cons_of_mem _ hc)) (by rw [addRow_len, h5]) (InR.addRow h6) (by simpa [rowFold] using h)
      have hk : Ev (fun k => spec_l08Times.l2 k a (mpre ++ b :: bs) x5 x6 r (pre.length : Int) 0) V := by
        by_cases hx0 : x = 0
        · subst hx0
          rw [addRow_zero b h6] at hi
          refine Ev.step (f := fun k => spec_l08Times.l1 k a (mpre ++ b :: bs) x5 x6 r ((pre.length : Int) + 1)) (fun k => ?_) (by simpa using hi)
          rw [spec_l08Times.l2, if_pos z1, if_pos h60, if_pos h61, if_pos z0, if_pos hrow, hx, if_pos rfl, hw]
        · have := ev_t2 b [] [] r a (mpre ++ b :: bs) x5 x6 (pre.length : Int) x V (h5.trans hb.symm) rfl (show b.length ≤ 100 from hb ▸ hn) (show a.length = b.length from han.trans hb.symm) h60 h61 z0 hrow hx hx0 hm m1 (by rw [hw]; simpa using hi)
          exact this
      refine Ev.step (fun k => ?_) hk
      rw [spec_l08Times.l1, if_pos hlen]
theorem ev_t0 (m : List (List Int)) (n : Nat) (hm : Sq n m) (hn : n ≤ 100) : ∀ (rest pre done : List (List Int)), done.length = pre.length → (∀ r, r ∈ rest → r.length = n) → (pre ++ rest).length = n →
    Ev (fun k => spec_l08Times.l0 k (pre ++ rest) m done (pre.length : Int)) (done ++ rest.map fun ai => rowFold ai m (List.replicate n 0)) := by
  intro rest
  induction rest with
  | nil =>
    intro pre done h1 h2 h3
    exact Ev.step (f := fun _ => some (done ++ [])) (fun k => by simp [spec_l08Times.l0]) (by simpa using Ev.now done)
  | cons ai rs ih =>
    intro pre done h1 h2 h3
    have hp : pre.length < n := by rw [← h3]; simp <;> omega
    have hlen : (pre.length : Int) < ((pre ++ ai :: rs).length : Int) := by simp <;> omega
    have ha := h2 ai List.mem_cons_self
    have hi := ih (pre ++ [ai]) (done ++ [rowFold ai m (List.replicate n 0)]) (by simp [h1]) (fun r hr => h2 r (List.mem_cons_of_mem _ hr)) (by simpa using h3)
    have hj := ev_t1 (pre ++ ai :: rs) n h3 hn (pre.length : Int) (by omega) hlen done (by omega) ai [] [] m (List.replicate n 0) _ (by simpa using rdL_at pre rs ai) (by simpa using ha) (by rw [hm.1, ha]) rfl hm.2 (by simp) (fun x hx => by rw [List.eq_of_mem_replicate hx]; omega) (by
      rw [wrap_in (x := (pre.length : Int) + 1) (by omega) (by omega)]
      simpa using hi)
    refine Ev.step (fun k => ?_) (by simpa using hj)
    rw [spec_l08Times.l0, if_pos hlen, if_pos (by omega), if_pos (by rw [h3]; omega), Int.toNat_natCast, h3]
theorem ev_times {a m : List (List Int)} {n : Nat} (ha : Sq n a) (hm : Sq n m) (hn : n ≤ 100) : Ev (fun k => spec_l08Times.f k a m) (prodM a m n) := by
  unfold spec_l08Times.f
  simpa [prodM] using ev_t0 m n hm hn a [] [] rfl ha.2 (by simpa using ha.1)
end Go.Proofs.Ytngffoffjiofbaa.Q
end
section
/- Units, traces, diagonals and the rounds of the characteristic polynomial, on both sides; and the code that both tell. -/
namespace Go.Proofs.Ytngffoffjiofbaa.Q
open Go.RowKit Go.Proofs.YtngffoffjiofbaaW.PrintWords Go.Proofs.YtngffoffjiofbaaW.PrintLast Go.Proofs.YtngffoffjiofbaaW.Ext Go.Proofs.Ytngffoffjiofbaa.Ang
set_option linter.unusedVariables false
set_option linter.unusedSimpArgs false

def uni (n : Nat) (c : Int) : Nat → Nat → List (List Int)
  | _, 0 => []
  | i, j + 1 => (List.replicate n 0).set i c :: uni n c (i + 1) j
theorem uni_sq (n : Nat) (c : Int) : ∀ j i, (uni n c i j).length = j ∧ ∀ r, r ∈ uni n c i j → r.length = n
  | 0, _ => ⟨rfl, fun r h => by cases h⟩
  | j + 1, i => ⟨by simp [uni, (uni_sq n c j (i + 1)).1], fun r h => by
      rcases List.mem_cons.1 h with rfl | h
      · simp
      · exact (uni_sq n c j (i + 1)).2 r h⟩
theorem ev_unit_spec (n : Nat) (c : Int) (hn : n ≤ 100) : Ev (fun k => spec_l08Unit.f k (n : Int) c) (uni n c 0 n) := by
  unfold spec_l08Unit.f
  have key : ∀ (j i : Nat) (done : List (List Int)), done.length = i → i + j = n → Ev (fun k => spec_l08Unit.l0 k (n : Int) c done (i : Int)) (done ++ uni n c i j) := by
    intro j
    induction j with
    | zero =>
      intro i done h1 h2
      refine Ev.step (f := fun _ => some done) (fun k => ?_) (by simpa [uni] using Ev.now done)
      rw [spec_l08Unit.l0, if_neg (by omega)]
    | succ j ih =>
      intro i done h1 h2
      refine Ev.step (fun k => ?_) (by simpa [uni] using ih (i + 1) (done ++ [(List.replicate n 0).set i c]) (by simp [h1]) (by omega))
      rw [spec_l08Unit.l0, if_pos (by omega), if_pos (by omega), if_pos (by omega)]
      simp only [Option.bind_some, Int.toNat_natCast, List.length_replicate]
      rw [if_pos (by omega), if_pos (by omega), if_pos (by omega), wrap_in (by omega) (by omega)]
  simpa using key n 0 [] rfl (by omega)
theorem ev_unit_impl (n : Nat) (hn : n ≤ 100) : Ev (fun k => impl_unit.f k (n : Int)) (uni n 1 0 n) := by
  unfold impl_unit.f
  simp only [if_pos (show (0 : Int) ≤ (n : Int) by omega), if_pos (show n ≤ 11728124029610 by omega), Option.bind_some, Int.toNat_natCast, List.length_replicate]
  have key : ∀ (j i : Nat) (done : List (List Int)), done.length = i → i + j = n → Ev (fun k => impl_unit.l0 k (n : Int) (done ++ List.replicate j []) (n : Int) (i : Int)) (done ++ uni n 1 i j) := by
    intro j
    induction j with
    | zero =>
      intro i done h1 h2
      refine Ev.step (f := fun _ => some done) (fun k => ?_) (by simpa [uni] using Ev.now done)
      rw [impl_unit.l0, if_neg (by omega)]
      simp
    | succ j ih =>
      intro i done h1 h2
      have s1 : ∀ v : List Int, (done ++ List.replicate (j + 1) ([] : List Int)).set i v = done ++ v :: List.replicate j [] := fun v => by rw [← h1, List.replicate_succ, setI_at]
      have s2 : ∀ u v : List Int, (done ++ u :: List.replicate j []).set i v = done ++ v :: List.replicate j [] := fun u v => by rw [← h1, setI_at]
      have r1 : ∀ u : List Int, rd_L8 (done ++ u :: List.replicate j []) (i : Int) = u := fun u => by rw [← h1]; exact rdL_at _ _ _
      refine Ev.step (f := fun k => impl_unit.l0 k (n : Int) (done ++ (List.replicate n 0).set i 1 :: List.replicate j []) (n : Int) ((i : Int) + 1)) (fun k => ?_) (by
        have hi := ih (i + 1) (done ++ [(List.replicate n 0).set i 1]) (by simp [h1]) (by omega)
        rw [List.append_assoc, List.append_assoc] at hi
        exact hi)
      rw [impl_unit.l0, if_pos (by omega), if_pos (by omega), if_pos (by omega), if_pos (by omega), if_pos (by simp; omega)]
      simp only [Option.bind_some, Int.toNat_natCast, s1, s2, r1, List.length_replicate]
      rw [if_pos (by omega), wrap_in (by omega) (by omega)]
  simpa using key n 0 [] rfl (by omega)
/-! ### traces and diagonals -/
def tra : Nat → Int → List (List Int) → Int
  | _, acc, [] => acc
  | i, acc, r :: rs => tra (i + 1) (wrap64 (acc + rd r (i : Int))) rs
theorem ev_trace_spec {n : Nat} {m : List (List Int)} (hm : Sq n m) (hn : n ≤ 100) : Ev (fun k => spec_l08Trace.f k m) (tra 0 0 m) := by
  unfold spec_l08Trace.f
  have key : ∀ (rest pre : List (List Int)) (acc : Int), (∀ r, r ∈ rest → r.length = n) → (pre ++ rest).length = n → Ev (fun k => spec_l08Trace.l0 k (pre ++ rest) acc (pre.length : Int)) (tra pre.length acc rest) := by
    intro rest
    induction rest with
    | nil =>
      intro pre acc h1 h2
      exact Ev.step (f := fun _ => some acc) (fun k => by simp [spec_l08Trace.l0]) (Ev.now _)
    | cons r rs ih =>
      intro pre acc h1 h2
      have hr := h1 r List.mem_cons_self
      have hlen : (pre.length : Int) < ((pre ++ r :: rs).length : Int) := by simp <;> omega
      have hi := ih (pre ++ [r]) (wrap64 (acc + rd r (pre.length : Int))) (fun c hc => h1 c (List.mem_cons_of_mem _ hc)) (by simpa using h2)
      refine Ev.step (fun k => ?_) (by simpa [tra] using hi)
      rw [spec_l08Trace.l0, if_pos hlen, if_pos (by omega), rdL_at, if_pos (by omega), wrap_in (x := (pre.length : Int) + 1) (by omega) (by omega)]
  simpa using key m [] 0 hm.2 (by simpa using hm.1)
theorem ev_trace_impl {n : Nat} {m : List (List Int)} (hm : Sq n m) (hn : n ≤ 100) : Ev (fun k => impl_trace.f k m) (tra 0 0 m) := by
  unfold impl_trace.f
  have key : ∀ (rest pre : List (List Int)) (acc : Int), (∀ r, r ∈ rest → r.length = n) → (pre ++ rest).length = n → Ev (fun k => impl_trace.l0 k (pre ++ rest) acc ((pre ++ rest).length : Int) (pre.length : Int)) (tra pre.length acc rest) := by
    intro rest
    induction rest with
    | nil =>
      intro pre acc h1 h2
      exact Ev.step (f := fun _ => some acc) (fun k => by simp [impl_trace.l0]) (Ev.now _)
    | cons r rs ih =>
      intro pre acc h1 h2
      have hr := h1 r List.mem_cons_self
      have hlen : (pre.length : Int) < ((pre ++ r :: rs).length : Int) := by simp <;> omega
      have hi := ih (pre ++ [r]) (wrap64 (acc + rd r (pre.length : Int))) (fun c hc => h1 c (List.mem_cons_of_mem _ hc)) (by simpa using h2)
      refine Ev.step (fun k => ?_) (by simpa [tra] using hi)
      rw [impl_trace.l0, if_pos hlen, if_pos (by omega), if_pos hlen, rdL_at, if_pos (by omega), wrap_in (x := (pre.length : Int) + 1) (by omega) (by omega)]
      simp
  simpa using key m [] 0 hm.2 (by simpa using hm.1)
def dia (c : Int) : Nat → List (List Int) → List (List Int)
  | _, [] => []
  | i, r :: rs => r.set i (wrap64 (rd r (i : Int) + c)) :: dia c (i + 1) rs
theorem dia_sq (c : Int) (n : Nat) : ∀ (m : List (List Int)) (i : Nat), (∀ r, r ∈ m → r.length = n) → (dia c i m).length = m.length ∧ ∀ r, r ∈ dia c i m → r.length = n
  | [], _, _ => ⟨rfl, fun r h => by cases h⟩
  | x :: xs, i, hx => ⟨by simp [dia, (dia_sq c n xs (i + 1) (fun r h => hx r (List.mem_cons_of_mem _ h))).1], fun r h => by
      rcases List.mem_cons.1 h with rfl | h
      · rw [List.length_set]; exact hx x List.mem_cons_self
      · exact (dia_sq c n xs (i + 1) (fun r h => hx r (List.mem_cons_of_mem _ h))).2 r h⟩
theorem ev_dia_impl {n : Nat} {m : List (List Int)} (hm : Sq n m) (hn : n ≤ 100) (ji : Int) (out : List Int) (h0 : 0 ≤ ji) (h1 : ji < (out.length : Int)) (cnt : Int) (hcnt : cnt = (n : Int)) : Ev (fun k => impl_characteristic.l1 k ji out cnt 0 m) (dia (rd out ji) 0 m) := by
  subst hcnt
  have key : ∀ (rest done : List (List Int)), (∀ r, r ∈ rest → r.length = n) → (done ++ rest).length = n → Ev (fun k => impl_characteristic.l1 k ji out (n : Int) (done.length : Int) (done ++ rest)) (done ++ dia (rd out ji) done.length rest) := by
    intro rest
    induction rest with
    | nil =>
      intro done h2 h3
      refine Ev.step (f := fun _ => some done) (fun k => ?_) (by simpa [dia] using Ev.now done)
      rw [impl_characteristic.l1, if_neg (by rw [← h3]; simp)]
      simp
    | cons r rs ih =>
      intro done h2 h3
      have hr := h2 r List.mem_cons_self
      have hlen : (done.length : Int) < ((done ++ r :: rs).length : Int) := by simp <;> omega
      have hi := ih (done ++ [r.set done.length (wrap64 (rd r (done.length : Int) + rd out ji))]) (fun c hc => h2 c (List.mem_cons_of_mem _ hc)) (by simpa using h3)
      refine Ev.step (fun k => ?_) (by simpa [dia] using hi)
      rw [impl_characteristic.l1, if_pos (by omega), rdL_at, if_pos ⟨by omega, hlen, by omega, h0, h1⟩, wrap_in (x := (done.length : Int) + 1) (by omega) (by omega), Int.toNat_natCast, setI_at]
  simpa using key m [] hm.2 (by simpa using hm.1)
theorem ev_dia_spec {n : Nat} {m : List (List Int)} (hm : Sq n m) (hn : n ≤ 100) (ji : Int) (out : List Int) (h0 : 0 ≤ ji) (h1 : ji < (out.length : Int)) : Ev (fun k => spec_l08Characteristic.l1 k ji out (n : Int) 0 m) (dia (rd out ji) 0 m) := by
  have key : ∀ (rest done : List (List Int)), (∀ r, r ∈ rest → r.length = n) → (done ++ rest).length = n → Ev (fun k => spec_l08Characteristic.l1 k ji out (n : Int) (done.length : Int) (done ++ rest)) (done ++ dia (rd out ji) done.length rest) := by
    intro rest
    induction rest with
    | nil =>
      intro done h2 h3
      refine Ev.step (f := fun _ => some done) (fun k => ?_) (by simpa [dia] using Ev.now done)
      rw [spec_l08Characteristic.l1, if_neg (by rw [← h3]; simp)]
      simp
    | cons r rs ih =>
      intro done h2 h3
      have hr := h2 r List.mem_cons_self
      have hlen : (done.length : Int) < ((done ++ r :: rs).length : Int) := by simp <;> omega
      have hi := ih (done ++ [r.set done.length (wrap64 (rd r (done.length : Int) + rd out ji))]) (fun c hc => h2 c (List.mem_cons_of_mem _ hc)) (by simpa using h3)
      refine Ev.step (fun k => ?_) (by simpa [dia] using hi)
      rw [spec_l08Characteristic.l1, if_pos (by omega), rdL_at, if_pos ⟨by omega, hlen, by omega, h0, h1⟩, wrap_in (x := (done.length : Int) + 1) (by omega) (by omega), Int.toNat_natCast, setI_at]
  simpa using key m [] hm.2 (by simpa using hm.1)
/-! ### the rounds -/
/-- One more coefficient. -/
def nextC (a : List (List Int)) (n : Nat) (out : List Int) (m : List (List Int)) (kk : Int) : List Int := out.set ((n : Int) - kk).toNat (wrap64 (Int.tdiv (wrap64 (-(tra 0 0 (prodM a m n)))) kk))
theorem nextC_len (a : List (List Int)) (n : Nat) (out : List Int) (m : List (List Int)) (kk : Int) : (nextC a n out m kk).length = out.length := by simp [nextC]
def chi (a : List (List Int)) (n : Nat) : Nat → List Int → List (List Int) → Int → List Int
  | 0, out, _, _ => out
  | j + 1, out, m, kk => chi a n j (nextC a n out m kk) (dia (rd (nextC a n out m kk) ((n : Int) - kk)) 0 (prodM a m n)) (kk + 1)
theorem chi_len (a : List (List Int)) (n : Nat) : ∀ j out m kk, (chi a n j out m kk).length = out.length
  | 0, _, _, _ => rfl
  | j + 1, out, m, kk => by rw [chi, chi_len a n j, nextC_len]
theorem dia_Sq {n : Nat} {m : List (List Int)} (h : Sq n m) (c : Int) : Sq n (dia c 0 m) := ⟨(dia_sq c n m 0 h.2).1.trans h.1, (dia_sq c n m 0 h.2).2⟩
theorem ev_chi_impl {a : List (List Int)} {n : Nat} (ha : Sq n a) (hn : n ≤ 100) : ∀ (j : Nat) (out : List Int) (m : List (List Int)) (kk : Int), Sq n m → out.length = n + 1 → kk + (j : Int) = (n : Int) + 1 → 1 ≤ kk →
    Ev (fun k => impl_characteristic.l0 k a (n : Int) out m kk) (chi a n j out m kk) := by
  intro j
  induction j with
  | zero =>
    intro out m kk hm ho hk h1
    refine Ev.step (f := fun _ => some out) (fun k => ?_) (Ev.now _)
    rw [impl_characteristic.l0, if_neg (by omega)]
  | succ j ih =>
    intro out m kk hm ho hk h1
    have w1 : wrap64 ((n : Int) - kk) = (n : Int) - kk := wrap_in (by omega) (by omega)
    have w2 : wrap64 (kk + 1) = kk + 1 := wrap_in (by omega) (by omega)
    have hc : kk ≠ 0 ∧ 0 ≤ (n : Int) - kk ∧ (n : Int) - kk < (out.length : Int) := ⟨by omega, by omega, by omega⟩
    have hp := prodM_sq (a := a) (m := m) ha.1
    refine Ev.step (f := fun k => (impl_product.f k a m).bind fun m1 => (impl_trace.f k m1).bind fun t => (impl_characteristic.l1 k ((n : Int) - kk) (out.set ((n : Int) - kk).toNat (wrap64 (Int.tdiv (wrap64 (-t)) kk))) (m1.length : Int) 0 m1).bind fun m2 => impl_characteristic.l0 k a (n : Int) (out.set ((n : Int) - kk).toNat (wrap64 (Int.tdiv (wrap64 (-t)) kk))) m2 (kk + 1)) (fun k => ?_) ?_
    · rw [impl_characteristic.l0, if_pos (by omega)]
      simp only [w1, w2, if_pos hc]
    · refine Ev.bind (ev_product ha hm hn) (Ev.bind (ev_trace_impl hp hn) (Ev.bind (ev_dia_impl hp hn _ _ hc.2.1 (by rw [List.length_set]; exact hc.2.2) _ (by rw [hp.1])) ?_))
      exact ih _ _ _ (dia_Sq hp _) (by rw [List.length_set]; exact ho) (by omega) (by omega)
theorem ev_chi_spec {a : List (List Int)} {n : Nat} (ha : Sq n a) (hn : n ≤ 100) : ∀ (j : Nat) (out : List Int) (m now : List (List Int)) (kk : Int), Sq n now → m = dia (rd out ((n : Int) - kk + 1)) 0 (prodM a now n) → out.length = n + 1 → kk + (j : Int) = (n : Int) + 1 → 1 ≤ kk →
    Ev (fun k => spec_l08Characteristic.l0 k a (n : Int) out now kk) (chi a n j out m kk) := by
  intro j
  induction j with
  | zero =>
    intro out m now kk hm hinv ho hk h1
    refine Ev.step (f := fun _ => some out) (fun k => ?_) (Ev.now _)
    rw [spec_l08Characteristic.l0, if_neg (by omega)]
  | succ j ih =>
    intro out m now kk hm hinv ho hk h1
    have w1 : wrap64 ((n : Int) - kk) = (n : Int) - kk := wrap_in (by omega) (by omega)
    have w2 : wrap64 (kk + 1) = kk + 1 := wrap_in (by omega) (by omega)
    have w3 : wrap64 ((n : Int) - kk + 1) = (n : Int) - kk + 1 := wrap_in (by omega) (by omega)
    have hc : kk ≠ 0 ∧ 0 ≤ (n : Int) - kk ∧ (n : Int) - kk < (out.length : Int) := ⟨by omega, by omega, by omega⟩
    have hq := prodM_sq (a := a) (m := now) ha.1
    have hm2 : Sq n m := by rw [hinv]; exact dia_Sq hq _
    have hp := prodM_sq (a := a) (m := m) ha.1
    refine Ev.step (f := fun k => (spec_l08Times.f k a now).bind fun m1 => (spec_l08Characteristic.l1 k ((n : Int) - kk + 1) out (n : Int) 0 m1).bind fun m2 => (spec_l08Times.f k a m2).bind fun p => (spec_l08Trace.f k p).bind fun t => spec_l08Characteristic.l0 k a (n : Int) (out.set ((n : Int) - kk).toNat (wrap64 (Int.tdiv (wrap64 (-t)) kk))) m2 (kk + 1)) (fun k => ?_) ?_
    · rw [spec_l08Characteristic.l0, if_pos (by omega)]
      simp only [w1, w2, w3, if_pos hc]
    · refine Ev.bind (ev_times ha hm hn) (Ev.bind (ev_dia_spec hq hn _ _ (by omega) (by omega)) ?_)
      rw [← hinv]
      refine Ev.bind (ev_times ha hm2 hn) (Ev.bind (ev_trace_spec hp hn) ?_)
      refine ih _ _ m _ hm2 ?_ (by rw [List.length_set]; exact ho) (by omega) (by omega)
      rw [show (n : Int) - (kk + 1) + 1 = (n : Int) - kk by omega]
      rfl
/-! ### the beginning -/
theorem addRow_zeros (x : Int) : ∀ n, addRow x (List.replicate n 0) (List.replicate n 0) = List.replicate n 0
  | 0 => rfl
  | n + 1 => by
    rw [List.replicate_succ, addRow, addRow_zeros x n, Int.mul_zero, wrap_in (x := 0) (by omega) (by omega), Int.add_zero, wrap_in (x := 0) (by omega) (by omega)]
theorem uni_zero (n : Nat) : ∀ j i, uni n 0 i j = List.replicate j (List.replicate n 0)
  | 0, _ => rfl
  | j + 1, i => by
    rw [uni, uni_zero n j, List.replicate_succ]
    congr 1
    apply List.ext_getElem (by simp)
    intro p h1 h2
    rw [List.getElem_set]
    split <;> simp
theorem rowFold_zeros (n : Nat) : ∀ (xs : List Int) (j : Nat), rowFold xs (List.replicate j (List.replicate n 0)) (List.replicate n 0) = List.replicate n 0
  | [], _ => rfl
  | _ :: _, 0 => rfl
  | x :: xs, j + 1 => by rw [List.replicate_succ, rowFold, addRow_zeros, rowFold_zeros n xs j]
theorem dia_zeros (n : Nat) : ∀ j i, i + j ≤ n → dia 1 i (List.replicate j (List.replicate n 0)) = uni n 1 i j
  | 0, _, _ => rfl
  | j + 1, i, h => by
    rw [List.replicate_succ, dia, uni, dia_zeros n j (i + 1) (by omega)]
    congr 2
    have : rd (List.replicate n 0) (i : Int) = 0 := by simp [rd, show i < n by omega]
    rw [this, wrap_in (x := 0 + 1) (by omega) (by omega)]
    rfl
theorem ev_char_both {a : List (List Int)} {n : Nat} (ha : Sq n a) (hn : n ≤ 100) : ∃ r, Ev (fun k => impl_characteristic.f k a) r ∧ Ev (fun k => spec_l08Characteristic.f k a) r ∧ r.length = n + 1 := by
  have hl : a.length ≤ 100 := by rw [ha.1]; exact hn
  have w : wrap64 ((n : Int) + 1) = (n : Int) + 1 := wrap_in (by omega) (by omega)
  have ho : ((List.replicate ((n : Int) + 1).toNat (0 : Int)).set ((n : Int)).toNat 1).length = n + 1 := by simp
  have hU : Sq n (uni n 1 0 n) := uni_sq n 1 n 0
  have hZ : Sq n (uni n 0 0 n) := uni_sq n 0 n 0
  refine ⟨chi a n n ((List.replicate ((n : Int) + 1).toNat (0 : Int)).set ((n : Int)).toNat 1) (uni n 1 0 n) 1, ?_, ?_, ?_⟩
  · unfold impl_characteristic.f
    simp only [ha.1, if_pos hn, w]
    exact Ev.bind (f := fun k u => impl_characteristic.l0 k a (n : Int) ((List.replicate ((n : Int) + 1).toNat (0 : Int)).set ((n : Int)).toNat 1) u 1) (ev_unit_impl n hn) (ev_chi_impl ha hn n _ _ 1 hU ho (by omega) (by omega))
  · unfold spec_l08Characteristic.f
    simp only [ha.1, if_pos hn, w]
    refine Ev.bind (f := fun k u => spec_l08Characteristic.l0 k a (n : Int) ((List.replicate ((n : Int) + 1).toNat (0 : Int)).set ((n : Int)).toNat 1) u 1) (ev_unit_spec n 0 hn) (ev_chi_spec ha hn n _ _ _ 1 hZ ?_ ho (by omega) (by omega))
    have e1 : rd ((List.replicate ((n : Int) + 1).toNat (0 : Int)).set ((n : Int)).toNat 1) ((n : Int) - 1 + 1) = 1 := by
      rw [show (n : Int) - 1 + 1 = (n : Int) by omega, show ((n : Int) + 1).toNat = n + 1 by omega]
      simp [rd]
    rw [e1, uni_zero]
    have e2 : prodM a (List.replicate n (List.replicate n 0)) n = List.replicate n (List.replicate n 0) := by
      unfold prodM
      rw [List.map_congr_left (fun x _ => rowFold_zeros n x n), List.map_const', ha.1]
    rw [e2, dia_zeros n n 0 (by omega)]
  · rw [chi_len, ho]
end Go.Proofs.Ytngffoffjiofbaa.Q
end
section
/- What the laws ask of lists of lists of numbers that came in: their sizes, and copies of them. -/
namespace Go.Proofs.Ytngffoffjiofbaa.Q
open Go.RowKit Go.Proofs.YtngffoffjiofbaaW.PrintWords Go.Proofs.YtngffoffjiofbaaW.PrintLast Go.Proofs.YtngffoffjiofbaaW.Ext Go.Proofs.Ytngffoffjiofbaa.Ang
set_option linter.unusedVariables false
set_option linter.unusedSimpArgs false

theorem ev_toInt64S (l : List Int) (hl : l.length ≤ 1048576) : Ev (fun k => laws_toInt64S.f k l) l := by
  unfold laws_toInt64S.f
  simp only [Int.toNat_natCast]
  simp only [if_pos (show (0 : Int) ≤ (l.length : Int) by omega), if_pos (show l.length ≤ 35184372088832 by omega)]
  have key : ∀ (rest pre : List Int), (pre ++ rest).length ≤ 1048576 →
      Ev (fun k => laws_toInt64S.l0 k (pre ++ rest) (pre ++ List.replicate rest.length 0) (pre.length : Int)) (pre ++ rest) := by
    intro rest
    induction rest with
    | nil =>
      intro pre _
      exact Ev.step (f := fun _ => some (pre ++ [])) (fun k => by simp [laws_toInt64S.l0]) (Ev.now _)
    | cons x xs ih =>
      intro pre hp
      have hlen : (pre.length : Int) < ((pre ++ x :: xs).length : Int) := by simp <;> omega
      have hp2 : (pre.length : Int) ≤ 1048576 := by simp at hp; omega
      have hl2 : (pre.length : Int) < ((pre ++ List.replicate (x :: xs).length (0 : Int)).length : Int) := by simp <;> omega
      refine Ev.step (f := fun k => laws_toInt64S.l0 k ((pre ++ [x]) ++ xs) ((pre ++ [x]) ++ List.replicate xs.length 0) ((pre ++ [x]).length : Int)) (fun k => ?_) ?_
      · rw [laws_toInt64S.l0, if_pos hlen, if_pos (by omega), if_pos hl2, rdI_at, wrap_in (by omega) (by omega)]
        rw [Int.toNat_natCast, List.length_cons, List.replicate_succ, setI_at]
        simp
      · have := ih (pre ++ [x]) (by simpa using hp)
        simpa using this
  simpa using key l [] (by simpa using hl)
theorem ev_toInt64SS (l : List (List Int)) (hl : l.length ≤ 1048576) (ht : tot l ≤ 1048576) : Ev (fun k => laws_toInt64SS.f k l) l := by
  unfold laws_toInt64SS.f
  simp only [Int.toNat_natCast]
  simp only [if_pos (show (0 : Int) ≤ (l.length : Int) by omega), if_pos (show l.length ≤ 11728124029610 by omega)]
  have key : ∀ (rest pre : List (List Int)), (pre ++ rest).length ≤ 1048576 → tot (pre ++ rest) ≤ 1048576 →
      Ev (fun k => laws_toInt64SS.l0 k (pre ++ rest) (pre ++ List.replicate rest.length []) (pre.length : Int)) (pre ++ rest) := by
    intro rest
    induction rest with
    | nil =>
      intro pre _ _
      exact Ev.step (f := fun _ => some (pre ++ [])) (fun k => by simp [laws_toInt64SS.l0]) (Ev.now _)
    | cons x xs ih =>
      intro pre hp hq
      have hlen : (pre.length : Int) < ((pre ++ x :: xs).length : Int) := by simp <;> omega
      have hp2 : (pre.length : Int) ≤ 1048576 := by simp at hp; omega
      have hl2 : (pre.length : Int) < ((pre ++ List.replicate (x :: xs).length ([] : List Int)).length : Int) := by simp <;> omega
      have hx : x.length ≤ 1048576 := by rw [tot_app] at hq; simp only [tot] at hq; omega
      refine Ev.step (f := fun k => (laws_toInt64S.f k x).bind fun t => laws_toInt64SS.l0 k ((pre ++ [x]) ++ xs) ((pre ++ [t]) ++ List.replicate xs.length []) ((pre ++ [x]).length : Int)) (fun k => ?_) ?_
      · rw [laws_toInt64SS.l0, if_pos hlen, if_pos (by omega), rdL_at]
        refine congrArg (Option.bind _) (funext fun t => ?_)
        rw [if_pos hl2, wrap_in (by omega) (by omega)]
        rw [Int.toNat_natCast, List.length_cons, List.replicate_succ, setI_at]
        simp
      · refine Ev.bind (ev_toInt64S x hx) ?_
        have := ih (pre ++ [x]) (by simpa using hp) (by simpa using hq)
        simpa using this
  simpa using key l [] (by simpa using hl) (by simpa using ht)
theorem ev_szInt64SS (l : List (List Int)) (hm : l.length ≤ 9223372036854775807 ∧ ∀ r, r ∈ l → r.length ≤ 9223372036854775807) :
    ∃ v, Ev (fun k => laws_szInt64SS.f k l 1048576) v ∧ (v < 0 ∨ (l.length ≤ 1048576 ∧ tot l ≤ 1048576)) := by
  unfold laws_szInt64SS.f
  rw [wrap_in (by have := hm.1; omega) (by omega)]
  by_cases h0 : (1048576 : Int) - (l.length : Int) < 0
  · simp only [if_pos h0]
    exact ⟨-1, Ev.now _, Or.inl (by omega)⟩
  · simp only [if_neg h0]
    have key : ∀ (rest pre : List (List Int)) (x1 : Int), 0 ≤ x1 → x1 ≤ 1048576 → (pre ++ rest).length ≤ 1048576 → (∀ r, r ∈ rest → r.length ≤ 9223372036854775807) →
        ∃ v, Ev (fun k => laws_szInt64SS.l0 k (pre ++ rest) x1 (pre.length : Int)) v ∧ (v < 0 ∨ (tot rest : Int) ≤ x1) := by
      intro rest
      induction rest with
      | nil =>
        intro pre x1 h1 h2 _ _
        exact ⟨x1, Ev.step (f := fun _ => some x1) (fun k => by simp [laws_szInt64SS.l0]) (Ev.now _), Or.inr (by simpa [tot] using h1)⟩
      | cons x xs ih =>
        intro pre x1 h1 h2 hp hr
        have hx := hr x List.mem_cons_self
        have hlen : (pre.length : Int) < ((pre ++ x :: xs).length : Int) := by simp <;> omega
        have hp2 : (pre.length : Int) ≤ 1048576 := by simp at hp; omega
        have hw : wrap64 (x1 - (x.length : Int)) = x1 - (x.length : Int) := wrap_in (by omega) (by omega)
        by_cases h3 : x1 - (x.length : Int) < 0
        · refine ⟨-1, Ev.step (f := fun _ => some (-1)) (fun k => ?_) (Ev.now _), Or.inl (by omega)⟩
          rw [laws_szInt64SS.l0, if_pos hlen, if_pos (by omega), rdL_at, laws_szInt64S.f, hw, if_pos h3]
          simp
        · obtain ⟨v, hv, hd⟩ := ih (pre ++ [x]) (x1 - (x.length : Int)) (by omega) (by omega) (by simpa using hp) (fun r h => hr r (List.mem_cons_of_mem _ h))
          refine ⟨v, Ev.step (f := fun k => laws_szInt64SS.l0 k (pre ++ [x] ++ xs) (x1 - (x.length : Int)) ((pre ++ [x]).length : Int)) (fun k => ?_) hv, ?_⟩
          · rw [laws_szInt64SS.l0, if_pos hlen, if_pos (by omega), rdL_at, laws_szInt64S.f, hw, if_neg h3]
            simp only [Option.bind_some, if_neg h3]
            rw [wrap_in (by omega) (by omega)]
            simp
          · rcases hd with hd | hd
            · exact Or.inl hd
            · refine Or.inr ?_
              simp only [tot]
              omega
    obtain ⟨v, hv, hd⟩ := key l [] (1048576 - (l.length : Int)) (by omega) (by omega) (by simp; omega) hm.2
    refine ⟨v, by simpa using hv, ?_⟩
    rcases hd with hd | hd
    · exact Or.inl hd
    · exact Or.inr ⟨by omega, by omega⟩
end Go.Proofs.Ytngffoffjiofbaa.Q
end
section
/- The pure statement of FnExactCharacteristicOf. HYPS -/
namespace Go.Proofs.Ytngffoffjiofbaa.Q
open Go.RowKit Go.Proofs.YtngffoffjiofbaaW.PrintWords Go.Proofs.YtngffoffjiofbaaW.PrintLast Go.Proofs.YtngffoffjiofbaaW.Ext Go.Proofs.Ytngffoffjiofbaa.Ang
set_option linter.unusedVariables false
set_option linter.unusedSimpArgs false

/-- Are a row's numbers 0, 1 or 2, with a sum of at most 2. -/
def okRow : Int → List Int → Bool
  | s, [] => decide (s ≤ 2)
  | s, x :: xs => if 0 ≤ x ∧ x ≤ 2 then okRow (wrap64 (s + x)) xs else false
theorem within_yes {x : Int} (h : 0 ≤ x ∧ x ≤ 2) : impl_within.f x 0 2 = some true ∧ spec_l01In.f x 0 2 = some true := by
  unfold impl_within.f spec_l01In.f
  rw [if_pos h.1, decide_eq_true h.2]
  exact ⟨rfl, rfl⟩
theorem within_no {x : Int} (h : ¬ (0 ≤ x ∧ x ≤ 2)) : impl_within.f x 0 2 = some false ∧ spec_l01In.f x 0 2 = some false := by
  unfold impl_within.f spec_l01In.f
  by_cases h0 : 0 ≤ x
  · rw [if_pos h0, decide_eq_false (by omega)]
    exact ⟨rfl, rfl⟩
  · rw [if_neg h0]
    exact ⟨rfl, rfl⟩
theorem ev_okRow (l : List Int) (hl : l.length ≤ 1048576) : Ev (fun k => impl_CharacteristicOf_2.f k l) (okRow 0 l) := by
  unfold impl_CharacteristicOf_2.f
  have key : ∀ (rest pre : List Int) (s : Int), (pre ++ rest).length ≤ 1048576 → Ev (fun k => impl_CharacteristicOf_2.l0 k s (pre ++ rest) ((pre ++ rest).length : Int) (pre.length : Int)) (okRow s rest) := by
    intro rest
    induction rest with
    | nil =>
      intro pre s _
      exact Ev.step (f := fun _ => some (decide (s ≤ 2))) (fun k => by simp [impl_CharacteristicOf_2.l0]) (Ev.now _)
    | cons x xs ih =>
      intro pre s hp
      have hlen : (pre.length : Int) < ((pre ++ x :: xs).length : Int) := by simp <;> omega
      have hp2 : (pre.length : Int) ≤ 1048576 := by simp at hp; omega
      by_cases hx : 0 ≤ x ∧ x ≤ 2
      · have hi := ih (pre ++ [x]) (wrap64 (s + x)) (by simpa using hp)
        unfold okRow
        rw [if_pos hx]
        refine Ev.step (fun k => ?_) hi
        rw [impl_CharacteristicOf_2.l0, if_pos hlen, if_pos (by omega), if_pos hlen, rdI_at, (within_yes hx).1]
        simp only [Option.bind_some, if_true]
        rw [wrap_in (x := (pre.length : Int) + 1) (by omega) (by omega)]
        simp
      · unfold okRow
        rw [if_neg hx]
        refine Ev.step (f := fun _ => some false) (fun k => ?_) (Ev.now _)
        rw [impl_CharacteristicOf_2.l0, if_pos hlen, if_pos (by omega), if_pos hlen, rdI_at, (within_no hx).1]
        simp
  simpa using key l [] 0 (by simpa using hl)
theorem ev_allMP {α : Type} {p : Nat → α → Option Bool} {q : α → Bool} : ∀ l : List α, (∀ x, x ∈ l → Ev (fun k => p k x) (q x)) → Ev (fun k => allM (p k) l) (l.all q)
  | [], _ => Ev.now _
  | x :: xs, h => by
    refine Ev.congr (f := fun k => (p k x).bind fun b => if b = true then allM (p k) xs else some false) (fun k => rfl) (Ev.bind (h x List.mem_cons_self) ?_)
    rw [List.all_cons]
    cases q x with
    | false => simpa using Ev.now false
    | true => simpa using ev_allMP xs (fun y hy => h y (List.mem_cons_of_mem _ hy))
theorem row_le {l : List (List Int)} {r : List Int} (h : r ∈ l) : r.length ≤ tot l := by
  induction l with
  | nil => cases h
  | cons x xs ih =>
    simp only [tot]
    rcases List.mem_cons.1 h with rfl | h
    · omega
    · have := ih h
      omega
theorem ev_code2 (a : List (List Int)) (i : Int) (h0 : 0 ≤ i) (h1 : i < (a.length : Int)) (V : Int) (hV : Ev (fun k => spec_l08Code.l1 k a (wrap64 (i + 1))) V) : ∀ (rest pre : List Int) (s : Int), rd_L8 a i = pre ++ rest → (pre ++ rest).length ≤ 1048576 → Ev (fun k => spec_l08Code.l2 k a i s (pre.length : Int)) (if okRow s rest = true then V else 2) := by
  intro rest
  induction rest with
  | nil =>
    intro pre s hr hp
    unfold okRow
    by_cases hs : s > 2
    · rw [if_neg (by simp; omega)]
      refine Ev.step (f := fun _ => some 2) (fun k => ?_) (Ev.now _)
      rw [spec_l08Code.l2, if_pos h0, if_pos h1, hr, if_neg (by simp), if_pos hs]
    · rw [if_pos (by simp; omega)]
      refine Ev.step (fun k => ?_) hV
      rw [spec_l08Code.l2, if_pos h0, if_pos h1, hr, if_neg (by simp), if_neg hs]
  | cons x xs ih =>
    intro pre s hr hp
    have hlen : (pre.length : Int) < ((pre ++ x :: xs).length : Int) := by simp <;> omega
    have hp2 : (pre.length : Int) ≤ 1048576 := by simp at hp; omega
    unfold okRow
    by_cases hx : 0 ≤ x ∧ x ≤ 2
    · have hi := ih (pre ++ [x]) (wrap64 (s + x)) (by simpa using hr) (by simpa using hp)
      rw [if_pos hx]
      refine Ev.step (fun k => ?_) hi
      rw [spec_l08Code.l2, if_pos h0, if_pos h1, hr, if_pos hlen, if_pos (by omega), rdI_at, (within_yes hx).2]
      simp only [Option.bind_some, if_true]
      rw [wrap_in (x := (pre.length : Int) + 1) (by omega) (by omega)]
      simp
    · rw [if_neg hx]
      refine Ev.step (f := fun _ => some 2) (fun k => ?_) (by simpa using Ev.now (2 : Int))
      rw [spec_l08Code.l2, if_pos h0, if_pos h1, hr, if_pos hlen, if_pos (by omega), rdI_at, (within_no hx).2]
      simp
theorem ev_code1 : ∀ (rest pre : List (List Int)), (pre ++ rest).length ≤ 1048576 → (∀ r, r ∈ rest → r.length ≤ 1048576) → Ev (fun k => spec_l08Code.l1 k (pre ++ rest) (pre.length : Int)) (if rest.all (okRow 0) = true then 0 else 2) := by
  intro rest
  induction rest with
  | nil =>
    intro pre _ _
    exact Ev.step (f := fun _ => some 0) (fun k => by simp [spec_l08Code.l1]) (by simpa using Ev.now (0 : Int))
  | cons r rs ih =>
    intro pre hp hr
    have hlen : (pre.length : Int) < ((pre ++ r :: rs).length : Int) := by simp <;> omega
    have hp2 : (pre.length : Int) ≤ 1048576 := by simp at hp; omega
    have hi := ih (pre ++ [r]) (by simpa using hp) (fun c hc => hr c (List.mem_cons_of_mem _ hc))
    have h2 := ev_code2 (pre ++ r :: rs) (pre.length : Int) (by omega) hlen _ (by
      rw [wrap_in (x := (pre.length : Int) + 1) (by omega) (by omega)]
      simpa using hi) r [] 0 (by simpa using rdL_at pre rs r) (by simpa using hr r List.mem_cons_self)
    have e : (if (r :: rs).all (okRow 0) = true then (0 : Int) else 2) = if okRow 0 r = true then (if rs.all (okRow 0) = true then 0 else 2) else 2 := by
      rw [List.all_cons]
      cases okRow 0 r <;> simp
    rw [e]
    refine Ev.step (fun k => ?_) (by simpa using h2)
    rw [spec_l08Code.l1, if_pos hlen]
theorem ev_code0 (a : List (List Int)) (ha : a.length ≤ 1048576) (hr : ∀ r, r ∈ a → r.length ≤ 1048576) : Ev (fun k => spec_l08Code.f k a) (if a.all (fun r => decide (r.length = a.length)) = true then (if (a.length : Int) > 21 then 2 else if a.all (okRow 0) = true then 0 else 2) else 1) := by
  unfold spec_l08Code.f
  have key : ∀ (rest pre : List (List Int)), pre ++ rest = a → Ev (fun k => spec_l08Code.l0 k a (pre.length : Int)) (if rest.all (fun r => decide (r.length = a.length)) = true then (if (a.length : Int) > 21 then 2 else if a.all (okRow 0) = true then 0 else 2) else 1) := by
    intro rest
    induction rest with
    | nil =>
      intro pre hp
      simp only [List.all_nil, if_true]
      have hn : ¬ (pre.length : Int) < (a.length : Int) := by rw [← hp]; simp
      by_cases h : (a.length : Int) > 21
      · rw [if_pos h]
        refine Ev.step (f := fun _ => some 2) (fun k => ?_) (Ev.now _)
        rw [spec_l08Code.l0, if_neg hn, if_pos h]
      · rw [if_neg h]
        refine Ev.step (fun k => ?_) (by simpa using ev_code1 a [] (by simpa using ha) hr)
        rw [spec_l08Code.l0, if_neg hn, if_neg h]
    | cons r rs ih =>
      intro pre hp
      have hlen : (pre.length : Int) < (a.length : Int) := by rw [← hp]; simp <;> omega
      have hrd : rd_L8 a (pre.length : Int) = r := by rw [← hp]; exact rdL_at _ _ _
      have hi := ih (pre ++ [r]) (by simpa using hp)
      by_cases hx : r.length = a.length
      · rw [List.all_cons, decide_eq_true hx, Bool.true_and]
        refine Ev.step (fun k => ?_) hi
        rw [spec_l08Code.l0, if_pos hlen, if_pos (by omega), hrd, if_pos (by omega), wrap_in (x := (pre.length : Int) + 1) (by omega) (by omega)]
        simp
      · rw [List.all_cons, decide_eq_false hx, Bool.false_and]
        refine Ev.step (f := fun _ => some 1) (fun k => ?_) (by simpa using Ev.now (1 : Int))
        rw [spec_l08Code.l0, if_pos hlen, if_pos (by omega), hrd, if_neg (by omega)]
  simpa using key a [] rfl
theorem char_both (a : List (List Int)) (ha : a.length ≤ 1048576) (ht : tot a ≤ 1048576) : ∃ r : List Int × Int, Ev (fun k => spec_CharacteristicOf.f k a) r ∧ Ev (fun k => impl_CharacteristicOf.f k a) r ∧ r.1.length ≤ 100 := by
  have hr : ∀ r, r ∈ a → r.length ≤ 1048576 := fun r h => Nat.le_trans (row_le h) ht
  have hcode := ev_code0 a ha hr
  have h1 : Ev (fun k => allM (fun x : List Int => some (decide (x.length = a.length))) a) (a.all fun x => decide (x.length = a.length)) := ev_allMP (p := fun _ x => some (decide (x.length = a.length))) a (fun x _ => Ev.now _)
  have h2 : Ev (fun k => allM (fun x => impl_CharacteristicOf_2.f k x) a) (a.all (okRow 0)) := ev_allMP (p := fun k x => impl_CharacteristicOf_2.f k x) a (fun x hx => ev_okRow x (hr x hx))
  unfold spec_CharacteristicOf.f impl_CharacteristicOf.f
  cases hb : a.all fun x => decide (x.length = a.length) with
  | false =>
    rw [hb] at h1 hcode
    refine ⟨([], 1), Ev.bind hcode ?_, Ev.bind h1 ?_, by simp⟩
    · simpa using Ev.now _
    · simpa using Ev.now _
  | true =>
    rw [hb] at h1 hcode
    simp only [if_true] at hcode
    by_cases hl : (a.length : Int) > 21
    · rw [if_pos hl] at hcode
      refine ⟨([], 2), Ev.bind hcode ?_, Ev.bind h1 ?_, by simp⟩
      · simpa using Ev.now _
      · simp only [if_true, if_pos hl]
        exact Ev.now _
    · rw [if_neg hl] at hcode
      cases hc : a.all (okRow 0) with
      | false =>
        rw [hc] at h2 hcode
        refine ⟨([], 2), Ev.bind hcode ?_, Ev.bind h1 ?_, by simp⟩
        · simpa using Ev.now _
        · simp only [if_true, if_neg hl]
          refine Ev.bind h2 ?_
          simpa using Ev.now _
      | true =>
        rw [hc] at h2 hcode
        simp only [if_true] at hcode
        have hsq : Sq a.length a := ⟨rfl, fun r h => by simpa using (List.all_eq_true.1 hb) r h⟩
        obtain ⟨r, hi, hs, hlen⟩ := ev_char_both hsq (by omega)
        refine ⟨(r, 0), Ev.bind hcode ?_, Ev.bind h1 ?_, by simp; omega⟩
        · simp only [if_true]
          exact Ev.bind hs (Ev.now _)
        · simp only [if_true, if_neg hl]
          refine Ev.bind h2 ?_
          simp only [if_true]
          exact Ev.bind hi (Ev.now _)
theorem ev_mark1 (l : List (List Int)) (c0 : Int) (h0 : 0 ≤ c0) (h1 : c0 ≤ 10) (hl : l.length ≤ 1099511627776) (ht : tot l ≤ 1099511627000) : Ev (fun k => laws_markInt64SS1.f k l c0) (c0 + (tot l : Int)) := by
  obtain ⟨K, hK⟩ := ev_markInt64SS l c0 h0 h1 hl ht
  exact ⟨K, fun k hk => by have h := hK k hk; show Option.map Prod.fst (laws_markInt64SS.f k l c0) = _; rw [show laws_markInt64SS.f k l c0 = _ from h]; rfl⟩
theorem pure_FnExactCharacteristicOf (l : List (List Int)) (hm : l.length ≤ 9223372036854775807 ∧ ∀ r, r ∈ l → r.length ≤ 9223372036854775807) : ∃ k, laws_FnExactCharacteristicOf.f k l = some true := by
  refine Ev.rounds (g := fun k => laws_FnExactCharacteristicOf.f k l) ?_
  unfold laws_FnExactCharacteristicOf.f
  obtain ⟨v, hv, hd⟩ := ev_szInt64SS l hm
  refine Ev.bind hv ?_
  by_cases h0 : v < 0
  · simp only [if_pos h0]
    exact Ev.now _
  · simp only [if_neg h0]
    obtain ⟨hl, ht⟩ := hd.resolve_left h0
    obtain ⟨r, hs, hi, hr⟩ := char_both l hl ht
    have hcp := ev_toInt64SS l hl ht
    refine Ev.bind hcp (Ev.bind hs (Ev.bind hcp (Ev.bind hi (Ev.bind (ev_eqInt64S r.1 (by omega)) ?_))))
    simp only [if_true, bne_self_eq_false]
    have h2 : ∀ c : Int, c = 1 + (r.1.length : Int) → Ev (fun k => laws_FnExactCharacteristicOf.j2 k (markedI 1 r.1) c false) true := by
      intro c hc
      refine Ev.step (f := fun k => (laws_heldInt64S.f k (markedI 1 r.1) 1).bind fun t => if t < 0 then some false else if t = c then some true else some false) (fun k => by rw [laws_FnExactCharacteristicOf.j2, if_neg (by decide)]) (Ev.bind (ev_heldInt64S r.1 1 (by omega) (by omega) (by omega)) ?_)
      rw [if_neg (by omega), if_pos hc.symm]
      exact Ev.now _
    have h1 : Ev (fun k => laws_FnExactCharacteristicOf.j1 k l r.1 r.2 r.1 false) true := by
      refine Ev.step (fun k => by rw [laws_FnExactCharacteristicOf.j1, if_neg (by decide)]) (Ev.bind (ev_markInt64S r.1 1 (by omega) (by omega) (by omega)) (Ev.bind (ev_heldInt64S r.1 1 (by omega) (by omega) (by omega)) ?_))
      simp only [if_neg (show ¬ 1 + (r.1.length : Int) < 0 by omega), if_true]
      refine Ev.bind hcp (Ev.bind hi (Ev.bind (ev_eqInt64S r.1 (by omega)) ?_))
      simp only [if_true, bne_self_eq_false]
      exact h2 _ rfl
    refine Ev.step (fun k => by rw [laws_FnExactCharacteristicOf.j0, if_neg (by decide)]) (Ev.bind hcp (Ev.bind (ev_eqInt64SS l (by omega) (by omega)) ?_))
    simp only [if_true]
    refine Ev.bind (ev_mark1 l 1 (by omega) (by omega) (by omega) (by omega)) ?_
    simp only [if_neg (show ¬ 1 + (tot l : Int) < 0 by omega)]
    refine Ev.bind (ev_eqInt64S r.1 (by omega)) ?_
    simp only [if_true, bne_self_eq_false]
    exact h1
end Go.Proofs.Ytngffoffjiofbaa.Q
end
