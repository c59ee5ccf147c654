/- Joined texts: Qx69, Qx70, Qx71, Qx72, Qx73, Qx74, Qx62, Qx75, Qx76, AngMath, Qx36, AngCore, AngDouble, AngOrbit, AngOrbitSpec, AngOrbitImpl, LawIntsSS, AngPairs, Qx13, Qx14, Qx15, Qx4, AngCmp, Qx19 -/
import Derived.Test.YtngffoffjiofbaaPkFnExactSeparatedPairs0
import Derived.Test.YtngffoffjiofbaaPkFnExactSeparatedPairs1
section
-- By wip/hyb/hyb.py of this session, over the kit's print.py
namespace Go.Proofs.Ytngffoffjiofbaa.Q
open Go.Proofs.YtngffoffjiofbaaW.Ext
open Go.RowKit Go.Proofs.YtngffoffjiofbaaW.PrintWords Go.Proofs.YtngffoffjiofbaaW.PrintLast Go.Proofs.YtngffoffjiofbaaW.PrintMore
attribute [local go_sem] max2_int min2_int max_two min_two max_three min_three max_four min_four   -- for this text's walks alone
set_option linter.unusedVariables false
set_option linter.unusedSimpArgs false

/-! ### impl_Angle_orbit: function 95 -/
def impl_Angle_orbit.l0 : Nat → List (S51) → Int → Int → Option ((List (S51)) × Int × Bool)
  | 0, _, _, _ => none
  | k + 1, x5, x514000, x514001 => (impl_Angle_51.f k x5 x514000 x514001).bind fun t514 => (if t514 ≥ 0 then (some (x5, t514, true)) else (if (x5.length : Int) = 64 then (some (([] : List (S51)), 0, false)) else (if x5.length < 8796093022208 then ((impl_Angle_double.f k x514000 x514001).bind fun bt518 => (impl_Angle_orbit.l0 k (x5 ++ [(⟨x514000, x514001⟩ : S51)]) bt518.1 bt518.2)) else (none))))
def impl_Angle_orbit.f (k : Nat) (a0_0 : Int) (a0_1 : Int) : Option ((List (S51)) × Int × Bool) := impl_Angle_orbit.l0 k ([] : List (S51)) a0_0 a0_1
theorem impl_Angle_orbit.mono_l : ∀ k, (∀ y0 y1 y2, LeO (impl_Angle_orbit.l0 k y0 y1 y2) (impl_Angle_orbit.l0 (k + 1) y0 y1 y2))
  | 0 => fun _ _ _ r h => by simp [impl_Angle_orbit.l0] at h
  | k + 1 => by
    have ih0 := impl_Angle_orbit.mono_l k
    · intro y0 y1 y2
      unfold impl_Angle_orbit.l0
      repeat' first
      | (with_reducible exact ih0 _ _ _)
      | (with_reducible exact impl_Angle_51.mono _ _ _ _)
      | (with_reducible exact impl_Angle_double.mono _ _ _)
      | (with_reducible exact LeO.refl _)
      | (with_reducible exact LeO.none _)
      | (with_reducible refine LeO.ite ?_ ?_)
      | (with_reducible refine LeO.bind ?_ (fun _ => ?_))
      | exact ih0 _ _ _
      | exact impl_Angle_51.mono _ _ _ _
      | exact impl_Angle_double.mono _ _ _
      | exact LeO.none _
      | refine LeO.ite ?_ ?_
      | refine LeO.bind ?_ (fun _ => ?_)
theorem impl_Angle_orbit.mono : ∀ a0 a1 k, LeO (impl_Angle_orbit.f k a0 a1) (impl_Angle_orbit.f (k + 1) a0 a1) := by
  intro a0 a1 k
  have ih0 := impl_Angle_orbit.mono_l k
  unfold impl_Angle_orbit.f
  repeat' first
      | (with_reducible exact ih0 _ _ _)
      | (with_reducible exact impl_Angle_51.mono _ _ _ _)
      | (with_reducible exact impl_Angle_double.mono _ _ _)
      | (with_reducible exact LeO.refl _)
      | (with_reducible exact LeO.none _)
      | (with_reducible refine LeO.ite ?_ ?_)
      | (with_reducible refine LeO.bind ?_ (fun _ => ?_))
      | exact ih0 _ _ _
      | exact impl_Angle_51.mono _ _ _ _
      | exact impl_Angle_double.mono _ _ _
      | exact LeO.none _
      | refine LeO.ite ?_ ?_
      | refine LeO.bind ?_ (fun _ => ?_)
set_option maxHeartbeats 8000000 in
set_option maxRecDepth 100000 in
theorem impl_Angle_orbit.calls (k : Nat) (a0_0 : Int) (a0_1 : Int) (r1 : List (S51)) (r2 : Int) (r3 : Bool) (w : World) (h : impl_Angle_orbit.f k a0_0 a0_1 = some (r1, r2, r3)) :
    Calls Try.prog 95 #[.agg #[.int .i64 a0_0, .int .i64 a0_1]] w fun e w' => ∃ v0_ : Value, e = .returned (.tuple #[v0_, .int .i64 r2, .bool r3]) ∧ Kd.R k51 51 w' w.heap.size (fun _ => True) v0_ r1 ∧ Below w.heap.size w w' := by
  have hu51 := Try.underlying51
  have HB := Aside0.mk (Below.refl w.heap.size w)
  have H : (impl_Angle_orbit.l0 k ([] : List (S51)) a0_0 a0_1) = some (r1, r2, r3) := h
  clear h
  have H' := Aside0.mk H
  clear H
  go_enter Try.func95, Try.ntmps95
  go_wp2_with (first | ((with_reducible refine gate_dst (N := 1) rfl ?_); refine box_event ?hg (N := 1) ?hd (cs := #[.int .i64 a0_0, .int .i64 a0_1]) (t := 51) ?hr ?_; (case hd => rfl); (case hg => rfl); (case hr => first | (go_simp; done) | (go_simp; rfl)); intro gb513 hg w2 hbox hb; have n0_ := Aside0.mk (below_step (by repeat (first | (with_reducible first | exact HB.out | apply below_alloc | apply pw_below_drewN | apply below_drew1) | exact HB.out)) hb); have n1_ := Aside0.mk (hbox); have n2_ := Aside0.mk ((by rw [hg]; exact (below_size (by repeat (first | (with_reducible first | exact HB.out | apply below_alloc | apply pw_below_drewN | apply below_drew1) | exact HB.out))) : w.heap.size ≤ gb513)); have n3_ := Aside0.mk ((by rw [hg]; exact (below_size (by repeat (first | (with_reducible first | exact HB.out | apply below_alloc | apply pw_below_drewN | apply below_drew1) | exact HB.out))) : w.heap.size ≤ gb513)); clear HB; have HB := n0_; have BK513 := n1_; have GW513 := n2_; have GE513 := n3_; clear n0_ n1_ n2_ n3_; clear hb hbox hg))
  go_loopg [5] k (fun kq v5 w' => ∃ (x5_1 : List (S51)) (x514000_1 : Int) (x514001_1 : Int), Aside0 (impl_Angle_orbit.l0 kq x5_1 x514000_1 x514001_1 = some (r1, r2, r3)) ∧ Aside0 (kq ≤ k) ∧ Aside0 (Kd.R k51 51 w' w.heap.size (fun k_ => k_ ≠ gb513) v5 x5_1) ∧ Aside0 (w'.heap[gb513]? = some (.cells #[.int .i64 x514000_1, .int .i64 x514001_1] 51 (0, 0))) ∧ Aside0 (Below w.heap.size w w'))
  case atStart => exact ⟨(([] : List (S51))), (a0_0), (a0_1), H', ⟨Nat.le_refl _⟩, ⟨by first | exact Kd.R_nil _ _ _ _ _ | exact Kd.N_nil _ _ _ _ _ | exact Kd.V_nil _ _ _ _ _ | exact Kd.Q_nil _ _ _ _ _ | exact Kd.S_nil _ _ _ _ _⟩, ⟨by (with_reducible repeat (first | refine blk_drewN ?_ _ | refine blk_drew ?_ | refine blk_alloc ?_ _)); exact BK513.out⟩, ⟨by repeat (first | (with_reducible first | exact HB.out | apply below_alloc | apply pw_below_drewN | apply below_drew1 | refine below_set ?_ GE513.out) | exact HB.out)⟩⟩
  case round =>
    clear H'
    try clear p2
    obtain ⟨x5_1, x514000_1, x514001_1, HA, HK1, HO_5, BK513, HB⟩ := hrel
    cases gk with
    | zero => exact absurd HA.out (by simp [impl_Angle_orbit.l0])
    | succ k1 =>
      have H := HA.out
      clear HA
      simp only [impl_Angle_orbit.l0] at H
      replace H := Option.bind_eq_some_iff.mp H
      obtain ⟨t514, A30, H⟩ := H
      replace H : (if t514 ≥ 0 then (some (x5_1, t514, true)) else (if (x5_1.length : Int) = 64 then (some (([] : List (S51)), 0, false)) else (if x5_1.length < 8796093022208 then ((impl_Angle_double.f k1 x514000_1 x514001_1).bind fun bt518 => (impl_Angle_orbit.l0 k1 (x5_1 ++ [(⟨x514000_1, x514001_1⟩ : S51)]) bt518.1 bt518.2)) else (none)))) = some (r1, r2, r3) := H
      have A3 := Aside0.mk A30
      clear A30
      by_cases c4 : t514 ≥ 0
      · rw [if_pos c4] at H
        have c4b0 : decide (0 ≤ t514) = true := decide_eq_true c4
        clear c4
        simp only [Option.some.injEq, Prod.mk.injEq] at H
        obtain ⟨rfl, rfl, rfl⟩ := H
        have hcz5_0 : wr.cell? ⟨gb513, 0, none⟩ = some (.int .i64 x514000_1) := (blk_cell BK513.out 0).trans rfl
        have hcz5_1 : wr.cell? ⟨gb513, 1, none⟩ = some (.int .i64 x514001_1) := (blk_cell BK513.out 1).trans rfl
        have hfz5_0 := blk_frozen BK513.out 0
        have hfz5_1 := blk_frozen BK513.out 1
        obtain ⟨Ao6, co6, eo6⟩ := Kd.R_slice HO_5.out
        subst eo6
        go_wp2_with (first | ((with_reducible refine gate_callee (f := 51) rfl ?_); refine goesL_ (some 9) rfl rfl Try.func51 (by kernel_rfl) rfl #[.slice Ao6 x5_1.length co6, .agg #[.int .i64 x514000_1, .int .i64 x514001_1]] rfl (by (try simp only [List.map_toArray, List.map_cons, List.map_nil]); first | done | rfl | (simp only [List.length_drop, List.length_take]; rfl)) ?_; (with_reducible refine (impl_Angle_51.calls k1 _ _ x5_1 x514000_1 x514001_1 t514 _ ?side1 ?side2 A3.out).mono ?_); (case side1 => repeat (first | exact (Kd.R_reads' HO_5.out).2.2 | (with_reducible refine Kd.C_alloc ?_ _) | (with_reducible refine Kd.C_drewN ?_ _) | (with_reducible refine Kd.C_drew ?_))); (case side2 => exact (Kd.R_reads' HO_5.out).2.1); rintro e w7 ⟨rfl, hb⟩; refine ⟨_, rfl, ?_⟩; have n0_ := Aside0.mk (Kd.R_below (by (with_reducible repeat (first | apply Kd.R_alloc | apply Kd.R_drewN | apply Kd.R_drew)); exact HO_5.out) hb); have n1_ := Aside0.mk (blk_below (g := gb513) (o := .cells #[.int .i64 x514000_1, .int .i64 x514001_1] 51 (0, 0)) (by (with_reducible repeat (first | refine blk_drewN ?_ _ | refine blk_drew ?_ | refine blk_alloc ?_ _)); exact BK513.out) hb); have n2_ := Aside0.mk (below_step (by repeat (first | (with_reducible first | exact HB.out | apply below_alloc | apply pw_below_drewN | apply below_drew1 | refine below_set ?_ GE513.out) | exact HB.out)) hb); clear HO_5; clear BK513; clear HB; have HO_5 := n0_; have BK513 := n1_; have HB := n2_; clear n0_ n1_ n2_; (try clear hb); (try clear hb2); (try clear hk); (try clear hi)))
        go_ret3
        exact ⟨_, by first | rfl | (simp [errW_none, errW_some] <;> rfl) | (simp [*, errW_none, errW_some] <;> rfl), by (with_reducible repeat (first | apply Kd.R_alloc | apply Kd.R_drewN | apply Kd.R_drew)); exact Kd.R_mono HO_5.out (fun _ hk => trivial), by repeat (first | (with_reducible first | exact HB.out | apply below_alloc | apply pw_below_drewN | apply below_drew1 | refine below_set ?_ GE513.out) | exact HB.out)⟩
      · rw [if_neg c4] at H
        have c4b0 : decide (0 ≤ t514) = false := decide_eq_false c4
        clear c4
        by_cases c8 : (x5_1.length : Int) = 64
        · rw [if_pos c8] at H
          have c8b0 : ((x5_1.length : Int) == 64) = true := beq_iff_eq.mpr c8
          have c8b1 : ((x5_1.length : Int) != 64) = false := bne_eq_false_iff_eq.mpr c8
          clear c8
          simp only [Option.some.injEq, Prod.mk.injEq] at H
          obtain ⟨rfl, rfl, rfl⟩ := H
          have hcz9_0 : wr.cell? ⟨gb513, 0, none⟩ = some (.int .i64 x514000_1) := (blk_cell BK513.out 0).trans rfl
          have hcz9_1 : wr.cell? ⟨gb513, 1, none⟩ = some (.int .i64 x514001_1) := (blk_cell BK513.out 1).trans rfl
          have hfz9_0 := blk_frozen BK513.out 0
          have hfz9_1 := blk_frozen BK513.out 1
          obtain ⟨Ao10, co10, eo10⟩ := Kd.R_slice HO_5.out
          subst eo10
          go_wp2_with (first | ((with_reducible refine gate_callee (f := 51) rfl ?_); refine goesL_ (some 9) rfl rfl Try.func51 (by kernel_rfl) rfl #[.slice Ao10 x5_1.length co10, .agg #[.int .i64 x514000_1, .int .i64 x514001_1]] rfl (by (try simp only [List.map_toArray, List.map_cons, List.map_nil]); first | done | rfl | (simp only [List.length_drop, List.length_take]; rfl)) ?_; (with_reducible refine (impl_Angle_51.calls k1 _ _ x5_1 x514000_1 x514001_1 t514 _ ?side1 ?side2 A3.out).mono ?_); (case side1 => repeat (first | exact (Kd.R_reads' HO_5.out).2.2 | (with_reducible refine Kd.C_alloc ?_ _) | (with_reducible refine Kd.C_drewN ?_ _) | (with_reducible refine Kd.C_drew ?_))); (case side2 => exact (Kd.R_reads' HO_5.out).2.1); rintro e w11 ⟨rfl, hb⟩; refine ⟨_, rfl, ?_⟩; have n0_ := Aside0.mk (Kd.R_below (by (with_reducible repeat (first | apply Kd.R_alloc | apply Kd.R_drewN | apply Kd.R_drew)); exact HO_5.out) hb); have n1_ := Aside0.mk (blk_below (g := gb513) (o := .cells #[.int .i64 x514000_1, .int .i64 x514001_1] 51 (0, 0)) (by (with_reducible repeat (first | refine blk_drewN ?_ _ | refine blk_drew ?_ | refine blk_alloc ?_ _)); exact BK513.out) hb); have n2_ := Aside0.mk (below_step (by repeat (first | (with_reducible first | exact HB.out | apply below_alloc | apply pw_below_drewN | apply below_drew1 | refine below_set ?_ GE513.out) | exact HB.out)) hb); clear HO_5; clear BK513; clear HB; have HO_5 := n0_; have BK513 := n1_; have HB := n2_; clear n0_ n1_ n2_; (try clear hb); (try clear hb2); (try clear hk); (try clear hi)))
          go_ret3
          exact ⟨_, by first | rfl | (simp [errW_none, errW_some] <;> rfl) | (simp [*, errW_none, errW_some] <;> rfl), by first | exact Kd.R_nil _ _ _ _ _ | exact Kd.N_nil _ _ _ _ _ | exact Kd.V_nil _ _ _ _ _ | exact Kd.Q_nil _ _ _ _ _ | exact Kd.S_nil _ _ _ _ _, by repeat (first | (with_reducible first | exact HB.out | apply below_alloc | apply pw_below_drewN | apply below_drew1 | refine below_set ?_ GE513.out) | exact HB.out)⟩
        · rw [if_neg c8] at H
          have c8b0 : ((x5_1.length : Int) == 64) = false := beq_eq_false_iff_ne.mpr c8
          have c8b1 : ((x5_1.length : Int) != 64) = true := bne_iff_ne.mpr c8
          by_cases c12 : x5_1.length < 8796093022208
          · rw [if_pos c12] at H
            have LMc12 := Aside0.mk c12
            clear c12
            obtain ⟨y515, hy515⟩ : ∃ y_ : List (S51), y_ = (x5_1 ++ [(⟨x514000_1, x514001_1⟩ : S51)]) := ⟨_, rfl⟩
            replace H : ((impl_Angle_double.f k1 x514000_1 x514001_1).bind fun bt518 => (impl_Angle_orbit.l0 k1 y515 bt518.1 bt518.2)) = some (r1, r2, r3) := by first | (rw [hy515]; with_reducible exact H) | (have H2_ := (Option.bind_some _ _).symm.trans H; rw [hy515]; with_reducible exact H2_) | (have H2_ := (Option.bind_some _ _).symm.trans H; with_reducible exact H2_) | with_reducible exact H | (rw [hy515]; exact H) | exact H
            have Ny515 := Aside0.mk hy515
            clear hy515
            replace H := Option.bind_eq_some_iff.mp H
            obtain ⟨⟨t518, t519⟩, A130, H⟩ := H
            replace H : (impl_Angle_orbit.l0 k1 y515 t518 t519) = some (r1, r2, r3) := H
            have A13 := Aside0.mk A130
            clear A130
            have H' := Aside0.mk H
            clear H
            have hcz14_0 : wr.cell? ⟨gb513, 0, none⟩ = some (.int .i64 x514000_1) := (blk_cell BK513.out 0).trans rfl
            have hcz14_1 : wr.cell? ⟨gb513, 1, none⟩ = some (.int .i64 x514001_1) := (blk_cell BK513.out 1).trans rfl
            have hfz14_0 := blk_frozen BK513.out 0
            have hfz14_1 := blk_frozen BK513.out 1
            obtain ⟨Ao15, co15, eo15⟩ := Kd.R_slice HO_5.out
            subst eo15
            go_wp2_with (first | ((with_reducible refine gate_callee (f := 51) rfl ?_); refine goesL_ (some 9) rfl rfl Try.func51 (by kernel_rfl) rfl #[.slice Ao15 x5_1.length co15, .agg #[.int .i64 x514000_1, .int .i64 x514001_1]] rfl (by (try simp only [List.map_toArray, List.map_cons, List.map_nil]); first | done | rfl | (simp only [List.length_drop, List.length_take]; rfl)) ?_; (with_reducible refine (impl_Angle_51.calls k1 _ _ x5_1 x514000_1 x514001_1 t514 _ ?side1 ?side2 A3.out).mono ?_); (case side1 => repeat (first | exact (Kd.R_reads' HO_5.out).2.2 | (with_reducible refine Kd.C_alloc ?_ _) | (with_reducible refine Kd.C_drewN ?_ _) | (with_reducible refine Kd.C_drew ?_))); (case side2 => exact (Kd.R_reads' HO_5.out).2.1); rintro e w16 ⟨rfl, hb⟩; refine ⟨_, rfl, ?_⟩; have n0_ := Aside0.mk (Kd.R_below (by (with_reducible repeat (first | apply Kd.R_alloc | apply Kd.R_drewN | apply Kd.R_drew)); exact HO_5.out) hb); have n1_ := Aside0.mk (blk_below (g := gb513) (o := .cells #[.int .i64 x514000_1, .int .i64 x514001_1] 51 (0, 0)) (by (with_reducible repeat (first | refine blk_drewN ?_ _ | refine blk_drew ?_ | refine blk_alloc ?_ _)); exact BK513.out) hb); have n2_ := Aside0.mk (below_step (by repeat (first | (with_reducible first | exact HB.out | apply below_alloc | apply pw_below_drewN | apply below_drew1 | refine below_set ?_ GE513.out) | exact HB.out)) hb); clear HO_5; clear BK513; clear HB; have HO_5 := n0_; have BK513 := n1_; have HB := n2_; clear n0_ n1_ n2_; (try clear hb); (try clear hb2); (try clear hk); (try clear hi); have hcz17_0 : w16.cell? ⟨gb513, 0, none⟩ = some (.int .i64 x514000_1) := (blk_cell BK513.out 0).trans rfl; have hcz17_1 : w16.cell? ⟨gb513, 1, none⟩ = some (.int .i64 x514001_1) := (blk_cell BK513.out 1).trans rfl; have hfz17_0 := blk_frozen BK513.out 0; have hfz17_1 := blk_frozen BK513.out 1) | ((with_reducible refine gate_builtin (b := .append) (xs := #[.tmp 17, .tmp 19]) rfl ?_); at_builtin; refine Kd.R_append k51 (w0 := w) w.heap.size rfl (.tmp 17) (.tmp 19) 33 51 (.agg #[(.int .i64 0), (.int .i64 0)]) 16 rfl Try.underlying33 info51 rfl (by decide) (by omega) (.slice Ao15 x5_1.length co15) x5_1 (⟨x514000_1, x514001_1⟩ : S51) [.int .i64 x514000_1, .int .i64 x514001_1] (fun k_ => k_ ≠ gb513) (fun _ => False) rfl rfl ?aP (fun _ hk => hk.elim) ?aF ?aO ?aB ?aS ?aL ?_; (case aP => exact k51_mkM _ _ _ (⟨x514000_1, x514001_1⟩ : S51)); (case aB => exact (by repeat (first | (with_reducible first | exact HB.out | apply below_alloc | apply pw_below_drewN | apply below_drew1 | refine below_set ?_ GE513.out) | exact HB.out))); (case aF => exact (fun k_ hk => Kd.freshB (g := gb513) (o := .cells #[.int .i64 x514000_1, .int .i64 x514001_1] 51 (0, 0)) (by (with_reducible repeat (first | refine blk_drewN ?_ _ | refine blk_drew ?_ | refine blk_alloc ?_ _)); exact BK513.out) k_ hk)); (case aO => exact (by (with_reducible repeat (first | apply Kd.R_alloc | apply Kd.R_drewN | apply Kd.R_drew)); exact HO_5.out)); (case aS => exact (below_size (by repeat (first | (with_reducible first | exact HB.out | apply below_alloc | apply pw_below_drewN | apply below_drew1 | refine below_set ?_ GE513.out) | exact HB.out)))); (case aL => have := LMc12.out; omega); intro v516 w18 ho hb hg hat; rw [← Ny515.out] at ho; have n0_ := Aside0.mk (blk_grown (g := gb513) (o := .cells #[.int .i64 x514000_1, .int .i64 x514001_1] 51 (0, 0)) (by (with_reducible repeat (first | refine blk_drewN ?_ _ | refine blk_drew ?_ | refine blk_alloc ?_ _)); exact BK513.out) hg (Kd.R_away HO_5.out (fun _ hk => hk))); have n1_ := Aside0.mk (hb); have n2_ := Aside0.mk (ho); clear BK513; clear HB; clear HO_5; have BK513 := n0_; have HB := n1_; have HO517 := n2_; clear n0_ n1_ n2_; clear ho hb hg hat; have hcz19_0 : w18.cell? ⟨gb513, 0, none⟩ = some (.int .i64 x514000_1) := (blk_cell BK513.out 0).trans rfl; have hcz19_1 : w18.cell? ⟨gb513, 1, none⟩ = some (.int .i64 x514001_1) := (blk_cell BK513.out 1).trans rfl; have hfz19_0 := blk_frozen BK513.out 0; have hfz19_1 := blk_frozen BK513.out 1) | ((with_reducible refine gate_callee (f := 52) rfl ?_); refine goesL_ (some 22) rfl rfl Try.func52 (by kernel_rfl) rfl #[.agg #[.int .i64 x514000_1, .int .i64 x514001_1]] rfl (by (try simp only [List.map_toArray, List.map_cons, List.map_nil]); first | done | rfl | (simp only [List.length_drop, List.length_take]; rfl)) ?_; (with_reducible refine (impl_Angle_double.calls k1 x514000_1 x514001_1 t518 t519 _ A13.out).mono ?_); rintro e w20 ⟨rfl, hb⟩; refine ⟨_, rfl, ?_⟩; have n0_ := Aside0.mk (Kd.R_below (by (with_reducible repeat (first | apply Kd.R_alloc | apply Kd.R_drewN | apply Kd.R_drew)); exact HO517.out) hb); have n1_ := Aside0.mk (blk_below (g := gb513) (o := .cells #[.int .i64 x514000_1, .int .i64 x514001_1] 51 (0, 0)) (by (with_reducible repeat (first | refine blk_drewN ?_ _ | refine blk_drew ?_ | refine blk_alloc ?_ _)); exact BK513.out) hb); have n2_ := Aside0.mk (below_step (by repeat (first | (with_reducible first | exact HB.out | apply below_alloc | apply pw_below_drewN | apply below_drew1 | refine below_set ?_ GE513.out) | exact HB.out)) hb); clear HO517; clear BK513; clear HB; have HO517 := n0_; have BK513 := n1_; have HB := n2_; clear n0_ n1_ n2_; (try clear hb); (try clear hb2); (try clear hk); (try clear hi); have hcz21_0 : w20.cell? ⟨gb513, 0, none⟩ = some (.int .i64 x514000_1) := (blk_cell BK513.out 0).trans rfl; have hcz21_1 : w20.cell? ⟨gb513, 1, none⟩ = some (.int .i64 x514001_1) := (blk_cell BK513.out 1).trans rfl; have hfz21_0 := blk_frozen BK513.out 0; have hfz21_1 := blk_frozen BK513.out 1))
            go_roundg k1
            case measure => have := HK1.out; omega
            case rel => exact ⟨(y515), (t518), (t519), H', ⟨by have := HK1.out; omega⟩, ⟨by (with_reducible repeat (first | apply Kd.R_alloc | apply Kd.R_drewN | apply Kd.R_drew)); exact Kd.R_mono (Kd.R_far (p := ⟨gb513, 1, none⟩) (Kd.R_far (p := ⟨gb513, 0, none⟩) (Kd.R_mono HO517.out (fun k_ hk => (⟨hk, hk⟩ : _ ∧ k_ ≠ gb513))) (fun _ hk => hk.2) (.int .i64 t518)) (fun _ hk => hk.2) (.int .i64 t519)) (fun _ hk => hk.1)⟩, ⟨by (with_reducible repeat (first | refine blk_drewN ?_ _ | refine blk_drew ?_ | refine blk_alloc ?_ _)); refine blk_put (cs := #[.int .i64 t518, .int .i64 x514001_1]) ?_ 1 _ rfl; (with_reducible repeat (first | refine blk_drewN ?_ _ | refine blk_drew ?_ | refine blk_alloc ?_ _)); refine blk_put (cs := #[.int .i64 x514000_1, .int .i64 x514001_1]) ?_ 0 _ rfl; (with_reducible repeat (first | refine blk_drewN ?_ _ | refine blk_drew ?_ | refine blk_alloc ?_ _)); exact BK513.out⟩, ⟨by repeat (first | (with_reducible first | exact HB.out | apply below_alloc | apply pw_below_drewN | apply below_drew1 | refine below_set ?_ GE513.out) | exact HB.out)⟩⟩
          · rw [if_neg c12] at H
            exact absurd H (by simp)

end Go.Proofs.Ytngffoffjiofbaa.Q
end
section
-- By wip/hyb/hyb.py of this session, over the kit's print.py
namespace Go.Proofs.Ytngffoffjiofbaa.Q
open Go.Proofs.YtngffoffjiofbaaW.Ext
open Go.RowKit Go.Proofs.YtngffoffjiofbaaW.PrintWords Go.Proofs.YtngffoffjiofbaaW.PrintLast Go.Proofs.YtngffoffjiofbaaW.PrintMore
attribute [local go_sem] max2_int min2_int max_two min_two max_three min_three max_four min_four   -- for this text's walks alone
set_option linter.unusedVariables false
set_option linter.unusedSimpArgs false

/-! ### impl_pairingOf: function 66 -/
section
mutual
def impl_pairingOf.l0 : Nat → Int → List (List Int) → Int → Option (List (List Int))
  | 0, _, _, _ => none
  | k + 1, n, x3, x37 => if x37 < n then (impl_pairingOf.l1 k n x3 x37 (wrap64 (x37 + 1))) else (some x3)
def impl_pairingOf.l1 : Nat → Int → List (List Int) → Int → Int → Option (List (List Int))
  | 0, _, _, _, _ => none
  | k + 1, n, x3, x10, x11 => if x11 < n then (if x3.length < 5864062014805 then (impl_pairingOf.l1 k n (x3 ++ [(([wrap64 (x10 + 1), wrap64 (x11 + 1)] : List Int))]) x10 (wrap64 (x11 + 1))) else (none)) else (impl_pairingOf.l0 k n x3 (wrap64 (x10 + 1)))
end
def impl_pairingOf.f (k : Nat) (a0_0 : Int) (a0_1 : Int) : Option (List S51 × List (List Int) × Int) := (impl_IsAngle.f k a0_0 a0_1).bind fun b => (if b = true then ((impl_Angle_orbit.f k a0_0 a0_1).bind fun t => (if t.2.2 = true then (if (t.1.length : Int) > 7 then (some (([] : List S51), ([] : List (List Int)), 2)) else ((impl_pairingOf.l0 k (t.1.length : Int) ([] : List (List Int)) 0).bind fun p => some (t.1, p, 0))) else (some (([] : List S51), ([] : List (List Int)), 2)))) else (some (([] : List S51), ([] : List (List Int)), 1)))
theorem impl_pairingOf.mono_l : ∀ k, (∀ y0 y1 y2, LeO (impl_pairingOf.l0 k y0 y1 y2) (impl_pairingOf.l0 (k + 1) y0 y1 y2)) ∧ (∀ y0 y1 y2 y3, LeO (impl_pairingOf.l1 k y0 y1 y2 y3) (impl_pairingOf.l1 (k + 1) y0 y1 y2 y3))
  | 0 => ⟨fun _ _ _ r h => by simp [impl_pairingOf.l0] at h, fun _ _ _ _ r h => by simp [impl_pairingOf.l1] at h⟩
  | k + 1 => by
    obtain ⟨ih0, ih1⟩ := impl_pairingOf.mono_l k
    refine ⟨?_, ?_⟩
    · intro y0 y1 y2
      unfold impl_pairingOf.l0
      repeat' first
      | (with_reducible exact ih0 _ _ _)
      | (with_reducible exact ih1 _ _ _ _)
      | (with_reducible exact LeO.refl _)
      | (with_reducible exact LeO.none _)
      | (with_reducible refine LeO.ite ?_ ?_)
    · intro y0 y1 y2 y3
      unfold impl_pairingOf.l1
      repeat' first
      | (with_reducible exact ih0 _ _ _)
      | (with_reducible exact ih1 _ _ _ _)
      | (with_reducible exact LeO.refl _)
      | (with_reducible exact LeO.none _)
      | (with_reducible refine LeO.ite ?_ ?_)
theorem impl_pairingOf.mono : ∀ a0 a1 k, LeO (impl_pairingOf.f k a0 a1) (impl_pairingOf.f (k + 1) a0 a1) := by
  intro a0 a1 k
  obtain ⟨ih0, ih1⟩ := impl_pairingOf.mono_l k
  unfold impl_pairingOf.f
  repeat' first
      | (with_reducible exact ih0 _ _ _)
      | (with_reducible exact impl_IsAngle.mono _ _ _)
      | (with_reducible exact impl_Angle_orbit.mono _ _ _)
      | (with_reducible exact LeO.refl _)
      | (with_reducible exact LeO.none _)
      | (with_reducible refine LeO.ite ?_ ?_)
      | (with_reducible refine LeO.bind ?_ (fun _ => ?_))
/-- An orbit and its pairs, in memory. -/
def PairOk (w : World) (orb : List S51) (ps : List (List Int)) (e : Ending) (w' : World) : Prop :=
  ∃ (g : Nat) (vo vp : Value), e = .returned (.tuple #[.pointer (some ⟨g, 0, none⟩), .int .i64 0]) ∧ w.heap.size ≤ g ∧ w'.heap[g]? = some (.cells #[vo, vp] 87 (0, 0)) ∧ Kd.R k51 51 w' w.heap.size (fun k_ => k_ ≠ g) vo orb ∧ Kd.S (Kd.slice 2 (Kd.int .i64)) 39 w' w.heap.size (fun k_ => k_ ≠ g) vp ps ∧ Below w.heap.size w w'
set_option maxHeartbeats 8000000 in
set_option maxRecDepth 100000 in
theorem impl_pairingOf.ok (k : Nat) (a0_0 : Int) (a0_1 : Int) (orb : List S51) (pre : Int) (ps : List (List Int)) (w : World) (A1 : Aside0 (impl_IsAngle.f k a0_0 a0_1 = some true)) (A2 : Aside0 (impl_Angle_orbit.f k a0_0 a0_1 = some (orb, pre, true))) (c7 : ¬ (orb.length : Int) > 7) (A3 : Aside0 (impl_pairingOf.l0 k (orb.length : Int) ([] : List (List Int)) 0 = some ps)) :
    Calls Try.prog 66 #[.agg #[.int .i64 a0_0, .int .i64 a0_1], .bool true] w (PairOk w orb ps) := by
  have hu51 := Try.underlying51
  have HB := Aside0.mk (Below.refl w.heap.size w)
  have c7b0 : decide ((orb.length : Int) > 7) = false := decide_eq_false c7
  have c7b1 : decide (7 < orb.length) = false := decide_eq_false (by omega)
  clear c7
  go_enter Try.func66, Try.ntmps66
  go_wp2_with (first
    | ((with_reducible refine gate_dst (N := 2) rfl ?_); refine box_event ?hg (N := 2) ?hd (cs := #[.int .i64 a0_0, .int .i64 a0_1]) (t := 51) ?hr ?_; (case hd => rfl); (case hg => rfl); (case hr => first | (go_simp; done) | (go_simp; rfl)); intro gb hg w1 hbox hb; have BK := Aside0.mk (hbox); have GE := wl hg HB; replace HB := bs HB hb; clear hb hbox hg; have ⟨a0, a1, b0, b1⟩ := q2f BK)
    | ((with_reducible refine gate_callee (f := 74) rfl ?_); refine goesL_ (some 13) rfl rfl Try.func74 (by kernel_rfl) rfl #[.agg #[.int .i64 a0_0, .int .i64 a0_1]] rfl (by (try simp only [List.map_toArray, List.map_cons, List.map_nil]); first | done | rfl | (simp only [List.length_drop, List.length_take]; rfl)) ?_; (with_reducible refine (impl_IsAngle.calls k a0_0 a0_1 true _ A1.out).mono ?_); rintro e w2 ⟨rfl, hb⟩; refine ⟨_, rfl, ?_⟩; replace BK := kb BK hb; replace HB := bs HB hb; clear hb; have ⟨a0, a1, b0, b1⟩ := q2f BK)
    | ((with_reducible refine gate_callee (f := 95) rfl ?_); refine goesL_ (some 17) rfl rfl Try.func95 (by kernel_rfl) rfl #[.agg #[.int .i64 a0_0, .int .i64 a0_1]] rfl (by (try simp only [List.map_toArray, List.map_cons, List.map_nil]); first | done | rfl | (simp only [List.length_drop, List.length_take]; rfl)) ?_; (with_reducible refine (impl_Angle_orbit.calls k a0_0 a0_1 orb pre true _ A2.out).mono ?_); rintro e w3 ⟨vo, rfl, ho, hb⟩; refine ⟨_, rfl, ?_⟩; have HO := Aside0.mk (Kd.R_lower ho (below_size (bb HB))); replace BK := kb BK hb; replace HB := bs HB hb; clear hb ho BK; obtain ⟨Ao, co, eo⟩ := Kd.R_slice HO.out; subst eo)
    | ((with_reducible refine gate_dst (N := 34) rfl ?_); refine box_event ?hg (N := 34) ?hd (cs := #[.slice Ao orb.length co, .slice none 0 0]) (t := 87) ?hr ?_; (case hd => rfl); (case hg => rfl); (case hr => first | (go_simp; done) | (go_simp; rfl)); intro gp hg w4 hbox hb; have BP := Aside0.mk (hbox); have GP := wl hg HB; have HR := Aside0.mk (Kd.R_below (rk HO) hb); replace HO := Aside0.mk (show Kd.R k51 51 _ w.heap.size (fun k_ => k_ ≠ gp) (.slice Ao orb.length co) orb from Kd.R_mono (Kd.R_types HR.out BP.out (by decide)) (fun _ h_ => h_.2)); replace HB := bs HB hb; clear hb hbox hg HR)
    | ((with_reducible refine gate_callee (f := 49) rfl ?_); refine goesL_ (some 36) rfl rfl Try.func49 (by kernel_rfl) rfl #[.slice Ao orb.length co] rfl (by (try simp only [List.map_toArray, List.map_cons, List.map_nil]); first | done | rfl | (simp only [List.length_drop, List.length_take]; rfl)) ?_; (with_reducible refine (impl_Angle_49.calls Ao co orb (orb.length : Int) _ (Kd.R_reads' (rk HO)).2.2 (Kd.R_reads' HO.out).2.1 rfl).mono ?_); rintro e w5 ⟨rfl, m_, rfl⟩; refine ⟨_, rfl, ?_⟩))
  go_loopg [37] k (fun kq v37 w' => ∃ (x3 : List (List Int)) (x37 : Int) (vp : Value), v37 = .int .i64 x37 ∧ Aside0 (impl_pairingOf.l0 kq (orb.length : Int) x3 x37 = some ps) ∧ Aside0 (kq ≤ k) ∧ Aside0 (w'.heap[gp]? = some (.cells #[.slice Ao orb.length co, vp] 87 (0, 0))) ∧ Aside0 (Kd.S (Kd.slice 2 (Kd.int .i64)) 39 w' w.heap.size (fun k_ => k_ ≠ gp) vp x3) ∧ Aside0 (Kd.R k51 51 w' w.heap.size (fun k_ => k_ ≠ gp) (.slice Ao orb.length co) orb) ∧ Aside0 (Below w.heap.size w w'))
  case atStart => exact ⟨[], 0, .slice none 0 0, (by first | rfl | (simp; done)), A3, ⟨Nat.le_refl _⟩, ⟨bk BP⟩, ⟨Kd.S_nil _ _ _ _ _⟩, ⟨rk HO⟩, ⟨bb HB⟩⟩
  case round =>
    obtain ⟨x3, x37, vp, rfl, HA, HK1, BP, HS, HO, HB⟩ := hrel
    cases gk with
    | zero => exact absurd HA.out (by simp [impl_pairingOf.l0])
    | succ k1 =>
      have H := HA.out
      clear HA
      simp only [impl_pairingOf.l0] at H
      by_cases c4 : x37 < (orb.length : Int)
      · rw [if_pos c4] at H
        have c4b0 : decide (x37 < (orb.length : Int)) = true := decide_eq_true c4
        clear c4
        have H' := Aside0.mk H
        clear H
        go_wp2
        go_loopg [11] k1 (fun kq v11 w' => ∃ (x3 : List (List Int)) (x11 : Int) (vp : Value), v11 = .int .i64 x11 ∧ Aside0 (impl_pairingOf.l1 kq (orb.length : Int) x3 x37 x11 = some ps) ∧ Aside0 (kq ≤ k1) ∧ Aside0 (w'.heap[gp]? = some (.cells #[.slice Ao orb.length co, vp] 87 (0, 0))) ∧ Aside0 (Kd.S (Kd.slice 2 (Kd.int .i64)) 39 w' w.heap.size (fun k_ => k_ ≠ gp) vp x3) ∧ Aside0 (Kd.R k51 51 w' w.heap.size (fun k_ => k_ ≠ gp) (.slice Ao orb.length co) orb) ∧ Aside0 (Below w.heap.size w w'))
        case atStart => exact ⟨x3, wrap64 (x37 + 1), vp, (by first | rfl | (simp; done)), H', ⟨Nat.le_refl _⟩, ⟨bk BP⟩, ⟨Kd.S_below HS.out (Below.refl _ _)⟩, ⟨rk HO⟩, ⟨bb HB⟩⟩
        case round =>
          clear H' HS BP HO HB
          obtain ⟨x3, x11, vp, rfl, HA, HK2, BP, HS, HO, HB⟩ := hrel
          cases gk with
          | zero => exact absurd HA.out (by simp [impl_pairingOf.l1])
          | succ k2 =>
            have H := HA.out
            clear HA
            simp only [impl_pairingOf.l1] at H
            by_cases c5 : x11 < (orb.length : Int)
            · rw [if_pos c5] at H
              have c5b0 : decide (x11 < (orb.length : Int)) = true := decide_eq_true c5
              clear c5
              by_cases c6 : x3.length < 5864062014805
              · rw [if_pos c6] at H
                have LM := Aside0.mk c6
                clear c6
                obtain ⟨row, hrow⟩ : ∃ y_ : List Int, y_ = ([wrap64 (x37 + 1), wrap64 (x11 + 1)] : List Int) := ⟨_, rfl⟩
                rw [← hrow] at H
                have NR := Aside0.mk hrow
                clear hrow
                obtain ⟨x3n, hx3n⟩ : ∃ y_ : List (List Int), y_ = x3 ++ [row] := ⟨_, rfl⟩
                rw [← hx3n] at H
                have NX := Aside0.mk hx3n
                clear hx3n
                have H' := Aside0.mk H
                clear H
                have ⟨a0, a1, b0, b1⟩ := q2f BP
                go_wp2_with (first
                  | ((with_reducible refine gate_callee (f := 49) rfl ?_); refine goesL_ (some 44) rfl rfl Try.func49 (by kernel_rfl) rfl #[.slice Ao orb.length co] rfl (by (try simp only [List.map_toArray, List.map_cons, List.map_nil]); first | done | rfl | (simp only [List.length_drop, List.length_take]; rfl)) ?_; (with_reducible refine (impl_Angle_49.calls Ao co orb (orb.length : Int) _ (Kd.R_reads' (rk HO)).2.2 (Kd.R_reads' HO.out).2.1 rfl).mono ?_); rintro e w5 ⟨rfl, m_, rfl⟩; refine ⟨_, rfl, ?_⟩)
                  | ((with_reducible refine gate_dst (N := 57) rfl ?_); refine Kd.R_lit (Kd.int .i64) _ 2 ?hg (N := 57) ?hd (xs := ([wrap64 (x37 + 1), wrap64 (x11 + 1)] : List Int)) (inner := [.int .i64 (wrap64 (x37 + 1)), .int .i64 (wrap64 (x11 + 1))]) (ok := fun _ => True) (okp := fun _ => True) ?hr ?hp (fun _ hk => hk) trivial (Below.refl _ _) (Nat.le_refl _) (by simp) ?_; (case hd => rfl); (case hg => rfl); (case hr => first | (go_simp; done) | (go_simp; rfl)); (case hp => exact (Reps.one (show Kd.M (Kd.int .i64) _ _ _ (wrap64 (x37 + 1)) [.int .i64 (wrap64 (x37 + 1))] from rfl) (Reps.one (show Kd.M (Kd.int .i64) _ _ _ (wrap64 (x11 + 1)) [.int .i64 (wrap64 (x11 + 1))] from rfl) (Reps.none _ _)))); intro vr w7 hr hb hg_ hnew_; clear hg_ hnew_; rw [← NR.out] at hr; have HR := Aside0.mk (Kd.R_lower (Kd.R_newB hr (g := gp) (bk BP)) (below_size (bb HB))); replace HS := Aside0.mk (Kd.S_elder' (sk HS) (Kd.R_base hr) hb); replace BP := kb BP hb; replace HO := ko HO hb; replace HB := bs HB hb; clear hb hr; obtain ⟨Ar, cr, er⟩ := Kd.R_slice HR.out; subst er)
                  | ((with_reducible refine gate_builtin (b := .append) (xs := #[.tmp 52, .tmp 58]) rfl ?_); at_builtin; refine Kd.S_append (Kd.slice 2 (Kd.int .i64)) (w0 := w) w.heap.size rfl (.tmp 52) (.tmp 58) 37 39 (.slice none 0 0) 24 rfl Try.underlying37 info39 rfl (by decide) (by omega) vp x3 row [.slice Ar row.length cr] (fun k_ => k_ ≠ gp) (fun k_ => some k_ = (.slice Ar row.length cr : Value).ownBlock) rfl rfl ?aP ?aK ?aF ?aO ?aB ?aS ?aL ?_; (case aP => exact Kd.M_row (Kd.R_tight rfl HR.out)); (case aK => exact (fun k_ hk_ => ⟨(HR.out.1 k_ hk_.symm).2, (Kd.R_apart' HR.out (Kd.S_typed HS.out) (by decide)).1 k_ hk_.symm |>.2⟩)); (case aB => exact bb HB); (case aF => exact (fun k_ hk_ => Nat.ne_of_gt (Nat.lt_of_lt_of_le (blk_lt (bk BP)) hk_))); (case aO => exact Kd.S_mono (sk HS) (fun k_ hk => ⟨hk.1, fun e_ => hk.2 e_⟩)); (case aS => exact below_size (bb HB)); (case aL => have := LM.out; omega); intro vp2 w9 hs hb hg hat; rw [← NX.out] at hs; have hne := Kd.S_away (g := gp) HS.out (fun _ h_ => h_.1); have BP2 := Aside0.mk ((hg.block gp (blk_lt (bk BP)) hne).trans (bk BP)); have HO2 := Aside0.mk (Kd.R_over' (rk HO) (Kd.S_typed (sk HS)) (by decide) hg); clear HR hat hg hne BP HS HO HB; have BP := BP2; have HO := HO2; have HS := Aside0.mk hs; have HB := Aside0.mk hb; clear BP2 HO2 hs hb; obtain ⟨A2, c2, e2⟩ := Kd.S_slice HS.out; subst e2; have ⟨a0, a1, b0, b1⟩ := q2f BP))
                go_roundg k2
                case measure => have := HK1.out; have := HK2.out; omega
                case rel => exact ⟨x3n, wrap64 (x11 + 1), _, (by first | rfl | (simp; done)), H', ⟨by have := HK1.out; have := HK2.out; omega⟩, ⟨blk_put BP.out 1 _ rfl⟩, ⟨Kd.S_far HS.out (fun _ h_ => h_) _⟩, ⟨Kd.R_far HO.out (fun _ h_ => h_) _⟩, ⟨bg HB GP⟩⟩
              · rw [if_neg c6] at H
                exact absurd H (by simp)
            · rw [if_neg c5] at H
              have c5b0 : decide (x11 < (orb.length : Int)) = false := decide_eq_false c5
              clear c5
              have H' := Aside0.mk H
              clear H
              go_wp2_with (first
                | ((with_reducible refine gate_callee (f := 49) rfl ?_); refine goesL_ (some 44) rfl rfl Try.func49 (by kernel_rfl) rfl #[.slice Ao orb.length co] rfl (by (try simp only [List.map_toArray, List.map_cons, List.map_nil]); first | done | rfl | (simp only [List.length_drop, List.length_take]; rfl)) ?_; (with_reducible refine (impl_Angle_49.calls Ao co orb (orb.length : Int) _ (Kd.R_reads' (rk HO)).2.2 (Kd.R_reads' HO.out).2.1 rfl).mono ?_); rintro e w5 ⟨rfl, m_, rfl⟩; refine ⟨_, rfl, ?_⟩))
              go_roundg k2
              case measure => have := HK1.out; have := HK2.out; omega
              case rel => exact ⟨x3, wrap64 (x37 + 1), vp, (by first | rfl | (simp; done)), H', ⟨by have := HK1.out; have := HK2.out; omega⟩, ⟨bk BP⟩, ⟨by (with_reducible repeat (first | apply Kd.S_alloc | apply Kd.S_drewN | apply Kd.S_drew)); exact HS.out⟩, ⟨rk HO⟩, ⟨bb HB⟩⟩
      · rw [if_neg c4] at H
        have c4b0 : decide (x37 < (orb.length : Int)) = false := decide_eq_false c4
        clear c4
        obtain rfl := Option.some.inj H
        go_wp2
        go_ret2
        exact ⟨gp, _, vp, rfl, GP.out, bk BP, rk HO, by (with_reducible repeat (first | apply Kd.S_alloc | apply Kd.S_drewN | apply Kd.S_drew)); exact HS.out, bb HB⟩
set_option maxHeartbeats 8000000 in
set_option maxRecDepth 100000 in
theorem impl_pairingOf.no1 (k : Nat) (a0_0 : Int) (a0_1 : Int) (w : World) (A1 : Aside0 (impl_IsAngle.f k a0_0 a0_1 = some false)) :
    Calls Try.prog 66 #[.agg #[.int .i64 a0_0, .int .i64 a0_1], .bool true] w fun e w' => e = .returned (.tuple #[.pointer none, .int .i64 1]) ∧ Below w.heap.size w w' := by
  have hu51 := Try.underlying51
  have HB := Aside0.mk (Below.refl w.heap.size w)
  go_enter Try.func66, Try.ntmps66
  go_wp2_with (first
    | ((with_reducible refine gate_dst (N := 2) rfl ?_); refine box_event ?hg (N := 2) ?hd (cs := #[.int .i64 a0_0, .int .i64 a0_1]) (t := 51) ?hr ?_; (case hd => rfl); (case hg => rfl); (case hr => first | (go_simp; done) | (go_simp; rfl)); intro gb hg w1 hbox hb; have BK := Aside0.mk (hbox); have GE := wl hg HB; replace HB := bs HB hb; clear hb hbox hg; have ⟨a0, a1, b0, b1⟩ := q2f BK)
    | ((with_reducible refine gate_callee (f := 74) rfl ?_); refine goesL_ (some 13) rfl rfl Try.func74 (by kernel_rfl) rfl #[.agg #[.int .i64 a0_0, .int .i64 a0_1]] rfl (by (try simp only [List.map_toArray, List.map_cons, List.map_nil]); first | done | rfl | (simp only [List.length_drop, List.length_take]; rfl)) ?_; (with_reducible refine (impl_IsAngle.calls k a0_0 a0_1 false _ A1.out).mono ?_); rintro e w2 ⟨rfl, hb⟩; refine ⟨_, rfl, ?_⟩; replace BK := kb BK hb; replace HB := bs HB hb; clear hb; have ⟨a0, a1, b0, b1⟩ := q2f BK))
  go_ret2
  exact ⟨rfl, bb HB⟩
set_option maxHeartbeats 8000000 in
set_option maxRecDepth 100000 in
theorem impl_pairingOf.no2 (k : Nat) (a0_0 : Int) (a0_1 : Int) (w : World) (orb : List S51) (pre : Int) (A1 : Aside0 (impl_IsAngle.f k a0_0 a0_1 = some true)) (A2 : Aside0 (impl_Angle_orbit.f k a0_0 a0_1 = some (orb, pre, false))) :
    Calls Try.prog 66 #[.agg #[.int .i64 a0_0, .int .i64 a0_1], .bool true] w fun e w' => e = .returned (.tuple #[.pointer none, .int .i64 2]) ∧ Below w.heap.size w w' := by
  have hu51 := Try.underlying51
  have HB := Aside0.mk (Below.refl w.heap.size w)
  go_enter Try.func66, Try.ntmps66
  go_wp2_with (first
    | ((with_reducible refine gate_dst (N := 2) rfl ?_); refine box_event ?hg (N := 2) ?hd (cs := #[.int .i64 a0_0, .int .i64 a0_1]) (t := 51) ?hr ?_; (case hd => rfl); (case hg => rfl); (case hr => first | (go_simp; done) | (go_simp; rfl)); intro gb hg w1 hbox hb; have BK := Aside0.mk (hbox); have GE := wl hg HB; replace HB := bs HB hb; clear hb hbox hg; have ⟨a0, a1, b0, b1⟩ := q2f BK)
    | ((with_reducible refine gate_callee (f := 74) rfl ?_); refine goesL_ (some 13) rfl rfl Try.func74 (by kernel_rfl) rfl #[.agg #[.int .i64 a0_0, .int .i64 a0_1]] rfl (by (try simp only [List.map_toArray, List.map_cons, List.map_nil]); first | done | rfl | (simp only [List.length_drop, List.length_take]; rfl)) ?_; (with_reducible refine (impl_IsAngle.calls k a0_0 a0_1 true _ A1.out).mono ?_); rintro e w2 ⟨rfl, hb⟩; refine ⟨_, rfl, ?_⟩; replace BK := kb BK hb; replace HB := bs HB hb; clear hb; have ⟨a0, a1, b0, b1⟩ := q2f BK)
    | ((with_reducible refine gate_callee (f := 95) rfl ?_); refine goesL_ (some 17) rfl rfl Try.func95 (by kernel_rfl) rfl #[.agg #[.int .i64 a0_0, .int .i64 a0_1]] rfl (by (try simp only [List.map_toArray, List.map_cons, List.map_nil]); first | done | rfl | (simp only [List.length_drop, List.length_take]; rfl)) ?_; (with_reducible refine (impl_Angle_orbit.calls k a0_0 a0_1 orb pre false _ A2.out).mono ?_); rintro e w3 ⟨vo, rfl, ho, hb⟩; refine ⟨_, rfl, ?_⟩; replace HB := bs HB hb; clear hb; obtain ⟨Ao, co, eo⟩ := Kd.R_slice ho; subst eo; clear ho))
  go_ret2
  exact ⟨rfl, bb HB⟩
set_option maxHeartbeats 8000000 in
set_option maxRecDepth 100000 in
theorem impl_pairingOf.no3 (k : Nat) (a0_0 : Int) (a0_1 : Int) (w : World) (orb : List S51) (pre : Int) (A1 : Aside0 (impl_IsAngle.f k a0_0 a0_1 = some true)) (A2 : Aside0 (impl_Angle_orbit.f k a0_0 a0_1 = some (orb, pre, true))) (c7 : (orb.length : Int) > 7) :
    Calls Try.prog 66 #[.agg #[.int .i64 a0_0, .int .i64 a0_1], .bool true] w fun e w' => e = .returned (.tuple #[.pointer none, .int .i64 2]) ∧ Below w.heap.size w w' := by
  have hu51 := Try.underlying51
  have HB := Aside0.mk (Below.refl w.heap.size w)
  have c7b0 : decide ((orb.length : Int) > 7) = true := decide_eq_true c7
  have c7b1 : decide (7 < orb.length) = true := decide_eq_true (by omega)
  clear c7
  go_enter Try.func66, Try.ntmps66
  go_wp2_with (first
    | ((with_reducible refine gate_dst (N := 2) rfl ?_); refine box_event ?hg (N := 2) ?hd (cs := #[.int .i64 a0_0, .int .i64 a0_1]) (t := 51) ?hr ?_; (case hd => rfl); (case hg => rfl); (case hr => first | (go_simp; done) | (go_simp; rfl)); intro gb hg w1 hbox hb; have BK := Aside0.mk (hbox); have GE := wl hg HB; replace HB := bs HB hb; clear hb hbox hg; have ⟨a0, a1, b0, b1⟩ := q2f BK)
    | ((with_reducible refine gate_callee (f := 74) rfl ?_); refine goesL_ (some 13) rfl rfl Try.func74 (by kernel_rfl) rfl #[.agg #[.int .i64 a0_0, .int .i64 a0_1]] rfl (by (try simp only [List.map_toArray, List.map_cons, List.map_nil]); first | done | rfl | (simp only [List.length_drop, List.length_take]; rfl)) ?_; (with_reducible refine (impl_IsAngle.calls k a0_0 a0_1 true _ A1.out).mono ?_); rintro e w2 ⟨rfl, hb⟩; refine ⟨_, rfl, ?_⟩; replace BK := kb BK hb; replace HB := bs HB hb; clear hb; have ⟨a0, a1, b0, b1⟩ := q2f BK)
    | ((with_reducible refine gate_callee (f := 95) rfl ?_); refine goesL_ (some 17) rfl rfl Try.func95 (by kernel_rfl) rfl #[.agg #[.int .i64 a0_0, .int .i64 a0_1]] rfl (by (try simp only [List.map_toArray, List.map_cons, List.map_nil]); first | done | rfl | (simp only [List.length_drop, List.length_take]; rfl)) ?_; (with_reducible refine (impl_Angle_orbit.calls k a0_0 a0_1 orb pre true _ A2.out).mono ?_); rintro e w3 ⟨vo, rfl, ho, hb⟩; refine ⟨_, rfl, ?_⟩; replace HB := bs HB hb; clear hb; obtain ⟨Ao, co, eo⟩ := Kd.R_slice ho; subst eo; clear ho))
  go_ret2
  exact ⟨rfl, bb HB⟩
/-- What pairingOf does where it has no pairs. -/
theorem impl_pairingOf.no (k : Nat) (a0_0 : Int) (a0_1 : Int) (orb : List S51) (ps : List (List Int)) (c : Int) (w : World) (hc : c ≠ 0) (h : impl_pairingOf.f k a0_0 a0_1 = some (orb, ps, c)) :
    Calls Try.prog 66 #[.agg #[.int .i64 a0_0, .int .i64 a0_1], .bool true] w fun e w' => e = .returned (.tuple #[.pointer none, .int .i64 c]) ∧ Below w.heap.size w w' := by
  unfold impl_pairingOf.f at h
  obtain ⟨b, h1, h⟩ := Option.bind_eq_some_iff.mp h
  cases b with
  | false =>
    simp only [Bool.false_eq_true, if_false, Option.some.injEq, Prod.mk.injEq] at h
    obtain ⟨rfl, rfl, rfl⟩ := h
    exact impl_pairingOf.no1 k a0_0 a0_1 w ⟨h1⟩
  | true =>
    simp only [if_true] at h
    obtain ⟨⟨o1, o2, o3⟩, h2, h⟩ := Option.bind_eq_some_iff.mp h
    cases o3 with
    | false =>
      simp only [Bool.false_eq_true, if_false, Option.some.injEq, Prod.mk.injEq] at h
      obtain ⟨rfl, rfl, rfl⟩ := h
      exact impl_pairingOf.no2 k a0_0 a0_1 w o1 o2 ⟨h1⟩ ⟨h2⟩
    | true =>
      simp only [if_true] at h
      by_cases c7 : (o1.length : Int) > 7
      · simp only [if_pos c7, Option.some.injEq, Prod.mk.injEq] at h
        obtain ⟨rfl, rfl, rfl⟩ := h
        exact impl_pairingOf.no3 k a0_0 a0_1 w o1 o2 ⟨h1⟩ ⟨h2⟩ c7
      · simp only [if_neg c7] at h
        obtain ⟨p, h3, h⟩ := Option.bind_eq_some_iff.mp h
        simp only [Option.some.injEq, Prod.mk.injEq] at h
        exact absurd h.2.2.symm hc
/-- What it does where it has. -/
theorem impl_pairingOf.yes (k : Nat) (a0_0 : Int) (a0_1 : Int) (orb : List S51) (ps : List (List Int)) (w : World) (h : impl_pairingOf.f k a0_0 a0_1 = some (orb, ps, 0)) :
    Calls Try.prog 66 #[.agg #[.int .i64 a0_0, .int .i64 a0_1], .bool true] w (PairOk w orb ps) := by
  unfold impl_pairingOf.f at h
  obtain ⟨b, h1, h⟩ := Option.bind_eq_some_iff.mp h
  cases b with
  | false => simp at h
  | true =>
    simp only [if_true] at h
    obtain ⟨⟨o1, o2, o3⟩, h2, h⟩ := Option.bind_eq_some_iff.mp h
    cases o3 with
    | false => simp at h
    | true =>
      simp only [if_true] at h
      by_cases c7 : (o1.length : Int) > 7
      · simp [if_pos c7] at h
      · simp only [if_neg c7] at h
        obtain ⟨p, h3, h⟩ := Option.bind_eq_some_iff.mp h
        simp only [Option.some.injEq, Prod.mk.injEq] at h
        obtain ⟨rfl, rfl, _⟩ := h
        exact impl_pairingOf.ok k a0_0 a0_1 o1 o2 p w ⟨h1⟩ ⟨h2⟩ c7 ⟨h3⟩
end

end Go.Proofs.Ytngffoffjiofbaa.Q
end
section
-- By wip/hyb/hyb.py of this session, over the kit's print.py
namespace Go.Proofs.Ytngffoffjiofbaa.Q
open Go.Proofs.YtngffoffjiofbaaW.Ext
open Go.RowKit Go.Proofs.YtngffoffjiofbaaW.PrintWords Go.Proofs.YtngffoffjiofbaaW.PrintLast Go.Proofs.YtngffoffjiofbaaW.PrintMore
attribute [local go_sem] max2_int min2_int max_two min_two max_three min_three max_four min_four   -- for this text's walks alone
set_option linter.unusedVariables false
set_option linter.unusedSimpArgs false

/-! ### deleteFunc_L8: function 67 -/
section
theorem idx_total (q : List Int → Bool) : ∀ (l : List (List Int)) (i : Int), 0 ≤ i → ∃ r, idxGo (fun x => some (q x)) i l = some r ∧ ((r = -1 ∧ ∀ x, x ∈ l → q x = false) ∨ ∃ (k : Nat) (hk : k < l.length), r = i + k ∧ q l[k] = true ∧ ∀ j (hj : j < k), q (l[j]'(by omega)) = false)
  | [], i, h => ⟨-1, rfl, .inl ⟨rfl, fun x hx => by cases hx⟩⟩
  | x :: l, i, h => by
    cases hq : q x with
    | true => exact ⟨i, by simp [idxGo, hq], .inr ⟨0, by simp, by simp, hq, fun j hj => absurd hj (Nat.not_lt_zero _)⟩⟩
    | false =>
      obtain ⟨r, h1, h2⟩ := idx_total q l (i + 1) (by omega)
      refine ⟨r, by simp [idxGo, hq, h1], ?_⟩
      rcases h2 with ⟨rfl, ha⟩ | ⟨k, hk, rfl, hk1, hk2⟩
      · exact .inl ⟨rfl, fun y hy => by
          rcases List.mem_cons.1 hy with rfl | hy
          · exact hq
          · exact ha y hy⟩
      · refine .inr ⟨k + 1, by simpa using hk, by push_cast; omega, by simpa using hk1, fun j hj => ?_⟩
        cases j with
        | zero => simpa using hq
        | succ j => simpa using hk2 j (by omega)
/-- The row while it is being rewritten: up to i what is kept of the first j, from j on what stood there. -/
structure DelInv (q : List Int → Bool) (xs : List (List Int)) (ys : List (List Int × Nat)) (i j : Nat) : Prop where
  len : ys.length = xs.length
  lt : i < j
  le : j ≤ xs.length
  low : ys.take i = (xs.zipIdx.take j).filter (fun p => !q p.1)
  high : ∀ m, j ≤ m → ys[m]? = xs.zipIdx[m]?
theorem DelInv.cnt {q : List Int → Bool} {xs : List (List Int)} {ys : List (List Int × Nat)} {i j : Nat} (h : DelInv q xs ys i j) : ((xs.zipIdx.take j).filter (fun p => !q p.1)).length = i := by
  rw [← h.low, List.length_take, h.len]
  have := h.lt
  have := h.le
  omega
theorem DelInv.at_ {q : List Int → Bool} {xs : List (List Int)} {ys : List (List Int × Nat)} {i j : Nat} (h : DelInv q xs ys i j) (hj : j < xs.length) : ys[j]'(by rw [h.len]; exact hj) = (xs[j], j) := by
  have := h.high j (Nat.le_refl _)
  rw [List.getElem?_eq_getElem (by rw [h.len]; exact hj), List.getElem?_eq_getElem (by simpa using hj)] at this
  injection this with this
  rw [this]
  simp
theorem zip_take_succ (q : List Int → Bool) (xs : List (List Int)) {j : Nat} (hj : j < xs.length) : (xs.zipIdx.take (j + 1)).filter (fun p => !q p.1) = (xs.zipIdx.take j).filter (fun p => !q p.1) ++ (if q xs[j] = true then [] else [(xs[j], j)]) := by
  rw [List.take_succ_eq_append_getElem (by simpa using hj), List.filter_append]
  congr 1
  have : xs.zipIdx[j]'(by simpa using hj) = (xs[j], j) := by simp
  rw [this]
  cases hq : q xs[j] <;> simp [hq]
theorem DelInv.start {q : List Int → Bool} {xs : List (List Int)} {k : Nat} (hk : k < xs.length) (h1 : q xs[k] = true) (h2 : ∀ j (hj : j < k), q (xs[j]'(by omega)) = false) : DelInv q xs xs.zipIdx k (k + 1) := by
  refine ⟨by simp, by omega, hk, ?_, fun m _ => rfl⟩
  rw [zip_take_succ q xs hk, if_pos h1, List.append_nil]
  have : ∀ m, m ≤ k → (xs.zipIdx.take m).filter (fun p => !q p.1) = xs.zipIdx.take m := by
    intro m hm
    rw [List.filter_eq_self]
    intro p hp
    obtain ⟨j, hj, rfl⟩ := List.mem_iff_getElem.1 hp
    rw [List.length_take] at hj
    have hjm : j < m := by omega
    rw [List.getElem_take]
    simp [h2 j (by omega)]
  exact (this k (Nat.le_refl _)).symm
theorem DelInv.skip {q : List Int → Bool} {xs : List (List Int)} {ys : List (List Int × Nat)} {i j : Nat} (h : DelInv q xs ys i j) (hj : j < xs.length) (hq : q xs[j] = true) : DelInv q xs ys i (j + 1) :=
  ⟨h.len, by have := h.lt; omega, hj, by rw [zip_take_succ q xs hj, if_pos hq, List.append_nil]; exact h.low, fun m hm => h.high m (by omega)⟩
theorem DelInv.keep {q : List Int → Bool} {xs : List (List Int)} {ys : List (List Int × Nat)} {i j : Nat} (h : DelInv q xs ys i j) (hj : j < xs.length) (hq : q xs[j] = false) : DelInv q xs (ys.set i (ys[j]'(by rw [h.len]; exact hj))) (i + 1) (j + 1) := by
  have hl := h.len
  have hlt := h.lt
  refine ⟨by rw [List.length_set]; exact hl, by omega, hj, ?_, fun m hm => ?_⟩
  · rw [zip_take_succ q xs hj, hq, if_neg (by simp), ← h.low, h.at_ hj, List.take_succ_eq_append_getElem (by rw [List.length_set]; omega), List.getElem_set_self, List.take_set_of_le (Nat.le_refl _)]
  · rw [List.getElem?_set_ne (by omega)]
    exact h.high m (by omega)
theorem zip_filter_fst (q : List Int → Bool) (xs : List (List Int)) : (xs.zipIdx.filter (fun p => !q p.1)).map (·.1) = xs.filter (fun x => !q x) := by
  have g : ∀ (l : List (List Int)) (n : Nat), ((l.zipIdx n).filter (fun p => !q p.1)).map (·.1) = l.filter (fun x => !q x) := by
    intro l
    induction l with
    | nil => intro n; rfl
    | cons x l ih =>
      intro n
      rw [List.zipIdx_cons]
      cases hq : q x <;> simp [hq, ih]
  exact g xs 0
theorem zip_filter_nodup (q : List Int → Bool) (xs : List (List Int)) : ((xs.zipIdx.filter (fun p => !q p.1)).map (·.2)).Nodup := by
  have h1 : (xs.zipIdx.map (·.2)).Nodup := by
    rw [show xs.zipIdx.map (·.2) = List.range' 0 xs.length from List.zipIdx_map_snd 0 xs]
    exact List.nodup_range'
  exact h1.sublist (List.filter_sublist.map _)
theorem R_clear {α : Type} {d : Kd α} (hsz : d.sz = 1) {e g n cap base : Nat} {ok : Nat → Prop} {ys : List α} (z : Value) : ∀ (vs : List Value) (w : World) (i : Nat), d.R e w base ok (.slice (some ⟨g, 0, none⟩) n cap) ys → ys.length ≤ i → d.R e (w.setCells g i vs) base ok (.slice (some ⟨g, 0, none⟩) n cap) ys
  | [], _, _, h, _ => h
  | v :: vs, w, i, h, hi => R_clear hsz z vs _ (i + 1) (R_past hsz h hi v) (by omega)
theorem below_clear {B b : Nat} {a : World} (hb : B ≤ b) : ∀ (vs : List Value) (o : Nat) (w : World), Below B a w → Below B a (w.setCells b o vs)
  | [], _, _, h => h
  | v :: r, o, w, h => below_clear hb r (o + 1) _ (h.setCell (by exact hb) v)
set_option maxHeartbeats 8000000 in
set_option maxRecDepth 100000 in
theorem deleteFunc_L8.calls (g : Nat) (lb : Array Value) (eg : ∀ args w, (callFunc g args).run Try.prog w = .ok (.enter g args) w) (q : List Int → Bool) (gb cap : Nat) (ok : Nat → Prop) (xs : List (List Int)) (w0 w : World)
    (hB : Below w0.heap.size w0 w) (hS : Kd.S (Kd.slice 2 (Kd.int .i64)) 39 w w0.heap.size ok (.slice (some ⟨gb, 0, none⟩) xs.length cap) xs)
    (hp : ∀ W x A c, KeepBut w W gb none → x ∈ xs → Kd.C (Kd.int .i64) W A x.length x → x.length ≤ c → Calls Try.prog g (#[.slice A x.length c] ++ lb) W fun e w' => e = .returned (.bool (q x)) ∧ Below W.heap.size W w') :
    Calls Try.prog 67 #[.slice (some ⟨gb, 0, none⟩) xs.length cap, .func (.func g) #[] lb] w fun e w' => e = .returned (.slice (some ⟨gb, 0, none⟩) (xs.filter (fun x => !q x)).length cap) ∧ Kd.S (Kd.slice 2 (Kd.int .i64)) 39 w' w0.heap.size ok (.slice (some ⟨gb, 0, none⟩) (xs.filter (fun x => !q x)).length cap) (xs.filter (fun x => !q x)) ∧ Below w0.heap.size w0 w' := by
  obtain ⟨r, hr, hcase⟩ := idx_total q xs 0 (by omega)
  have hrd := Kd.S_reads' hS
  have hIF := indexFunc_L8.calls g lb eg (fun x => some (q x)) (some ⟨gb, 0, none⟩) cap xs r w hrd.2.2 hrd.2.1 (fun W x b A c hW hx hb hC hc => by
    injection hb with hb
    subst hb
    exact hp W x A c (KeepBut.of_below hW gb none) hx hC hc) hr
  have HI := Aside0.mk hIF
  have HB := Aside0.mk hB
  clear hIF hr hB hrd
  rcases hcase with ⟨rfl, hall⟩ | ⟨k, hk, rfl, hk1, hk2⟩
  · have hf : xs.filter (fun x => !q x) = xs := by
      rw [List.filter_eq_self]
      intro x hx
      rw [hall x hx]
      rfl
    rw [hf]
    have HS := Aside0.mk hS
    clear hS hp hall hf
    go_enter Try.func67, Try.ntmps67
    go_wp2_with (go_at_call 96; refine HI.out.mono ?_; rintro e w' ⟨rfl, hb⟩)
    go_ret
    exact ⟨rfl, Kd.S_below HS.out hb, below_step HB.out hb⟩
  · rw [Int.zero_add] at HI
    obtain ⟨f, hT⟩ := hS
    have HT := Aside0.mk hT
    have HP := Aside0.mk hp
    have HD := Aside0.mk (DelInv.start hk hk1 hk2)
    have hgb : w0.heap.size ≤ gb := (R_open1 (d := Kd.tag f (Kd.slice 2 (Kd.int .i64))) rfl hT).2.2.1
    have HG := Aside0.mk hgb
    have hne1 : ((k : Int) == -1) = false := beq_eq_false_iff_ne.2 (by omega)
    have hn : xs.length ≤ 9223372036854775807 := by
      have h2 := R_open1 (d := Kd.tag f (Kd.slice 2 (Kd.int .i64))) rfl hT
      have h3 := h2.2.1
      obtain ⟨cur, _, h4, h5, _⟩ := h2.2.2.2
      unfold maxLen at h5
      omega
    have HK0 := Aside0.mk hk
    clear hT hp hk1 hk2 hgb
    go_enter Try.func67, Try.ntmps67
    go_wp2_with (go_at_call 96; refine HI.out.mono ?_; rintro e w' ⟨rfl, hb⟩)
    go_loopg [5, 6, 7] xs.length (fun gg s5 s6 _ wr => ∃ (i j : Nat) (ys : List (List Int × Nat)), s5 = .int .i64 i ∧ s6 = .int .i64 j ∧ xs.length - j ≤ gg ∧ Aside0 (DelInv q xs ys i j) ∧ Aside0 ((Kd.tag f (Kd.slice 2 (Kd.int .i64))).R 39 wr w0.heap.size ok (.slice (some ⟨gb, 0, none⟩) xs.length cap) ys) ∧ Aside0 (KeepBut w wr gb none) ∧ Aside0 (Below w0.heap.size w0 wr))
    case atStart => exact ⟨k, k + 1, xs.zipIdx, rfl, by go_num, by have := HK0.out; omega, HD, ⟨Kd.R_below HT.out hb⟩, ⟨KeepBut.of_below hb gb none⟩, ⟨below_step HB.out hb⟩⟩
    case round =>
      clear HB
      obtain ⟨i, j, ys, rfl, rfl, hgg, I, T, KB, HB⟩ := hrel
      by_cases hlt : j < xs.length
      · have hltz : (j : Int) < (xs.length : Int) := by omega
        have hyl : ys.length = xs.length := I.out.len
        have hil : i < ys.length := by have := I.out.lt; omega
        have hjl : j < ys.length := by omega
        obtain ⟨A, c, hcell, hle, hC⟩ := R_row8 T.out hjl
        have hat := I.out.at_ hlt
        rw [show ys[j] = (xs[j], j) from hat] at hcell hle hC
        have hcall := HP.out wr xs[j] A c KB.out (List.getElem_mem hlt) hC hle
        have HY := Aside0.mk hyl
        have HIL := Aside0.mk hil
        have HJL := Aside0.mk hjl
        have HLT := Aside0.mk hlt
        have hilx : i < xs.length := by have := I.out.lt; omega
        clear hC hat hyl hil hjl hle
        cases hq : q xs[j] with
        | false =>
          rw [hq] at hcall
          have HQ := Aside0.mk hq
          have HC := Aside0.mk hcall
          have HCE := Aside0.mk hcell
          clear hq hcall
          go_wp2_with (go_at_fn g; refine HC.out.mono ?_; rintro e w' ⟨rfl, hb'⟩; have T2 := Aside0.mk (Kd.R_below T.out hb'); have K2 := Aside0.mk (KB.out.trans (KeepBut.of_below hb' gb none) (.inl rfl)); have B2 := Aside0.mk (below_step HB.out hb'); have C2 := Aside0.mk (cell_on HCE.out hb'); obtain ⟨fi, ui, ci⟩ := R_head8 T2.out HIL.out; clear hb')
          go_roundg (xs.length - (j + 1))
          case measure => omega
          case rel => exact ⟨i + 1, j + 1, ys.set i (ys[j]'HJL.out), by go_num, by go_num, Nat.le_refl _, ⟨I.out.keep HLT.out HQ.out⟩, ⟨R_copy (d := Kd.tag f (Kd.slice 2 (Kd.int .i64))) rfl T2.out HIL.out HJL.out C2.out⟩, ⟨KeepBut.set_ K2.out i _⟩, ⟨below_set B2.out HG.out⟩⟩
        | true =>
          rw [hq] at hcall
          have HQ := Aside0.mk hq
          have HC := Aside0.mk hcall
          clear hq hcall
          go_wp2_with (go_at_fn g; refine HC.out.mono ?_; rintro e w' ⟨rfl, hb'⟩; have T2 := Aside0.mk (Kd.R_below T.out hb'); have K2 := Aside0.mk (KB.out.trans (KeepBut.of_below hb' gb none) (.inl rfl)); have B2 := Aside0.mk (below_step HB.out hb'); clear hb')
          go_roundg (xs.length - (j + 1))
          case measure => omega
          case rel => exact ⟨i, j + 1, ys, rfl, by go_num, Nat.le_refl _, ⟨I.out.skip HLT.out HQ.out⟩, T2, K2, B2⟩
      · obtain rfl : j = xs.length := by have := I.out.le; omega
        have hltz : ¬ (xs.length : Int) < (xs.length : Int) := by omega
        have hyl : ys.length = xs.length := I.out.len
        have hil : i < xs.length := I.out.lt
        have hncap : xs.length ≤ cap := (R_open1 (d := Kd.tag f (Kd.slice 2 (Kd.int .i64))) rfl T.out).2.2.2.choose_spec.2.1
        have hcl : ∀ ty, (Builtin.clear_ #[37] ty #[.slice (some ⟨gb, 0 + i, none⟩) (xs.length - i) (cap - i)]).run Try.prog wr = .ok (.tuple #[]) (wr.setCells gb (0 + i) (List.replicate (xs.length - i) (.slice none 0 0))) :=
          fun ty => Lib.run_clear_slice wr _ _ ty _ Try.underlying37 Try.zeroValue39 rfl rfl gb (0 + i) _ _ (by omega) (fun t ht => by rw [show 0 + i + t = i + t by omega, (R_head8 T.out (j := i + t) (by omega)).2.choose_spec]; rfl) (fun t ht => by rw [show 0 + i + t = i + t by omega]; exact (R_head8 T.out (j := i + t) (by omega)).1)
        simp only [Nat.zero_add] at hcl
        have hz := zip_filter_fst q xs
        have hcnt : (xs.filter (fun x => !q x)).length = i := by
          have := I.out.cnt
          rw [List.take_of_length_le (by simp)] at this
          rw [← hz, List.length_map, this]
        have hlow : ys.take i = xs.zipIdx.filter (fun p => !q p.1) := by
          have := I.out.low
          rwa [List.take_of_length_le (l := xs.zipIdx) (by simp)] at this
        have hT3 := Kd.R_take T.out (m := i) (by omega)
        rw [hlow] at hT3
        have hT4 := R_clear (d := Kd.tag f (Kd.slice 2 (Kd.int .i64))) rfl (.slice none 0 0) (List.replicate (xs.length - i) (.slice none 0 0)) wr i hT3 (by rw [← hlow, List.length_take]; omega)
        have hS4 := S_tags hT4 (zip_filter_nodup q xs)
        rw [hz] at hS4
        have H4 := Aside0.mk hS4
        have HCN := Aside0.mk hcnt
        have HB4 := Aside0.mk (below_clear HG.out (List.replicate (xs.length - i) (.slice none 0 0)) i wr HB.out)
        clear hS4 hT4 hT3 hlow hcnt hz hyl
        go_wp2
        go_ret
        exact ⟨by rw [HCN.out]; rfl, by rw [HCN.out]; exact H4.out, HB4.out⟩
end

end Go.Proofs.Ytngffoffjiofbaa.Q
end
section
-- By wip/hyb/hyb.py of this session, over the kit's print.py
namespace Go.Proofs.Ytngffoffjiofbaa.Q
open Go.Proofs.YtngffoffjiofbaaW.Ext
open Go.RowKit Go.Proofs.YtngffoffjiofbaaW.PrintWords Go.Proofs.YtngffoffjiofbaaW.PrintLast Go.Proofs.YtngffoffjiofbaaW.PrintMore
attribute [local go_sem] max2_int min2_int max_two min_two max_three min_three max_four min_four   -- for this text's walks alone
set_option linter.unusedVariables false
set_option linter.unusedSimpArgs false

/-! ### impl_letterOf: function 97 -/
def impl_letterOf.j0 : Nat → Int → Int → Int → Bool → Option (Int)
  | 0, _, _, _, _ => none
  | k + 1, x5, x6, x7, x26 => if x26 = true then (some 42) else (if x6 < x5 then (if x5 < x7 then (some 49) else (some 48)) else (some 48))
def impl_letterOf.f (k : Nat) (a0_0 : Int) (a0_1 : Int) (a1_0 : Int) (a1_1 : Int) : Option (Int) := if (wrap64 ((wrap64 (2 * a0_0)) * a1_1)) = (wrap64 (a1_0 * a0_1)) then (impl_letterOf.j0 k (wrap64 ((wrap64 (2 * a0_0)) * a1_1)) (wrap64 (a1_0 * a0_1)) (wrap64 ((wrap64 (a1_0 * a0_1)) + (wrap64 (a0_1 * a1_1)))) true) else (impl_letterOf.j0 k (wrap64 ((wrap64 (2 * a0_0)) * a1_1)) (wrap64 (a1_0 * a0_1)) (wrap64 ((wrap64 (a1_0 * a0_1)) + (wrap64 (a0_1 * a1_1)))) ((wrap64 ((wrap64 (2 * a0_0)) * a1_1)) == (wrap64 ((wrap64 (a1_0 * a0_1)) + (wrap64 (a0_1 * a1_1))))))
theorem impl_letterOf.mono_l : ∀ k, (∀ y0 y1 y2 y3, LeO (impl_letterOf.j0 k y0 y1 y2 y3) (impl_letterOf.j0 (k + 1) y0 y1 y2 y3))
  | 0 => fun _ _ _ _ r h => by simp [impl_letterOf.j0] at h
  | k + 1 => by
    have ih0 := impl_letterOf.mono_l k
    · intro y0 y1 y2 y3
      unfold impl_letterOf.j0
      repeat' first
      | (with_reducible exact ih0 _ _ _ _)
      | (with_reducible exact LeO.refl _)
      | (with_reducible exact LeO.none _)
      | (with_reducible refine LeO.ite ?_ ?_)
      | (with_reducible refine LeO.bind ?_ (fun _ => ?_))
      | exact ih0 _ _ _ _
      | exact LeO.none _
      | refine LeO.ite ?_ ?_
      | refine LeO.bind ?_ (fun _ => ?_)
theorem impl_letterOf.mono : ∀ a0 a1 a2 a3 k, LeO (impl_letterOf.f k a0 a1 a2 a3) (impl_letterOf.f (k + 1) a0 a1 a2 a3) := by
  intro a0 a1 a2 a3 k
  have ih0 := impl_letterOf.mono_l k
  unfold impl_letterOf.f
  repeat' first
      | (with_reducible exact ih0 _ _ _ _)
      | (with_reducible exact LeO.refl _)
      | (with_reducible exact LeO.none _)
      | (with_reducible refine LeO.ite ?_ ?_)
      | (with_reducible refine LeO.bind ?_ (fun _ => ?_))
      | exact ih0 _ _ _ _
      | exact LeO.none _
      | refine LeO.ite ?_ ?_
      | refine LeO.bind ?_ (fun _ => ?_)
set_option maxHeartbeats 8000000 in
set_option maxRecDepth 100000 in
theorem impl_letterOf.calls (k : Nat) (a0_0 : Int) (a0_1 : Int) (a1_0 : Int) (a1_1 : Int) (r : Int) (w : World) (h : impl_letterOf.f k a0_0 a0_1 a1_0 a1_1 = some r) :
    Calls Try.prog 97 #[.agg #[.int .i64 a0_0, .int .i64 a0_1], .agg #[.int .i64 a1_0, .int .i64 a1_1]] w fun e w' => e = .returned (.int .u8 r) ∧ Below w.heap.size w w' := by
  have hu51 := Try.underlying51
  have HB := Aside0.mk (Below.refl w.heap.size w)
  have H : (if (wrap64 ((wrap64 (2 * a0_0)) * a1_1)) = (wrap64 (a1_0 * a0_1)) then (impl_letterOf.j0 k (wrap64 ((wrap64 (2 * a0_0)) * a1_1)) (wrap64 (a1_0 * a0_1)) (wrap64 ((wrap64 (a1_0 * a0_1)) + (wrap64 (a0_1 * a1_1)))) true) else (impl_letterOf.j0 k (wrap64 ((wrap64 (2 * a0_0)) * a1_1)) (wrap64 (a1_0 * a0_1)) (wrap64 ((wrap64 (a1_0 * a0_1)) + (wrap64 (a0_1 * a1_1)))) ((wrap64 ((wrap64 (2 * a0_0)) * a1_1)) == (wrap64 ((wrap64 (a1_0 * a0_1)) + (wrap64 (a0_1 * a1_1))))))) = some r := h
  clear h
  have HC3 := Aside0.mk H
  clear H
  go_enter Try.func97, Try.ntmps97
  go_upto_region 3 with (first | ((with_reducible refine gate_dst (N := 2) rfl ?_); refine box_event ?hg (N := 2) ?hd (cs := #[.int .i64 a0_0, .int .i64 a0_1]) (t := 51) ?hr ?_; (case hd => rfl); (case hg => rfl); (case hr => first | (go_simp; done) | (go_simp; rfl)); intro gb520 hg w4 hbox hb; have n0_ := Aside0.mk (below_step (by repeat (first | (with_reducible first | exact HB.out | apply below_alloc | apply pw_below_drewN | apply below_drew1) | exact HB.out)) hb); have n1_ := Aside0.mk (hbox); have n2_ := Aside0.mk ((by rw [hg]; exact (below_size (by repeat (first | (with_reducible first | exact HB.out | apply below_alloc | apply pw_below_drewN | apply below_drew1) | exact HB.out))) : w.heap.size ≤ gb520)); have n3_ := Aside0.mk ((by rw [hg]; exact (below_size (by repeat (first | (with_reducible first | exact HB.out | apply below_alloc | apply pw_below_drewN | apply below_drew1) | exact HB.out))) : w.heap.size ≤ gb520)); clear HB; have HB := n0_; have BK520 := n1_; have GW520 := n2_; have GE520 := n3_; clear n0_ n1_ n2_ n3_; clear hb hbox hg) | ((with_reducible refine gate_dst (N := 3) rfl ?_); refine box_event ?hg (N := 3) ?hd (cs := #[.int .i64 a1_0, .int .i64 a1_1]) (t := 51) ?hr ?_; (case hd => rfl); (case hg => rfl); (case hr => first | (go_simp; done) | (go_simp; rfl)); intro gb521 hg w5 hbox hb; have n0_ := Aside0.mk (blk_below (g := gb520) (o := .cells #[.int .i64 a0_0, .int .i64 a0_1] 51 (0, 0)) (by (with_reducible repeat (first | refine blk_drewN ?_ _ | refine blk_drew ?_ | refine blk_alloc ?_ _)); exact BK520.out) hb); have n1_ := Aside0.mk (below_step (by repeat (first | (with_reducible first | exact HB.out | apply below_alloc | apply pw_below_drewN | apply below_drew1 | refine below_set ?_ GE520.out) | exact HB.out)) hb); have n2_ := Aside0.mk (hbox); have n3_ := Aside0.mk ((by rw [hg]; exact (below_size (by repeat (first | (with_reducible first | exact HB.out | apply below_alloc | apply pw_below_drewN | apply below_drew1 | refine below_set ?_ GE520.out) | exact HB.out))) : w.heap.size ≤ gb521)); have n4_ := Aside0.mk ((by rw [hg]; exact (below_size (by repeat (first | (with_reducible first | exact HB.out | apply below_alloc | apply pw_below_drewN | apply below_drew1 | refine below_set ?_ GE520.out) | exact HB.out))) : w.heap.size ≤ gb521)); have n5_ := Aside0.mk ((by rw [hg]; exact Nat.ne_of_lt (blk_lt (g := gb520) (o := .cells #[.int .i64 a0_0, .int .i64 a0_1] 51 (0, 0)) (by (with_reducible repeat (first | refine blk_drewN ?_ _ | refine blk_drew ?_ | refine blk_alloc ?_ _)); exact BK520.out)) : gb520 ≠ gb521)); have n6_ := Aside0.mk ((by rw [hg]; exact Nat.ne_of_gt (blk_lt (g := gb520) (o := .cells #[.int .i64 a0_0, .int .i64 a0_1] 51 (0, 0)) (by (with_reducible repeat (first | refine blk_drewN ?_ _ | refine blk_drew ?_ | refine blk_alloc ?_ _)); exact BK520.out)) : gb521 ≠ gb520)); clear BK520; clear HB; have BK520 := n0_; have HB := n1_; have BK521 := n2_; have GW521 := n3_; have GE521 := n4_; have NB520_521 := n5_; have NB521_520 := n6_; clear n0_ n1_ n2_ n3_ n4_ n5_ n6_; clear hb hbox hg; have hnb6 := NB520_521.out; have hnc6 := NB521_520.out; have hcz7_0 : w5.cell? ⟨gb520, 0, none⟩ = some (.int .i64 a0_0) := (blk_cell BK520.out 0).trans rfl; have hcz7_1 : w5.cell? ⟨gb520, 1, none⟩ = some (.int .i64 a0_1) := (blk_cell BK520.out 1).trans rfl; have hfz7_0 := blk_frozen BK520.out 0; have hfz7_1 := blk_frozen BK520.out 1; have hcz8_0 : w5.cell? ⟨gb521, 0, none⟩ = some (.int .i64 a1_0) := (blk_cell BK521.out 0).trans rfl; have hcz8_1 : w5.cell? ⟨gb521, 1, none⟩ = some (.int .i64 a1_1) := (blk_cell BK521.out 1).trans rfl; have hfz8_0 := blk_frozen BK521.out 0; have hfz8_1 := blk_frozen BK521.out 1))
  repeat (go_quiet (first | ((with_reducible refine gate_dst (N := 2) rfl ?_); refine box_event ?hg (N := 2) ?hd (cs := #[.int .i64 a0_0, .int .i64 a0_1]) (t := 51) ?hr ?_; (case hd => rfl); (case hg => rfl); (case hr => first | (go_simp; done) | (go_simp; rfl)); intro gb520 hg w4 hbox hb; have n0_ := Aside0.mk (below_step (by repeat (first | (with_reducible first | exact HB.out | apply below_alloc | apply pw_below_drewN | apply below_drew1) | exact HB.out)) hb); have n1_ := Aside0.mk (hbox); have n2_ := Aside0.mk ((by rw [hg]; exact (below_size (by repeat (first | (with_reducible first | exact HB.out | apply below_alloc | apply pw_below_drewN | apply below_drew1) | exact HB.out))) : w.heap.size ≤ gb520)); have n3_ := Aside0.mk ((by rw [hg]; exact (below_size (by repeat (first | (with_reducible first | exact HB.out | apply below_alloc | apply pw_below_drewN | apply below_drew1) | exact HB.out))) : w.heap.size ≤ gb520)); clear HB; have HB := n0_; have BK520 := n1_; have GW520 := n2_; have GE520 := n3_; clear n0_ n1_ n2_ n3_; clear hb hbox hg) | ((with_reducible refine gate_dst (N := 3) rfl ?_); refine box_event ?hg (N := 3) ?hd (cs := #[.int .i64 a1_0, .int .i64 a1_1]) (t := 51) ?hr ?_; (case hd => rfl); (case hg => rfl); (case hr => first | (go_simp; done) | (go_simp; rfl)); intro gb521 hg w5 hbox hb; have n0_ := Aside0.mk (blk_below (g := gb520) (o := .cells #[.int .i64 a0_0, .int .i64 a0_1] 51 (0, 0)) (by (with_reducible repeat (first | refine blk_drewN ?_ _ | refine blk_drew ?_ | refine blk_alloc ?_ _)); exact BK520.out) hb); have n1_ := Aside0.mk (below_step (by repeat (first | (with_reducible first | exact HB.out | apply below_alloc | apply pw_below_drewN | apply below_drew1 | refine below_set ?_ GE520.out) | exact HB.out)) hb); have n2_ := Aside0.mk (hbox); have n3_ := Aside0.mk ((by rw [hg]; exact (below_size (by repeat (first | (with_reducible first | exact HB.out | apply below_alloc | apply pw_below_drewN | apply below_drew1 | refine below_set ?_ GE520.out) | exact HB.out))) : w.heap.size ≤ gb521)); have n4_ := Aside0.mk ((by rw [hg]; exact (below_size (by repeat (first | (with_reducible first | exact HB.out | apply below_alloc | apply pw_below_drewN | apply below_drew1 | refine below_set ?_ GE520.out) | exact HB.out))) : w.heap.size ≤ gb521)); have n5_ := Aside0.mk ((by rw [hg]; exact Nat.ne_of_lt (blk_lt (g := gb520) (o := .cells #[.int .i64 a0_0, .int .i64 a0_1] 51 (0, 0)) (by (with_reducible repeat (first | refine blk_drewN ?_ _ | refine blk_drew ?_ | refine blk_alloc ?_ _)); exact BK520.out)) : gb520 ≠ gb521)); have n6_ := Aside0.mk ((by rw [hg]; exact Nat.ne_of_gt (blk_lt (g := gb520) (o := .cells #[.int .i64 a0_0, .int .i64 a0_1] 51 (0, 0)) (by (with_reducible repeat (first | refine blk_drewN ?_ _ | refine blk_drew ?_ | refine blk_alloc ?_ _)); exact BK520.out)) : gb521 ≠ gb520)); clear BK520; clear HB; have BK520 := n0_; have HB := n1_; have BK521 := n2_; have GW521 := n3_; have GE521 := n4_; have NB520_521 := n5_; have NB521_520 := n6_; clear n0_ n1_ n2_ n3_ n4_ n5_ n6_; clear hb hbox hg; have hnb6 := NB520_521.out; have hnc6 := NB521_520.out; have hcz7_0 : w5.cell? ⟨gb520, 0, none⟩ = some (.int .i64 a0_0) := (blk_cell BK520.out 0).trans rfl; have hcz7_1 : w5.cell? ⟨gb520, 1, none⟩ = some (.int .i64 a0_1) := (blk_cell BK520.out 1).trans rfl; have hfz7_0 := blk_frozen BK520.out 0; have hfz7_1 := blk_frozen BK520.out 1; have hcz8_0 : w5.cell? ⟨gb521, 0, none⟩ = some (.int .i64 a1_0) := (blk_cell BK521.out 0).trans rfl; have hcz8_1 : w5.cell? ⟨gb521, 1, none⟩ = some (.int .i64 a1_1) := (blk_cell BK521.out 1).trans rfl; have hfz8_0 := blk_frozen BK521.out 0; have hfz8_1 := blk_frozen BK521.out 1)); go_upto_region 3 with (first | ((with_reducible refine gate_dst (N := 2) rfl ?_); refine box_event ?hg (N := 2) ?hd (cs := #[.int .i64 a0_0, .int .i64 a0_1]) (t := 51) ?hr ?_; (case hd => rfl); (case hg => rfl); (case hr => first | (go_simp; done) | (go_simp; rfl)); intro gb520 hg w4 hbox hb; have n0_ := Aside0.mk (below_step (by repeat (first | (with_reducible first | exact HB.out | apply below_alloc | apply pw_below_drewN | apply below_drew1) | exact HB.out)) hb); have n1_ := Aside0.mk (hbox); have n2_ := Aside0.mk ((by rw [hg]; exact (below_size (by repeat (first | (with_reducible first | exact HB.out | apply below_alloc | apply pw_below_drewN | apply below_drew1) | exact HB.out))) : w.heap.size ≤ gb520)); have n3_ := Aside0.mk ((by rw [hg]; exact (below_size (by repeat (first | (with_reducible first | exact HB.out | apply below_alloc | apply pw_below_drewN | apply below_drew1) | exact HB.out))) : w.heap.size ≤ gb520)); clear HB; have HB := n0_; have BK520 := n1_; have GW520 := n2_; have GE520 := n3_; clear n0_ n1_ n2_ n3_; clear hb hbox hg) | ((with_reducible refine gate_dst (N := 3) rfl ?_); refine box_event ?hg (N := 3) ?hd (cs := #[.int .i64 a1_0, .int .i64 a1_1]) (t := 51) ?hr ?_; (case hd => rfl); (case hg => rfl); (case hr => first | (go_simp; done) | (go_simp; rfl)); intro gb521 hg w5 hbox hb; have n0_ := Aside0.mk (blk_below (g := gb520) (o := .cells #[.int .i64 a0_0, .int .i64 a0_1] 51 (0, 0)) (by (with_reducible repeat (first | refine blk_drewN ?_ _ | refine blk_drew ?_ | refine blk_alloc ?_ _)); exact BK520.out) hb); have n1_ := Aside0.mk (below_step (by repeat (first | (with_reducible first | exact HB.out | apply below_alloc | apply pw_below_drewN | apply below_drew1 | refine below_set ?_ GE520.out) | exact HB.out)) hb); have n2_ := Aside0.mk (hbox); have n3_ := Aside0.mk ((by rw [hg]; exact (below_size (by repeat (first | (with_reducible first | exact HB.out | apply below_alloc | apply pw_below_drewN | apply below_drew1 | refine below_set ?_ GE520.out) | exact HB.out))) : w.heap.size ≤ gb521)); have n4_ := Aside0.mk ((by rw [hg]; exact (below_size (by repeat (first | (with_reducible first | exact HB.out | apply below_alloc | apply pw_below_drewN | apply below_drew1 | refine below_set ?_ GE520.out) | exact HB.out))) : w.heap.size ≤ gb521)); have n5_ := Aside0.mk ((by rw [hg]; exact Nat.ne_of_lt (blk_lt (g := gb520) (o := .cells #[.int .i64 a0_0, .int .i64 a0_1] 51 (0, 0)) (by (with_reducible repeat (first | refine blk_drewN ?_ _ | refine blk_drew ?_ | refine blk_alloc ?_ _)); exact BK520.out)) : gb520 ≠ gb521)); have n6_ := Aside0.mk ((by rw [hg]; exact Nat.ne_of_gt (blk_lt (g := gb520) (o := .cells #[.int .i64 a0_0, .int .i64 a0_1] 51 (0, 0)) (by (with_reducible repeat (first | refine blk_drewN ?_ _ | refine blk_drew ?_ | refine blk_alloc ?_ _)); exact BK520.out)) : gb521 ≠ gb520)); clear BK520; clear HB; have BK520 := n0_; have HB := n1_; have BK521 := n2_; have GW521 := n3_; have GE521 := n4_; have NB520_521 := n5_; have NB521_520 := n6_; clear n0_ n1_ n2_ n3_ n4_ n5_ n6_; clear hb hbox hg; have hnb6 := NB520_521.out; have hnc6 := NB521_520.out; have hcz7_0 : w5.cell? ⟨gb520, 0, none⟩ = some (.int .i64 a0_0) := (blk_cell BK520.out 0).trans rfl; have hcz7_1 : w5.cell? ⟨gb520, 1, none⟩ = some (.int .i64 a0_1) := (blk_cell BK520.out 1).trans rfl; have hfz7_0 := blk_frozen BK520.out 0; have hfz7_1 := blk_frozen BK520.out 1; have hcz8_0 : w5.cell? ⟨gb521, 0, none⟩ = some (.int .i64 a1_0) := (blk_cell BK521.out 0).trans rfl; have hcz8_1 : w5.cell? ⟨gb521, 1, none⟩ = some (.int .i64 a1_1) := (blk_cell BK521.out 1).trans rfl; have hfz8_0 := blk_frozen BK521.out 0; have hfz8_1 := blk_frozen BK521.out 1)))
  (try simp only [Act.put, List.setIfInBounds_toArray, List.set_cons_zero, List.set_cons_succ])
  go_cut [26] (fun v26 wc => ∃ (kq : Nat) (x26_2 : Bool), v26 = .bool x26_2 ∧ Aside0 (impl_letterOf.j0 kq (wrap64 ((wrap64 (2 * a0_0)) * a1_1)) (wrap64 (a1_0 * a0_1)) (wrap64 ((wrap64 (a1_0 * a0_1)) + (wrap64 (a0_1 * a1_1)))) x26_2 = some r) ∧ Aside0 (kq ≤ k) ∧ Aside0 (wc.heap[gb520]? = some (.cells #[.int .i64 a0_0, .int .i64 a0_1] 51 (0, 0))) ∧ Aside0 (wc.heap[gb521]? = some (.cells #[.int .i64 a1_0, .int .i64 a1_1] 51 (0, 0))) ∧ Aside0 (Below w.heap.size w wc))
  case first =>
    have H := HC3.out
    clear HC3
    by_cases c9 : (wrap64 ((wrap64 (2 * a0_0)) * a1_1)) = (wrap64 (a1_0 * a0_1))
    · rw [if_pos c9] at H
      have c9b0 : ((wrap64 ((wrap64 (2 * a0_0)) * a1_1)) == (wrap64 (a1_0 * a0_1))) = true := beq_iff_eq.mpr c9
      have c9b1 : ((wrap64 ((wrap64 (2 * a0_0)) * a1_1)) != (wrap64 (a1_0 * a0_1))) = false := bne_eq_false_iff_eq.mpr c9
      clear c9
      (first | rw [c9b0] | (simp only [i64_w, i32_w]; rw [c9b0]) | skip)
      have H' := Aside0.mk H
      clear H
      go_wp2
      repeat (go_quiet (fail); try go_wp2)
      go_meet
      case rel => exact ⟨_, (true), (by first | rfl | (simp; done) | (simp [*]; done)), H', ⟨by first | omega | exact Nat.le_refl _⟩, ⟨by (with_reducible repeat (first | refine blk_drewN ?_ _ | refine blk_drew ?_ | refine blk_alloc ?_ _)); exact BK520.out⟩, ⟨by (with_reducible repeat (first | refine blk_drewN ?_ _ | refine blk_drew ?_ | refine blk_alloc ?_ _)); exact BK521.out⟩, ⟨by repeat (first | (with_reducible first | exact HB.out | apply below_alloc | apply pw_below_drewN | apply below_drew1 | refine below_set ?_ GE520.out | refine below_set ?_ GE521.out) | exact HB.out)⟩⟩
    · rw [if_neg c9] at H
      have c9b0 : ((wrap64 ((wrap64 (2 * a0_0)) * a1_1)) == (wrap64 (a1_0 * a0_1))) = false := beq_eq_false_iff_ne.mpr c9
      have c9b1 : ((wrap64 ((wrap64 (2 * a0_0)) * a1_1)) != (wrap64 (a1_0 * a0_1))) = true := bne_iff_ne.mpr c9
      (first | rw [c9b0] | (simp only [i64_w, i32_w]; rw [c9b0]) | skip)
      have H' := Aside0.mk H
      clear H
      go_wp2
      repeat (go_quiet (fail); try go_wp2)
      go_meet
      case rel => exact ⟨_, (((wrap64 ((wrap64 (2 * a0_0)) * a1_1)) == (wrap64 ((wrap64 (a1_0 * a0_1)) + (wrap64 (a0_1 * a1_1)))))), (by first | rfl | (simp; done) | (simp [*]; done)), H', ⟨by first | omega | exact Nat.le_refl _⟩, ⟨by (with_reducible repeat (first | refine blk_drewN ?_ _ | refine blk_drew ?_ | refine blk_alloc ?_ _)); exact BK520.out⟩, ⟨by (with_reducible repeat (first | refine blk_drewN ?_ _ | refine blk_drew ?_ | refine blk_alloc ?_ _)); exact BK521.out⟩, ⟨by repeat (first | (with_reducible first | exact HB.out | apply below_alloc | apply pw_below_drewN | apply below_drew1 | refine below_set ?_ GE520.out | refine below_set ?_ GE521.out) | exact HB.out)⟩⟩
  case rest =>
    clear HC3
    try clear p2
    try clear c6
    try clear p6
    try clear c9
    try clear c9b0
    try clear c9b1
    try clear hcz7_0
    try clear hcz7_1
    try clear hcz8_0
    try clear hcz8_1
    try clear hfz7_0
    try clear hfz7_1
    try clear hfz8_0
    try clear hfz8_1
    obtain ⟨kq, x26_2, rfl, HA, HJ2, BK520, BK521, HB⟩ := hcut
    cases kq with
    | zero => exact absurd HA.out (by simp [impl_letterOf.j0])
    | succ kj2 =>
      have H := HA.out
      clear HA
      simp only [impl_letterOf.j0] at H
      by_cases c10 : x26_2 = true
      · subst c10
        have H1 : (some 42) = some r := by rw [if_pos rfl] at H; exact H
        clear H
        have H := H1
        clear H1
        obtain rfl := Option.some.inj H
        go_wp2
        repeat (go_quiet (fail); try go_wp2)
        go_ret
        exact ⟨by first | rfl | (simp [errW_none, errW_some] <;> rfl) | (simp [*, errW_none, errW_some] <;> rfl), by repeat (first | (with_reducible first | exact HB.out | apply below_alloc | apply pw_below_drewN | apply below_drew1 | refine below_set ?_ GE520.out | refine below_set ?_ GE521.out) | exact HB.out)⟩
      · replace c10 := Bool.eq_false_iff.mpr c10
        subst c10
        have H1 : (if (wrap64 (a1_0 * a0_1)) < (wrap64 ((wrap64 (2 * a0_0)) * a1_1)) then (if (wrap64 ((wrap64 (2 * a0_0)) * a1_1)) < (wrap64 ((wrap64 (a1_0 * a0_1)) + (wrap64 (a0_1 * a1_1)))) then (some 49) else (some 48)) else (some 48)) = some r := by rw [if_neg (show ¬ (false = true) by decide)] at H; exact H
        clear H
        have H := H1
        clear H1
        by_cases c11 : (wrap64 (a1_0 * a0_1)) < (wrap64 ((wrap64 (2 * a0_0)) * a1_1))
        · rw [if_pos c11] at H
          have c11b0 : decide ((wrap64 (a1_0 * a0_1)) < (wrap64 ((wrap64 (2 * a0_0)) * a1_1))) = true := decide_eq_true c11
          clear c11
          by_cases c12 : (wrap64 ((wrap64 (2 * a0_0)) * a1_1)) < (wrap64 ((wrap64 (a1_0 * a0_1)) + (wrap64 (a0_1 * a1_1))))
          · rw [if_pos c12] at H
            have c12b0 : decide ((wrap64 ((wrap64 (2 * a0_0)) * a1_1)) < (wrap64 ((wrap64 (a1_0 * a0_1)) + (wrap64 (a0_1 * a1_1))))) = true := decide_eq_true c12
            clear c12
            obtain rfl := Option.some.inj H
            go_wp2
            repeat (go_quiet (fail); try go_wp2)
            go_ret
            exact ⟨by first | rfl | (simp [errW_none, errW_some] <;> rfl) | (simp [*, errW_none, errW_some] <;> rfl), by repeat (first | (with_reducible first | exact HB.out | apply below_alloc | apply pw_below_drewN | apply below_drew1 | refine below_set ?_ GE520.out | refine below_set ?_ GE521.out) | exact HB.out)⟩
          · rw [if_neg c12] at H
            have c12b0 : decide ((wrap64 ((wrap64 (2 * a0_0)) * a1_1)) < (wrap64 ((wrap64 (a1_0 * a0_1)) + (wrap64 (a0_1 * a1_1))))) = false := decide_eq_false c12
            clear c12
            obtain rfl := Option.some.inj H
            go_wp2
            repeat (go_quiet (fail); try go_wp2)
            go_ret
            exact ⟨by first | rfl | (simp [errW_none, errW_some] <;> rfl) | (simp [*, errW_none, errW_some] <;> rfl), by repeat (first | (with_reducible first | exact HB.out | apply below_alloc | apply pw_below_drewN | apply below_drew1 | refine below_set ?_ GE520.out | refine below_set ?_ GE521.out) | exact HB.out)⟩
        · rw [if_neg c11] at H
          have c11b0 : decide ((wrap64 (a1_0 * a0_1)) < (wrap64 ((wrap64 (2 * a0_0)) * a1_1))) = false := decide_eq_false c11
          clear c11
          obtain rfl := Option.some.inj H
          go_wp2
          repeat (go_quiet (fail); try go_wp2)
          go_ret
          exact ⟨by first | rfl | (simp [errW_none, errW_some] <;> rfl) | (simp [*, errW_none, errW_some] <;> rfl), by repeat (first | (with_reducible first | exact HB.out | apply below_alloc | apply pw_below_drewN | apply below_drew1 | refine below_set ?_ GE520.out | refine below_set ?_ GE521.out) | exact HB.out)⟩

end Go.Proofs.Ytngffoffjiofbaa.Q
end
section
-- By wip/hyb/hyb.py of this session, over the kit's print.py
namespace Go.Proofs.Ytngffoffjiofbaa.Q
open Go.Proofs.YtngffoffjiofbaaW.Ext
open Go.RowKit Go.Proofs.YtngffoffjiofbaaW.PrintWords Go.Proofs.YtngffoffjiofbaaW.PrintLast Go.Proofs.YtngffoffjiofbaaW.PrintMore
attribute [local go_sem] max2_int min2_int max_two min_two max_three min_three max_four min_four   -- for this text's walks alone
set_option linter.unusedVariables false
set_option linter.unusedSimpArgs false

/-! ### impl_isSeparated: function 69 -/
section
/-- Are the letters both no stars, and two. -/
def apartB (la lb : Int) : Bool := la != lb && la != 42 && lb != 42
set_option maxHeartbeats 8000000 in
set_option maxRecDepth 100000 in
theorem impl_isSeparated.calls (k gp : Nat) (Ao A : Option Addr) (co c : Nat) (vp : Value) (orb : List S51) (i j ji jj la lb : Int) (w : World)
    (hb : w.heap[gp]? = some (.cells #[.slice Ao orb.length co, vp] 87 (0, 0))) (ho : Kd.C k51 w Ao orb.length orb) (hr : Kd.C (Kd.int .i64) w A 2 [i, j])
    (hji : IntKind.i64.wrap (i - 1) = ji) (hjj : IntKind.i64.wrap (j - 1) = jj) (i0 : 0 ≤ ji) (i1 : ji < (orb.length : Int)) (j0 : 0 ≤ jj) (j1 : jj < (orb.length : Int))
    (h1 : impl_letterOf.f k (rd_T51 orb ji).f0 (rd_T51 orb ji).f1 (rd_T51 orb 0).f0 (rd_T51 orb 0).f1 = some la) (h2 : impl_letterOf.f k (rd_T51 orb jj).f0 (rd_T51 orb jj).f1 (rd_T51 orb 0).f0 (rd_T51 orb 0).f1 = some lb) :
    Calls Try.prog 69 #[.pointer (some ⟨gp, 0, none⟩), .slice A 2 c] w fun e w' => e = .returned (.bool (apartB la lb)) ∧ Below w.heap.size w w' := by
  have hu51 := Try.underlying51
  have HB := Aside0.mk (Below.refl w.heap.size w)
  have A1 := Aside0.mk h1
  have A2 := Aside0.mk h2
  clear h1 h2
  have z1 : (0 : Int) < (orb.length : Int) := by omega
  obtain ⟨ar, er, cr0⟩ := Kd.at_int hr 0 (by omega) (by simp)
  cases er
  obtain ⟨ar2, er, cr1⟩ := Kd.at_int hr 1 (by omega) (by simp)
  obtain rfl : ar = ar2 := (by injection er)
  clear er
  obtain ⟨ao, eo, ci0, ci1⟩ := at_T51 ho ji i0 i1
  cases eo
  obtain ⟨ao2, eo, cj0, cj1⟩ := at_T51 ho jj j0 j1
  obtain rfl : ao = ao2 := (by injection eo)
  clear eo
  obtain ⟨ao3, eo, co0, co1⟩ := at_T51 ho 0 (by omega) z1
  obtain rfl : ao = ao3 := (by injection eo)
  clear eo
  replace cr0 : w.cell? ar = some (.int .i64 i) := by first | exact cr0 | (rw [show ((0 : Int)).toNat = 0 from rfl, Addr.add_zero'] at cr0; exact cr0)
  replace cr1 : w.cell? ⟨ar.block, ar.off + 1, none⟩ = some (.int .i64 j) := by first | exact cr1 | (simp only [show (1 : Int).toNat = 1 from rfl, Nat.reduceMul, Nat.reduceEqDiff, Go.Addr.add, ↓reduceIte] at cr1; exact cr1)
  replace co0 : w.cell? ao = some (.int .i64 (rd_T51 orb 0).f0) := by first | exact co0 | (rw [show ((0 : Int)).toNat = 0 from rfl, Nat.zero_mul, Addr.add_zero'] at co0; exact co0)
  replace co1 : w.cell? ⟨ao.block, ao.off + 1, none⟩ = some (.int .i64 (rd_T51 orb 0).f1) := by first | exact co1 | (rw [show ((0 : Int)).toNat = 0 from rfl, Nat.zero_mul, Addr.add_zero'] at co1; exact co1)
  have cs0 : w.cell? ⟨gp, 0, none⟩ = some (.slice (some ao) orb.length co) := (blk_cell hb 0).trans rfl
  clear hb ho hr
  have p1 := eq_true i0
  have p2 := eq_true i1
  have p3 := eq_true j0
  have p4 := eq_true j1
  have p5 := eq_true z1
  have p6 : (0 < orb.length) = True := eq_true (by omega)
  have p1b : decide (0 ≤ ji) = true := decide_eq_true i0
  have p2b : decide (ji < (orb.length : Int)) = true := decide_eq_true i1
  have p3b : decide (0 ≤ jj) = true := decide_eq_true j0
  have p4b : decide (jj < (orb.length : Int)) = true := decide_eq_true j1
  clear i0 i1 j0 j1 z1
  go_enter Try.func69, Try.ntmps69
  go_wp2
  refine start_ (n := 36) (S := fun w' => w'.cell? ⟨gp, 0, none⟩ = some (.slice (some ao) orb.length co) ∧ w'.cell? ar = some (.int .i64 i) ∧ w'.cell? ⟨ar.block, ar.off + 1, none⟩ = some (.int .i64 j) ∧ w'.cell? (ao.add (ji.toNat * 2)) = some (.int .i64 (rd_T51 orb ji).f0) ∧ w'.cell? ⟨(ao.add (ji.toNat * 2)).block, (ao.add (ji.toNat * 2)).off + 1, none⟩ = some (.int .i64 (rd_T51 orb ji).f1) ∧ w'.cell? (ao.add (jj.toNat * 2)) = some (.int .i64 (rd_T51 orb jj).f0) ∧ w'.cell? ⟨(ao.add (jj.toNat * 2)).block, (ao.add (jj.toNat * 2)).off + 1, none⟩ = some (.int .i64 (rd_T51 orb jj).f1) ∧ w'.cell? ao = some (.int .i64 (rd_T51 orb 0).f0) ∧ w'.cell? ⟨ao.block, ao.off + 1, none⟩ = some (.int .i64 (rd_T51 orb 0).f1)) (ds := []) #[false, false, false, false, false, false, false, false, false, false, false, false, false, false, false, false, false, false, false, false, false, false, false, false, false, false, false, false, false, false, false, false, false, false, false, false] (by kernel_rfl) rfl rfl ⟨cs0, cr0, cr1, ci0, ci1, cj0, cj1, co0, co1⟩ (fun hHeld => ?_)
  refine pure_ (i := 0) (N := some 7) (v := ?_) (a' := ?_) #[true, false, false, false, false, false, false, false, false, false, false, false, false, false, false, false, false, false, false, false, false, false, false, false, false, false, false, false, false, false, false, false, false, false, false, false] rfl rfl (by kernel_rfl) (fun _ _ _ h => h) (Or.inl ⟨by rfl, ?_⟩) ?_ ?_
  rotate_left
  · intro w'
    go_simp
    with_reducible rfl
  rotate_left
  · simp only [Act.put, List.setIfInBounds_toArray, List.set_cons_zero, List.set_cons_succ, i64_w, i32_w]
    rfl
  refine pure_ (i := 1) (N := some 8) (v := ?_) (a' := ?_) #[true, true, false, false, false, false, false, false, false, false, false, false, false, false, false, false, false, false, false, false, false, false, false, false, false, false, false, false, false, false, false, false, false, false, false, false] rfl rfl (by kernel_rfl) (fun _ _ _ h => h) (Or.inl ⟨by rfl, ?_⟩) ?_ ?_
  rotate_left
  · intro w'
    go_simp
    with_reducible rfl
  rotate_left
  · simp only [Act.put, List.setIfInBounds_toArray, List.set_cons_zero, List.set_cons_succ, i64_w, i32_w]
    rfl
  refine pure_ (i := 2) (N := some 9) (v := ?_) (a' := ?_) #[true, true, true, false, false, false, false, false, false, false, false, false, false, false, false, false, false, false, false, false, false, false, false, false, false, false, false, false, false, false, false, false, false, false, false, false] rfl rfl (by kernel_rfl) (fun _ _ _ h => h) (Or.inl ⟨by rfl, ?_⟩) ?_ ?_
  rotate_left
  · intro w'
    go_simp
    with_reducible rfl
  rotate_left
  · simp only [Act.put, List.setIfInBounds_toArray, List.set_cons_zero, List.set_cons_succ, i64_w, i32_w]
    rfl
  refine pure_ (i := 4) (N := some 11) (v := ?_) (a' := ?_) #[true, true, true, false, true, false, false, false, false, false, false, false, false, false, false, false, false, false, false, false, false, false, false, false, false, false, false, false, false, false, false, false, false, false, false, false] rfl rfl (by kernel_rfl) (fun _ _ _ h => h) (Or.inl ⟨by rfl, ?_⟩) ?_ ?_
  rotate_left
  · intro w'
    go_simp
    with_reducible rfl
  rotate_left
  · simp only [Act.put, List.setIfInBounds_toArray, List.set_cons_zero, List.set_cons_succ, i64_w, i32_w]
    rfl
  refine pure_ (i := 5) (N := some 12) (v := ?_) (a' := ?_) #[true, true, true, false, true, true, false, false, false, false, false, false, false, false, false, false, false, false, false, false, false, false, false, false, false, false, false, false, false, false, false, false, false, false, false, false] rfl rfl (by kernel_rfl) (fun _ _ _ h => h) (Or.inl ⟨by rfl, ?_⟩) ?_ ?_
  rotate_left
  · intro w'
    go_simp
    with_reducible rfl
  rotate_left
  · simp only [Act.put, List.setIfInBounds_toArray, List.set_cons_zero, List.set_cons_succ, i64_w, i32_w]
    rfl
  refine pure_ (i := 10) (N := some 17) (v := ?_) (a' := ?_) #[true, true, true, false, true, true, false, false, false, false, true, false, false, false, false, false, false, false, false, false, false, false, false, false, false, false, false, false, false, false, false, false, false, false, false, false] rfl rfl (by kernel_rfl) (fun _ _ _ h => h) (Or.inl ⟨by rfl, ?_⟩) ?_ ?_
  rotate_left
  · intro w'
    go_simp
    with_reducible rfl
  rotate_left
  · simp only [Act.put, List.setIfInBounds_toArray, List.set_cons_zero, List.set_cons_succ, i64_w, i32_w]
    rfl
  refine pure_ (i := 11) (N := some 18) (v := ?_) (a' := ?_) #[true, true, true, false, true, true, false, false, false, false, true, true, false, false, false, false, false, false, false, false, false, false, false, false, false, false, false, false, false, false, false, false, false, false, false, false] rfl rfl (by kernel_rfl) (fun _ _ _ h => h) (Or.inl ⟨by rfl, ?_⟩) ?_ ?_
  rotate_left
  · intro w'
    go_simp
    with_reducible rfl
  rotate_left
  · simp only [Act.put, List.setIfInBounds_toArray, List.set_cons_zero, List.set_cons_succ, i64_w, i32_w]
    rfl
  refine pure_ (i := 12) (N := some 19) (v := ?_) (a' := ?_) #[true, true, true, false, true, true, false, false, false, false, true, true, true, false, false, false, false, false, false, false, false, false, false, false, false, false, false, false, false, false, false, false, false, false, false, false] rfl rfl (by kernel_rfl) (fun _ _ _ h => h) (Or.inl ⟨by rfl, ?_⟩) ?_ ?_
  rotate_left
  · intro w'
    go_simp
    with_reducible rfl
  rotate_left
  · simp only [Act.put, List.setIfInBounds_toArray, List.set_cons_zero, List.set_cons_succ, i64_w, i32_w]
    rfl
  refine pure_ (i := 17) (N := some 24) (v := ?_) (a' := ?_) #[true, true, true, false, true, true, false, false, false, false, true, true, true, false, false, false, false, true, false, false, false, false, false, false, false, false, false, false, false, false, false, false, false, false, false, false] rfl rfl (by kernel_rfl) (fun _ _ _ h => h) (Or.inl ⟨by rfl, ?_⟩) ?_ ?_
  rotate_left
  · intro w'
    go_simp
    with_reducible rfl
  rotate_left
  · simp only [Act.put, List.setIfInBounds_toArray, List.set_cons_zero, List.set_cons_succ, i64_w, i32_w]
    rfl
  refine pure_ (i := 18) (N := some 25) (v := ?_) (a' := ?_) #[true, true, true, false, true, true, false, false, false, false, true, true, true, false, false, false, false, true, true, false, false, false, false, false, false, false, false, false, false, false, false, false, false, false, false, false] rfl rfl (by kernel_rfl) (fun _ _ _ h => h) (Or.inl ⟨by rfl, ?_⟩) ?_ ?_
  rotate_left
  · intro w'
    go_simp
    with_reducible rfl
  rotate_left
  · simp only [Act.put, List.setIfInBounds_toArray, List.set_cons_zero, List.set_cons_succ, i64_w, i32_w]
    rfl
  refine pure_ (i := 19) (N := some 26) (v := ?_) (a' := ?_) #[true, true, true, false, true, true, false, false, false, false, true, true, true, false, false, false, false, true, true, true, false, false, false, false, false, false, false, false, false, false, false, false, false, false, false, false] rfl rfl (by kernel_rfl) (fun _ _ _ h => h) (Or.inl ⟨by rfl, ?_⟩) ?_ ?_
  rotate_left
  · intro w'
    go_simp
    with_reducible rfl
  rotate_left
  · simp only [Act.put, List.setIfInBounds_toArray, List.set_cons_zero, List.set_cons_succ, i64_w, i32_w]
    rfl
  refine pure_ (i := 21) (N := some 28) (v := ?_) (a' := ?_) #[true, true, true, false, true, true, false, false, false, false, true, true, true, false, false, false, false, true, true, true, false, true, false, false, false, false, false, false, false, false, false, false, false, false, false, false] rfl rfl (by kernel_rfl) (fun _ _ _ h => h) (Or.inl ⟨by rfl, ?_⟩) ?_ ?_
  rotate_left
  · intro w'
    go_simp
    with_reducible rfl
  rotate_left
  · simp only [Act.put, List.setIfInBounds_toArray, List.set_cons_zero, List.set_cons_succ, i64_w, i32_w]
    rfl
  refine pure_ (i := 22) (N := some 29) (v := ?_) (a' := ?_) #[true, true, true, false, true, true, false, false, false, false, true, true, true, false, false, false, false, true, true, true, false, true, true, false, false, false, false, false, false, false, false, false, false, false, false, false] rfl rfl (by kernel_rfl) (fun _ _ _ h => h) (Or.inl ⟨by rfl, ?_⟩) ?_ ?_
  rotate_left
  · intro w'
    go_simp
    with_reducible rfl
  rotate_left
  · simp only [Act.put, List.setIfInBounds_toArray, List.set_cons_zero, List.set_cons_succ, i64_w, i32_w]
    rfl
  refine pure_ (i := 27) (N := some 34) (v := ?_) (a' := ?_) #[true, true, true, false, true, true, false, false, false, false, true, true, true, false, false, false, false, true, true, true, false, true, true, false, false, false, false, true, false, false, false, false, false, false, false, false] rfl rfl (by kernel_rfl) (fun _ _ _ h => h) (Or.inl ⟨by rfl, ?_⟩) ?_ ?_
  rotate_left
  · intro w'
    go_simp
    with_reducible rfl
  rotate_left
  · simp only [Act.put, List.setIfInBounds_toArray, List.set_cons_zero, List.set_cons_succ, i64_w, i32_w]
    rfl
  refine pure_ (i := 28) (N := some 35) (v := ?_) (a' := ?_) #[true, true, true, false, true, true, false, false, false, false, true, true, true, false, false, false, false, true, true, true, false, true, true, false, false, false, false, true, true, false, false, false, false, false, false, false] rfl rfl (by kernel_rfl) (fun _ _ _ h => h) (Or.inl ⟨by rfl, ?_⟩) ?_ ?_
  rotate_left
  · intro w'
    go_simp
    with_reducible rfl
  rotate_left
  · simp only [Act.put, List.setIfInBounds_toArray, List.set_cons_zero, List.set_cons_succ, i64_w, i32_w]
    rfl
  refine pure_ (i := 29) (N := some 36) (v := ?_) (a' := ?_) #[true, true, true, false, true, true, false, false, false, false, true, true, true, false, false, false, false, true, true, true, false, true, true, false, false, false, false, true, true, true, false, false, false, false, false, false] rfl rfl (by kernel_rfl) (fun _ _ _ h => h) (Or.inl ⟨by rfl, ?_⟩) ?_ ?_
  rotate_left
  · intro w'
    go_simp
    with_reducible rfl
  rotate_left
  · simp only [Act.put, List.setIfInBounds_toArray, List.set_cons_zero, List.set_cons_succ, i64_w, i32_w]
    rfl
  refine take_ (i := 3) (N := some 10) (v := ?_) (a' := ?_) #[true, true, true, true, true, true, false, false, false, false, true, true, true, false, false, false, false, true, true, true, false, true, true, false, false, false, false, true, true, true, false, false, false, false, false, false] rfl rfl (by kernel_rfl) (fun _ _ _ h => h) (Or.inl ⟨by rfl, ?_⟩) hHeld ?_ ?_
  rotate_left
  · rintro w' ⟨s0, s1, s2, s3, s4, s5, s6, s7, s8⟩
    go_simp
    with_reducible rfl
  rotate_left
  · simp only [Act.put, List.setIfInBounds_toArray, List.set_cons_zero, List.set_cons_succ, i64_w, i32_w]
    rfl
  refine take_ (i := 6) (N := some 13) (v := ?_) (a' := ?_) #[true, true, true, true, true, true, true, false, false, false, true, true, true, false, false, false, false, true, true, true, false, true, true, false, false, false, false, true, true, true, false, false, false, false, false, false] rfl rfl (by kernel_rfl) (fun _ _ _ h => h) (Or.inl ⟨by rfl, ?_⟩) hHeld ?_ ?_
  rotate_left
  · rintro w' ⟨s0, s1, s2, s3, s4, s5, s6, s7, s8⟩
    go_simp
    with_reducible rfl
  rotate_left
  · simp only [Act.put, List.setIfInBounds_toArray, List.set_cons_zero, List.set_cons_succ, i64_w, i32_w]
    rfl
  refine pure_ (i := 7) (N := some 14) (v := ?_) (a' := ?_) #[true, true, true, true, true, true, true, true, false, false, true, true, true, false, false, false, false, true, true, true, false, true, true, false, false, false, false, true, true, true, false, false, false, false, false, false] rfl rfl (by kernel_rfl) (fun _ _ _ h => h) (Or.inl ⟨by rfl, ?_⟩) ?_ ?_
  rotate_left
  · intro w'
    go_simp
    with_reducible rfl
  rotate_left
  · simp only [Act.put, List.setIfInBounds_toArray, List.set_cons_zero, List.set_cons_succ, i64_w, i32_w]
    rfl
  refine pure_ (i := 8) (N := some 15) (v := ?_) (a' := ?_) #[true, true, true, true, true, true, true, true, true, false, true, true, true, false, false, false, false, true, true, true, false, true, true, false, false, false, false, true, true, true, false, false, false, false, false, false] rfl rfl (by kernel_rfl) (fun _ _ _ h => h) (Or.inl ⟨by rfl, ?_⟩) ?_ ?_
  rotate_left
  · intro w'
    go_simp
    with_reducible rfl
  rotate_left
  · simp only [Act.put, List.setIfInBounds_toArray, List.set_cons_zero, List.set_cons_succ, i64_w, i32_w]
    rfl
  refine take_ (i := 9) (N := some 16) (v := ?_) (a' := ?_) #[true, true, true, true, true, true, true, true, true, true, true, true, true, false, false, false, false, true, true, true, false, true, true, false, false, false, false, true, true, true, false, false, false, false, false, false] rfl rfl (by kernel_rfl) (fun _ _ _ h => h) (Or.inl ⟨by rfl, ?_⟩) hHeld ?_ ?_
  rotate_left
  · rintro w' ⟨s0, s1, s2, s3, s4, s5, s6, s7, s8⟩
    go_simp
    with_reducible rfl
  rotate_left
  · simp only [Act.put, List.setIfInBounds_toArray, List.set_cons_zero, List.set_cons_succ, i64_w, i32_w]
    rfl
  refine take_ (i := 13) (N := some 20) (v := ?_) (a' := ?_) #[true, true, true, true, true, true, true, true, true, true, true, true, true, true, false, false, false, true, true, true, false, true, true, false, false, false, false, true, true, true, false, false, false, false, false, false] rfl rfl (by kernel_rfl) (fun _ _ _ h => h) (Or.inl ⟨by rfl, ?_⟩) hHeld ?_ ?_
  rotate_left
  · rintro w' ⟨s0, s1, s2, s3, s4, s5, s6, s7, s8⟩
    go_simp
    with_reducible rfl
  rotate_left
  · simp only [Act.put, List.setIfInBounds_toArray, List.set_cons_zero, List.set_cons_succ, i64_w, i32_w]
    rfl
  refine pure_ (i := 14) (N := some 21) (v := ?_) (a' := ?_) #[true, true, true, true, true, true, true, true, true, true, true, true, true, true, true, false, false, true, true, true, false, true, true, false, false, false, false, true, true, true, false, false, false, false, false, false] rfl rfl (by kernel_rfl) (fun _ _ _ h => h) (Or.inl ⟨by rfl, ?_⟩) ?_ ?_
  rotate_left
  · intro w'
    go_simp
    with_reducible rfl
  rotate_left
  · simp only [Act.put, List.setIfInBounds_toArray, List.set_cons_zero, List.set_cons_succ, i64_w, i32_w]
    rfl
  refine take_ (i := 15) (N := some 22) (v := ?_) (a' := ?_) #[true, true, true, true, true, true, true, true, true, true, true, true, true, true, true, true, false, true, true, true, false, true, true, false, false, false, false, true, true, true, false, false, false, false, false, false] rfl rfl (by kernel_rfl) (fun _ _ _ h => h) (Or.inl ⟨by rfl, ?_⟩) hHeld ?_ ?_
  rotate_left
  · rintro w' ⟨s0, s1, s2, s3, s4, s5, s6, s7, s8⟩
    go_simp
    with_reducible rfl
  rotate_left
  · simp only [Act.put, List.setIfInBounds_toArray, List.set_cons_zero, List.set_cons_succ, i64_w, i32_w]
    rfl
  refine take_ (i := 20) (N := some 27) (v := ?_) (a' := ?_) #[true, true, true, true, true, true, true, true, true, true, true, true, true, true, true, true, false, true, true, true, true, true, true, false, false, false, false, true, true, true, false, false, false, false, false, false] rfl rfl (by kernel_rfl) (fun _ _ _ h => h) (Or.inl ⟨by rfl, ?_⟩) hHeld ?_ ?_
  rotate_left
  · rintro w' ⟨s0, s1, s2, s3, s4, s5, s6, s7, s8⟩
    go_simp
    with_reducible rfl
  rotate_left
  · simp only [Act.put, List.setIfInBounds_toArray, List.set_cons_zero, List.set_cons_succ, i64_w, i32_w]
    rfl
  refine take_ (i := 23) (N := some 30) (v := ?_) (a' := ?_) #[true, true, true, true, true, true, true, true, true, true, true, true, true, true, true, true, false, true, true, true, true, true, true, true, false, false, false, true, true, true, false, false, false, false, false, false] rfl rfl (by kernel_rfl) (fun _ _ _ h => h) (Or.inl ⟨by rfl, ?_⟩) hHeld ?_ ?_
  rotate_left
  · rintro w' ⟨s0, s1, s2, s3, s4, s5, s6, s7, s8⟩
    go_simp
    with_reducible rfl
  rotate_left
  · simp only [Act.put, List.setIfInBounds_toArray, List.set_cons_zero, List.set_cons_succ, i64_w, i32_w]
    rfl
  refine pure_ (i := 24) (N := some 31) (v := ?_) (a' := ?_) #[true, true, true, true, true, true, true, true, true, true, true, true, true, true, true, true, false, true, true, true, true, true, true, true, true, false, false, true, true, true, false, false, false, false, false, false] rfl rfl (by kernel_rfl) (fun _ _ _ h => h) (Or.inl ⟨by rfl, ?_⟩) ?_ ?_
  rotate_left
  · intro w'
    go_simp
    with_reducible rfl
  rotate_left
  · simp only [Act.put, List.setIfInBounds_toArray, List.set_cons_zero, List.set_cons_succ, i64_w, i32_w]
    rfl
  refine pure_ (i := 25) (N := some 32) (v := ?_) (a' := ?_) #[true, true, true, true, true, true, true, true, true, true, true, true, true, true, true, true, false, true, true, true, true, true, true, true, true, true, false, true, true, true, false, false, false, false, false, false] rfl rfl (by kernel_rfl) (fun _ _ _ h => h) (Or.inl ⟨by rfl, ?_⟩) ?_ ?_
  rotate_left
  · intro w'
    go_simp
    with_reducible rfl
  rotate_left
  · simp only [Act.put, List.setIfInBounds_toArray, List.set_cons_zero, List.set_cons_succ, i64_w, i32_w]
    rfl
  refine take_ (i := 26) (N := some 33) (v := ?_) (a' := ?_) #[true, true, true, true, true, true, true, true, true, true, true, true, true, true, true, true, false, true, true, true, true, true, true, true, true, true, true, true, true, true, false, false, false, false, false, false] rfl rfl (by kernel_rfl) (fun _ _ _ h => h) (Or.inl ⟨by rfl, ?_⟩) hHeld ?_ ?_
  rotate_left
  · rintro w' ⟨s0, s1, s2, s3, s4, s5, s6, s7, s8⟩
    go_simp
    with_reducible rfl
  rotate_left
  · simp only [Act.put, List.setIfInBounds_toArray, List.set_cons_zero, List.set_cons_succ, i64_w, i32_w]
    rfl
  refine take_ (i := 30) (N := some 37) (v := ?_) (a' := ?_) #[true, true, true, true, true, true, true, true, true, true, true, true, true, true, true, true, false, true, true, true, true, true, true, true, true, true, true, true, true, true, true, false, false, false, false, false] rfl rfl (by kernel_rfl) (fun _ _ _ h => h) (Or.inl ⟨by rfl, ?_⟩) hHeld ?_ ?_
  rotate_left
  · rintro w' ⟨s0, s1, s2, s3, s4, s5, s6, s7, s8⟩
    go_simp
    with_reducible rfl
  rotate_left
  · simp only [Act.put, List.setIfInBounds_toArray, List.set_cons_zero, List.set_cons_succ, i64_w, i32_w]
    rfl
  refine pure_ (i := 31) (N := some 38) (v := ?_) (a' := ?_) #[true, true, true, true, true, true, true, true, true, true, true, true, true, true, true, true, false, true, true, true, true, true, true, true, true, true, true, true, true, true, true, true, false, false, false, false] rfl rfl (by kernel_rfl) (fun _ _ _ h => h) (Or.inl ⟨by rfl, ?_⟩) ?_ ?_
  rotate_left
  · intro w'
    go_simp
    with_reducible rfl
  rotate_left
  · simp only [Act.put, List.setIfInBounds_toArray, List.set_cons_zero, List.set_cons_succ, i64_w, i32_w]
    rfl
  refine take_ (i := 32) (N := some 39) (v := ?_) (a' := ?_) #[true, true, true, true, true, true, true, true, true, true, true, true, true, true, true, true, false, true, true, true, true, true, true, true, true, true, true, true, true, true, true, true, true, false, false, false] rfl rfl (by kernel_rfl) (fun _ _ _ h => h) (Or.inl ⟨by rfl, ?_⟩) hHeld ?_ ?_
  rotate_left
  · rintro w' ⟨s0, s1, s2, s3, s4, s5, s6, s7, s8⟩
    go_simp
    with_reducible rfl
  rotate_left
  · simp only [Act.put, List.setIfInBounds_toArray, List.set_cons_zero, List.set_cons_succ, i64_w, i32_w]
    rfl
  refine one_ (i := 16) (N := some 23) #[true, true, true, true, true, true, true, true, true, true, true, true, true, true, true, true, true, true, true, true, true, true, true, true, true, true, true, true, true, true, true, true, true, false, false, false] rfl rfl (by kernel_rfl) (by decide) (fun K hK => ?_)
  refine goes_ Try.func97 (by kernel_rfl) rfl #[.agg #[.int .i64 (rd_T51 orb ji).f0, .int .i64 (rd_T51 orb ji).f1], .agg #[.int .i64 (rd_T51 orb 0).f0, .int .i64 (rd_T51 orb 0).f1]] (by rfl) rfl rfl (by simp only [List.map_toArray, List.map_cons, List.map_nil]; rfl) ?_
  with_reducible refine (impl_letterOf.calls k _ _ _ _ la _ A1.out).mono ?_
  rintro e wB ⟨rfl, hb⟩
  refine ⟨_, rfl, ?_⟩
  have hc_ := hHeld
  clear hHeld
  have hHeld := hc_
  clear hc_
  replace HB := bs HB hb
  refine hK.out _ _ ⟨cell_on hHeld.1 hb, cell_on hHeld.2.1 hb, cell_on hHeld.2.2.1 hb, cell_on hHeld.2.2.2.1 hb, cell_on hHeld.2.2.2.2.1 hb, cell_on hHeld.2.2.2.2.2.1 hb, cell_on hHeld.2.2.2.2.2.2.1 hb, cell_on hHeld.2.2.2.2.2.2.2.1 hb, cell_on hHeld.2.2.2.2.2.2.2.2 hb⟩ (fun hHeld => ?_)
  clear hK K
  refine norm_ (a' := ?_) ?_ ?_
  rotate_left
  · show Act.put _ (some 23) _ = _
    simp only [Act.put, List.setIfInBounds_toArray, List.set_cons_zero, List.set_cons_succ, i64_w, i32_w]
    rfl
  refine one_ (i := 33) (N := some 40) #[true, true, true, true, true, true, true, true, true, true, true, true, true, true, true, true, true, true, true, true, true, true, true, true, true, true, true, true, true, true, true, true, true, true, false, false] rfl rfl (by kernel_rfl) (by decide) (fun K hK => ?_)
  refine goes_ Try.func97 (by kernel_rfl) rfl #[.agg #[.int .i64 (rd_T51 orb jj).f0, .int .i64 (rd_T51 orb jj).f1], .agg #[.int .i64 (rd_T51 orb 0).f0, .int .i64 (rd_T51 orb 0).f1]] (by rfl) rfl rfl (by simp only [List.map_toArray, List.map_cons, List.map_nil]; rfl) ?_
  with_reducible refine (impl_letterOf.calls k _ _ _ _ lb _ A2.out).mono ?_
  rintro e wB ⟨rfl, hb⟩
  refine ⟨_, rfl, ?_⟩
  have hc_ := hHeld
  clear hHeld
  have hHeld := hc_
  clear hc_
  replace HB := bs HB hb
  refine hK.out _ _ ⟨cell_on hHeld.1 hb, cell_on hHeld.2.1 hb, cell_on hHeld.2.2.1 hb, cell_on hHeld.2.2.2.1 hb, cell_on hHeld.2.2.2.2.1 hb, cell_on hHeld.2.2.2.2.2.1 hb, cell_on hHeld.2.2.2.2.2.2.1 hb, cell_on hHeld.2.2.2.2.2.2.2.1 hb, cell_on hHeld.2.2.2.2.2.2.2.2 hb⟩ (fun hHeld => ?_)
  clear hK K
  refine norm_ (a' := ?_) ?_ ?_
  rotate_left
  · show Act.put _ (some 40) _ = _
    simp only [Act.put, List.setIfInBounds_toArray, List.set_cons_zero, List.set_cons_succ, i64_w, i32_w]
    rfl
  refine pure_ (i := 34) (N := some 5) (v := ?_) (a' := ?_) #[true, true, true, true, true, true, true, true, true, true, true, true, true, true, true, true, true, true, true, true, true, true, true, true, true, true, true, true, true, true, true, true, true, true, true, false] rfl rfl (by kernel_rfl) (fun _ _ _ h => h) (Or.inl ⟨by rfl, ?_⟩) ?_ ?_
  rotate_left
  · intro w'
    go_simp
    with_reducible rfl
  rotate_left
  · simp only [Act.put, List.setIfInBounds_toArray, List.set_cons_zero, List.set_cons_succ, i64_w, i32_w]
    rfl
  refine pure_ (i := 35) (N := some 6) (v := ?_) (a' := ?_) #[true, true, true, true, true, true, true, true, true, true, true, true, true, true, true, true, true, true, true, true, true, true, true, true, true, true, true, true, true, true, true, true, true, true, true, true] rfl rfl (by kernel_rfl) (fun _ _ _ h => h) (Or.inl ⟨by rfl, ?_⟩) ?_ ?_
  rotate_left
  · intro w'
    go_simp
    with_reducible rfl
  rotate_left
  · simp only [Act.put, List.setIfInBounds_toArray, List.set_cons_zero, List.set_cons_succ, i64_w, i32_w]
    rfl
  refine done_ (by kernel_rfl) ?_
  by_cases e1 : la = lb
  · subst e1
    go_wp2
    go_ret
    exact ⟨by simp [apartB], bb HB⟩
  · have e1a : (la == lb) = false := beq_eq_false_iff_ne.mpr e1
    have e1b : (la != lb) = true := bne_iff_ne.mpr e1
    by_cases e2 : la = 42
    · subst e2
      go_wp2
      go_ret
      exact ⟨by simp [apartB], bb HB⟩
    · have e2a : (la == 42) = false := beq_eq_false_iff_ne.mpr e2
      have e2b : (la != 42) = true := bne_iff_ne.mpr e2
      by_cases e3 : lb = 42
      · subst e3
        go_wp2
        go_ret
        exact ⟨by simp [apartB], bb HB⟩
      · have e3a : (lb == 42) = false := beq_eq_false_iff_ne.mpr e3
        have e3b : (lb != 42) = true := bne_iff_ne.mpr e3
        have HR : Aside0 (apartB la lb = true) := ⟨by unfold apartB; rw [e1b, e2b, e3b]; rfl⟩
        clear e1 e2 e3
        go_wp2
        go_ret
        exact ⟨by rw [HR.out]; rfl, bb HB⟩
end

-- NOT PRINTED: function 68 (impl_SeparatedPairs_1)

end Go.Proofs.Ytngffoffjiofbaa.Q
end
section
-- By wip/hyb/hyb.py of this session, over the kit's print.py
namespace Go.Proofs.Ytngffoffjiofbaa.Q
open Go.Proofs.YtngffoffjiofbaaW.Ext
open Go.RowKit Go.Proofs.YtngffoffjiofbaaW.PrintWords Go.Proofs.YtngffoffjiofbaaW.PrintLast Go.Proofs.YtngffoffjiofbaaW.PrintMore
attribute [local go_sem] max2_int min2_int max_two min_two max_three min_three max_four min_four   -- for this text's walks alone
set_option linter.unusedVariables false
set_option linter.unusedSimpArgs false

/-! ### impl_SeparatedPairs: function 29 -/
section
set_option maxHeartbeats 4000000 in
set_option maxRecDepth 100000 in
theorem deleteFunc_L8.none_ (g : Nat) (lb : Array Value) (eg : ∀ args w, (callFunc g args).run Try.prog w = .ok (.enter g args) w) (A : Option Addr) (c : Nat) (w : World) (hC : Kd.C (Kd.slice 2 (Kd.int .i64)) w A 0 ([] : List (List Int))) :
    Calls Try.prog 67 #[.slice A 0 c, .func (.func g) #[] lb] w fun e w' => e = .returned (.slice A 0 c) ∧ Below w.heap.size w w' := by
  have hIF := indexFunc_L8.calls g lb eg (fun _ => none) A c [] (-1) w hC (Nat.zero_le _) (fun W x b A c _ hx => by cases hx) rfl
  have HI := Aside0.mk hIF
  clear hIF
  go_enter Try.func67, Try.ntmps67
  go_wp2_with (go_at_call 96; refine HI.out.mono ?_; rintro e w' ⟨rfl, hb⟩)
  go_ret
  exact ⟨rfl, hb⟩
/-- Is a pair of an orbit separated. -/
def impl_sep.f (k : Nat) (orb : List S51) (x : List Int) : Option Bool :=
  match x with
  | [i, j] => if 0 ≤ wrap64 (i - 1) ∧ wrap64 (i - 1) < (orb.length : Int) ∧ 0 ≤ wrap64 (j - 1) ∧ wrap64 (j - 1) < (orb.length : Int) then
      ((impl_letterOf.f k (rd_T51 orb (wrap64 (i - 1))).f0 (rd_T51 orb (wrap64 (i - 1))).f1 (rd_T51 orb 0).f0 (rd_T51 orb 0).f1).bind fun la => ((impl_letterOf.f k (rd_T51 orb (wrap64 (j - 1))).f0 (rd_T51 orb (wrap64 (j - 1))).f1 (rd_T51 orb 0).f0 (rd_T51 orb 0).f1).bind fun lb => some (apartB la lb))) else none
  | _ => none
def filtM {α : Type} (p : α → Option Bool) : List α → Option (List α)
  | [] => some []
  | x :: l => (p x).bind fun b => (filtM p l).bind fun r => some (if b = true then x :: r else r)
theorem filtM_some {α : Type} {p : α → Option Bool} : ∀ {l r : List α}, filtM p l = some r → (∀ x, x ∈ l → ∃ b, p x = some b) ∧ r = l.filter (fun x => (p x).getD false)
  | [], r, h => by
    injection h with h
    subst h
    exact ⟨(fun x hx => by cases hx), rfl⟩
  | x :: l, r, h => by
    unfold filtM at h
    obtain ⟨b, hb, h⟩ := Option.bind_eq_some_iff.1 h
    obtain ⟨r1, hr, h⟩ := Option.bind_eq_some_iff.1 h
    injection h with h
    subst h
    obtain ⟨h1, h2⟩ := filtM_some hr
    refine ⟨fun y hy => ?_, ?_⟩
    · rcases List.mem_cons.1 hy with rfl | hy
      · exact ⟨b, hb⟩
      · exact h1 y hy
    · rw [List.filter_cons, hb, h2]
      cases b <;> simp
set_option maxHeartbeats 4000000 in
set_option maxRecDepth 100000 in
theorem impl_sepClosure.calls (k gv gp : Nat) (Ao A : Option Addr) (co c : Nat) (vp : Value) (orb : List S51) (x : List Int) (b : Bool) (w : World)
    (hv : w.cell? ⟨gv, 0, none⟩ = some (.pointer (some ⟨gp, 0, none⟩))) (hb : w.heap[gp]? = some (.cells #[.slice Ao orb.length co, vp] 87 (0, 0))) (ho : Kd.C k51 w Ao orb.length orb) (hr : Kd.C (Kd.int .i64) w A x.length x) (h : impl_sep.f k orb x = some b) :
    Calls Try.prog 68 #[.slice A x.length c, .pointer (some ⟨gv, 0, none⟩)] w fun e w' => e = .returned (.bool (!b)) ∧ Below w.heap.size w w' := by
  match x, h, hr with
  | [i, j], h, hr =>
    simp only [impl_sep.f] at h
    split at h
    · rename_i hc
      obtain ⟨la, h1, h⟩ := Option.bind_eq_some_iff.1 h
      obtain ⟨lb, h2, h⟩ := Option.bind_eq_some_iff.1 h
      injection h with h
      subst h
      have hcall := impl_isSeparated.calls k gp Ao A co c vp orb i j _ _ la lb w hb ho hr (i64_w _) (i64_w _) hc.1 hc.2.1 hc.2.2.1 hc.2.2.2 h1 h2
      have HC := Aside0.mk hcall
      clear hcall h1 h2 hc hb ho hr
      go_enter Try.func68, Try.ntmps68
      go_wp2_with (go_at_call 69; refine HC.out.mono ?_; rintro e w' ⟨rfl, hb'⟩)
      go_ret
      exact ⟨rfl, hb'⟩
    · cases h
  | [], h, _ => cases h
  | [_], h, _ => cases h
  | _ :: _ :: _ :: _, h, _ => cases h
def impl_SeparatedPairs.f (k : Nat) (a0_0 : Int) (a0_1 : Int) : Option ((List (List Int)) × Int) := (impl_pairingOf.f k a0_0 a0_1).bind fun t => (if t.2.2 = 0 then ((filtM (fun x => impl_sep.f k t.1 x) t.2.1).bind fun l => some (l, 0)) else (some (([] : List (List Int)), t.2.2)))
set_option maxHeartbeats 8000000 in
set_option maxRecDepth 100000 in
theorem impl_SeparatedPairs.calls (k : Nat) (a0_0 : Int) (a0_1 : Int) (r1 : List (List Int)) (r2 : Int) (w : World) (h : impl_SeparatedPairs.f k a0_0 a0_1 = some (r1, r2)) :
    Calls Try.prog 29 #[.agg #[.int .i64 a0_0, .int .i64 a0_1]] w fun e w' => ∃ v0_ : Value, e = .returned (.tuple #[v0_, .int .i64 r2]) ∧ Kd.S (Kd.slice 2 (Kd.int .i64)) 39 w' w.heap.size (fun _ => True) v0_ r1 ∧ Below w.heap.size w w' := by
  have hu51 := Try.underlying51
  have HB := Aside0.mk (Below.refl w.heap.size w)
  unfold impl_SeparatedPairs.f at h
  obtain ⟨⟨orb, ps, c⟩, h1, h⟩ := Option.bind_eq_some_iff.mp h
  by_cases hc : c = 0
  · subst hc
    simp only [if_true] at h
    obtain ⟨l, h2, h⟩ := Option.bind_eq_some_iff.mp h
    simp only [Option.some.injEq, Prod.mk.injEq] at h
    obtain ⟨rfl, rfl⟩ := h
    have A1 := Aside0.mk h1
    have A2 := Aside0.mk (filtM_some h2)
    clear h1 h2
    by_cases hps : 0 < ps.length
    · have HLEN := Aside0.mk hps
      clear hps
      go_enter Try.func29, Try.ntmps29
      go_wp2_with (first
    | ((with_reducible refine gate_dst (N := 1) rfl ?_); refine box_event ?hg (N := 1) ?hd (cs := #[.int .i64 a0_0, .int .i64 a0_1]) (t := 51) ?hr ?_; (case hd => rfl); (case hg => rfl); (case hr => first | (go_simp; done) | (go_simp; rfl)); intro gb hg w1 hbox hb; have BK := Aside0.mk (hbox); have GE := wl hg HB; replace HB := bs HB hb; clear hb hbox hg; have ⟨a0, a1, b0, b1⟩ := q2f BK)
    | ((with_reducible refine gate_callee (f := 66) rfl ?_); refine goesL_ (some 8) rfl rfl Try.func66 (by kernel_rfl) rfl #[.agg #[.int .i64 a0_0, .int .i64 a0_1], .bool true] rfl (by (try simp only [List.map_toArray, List.map_cons, List.map_nil]); first | done | rfl | (simp only [List.length_drop, List.length_take]; rfl)) ?_; (with_reducible refine (impl_pairingOf.yes k a0_0 a0_1 orb ps _ A1.out).mono ?_); rintro e w2 ⟨gp, vo, vp, rfl, hge, hbp, hr, hs, hb⟩; refine ⟨_, rfl, ?_⟩; have BP := Aside0.mk hbp; have HS := Aside0.mk (Kd.S_lower hs (below_size (bb HB))); have HO := Aside0.mk (Kd.R_lower hr (below_size (bb HB))); replace HB := bs HB hb; clear BK hb hs hr hbp hge; obtain ⟨Ao, co, eo⟩ := Kd.R_slice HO.out; subst eo; obtain ⟨gq, cq, ep, _, _, _, _⟩ := Kd.S_form HS.out HLEN.out; subst ep; have ⟨a0, a1, b0, b1⟩ := q2f BP)
    | ((with_reducible refine gate_dst (N := 4) rfl ?_); refine box_event ?hg (N := 4) ?hd (cs := #[.pointer none]) (t := 82) ?hr ?_; (case hd => rfl); (case hg => rfl); (case hr => first | (go_simp; done) | (go_simp; rfl)); intro gv hg w3 hbox hb; have BV := Aside0.mk (hbox); have GV := wl hg HB; have NV := nl hg BP; have HS2 := Aside0.mk (Kd.S_below (Kd.S_elderB HS.out gv (Nat.le_of_eq hg.symm)) hb); have HO2 := Aside0.mk (Kd.R_below (Kd.R_mono (Kd.R_bound HO.out) (fun k_ hk_ => (⟨hk_.1, by have := hk_.2.2.1; omega⟩ : _ ∧ k_ ≠ gv))) hb); clear HS HO; have HS := HS2; have HO := HO2; clear HS2 HO2; replace BP := kb BP hb; replace HB := bs HB hb; clear hb hbox hg; have ⟨a0, a1, b0, b1⟩ := q2f BP; have ⟨a0, b0⟩ := q1f BV)
    | ((with_reducible refine gate_callee (f := 67) rfl ?_); refine goesL_ (some 19) rfl rfl Try.func67 (by kernel_rfl) rfl #[.slice (some ⟨gq, 0, none⟩) ps.length cq, .func (.func 68) #[] #[.pointer (some ⟨gv, 0, none⟩)]] rfl (by (try simp only [List.map_toArray, List.map_cons, List.map_nil]); first | done | rfl | (simp only [List.length_drop, List.length_take]; rfl)) ?_; have BV2 := Aside0.mk (blk_put (cs' := #[.pointer (some ⟨gp, 0, none⟩)]) BV.out 0 (.pointer (some ⟨gp, 0, none⟩)) rfl); have BP2 := Aside0.mk (blk_far BP.out NV.out (p := ⟨gv, 0, none⟩) (.pointer (some ⟨gp, 0, none⟩))); have HS2 := Aside0.mk (Kd.S_far (p := ⟨gv, 0, none⟩) HS.out (fun _ h_ => h_.2) (.pointer (some ⟨gp, 0, none⟩))); have HO2 := Aside0.mk (Kd.R_far (p := ⟨gv, 0, none⟩) (Kd.R_apart' HO.out (Kd.S_typed HS.out) (by decide)) (fun _ h_ => h_.1.2) (.pointer (some ⟨gp, 0, none⟩))); have HQ := Aside0.mk ((Kd.S_R HS.out).1 gq rfl); refine (deleteFunc_L8.calls 68 #[.pointer (some ⟨gv, 0, none⟩)] (enters_of Try.func68 (by kernel_rfl) rfl) (fun x => !((impl_sep.f k orb x).getD false)) gq cq _ ps w _ (bg HB GV) HS2.out (fun W x A c hK hx hC hc => ?gh)).mono ?_; (case gh => exact (by obtain ⟨b_, hb_⟩ := A2.out.1 x hx; have hcl := impl_sepClosure.calls k gv gp Ao A co c (.slice (some ⟨gq, 0, none⟩) ps.length cq) orb x b_ W (keep_cell hK ((blk_cell BV2.out 0).trans rfl) (Ne.symm HQ.out.2)) (KeepBut.blk hK BP2.out (Ne.symm HQ.out.1) (by simp)) (Kd.R_reads' (Kd.R_keep HO2.out hK (fun k_ hk_ e_ => hk_.2 (by rw [e_]; rfl)))).2.2 hC hb_; simp only [hb_, Option.getD_some]; exact hcl)); rintro e w5 ⟨rfl, hs5, hb5⟩; refine ⟨_, rfl, ?_⟩; simp only [Bool.not_not] at hs5; have HS5 := Aside0.mk hs5; have HB5 := Aside0.mk hb5; clear hs5 hb5 HS2 HO2 BV2 BP2 HQ))
      go_ret2
      exact ⟨_, rfl, by rw [A2.out.2]; exact Kd.S_mono HS5.out (fun _ _ => trivial), HB5.out⟩
    · obtain rfl : ps = [] := List.eq_nil_of_length_eq_zero (by omega)
      obtain rfl : l = [] := A2.out.2
      clear A2 hps
      go_enter Try.func29, Try.ntmps29
      go_wp2_with (first
    | ((with_reducible refine gate_dst (N := 1) rfl ?_); refine box_event ?hg (N := 1) ?hd (cs := #[.int .i64 a0_0, .int .i64 a0_1]) (t := 51) ?hr ?_; (case hd => rfl); (case hg => rfl); (case hr => first | (go_simp; done) | (go_simp; rfl)); intro gb hg w1 hbox hb; have BK := Aside0.mk (hbox); have GE := wl hg HB; replace HB := bs HB hb; clear hb hbox hg; have ⟨a0, a1, b0, b1⟩ := q2f BK)
    | ((with_reducible refine gate_callee (f := 66) rfl ?_); refine goesL_ (some 8) rfl rfl Try.func66 (by kernel_rfl) rfl #[.agg #[.int .i64 a0_0, .int .i64 a0_1], .bool true] rfl (by (try simp only [List.map_toArray, List.map_cons, List.map_nil]); first | done | rfl | (simp only [List.length_drop, List.length_take]; rfl)) ?_; (with_reducible refine (impl_pairingOf.yes k a0_0 a0_1 orb [] _ A1.out).mono ?_); rintro e w2 ⟨gp, vo, vp, rfl, hge, hbp, hr, hs, hb⟩; refine ⟨_, rfl, ?_⟩; have BP := Aside0.mk hbp; have HS := Aside0.mk (Kd.S_lower hs (below_size (bb HB))); have HO := Aside0.mk (Kd.R_lower hr (below_size (bb HB))); replace HB := bs HB hb; clear BK hb hs hr hbp hge; obtain ⟨Ao, co, eo⟩ := Kd.R_slice HO.out; subst eo; obtain ⟨Ap, cp, ep⟩ := Kd.S_slice HS.out; subst ep; have ⟨a0, a1, b0, b1⟩ := q2f BP)
    | ((with_reducible refine gate_dst (N := 4) rfl ?_); refine box_event ?hg (N := 4) ?hd (cs := #[.pointer none]) (t := 82) ?hr ?_; (case hd => rfl); (case hg => rfl); (case hr => first | (go_simp; done) | (go_simp; rfl)); intro gv hg w3 hbox hb; have BV := Aside0.mk (hbox); have GV := wl hg HB; have NV := nl hg BP; have HS2 := Aside0.mk (Kd.S_below (Kd.S_elderB HS.out gv (Nat.le_of_eq hg.symm)) hb); have HO2 := Aside0.mk (Kd.R_below (Kd.R_mono (Kd.R_bound HO.out) (fun k_ hk_ => (⟨hk_.1, by have := hk_.2.2.1; omega⟩ : _ ∧ k_ ≠ gv))) hb); clear HS HO; have HS := HS2; have HO := HO2; clear HS2 HO2; replace BP := kb BP hb; replace HB := bs HB hb; clear hb hbox hg; have ⟨a0, a1, b0, b1⟩ := q2f BP; have ⟨a0, b0⟩ := q1f BV)
    | ((with_reducible refine gate_callee (f := 67) rfl ?_); refine goesL_ (some 19) rfl rfl Try.func67 (by kernel_rfl) rfl #[.slice Ap 0 cp, .func (.func 68) #[] #[.pointer (some ⟨gv, 0, none⟩)]] rfl (by (try simp only [List.map_toArray, List.map_cons, List.map_nil]); first | done | rfl | (simp only [List.length_drop, List.length_take]; rfl)) ?_; have HS2 := Aside0.mk (Kd.S_far (p := ⟨gv, 0, none⟩) HS.out (fun _ h_ => h_.2) (.pointer (some ⟨gp, 0, none⟩))); refine (deleteFunc_L8.none_ 68 #[.pointer (some ⟨gv, 0, none⟩)] (enters_of Try.func68 (by kernel_rfl) rfl) Ap cp _ (Kd.S_reads' HS2.out).2.2).mono ?_; rintro e w5 ⟨rfl, hb5⟩; refine ⟨_, rfl, ?_⟩; have HS5 := Aside0.mk (Kd.S_below HS2.out hb5); have HB5 := Aside0.mk (below_step (bg HB GV) hb5); clear hb5 HS2))
      go_ret2
      exact ⟨_, rfl, Kd.S_mono HS5.out (fun _ _ => trivial), HB5.out⟩
  · simp only [if_neg hc, Option.some.injEq, Prod.mk.injEq] at h
    obtain ⟨rfl, rfl⟩ := h
    have A1 := Aside0.mk h1
    have HC := Aside0.mk hc
    have c3b0 : (c == 0) = false := beq_eq_false_iff_ne.mpr hc
    have c3b1 : (c != 0) = true := bne_iff_ne.mpr hc
    clear h1 hc
    go_enter Try.func29, Try.ntmps29
    go_wp2_with (first
    | ((with_reducible refine gate_dst (N := 1) rfl ?_); refine box_event ?hg (N := 1) ?hd (cs := #[.int .i64 a0_0, .int .i64 a0_1]) (t := 51) ?hr ?_; (case hd => rfl); (case hg => rfl); (case hr => first | (go_simp; done) | (go_simp; rfl)); intro gb hg w1 hbox hb; have BK := Aside0.mk (hbox); have GE := wl hg HB; replace HB := bs HB hb; clear hb hbox hg; have ⟨a0, a1, b0, b1⟩ := q2f BK)
    | ((with_reducible refine gate_callee (f := 66) rfl ?_); refine goesL_ (some 8) rfl rfl Try.func66 (by kernel_rfl) rfl #[.agg #[.int .i64 a0_0, .int .i64 a0_1], .bool true] rfl (by (try simp only [List.map_toArray, List.map_cons, List.map_nil]); first | done | rfl | (simp only [List.length_drop, List.length_take]; rfl)) ?_; (with_reducible refine (impl_pairingOf.no k a0_0 a0_1 orb ps c _ HC.out A1.out).mono ?_); rintro e w2 ⟨rfl, hb⟩; refine ⟨_, rfl, ?_⟩; replace HB := bs HB hb; clear hb BK)
    | ((with_reducible refine gate_dst (N := 4) rfl ?_); refine box_event ?hg (N := 4) ?hd (cs := #[.pointer none]) (t := 82) ?hr ?_; (case hd => rfl); (case hg => rfl); (case hr => first | (go_simp; done) | (go_simp; rfl)); intro gv hg w3 hbox hb; have BV := Aside0.mk (hbox); have GV := wl hg HB; replace HB := bs HB hb; clear hb hbox hg; have ⟨a0, b0⟩ := q1f BV))
    go_ret2
    exact ⟨_, rfl, Kd.S_nil _ _ _ _ _, bg HB GV⟩
end

end Go.Proofs.Ytngffoffjiofbaa.Q
end
section
-- By wip/hyb/hyb.py of this session, over the kit's print.py
namespace Go.Proofs.Ytngffoffjiofbaa.Q
open Go.Proofs.YtngffoffjiofbaaW.Ext
open Go.RowKit Go.Proofs.YtngffoffjiofbaaW.PrintWords Go.Proofs.YtngffoffjiofbaaW.PrintLast Go.Proofs.YtngffoffjiofbaaW.PrintMore
attribute [local go_sem] max2_int min2_int max_two min_two max_three min_three max_four min_four   -- for this text's walks alone
set_option linter.unusedVariables false
set_option linter.unusedSimpArgs false

/-! ### laws_heldInt64S: function 26 -/
def laws_heldInt64S.l0 : Nat → List Int → Int → Int → Option (Int)
  | 0, _, _, _ => none
  | k + 1, x0, x1, x5 => if x5 < (x0.length : Int) then (if 0 ≤ x5 then (if (rd x0 x5) = x1 then (laws_heldInt64S.l0 k x0 (wrap64 (x1 + 1)) (wrap64 (x5 + 1))) else (some (-1))) else (none)) else (some x1)
def laws_heldInt64S.f (k : Nat) (l0 : List Int) (a1 : Int) : Option (Int) := laws_heldInt64S.l0 k l0 a1 0
theorem laws_heldInt64S.mono_l : ∀ k, (∀ y0 y1 y2, LeO (laws_heldInt64S.l0 k y0 y1 y2) (laws_heldInt64S.l0 (k + 1) y0 y1 y2))
  | 0 => fun _ _ _ r h => by simp [laws_heldInt64S.l0] at h
  | k + 1 => by
    have ih0 := laws_heldInt64S.mono_l k
    · intro y0 y1 y2
      unfold laws_heldInt64S.l0
      repeat' first
      | (with_reducible exact ih0 _ _ _)
      | (with_reducible exact LeO.refl _)
      | (with_reducible exact LeO.none _)
      | (with_reducible refine LeO.ite ?_ ?_)
      | (with_reducible refine LeO.bind ?_ (fun _ => ?_))
      | exact ih0 _ _ _
      | exact LeO.none _
      | refine LeO.ite ?_ ?_
      | refine LeO.bind ?_ (fun _ => ?_)
theorem laws_heldInt64S.mono : ∀ a0 a1 k, LeO (laws_heldInt64S.f k a0 a1) (laws_heldInt64S.f (k + 1) a0 a1) := by
  intro a0 a1 k
  have ih0 := laws_heldInt64S.mono_l k
  unfold laws_heldInt64S.f
  repeat' first
      | (with_reducible exact ih0 _ _ _)
      | (with_reducible exact LeO.refl _)
      | (with_reducible exact LeO.none _)
      | (with_reducible refine LeO.ite ?_ ?_)
      | (with_reducible refine LeO.bind ?_ (fun _ => ?_))
      | exact ih0 _ _ _
      | exact LeO.none _
      | refine LeO.ite ?_ ?_
      | refine LeO.bind ?_ (fun _ => ?_)
set_option maxHeartbeats 8000000 in
set_option maxRecDepth 100000 in
theorem laws_heldInt64S.calls (k : Nat) (A0 : Option Addr) (c0 : Nat) (l0 : List Int) (a1 : Int) (r : Int) (w : World) (hr0 : Kd.C (Kd.int .i64) w A0 l0.length l0) (hc0 : l0.length ≤ c0) (h : laws_heldInt64S.f k l0 a1 = some r) :
    Calls Try.prog 26 #[.slice A0 l0.length c0, .int .i64 a1] w fun e w' => e = .returned (.int .i64 r) ∧ Drawn0 w w' := by
  have HR0 := Aside0.mk hr0
  have HC0 := Aside0.mk hc0
  clear hr0 hc0
  have H : (laws_heldInt64S.l0 k l0 a1 0) = some r := h
  clear h
  have H' := Aside0.mk H
  clear H
  go_enter Try.func26, Try.ntmps26
  go_wp2
  go_loopg [1, 5] k (fun kq v1 v5 w' => ∃ (x1_1 : Int) (x5_1 : Int), v1 = .int .i64 x1_1 ∧ v5 = .int .i64 x5_1 ∧ Aside0 (laws_heldInt64S.l0 kq l0 x1_1 x5_1 = some r) ∧ Aside0 (kq ≤ k) ∧ Drawn0 w w')
  case atStart => exact ⟨(a1), (0), (by first | rfl | (simp; done) | (simp [*]; done)), (by first | rfl | (simp; done) | (simp [*]; done)), H', ⟨Nat.le_refl _⟩, by repeat (first | exact Drawn0.refl _ | apply Drawn0.step)⟩
  case round =>
    clear H'
    try clear c2
    try clear p2
    obtain ⟨x1_1, x5_1, rfl, rfl, HA, HK1, ⟨m1, rfl⟩⟩ := hrel
    cases gk with
    | zero => exact absurd HA.out (by simp [laws_heldInt64S.l0])
    | succ k1 =>
      have H := HA.out
      clear HA
      simp only [laws_heldInt64S.l0] at H
      by_cases c3 : x5_1 < (l0.length : Int)
      · rw [if_pos c3] at H
        have c3b0 : decide (x5_1 < (l0.length : Int)) = true := decide_eq_true c3
        clear c3
        by_cases c4 : 0 ≤ x5_1
        · rw [if_pos c4] at H
          have c4b0 : decide (0 ≤ x5_1) = true := decide_eq_true c4
          clear c4
          by_cases c5 : (rd l0 x5_1) = x1_1
          · rw [if_pos c5] at H
            have c5b0 : ((rd l0 x5_1) == x1_1) = true := beq_iff_eq.mpr c5
            have c5b1 : ((rd l0 x5_1) != x1_1) = false := bne_eq_false_iff_eq.mpr c5
            clear c5
            have H' := Aside0.mk H
            clear H
            have p449 : 0 ≤ (x5_1 : Int) := of_decide_eq_true (by first | (with_reducible assumption) | assumption)
            have q449 : x5_1 < (l0.length : Int) := of_decide_eq_true (by first | (with_reducible assumption) | assumption)
            obtain ⟨ad449, e449, hx449_0⟩ := Kd.at_int HR0.out x5_1 p449 q449
            cases e449
            replace p449 := eq_true p449
            replace q449 := eq_true q449
            go_wp2
            go_roundg k1
            case measure => have := HK1.out; omega
            case rel => exact ⟨(wrap64 (x1_1 + 1)), (wrap64 (x5_1 + 1)), (by first | rfl | (simp; done) | (simp [*]; done)), (by first | rfl | (simp; done) | (simp [*]; done)), H', ⟨by have := HK1.out; omega⟩, by repeat (first | exact Drawn0.refl _ | apply Drawn0.step)⟩
          · rw [if_neg c5] at H
            have c5b0 : ((rd l0 x5_1) == x1_1) = false := beq_eq_false_iff_ne.mpr c5
            have c5b1 : ((rd l0 x5_1) != x1_1) = true := bne_iff_ne.mpr c5
            obtain rfl := Option.some.inj H
            have p449 : 0 ≤ (x5_1 : Int) := of_decide_eq_true (by first | (with_reducible assumption) | assumption)
            have q449 : x5_1 < (l0.length : Int) := of_decide_eq_true (by first | (with_reducible assumption) | assumption)
            obtain ⟨ad449, e449, hx449_0⟩ := Kd.at_int HR0.out x5_1 p449 q449
            cases e449
            replace p449 := eq_true p449
            replace q449 := eq_true q449
            go_wp2
            go_ret
            exact ⟨by first | rfl | (simp; done) | (simp [*]; done), by repeat (first | exact Drawn0.refl _ | apply Drawn0.step)⟩
        · rw [if_neg c4] at H
          exact absurd H (by simp)
      · rw [if_neg c3] at H
        have c3b0 : decide (x5_1 < (l0.length : Int)) = false := decide_eq_false c3
        clear c3
        obtain rfl := Option.some.inj H
        go_wp2
        go_ret
        exact ⟨by first | rfl | (simp; done) | (simp [*]; done), by repeat (first | exact Drawn0.refl _ | apply Drawn0.step)⟩

-- NOT PRINTED: function 5 (laws_FnExactCharacteristicOf)

end Go.Proofs.Ytngffoffjiofbaa.Q
end
section
-- By wip/hyb/hyb.py of this session, over the kit's print.py
namespace Go.Proofs.Ytngffoffjiofbaa.Q
open Go.Proofs.YtngffoffjiofbaaW.Ext
open Go.RowKit Go.Proofs.YtngffoffjiofbaaW.PrintWords Go.Proofs.YtngffoffjiofbaaW.PrintLast Go.Proofs.YtngffoffjiofbaaW.PrintMore
attribute [local go_sem] max2_int min2_int max_two min_two max_three min_three max_four min_four   -- for this text's walks alone
set_option linter.unusedVariables false
set_option linter.unusedSimpArgs false

/-! ### laws_heldInt64SS: function 30 -/
def laws_heldInt64SS.l0 : Nat → List (List Int) → Int → Int → Option (Int)
  | 0, _, _, _ => none
  | k + 1, x0, x1, x5 => if x5 < (x0.length : Int) then (if 0 ≤ x5 then ((laws_heldInt64S.f k (rd_L8 x0 x5) x1).bind fun t523 => (if t523 < 0 then (some (-1)) else (laws_heldInt64SS.l0 k x0 t523 (wrap64 (x5 + 1))))) else (none)) else (some x1)
def laws_heldInt64SS.f (k : Nat) (l0 : List (List Int)) (a1 : Int) : Option (Int) := laws_heldInt64SS.l0 k l0 a1 0
theorem laws_heldInt64SS.mono_l : ∀ k, (∀ y0 y1 y2, LeO (laws_heldInt64SS.l0 k y0 y1 y2) (laws_heldInt64SS.l0 (k + 1) y0 y1 y2))
  | 0 => fun _ _ _ r h => by simp [laws_heldInt64SS.l0] at h
  | k + 1 => by
    have ih0 := laws_heldInt64SS.mono_l k
    · intro y0 y1 y2
      unfold laws_heldInt64SS.l0
      repeat' first
      | (with_reducible exact ih0 _ _ _)
      | (with_reducible exact laws_heldInt64S.mono _ _ _)
      | (with_reducible exact LeO.refl _)
      | (with_reducible exact LeO.none _)
      | (with_reducible refine LeO.ite ?_ ?_)
      | (with_reducible refine LeO.bind ?_ (fun _ => ?_))
      | exact ih0 _ _ _
      | exact laws_heldInt64S.mono _ _ _
      | exact LeO.none _
      | refine LeO.ite ?_ ?_
      | refine LeO.bind ?_ (fun _ => ?_)
theorem laws_heldInt64SS.mono : ∀ a0 a1 k, LeO (laws_heldInt64SS.f k a0 a1) (laws_heldInt64SS.f (k + 1) a0 a1) := by
  intro a0 a1 k
  have ih0 := laws_heldInt64SS.mono_l k
  unfold laws_heldInt64SS.f
  repeat' first
      | (with_reducible exact ih0 _ _ _)
      | (with_reducible exact laws_heldInt64S.mono _ _ _)
      | (with_reducible exact LeO.refl _)
      | (with_reducible exact LeO.none _)
      | (with_reducible refine LeO.ite ?_ ?_)
      | (with_reducible refine LeO.bind ?_ (fun _ => ?_))
      | exact ih0 _ _ _
      | exact laws_heldInt64S.mono _ _ _
      | exact LeO.none _
      | refine LeO.ite ?_ ?_
      | refine LeO.bind ?_ (fun _ => ?_)
set_option maxHeartbeats 8000000 in
set_option maxRecDepth 100000 in
theorem laws_heldInt64SS.calls (k : Nat) (A0 : Option Addr) (c0 : Nat) (l0 : List (List Int)) (a1 : Int) (r : Int) (w : World) (hr0 : Kd.C (Kd.slice 2 (Kd.int .i64)) w A0 l0.length l0) (hc0 : l0.length ≤ c0) (h : laws_heldInt64SS.f k l0 a1 = some r) :
    Calls Try.prog 30 #[.slice A0 l0.length c0, .int .i64 a1] w fun e w' => e = .returned (.int .i64 r) ∧ Drawn0 w w' := by
  have HR0 := Aside0.mk hr0
  have HC0 := Aside0.mk hc0
  clear hr0 hc0
  have H : (laws_heldInt64SS.l0 k l0 a1 0) = some r := h
  clear h
  have H' := Aside0.mk H
  clear H
  go_enter Try.func30, Try.ntmps30
  go_wp2
  go_loopg [1, 5] k (fun kq v1 v5 w' => ∃ (x1_1 : Int) (x5_1 : Int), v1 = .int .i64 x1_1 ∧ v5 = .int .i64 x5_1 ∧ Aside0 (laws_heldInt64SS.l0 kq l0 x1_1 x5_1 = some r) ∧ Aside0 (kq ≤ k) ∧ Drawn0 w w')
  case atStart => exact ⟨(a1), (0), (by first | rfl | (simp; done) | (simp [*]; done)), (by first | rfl | (simp; done) | (simp [*]; done)), H', ⟨Nat.le_refl _⟩, by repeat (first | exact Drawn0.refl _ | apply Drawn0.step)⟩
  case round =>
    clear H'
    try clear p2
    obtain ⟨x1_1, x5_1, rfl, rfl, HA, HK1, ⟨m1, rfl⟩⟩ := hrel
    cases gk with
    | zero => exact absurd HA.out (by simp [laws_heldInt64SS.l0])
    | succ k1 =>
      have H := HA.out
      clear HA
      simp only [laws_heldInt64SS.l0] at H
      by_cases c3 : x5_1 < (l0.length : Int)
      · rw [if_pos c3] at H
        have c3b0 : decide (x5_1 < (l0.length : Int)) = true := decide_eq_true c3
        clear c3
        by_cases c4 : 0 ≤ x5_1
        · rw [if_pos c4] at H
          have c4b0 : decide (0 ≤ x5_1) = true := decide_eq_true c4
          clear c4
          replace H := Option.bind_eq_some_iff.mp H
          obtain ⟨t523, A50, H⟩ := H
          replace H : (if t523 < 0 then (some (-1)) else (laws_heldInt64SS.l0 k1 l0 t523 (wrap64 (x5_1 + 1)))) = some r := H
          have A5 := Aside0.mk A50
          clear A50
          by_cases c6 : t523 < 0
          · rw [if_pos c6] at H
            have c6b0 : decide (t523 < 0) = true := decide_eq_true c6
            clear c6
            obtain rfl := Option.some.inj H
            have p522 : 0 ≤ (x5_1 : Int) := of_decide_eq_true (by first | (with_reducible assumption) | assumption)
            have q522 : x5_1 < (l0.length : Int) := of_decide_eq_true (by first | (with_reducible assumption) | assumption)
            obtain ⟨ad522, A522_0, c522_0, e522, hx522_0, hl522_0, hi522_0⟩ := at_L8 HR0.out x5_1 p522 q522
            cases e522
            have HR522_0 := Aside0.mk hi522_0
            have HC522_0 := Aside0.mk hl522_0
            clear hi522_0 hl522_0
            replace p522 := eq_true p522
            replace q522 := eq_true q522
            go_wp2_with (first | ((with_reducible refine gate_callee (f := 26) rfl ?_); refine goesL_ (some 17) rfl rfl Try.func26 (by kernel_rfl) rfl #[.slice A522_0 (rd_L8 l0 x5_1).length c522_0, .int .i64 x1_1] rfl (by (try simp only [List.map_toArray, List.map_cons, List.map_nil]); first | done | rfl | (simp only [List.length_drop, List.length_take]; rfl)) ?_; (with_reducible refine (laws_heldInt64S.calls k1 _ _ (rd_L8 l0 x5_1) x1_1 t523 _ ?side1 ?side2 A5.out).mono ?_); (case side1 => repeat (first | exact HR522_0.out | (with_reducible refine Kd.C_alloc ?_ _) | (with_reducible refine Kd.C_drewN ?_ _) | (with_reducible refine Kd.C_drew ?_))); (case side2 => exact HC522_0.out); rintro e w' ⟨rfl, ⟨nd, rfl⟩⟩; refine ⟨_, rfl, ?_⟩))
            go_ret
            exact ⟨by first | rfl | (simp; done) | (simp [*]; done), by repeat (first | exact Drawn0.refl _ | apply Drawn0.step)⟩
          · rw [if_neg c6] at H
            have c6b0 : decide (t523 < 0) = false := decide_eq_false c6
            clear c6
            have H' := Aside0.mk H
            clear H
            have p522 : 0 ≤ (x5_1 : Int) := of_decide_eq_true (by first | (with_reducible assumption) | assumption)
            have q522 : x5_1 < (l0.length : Int) := of_decide_eq_true (by first | (with_reducible assumption) | assumption)
            obtain ⟨ad522, A522_0, c522_0, e522, hx522_0, hl522_0, hi522_0⟩ := at_L8 HR0.out x5_1 p522 q522
            cases e522
            have HR522_0 := Aside0.mk hi522_0
            have HC522_0 := Aside0.mk hl522_0
            clear hi522_0 hl522_0
            replace p522 := eq_true p522
            replace q522 := eq_true q522
            go_wp2_with (first | ((with_reducible refine gate_callee (f := 26) rfl ?_); refine goesL_ (some 17) rfl rfl Try.func26 (by kernel_rfl) rfl #[.slice A522_0 (rd_L8 l0 x5_1).length c522_0, .int .i64 x1_1] rfl (by (try simp only [List.map_toArray, List.map_cons, List.map_nil]); first | done | rfl | (simp only [List.length_drop, List.length_take]; rfl)) ?_; (with_reducible refine (laws_heldInt64S.calls k1 _ _ (rd_L8 l0 x5_1) x1_1 t523 _ ?side1 ?side2 A5.out).mono ?_); (case side1 => repeat (first | exact HR522_0.out | (with_reducible refine Kd.C_alloc ?_ _) | (with_reducible refine Kd.C_drewN ?_ _) | (with_reducible refine Kd.C_drew ?_))); (case side2 => exact HC522_0.out); rintro e w' ⟨rfl, ⟨nd, rfl⟩⟩; refine ⟨_, rfl, ?_⟩))
            go_roundg k1
            case measure => have := HK1.out; omega
            case rel => exact ⟨(t523), (wrap64 (x5_1 + 1)), (by first | rfl | (simp; done) | (simp [*]; done)), (by first | rfl | (simp; done) | (simp [*]; done)), H', ⟨by have := HK1.out; omega⟩, by repeat (first | exact Drawn0.refl _ | apply Drawn0.step)⟩
        · rw [if_neg c4] at H
          exact absurd H (by simp)
      · rw [if_neg c3] at H
        have c3b0 : decide (x5_1 < (l0.length : Int)) = false := decide_eq_false c3
        clear c3
        obtain rfl := Option.some.inj H
        go_wp2
        go_ret
        exact ⟨by first | rfl | (simp; done) | (simp [*]; done), by repeat (first | exact Drawn0.refl _ | apply Drawn0.step)⟩

end Go.Proofs.Ytngffoffjiofbaa.Q
end
section
-- By wip/hyb/hyb.py of this session, over the kit's print.py
namespace Go.Proofs.Ytngffoffjiofbaa.Q
open Go.Proofs.YtngffoffjiofbaaW.Ext
open Go.RowKit Go.Proofs.YtngffoffjiofbaaW.PrintWords Go.Proofs.YtngffoffjiofbaaW.PrintLast Go.Proofs.YtngffoffjiofbaaW.PrintMore
attribute [local go_sem] max2_int min2_int max_two min_two max_three min_three max_four min_four   -- for this text's walks alone
set_option linter.unusedVariables false
set_option linter.unusedSimpArgs false

/-! ### laws_FnExactSeparatedPairs: function 6 -/
section
theorem laws_FnExactSeparatedPairs.held_ (k : Nat) (A : Option Addr) (c : Nat) (l : List (List Int)) (n : Nat) (a r : Int) (w : World) (hn : n = l.length) (hC : Kd.C (Kd.slice 2 (Kd.int .i64)) w A l.length l) (hc : l.length ≤ c) (h : laws_heldInt64SS.f k l a = some r) :
    Calls Try.prog 30 #[.slice A n c, .int .i64 a] w fun e w' => e = .returned (.int .i64 r) ∧ Drawn0 w w' := by
  subst hn
  exact laws_heldInt64SS.calls k A c l a r w hC hc h
def laws_FnExactSeparatedPairs.f (k : Nat) (a0_0 : Int) (a0_1 : Int) : Option Bool := (laws_toAngle.f a0_0 a0_1).bind fun t => ((spec_SeparatedPairs.f k t.1 t.2).bind fun s => ((impl_SeparatedPairs.f k t.1 t.2).bind fun g => ((laws_eqInt64SS.f k g.1 s.1).bind fun b => (if b = true then (if g.2 = s.2 then ((laws_markInt64SS.f k g.1 1).bind fun m => ((laws_heldInt64SS.f k m.2 1).bind fun q => (if q < 0 then (some false) else (if q = m.1 then (some true) else (some false))))) else (some false)) else (some false)))))
set_option maxHeartbeats 8000000 in
set_option maxRecDepth 100000 in
theorem laws_FnExactSeparatedPairs.calls (k : Nat) (a0_0 : Int) (a0_1 : Int) (r_ : Bool) (w : World) (h : laws_FnExactSeparatedPairs.f k a0_0 a0_1 = some true) :
    Calls Try.prog 6 #[.agg #[.int .i64 a0_0, .int .i64 a0_1]] w fun e w' => e = .returned (.bool true) ∧ Below w.heap.size w w' := by
  have hu48 := Try.underlying48
  have hu51 := Try.underlying51
  have HB := Aside0.mk (Below.refl w.heap.size w)
  unfold laws_FnExactSeparatedPairs.f at h
  obtain ⟨⟨t1, t2⟩, h1, h⟩ := Option.bind_eq_some_iff.mp h
  obtain ⟨⟨s1, c⟩, h2, h⟩ := Option.bind_eq_some_iff.mp h
  obtain ⟨⟨g1, c2⟩, h3, h⟩ := Option.bind_eq_some_iff.mp h
  obtain ⟨b, h4, h⟩ := Option.bind_eq_some_iff.mp h
  cases b with
  | false => simp at h
  | true =>
    simp only [if_true] at h
    by_cases hc : c2 = c
    · subst hc
      simp only [if_true] at h
      obtain ⟨⟨m1, m2⟩, h5, h⟩ := Option.bind_eq_some_iff.mp h
      obtain ⟨q, h6, h⟩ := Option.bind_eq_some_iff.mp h
      by_cases hq : q < 0
      · simp [if_pos hq] at h
      · simp only [if_neg hq] at h
        by_cases hm : q = m1
        · subst hm
          clear h
          replace h1 : laws_toAngle.f a0_0 a0_1 = some (t1, t2) := h1
          replace h2 : spec_SeparatedPairs.f k t1 t2 = some (s1, c2) := h2
          replace h3 : impl_SeparatedPairs.f k t1 t2 = some (g1, c2) := h3
          replace h4 : laws_eqInt64SS.f k g1 s1 = some true := h4
          replace h6 : laws_heldInt64SS.f k m2 1 = some q := h6
          have A1 := Aside0.mk h1
          have A2 := Aside0.mk h2
          have A3 := Aside0.mk h3
          have A4 := Aside0.mk h4
          have A5 := Aside0.mk h5
          have A6 := Aside0.mk h6
          clear h1 h2 h3 h4 h5 h6
          have hqb : decide (q < 0) = false := decide_eq_false hq
          clear hq
          go_enter Try.func6, Try.ntmps6
          go_wp2_with (first
    | ((with_reducible refine gate_dst (N := 1) rfl ?_); refine box_event ?hg (N := 1) ?hd (cs := #[.int .i64 a0_0, .int .i64 a0_1]) (t := 48) ?hr ?_; (case hd => rfl); (case hg => rfl); (case hr => first | (go_simp; done) | (go_simp; rfl)); intro ga hg w1 hbox hb; have BK := Aside0.mk (hbox); have GE := wl hg HB; replace HB := bs HB hb; clear hb hbox hg; have ⟨a0, a1, b0, b1⟩ := q2f BK)
    | ((with_reducible refine gate_callee (f := 28) rfl ?_); refine goesL_ (some 13) rfl rfl Try.func28 (by kernel_rfl) rfl #[.agg #[.int .i64 a0_0, .int .i64 a0_1]] rfl (by (try simp only [List.map_toArray, List.map_cons, List.map_nil]); first | done | rfl | (simp only [List.length_drop, List.length_take]; rfl)) ?_; (with_reducible refine (laws_toAngle.calls a0_0 a0_1 t1 t2 _ A1.out).mono ?_); rintro e w_ ⟨rfl, hb⟩; refine ⟨_, rfl, ?_⟩; replace BK := kb BK hb; replace HB := bs HB hb; clear hb; have ⟨a0, a1, b0, b1⟩ := q2f BK)
    | ((with_reducible refine gate_callee (f := 27) rfl ?_); refine goesL_ (some 14) rfl rfl Try.func27 (by kernel_rfl) rfl #[.agg #[.int .i64 t1, .int .i64 t2]] rfl (by (try simp only [List.map_toArray, List.map_cons, List.map_nil]); first | done | rfl | (simp only [List.length_drop, List.length_take]; rfl)) ?_; (with_reducible refine (spec_SeparatedPairs.calls k t1 t2 s1 c2 _ A2.out).mono ?_); rintro e w_ ⟨vs, rfl, hs, hb⟩; refine ⟨_, rfl, ?_⟩; replace BK := kb BK hb; obtain ⟨M, hM⟩ : ∃ m_, m_ = w_.heap.size := ⟨_, rfl⟩; have HM := Aside0.mk (show M ≤ w_.heap.size by rw [hM]; exact Nat.le_refl _); have HGM := Aside0.mk (show ga < M by rw [hM]; exact blk_lt BK.out); have HN := Aside0.mk (show Kd.N (Kd.slice 2 (Kd.int .i64)) 39 w_ w.heap.size (fun k_ => k_ < M) vs s1 by rw [hM]; exact Kd.N_mono (Kd.N_bound (Kd.N_lower (hs) (below_size (bb HB)))) (fun _ h_ => h_.2)); replace HB := bs HB hb; clear hb hs hM; obtain ⟨As, cs, es⟩ := Kd.N_slice HN.out; subst es; have ⟨a0, a1, b0, b1⟩ := q2f BK)
    | ((with_reducible refine gate_callee (f := 28) rfl ?_); refine goesL_ (some 19) rfl rfl Try.func28 (by kernel_rfl) rfl #[.agg #[.int .i64 a0_0, .int .i64 a0_1]] rfl (by (try simp only [List.map_toArray, List.map_cons, List.map_nil]); first | done | rfl | (simp only [List.length_drop, List.length_take]; rfl)) ?_; (with_reducible refine (laws_toAngle.calls a0_0 a0_1 t1 t2 _ A1.out).mono ?_); rintro e w_ ⟨rfl, hb⟩; refine ⟨_, rfl, ?_⟩; replace BK := kb BK hb; replace HM := ml HM hb; replace HN := Aside0.mk (Kd.N_below (nk HN) hb); replace HB := bs HB hb; clear hb; have ⟨a0, a1, b0, b1⟩ := q2f BK)
    | ((with_reducible refine gate_callee (f := 28) rfl ?_); refine goesL_ (some 45) rfl rfl Try.func28 (by kernel_rfl) rfl #[.agg #[.int .i64 a0_0, .int .i64 a0_1]] rfl (by (try simp only [List.map_toArray, List.map_cons, List.map_nil]); first | done | rfl | (simp only [List.length_drop, List.length_take]; rfl)) ?_; (with_reducible refine (laws_toAngle.calls a0_0 a0_1 t1 t2 _ A1.out).mono ?_); rintro e w_ ⟨rfl, hb⟩; refine ⟨_, rfl, ?_⟩; replace BK := kb BK hb; replace HM := ml HM hb; replace HN := Aside0.mk (Kd.N_below (nk HN) hb); replace HS := Aside0.mk (Kd.S_below (sk HS) hb); replace HB := bs HB hb; clear hb; have ⟨a0, a1, b0, b1⟩ := q2f BK)
    | ((with_reducible refine gate_callee (f := 29) rfl ?_); refine goesL_ (some 20) rfl rfl Try.func29 (by kernel_rfl) rfl #[.agg #[.int .i64 t1, .int .i64 t2]] rfl (by (try simp only [List.map_toArray, List.map_cons, List.map_nil]); first | done | rfl | (simp only [List.length_drop, List.length_take]; rfl)) ?_; (with_reducible refine (impl_SeparatedPairs.calls k t1 t2 g1 c2 _ A3.out).mono ?_); rintro e w_ ⟨vg, rfl, hs, hb⟩; refine ⟨_, rfl, ?_⟩; have HS := Aside0.mk (show Kd.S (Kd.slice 2 (Kd.int .i64)) 39 w_ w.heap.size (fun k_ => M ≤ k_) vg g1 from Kd.S_lower (Kd.S_mono (Kd.S_bound hs) (fun _ h_ => Nat.le_trans (mk_ HM) h_.2.1)) (below_size (bb HB))); replace BK := kb BK hb; replace HM := ml HM hb; replace HN := Aside0.mk (Kd.N_below (nk HN) hb); replace HB := bs HB hb; clear hb hs; obtain ⟨Ag, cg, eg⟩ := Kd.S_slice HS.out; subst eg; have ⟨a0, a1, b0, b1⟩ := q2f BK)
    | ((with_reducible refine gate_callee (f := 23) rfl ?_); refine goesL_ (some 25) rfl rfl Try.func23 (by kernel_rfl) rfl #[.slice Ag g1.length cg, .slice As s1.length cs] rfl (by (try simp only [List.map_toArray, List.map_cons, List.map_nil]); first | done | rfl | (simp only [List.length_drop, List.length_take]; rfl)) ?_; (with_reducible refine (laws_eqInt64SS.calls k Ag cg g1 As cs s1 true _ (Kd.S_reads' (sk HS)).2.2 (Kd.S_reads' HS.out).2.1 (Kd.N_reads' (nk HN)).2.2 (Kd.N_reads' HN.out).2.1 A4.out).mono ?_); rintro e w_ ⟨rfl, m_, rfl⟩; refine ⟨_, rfl, ?_⟩; skip)
    | ((with_reducible refine gate_callee (f := 24) rfl ?_); refine goesL_ (some 34) rfl rfl Try.func24 (by kernel_rfl) rfl #[.slice Ag g1.length cg, .int .i64 1] rfl (by (try simp only [List.map_toArray, List.map_cons, List.map_nil]); first | done | rfl | (simp only [List.length_drop, List.length_take]; rfl)) ?_; (with_reducible refine (laws_markInt64SS.calls k (fun k_ => M ≤ k_) _ g1 1 q m2 w _ (bb HB) (sk HS) A5.out).mono ?_); rintro e w_ ⟨rfl, hs, hb, hk⟩; refine ⟨_, rfl, ?_⟩; replace HS := Aside0.mk (show Kd.S (Kd.slice 2 (Kd.int .i64)) 39 w_ w.heap.size (fun k_ => M ≤ k_) (.slice Ag g1.length cg) m2 from Kd.S_mono hs (fun _ h_ => h_.elim id (fun h2_ => Nat.le_trans (mk_ HM) h2_))); replace BK := Aside0.mk (show w_.heap[ga]? = _ from (hk.2 ga (blk_lt (bk BK)) (Nat.not_le.2 HGM.out)).trans (bk BK)); replace HN := Aside0.mk (Kd.N_kept (nk HN) hk (fun _ h_ h2_ => absurd h_ (Nat.not_lt.2 h2_))); replace HM := Aside0.mk (Nat.le_trans (mk_ HM) hk.1); replace HB := Aside0.mk hb; clear hs hb hk; have hl_ := (Kd.S_reads' HS.out).1; have HL := Aside0.mk hl_; clear hl_; have ⟨a0, a1, b0, b1⟩ := q2f BK)
    | ((with_reducible refine gate_callee (f := 30) rfl ?_); refine goesL_ (some 37) rfl rfl Try.func30 (by kernel_rfl) rfl #[.slice Ag g1.length cg, .int .i64 1] rfl (by (try simp only [List.map_toArray, List.map_cons, List.map_nil]); first | done | rfl | (simp only [List.length_drop, List.length_take]; rfl)) ?_; (with_reducible refine (laws_FnExactSeparatedPairs.held_ k Ag cg m2 g1.length 1 q _ HL.out (Kd.S_reads' (sk HS)).2.2 (Nat.le_trans (Nat.le_of_eq HL.out.symm) (Kd.S_reads' HS.out).2.1) A6.out).mono ?_); rintro e w_ ⟨rfl, m_, rfl⟩; refine ⟨_, rfl, ?_⟩; skip)
    | ((with_reducible refine gate_callee (f := 30) rfl ?_); refine goesL_ (some 60) rfl rfl Try.func30 (by kernel_rfl) rfl #[.slice Ag g1.length cg, .int .i64 1] rfl (by (try simp only [List.map_toArray, List.map_cons, List.map_nil]); first | done | rfl | (simp only [List.length_drop, List.length_take]; rfl)) ?_; (with_reducible refine (laws_FnExactSeparatedPairs.held_ k Ag cg m2 g1.length 1 q _ HL.out (Kd.S_reads' (sk HS)).2.2 (Nat.le_trans (Nat.le_of_eq HL.out.symm) (Kd.S_reads' HS.out).2.1) A6.out).mono ?_); rintro e w_ ⟨rfl, m_, rfl⟩; refine ⟨_, rfl, ?_⟩; skip)
    | ((with_reducible refine gate_callee (f := 29) rfl ?_); refine goesL_ (some 46) rfl rfl Try.func29 (by kernel_rfl) rfl #[.agg #[.int .i64 t1, .int .i64 t2]] rfl (by (try simp only [List.map_toArray, List.map_cons, List.map_nil]); first | done | rfl | (simp only [List.length_drop, List.length_take]; rfl)) ?_; (with_reducible refine (impl_SeparatedPairs.calls k t1 t2 g1 c2 _ A3.out).mono ?_); rintro e w_ ⟨vh, rfl, hs, hb⟩; refine ⟨_, rfl, ?_⟩; have HT := Aside0.mk (show Kd.S (Kd.slice 2 (Kd.int .i64)) 39 w_ w.heap.size (fun _ => True) vh g1 from Kd.S_lower hs (below_size (bb HB))); replace BK := kb BK hb; replace HN := Aside0.mk (Kd.N_below (nk HN) hb); replace HS := Aside0.mk (Kd.S_below (sk HS) hb); replace HB := bs HB hb; clear hb hs; obtain ⟨Ah, ch, eh⟩ := Kd.S_slice HT.out; subst eh; have ⟨a0, a1, b0, b1⟩ := q2f BK)
    | ((with_reducible refine gate_callee (f := 23) rfl ?_); refine goesL_ (some 51) rfl rfl Try.func23 (by kernel_rfl) rfl #[.slice Ah g1.length ch, .slice As s1.length cs] rfl (by (try simp only [List.map_toArray, List.map_cons, List.map_nil]); first | done | rfl | (simp only [List.length_drop, List.length_take]; rfl)) ?_; (with_reducible refine (laws_eqInt64SS.calls k Ah ch g1 As cs s1 true _ (Kd.S_reads' (sk HT)).2.2 (Kd.S_reads' HT.out).2.1 (Kd.N_reads' (nk HN)).2.2 (Kd.N_reads' HN.out).2.1 A4.out).mono ?_); rintro e w_ ⟨rfl, m_, rfl⟩; refine ⟨_, rfl, ?_⟩; skip))
          go_ret
          exact ⟨rfl, bb HB⟩
        · simp [if_neg hm] at h
    · simp [if_neg hc] at h
end

end Go.Proofs.Ytngffoffjiofbaa.Q
end
section
/- Angles as fractions in lowest terms: plain arithmetic, no program. -/
namespace Go.Proofs.Ytngffoffjiofbaa.Ang
/-- A part of a turn, without whole turns, in lowest terms. -/
def ang (n d : Int) : Int × Int := ((n % d) / Int.gcd (n % d) d, d / Int.gcd (n % d) d)
/-- Is it an angle. -/
def isA (n d : Int) : Bool := decide (1 ≤ d ∧ d ≤ 8191 ∧ 0 ≤ n ∧ n ≤ d - 1 ∧ Int.gcd n d = 1)
/-- Is it an angle but for the bound on its Den. -/
def wide (n d : Int) : Prop := 1 ≤ d ∧ 0 ≤ n ∧ n < d ∧ Int.gcd n d = 1

theorem isA_iff {n d : Int} : isA n d = true ↔ 1 ≤ d ∧ d ≤ 8191 ∧ 0 ≤ n ∧ n ≤ d - 1 ∧ Int.gcd n d = 1 := by simp [isA]
theorem isA_wide {n d : Int} (h : isA n d = true) : wide n d := by
  obtain ⟨a, b, c, e, f⟩ := isA_iff.1 h
  exact ⟨a, c, by omega, f⟩

theorem gcd_pos {n d : Int} (hd : 0 < d) : (0 : Int) < (Int.gcd n d : Int) := by
  have := Int.gcd_pos_iff.2 (show n ≠ 0 ∨ d ≠ 0 from .inr (by omega))
  omega
theorem gcd_le {n d : Int} (hd : 0 < d) : (Int.gcd n d : Int) ≤ d := by
  exact Int.le_of_dvd hd (Int.gcd_dvd_right _ _)

theorem ang_den_pos {n d : Int} (hd : 0 < d) : 0 < (ang n d).2 := by
  have h1 := gcd_pos (n := n % d) hd
  have h2 := gcd_le (n := n % d) hd
  exact Int.ediv_pos_of_pos_of_dvd hd (by omega) (Int.gcd_dvd_right _ _)

theorem ang_den_le {n d : Int} (hd : 0 < d) : (ang n d).2 ≤ d := Int.ediv_le_self _ (by omega)

/-- The two parts, times the divisor. -/
theorem ang_mul {n d : Int} (hd : 0 < d) : ∃ g : Int, 0 < g ∧ (ang n d).1 * g = n % d ∧ (ang n d).2 * g = d := by
  refine ⟨Int.gcd (n % d) d, gcd_pos hd, ?_, ?_⟩
  · exact Int.ediv_mul_cancel (Int.gcd_dvd_left _ _)
  · exact Int.ediv_mul_cancel (Int.gcd_dvd_right _ _)

theorem ang_wide {n d : Int} (hd : 0 < d) : wide (ang n d).1 (ang n d).2 := by
  obtain ⟨g, hg, h1, h2⟩ := ang_mul (n := n) hd
  have hn := Int.emod_nonneg n (show d ≠ 0 by omega)
  have hl := Int.emod_lt_of_pos n hd
  have hp := ang_den_pos (n := n) hd
  have hn0 : 0 ≤ (ang n d).1 := by
    unfold ang
    exact Int.ediv_nonneg hn (by omega)
  refine ⟨by omega, hn0, ?_, ?_⟩
  · have : (ang n d).1 * g < (ang n d).2 * g := by omega
    exact (Int.mul_lt_mul_right hg).1 this
  · unfold ang
    have hg2 := gcd_pos (n := n % d) hd
    rw [Int.gcd_ediv (Int.gcd_dvd_left _ _) (Int.gcd_dvd_right _ _), Int.natAbs_natCast]
    exact Nat.div_self (by omega)

/-- What is in lowest terms is told as it is. -/
theorem ang_self {n d : Int} (h : wide n d) : ang n d = (n, d) := by
  obtain ⟨h1, h2, h3, h4⟩ := h
  unfold ang
  rw [Int.emod_eq_of_lt h2 h3, h4]
  simp

/-- What two have in common falls away. -/
theorem ang_scale {g n d : Int} (hg : 0 < g) (hd : 0 < d) : ang (g * n) (g * d) = ang n d := by
  unfold ang
  rw [Int.mul_emod_mul_of_pos _ _ hg, Int.gcd_mul_left]
  have hgg := gcd_pos (n := n % d) hd
  have e : ((g.natAbs * Int.gcd (n % d) d : Nat) : Int) = g * (Int.gcd (n % d) d : Int) := by
    rw [Int.natCast_mul, Int.natAbs_of_nonneg (by omega)]
  rw [e, Int.mul_ediv_mul_of_pos _ _ hg, Int.mul_ediv_mul_of_pos _ _ hg]

theorem ang_emod {n d : Int} : ang (n % d) d = ang n d := by
  unfold ang
  rw [Int.emod_emod_of_dvd _ (Int.dvd_refl d)]

theorem ang_congr {n m d : Int} (h : n % d = m % d) : ang n d = ang m d := by
  unfold ang
  rw [h]

/-- Two in lowest terms of one size are one. -/
theorem wide_eq {a b c d : Int} (h : wide a b) (k : wide c d) (e : a * d = c * b) : a = c ∧ b = d := by
  have h1 := ang_self h
  have h2 := ang_self k
  have e1 : ang (d * a) (d * b) = (a, b) := by rw [ang_scale (by have := k.1; omega) (by have := h.1; omega), h1]
  have e2 : ang (b * c) (b * d) = (c, d) := by rw [ang_scale (by have := h.1; omega) (by have := k.1; omega), h2]
  rw [show d * a = b * c by rw [Int.mul_comm, e, Int.mul_comm], show d * b = b * d from Int.mul_comm _ _, e2] at e1
  simp only [Prod.mk.injEq] at e1
  exact ⟨e1.1.symm, e1.2.symm⟩

/-- Back from an angle forward: the angle that is lacking. -/
theorem ang_neg {n d : Int} (hd : 0 < d) : ang (-(ang n d).1) (ang n d).2 = ang (-n) d := by
  obtain ⟨g, hg, h1, h2⟩ := ang_mul (n := n) hd
  rw [← ang_scale hg (ang_den_pos hd)]
  have e1 : g * -(ang n d).1 = -(n % d) := by rw [← h1]; grind
  have e2 : g * (ang n d).2 = d := by rw [Int.mul_comm]; exact h2
  rw [e1, e2]
  apply ang_congr
  have := Int.emod_add_mul_ediv n d
  have e3 : -(n % d) = -n + d * (n / d) := by omega
  rw [e3, Int.add_mul_emod_self_left]

/-- Is the first less. -/
def lt (a b : Int × Int) : Prop := a.1 * b.2 < b.1 * a.2
instance (a b : Int × Int) : Decidable (lt a b) := by unfold lt; exact inferInstance

theorem lt_irrefl (a : Int × Int) : ¬ lt a a := by unfold lt; omega
theorem lt_asymm {a b : Int × Int} (h : lt a b) : ¬ lt b a := by unfold lt at *; omega
theorem lt_trans {a b c : Int × Int} (ha : 0 < a.2) (hb : 0 < b.2) (hc : 0 < c.2) (h : lt a b) (k : lt b c) : lt a c := by
  unfold lt at *
  have h1 : a.1 * b.2 * c.2 < b.1 * a.2 * c.2 := (Int.mul_lt_mul_right hc).2 h
  have h2 : b.1 * c.2 * a.2 < c.1 * b.2 * a.2 := (Int.mul_lt_mul_right ha).2 k
  have h3 : a.1 * c.2 * b.2 < c.1 * a.2 * b.2 := by
    have e1 : a.1 * c.2 * b.2 = a.1 * b.2 * c.2 := by grind
    have e2 : b.1 * a.2 * c.2 = b.1 * c.2 * a.2 := by grind
    have e3 : c.1 * a.2 * b.2 = c.1 * b.2 * a.2 := by grind
    omega
  exact (Int.mul_lt_mul_right hb).1 h3
theorem lt_or {a b : Int × Int} (ha : wide a.1 a.2) (hb : wide b.1 b.2) (h : a ≠ b) : lt a b ∨ lt b a := by
  unfold lt
  by_cases e : a.1 * b.2 = b.1 * a.2
  · obtain ⟨e1, e2⟩ := wide_eq ha hb e
    exact absurd (Prod.ext e1 e2) h
  · omega

/-- The angle from a forward to b. -/
def fwd (a b : Int × Int) : Int × Int := ang (b.1 * a.2 - a.1 * b.2) (b.2 * a.2)

/-- How far it is forward, in parts of the turn. -/
theorem fwd_val {a b : Int × Int} (ha : wide a.1 a.2) (hb : wide b.1 b.2) :
    (b.1 * a.2 - a.1 * b.2) % (b.2 * a.2) = b.1 * a.2 - a.1 * b.2 + (if lt b a then b.2 * a.2 else 0) := by
  obtain ⟨a1, a2, a3, _⟩ := ha
  obtain ⟨b1, b2, b3, _⟩ := hb
  have p1 : b.1 * a.2 < b.2 * a.2 := (Int.mul_lt_mul_right (by omega)).2 b3
  have p2 : a.1 * b.2 < b.2 * a.2 := by rw [Int.mul_comm b.2]; exact (Int.mul_lt_mul_right (by omega)).2 a3
  have p3 : 0 ≤ b.1 * a.2 := Int.mul_nonneg b2 (by omega)
  have p4 : 0 ≤ a.1 * b.2 := Int.mul_nonneg a2 (by omega)
  by_cases h : lt b a
  · rw [if_pos h]
    unfold lt at h
    rw [← Int.add_emod_right, Int.emod_eq_of_lt (by omega) (by omega)]
  · rw [if_neg h]
    unfold lt at h
    rw [Int.emod_eq_of_lt (by omega) (by omega)]
    omega

/-- Of two that differ from a and from each other, the one behind the other in the arc. -/
theorem fwd_lt {a b c : Int × Int} (ha : wide a.1 a.2) (hb : wide b.1 b.2) (hc : wide c.1 c.2) :
    lt (fwd a b) (fwd a c) ↔ (if lt b a then (if lt c a then lt b c else False) else (if lt c a then True else lt b c)) := by
  have A := ha.1; have B := hb.1; have C := hc.1
  have hba : 0 < b.2 * a.2 := Int.mul_pos (by omega) (by omega)
  have hca : 0 < c.2 * a.2 := Int.mul_pos (by omega) (by omega)
  obtain ⟨g, hg, g1, g2⟩ := ang_mul (n := b.1 * a.2 - a.1 * b.2) hba
  obtain ⟨h, hh, h1, h2⟩ := ang_mul (n := c.1 * a.2 - a.1 * c.2) hca
  rw [fwd_val ha hb] at g1
  rw [fwd_val ha hc] at h1
  have key : lt (fwd a b) (fwd a c) ↔ (b.1 * a.2 - a.1 * b.2 + (if lt b a then b.2 * a.2 else 0)) * (c.2 * a.2) < (c.1 * a.2 - a.1 * c.2 + (if lt c a then c.2 * a.2 else 0)) * (b.2 * a.2) := by
    have e0 : (fwd a b).1 * g = _ := g1
    have e1 : (fwd a b).2 * g = b.2 * a.2 := g2
    have e3 : (fwd a c).1 * h = _ := h1
    have e2 : (fwd a c).2 * h = c.2 * a.2 := h2
    rw [← e0, ← e3, ← e1, ← e2]
    unfold lt
    have f1 : (fwd a b).1 * g * ((fwd a c).2 * h) = (fwd a b).1 * (fwd a c).2 * (g * h) := by grind
    have f2 : (fwd a c).1 * h * ((fwd a b).2 * g) = (fwd a c).1 * (fwd a b).2 * (g * h) := by grind
    rw [f1, f2]
    exact (Int.mul_lt_mul_right (Int.mul_pos hg hh)).symm
  rw [key]
  have fac : ∀ (x y : Int), (b.1 * a.2 - a.1 * b.2 + x * (b.2 * a.2)) * (c.2 * a.2) < (c.1 * a.2 - a.1 * c.2 + y * (c.2 * a.2)) * (b.2 * a.2) ↔ b.1 * c.2 + x * (b.2 * c.2) < c.1 * b.2 + y * (b.2 * c.2) := by
    intro x y
    have f1 : (b.1 * a.2 - a.1 * b.2 + x * (b.2 * a.2)) * (c.2 * a.2) = (b.1 * c.2 + x * (b.2 * c.2)) * (a.2 * a.2) - a.1 * b.2 * (c.2 * a.2) := by grind
    have f2 : (c.1 * a.2 - a.1 * c.2 + y * (c.2 * a.2)) * (b.2 * a.2) = (c.1 * b.2 + y * (b.2 * c.2)) * (a.2 * a.2) - a.1 * b.2 * (c.2 * a.2) := by grind
    rw [f1, f2]
    have hp : 0 < a.2 * a.2 := Int.mul_pos (by omega) (by omega)
    have z := Int.mul_lt_mul_right (b := b.1 * c.2 + x * (b.2 * c.2)) (c := c.1 * b.2 + y * (b.2 * c.2)) hp
    omega
  have bc : 0 < b.2 * c.2 := Int.mul_pos (by omega) (by omega)
  have q1 : b.1 * c.2 < b.2 * c.2 := (Int.mul_lt_mul_right (by omega)).2 hb.2.2.1
  have q2 : c.1 * b.2 < b.2 * c.2 := by rw [Int.mul_comm b.2]; exact (Int.mul_lt_mul_right (by omega)).2 hc.2.2.1
  have q3 : 0 ≤ b.1 * c.2 := Int.mul_nonneg hb.2.1 (by omega)
  have q4 : 0 ≤ c.1 * b.2 := Int.mul_nonneg hc.2.1 (by omega)
  have ee : ∀ (p : Prop) [Decidable p] (z : Int), (if p then z else 0) = (if p then 1 else 0) * z := by
    intro p _ z
    split <;> simp
  rw [ee (lt b a), ee (lt c a), fac]
  by_cases u : lt b a <;> by_cases v : lt c a <;> simp only [u, v, if_true, if_false, iff_true, iff_false] <;> (try unfold lt) <;> omega

/-- Is x in the arc from a to b (as the document's reference has it). -/
def within (x a b : Int × Int) : Bool := if lt a b then decide (lt a x) && decide (lt x b) else decide (lt a x) || decide (lt x b)

/-- The cyclic order by what is forward, and by arcs. -/
theorem order_within {a b c : Int × Int} (ha : wide a.1 a.2) (hb : wide b.1 b.2) (hc : wide c.1 c.2) (hab : a ≠ b) (hbc : b ≠ c) (hac : a ≠ c) :
    decide (lt (fwd a b) (fwd a c)) = within b a c := by
  have h := fwd_lt ha hb hc
  have t1 := lt_or ha hb hab
  have t2 := lt_or hb hc hbc
  have t3 := lt_or ha hc hac
  have s1 : ¬ (lt a b ∧ lt b a) := fun z => lt_asymm z.1 z.2
  have s2 : ¬ (lt b c ∧ lt c b) := fun z => lt_asymm z.1 z.2
  have s3 : ¬ (lt a c ∧ lt c a) := fun z => lt_asymm z.1 z.2
  unfold within
  by_cases u : lt a b <;> by_cases v : lt b a <;> by_cases p : lt b c <;> by_cases q : lt c b <;> by_cases m : lt a c <;> by_cases n : lt c a <;> simp_all

theorem order_within_ne {a b c : Int × Int} (ha : wide a.1 a.2) (hb : wide b.1 b.2) (hc : wide c.1 c.2) (hac : a ≠ c) (h : within b a c = true) : a ≠ b ∧ b ≠ c := by
  unfold within at h
  have t3 := lt_or ha hc hac
  constructor
  · rintro rfl
    have := lt_irrefl a
    by_cases u : lt a c
    · simp [u, this] at h
    · simp [u, this] at h
  · rintro rfl
    have := lt_irrefl b
    by_cases u : lt a b
    · simp [u, this] at h
    · simp [u, this] at h

/-! A number that all dens divide: sizes as whole numbers. -/
theorem exists_mult : ∀ n : Nat, ∃ L : Int, 0 < L ∧ ∀ d : Int, 1 ≤ d → d ≤ n → d ∣ L
  | 0 => ⟨1, by omega, fun d h1 h2 => by omega⟩
  | n + 1 => by
    obtain ⟨L, hL, h⟩ := exists_mult n
    refine ⟨L * (n + 1 : Nat), Int.mul_pos hL (by omega), fun d h1 h2 => ?_⟩
    by_cases e : d = (n + 1 : Nat)
    · subst e
      exact Int.dvd_mul_left _ _
    · exact Int.dvd_trans (h d h1 (by omega)) (Int.dvd_mul_right _ _)
def denMax : Nat := 1152921504606846976
noncomputable def bigL : Int := Classical.choose (exists_mult denMax)
theorem bigL_pos : 0 < bigL := (Classical.choose_spec (exists_mult denMax)).1
theorem bigL_dvd {d : Int} (h1 : 1 ≤ d) (h2 : d ≤ denMax) : d ∣ bigL := (Classical.choose_spec (exists_mult denMax)).2 d h1 h2
/-- The size of an angle, as a whole number. -/
noncomputable def key (a : Int × Int) : Int := a.1 * (bigL / a.2)
theorem lt_key {a b : Int × Int} (ha : 1 ≤ a.2) (ha' : a.2 ≤ denMax) (hb : 1 ≤ b.2) (hb' : b.2 ≤ denMax) : lt a b ↔ key a < key b := by
  have h1 : bigL / a.2 * a.2 = bigL := Int.ediv_mul_cancel (bigL_dvd ha ha')
  have h2 : bigL / b.2 * b.2 = bigL := Int.ediv_mul_cancel (bigL_dvd hb hb')
  have hp : 0 < a.2 * b.2 := Int.mul_pos (by omega) (by omega)
  have z := Int.mul_lt_mul_right (b := key a) (c := key b) hp
  have e1 : key a * (a.2 * b.2) = (a.1 * b.2) * bigL := by unfold key; rw [← h1]; grind
  have e2 : key b * (a.2 * b.2) = (b.1 * a.2) * bigL := by unfold key; rw [← h2]; grind
  rw [e1, e2, Int.mul_lt_mul_right bigL_pos] at z
  exact z
theorem key_inj {a b : Int × Int} (ha : wide a.1 a.2) (ha' : a.2 ≤ denMax) (hb : wide b.1 b.2) (hb' : b.2 ≤ denMax) : key a = key b ↔ a = b := by
  constructor
  · intro h
    by_cases e : a = b
    · exact e
    · rcases lt_or ha hb e with z | z
      · rw [lt_key ha.1 ha' hb.1 hb'] at z; omega
      · rw [lt_key hb.1 hb' ha.1 ha'] at z; omega
  · rintro rfl; rfl

/-- Two leaves cross, asked from either one: in whole numbers. -/
theorem cross_int (P Q R S : Int) (h : P < Q) (k : R < S) :
    (((if P = R ∨ R = Q ∨ P = Q then (0:Int) else if (if P < Q then decide (P < R) && decide (R < Q) else decide (P < R) || decide (R < Q)) = true then 1 else -1) * (if P = S ∨ S = Q ∨ P = Q then (0:Int) else if (if P < Q then decide (P < S) && decide (S < Q) else decide (P < S) || decide (S < Q)) = true then 1 else -1)) == -1)
      = (if P = R ∨ P = S ∨ Q = R ∨ Q = S then false else ((if R < S then decide (R < P) && decide (P < S) else decide (R < P) || decide (P < S)) != (if R < S then decide (R < Q) && decide (Q < S) else decide (R < Q) || decide (Q < S)))) := by
  rcases Int.lt_trichotomy P R with a | a | a <;> rcases Int.lt_trichotomy P S with b | b | b <;> rcases Int.lt_trichotomy Q R with c | c | c <;> rcases Int.lt_trichotomy Q S with d | d | d <;> first | omega | (simp [h, k, a, b, c, d, Int.lt_asymm a, Int.lt_asymm b, Int.lt_asymm c, Int.lt_asymm d, Int.ne_of_lt]; done) | (simp_all; omega) | grind
end Go.Proofs.Ytngffoffjiofbaa.Ang
end
section
-- By wip/hyb/hyb.py of this session, over the kit's print.py
namespace Go.Proofs.Ytngffoffjiofbaa.Q
open Go.Proofs.YtngffoffjiofbaaW.Ext
open Go.RowKit Go.Proofs.YtngffoffjiofbaaW.PrintWords Go.Proofs.YtngffoffjiofbaaW.PrintLast Go.Proofs.YtngffoffjiofbaaW.PrintMore
attribute [local go_sem] max2_int min2_int max_two min_two max_three min_three max_four min_four   -- for this text's walks alone
set_option linter.unusedVariables false
set_option linter.unusedSimpArgs false

/-! ### areAll at Angle, and what it calls -/
set_option maxHeartbeats 1000000 in
theorem indexFunc_Angle.calls (g : Nat) (lb : Array Value) (eg : ∀ args w, (callFunc g args).run Try.prog w = .ok (.enter g args) w) (p : S51 → Option Bool) (A0 : Option Addr) (c0 : Nat) (l0 : List S51) (r : Int) (w : World)
    (hr0 : Kd.C k51 w A0 l0.length l0) (hc0 : l0.length ≤ c0)
    (hp : ∀ W x b, Below w.heap.size w W → p x = some b → Calls Try.prog g (#[.agg #[.int .i64 x.f0, .int .i64 x.f1]] ++ lb) W fun e w' => e = .returned (.bool b) ∧ Below W.heap.size W w')
    (h : idxGo p 0 l0 = some r) :
    Calls Try.prog 105 #[.slice A0 l0.length c0, .func (.func g) #[] lb] w fun e w' => e = .returned (.int .i64 r) ∧ Below w.heap.size w w' := by
  have hm := Kd.C_max hr0
  have HR := Aside0.mk hr0
  have H0 := Aside0.mk h
  have HP := Aside0.mk hp
  clear hr0 h hp
  go_enter Try.func105, Try.ntmps105
  go_wp2
  go_loopg [8] l0.length (fun gg i wr => ∃ k : Nat, k ≤ l0.length ∧ l0.length - k ≤ gg ∧ i = .int .i64 k ∧ Aside0 (idxGo p k (l0.drop k) = some r) ∧ Aside0 (Below w.heap.size w wr))
  case atStart => exact ⟨0, Nat.zero_le _, by omega, rfl, Aside0.mk (by simpa using H0.out), Aside0.mk (Below.refl _ _)⟩
  case round =>
    obtain ⟨k, hk, hg, rfl, HJ, HB⟩ := hrel
    clear H0
    by_cases hlt : k < l0.length
    · have hlti : (k : Int) < (l0.length : Int) := by omega
      obtain ⟨b, hb, hstep⟩ := idxGo_drop p l0 k k r hlt HJ.out
      obtain ⟨ad, e, e0, e1⟩ := at_T51 (Kd.C_below HR.out HB.out) (k : Int) (by omega) hlti
      have hx : rd_T51 l0 (k : Int) = l0[k] := by simp [rd_T51, hlt]
      rw [hx] at e0 e1
      simp only [Int.toNat_natCast] at e0 e1
      generalize l0[k] = x at hb e0 e1
      have hcall := HP.out wr x b HB.out hb
      subst e
      rcases hstep with ⟨rfl, rfl⟩ | ⟨rfl, hj⟩
      · have HC := Aside0.mk hcall
        have HB1 := HB.out
        clear hcall hb hx HP HJ
        go_wp2_with (go_at_fn g; refine HC.out.mono ?_; rintro e w' ⟨rfl, hb'⟩)
        go_ret
        exact ⟨rfl, HB1.trans (hb'.mono HB1.size)⟩
      · have HC := Aside0.mk hcall
        have HJ2 := Aside0.mk hj
        clear hcall hb hx hj
        go_wp2_with (go_at_fn g; refine HC.out.mono ?_; rintro e w' ⟨rfl, hb'⟩)
        go_roundg (l0.length - (k + 1))
        case measure => omega
        case rel => exact ⟨k + 1, by omega, by omega, by go_num, ⟨by simpa using HJ2.out⟩, ⟨HB.out.trans (hb'.mono HB.out.size)⟩⟩
    · have hlti : ¬ (k : Int) < (l0.length : Int) := by omega
      have hr : r = -1 := idxGo_end p l0 k k r (by omega) HJ.out
      have HR1 := Aside0.mk hr
      have HB1 := HB.out
      clear hr HP HJ
      go_wp2
      go_ret
      exact ⟨by rw [HR1.out]; rfl, HB1⟩
set_option maxHeartbeats 1000000 in
theorem containsFunc_Angle.calls (g : Nat) (lb : Array Value) (eg : ∀ args w, (callFunc g args).run Try.prog w = .ok (.enter g args) w) (p : S51 → Option Bool) (A0 : Option Addr) (c0 : Nat) (l0 : List S51) (r : Int) (w : World)
    (hr0 : Kd.C k51 w A0 l0.length l0) (hc0 : l0.length ≤ c0)
    (hp : ∀ W x b, Below w.heap.size w W → p x = some b → Calls Try.prog g (#[.agg #[.int .i64 x.f0, .int .i64 x.f1]] ++ lb) W fun e w' => e = .returned (.bool b) ∧ Below W.heap.size W w')
    (h : idxGo p 0 l0 = some r) :
    Calls Try.prog 102 #[.slice A0 l0.length c0, .func (.func g) #[] lb] w fun e w' => e = .returned (.bool (decide (0 ≤ r))) ∧ Below w.heap.size w w' := by
  have hcon := indexFunc_Angle.calls g lb eg p A0 c0 l0 r w hr0 hc0 hp h
  have HC := Aside0.mk hcon
  clear hcon hp h hr0
  go_enter Try.func102, Try.ntmps102
  go_wp2_with (go_at_call 105; refine HC.out.mono ?_; rintro e w' ⟨rfl, hb'⟩)
  go_ret
  exact ⟨rfl, hb'⟩
set_option maxHeartbeats 1000000 in
theorem notIs_Angle.calls (g : Nat) (eg : ∀ args w, (callFunc g args).run Try.prog w = .ok (.enter g args) w) (B : Nat) (w : World) (hcell : w.cell? ⟨B, 0, none⟩ = some (.func (.func g) #[] #[])) (hB : B < w.heap.size) (x : S51) (b : Bool)
    (hp : ∀ W, Below w.heap.size w W → Calls Try.prog g #[.agg #[.int .i64 x.f0, .int .i64 x.f1]] W fun e w' => e = .returned (.bool b) ∧ Below W.heap.size W w') :
    Calls Try.prog 103 #[.agg #[.int .i64 x.f0, .int .i64 x.f1], .pointer (some ⟨B, 0, none⟩)] w fun e w' => e = .returned (.bool (!b)) ∧ Below w.heap.size w w' := by
  have HP := Aside0.mk hp
  have hu := Try.underlying51
  clear hp
  go_enter Try.func103, Try.ntmps103
  go_wp2_with (go_at_fn g; refine (HP.out _ ((Below.refl _ _).alloc (Nat.le_refl _) _)).mono ?_; rintro e w' ⟨rfl, hb'⟩)
  go_ret
  exact ⟨rfl, ((Below.refl _ w).alloc (Nat.le_refl _) _).trans (hb'.mono (by simp))⟩
set_option maxHeartbeats 1000000 in
theorem areAll_Angle.calls (g : Nat) (eg : ∀ args w, (callFunc g args).run Try.prog w = .ok (.enter g args) w) (p : S51 → Option Bool) (A0 : Option Addr) (c0 : Nat) (l0 : List S51) (r : Bool) (w : World)
    (hr0 : Kd.C k51 w A0 l0.length l0) (hc0 : l0.length ≤ c0)
    (hp : ∀ W x b, Below w.heap.size w W → p x = some b → Calls Try.prog g #[.agg #[.int .i64 x.f0, .int .i64 x.f1]] W fun e w' => e = .returned (.bool b) ∧ Below W.heap.size W w')
    (h : allM p l0 = some r) :
    Calls Try.prog 83 #[.slice A0 l0.length c0, .func (.func g) #[] #[]] w fun e w' => e = .returned (.bool r) ∧ Below w.heap.size w w' := by
  obtain ⟨i, h1, h2⟩ := allM_idx p l0 0 r (by omega) h
  have hw1 : Below w.heap.size w (w.alloc (.cells #[.func (.func g) #[] #[]] 63)) := (Below.refl _ w).alloc (Nat.le_refl _) _
  have hcon := containsFunc_Angle.calls 103 #[.pointer (some ⟨w.heap.size, 0, none⟩)] (enters_of Try.func103 (by kernel_rfl) rfl)
    (fun x => (p x).map (fun b => !b)) A0 c0 l0 i (w.alloc (.cells #[.func (.func g) #[] #[]] 63)) (Kd.C_below hr0 hw1) hc0
    (fun W x b hW hx => by
      obtain ⟨q, hq, rfl⟩ := Option.map_eq_some_iff.1 hx
      have hcell : W.cell? ⟨w.heap.size, 0, none⟩ = some (.func (.func g) #[] #[]) := (hW.cell (p := ⟨w.heap.size, 0, none⟩) (by simp)).trans (by simp)
      exact notIs_Angle.calls g eg w.heap.size W hcell (by have := hW.size; simp at this; omega) x q (fun W' hW' => hp W' x q (hw1.trans ((hW.mono (by simp)).trans (hW'.mono (by have := hW.size; simp at this; omega)))) hq)) h1
  have HC := Aside0.mk hcon
  have H2 := Aside0.mk h2
  clear hcon hp h hr0 h1 h2
  go_enter Try.func83, Try.ntmps83
  go_wp2_with (go_at_call 102; refine HC.out.mono ?_; rintro e w' ⟨rfl, hb'⟩)
  go_ret
  exact ⟨by rw [H2.out]; simp, hw1.trans (hb'.mono (by simp))⟩

/-! ### impl_anglesCode: function 47 -/
def impl_anglesCode.f (k : Nat) (l0 : List S51) : Option Int := (allM (fun x => impl_IsAngle.f k x.f0 x.f1) l0).bind fun b => some (if b = true then 0 else 1)
theorem impl_anglesCode.mono : ∀ a0 k, LeO (impl_anglesCode.f k a0) (impl_anglesCode.f (k + 1) a0) := by
  intro l k r h
  unfold impl_anglesCode.f at h ⊢
  cases hb : allM (fun x : S51 => impl_IsAngle.f k x.f0 x.f1) l with
  | none => rw [hb] at h; simp at h
  | some b =>
    rw [hb] at h
    rw [allM_mono (q := fun x : S51 => impl_IsAngle.f (k + 1) x.f0 x.f1) (fun x => impl_IsAngle.mono _ _ k) l b hb]
    exact h
set_option maxHeartbeats 1000000 in
theorem impl_anglesCode.calls (k : Nat) (A0 : Option Addr) (c0 : Nat) (l0 : List S51) (r : Int) (w : World) (hr0 : Kd.C k51 w A0 l0.length l0) (hc0 : l0.length ≤ c0) (h : impl_anglesCode.f k l0 = some r) :
    Calls Try.prog 47 #[.slice A0 l0.length c0] w fun e w' => e = .returned (.int .i64 r) ∧ Below w.heap.size w w' := by
  unfold impl_anglesCode.f at h
  obtain ⟨b, hb, hr⟩ := Option.bind_eq_some_iff.1 h
  have hcon := areAll_Angle.calls 74 (enters_of Try.func74 (by kernel_rfl) rfl) (fun x : S51 => impl_IsAngle.f k x.f0 x.f1) A0 c0 l0 b w hr0 hc0
    (fun W x q _ hx => (impl_IsAngle.calls k _ _ q W hx).mono fun e w' ⟨he, hd⟩ => ⟨he, by first | exact hd | exact hd.below⟩) hb
  have HR := Aside0.mk hr
  clear h hr hb hr0
  cases b with
  | true =>
    go_enter Try.func47, Try.ntmps47
    go_wp2_with (go_at_call 83; refine hcon.mono ?_; rintro e w' ⟨rfl, hb'⟩)
    go_ret
    have hr := HR.out
    simp at hr
    subst hr
    exact ⟨rfl, hb'⟩
  | false =>
    go_enter Try.func47, Try.ntmps47
    go_wp2_with (go_at_call 83; refine hcon.mono ?_; rintro e w' ⟨rfl, hb'⟩)
    go_ret
    have hr := HR.out
    simp at hr
    subst hr
    exact ⟨rfl, hb'⟩

end Go.Proofs.Ytngffoffjiofbaa.Q
end
section
/- What the printed functions on one angle answer: from some number of rounds on, the plain values of AngMath. -/
namespace Go.Proofs.Ytngffoffjiofbaa.Q
open Go.RowKit Go.Proofs.YtngffoffjiofbaaW.PrintWords Go.Proofs.YtngffoffjiofbaaW.PrintLast Go.Proofs.YtngffoffjiofbaaW.Ext Go.Proofs.Ytngffoffjiofbaa.Ang
set_option linter.unusedVariables false

/-- A whole number that fits. -/
theorem wrap_in {x : Int} (h0 : -9223372036854775808 ≤ x) (h1 : x ≤ 9223372036854775807) : wrap64 x = x := by unfold wrap64; omega

theorem ev_if {α : Type} {c : Prop} [Decidable c] {f g : Nat → Option α} {r : α} (h1 : c → Ev f r) (h2 : ¬ c → Ev g r) : Ev (fun k => if c then f k else g k) r := by
  by_cases h : c
  · simp only [if_pos h]; exact h1 h
  · simp only [if_neg h]; exact h2 h

theorem ev_impl_divisor : ∀ (n m : Nat), Ev (fun k => impl_divisor.f k (m : Int) (n : Int)) ((Nat.gcd m n : Nat) : Int) := by
  intro n
  induction n using Nat.strongRecOn with
  | _ n ih =>
    intro m
    refine Ev.step (f := fun k => if (n : Int) = 0 then (some (m : Int)) else impl_divisor.f k (n : Int) (Int.tmod (m : Int) (n : Int))) (fun k => rfl) ?_
    refine ev_if (fun h => ?_) (fun h => ?_)
    · have : n = 0 := by omega
      subst this
      rw [Nat.gcd_zero_right]
      exact Ev.now _
    · have hn : 0 < n := by omega
      have e : Int.tmod (m : Int) (n : Int) = ((m % n : Nat) : Int) := by
        rw [Int.tmod_eq_emod_of_nonneg (by omega)]
        omega
      rw [e]
      have := ih (m % n) (Nat.mod_lt _ hn) n
      rw [show Nat.gcd m n = Nat.gcd n (m % n) by rw [Nat.gcd_comm m n, Nat.gcd_rec n m, Nat.gcd_comm]]
      exact this

theorem ev_spec_divisor : ∀ (n m : Nat), Ev (fun k => spec_l01Divisor.f k (m : Int) (n : Int)) ((Nat.gcd m n : Nat) : Int) := by
  intro n
  induction n using Nat.strongRecOn with
  | _ n ih =>
    intro m
    refine Ev.step (f := fun k => if (n : Int) > 0 then (if (n : Int) = 0 then none else spec_l01Divisor.f k (n : Int) (Int.tmod (m : Int) (n : Int))) else some (m : Int)) (fun k => rfl) ?_
    refine ev_if (fun h => ?_) (fun h => ?_)
    · have hn : 0 < n := by omega
      have e : Int.tmod (m : Int) (n : Int) = ((m % n : Nat) : Int) := by
        rw [Int.tmod_eq_emod_of_nonneg (by omega)]
        omega
      simp only [if_neg (show ¬ (n : Int) = 0 by omega)]
      rw [e]
      have := ih (m % n) (Nat.mod_lt _ hn) n
      rw [show Nat.gcd m n = Nat.gcd n (m % n) by rw [Nat.gcd_comm m n, Nat.gcd_rec n m, Nat.gcd_comm]]
      exact this
    · have : n = 0 := by omega
      subst this
      rw [Nat.gcd_zero_right]
      exact Ev.now _

theorem ev_impl_gcd {a b : Int} (ha : 0 ≤ a) (hb : 0 ≤ b) : Ev (fun k => impl_divisor.f k a b) (Int.gcd a b : Int) := by
  obtain ⟨m, rfl⟩ := Int.eq_ofNat_of_zero_le ha
  obtain ⟨n, rfl⟩ := Int.eq_ofNat_of_zero_le hb
  exact ev_impl_divisor n m
theorem ev_spec_gcd {a b : Int} (ha : 0 ≤ a) (hb : 0 ≤ b) : Ev (fun k => spec_l01Divisor.f k a b) (Int.gcd a b : Int) := by
  obtain ⟨m, rfl⟩ := Int.eq_ofNat_of_zero_le ha
  obtain ⟨n, rfl⟩ := Int.eq_ofNat_of_zero_le hb
  exact ev_spec_divisor n m

theorem ev_impl_IsAngle (n d : Int) : Ev (fun k => impl_IsAngle.f k n d) (isA n d) := by
  unfold impl_IsAngle.f impl_within.f isA
  by_cases h1 : 1 ≤ d
  · by_cases h2 : d ≤ 8191
    · simp only [if_pos h1, decide_eq_true h2, Option.bind_some, if_true]
      rw [wrap_in (show -9223372036854775808 ≤ d - 1 by omega) (by omega)]
      by_cases h3 : 0 ≤ n
      · by_cases h4 : n ≤ d - 1
        · simp only [if_pos h3, decide_eq_true h4, Option.bind_some, if_true]
          refine Ev.bind (ev_impl_gcd (by omega) (by omega)) ?_
          have e : ((Int.gcd d n : Int) == 1) = decide (1 ≤ d ∧ d ≤ 8191 ∧ 0 ≤ n ∧ n ≤ d - 1 ∧ Int.gcd n d = 1) := by
            rw [Int.gcd_comm d n, Bool.eq_iff_iff]
            simp [h1, h2, h3, h4]
            omega
          simp only [e]
          exact Ev.now _
        · simp only [if_pos h3, decide_eq_false h4, Option.bind_some]
          simp [h4]
          exact Ev.now _
      · simp only [if_neg h3, Option.bind_some]
        simp [h3]
        exact Ev.now _
    · simp only [if_pos h1, decide_eq_false h2, Option.bind_some]
      simp [h2]
      exact Ev.now _
  · simp only [if_neg h1, Option.bind_some]
    simp [h1]
    exact Ev.now _

theorem ev_spec_Is (n d : Int) : Ev (fun k => spec_l01Is.f k n d) (isA n d) := by
  unfold spec_l01Is.f spec_l01In.f isA
  by_cases h1 : 1 ≤ d
  · by_cases h2 : d ≤ 8191
    · simp only [ge_iff_le, if_pos h1, decide_eq_true h2, Option.bind_some, if_true]
      rw [wrap_in (show -9223372036854775808 ≤ d - 1 by omega) (by omega)]
      by_cases h3 : 0 ≤ n
      · by_cases h4 : n ≤ d - 1
        · simp only [if_pos h3, decide_eq_true h4, Option.bind_some, if_true]
          refine Ev.bind (ev_spec_gcd (by omega) (by omega)) ?_
          have e : ((Int.gcd n d : Int) == 1) = decide (1 ≤ d ∧ d ≤ 8191 ∧ 0 ≤ n ∧ n ≤ d - 1 ∧ Int.gcd n d = 1) := by
            rw [Bool.eq_iff_iff]
            simp [h1, h2, h3, h4]
            omega
          simp only [e]
          exact Ev.now _
        · simp only [if_pos h3, decide_eq_false h4, Option.bind_some]
          simp [h4]
          exact Ev.now _
      · simp only [if_neg h3, Option.bind_some]
        simp [h3]
        exact Ev.now _
    · simp only [ge_iff_le, if_pos h1, decide_eq_false h2, Option.bind_some]
      simp [h2]
      exact Ev.now _
  · simp only [ge_iff_le, if_neg h1, Option.bind_some]
    simp [h1]
    exact Ev.now _

theorem tmod_turn {n d : Int} (hd : 0 < d) : Int.tmod (Int.tmod n d + d) d = n % d := by
  have h0 : 0 ≤ Int.tmod n d + d := by
    have := Int.lt_tmod_of_pos n hd
    omega
  rw [Int.tmod_eq_emod_of_nonneg h0, Int.add_emod_right]
  by_cases h : 0 ≤ n
  · rw [Int.tmod_eq_emod_of_nonneg h, Int.emod_emod_of_dvd _ (Int.dvd_refl d)]
  · obtain ⟨m, rfl⟩ : ∃ m, n = -m := ⟨-n, by omega⟩
    rw [Int.neg_tmod, Int.tmod_eq_emod_of_nonneg (by omega)]
    have e := Int.emod_add_mul_ediv m d
    have e3 : -(m % d) = -m + d * (m / d) := by omega
    rw [e3, Int.add_mul_emod_self_left]

theorem ang_fst (n d : Int) : (ang n d).1 = (n % d) / Int.gcd (n % d) d := rfl
theorem ang_snd (n d : Int) : (ang n d).2 = d / Int.gcd (n % d) d := rfl
theorem pair_eq (p : Int × Int) : (p.1, p.2) = p := rfl

theorem ev_impl_angle {n d : Int} (hd : 0 < d) (hd' : d ≤ 4611686018427387904) : Ev (fun k => impl_angle.f k n d) (ang n d) := by
  have t1 := Int.lt_tmod_of_pos n hd
  have t2 := Int.tmod_lt_of_pos n hd
  have m0 := Int.emod_nonneg n (show d ≠ 0 by omega)
  have m1 := Int.emod_lt_of_pos n hd
  have hg := gcd_pos (n := n % d) hd
  have w := ang_wide (n := n) hd
  have wd := ang_den_le (n := n) hd
  unfold impl_angle.f
  simp only [if_neg (show ¬ d = 0 by omega)]
  rw [wrap_in (show -9223372036854775808 ≤ Int.tmod n d + d by omega) (by omega), tmod_turn hd]
  refine Ev.bind (ev_impl_gcd (by omega) m0) ?_
  rw [Int.gcd_comm d]
  simp only [if_neg (show ¬ (Int.gcd (n % d) d : Int) = 0 by omega)]
  rw [Int.tdiv_eq_ediv_of_nonneg m0, Int.tdiv_eq_ediv_of_nonneg (by omega), ← ang_fst, ← ang_snd, wrap_in (by have := w.2.1; omega) (by have := w.2.2.1; omega), wrap_in (by have := w.1; omega) (by omega)]
  exact Ev.now _

theorem ev_spec_Of {n d : Int} (hd : 0 < d) (hd' : d ≤ 4611686018427387904) : Ev (fun k => spec_l01Of.f k n d) (ang n d) := by
  have t1 := Int.lt_tmod_of_pos n hd
  have t2 := Int.tmod_lt_of_pos n hd
  have m0 := Int.emod_nonneg n (show d ≠ 0 by omega)
  have m1 := Int.emod_lt_of_pos n hd
  have hg := gcd_pos (n := n % d) hd
  have w := ang_wide (n := n) hd
  have wd := ang_den_le (n := n) hd
  unfold spec_l01Of.f
  simp only [if_neg (show ¬ d = 0 by omega)]
  rw [wrap_in (show -9223372036854775808 ≤ Int.tmod n d + d by omega) (by omega), tmod_turn hd]
  refine Ev.bind (ev_spec_gcd m0 (by omega)) ?_
  simp only [if_neg (show ¬ (Int.gcd (n % d) d : Int) = 0 by omega)]
  rw [Int.tdiv_eq_ediv_of_nonneg m0, Int.tdiv_eq_ediv_of_nonneg (by omega), ← ang_fst, ← ang_snd, wrap_in (by have := w.2.1; omega) (by have := w.2.2.1; omega), wrap_in (by have := w.1; omega) (by omega)]
  exact Ev.now _

/-- All of a list are angles. -/
def allA (l : List S51) : Bool := l.all fun x => isA x.f0 x.f1
theorem ev_allM (l : List S51) : Ev (fun k => allM (fun x : S51 => impl_IsAngle.f k x.f0 x.f1) l) (allA l) := by
  induction l with
  | nil => exact Ev.now _
  | cons x xs ih =>
    unfold allM
    refine Ev.bind (ev_impl_IsAngle x.f0 x.f1) ?_
    unfold allA
    rw [List.all_cons]
    cases isA x.f0 x.f1 with
    | true => simpa [allA] using ih
    | false => simpa using Ev.now false
theorem ev_anglesCode (l : List S51) : Ev (fun k => impl_anglesCode.f k l) (if allA l = true then 0 else 1) := by
  unfold impl_anglesCode.f
  exact Ev.bind (ev_allM l) (Ev.now _)

theorem eqAngle_same (a b : Int) : laws_eqAngle.f a b a b = some true := by simp [laws_eqAngle.f]
end Go.Proofs.Ytngffoffjiofbaa.Q
end
section
/- Doubled angles: the printed functions' plain values. -/
namespace Go.Proofs.Ytngffoffjiofbaa.Q
open Go.RowKit Go.Proofs.YtngffoffjiofbaaW.PrintWords Go.Proofs.YtngffoffjiofbaaW.PrintLast Go.Proofs.YtngffoffjiofbaaW.Ext Go.Proofs.Ytngffoffjiofbaa.Ang
set_option linter.unusedVariables false

/-- An angle's double. -/
def dbl (a : Int × Int) : Int × Int := ang (2 * a.1) a.2
theorem isA_bd {n d : Int} (h : isA n d = true) : 0 < d ∧ d ≤ 8191 ∧ 0 ≤ n ∧ n ≤ 8190 := by
  obtain ⟨a, b, c, e, _⟩ := isA_iff.1 h
  omega
theorem ang_isA {n d : Int} (hd : 0 < d) (h8 : d ≤ 8191) : isA (ang n d).1 (ang n d).2 = true := by
  have w := ang_wide (n := n) hd
  have l := ang_den_le (n := n) hd
  exact isA_iff.2 ⟨w.1, by omega, w.2.1, by have := w.2.2.1; omega, w.2.2.2⟩
theorem dbl_isA {a b : Int} (h : isA a b = true) : isA (dbl (a, b)).1 (dbl (a, b)).2 = true := ang_isA (isA_bd h).1 (isA_bd h).2.1
theorem ev_spec_Double {a b : Int} (h : isA a b = true) : Ev (fun k => spec_l01Double.f k a b) (dbl (a, b)) := by
  obtain ⟨h1, h2, h3, h4⟩ := isA_bd h
  unfold spec_l01Double.f
  rw [wrap_in (x := 2 * a) (by omega) (by omega)]
  exact Ev.bind (ev_spec_Of h1 (by omega)) (Ev.now _)
theorem ev_impl_double {a b : Int} (h : isA a b = true) : Ev (fun k => impl_Angle_double.f k a b) (dbl (a, b)) := by
  obtain ⟨h1, h2, h3, h4⟩ := isA_bd h
  unfold impl_Angle_double.f
  rw [wrap_in (x := 2 * a) (by omega) (by omega)]
  exact Ev.bind (ev_impl_angle h1 (by omega)) (Ev.now _)
end Go.Proofs.Ytngffoffjiofbaa.Q
end
section
/- Orbits under doubling: where they first come back is where the Den has become odd. -/
namespace Go.Proofs.Ytngffoffjiofbaa.Q
open Go.RowKit Go.Proofs.YtngffoffjiofbaaW.PrintWords Go.Proofs.YtngffoffjiofbaaW.PrintLast Go.Proofs.YtngffoffjiofbaaW.Ext Go.Proofs.Ytngffoffjiofbaa.Ang
set_option linter.unusedVariables false

theorem ang_coprime {n e : Int} (he : 0 < e) (h : Int.gcd n e = 1) : ang n e = (n % e, e) := by
  have g : Int.gcd (n % e) e = 1 := by
    rw [Int.gcd_comm, ← h, Int.gcd_comm n e]
    have := Int.emod_add_mul_ediv n e
    conv => rhs; rw [← this]
    rw [Int.gcd_add_mul_left_right]
  unfold ang
  rw [g]
  simp
theorem dbl_even {n e : Int} (h : wide n (2 * e)) : dbl (n, 2 * e) = (n % e, e) := by
  obtain ⟨h1, h2, h3, h4⟩ := h
  have he : 0 < e := by omega
  unfold dbl
  rw [ang_scale (by omega) he]
  refine ang_coprime he ?_
  have d1 : (Int.gcd n e : Int) ∣ n := Int.gcd_dvd_left _ _
  have d2 : (Int.gcd n e : Int) ∣ 2 * e := Int.dvd_trans (Int.gcd_dvd_right _ _) (Int.dvd_mul_left _ _)
  have d3 : (Int.gcd n e : Int) ∣ (Int.gcd n (2 * e) : Int) := Int.dvd_coe_gcd d1 d2
  rw [h4] at d3
  have := Int.eq_one_of_dvd_one (by omega) d3
  show n.gcd e = 1
  omega
theorem dbl_odd {n d : Int} (h : wide n d) (hd : d % 2 = 1) : dbl (n, d) = (2 * n % d, d) := by
  obtain ⟨h1, h2, h3, h4⟩ := h
  unfold dbl
  refine ang_coprime (by omega) ?_
  have g2 : Int.gcd 2 d = 1 := by
    have d1 : (Int.gcd 2 d : Int) ∣ 2 := Int.gcd_dvd_left _ _
    have d2 : (Int.gcd 2 d : Int) ∣ d := Int.gcd_dvd_right _ _
    have d3 : (Int.gcd 2 d : Int) ∣ 1 := by
      have e : (1 : Int) = d - 2 * (d / 2) := by omega
      rw [e]
      exact Int.dvd_sub d2 (Int.dvd_mul_of_dvd_left d1)
    have := Int.eq_one_of_dvd_one (by omega) d3
    omega
  have k : Int.gcd (2 * n) d = 1 := by
    have d1 : (Int.gcd (2 * n) d : Int) ∣ d := Int.gcd_dvd_right _ _
    have d0 : (Int.gcd (2 * n) d : Int) ∣ 2 * n := Int.gcd_dvd_left _ _
    have c : Int.gcd (Int.gcd (2 * n) d : Int) 2 = 1 := by
      have e1 : (Int.gcd (Int.gcd (2 * n) d : Int) 2 : Int) ∣ d := Int.dvd_trans (Int.gcd_dvd_left _ _) d1
      have e2 : (Int.gcd (Int.gcd (2 * n) d : Int) 2 : Int) ∣ 2 := Int.gcd_dvd_right _ _
      have e3 := Int.dvd_coe_gcd e2 e1
      rw [g2] at e3
      have := Int.eq_one_of_dvd_one (by omega) e3
      omega
    have c' : Nat.Coprime (Int.gcd (2 * n) d) 2 := by simpa [Int.gcd, Nat.Coprime] using c
    have d0' : Int.gcd (2 * n) d ∣ 2 * n.natAbs := by
      have := Int.natAbs_dvd_natAbs.2 d0
      simpa [Int.natAbs_mul] using this
    have d2 : (Int.gcd (2 * n) d : Int) ∣ n := Int.ofNat_dvd_left.2 (c'.dvd_of_dvd_mul_left d0')
    have d3 := Int.dvd_coe_gcd d2 d1
    rw [h4] at d3
    have := Int.eq_one_of_dvd_one (by omega) d3
    omega
  exact k
theorem dbl_inj {n m d : Int} (hn : wide n d) (hm : wide m d) (hd : d % 2 = 1) (h : dbl (n, d) = dbl (m, d)) : n = m := by
  rw [dbl_odd hn hd, dbl_odd hm hd] at h
  simp only [Prod.mk.injEq, and_true] at h
  have z := Int.emod_eq_emod_iff_emod_sub_eq_zero.1 h
  obtain ⟨c, hc⟩ := Int.dvd_of_emod_eq_zero z
  obtain ⟨h1, h2, h3, _⟩ := hn
  obtain ⟨k1, k2, k3, _⟩ := hm
  have e : 2 * (n - m) = d * c := by omega
  have hc0 : c = 0 ∨ c = 1 ∨ c = -1 := by
    have u1 : d * c < d * 2 := by omega
    have u2 : d * (-2) < d * c := by omega
    have v1 := (Int.mul_lt_mul_left (show 0 < d by omega)).1 u1
    have v2 := (Int.mul_lt_mul_left (show 0 < d by omega)).1 u2
    omega
  rcases hc0 with rfl | rfl | rfl <;> omega
/-- The orbit. -/
def orbA (x : Int × Int) : Nat → Int × Int
  | 0 => x
  | n + 1 => dbl (orbA x n)
theorem dbl_wide {x : Int × Int} (h : wide x.1 x.2) : wide (dbl x).1 (dbl x).2 := ang_wide (by have := h.1; omega)
theorem orb_wide {x : Int × Int} (h : wide x.1 x.2) : ∀ n, wide (orbA x n).1 (orbA x n).2
  | 0 => h
  | n + 1 => dbl_wide (orb_wide h n)
theorem orb_isA {x : Int × Int} (h : isA x.1 x.2 = true) : ∀ n, isA (orbA x n).1 (orbA x n).2 = true
  | 0 => h
  | n + 1 => dbl_isA (orb_isA h n)
/-- The Dens on the way. -/
theorem orb_den {x : Int × Int} {p : Nat} {q : Int} (h : wide x.1 x.2) (hx : x.2 = 2 ^ p * q) (hq : q % 2 = 1) :
    ∀ i, (i ≤ p → (orbA x i).2 = 2 ^ (p - i) * q) ∧ (p ≤ i → (orbA x i).2 = q) := by
  intro i
  induction i with
  | zero =>
    refine ⟨fun _ => by simpa [orbA] using hx, fun hp => ?_⟩
    have : p = 0 := by omega
    subst this
    simpa [orbA] using hx
  | succ i ih =>
    have w := orb_wide h i
    refine ⟨fun hi => ?_, fun hi => ?_⟩
    · have e := ih.1 (by omega)
      have e2 : (2 : Int) ^ (p - i) * q = 2 * (2 ^ (p - (i + 1)) * q) := by
        rw [show p - i = (p - (i + 1)) + 1 by omega, Int.pow_succ]
        grind
      rw [e2] at e
      have d := dbl_even (n := (orbA x i).1) (e := 2 ^ (p - (i + 1)) * q) (by rw [← e]; exact w)
      rw [← e] at d
      show (dbl (orbA x i)).2 = _
      rw [show dbl (orbA x i) = dbl ((orbA x i).1, (orbA x i).2) from rfl, d]
    · by_cases hp : p ≤ i
      · have e := ih.2 hp
        have d := dbl_odd (n := (orbA x i).1) (d := (orbA x i).2) w (by rw [e]; exact hq)
        show (dbl (orbA x i)).2 = _
        rw [show dbl (orbA x i) = dbl ((orbA x i).1, (orbA x i).2) from rfl, d]
        exact e
      · have hpi : p = i + 1 := by omega
        have e := ih.1 (by omega)
        rw [show p - i = 1 by omega] at e
        have e2 : (orbA x i).2 = 2 * q := by rw [e]; grind
        have d := dbl_even (n := (orbA x i).1) (e := q) (by rw [← e2]; exact w)
        rw [← e2] at d
        show (dbl (orbA x i)).2 = _
        rw [show dbl (orbA x i) = dbl ((orbA x i).1, (orbA x i).2) from rfl, d]
theorem orb_back {x : Int × Int} {p : Nat} {q : Int} (h : wide x.1 x.2) (hx : x.2 = 2 ^ p * q) (hq : q % 2 = 1) {i m : Nat} (him : i < m) (e : orbA x i = orbA x m) : p ≤ i := by
  by_cases hp : p ≤ i
  · exact hp
  · exfalso
    have hq0 : 0 < q := by
      have h1 := h.1
      rw [hx] at h1
      rcases Int.lt_trichotomy q 0 with z | z | z
      · have := Int.mul_neg_of_pos_of_neg (show (0 : Int) < 2 ^ p from Int.pow_pos (by omega)) z
        omega
      · subst z; simp at h1
      · exact z
    have a := (orb_den h hx hq i).1 (by omega)
    have two : (2 : Int) ^ (p - i) = 2 * 2 ^ (p - i - 1) := by
      conv => lhs; rw [show p - i = (p - i - 1) + 1 by omega, Int.pow_succ]
      grind
    by_cases hm : m ≤ p
    · have b := (orb_den h hx hq m).1 hm
      rw [e, b] at a
      have c := Int.eq_of_mul_eq_mul_right (by omega) a
      have l : (2 : Int) ^ (p - m) < 2 ^ (p - i) := Int.pow_lt_pow_of_lt (by omega) (by omega)
      omega
    · have b := (orb_den h hx hq m).2 (by omega)
      rw [e, b] at a
      have pos : (1 : Int) ≤ 2 ^ (p - i - 1) := by
        have : (0 : Int) < 2 ^ (p - i - 1) := Int.pow_pos (by omega)
        omega
      have : q * 1 < q * 2 ^ (p - i) := (Int.mul_lt_mul_left hq0).2 (by omega)
      rw [Int.mul_comm q (2 ^ (p - i)), ← a] at this
      omega
theorem orb_step_back {x : Int × Int} {p : Nat} {q : Int} (h : wide x.1 x.2) (hx : x.2 = 2 ^ p * q) (hq : q % 2 = 1) {i m : Nat} (hi : p ≤ i) (hm : p ≤ m) (e : orbA x (i + 1) = orbA x (m + 1)) : orbA x i = orbA x m := by
  have a := (orb_den h hx hq i).2 hi
  have b := (orb_den h hx hq m).2 hm
  have wi := orb_wide h i
  have wm := orb_wide h m
  have e2 : dbl ((orbA x i).1, q) = dbl ((orbA x m).1, q) := by
    have e3 : dbl (orbA x i) = dbl (orbA x m) := e
    rw [show orbA x i = ((orbA x i).1, (orbA x i).2) from rfl, show orbA x m = ((orbA x m).1, (orbA x m).2) from rfl, a, b] at e3
    exact e3
  rw [a] at wi
  rw [b] at wm
  have := dbl_inj wi wm hq e2
  exact Prod.ext this (a.trans b.symm)
/-- Of an orbit so far without a repeat, the next one is there, if at all, at place p. -/
theorem orb_first {x : Int × Int} {p : Nat} {q : Int} (h : wide x.1 x.2) (hx : x.2 = 2 ^ p * q) (hq : q % 2 = 1) {i m : Nat} (hd : ∀ a b, a < b → b < m → orbA x a ≠ orbA x b) (him : i < m) (e : orbA x i = orbA x m) : i = p := by
  have hp := orb_back h hx hq him e
  by_cases z : i = p
  · exact z
  · exfalso
    obtain ⟨j, rfl⟩ : ∃ j, i = j + 1 := ⟨i - 1, by omega⟩
    obtain ⟨n, rfl⟩ : ∃ n, m = n + 1 := ⟨m - 1, by omega⟩
    exact hd j n (by omega) (by omega) (orb_step_back h hx hq (by omega) (by omega) e)
theorem exists_odd : ∀ d : Nat, 0 < d → ∃ (p : Nat) (q : Int), (d : Int) = 2 ^ p * q ∧ q % 2 = 1 := by
  intro d
  induction d using Nat.strongRecOn with
  | _ d ih =>
    intro hd
    by_cases h : d % 2 = 0
    · obtain ⟨p, q, e, hq⟩ := ih (d / 2) (by omega) (by omega)
      refine ⟨p + 1, q, ?_, hq⟩
      have : (d : Int) = 2 * ((d / 2 : Nat) : Int) := by omega
      rw [this, e, Int.pow_succ]
      grind
    · exact ⟨0, d, by simp, by omega⟩
/-- As the printed texts have an angle in a list. -/
def toS (x : Int × Int) : S51 := ⟨x.1, x.2⟩
theorem toS_inj {x y : Int × Int} (h : toS x = toS y) : x = y := by
  have a := congrArg S51.f0 h
  have b := congrArg S51.f1 h
  exact Prod.ext a b
def seg (x : Int × Int) (m : Nat) : List S51 := (List.range m).map fun i => toS (orbA x i)
theorem seg_length (x : Int × Int) (m : Nat) : (seg x m).length = m := by simp [seg]
theorem seg_succ (x : Int × Int) (m : Nat) : seg x (m + 1) = seg x m ++ [toS (orbA x m)] := by simp [seg, List.range_succ]
theorem seg_get (x : Int × Int) {m i : Nat} (h : i < m) : (seg x m)[i]'(by rw [seg_length]; exact h) = toS (orbA x i) := by simp [seg]
/-- The orbit, its preperiod, and whether it is short enough. -/
def orbGo (x : Int × Int) (p : Nat) : Nat → Nat → List S51 × Int × Bool
  | 0, _ => ([], 0, false)
  | f + 1, m => if p < m ∧ orbA x m = orbA x p then (seg x m, (p : Int), true) else if m = 64 then ([], 0, false) else orbGo x p f (m + 1)
theorem orbGo_short (x : Int × Int) (p : Nat) : ∀ f m, m + f = 65 → (orbGo x p f m).1.length ≤ 64 := by
  intro f
  induction f with
  | zero => intro m _; simp [orbGo]
  | succ f ih =>
    intro m hm
    unfold orbGo
    split
    · rw [seg_length]; omega
    · split
      · simp
      · exact ih (m + 1) (by omega)
end Go.Proofs.Ytngffoffjiofbaa.Q
end
section
/- The reference's orbit: its plain value. -/
namespace Go.Proofs.Ytngffoffjiofbaa.Q
open Go.RowKit Go.Proofs.YtngffoffjiofbaaW.PrintWords Go.Proofs.YtngffoffjiofbaaW.PrintLast Go.Proofs.YtngffoffjiofbaaW.Ext Go.Proofs.Ytngffoffjiofbaa.Ang
set_option linter.unusedVariables false
set_option linter.unusedSimpArgs false

theorem ev_spec_orbit {a b : Int} (h : isA a b = true) {p : Nat} {q : Int} (hx : b = 2 ^ p * q) (hq : q % 2 = 1) : Ev (fun k => spec_l01Orbit.f k a b) (orbGo (a, b) p 65 0) := by
  have hb := isA_bd h
  have hq0 : 0 < q := by
    rcases Int.lt_trichotomy q 0 with z | z | z
    · have := Int.mul_neg_of_pos_of_neg (show (0 : Int) < 2 ^ p from Int.pow_pos (by omega)) z
      omega
    · subst z; simp at hx; omega
    · exact z
  have loop : ∀ f m, m + f = 65 → m ≤ 64 → Ev (fun k => spec_l01Orbit.l1 k (p : Int) (seg (a, b) m) (orbA (a, b) m).1 (orbA (a, b) m).2) (orbGo (a, b) p f m) := by
    intro f
    induction f with
    | zero => intro m h1 h2; omega
    | succ f ih =>
      intro m h1 h2
      have j2 : ∀ c : Bool, c = decide (p < m ∧ orbA (a, b) m = orbA (a, b) p) → Ev (fun k => spec_l01Orbit.j2 k (p : Int) (seg (a, b) m) c (orbA (a, b) m).1 (orbA (a, b) m).2) (orbGo (a, b) p (f + 1) m) := by
        intro c hc
        subst hc
        unfold orbGo
        refine Ev.step (f := fun k => if decide (p < m ∧ orbA (a, b) m = orbA (a, b) p) = true then some (seg (a, b) m, (p : Int), true) else if ((seg (a, b) m).length : Int) = 64 then some ([], 0, false) else if (seg (a, b) m).length < 8796093022208 then (spec_l01Double.f k (orbA (a, b) m).1 (orbA (a, b) m).2).bind fun z => spec_l01Orbit.l1 k (p : Int) (seg (a, b) m ++ [⟨(orbA (a, b) m).1, (orbA (a, b) m).2⟩]) z.1 z.2 else none) (fun k => by rw [spec_l01Orbit.j2]) ?_
        simp only [seg_length, decide_eq_true_eq]
        by_cases z : p < m ∧ orbA (a, b) m = orbA (a, b) p
        · simp only [if_pos z]; exact Ev.now _
        · simp only [if_neg z]
          by_cases y : m = 64
          · subst y
            simp
            exact Ev.now _
          · simp only [if_neg y, if_neg (show ¬ ((m : Int) = 64) by omega), if_pos (show m < 8796093022208 by omega)]
            refine Ev.bind (ev_spec_Double (orb_isA (x := (a, b)) h m)) ?_
            have := ih (m + 1) (by omega) (by omega)
            rw [seg_succ] at this
            exact this
      refine Ev.step (f := fun k => if ((seg (a, b) m).length : Int) > (p : Int) then (if 0 ≤ (p : Int) then (if (p : Int) < ((seg (a, b) m).length : Int) then spec_l01Orbit.j2 k (p : Int) (seg (a, b) m) ((orbA (a, b) m).1 == (rd_T51 (seg (a, b) m) (p : Int)).f0 && ((orbA (a, b) m).2 == (rd_T51 (seg (a, b) m) (p : Int)).f1)) (orbA (a, b) m).1 (orbA (a, b) m).2 else none) else none) else spec_l01Orbit.j2 k (p : Int) (seg (a, b) m) false (orbA (a, b) m).1 (orbA (a, b) m).2) (fun k => by rw [spec_l01Orbit.l1]) ?_
      simp only [seg_length]
      by_cases z : p < m
      · simp only [if_pos (show (m : Int) > (p : Int) by omega), if_pos (show 0 ≤ (p : Int) by omega), if_pos (show (p : Int) < (m : Int) by omega)]
        have e : rd_T51 (seg (a, b) m) (p : Int) = toS (orbA (a, b) p) := by
          unfold rd_T51
          rw [Int.toNat_natCast, List.getD_eq_getElem?_getD, List.getElem?_eq_getElem (by rw [seg_length]; exact z), seg_get _ z]
          rfl
        rw [e]
        refine j2 _ ?_
        rw [Bool.eq_iff_iff]
        simp [toS, z, Prod.ext_iff]
      · simp only [if_neg (show ¬ ((m : Int) > (p : Int)) by omega)]
        exact j2 _ (by simp [z])
  have start := loop 65 0 (by omega) (by omega)
  have pre : ∀ (j : Nat) (c : Int), 0 ≤ c → c + j ≤ 1000000 → (2 : Int) ^ j * q ≤ 8191 → ∀ r, Ev (fun k => spec_l01Orbit.l1 k (c + j) [] a b) r → Ev (fun k => spec_l01Orbit.l0 k c (2 ^ j * q) a b) r := by
    intro j
    induction j with
    | zero =>
      intro c h0 h1 h2 r hr
      refine Ev.step (f := fun k => spec_l01Orbit.l1 k c [] a b) (fun k => ?_) (by simpa using hr)
      have e : Int.tmod ((2 : Int) ^ 0 * q) 2 = 1 := by
        rw [Int.tmod_eq_emod_of_nonneg (by simp; omega)]
        simpa using hq
      rw [spec_l01Orbit.l0, e, if_neg (by omega)]
    | succ j ih =>
      intro c h0 h1 h2 r hr
      have e2 : (2 : Int) ^ (j + 1) * q = 2 * (2 ^ j * q) := by rw [Int.pow_succ]; grind
      have pos : (0 : Int) < 2 ^ j * q := Int.mul_pos (Int.pow_pos (by omega)) hq0
      rw [e2] at h2 ⊢
      refine Ev.step (f := fun k => spec_l01Orbit.l0 k (c + 1) (2 ^ j * q) a b) (fun k => ?_) (ih (c + 1) (by omega) (by omega) (by omega) r (by rw [show c + 1 + (j : Int) = c + ((j + 1 : Nat) : Int) by omega]; exact hr))
      have e : Int.tmod (2 * ((2 : Int) ^ j * q)) 2 = 0 := by
        rw [Int.tmod_eq_emod_of_nonneg (by omega)]
        omega
      have f : Int.tdiv (2 * ((2 : Int) ^ j * q)) 2 = 2 ^ j * q := by
        rw [Int.tdiv_eq_ediv_of_nonneg (by omega)]
        omega
      rw [spec_l01Orbit.l0, e, if_pos rfl, f, wrap_in (x := c + 1) (by omega) (by omega), wrap_in (x := (2 : Int) ^ j * q) (by omega) (by omega)]
  unfold spec_l01Orbit.f
  have hp : (p : Int) ≤ 1000000 := by
    have l : (p : Int) < 2 ^ p := by
      have : p < 2 ^ p := Nat.lt_two_pow_self
      exact_mod_cast this
    have : (2 : Int) ^ p * 1 ≤ 2 ^ p * q := Int.mul_le_mul_of_nonneg_left (by omega) (Int.pow_nonneg (by omega))
    omega
  have := pre p 0 (by omega) (by omega) (by omega) (orbGo (a, b) p 65 0) (by simpa [seg, orbA] using start)
  rw [← hx] at this
  exact this
end Go.Proofs.Ytngffoffjiofbaa.Q
end
section
/- The program's orbit: its plain value. -/
namespace Go.Proofs.Ytngffoffjiofbaa.Q
open Go.RowKit Go.Proofs.YtngffoffjiofbaaW.PrintWords Go.Proofs.YtngffoffjiofbaaW.PrintLast Go.Proofs.YtngffoffjiofbaaW.Ext Go.Proofs.Ytngffoffjiofbaa.Ang
set_option linter.unusedVariables false
set_option linter.unusedSimpArgs false

theorem rd_seg {x : Int × Int} {m i : Nat} (h : i < m) : rd_T51 (seg x m) (i : Int) = toS (orbA x i) := by
  unfold rd_T51
  rw [Int.toNat_natCast, List.getD_eq_getElem?_getD, List.getElem?_eq_getElem (by rw [seg_length]; exact h), seg_get _ h]
  rfl
/-- The first place of a in the orbit so far. -/
theorem ev_index (x y : Int × Int) (m : Nat) (hm : m ≤ 64) (r : Int) (hr : (∃ i, i < m ∧ orbA x i = y ∧ (∀ j, j < i → orbA x j ≠ y) ∧ r = (i : Int)) ∨ ((∀ j, j < m → orbA x j ≠ y) ∧ r = -1)) : Ev (fun k => impl_Angle_51.f k (seg x m) y.1 y.2) r := by
  unfold impl_Angle_51.f
  rw [seg_length]
  have key : ∀ d i, i + d = m → (∀ j, j < i → orbA x j ≠ y) → Ev (fun k => impl_Angle_51.l0 k (seg x m) (m : Int) (i : Int) y.1 y.2) r := by
    intro d
    induction d with
    | zero =>
      intro i h1 h2
      refine Ev.step (f := fun _ => some (-1)) (fun k => by rw [impl_Angle_51.l0, if_neg (by omega)]) ?_
      rcases hr with ⟨j, hj, e, _, _⟩ | ⟨_, rfl⟩
      · exact absurd e (h2 j (by omega))
      · exact Ev.now _
    | succ d ih =>
      intro i h1 h2
      have hi : i < m := by omega
      refine Ev.step (f := fun k => if y = orbA x i then some (i : Int) else impl_Angle_51.l0 k (seg x m) (m : Int) ((i + 1 : Nat) : Int) y.1 y.2) (fun k => ?_) ?_
      · rw [impl_Angle_51.l0, if_pos (by omega), if_pos (by omega), seg_length, if_pos (by omega), rd_seg hi, wrap_in (by omega) (by omega)]
        have e : (y.1 == (toS (orbA x i)).f0 && (y.2 == (toS (orbA x i)).f1)) = decide (y = orbA x i) := by
          rw [Bool.eq_iff_iff]
          simp [toS, Prod.ext_iff]
        rw [e]
        simp only [decide_eq_true_eq]
        rw [show ((i + 1 : Nat) : Int) = (i : Int) + 1 by omega]
      · by_cases z : y = orbA x i
        · simp only [if_pos z]
          rcases hr with ⟨j, hj, e, hb, rfl⟩ | ⟨hn, _⟩
          · have : i = j := by
              rcases Nat.lt_trichotomy i j with l | l | l
              · exact absurd z.symm (hb i l)
              · exact l
              · exact absurd e (h2 j l)
            subst this
            exact Ev.now _
          · exact absurd z.symm (hn i hi)
        · simp only [if_neg z]
          exact ih (i + 1) (by omega) (fun j hj => by
            by_cases l : j = i
            · subst l; exact fun q => z q.symm
            · exact h2 j (by omega))
  simpa using key m 0 (by omega) (fun j hj => absurd hj (Nat.not_lt_zero _))
theorem ev_impl_orbit {a b : Int} (h : isA a b = true) {p : Nat} {q : Int} (hx : b = 2 ^ p * q) (hq : q % 2 = 1) : Ev (fun k => impl_Angle_orbit.f k a b) (orbGo (a, b) p 65 0) := by
  have W := isA_wide h
  have loop : ∀ f m, m + f = 65 → m ≤ 64 → (∀ i j, i < j → j < m → orbA (a, b) i ≠ orbA (a, b) j) → Ev (fun k => impl_Angle_orbit.l0 k (seg (a, b) m) (orbA (a, b) m).1 (orbA (a, b) m).2) (orbGo (a, b) p f m) := by
    intro f
    induction f with
    | zero => intro m h1 h2; omega
    | succ f ih =>
      intro m h1 h2 hd
      unfold orbGo
      refine Ev.step (f := fun k => (impl_Angle_51.f k (seg (a, b) m) (orbA (a, b) m).1 (orbA (a, b) m).2).bind fun t => if t ≥ 0 then some (seg (a, b) m, t, true) else if ((seg (a, b) m).length : Int) = 64 then some ([], 0, false) else if (seg (a, b) m).length < 8796093022208 then (impl_Angle_double.f k (orbA (a, b) m).1 (orbA (a, b) m).2).bind fun z => impl_Angle_orbit.l0 k (seg (a, b) m ++ [⟨(orbA (a, b) m).1, (orbA (a, b) m).2⟩]) z.1 z.2 else none) (fun k => by rw [impl_Angle_orbit.l0]) ?_
      by_cases z : p < m ∧ orbA (a, b) m = orbA (a, b) p
      · refine Ev.bind (ev_index (a, b) (orbA (a, b) m) m h2 (p : Int) (.inl ⟨p, z.1, z.2.symm, fun j hj e => ?_, rfl⟩)) ?_
        · have := orb_first (x := (a, b)) W hx hq hd (show j < m by omega) e
          omega
        · simp only [if_pos z, if_pos (show (p : Int) ≥ 0 by omega)]
          exact Ev.now _
      · have hn : ∀ j, j < m → orbA (a, b) j ≠ orbA (a, b) m := fun j hj e => by
          have := orb_first (x := (a, b)) W hx hq hd hj e
          subst this
          exact z ⟨hj, e.symm⟩
        refine Ev.bind (ev_index (a, b) (orbA (a, b) m) m h2 (-1) (.inr ⟨hn, rfl⟩)) ?_
        simp only [if_neg z, if_neg (show ¬ ((-1 : Int) ≥ 0) by omega), seg_length]
        by_cases y : m = 64
        · subst y
          simp
          exact Ev.now _
        · simp only [if_neg y, if_neg (show ¬ ((m : Int) = 64) by omega), if_pos (show m < 8796093022208 by omega)]
          refine Ev.bind (ev_impl_double (orb_isA (x := (a, b)) h m)) ?_
          have := ih (m + 1) (by omega) (by omega) (fun i j hij hj => by
            by_cases l : j = m
            · subst l; exact hn i hij
            · exact hd i j hij (by omega))
          rw [seg_succ] at this
          exact this
  unfold impl_Angle_orbit.f
  simpa [seg, orbA] using loop 65 0 (by omega) (by omega) (fun i j h1 h2 => absurd h2 (Nat.not_lt_zero _))
end Go.Proofs.Ytngffoffjiofbaa.Q
end
section
/- What the laws ask of lists of lists of numbers: equal lists, marks laid and found again. -/
namespace Go.Proofs.Ytngffoffjiofbaa.Q
open Go.RowKit Go.Proofs.YtngffoffjiofbaaW.PrintWords Go.Proofs.YtngffoffjiofbaaW.PrintLast Go.Proofs.YtngffoffjiofbaaW.Ext Go.Proofs.Ytngffoffjiofbaa.Ang
set_option linter.unusedVariables false

theorem rdI_at (pre rest : List Int) (x : Int) : rd (pre ++ x :: rest) (pre.length : Int) = x := by simp [rd]
theorem rdL_at (pre rest : List (List Int)) (x : List Int) : rd_L8 (pre ++ x :: rest) (pre.length : Int) = x := by simp [rd_L8]
theorem setI_at {α : Type} (pre rest : List α) (x y : α) : (pre ++ x :: rest).set pre.length y = pre ++ y :: rest := by simp
theorem ev_eqInt64S (l : List Int) (hl : l.length ≤ 1099511627776) : Ev (fun k => laws_eqInt64S.f k l l) true := by
  unfold laws_eqInt64S.f
  simp only [if_true]
  have key : ∀ (rest pre : List Int), (pre ++ rest).length ≤ 1099511627776 → Ev (fun k => laws_eqInt64S.l0 k (pre ++ rest) (pre ++ rest) (pre.length : Int)) true := by
    intro rest
    induction rest with
    | nil =>
      intro pre _
      exact Ev.step (f := fun _ => some true) (fun k => by simp [laws_eqInt64S.l0]) (Ev.now _)
    | cons x xs ih =>
      intro pre hp
      have hlen : (pre.length : Int) < ((pre ++ x :: xs).length : Int) := by simp <;> omega
      have hp2 : (pre.length : Int) ≤ 1099511627776 := by simp at hp; omega
      refine Ev.step (f := fun k => laws_eqInt64S.l0 k (pre ++ x :: xs) (pre ++ x :: xs) ((pre ++ [x]).length : Int)) (fun k => ?_) ?_
      · rw [laws_eqInt64S.l0, if_pos hlen, if_pos (by omega), if_pos hlen, rdI_at, if_pos rfl, wrap_in (by omega) (by omega)]
        simp
      · have := ih (pre ++ [x]) (by simpa using hp)
        simpa using this
  simpa using key l [] (by simpa using hl)
/-- The marks c, c + 1, .. on a list of numbers. -/
def markedI : Int → List Int → List Int
  | _, [] => []
  | c, _ :: xs => c :: markedI (c + 1) xs
theorem ev_markInt64S (l : List Int) (c0 : Int) (h0 : 0 ≤ c0) (h1 : c0 ≤ 1099511627776) (hl : l.length ≤ 1099511627776) : Ev (fun k => laws_markInt64S.f k l c0) (c0 + (l.length : Int), markedI c0 l) := by
  unfold laws_markInt64S.f
  have key : ∀ (rest pre : List Int) (c : Int), 0 ≤ c → c ≤ c0 + (pre.length : Int) → (pre ++ rest).length ≤ 1099511627776 →
      Ev (fun k => laws_markInt64S.l0 k (pre ++ rest) c (pre.length : Int)) (c + (rest.length : Int), pre ++ markedI c rest) := by
    intro rest
    induction rest with
    | nil =>
      intro pre c _ _ _
      exact Ev.step (f := fun _ => some (c + (([] : List Int).length : Int), pre ++ markedI c [])) (fun k => by simp [laws_markInt64S.l0, markedI]) (Ev.now _)
    | cons x xs ih =>
      intro pre c h0 h1 hp
      have hlen : (pre.length : Int) < ((pre ++ x :: xs).length : Int) := by simp <;> omega
      have hp2 : (pre.length : Int) ≤ 1099511627776 := by simp at hp; omega
      refine Ev.step (f := fun k => laws_markInt64S.l0 k ((pre ++ [c]) ++ xs) (c + 1) ((pre ++ [c]).length : Int)) (fun k => ?_) ?_
      · rw [laws_markInt64S.l0, if_pos hlen, if_pos (by omega), wrap_in (x := c + 1) (by omega) (by omega), wrap_in (x := (pre.length : Int) + 1) (by omega) (by omega)]
        simp only [Int.toNat_natCast, setI_at]
        simp
      · have := ih (pre ++ [c]) (c + 1) (by omega) (by simp; omega) (by simpa using hp)
        have e : c + 1 + (xs.length : Int) = c + ((x :: xs).length : Int) := by simp; omega
        rw [e] at this
        simpa [markedI] using this
  simpa using key l [] c0 h0 (by simp) (by simpa using hl)
theorem ev_heldInt64S (l : List Int) (c0 : Int) (h0 : 0 ≤ c0) (h1 : c0 ≤ 1099511627776) (hl : l.length ≤ 1099511627776) : Ev (fun k => laws_heldInt64S.f k (markedI c0 l) c0) (c0 + (l.length : Int)) := by
  unfold laws_heldInt64S.f
  have key : ∀ (rest pre : List Int) (c : Int), 0 ≤ c → c ≤ c0 + (pre.length : Int) → (pre ++ rest).length ≤ 1099511627776 →
      Ev (fun k => laws_heldInt64S.l0 k (pre ++ markedI c rest) c (pre.length : Int)) (c + (rest.length : Int)) := by
    intro rest
    induction rest with
    | nil =>
      intro pre c _ _ _
      exact Ev.step (f := fun _ => some (c + (([] : List Int).length : Int))) (fun k => by simp [laws_heldInt64S.l0, markedI]) (Ev.now _)
    | cons x xs ih =>
      intro pre c h0 h1 hp
      unfold markedI
      have hlen : (pre.length : Int) < ((pre ++ c :: markedI (c + 1) xs).length : Int) := by simp <;> omega
      have hp2 : (pre.length : Int) ≤ 1099511627776 := by simp at hp; omega
      refine Ev.step (f := fun k => laws_heldInt64S.l0 k ((pre ++ [c]) ++ markedI (c + 1) xs) (c + 1) ((pre ++ [c]).length : Int)) (fun k => ?_) ?_
      · rw [laws_heldInt64S.l0, if_pos hlen, if_pos (by omega), rdI_at, wrap_in (x := c + 1) (by omega) (by omega), wrap_in (x := (pre.length : Int) + 1) (by omega) (by omega), if_pos rfl]
        simp
      · have := ih (pre ++ [c]) (c + 1) (by omega) (by simp; omega) (by simpa using hp)
        have e : c + 1 + (xs.length : Int) = c + ((x :: xs).length : Int) := by simp; omega
        rw [e] at this
        simpa using this
  simpa using key l [] c0 h0 (by simp) (by simpa using hl)
/-- How many numbers. -/
def tot : List (List Int) → Nat
  | [] => 0
  | r :: l => r.length + tot l
theorem tot_app (a b : List (List Int)) : tot (a ++ b) = tot a + tot b := by
  induction a with
  | nil => simp [tot]
  | cons r a ih => simp only [List.cons_append, tot, ih]; omega
def markedL : Int → List (List Int) → List (List Int)
  | _, [] => []
  | c, r :: l => markedI c r :: markedL (c + (r.length : Int)) l
theorem ev_eqInt64SS (l : List (List Int)) (hl : l.length ≤ 1099511627776) (ht : tot l ≤ 1099511627776) : Ev (fun k => laws_eqInt64SS.f k l l) true := by
  unfold laws_eqInt64SS.f
  simp only [if_true]
  have key : ∀ (rest pre : List (List Int)), (pre ++ rest).length ≤ 1099511627776 → tot (pre ++ rest) ≤ 1099511627776 → Ev (fun k => laws_eqInt64SS.l0 k (pre ++ rest) (pre ++ rest) (pre.length : Int)) true := by
    intro rest
    induction rest with
    | nil =>
      intro pre _ _
      exact Ev.step (f := fun _ => some true) (fun k => by simp [laws_eqInt64SS.l0]) (Ev.now _)
    | cons x xs ih =>
      intro pre hp hq
      have hlen : (pre.length : Int) < ((pre ++ x :: xs).length : Int) := by simp <;> omega
      have hp2 : (pre.length : Int) ≤ 1099511627776 := by simp at hp; omega
      have hx : x.length ≤ 1099511627776 := by rw [tot_app] at hq; simp only [tot] at hq; omega
      refine Ev.step (f := fun k => (laws_eqInt64S.f k x x).bind fun t => if t = true then laws_eqInt64SS.l0 k (pre ++ x :: xs) (pre ++ x :: xs) ((pre ++ [x]).length : Int) else some false) (fun k => ?_) ?_
      · rw [laws_eqInt64SS.l0, if_pos hlen, if_pos (by omega), if_pos hlen, rdL_at, wrap_in (by omega) (by omega)]
        simp
      · refine Ev.bind (ev_eqInt64S x hx) ?_
        simp only [if_true]
        have := ih (pre ++ [x]) (by simpa using hp) (by simpa using hq)
        simpa using this
  simpa using key l [] (by simpa using hl) (by simpa using ht)
theorem ev_markInt64SS (l : List (List Int)) (c0 : Int) (h0 : 0 ≤ c0) (h1 : c0 ≤ 10) (hl : l.length ≤ 1099511627776) (ht : tot l ≤ 1099511627000) : Ev (fun k => laws_markInt64SS.f k l c0) (c0 + (tot l : Int), markedL c0 l) := by
  unfold laws_markInt64SS.f
  have key : ∀ (rest pre : List (List Int)) (c : Int), 0 ≤ c → c ≤ c0 + (tot pre : Int) → (pre ++ rest).length ≤ 1099511627776 → tot (pre ++ rest) ≤ 1099511627000 →
      Ev (fun k => laws_markInt64SS.l0 k (pre ++ rest) c (pre.length : Int)) (c + (tot rest : Int), pre ++ markedL c rest) := by
    intro rest
    induction rest with
    | nil =>
      intro pre c _ _ _ _
      exact Ev.step (f := fun _ => some (c + (tot ([] : List (List Int)) : Int), pre ++ markedL c [])) (fun k => by simp [laws_markInt64SS.l0, markedL, tot]) (Ev.now _)
    | cons x xs ih =>
      intro pre c h0 h2 hp hq
      have hlen : (pre.length : Int) < ((pre ++ x :: xs).length : Int) := by simp <;> omega
      have hp2 : (pre.length : Int) ≤ 1099511627776 := by simp at hp; omega
      have hq2 := hq
      rw [tot_app] at hq2
      simp only [tot] at hq2
      refine Ev.step (f := fun k => (laws_markInt64S.f k x c).bind fun t => laws_markInt64SS.l0 k ((pre ++ [t.2]) ++ xs) t.1 ((pre ++ [x]).length : Int)) (fun k => ?_) ?_
      · rw [laws_markInt64SS.l0, if_pos hlen, if_pos (by omega), rdL_at, wrap_in (x := (pre.length : Int) + 1) (by omega) (by omega)]
        simp only [Int.toNat_natCast, setI_at]
        simp
      · refine Ev.bind (ev_markInt64S x c h0 (by omega) (by omega)) ?_
        have hm : (markedI c x).length = x.length := by
          have g : ∀ (l : List Int) (c : Int), (markedI c l).length = l.length := by
            intro l
            induction l with
            | nil => intro c; rfl
            | cons y ys ih => intro c; simp only [markedI, List.length_cons, ih]
          exact g x c
        have ht2 : tot (pre ++ [markedI c x]) = tot pre + x.length := by rw [tot_app]; simp [tot, hm]
        have := ih (pre ++ [markedI c x]) (c + (x.length : Int)) (by omega) (by rw [ht2]; omega) (by simpa using hp) (by rw [tot_app, ht2]; omega)
        have e : c + (x.length : Int) + (tot xs : Int) = c + (tot (x :: xs) : Int) := by simp only [tot]; omega
        rw [e] at this
        simpa [markedL] using this
  simpa using key l [] c0 h0 (by simp [tot]) (by simpa using hl) (by simpa using ht)
theorem ev_heldInt64SS (l : List (List Int)) (c0 : Int) (h0 : 0 ≤ c0) (h1 : c0 ≤ 10) (hl : l.length ≤ 1099511627776) (ht : tot l ≤ 1099511627000) : Ev (fun k => laws_heldInt64SS.f k (markedL c0 l) c0) (c0 + (tot l : Int)) := by
  unfold laws_heldInt64SS.f
  have key : ∀ (rest pre : List (List Int)) (c : Int), 0 ≤ c → c ≤ c0 + (tot pre : Int) → (pre ++ rest).length ≤ 1099511627776 → tot (pre ++ rest) ≤ 1099511627000 →
      Ev (fun k => laws_heldInt64SS.l0 k (pre ++ markedL c rest) c (pre.length : Int)) (c + (tot rest : Int)) := by
    intro rest
    induction rest with
    | nil =>
      intro pre c _ _ _ _
      exact Ev.step (f := fun _ => some (c + (tot ([] : List (List Int)) : Int))) (fun k => by simp [laws_heldInt64SS.l0, markedL, tot]) (Ev.now _)
    | cons x xs ih =>
      intro pre c h0 h2 hp hq
      have hq2 := hq
      rw [tot_app] at hq2
      simp only [tot] at hq2
      unfold markedL
      have hlen : (pre.length : Int) < ((pre ++ markedI c x :: markedL (c + (x.length : Int)) xs).length : Int) := by simp <;> omega
      have hp2 : (pre.length : Int) ≤ 1099511627776 := by simp at hp; omega
      refine Ev.step (f := fun k => (laws_heldInt64S.f k (markedI c x) c).bind fun t => if t < 0 then some (-1) else laws_heldInt64SS.l0 k ((pre ++ [markedI c x]) ++ markedL (c + (x.length : Int)) xs) t ((pre ++ [x]).length : Int)) (fun k => ?_) ?_
      · rw [laws_heldInt64SS.l0, if_pos hlen, if_pos (by omega), rdL_at, wrap_in (x := (pre.length : Int) + 1) (by omega) (by omega)]
        simp
      · refine Ev.bind (ev_heldInt64S x c h0 (by omega) (by omega)) ?_
        simp only [if_neg (show ¬ c + (x.length : Int) < 0 by omega)]
        have hm : (markedI c x).length = x.length := by
          have g : ∀ (l : List Int) (c : Int), (markedI c l).length = l.length := by
            intro l
            induction l with
            | nil => intro c; rfl
            | cons y ys ih => intro c; simp only [markedI, List.length_cons, ih]
          exact g x c
        have ht2 : tot (pre ++ [markedI c x]) = tot pre + x.length := by rw [tot_app]; simp [tot, hm]
        have := ih (pre ++ [markedI c x]) (c + (x.length : Int)) (by omega) (by rw [ht2]; omega) (by simpa using hp) (by rw [tot_app, ht2]; omega)
        have e : c + (x.length : Int) + (tot xs : Int) = c + (tot (x :: xs) : Int) := by simp only [tot]; omega
        rw [e] at this
        simpa using this
  simpa using key l [] c0 h0 (by simp [tot]) (by simpa using hl) (by simpa using ht)
end Go.Proofs.Ytngffoffjiofbaa.Q
end
section
/- The orbit and its pairs: both sides. -/
namespace Go.Proofs.Ytngffoffjiofbaa.Q
open Go.RowKit Go.Proofs.YtngffoffjiofbaaW.PrintWords Go.Proofs.YtngffoffjiofbaaW.PrintLast Go.Proofs.YtngffoffjiofbaaW.Ext Go.Proofs.Ytngffoffjiofbaa.Ang
set_option linter.unusedVariables false
set_option linter.unusedSimpArgs false

def okPairs (m : Nat) : Bool := match spec_l08Pairs.f 100 (m : Int), impl_pairingOf.l0 100 (m : Int) [] 0 with
  | some a, some b => (a == b) && decide (a.length ≤ 100) && decide (tot a ≤ 100) && a.all (fun p => p.length == 2 && decide (1 ≤ p.getD 0 0) && decide (p.getD 0 0 ≤ m) && decide (1 ≤ p.getD 1 0) && decide (p.getD 1 0 ≤ m))
  | _, _ => false
set_option maxRecDepth 100000 in
theorem okPairs_all : ∀ m : Nat, m < 8 → okPairs m = true := by decide +kernel
theorem both_pairs (m : Nat) (hm : m < 8) : ∃ L : List (List Int), Ev (fun k => spec_l08Pairs.f k (m : Int)) L ∧ Ev (fun k => impl_pairingOf.l0 k (m : Int) [] 0) L ∧ L.length ≤ 100 ∧ tot L ≤ 100 ∧ ∀ p, p ∈ L → ∃ a b : Int, p = [a, b] ∧ 1 ≤ a ∧ a ≤ m ∧ 1 ≤ b ∧ b ≤ m := by
  have h := okPairs_all m hm
  unfold okPairs at h
  split at h
  · rename_i a b ha hb
    simp only [Bool.and_eq_true, beq_iff_eq, decide_eq_true_eq, List.all_eq_true] at h
    obtain ⟨⟨⟨rfl, h1⟩, h2⟩, h3⟩ := h
    refine ⟨a, Ev.of (spec_l08Pairs.mono _) ha, Ev.of (fun k => (impl_pairingOf.mono_l k).1 _ _ _) hb, h1, h2, fun p hp => ?_⟩
    obtain ⟨⟨⟨⟨p1, p2⟩, p3⟩, p4⟩, p5⟩ := h3 p hp
    match p, p1 with
    | [x, y], _ => exact ⟨x, y, rfl, by simpa using p2, by simpa using p3, by simpa using p4, by simpa using p5⟩
  · cases h
/-- What both make of an angle: the orbit, the pairs, the code. -/
theorem both_pairing (a b : Int) : ∃ (o : List S51) (L : List (List Int)) (c : Int), Ev (fun k => impl_pairingOf.f k a b) (o, L, c) ∧ Ev (fun k => spec_l08Orbit.f k a b) (o, c) ∧ L.length ≤ 100 ∧ tot L ≤ 100 ∧
    (c = 0 → o.length < 8 ∧ Ev (fun k => spec_l08Pairs.f k (o.length : Int)) L ∧ (∀ p, p ∈ L → ∃ i j : Int, p = [i, j] ∧ 1 ≤ i ∧ i ≤ o.length ∧ 1 ≤ j ∧ j ≤ o.length) ∧ isA a b = true ∧ ∃ (p q : _) , b = 2 ^ p * q ∧ q % 2 = 1 ∧ (orbGo (a, b) p 65 0).1 = o ∧ (orbGo (a, b) p 65 0).2.2 = true) := by
  cases h : isA a b with
  | false =>
    refine ⟨[], [], 1, ?_, ?_, by simp, by simp [tot], fun h => by omega⟩
    · unfold impl_pairingOf.f
      refine Ev.bind (ev_impl_IsAngle a b) ?_
      simp only [h, Bool.false_eq_true, if_false]
      exact Ev.now _
    · unfold spec_l08Orbit.f
      refine Ev.bind (ev_spec_Is a b) ?_
      simp only [h, Bool.false_eq_true, if_false]
      exact Ev.now _
  | true =>
    have hb := isA_bd h
    obtain ⟨p, q, e, hq⟩ := exists_odd b.toNat (by omega)
    have hx : b = 2 ^ p * q := by rw [← e]; omega
    have hs := ev_spec_orbit h hx hq
    have hi := ev_impl_orbit h hx hq
    generalize ho : orbGo (a, b) p 65 0 = o at hs hi
    by_cases h2 : o.2.2 = true
    · by_cases h7 : (o.1.length : Int) > 7
      · refine ⟨[], [], 2, ?_, ?_, by simp, by simp [tot], fun h => by omega⟩
        · unfold impl_pairingOf.f
          refine Ev.bind (ev_impl_IsAngle a b) ?_
          simp only [h, if_true]
          refine Ev.bind hi ?_
          simp only [h2, if_true, if_pos h7]
          exact Ev.now _
        · unfold spec_l08Orbit.f
          refine Ev.bind (ev_spec_Is a b) ?_
          simp only [h, if_true]
          refine Ev.bind hs ?_
          simp only [h2, if_true, if_pos h7]
          exact Ev.now _
      · obtain ⟨L, l1, l2, l3, l4, l5⟩ := both_pairs o.1.length (by omega)
        refine ⟨o.1, L, 0, ?_, ?_, l3, l4, fun _ => ⟨by omega, l1, l5, rfl, p, q, hx, hq, by rw [ho], by rw [ho]; exact h2⟩⟩
        · unfold impl_pairingOf.f
          refine Ev.bind (ev_impl_IsAngle a b) ?_
          simp only [h, if_true]
          refine Ev.bind hi ?_
          simp only [h2, if_true, if_neg h7]
          exact Ev.bind l2 (Ev.now _)
        · unfold spec_l08Orbit.f
          refine Ev.bind (ev_spec_Is a b) ?_
          simp only [h, if_true]
          refine Ev.bind hs ?_
          simp only [h2, if_true, if_neg h7]
          exact Ev.now _
    · refine ⟨[], [], 2, ?_, ?_, by simp, by simp [tot], fun h => by omega⟩
      · unfold impl_pairingOf.f
        refine Ev.bind (ev_impl_IsAngle a b) ?_
        simp only [h, if_true]
        refine Ev.bind hi ?_
        simp only [if_neg h2]
        exact Ev.now _
      · unfold spec_l08Orbit.f
        refine Ev.bind (ev_spec_Is a b) ?_
        simp only [h, if_true]
        refine Ev.bind hs ?_
        simp only [if_neg h2]
        exact Ev.now _
end Go.Proofs.Ytngffoffjiofbaa.Q
end
section
-- By wip/hyb/hyb.py of this session, over the kit's print.py
namespace Go.Proofs.Ytngffoffjiofbaa.Q
open Go.Proofs.YtngffoffjiofbaaW.Ext
open Go.RowKit Go.Proofs.YtngffoffjiofbaaW.PrintWords Go.Proofs.YtngffoffjiofbaaW.PrintLast Go.Proofs.YtngffoffjiofbaaW.PrintMore
attribute [local go_sem] max2_int min2_int max_two min_two max_three min_three max_four min_four   -- for this text's walks alone
set_option linter.unusedVariables false
set_option linter.unusedSimpArgs false

/-! ### cmp_isNaN_int64: function 104 -/
def cmp_isNaN_int64.f (a0 : Int) : Option (Bool) := some (a0 != a0)
set_option maxHeartbeats 8000000 in
set_option maxRecDepth 100000 in
theorem cmp_isNaN_int64.calls (a0 : Int) (r : Bool) (w : World) (h : cmp_isNaN_int64.f a0 = some r) :
    Calls Try.prog 104 #[.int .i64 a0] w fun e w' => e = .returned (.bool r) ∧ Drawn0 w w' := by
  have H : (some (a0 != a0)) = some r := h
  clear h
  obtain rfl := Option.some.inj H
  go_enter Try.func104, Try.ntmps104
  go_wp2
  go_ret
  exact ⟨by first | rfl | (simp; done) | (simp [*]; done), by repeat (first | exact Drawn0.refl _ | apply Drawn0.step)⟩

end Go.Proofs.Ytngffoffjiofbaa.Q
end
section
-- By wip/hyb/hyb.py of this session, over the kit's print.py
namespace Go.Proofs.Ytngffoffjiofbaa.Q
open Go.Proofs.YtngffoffjiofbaaW.Ext
open Go.RowKit Go.Proofs.YtngffoffjiofbaaW.PrintWords Go.Proofs.YtngffoffjiofbaaW.PrintLast Go.Proofs.YtngffoffjiofbaaW.PrintMore
attribute [local go_sem] max2_int min2_int max_two min_two max_three min_three max_four min_four   -- for this text's walks alone
set_option linter.unusedVariables false
set_option linter.unusedSimpArgs false

/-! ### cmp_Compare_int64: function 100 -/
def cmp_Compare_int64.f (a0 : Int) (a1 : Int) : Option (Int) := (cmp_isNaN_int64.f a0).bind fun t159 => ((cmp_isNaN_int64.f a1).bind fun t160 => (if t159 = true then (if t160 = true then (some 0) else (some (-1))) else (if t160 = true then (some 1) else (if a0 < a1 then (some (-1)) else (if a0 > a1 then (some 1) else (some 0))))))
set_option maxHeartbeats 8000000 in
set_option maxRecDepth 100000 in
theorem cmp_Compare_int64.calls (a0 : Int) (a1 : Int) (r : Int) (w : World) (h : cmp_Compare_int64.f a0 a1 = some r) :
    Calls Try.prog 100 #[.int .i64 a0, .int .i64 a1] w fun e w' => e = .returned (.int .i64 r) ∧ Drawn0 w w' := by
  have H : ((cmp_isNaN_int64.f a0).bind fun t159 => ((cmp_isNaN_int64.f a1).bind fun t160 => (if t159 = true then (if t160 = true then (some 0) else (some (-1))) else (if t160 = true then (some 1) else (if a0 < a1 then (some (-1)) else (if a0 > a1 then (some 1) else (some 0))))))) = some r := h
  clear h
  replace H := Option.bind_eq_some_iff.mp H
  obtain ⟨t159, A30, H⟩ := H
  replace H : ((cmp_isNaN_int64.f a1).bind fun t160 => (if t159 = true then (if t160 = true then (some 0) else (some (-1))) else (if t160 = true then (some 1) else (if a0 < a1 then (some (-1)) else (if a0 > a1 then (some 1) else (some 0)))))) = some r := H
  have A3 := Aside0.mk A30
  clear A30
  replace H := Option.bind_eq_some_iff.mp H
  obtain ⟨t160, A40, H⟩ := H
  replace H : (if t159 = true then (if t160 = true then (some 0) else (some (-1))) else (if t160 = true then (some 1) else (if a0 < a1 then (some (-1)) else (if a0 > a1 then (some 1) else (some 0))))) = some r := H
  have A4 := Aside0.mk A40
  clear A40
  by_cases c5 : t159 = true
  · subst c5
    have H1 : (if t160 = true then (some 0) else (some (-1))) = some r := by rw [if_pos rfl] at H; exact H
    clear H
    have H := H1
    clear H1
    by_cases c6 : t160 = true
    · subst c6
      have H1 : (some 0) = some r := by rw [if_pos rfl] at H; exact H
      clear H
      have H := H1
      clear H1
      obtain rfl := Option.some.inj H
      go_enter Try.func100, Try.ntmps100
      go_wp2_with (first | ((with_reducible refine gate_callee (f := 104) rfl ?_); refine goesL_ (some 8) rfl rfl Try.func104 (by kernel_rfl) rfl #[.int .i64 a0] rfl (by (try simp only [List.map_toArray, List.map_cons, List.map_nil]); first | done | rfl | (simp only [List.length_drop, List.length_take]; rfl)) ?_; (with_reducible refine (cmp_isNaN_int64.calls a0 true _ A3.out).mono ?_); rintro e w' ⟨rfl, ⟨nd, rfl⟩⟩; refine ⟨_, rfl, ?_⟩) | ((with_reducible refine gate_callee (f := 104) rfl ?_); refine goesL_ (some 10) rfl rfl Try.func104 (by kernel_rfl) rfl #[.int .i64 a1] rfl (by (try simp only [List.map_toArray, List.map_cons, List.map_nil]); first | done | rfl | (simp only [List.length_drop, List.length_take]; rfl)) ?_; (with_reducible refine (cmp_isNaN_int64.calls a1 true _ A4.out).mono ?_); rintro e w' ⟨rfl, ⟨nd, rfl⟩⟩; refine ⟨_, rfl, ?_⟩))
      go_ret
      exact ⟨by first | rfl | (simp; done) | (simp [*]; done), by repeat (first | exact Drawn0.refl _ | apply Drawn0.step)⟩
    · replace c6 := Bool.eq_false_iff.mpr c6
      subst c6
      have H1 : (some (-1)) = some r := by rw [if_neg (show ¬ (false = true) by decide)] at H; exact H
      clear H
      have H := H1
      clear H1
      obtain rfl := Option.some.inj H
      go_enter Try.func100, Try.ntmps100
      go_wp2_with (first | ((with_reducible refine gate_callee (f := 104) rfl ?_); refine goesL_ (some 8) rfl rfl Try.func104 (by kernel_rfl) rfl #[.int .i64 a0] rfl (by (try simp only [List.map_toArray, List.map_cons, List.map_nil]); first | done | rfl | (simp only [List.length_drop, List.length_take]; rfl)) ?_; (with_reducible refine (cmp_isNaN_int64.calls a0 true _ A3.out).mono ?_); rintro e w' ⟨rfl, ⟨nd, rfl⟩⟩; refine ⟨_, rfl, ?_⟩) | ((with_reducible refine gate_callee (f := 104) rfl ?_); refine goesL_ (some 10) rfl rfl Try.func104 (by kernel_rfl) rfl #[.int .i64 a1] rfl (by (try simp only [List.map_toArray, List.map_cons, List.map_nil]); first | done | rfl | (simp only [List.length_drop, List.length_take]; rfl)) ?_; (with_reducible refine (cmp_isNaN_int64.calls a1 false _ A4.out).mono ?_); rintro e w' ⟨rfl, ⟨nd, rfl⟩⟩; refine ⟨_, rfl, ?_⟩))
      go_ret
      exact ⟨by first | rfl | (simp; done) | (simp [*]; done), by repeat (first | exact Drawn0.refl _ | apply Drawn0.step)⟩
  · replace c5 := Bool.eq_false_iff.mpr c5
    subst c5
    have H1 : (if t160 = true then (some 1) else (if a0 < a1 then (some (-1)) else (if a0 > a1 then (some 1) else (some 0)))) = some r := by rw [if_neg (show ¬ (false = true) by decide)] at H; exact H
    clear H
    have H := H1
    clear H1
    by_cases c7 : t160 = true
    · subst c7
      have H1 : (some 1) = some r := by rw [if_pos rfl] at H; exact H
      clear H
      have H := H1
      clear H1
      obtain rfl := Option.some.inj H
      go_enter Try.func100, Try.ntmps100
      go_wp2_with (first | ((with_reducible refine gate_callee (f := 104) rfl ?_); refine goesL_ (some 8) rfl rfl Try.func104 (by kernel_rfl) rfl #[.int .i64 a0] rfl (by (try simp only [List.map_toArray, List.map_cons, List.map_nil]); first | done | rfl | (simp only [List.length_drop, List.length_take]; rfl)) ?_; (with_reducible refine (cmp_isNaN_int64.calls a0 false _ A3.out).mono ?_); rintro e w' ⟨rfl, ⟨nd, rfl⟩⟩; refine ⟨_, rfl, ?_⟩) | ((with_reducible refine gate_callee (f := 104) rfl ?_); refine goesL_ (some 10) rfl rfl Try.func104 (by kernel_rfl) rfl #[.int .i64 a1] rfl (by (try simp only [List.map_toArray, List.map_cons, List.map_nil]); first | done | rfl | (simp only [List.length_drop, List.length_take]; rfl)) ?_; (with_reducible refine (cmp_isNaN_int64.calls a1 true _ A4.out).mono ?_); rintro e w' ⟨rfl, ⟨nd, rfl⟩⟩; refine ⟨_, rfl, ?_⟩))
      go_ret
      exact ⟨by first | rfl | (simp; done) | (simp [*]; done), by repeat (first | exact Drawn0.refl _ | apply Drawn0.step)⟩
    · replace c7 := Bool.eq_false_iff.mpr c7
      subst c7
      have H1 : (if a0 < a1 then (some (-1)) else (if a0 > a1 then (some 1) else (some 0))) = some r := by rw [if_neg (show ¬ (false = true) by decide)] at H; exact H
      clear H
      have H := H1
      clear H1
      by_cases c8 : a0 < a1
      · rw [if_pos c8] at H
        have c8b0 : decide (a0 < a1) = true := decide_eq_true c8
        clear c8
        obtain rfl := Option.some.inj H
        go_enter Try.func100, Try.ntmps100
        go_wp2_with (first | ((with_reducible refine gate_callee (f := 104) rfl ?_); refine goesL_ (some 8) rfl rfl Try.func104 (by kernel_rfl) rfl #[.int .i64 a0] rfl (by (try simp only [List.map_toArray, List.map_cons, List.map_nil]); first | done | rfl | (simp only [List.length_drop, List.length_take]; rfl)) ?_; (with_reducible refine (cmp_isNaN_int64.calls a0 false _ A3.out).mono ?_); rintro e w' ⟨rfl, ⟨nd, rfl⟩⟩; refine ⟨_, rfl, ?_⟩) | ((with_reducible refine gate_callee (f := 104) rfl ?_); refine goesL_ (some 10) rfl rfl Try.func104 (by kernel_rfl) rfl #[.int .i64 a1] rfl (by (try simp only [List.map_toArray, List.map_cons, List.map_nil]); first | done | rfl | (simp only [List.length_drop, List.length_take]; rfl)) ?_; (with_reducible refine (cmp_isNaN_int64.calls a1 false _ A4.out).mono ?_); rintro e w' ⟨rfl, ⟨nd, rfl⟩⟩; refine ⟨_, rfl, ?_⟩))
        go_ret
        exact ⟨by first | rfl | (simp; done) | (simp [*]; done), by repeat (first | exact Drawn0.refl _ | apply Drawn0.step)⟩
      · rw [if_neg c8] at H
        have c8b0 : decide (a0 < a1) = false := decide_eq_false c8
        clear c8
        by_cases c9 : a0 > a1
        · rw [if_pos c9] at H
          have c9b0 : decide (a1 < a0) = true := decide_eq_true c9
          clear c9
          obtain rfl := Option.some.inj H
          go_enter Try.func100, Try.ntmps100
          go_wp2_with (first | ((with_reducible refine gate_callee (f := 104) rfl ?_); refine goesL_ (some 8) rfl rfl Try.func104 (by kernel_rfl) rfl #[.int .i64 a0] rfl (by (try simp only [List.map_toArray, List.map_cons, List.map_nil]); first | done | rfl | (simp only [List.length_drop, List.length_take]; rfl)) ?_; (with_reducible refine (cmp_isNaN_int64.calls a0 false _ A3.out).mono ?_); rintro e w' ⟨rfl, ⟨nd, rfl⟩⟩; refine ⟨_, rfl, ?_⟩) | ((with_reducible refine gate_callee (f := 104) rfl ?_); refine goesL_ (some 10) rfl rfl Try.func104 (by kernel_rfl) rfl #[.int .i64 a1] rfl (by (try simp only [List.map_toArray, List.map_cons, List.map_nil]); first | done | rfl | (simp only [List.length_drop, List.length_take]; rfl)) ?_; (with_reducible refine (cmp_isNaN_int64.calls a1 false _ A4.out).mono ?_); rintro e w' ⟨rfl, ⟨nd, rfl⟩⟩; refine ⟨_, rfl, ?_⟩))
          go_ret
          exact ⟨by first | rfl | (simp; done) | (simp [*]; done), by repeat (first | exact Drawn0.refl _ | apply Drawn0.step)⟩
        · rw [if_neg c9] at H
          have c9b0 : decide (a1 < a0) = false := decide_eq_false c9
          clear c9
          obtain rfl := Option.some.inj H
          go_enter Try.func100, Try.ntmps100
          go_wp2_with (first | ((with_reducible refine gate_callee (f := 104) rfl ?_); refine goesL_ (some 8) rfl rfl Try.func104 (by kernel_rfl) rfl #[.int .i64 a0] rfl (by (try simp only [List.map_toArray, List.map_cons, List.map_nil]); first | done | rfl | (simp only [List.length_drop, List.length_take]; rfl)) ?_; (with_reducible refine (cmp_isNaN_int64.calls a0 false _ A3.out).mono ?_); rintro e w' ⟨rfl, ⟨nd, rfl⟩⟩; refine ⟨_, rfl, ?_⟩) | ((with_reducible refine gate_callee (f := 104) rfl ?_); refine goesL_ (some 10) rfl rfl Try.func104 (by kernel_rfl) rfl #[.int .i64 a1] rfl (by (try simp only [List.map_toArray, List.map_cons, List.map_nil]); first | done | rfl | (simp only [List.length_drop, List.length_take]; rfl)) ?_; (with_reducible refine (cmp_isNaN_int64.calls a1 false _ A4.out).mono ?_); rintro e w' ⟨rfl, ⟨nd, rfl⟩⟩; refine ⟨_, rfl, ?_⟩))
          go_ret
          exact ⟨by first | rfl | (simp; done) | (simp [*]; done), by repeat (first | exact Drawn0.refl _ | apply Drawn0.step)⟩

end Go.Proofs.Ytngffoffjiofbaa.Q
end
section
-- By wip/hyb/hyb.py of this session, over the kit's print.py
namespace Go.Proofs.Ytngffoffjiofbaa.Q
open Go.Proofs.YtngffoffjiofbaaW.Ext
open Go.RowKit Go.Proofs.YtngffoffjiofbaaW.PrintWords Go.Proofs.YtngffoffjiofbaaW.PrintLast Go.Proofs.YtngffoffjiofbaaW.PrintMore
attribute [local go_sem] max2_int min2_int max_two min_two max_three min_three max_four min_four   -- for this text's walks alone
set_option linter.unusedVariables false
set_option linter.unusedSimpArgs false

/-! ### impl_Angle_compare: function 75 -/
def impl_Angle_compare.f (a0_0 : Int) (a0_1 : Int) (a1_0 : Int) (a1_1 : Int) : Option (Int) := (cmp_Compare_int64.f (wrap64 (a0_0 * a1_1)) (wrap64 (a1_0 * a0_1))).bind fun t163 => (some t163)
set_option maxHeartbeats 8000000 in
set_option maxRecDepth 100000 in
theorem impl_Angle_compare.calls (a0_0 : Int) (a0_1 : Int) (a1_0 : Int) (a1_1 : Int) (r : Int) (w : World) (h : impl_Angle_compare.f a0_0 a0_1 a1_0 a1_1 = some r) :
    Calls Try.prog 75 #[.agg #[.int .i64 a0_0, .int .i64 a0_1], .agg #[.int .i64 a1_0, .int .i64 a1_1]] w fun e w' => e = .returned (.int .i64 r) ∧ Below w.heap.size w w' := by
  have hu51 := Try.underlying51
  have HB := Aside0.mk (Below.refl w.heap.size w)
  have H : ((cmp_Compare_int64.f (wrap64 (a0_0 * a1_1)) (wrap64 (a1_0 * a0_1))).bind fun t163 => (some t163)) = some r := h
  clear h
  replace H := Option.bind_eq_some_iff.mp H
  obtain ⟨t163, A30, H⟩ := H
  replace H : (some t163) = some r := H
  have A3 := Aside0.mk A30
  clear A30
  obtain rfl := Option.some.inj H
  go_enter Try.func75, Try.ntmps75
  go_wp2_with (first | ((with_reducible refine gate_dst (N := 2) rfl ?_); refine box_event ?hg (N := 2) ?hd (cs := #[.int .i64 a0_0, .int .i64 a0_1]) (t := 51) ?hr ?_; (case hd => rfl); (case hg => rfl); (case hr => first | (go_simp; done) | (go_simp; rfl)); intro gb161 hg w4 hbox hb; have n0_ := Aside0.mk (below_step (by repeat (first | (with_reducible first | exact HB.out | apply below_alloc | apply pw_below_drewN | apply below_drew1) | exact HB.out)) hb); have n1_ := Aside0.mk (hbox); have n2_ := Aside0.mk ((by rw [hg]; exact (below_size (by repeat (first | (with_reducible first | exact HB.out | apply below_alloc | apply pw_below_drewN | apply below_drew1) | exact HB.out))) : w.heap.size ≤ gb161)); have n3_ := Aside0.mk ((by rw [hg]; exact (below_size (by repeat (first | (with_reducible first | exact HB.out | apply below_alloc | apply pw_below_drewN | apply below_drew1) | exact HB.out))) : w.heap.size ≤ gb161)); clear HB; have HB := n0_; have BK161 := n1_; have GW161 := n2_; have GE161 := n3_; clear n0_ n1_ n2_ n3_; clear hb hbox hg) | ((with_reducible refine gate_dst (N := 3) rfl ?_); refine box_event ?hg (N := 3) ?hd (cs := #[.int .i64 a1_0, .int .i64 a1_1]) (t := 51) ?hr ?_; (case hd => rfl); (case hg => rfl); (case hr => first | (go_simp; done) | (go_simp; rfl)); intro gb162 hg w5 hbox hb; have n0_ := Aside0.mk (blk_below (g := gb161) (o := .cells #[.int .i64 a0_0, .int .i64 a0_1] 51 (0, 0)) (by (with_reducible repeat (first | refine blk_drewN ?_ _ | refine blk_drew ?_ | refine blk_alloc ?_ _)); exact BK161.out) hb); have n1_ := Aside0.mk (below_step (by repeat (first | (with_reducible first | exact HB.out | apply below_alloc | apply pw_below_drewN | apply below_drew1 | refine below_set ?_ GE161.out) | exact HB.out)) hb); have n2_ := Aside0.mk (hbox); have n3_ := Aside0.mk ((by rw [hg]; exact (below_size (by repeat (first | (with_reducible first | exact HB.out | apply below_alloc | apply pw_below_drewN | apply below_drew1 | refine below_set ?_ GE161.out) | exact HB.out))) : w.heap.size ≤ gb162)); have n4_ := Aside0.mk ((by rw [hg]; exact (below_size (by repeat (first | (with_reducible first | exact HB.out | apply below_alloc | apply pw_below_drewN | apply below_drew1 | refine below_set ?_ GE161.out) | exact HB.out))) : w.heap.size ≤ gb162)); have n5_ := Aside0.mk ((by rw [hg]; exact Nat.ne_of_lt (blk_lt (g := gb161) (o := .cells #[.int .i64 a0_0, .int .i64 a0_1] 51 (0, 0)) (by (with_reducible repeat (first | refine blk_drewN ?_ _ | refine blk_drew ?_ | refine blk_alloc ?_ _)); exact BK161.out)) : gb161 ≠ gb162)); have n6_ := Aside0.mk ((by rw [hg]; exact Nat.ne_of_gt (blk_lt (g := gb161) (o := .cells #[.int .i64 a0_0, .int .i64 a0_1] 51 (0, 0)) (by (with_reducible repeat (first | refine blk_drewN ?_ _ | refine blk_drew ?_ | refine blk_alloc ?_ _)); exact BK161.out)) : gb162 ≠ gb161)); clear BK161; clear HB; have BK161 := n0_; have HB := n1_; have BK162 := n2_; have GW162 := n3_; have GE162 := n4_; have NB161_162 := n5_; have NB162_161 := n6_; clear n0_ n1_ n2_ n3_ n4_ n5_ n6_; clear hb hbox hg; have hnb6 := NB161_162.out; have hnc6 := NB162_161.out; have hcz7_0 : w5.cell? ⟨gb161, 0, none⟩ = some (.int .i64 a0_0) := (blk_cell BK161.out 0).trans rfl; have hcz7_1 : w5.cell? ⟨gb161, 1, none⟩ = some (.int .i64 a0_1) := (blk_cell BK161.out 1).trans rfl; have hfz7_0 := blk_frozen BK161.out 0; have hfz7_1 := blk_frozen BK161.out 1; have hcz8_0 : w5.cell? ⟨gb162, 0, none⟩ = some (.int .i64 a1_0) := (blk_cell BK162.out 0).trans rfl; have hcz8_1 : w5.cell? ⟨gb162, 1, none⟩ = some (.int .i64 a1_1) := (blk_cell BK162.out 1).trans rfl; have hfz8_0 := blk_frozen BK162.out 0; have hfz8_1 := blk_frozen BK162.out 1) | ((with_reducible refine gate_callee (f := 100) rfl ?_); refine goesL_ (some 15) rfl rfl Try.func100 (by kernel_rfl) rfl #[.int .i64 (wrap64 (a0_0 * a1_1)), .int .i64 (wrap64 (a1_0 * a0_1))] rfl (by (try simp only [List.map_toArray, List.map_cons, List.map_nil]); first | done | rfl | (simp only [List.length_drop, List.length_take]; rfl)) ?_; (with_reducible refine (cmp_Compare_int64.calls (wrap64 (a0_0 * a1_1)) (wrap64 (a1_0 * a0_1)) t163 _ A3.out).mono ?_); rintro e w' ⟨rfl, ⟨nd, rfl⟩⟩; refine ⟨_, rfl, ?_⟩))
  go_ret
  exact ⟨by first | rfl | (simp [errW_none, errW_some] <;> rfl) | (simp [*, errW_none, errW_some] <;> rfl), by repeat (first | (with_reducible first | exact HB.out | apply below_alloc | apply pw_below_drewN | apply below_drew1 | refine below_set ?_ GE161.out | refine below_set ?_ GE162.out) | exact HB.out)⟩

end Go.Proofs.Ytngffoffjiofbaa.Q
end
section
-- By wip/hyb/hyb.py of this session, over the kit's print.py
namespace Go.Proofs.Ytngffoffjiofbaa.Q
open Go.Proofs.YtngffoffjiofbaaW.Ext
open Go.RowKit Go.Proofs.YtngffoffjiofbaaW.PrintWords Go.Proofs.YtngffoffjiofbaaW.PrintLast Go.Proofs.YtngffoffjiofbaaW.PrintMore
attribute [local go_sem] max2_int min2_int max_two min_two max_three min_three max_four min_four   -- for this text's walks alone
set_option linter.unusedVariables false
set_option linter.unusedSimpArgs false

/-! ### spec_l01Less: function 81 -/
def spec_l01Less.f (a0_0 : Int) (a0_1 : Int) (a1_0 : Int) (a1_1 : Int) : Option (Bool) := some (decide ((wrap64 (a0_0 * a1_1)) < (wrap64 (a1_0 * a0_1))))
set_option maxHeartbeats 8000000 in
set_option maxRecDepth 100000 in
theorem spec_l01Less.calls (a0_0 : Int) (a0_1 : Int) (a1_0 : Int) (a1_1 : Int) (r : Bool) (w : World) (h : spec_l01Less.f a0_0 a0_1 a1_0 a1_1 = some r) :
    Calls Try.prog 81 #[.agg #[.int .i64 a0_0, .int .i64 a0_1], .agg #[.int .i64 a1_0, .int .i64 a1_1]] w fun e w' => e = .returned (.bool r) ∧ Below w.heap.size w w' := by
  have hu51 := Try.underlying51
  have HB := Aside0.mk (Below.refl w.heap.size w)
  have H : (some (decide ((wrap64 (a0_0 * a1_1)) < (wrap64 (a1_0 * a0_1))))) = some r := h
  clear h
  obtain rfl := Option.some.inj H
  go_enter Try.func81, Try.ntmps81
  go_wp2_with (first | ((with_reducible refine gate_dst (N := 2) rfl ?_); refine box_event ?hg (N := 2) ?hd (cs := #[.int .i64 a0_0, .int .i64 a0_1]) (t := 51) ?hr ?_; (case hd => rfl); (case hg => rfl); (case hr => first | (go_simp; done) | (go_simp; rfl)); intro gb105 hg w3 hbox hb; have n0_ := Aside0.mk (below_step (by repeat (first | (with_reducible first | exact HB.out | apply below_alloc | apply pw_below_drewN | apply below_drew1) | exact HB.out)) hb); have n1_ := Aside0.mk (hbox); have n2_ := Aside0.mk ((by rw [hg]; exact (below_size (by repeat (first | (with_reducible first | exact HB.out | apply below_alloc | apply pw_below_drewN | apply below_drew1) | exact HB.out))) : w.heap.size ≤ gb105)); have n3_ := Aside0.mk ((by rw [hg]; exact (below_size (by repeat (first | (with_reducible first | exact HB.out | apply below_alloc | apply pw_below_drewN | apply below_drew1) | exact HB.out))) : w.heap.size ≤ gb105)); clear HB; have HB := n0_; have BK105 := n1_; have GW105 := n2_; have GE105 := n3_; clear n0_ n1_ n2_ n3_; clear hb hbox hg) | ((with_reducible refine gate_dst (N := 3) rfl ?_); refine box_event ?hg (N := 3) ?hd (cs := #[.int .i64 a1_0, .int .i64 a1_1]) (t := 51) ?hr ?_; (case hd => rfl); (case hg => rfl); (case hr => first | (go_simp; done) | (go_simp; rfl)); intro gb106 hg w4 hbox hb; have n0_ := Aside0.mk (blk_below (g := gb105) (o := .cells #[.int .i64 a0_0, .int .i64 a0_1] 51 (0, 0)) (by (with_reducible repeat (first | refine blk_drewN ?_ _ | refine blk_drew ?_ | refine blk_alloc ?_ _)); exact BK105.out) hb); have n1_ := Aside0.mk (below_step (by repeat (first | (with_reducible first | exact HB.out | apply below_alloc | apply pw_below_drewN | apply below_drew1 | refine below_set ?_ GE105.out) | exact HB.out)) hb); have n2_ := Aside0.mk (hbox); have n3_ := Aside0.mk ((by rw [hg]; exact (below_size (by repeat (first | (with_reducible first | exact HB.out | apply below_alloc | apply pw_below_drewN | apply below_drew1 | refine below_set ?_ GE105.out) | exact HB.out))) : w.heap.size ≤ gb106)); have n4_ := Aside0.mk ((by rw [hg]; exact (below_size (by repeat (first | (with_reducible first | exact HB.out | apply below_alloc | apply pw_below_drewN | apply below_drew1 | refine below_set ?_ GE105.out) | exact HB.out))) : w.heap.size ≤ gb106)); have n5_ := Aside0.mk ((by rw [hg]; exact Nat.ne_of_lt (blk_lt (g := gb105) (o := .cells #[.int .i64 a0_0, .int .i64 a0_1] 51 (0, 0)) (by (with_reducible repeat (first | refine blk_drewN ?_ _ | refine blk_drew ?_ | refine blk_alloc ?_ _)); exact BK105.out)) : gb105 ≠ gb106)); have n6_ := Aside0.mk ((by rw [hg]; exact Nat.ne_of_gt (blk_lt (g := gb105) (o := .cells #[.int .i64 a0_0, .int .i64 a0_1] 51 (0, 0)) (by (with_reducible repeat (first | refine blk_drewN ?_ _ | refine blk_drew ?_ | refine blk_alloc ?_ _)); exact BK105.out)) : gb106 ≠ gb105)); clear BK105; clear HB; have BK105 := n0_; have HB := n1_; have BK106 := n2_; have GW106 := n3_; have GE106 := n4_; have NB105_106 := n5_; have NB106_105 := n6_; clear n0_ n1_ n2_ n3_ n4_ n5_ n6_; clear hb hbox hg; have hnb5 := NB105_106.out; have hnc5 := NB106_105.out; have hcz6_0 : w4.cell? ⟨gb105, 0, none⟩ = some (.int .i64 a0_0) := (blk_cell BK105.out 0).trans rfl; have hcz6_1 : w4.cell? ⟨gb105, 1, none⟩ = some (.int .i64 a0_1) := (blk_cell BK105.out 1).trans rfl; have hfz6_0 := blk_frozen BK105.out 0; have hfz6_1 := blk_frozen BK105.out 1; have hcz7_0 : w4.cell? ⟨gb106, 0, none⟩ = some (.int .i64 a1_0) := (blk_cell BK106.out 0).trans rfl; have hcz7_1 : w4.cell? ⟨gb106, 1, none⟩ = some (.int .i64 a1_1) := (blk_cell BK106.out 1).trans rfl; have hfz7_0 := blk_frozen BK106.out 0; have hfz7_1 := blk_frozen BK106.out 1))
  go_ret
  exact ⟨by first | rfl | (simp [errW_none, errW_some] <;> rfl) | (simp [*, errW_none, errW_some] <;> rfl), by repeat (first | (with_reducible first | exact HB.out | apply below_alloc | apply pw_below_drewN | apply below_drew1 | refine below_set ?_ GE105.out | refine below_set ?_ GE106.out) | exact HB.out)⟩

end Go.Proofs.Ytngffoffjiofbaa.Q
end
section
/- Comparing angles, cyclic orders and arcs: the printed functions' plain values. -/
namespace Go.Proofs.Ytngffoffjiofbaa.Q
open Go.RowKit Go.Proofs.YtngffoffjiofbaaW.PrintWords Go.Proofs.YtngffoffjiofbaaW.PrintLast Go.Proofs.YtngffoffjiofbaaW.Ext Go.Proofs.Ytngffoffjiofbaa.Ang
set_option linter.unusedVariables false

/-- What is small enough for products: Nums and Dens below 2^31. -/
def small (n d : Int) : Prop := 0 ≤ n ∧ n ≤ 2147483648 ∧ 1 ≤ d ∧ d ≤ 2147483648
theorem isA_small {n d : Int} (h : isA n d = true) : small n d := by
  obtain ⟨a, b, c, e, _⟩ := isA_iff.1 h
  exact ⟨by omega, by omega, by omega, by omega⟩
theorem mul_in {x y : Int} (h0 : 0 ≤ x) (h1 : x ≤ 2147483648) (h2 : 0 ≤ y) (h3 : y ≤ 2147483648) : 0 ≤ x * y ∧ x * y ≤ 4611686018427387904 := by
  have a : 0 ≤ x * y := Int.mul_nonneg h0 h2
  have b : x * y ≤ 2147483648 * y := Int.mul_le_mul_of_nonneg_right h1 h2
  omega
theorem less_val {a b c d : Int} (h : small a b) (k : small c d) : spec_l01Less.f a b c d = some (decide (lt (a, b) (c, d))) := by
  obtain ⟨h1, h2, h3, h4⟩ := h
  obtain ⟨k1, k2, k3, k4⟩ := k
  have p := mul_in h1 h2 (show 0 ≤ d by omega) k4
  have q := mul_in k1 k2 (show 0 ≤ b by omega) h4
  unfold spec_l01Less.f lt
  rw [wrap_in (by omega) (by omega), wrap_in (by omega) (by omega)]
/-- -1, 0 or 1. -/
def cmpA (a b : Int × Int) : Int := if lt a b then -1 else if lt b a then 1 else 0
theorem compare_val {a b c d : Int} (h : small a b) (k : small c d) : impl_Angle_compare.f a b c d = some (cmpA (a, b) (c, d)) := by
  obtain ⟨h1, h2, h3, h4⟩ := h
  obtain ⟨k1, k2, k3, k4⟩ := k
  have p := mul_in h1 h2 (show 0 ≤ d by omega) k4
  have q := mul_in k1 k2 (show 0 ≤ b by omega) h4
  unfold impl_Angle_compare.f cmp_Compare_int64.f cmp_isNaN_int64.f cmpA lt
  rw [wrap_in (by omega) (by omega), wrap_in (by omega) (by omega)]
  simp
  by_cases e1 : a * d < c * b
  · simp [e1]
  · by_cases e2 : c * b < a * d
    · simp [e1, e2]
    · simp [e1, e2]
theorem cmpA_neg {a b : Int × Int} : cmpA a b < 0 ↔ lt a b := by
  unfold cmpA
  by_cases h : lt a b
  · simp [h]
  · by_cases k : lt b a <;> simp [h, k]
theorem cmpA_pos {a b : Int × Int} : cmpA a b > 0 ↔ lt b a := by
  unfold cmpA
  by_cases h : lt a b
  · have := lt_asymm h
    simp [h, this]
  · by_cases k : lt b a <;> simp [h, k]
theorem eq_pair {a b c d : Int} : (a == c && (b == d)) = decide ((a, b) = (c, d)) := by
  rw [Bool.eq_iff_iff]; simp
end Go.Proofs.Ytngffoffjiofbaa.Q
end
section
-- By wip/hyb/hyb.py of this session, over the kit's print.py
namespace Go.Proofs.Ytngffoffjiofbaa.Q
open Go.Proofs.YtngffoffjiofbaaW.Ext
open Go.RowKit Go.Proofs.YtngffoffjiofbaaW.PrintWords Go.Proofs.YtngffoffjiofbaaW.PrintLast Go.Proofs.YtngffoffjiofbaaW.PrintMore
attribute [local go_sem] max2_int min2_int max_two min_two max_three min_three max_four min_four   -- for this text's walks alone
set_option linter.unusedVariables false
set_option linter.unusedSimpArgs false

/-! ### impl_Angle_minus: function 101 -/
def impl_Angle_minus.f (k : Nat) (a0_0 : Int) (a0_1 : Int) (a1_0 : Int) (a1_1 : Int) : Option (Int × Int) := (impl_angle.f k (wrap64 ((wrap64 (a0_0 * a1_1)) - (wrap64 (a1_0 * a0_1)))) (wrap64 (a0_1 * a1_1))).bind fun bt182 => (some (bt182.1, bt182.2))
theorem impl_Angle_minus.mono : ∀ a0 a1 a2 a3 k, LeO (impl_Angle_minus.f k a0 a1 a2 a3) (impl_Angle_minus.f (k + 1) a0 a1 a2 a3) := by
  intro a0 a1 a2 a3 k
  unfold impl_Angle_minus.f
  repeat' first
      | (with_reducible exact impl_angle.mono _ _ _)
      | (with_reducible exact LeO.refl _)
      | (with_reducible exact LeO.none _)
      | (with_reducible refine LeO.ite ?_ ?_)
      | (with_reducible refine LeO.bind ?_ (fun _ => ?_))
      | exact impl_angle.mono _ _ _
      | exact LeO.none _
      | refine LeO.ite ?_ ?_
      | refine LeO.bind ?_ (fun _ => ?_)
set_option maxHeartbeats 8000000 in
set_option maxRecDepth 100000 in
theorem impl_Angle_minus.calls (k : Nat) (a0_0 : Int) (a0_1 : Int) (a1_0 : Int) (a1_1 : Int) (r1 : Int) (r2 : Int) (w : World) (h : impl_Angle_minus.f k a0_0 a0_1 a1_0 a1_1 = some (r1, r2)) :
    Calls Try.prog 101 #[.agg #[.int .i64 a0_0, .int .i64 a0_1], .agg #[.int .i64 a1_0, .int .i64 a1_1]] w fun e w' => e = .returned (.agg #[.int .i64 r1, .int .i64 r2]) ∧ Below w.heap.size w w' := by
  have hu51 := Try.underlying51
  have HB := Aside0.mk (Below.refl w.heap.size w)
  have H : ((impl_angle.f k (wrap64 ((wrap64 (a0_0 * a1_1)) - (wrap64 (a1_0 * a0_1)))) (wrap64 (a0_1 * a1_1))).bind fun bt182 => (some (bt182.1, bt182.2))) = some (r1, r2) := h
  clear h
  replace H := Option.bind_eq_some_iff.mp H
  obtain ⟨⟨t182, t183⟩, A30, H⟩ := H
  replace H : (some (t182, t183)) = some (r1, r2) := H
  have A3 := Aside0.mk A30
  clear A30
  simp only [Option.some.injEq, Prod.mk.injEq] at H
  obtain ⟨rfl, rfl⟩ := H
  go_enter Try.func101, Try.ntmps101
  go_wp2_with (first | ((with_reducible refine gate_dst (N := 2) rfl ?_); refine box_event ?hg (N := 2) ?hd (cs := #[.int .i64 a0_0, .int .i64 a0_1]) (t := 51) ?hr ?_; (case hd => rfl); (case hg => rfl); (case hr => first | (go_simp; done) | (go_simp; rfl)); intro gb179 hg w4 hbox hb; have n0_ := Aside0.mk (below_step (by repeat (first | (with_reducible first | exact HB.out | apply below_alloc | apply pw_below_drewN | apply below_drew1) | exact HB.out)) hb); have n1_ := Aside0.mk (hbox); have n2_ := Aside0.mk ((by rw [hg]; exact (below_size (by repeat (first | (with_reducible first | exact HB.out | apply below_alloc | apply pw_below_drewN | apply below_drew1) | exact HB.out))) : w.heap.size ≤ gb179)); have n3_ := Aside0.mk ((by rw [hg]; exact (below_size (by repeat (first | (with_reducible first | exact HB.out | apply below_alloc | apply pw_below_drewN | apply below_drew1) | exact HB.out))) : w.heap.size ≤ gb179)); clear HB; have HB := n0_; have BK179 := n1_; have GW179 := n2_; have GE179 := n3_; clear n0_ n1_ n2_ n3_; clear hb hbox hg) | ((with_reducible refine gate_dst (N := 3) rfl ?_); refine box_event ?hg (N := 3) ?hd (cs := #[.int .i64 a1_0, .int .i64 a1_1]) (t := 51) ?hr ?_; (case hd => rfl); (case hg => rfl); (case hr => first | (go_simp; done) | (go_simp; rfl)); intro gb180 hg w5 hbox hb; have n0_ := Aside0.mk (blk_below (g := gb179) (o := .cells #[.int .i64 a0_0, .int .i64 a0_1] 51 (0, 0)) (by (with_reducible repeat (first | refine blk_drewN ?_ _ | refine blk_drew ?_ | refine blk_alloc ?_ _)); exact BK179.out) hb); have n1_ := Aside0.mk (below_step (by repeat (first | (with_reducible first | exact HB.out | apply below_alloc | apply pw_below_drewN | apply below_drew1 | refine below_set ?_ GE179.out) | exact HB.out)) hb); have n2_ := Aside0.mk (hbox); have n3_ := Aside0.mk ((by rw [hg]; exact (below_size (by repeat (first | (with_reducible first | exact HB.out | apply below_alloc | apply pw_below_drewN | apply below_drew1 | refine below_set ?_ GE179.out) | exact HB.out))) : w.heap.size ≤ gb180)); have n4_ := Aside0.mk ((by rw [hg]; exact (below_size (by repeat (first | (with_reducible first | exact HB.out | apply below_alloc | apply pw_below_drewN | apply below_drew1 | refine below_set ?_ GE179.out) | exact HB.out))) : w.heap.size ≤ gb180)); have n5_ := Aside0.mk ((by rw [hg]; exact Nat.ne_of_lt (blk_lt (g := gb179) (o := .cells #[.int .i64 a0_0, .int .i64 a0_1] 51 (0, 0)) (by (with_reducible repeat (first | refine blk_drewN ?_ _ | refine blk_drew ?_ | refine blk_alloc ?_ _)); exact BK179.out)) : gb179 ≠ gb180)); have n6_ := Aside0.mk ((by rw [hg]; exact Nat.ne_of_gt (blk_lt (g := gb179) (o := .cells #[.int .i64 a0_0, .int .i64 a0_1] 51 (0, 0)) (by (with_reducible repeat (first | refine blk_drewN ?_ _ | refine blk_drew ?_ | refine blk_alloc ?_ _)); exact BK179.out)) : gb180 ≠ gb179)); clear BK179; clear HB; have BK179 := n0_; have HB := n1_; have BK180 := n2_; have GW180 := n3_; have GE180 := n4_; have NB179_180 := n5_; have NB180_179 := n6_; clear n0_ n1_ n2_ n3_ n4_ n5_ n6_; clear hb hbox hg) | ((with_reducible refine gate_dst (N := 4) rfl ?_); refine box_event ?hg (N := 4) ?hd (cs := #[.int .i64 0, .int .i64 0]) (t := 51) ?hr ?_; (case hd => rfl); (case hg => rfl); (case hr => first | (go_simp; done) | (go_simp; rfl)); intro gb181 hg w6 hbox hb; have n0_ := Aside0.mk (blk_below (g := gb179) (o := .cells #[.int .i64 a0_0, .int .i64 a0_1] 51 (0, 0)) (by (with_reducible repeat (first | refine blk_drewN ?_ _ | refine blk_drew ?_ | refine blk_alloc ?_ _)); exact BK179.out) hb); have n1_ := Aside0.mk (blk_below (g := gb180) (o := .cells #[.int .i64 a1_0, .int .i64 a1_1] 51 (0, 0)) (by (with_reducible repeat (first | refine blk_drewN ?_ _ | refine blk_drew ?_ | refine blk_alloc ?_ _)); exact BK180.out) hb); have n2_ := Aside0.mk (below_step (by repeat (first | (with_reducible first | exact HB.out | apply below_alloc | apply pw_below_drewN | apply below_drew1 | refine below_set ?_ GE179.out | refine below_set ?_ GE180.out) | exact HB.out)) hb); have n3_ := Aside0.mk (hbox); have n4_ := Aside0.mk ((by rw [hg]; exact (below_size (by repeat (first | (with_reducible first | exact HB.out | apply below_alloc | apply pw_below_drewN | apply below_drew1 | refine below_set ?_ GE179.out | refine below_set ?_ GE180.out) | exact HB.out))) : w.heap.size ≤ gb181)); have n5_ := Aside0.mk ((by rw [hg]; exact (below_size (by repeat (first | (with_reducible first | exact HB.out | apply below_alloc | apply pw_below_drewN | apply below_drew1 | refine below_set ?_ GE179.out | refine below_set ?_ GE180.out) | exact HB.out))) : w.heap.size ≤ gb181)); have n6_ := Aside0.mk ((by rw [hg]; exact Nat.ne_of_lt (blk_lt (g := gb179) (o := .cells #[.int .i64 a0_0, .int .i64 a0_1] 51 (0, 0)) (by (with_reducible repeat (first | refine blk_drewN ?_ _ | refine blk_drew ?_ | refine blk_alloc ?_ _)); exact BK179.out)) : gb179 ≠ gb181)); have n7_ := Aside0.mk ((by rw [hg]; exact Nat.ne_of_gt (blk_lt (g := gb179) (o := .cells #[.int .i64 a0_0, .int .i64 a0_1] 51 (0, 0)) (by (with_reducible repeat (first | refine blk_drewN ?_ _ | refine blk_drew ?_ | refine blk_alloc ?_ _)); exact BK179.out)) : gb181 ≠ gb179)); have n8_ := Aside0.mk ((by rw [hg]; exact Nat.ne_of_lt (blk_lt (g := gb180) (o := .cells #[.int .i64 a1_0, .int .i64 a1_1] 51 (0, 0)) (by (with_reducible repeat (first | refine blk_drewN ?_ _ | refine blk_drew ?_ | refine blk_alloc ?_ _)); exact BK180.out)) : gb180 ≠ gb181)); have n9_ := Aside0.mk ((by rw [hg]; exact Nat.ne_of_gt (blk_lt (g := gb180) (o := .cells #[.int .i64 a1_0, .int .i64 a1_1] 51 (0, 0)) (by (with_reducible repeat (first | refine blk_drewN ?_ _ | refine blk_drew ?_ | refine blk_alloc ?_ _)); exact BK180.out)) : gb181 ≠ gb180)); clear BK179; clear BK180; clear HB; have BK179 := n0_; have BK180 := n1_; have HB := n2_; have BK181 := n3_; have GW181 := n4_; have GE181 := n5_; have NB179_181 := n6_; have NB181_179 := n7_; have NB180_181 := n8_; have NB181_180 := n9_; clear n0_ n1_ n2_ n3_ n4_ n5_ n6_ n7_ n8_ n9_; clear hb hbox hg; have hnb7 := NB179_180.out; have hnc7 := NB180_179.out; have hnb8 := NB179_181.out; have hnc8 := NB181_179.out; have hcz9_0 : w6.cell? ⟨gb179, 0, none⟩ = some (.int .i64 a0_0) := (blk_cell BK179.out 0).trans rfl; have hcz9_1 : w6.cell? ⟨gb179, 1, none⟩ = some (.int .i64 a0_1) := (blk_cell BK179.out 1).trans rfl; have hfz9_0 := blk_frozen BK179.out 0; have hfz9_1 := blk_frozen BK179.out 1; have hnb10 := NB180_181.out; have hnc10 := NB181_180.out; have hcz11_0 : w6.cell? ⟨gb180, 0, none⟩ = some (.int .i64 a1_0) := (blk_cell BK180.out 0).trans rfl; have hcz11_1 : w6.cell? ⟨gb180, 1, none⟩ = some (.int .i64 a1_1) := (blk_cell BK180.out 1).trans rfl; have hfz11_0 := blk_frozen BK180.out 0; have hfz11_1 := blk_frozen BK180.out 1) | ((with_reducible refine gate_callee (f := 84) rfl ?_); refine goesL_ (some 21) rfl rfl Try.func84 (by kernel_rfl) rfl #[.int .i64 (wrap64 ((wrap64 (a0_0 * a1_1)) - (wrap64 (a1_0 * a0_1)))), .int .i64 (wrap64 (a0_1 * a1_1))] rfl (by (try simp only [List.map_toArray, List.map_cons, List.map_nil]); first | done | rfl | (simp only [List.length_drop, List.length_take]; rfl)) ?_; (with_reducible refine (impl_angle.calls k (wrap64 ((wrap64 (a0_0 * a1_1)) - (wrap64 (a1_0 * a0_1)))) (wrap64 (a0_1 * a1_1)) t182 t183 _ A3.out).mono ?_); rintro e w12 ⟨rfl, hb⟩; refine ⟨_, rfl, ?_⟩; have n0_ := Aside0.mk (blk_below (g := gb179) (o := .cells #[.int .i64 a0_0, .int .i64 a0_1] 51 (0, 0)) (by (with_reducible repeat (first | refine blk_drewN ?_ _ | refine blk_drew ?_ | refine blk_alloc ?_ _)); exact BK179.out) hb); have n1_ := Aside0.mk (blk_below (g := gb180) (o := .cells #[.int .i64 a1_0, .int .i64 a1_1] 51 (0, 0)) (by (with_reducible repeat (first | refine blk_drewN ?_ _ | refine blk_drew ?_ | refine blk_alloc ?_ _)); exact BK180.out) hb); have n2_ := Aside0.mk (blk_below (g := gb181) (o := .cells #[.int .i64 0, .int .i64 0] 51 (0, 0)) (by (with_reducible repeat (first | refine blk_drewN ?_ _ | refine blk_drew ?_ | refine blk_alloc ?_ _)); exact BK181.out) hb); have n3_ := Aside0.mk (below_step (by repeat (first | (with_reducible first | exact HB.out | apply below_alloc | apply pw_below_drewN | apply below_drew1 | refine below_set ?_ GE179.out | refine below_set ?_ GE180.out | refine below_set ?_ GE181.out) | exact HB.out)) hb); clear BK179; clear BK180; clear BK181; clear HB; have BK179 := n0_; have BK180 := n1_; have BK181 := n2_; have HB := n3_; clear n0_ n1_ n2_ n3_; (try clear hb); (try clear hb2); (try clear hk); (try clear hi); have hcz13_0 : w12.cell? ⟨gb181, 0, none⟩ = some (.int .i64 0) := (blk_cell BK181.out 0).trans rfl; have hcz13_1 : w12.cell? ⟨gb181, 1, none⟩ = some (.int .i64 0) := (blk_cell BK181.out 1).trans rfl; have hfz13_0 := blk_frozen BK181.out 0; have hfz13_1 := blk_frozen BK181.out 1))
  refine bodyPost_ret (results_cell_row rfl _ _ gb181 51 #[.int .i64 t182, .int .i64 t183] (0, 0) _ rfl (by (with_reducible repeat (first | refine blk_drewN ?_ _ | refine blk_drew ?_ | refine blk_alloc ?_ _)); refine blk_put (cs := #[.int .i64 t182, .int .i64 0]) ?_ 1 _ rfl; (with_reducible repeat (first | refine blk_drewN ?_ _ | refine blk_drew ?_ | refine blk_alloc ?_ _)); refine blk_put (cs := #[.int .i64 0, .int .i64 0]) ?_ 0 _ rfl; (with_reducible repeat (first | refine blk_drewN ?_ _ | refine blk_drew ?_ | refine blk_alloc ?_ _)); exact BK181.out) Try.underlying51 rfl (by kernel_rfl)) rfl ?_
  exact ⟨by first | rfl | (simp [errW_none, errW_some] <;> rfl) | (simp [*, errW_none, errW_some] <;> rfl), by repeat (first | (with_reducible first | exact HB.out | apply below_alloc | apply pw_below_drewN | apply below_drew1 | refine below_set ?_ GE179.out | refine below_set ?_ GE180.out | refine below_set ?_ GE181.out) | exact HB.out)⟩

end Go.Proofs.Ytngffoffjiofbaa.Q
end
