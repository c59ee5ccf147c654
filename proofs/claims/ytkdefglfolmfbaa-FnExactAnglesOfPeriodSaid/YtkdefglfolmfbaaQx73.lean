-- By wip/hyb/hyb.py of this session, over the kit's print.py
import Derived.Test.YtkdefglfolmfbaaQx0
import Derived.Test.YtkdefglfolmfbaaQx1
import Derived.Test.YtkdefglfolmfbaaQx52
namespace Go.Proofs.Ytkdefglfolmfbaa.Q
open Go.Proofs.YtkdefglfolmfbaaW.Ext
open Go.RowKit Go.Proofs.YtkdefglfolmfbaaW.PrintWords Go.Proofs.YtkdefglfolmfbaaW.PrintLast Go.Proofs.YtkdefglfolmfbaaW.PrintMore
attribute [local go_sem] max2_int min2_int max_two min_two max_three min_three max_four min_four   -- for this text's walks alone
set_option linter.unusedVariables false
set_option linter.unusedSimpArgs false

attribute [local go_sem high] eqA27
/-! ### impl_periodOf: function 95 -/
def impl_periodOf.l0 : Nat → Int → Int → Int → Int → Int → Option (Int)
  | 0, _, _, _, _, _ => none
  | k + 1, x4, x682000, x682001, x683000, x683001 => if x4 ≤ 8 then ((impl_Angle_double.f k x683000 x683001).bind fun bt683 => (if (bt683.1 == x682000 && (bt683.2 == x682001)) = true then (some x4) else (impl_periodOf.l0 k (wrap64 (x4 + 1)) x682000 x682001 bt683.1 bt683.2))) else (some 0)
def impl_periodOf.f (k : Nat) (a0_0 : Int) (a0_1 : Int) : Option (Int) := impl_periodOf.l0 k 1 a0_0 a0_1 a0_0 a0_1
theorem impl_periodOf.mono_l : ∀ k, (∀ y0 y1 y2 y3 y4, LeO (impl_periodOf.l0 k y0 y1 y2 y3 y4) (impl_periodOf.l0 (k + 1) y0 y1 y2 y3 y4))
  | 0 => fun _ _ _ _ _ r h => by simp [impl_periodOf.l0] at h
  | k + 1 => by
    have ih0 := impl_periodOf.mono_l k
    · intro y0 y1 y2 y3 y4
      unfold impl_periodOf.l0
      repeat' first
      | (with_reducible exact ih0 _ _ _ _ _)
      | (with_reducible exact impl_Angle_double.mono _ _ _)
      | (with_reducible exact LeO.refl _)
      | (with_reducible exact LeO.none _)
      | (with_reducible refine LeO.ite ?_ ?_)
      | (with_reducible refine LeO.bind ?_ (fun _ => ?_))
      | exact ih0 _ _ _ _ _
      | exact impl_Angle_double.mono _ _ _
      | exact LeO.none _
      | refine LeO.ite ?_ ?_
      | refine LeO.bind ?_ (fun _ => ?_)
theorem impl_periodOf.mono : ∀ a0 a1 k, LeO (impl_periodOf.f k a0 a1) (impl_periodOf.f (k + 1) a0 a1) := by
  intro a0 a1 k
  have ih0 := impl_periodOf.mono_l k
  unfold impl_periodOf.f
  repeat' first
      | (with_reducible exact ih0 _ _ _ _ _)
      | (with_reducible exact impl_Angle_double.mono _ _ _)
      | (with_reducible exact LeO.refl _)
      | (with_reducible exact LeO.none _)
      | (with_reducible refine LeO.ite ?_ ?_)
      | (with_reducible refine LeO.bind ?_ (fun _ => ?_))
      | exact ih0 _ _ _ _ _
      | exact impl_Angle_double.mono _ _ _
      | exact LeO.none _
      | refine LeO.ite ?_ ?_
      | refine LeO.bind ?_ (fun _ => ?_)
set_option maxHeartbeats 8000000 in
set_option maxRecDepth 100000 in
theorem impl_periodOf.calls (k : Nat) (a0_0 : Int) (a0_1 : Int) (r : Int) (w : World) (h : impl_periodOf.f k a0_0 a0_1 = some r) :
    Calls Try.prog 95 #[.agg #[.int .i64 a0_0, .int .i64 a0_1]] w fun e w' => e = .returned (.int .i64 r) ∧ Below w.heap.size w w' := by
  have hu27 := Try.underlying27
  have HB := Aside0.mk (Below.refl w.heap.size w)
  have H : (impl_periodOf.l0 k 1 a0_0 a0_1 a0_0 a0_1) = some r := h
  clear h
  have H' := Aside0.mk H
  clear H
  go_enter Try.func95, Try.ntmps95
  go_wp2_with (first | ((with_reducible refine gate_dst (N := 1) rfl ?_); refine box_event ?hg (N := 1) ?hd (cs := #[.int .i64 a0_0, .int .i64 a0_1]) (t := 27) ?hr ?_; (case hd => rfl); (case hg => rfl); (case hr => first | (go_simp; done) | (go_simp; rfl)); intro gb681 hg w2 hbox hb; have n0_ := Aside0.mk (below_step (by repeat (first | (with_reducible first | exact HB.out | apply below_alloc | apply pw_below_drewN | apply below_drew1) | exact HB.out)) hb); have n1_ := Aside0.mk (hbox); have n2_ := Aside0.mk ((by rw [hg]; exact (below_size (by repeat (first | (with_reducible first | exact HB.out | apply below_alloc | apply pw_below_drewN | apply below_drew1) | exact HB.out))) : w.heap.size ≤ gb681)); have n3_ := Aside0.mk ((by rw [hg]; exact (below_size (by repeat (first | (with_reducible first | exact HB.out | apply below_alloc | apply pw_below_drewN | apply below_drew1) | exact HB.out))) : w.heap.size ≤ gb681)); clear HB; have HB := n0_; have BK681 := n1_; have GW681 := n2_; have GE681 := n3_; clear n0_ n1_ n2_ n3_; clear hb hbox hg; have hcz3_0 : w2.cell? ⟨gb681, 0, none⟩ = some (.int .i64 a0_0) := (blk_cell BK681.out 0).trans rfl; have hcz3_1 : w2.cell? ⟨gb681, 1, none⟩ = some (.int .i64 a0_1) := (blk_cell BK681.out 1).trans rfl; have hfz3_0 := blk_frozen BK681.out 0; have hfz3_1 := blk_frozen BK681.out 1) | ((with_reducible refine gate_dst (N := 3) rfl ?_); refine box_event ?hg (N := 3) ?hd (cs := #[.int .i64 0, .int .i64 0]) (t := 27) ?hr ?_; (case hd => rfl); (case hg => rfl); (case hr => first | (go_simp; done) | (go_simp; rfl)); intro gb682 hg w4 hbox hb; have n0_ := Aside0.mk (blk_below (g := gb681) (o := .cells #[.int .i64 a0_0, .int .i64 a0_1] 27 (0, 0)) (by (with_reducible repeat (first | refine blk_drewN ?_ _ | refine blk_drew ?_ | refine blk_alloc ?_ _)); exact BK681.out) hb); have n1_ := Aside0.mk (below_step (by repeat (first | (with_reducible first | exact HB.out | apply below_alloc | apply pw_below_drewN | apply below_drew1 | refine below_set ?_ GE681.out) | exact HB.out)) hb); have n2_ := Aside0.mk (hbox); have n3_ := Aside0.mk ((by rw [hg]; exact (below_size (by repeat (first | (with_reducible first | exact HB.out | apply below_alloc | apply pw_below_drewN | apply below_drew1 | refine below_set ?_ GE681.out) | exact HB.out))) : w.heap.size ≤ gb682)); have n4_ := Aside0.mk ((by rw [hg]; exact (below_size (by repeat (first | (with_reducible first | exact HB.out | apply below_alloc | apply pw_below_drewN | apply below_drew1 | refine below_set ?_ GE681.out) | exact HB.out))) : w.heap.size ≤ gb682)); have n5_ := Aside0.mk ((by rw [hg]; exact Nat.ne_of_lt (blk_lt (g := gb681) (o := .cells #[.int .i64 a0_0, .int .i64 a0_1] 27 (0, 0)) (by (with_reducible repeat (first | refine blk_drewN ?_ _ | refine blk_drew ?_ | refine blk_alloc ?_ _)); exact BK681.out)) : gb681 ≠ gb682)); have n6_ := Aside0.mk ((by rw [hg]; exact Nat.ne_of_gt (blk_lt (g := gb681) (o := .cells #[.int .i64 a0_0, .int .i64 a0_1] 27 (0, 0)) (by (with_reducible repeat (first | refine blk_drewN ?_ _ | refine blk_drew ?_ | refine blk_alloc ?_ _)); exact BK681.out)) : gb682 ≠ gb681)); clear BK681; clear HB; have BK681 := n0_; have HB := n1_; have BK682 := n2_; have GW682 := n3_; have GE682 := n4_; have NB681_682 := n5_; have NB682_681 := n6_; clear n0_ n1_ n2_ n3_ n4_ n5_ n6_; clear hb hbox hg; have hnb5 := NB682_681.out; have hnc5 := NB681_682.out; have hcz6_0 : w4.cell? ⟨gb682, 0, none⟩ = some (.int .i64 0) := (blk_cell BK682.out 0).trans rfl; have hcz6_1 : w4.cell? ⟨gb682, 1, none⟩ = some (.int .i64 0) := (blk_cell BK682.out 1).trans rfl; have hfz6_0 := blk_frozen BK682.out 0; have hfz6_1 := blk_frozen BK682.out 1))
  go_loopg [4] k (fun kq v4 w' => ∃ (x4_1 : Int) (x683000_1 : Int) (x683001_1 : Int), v4 = .int .i64 x4_1 ∧ Aside0 (impl_periodOf.l0 kq x4_1 a0_0 a0_1 x683000_1 x683001_1 = some r) ∧ Aside0 (kq ≤ k) ∧ Aside0 (w'.heap[gb681]? = some (.cells #[.int .i64 a0_0, .int .i64 a0_1] 27 (0, 0))) ∧ Aside0 (w'.heap[gb682]? = some (.cells #[.int .i64 x683000_1, .int .i64 x683001_1] 27 (0, 0))) ∧ Aside0 (Below w.heap.size w w'))
  case atStart => exact ⟨(1), (a0_0), (a0_1), (by first | rfl | (simp; done) | (simp [*]; done)), H', ⟨Nat.le_refl _⟩, ⟨by (with_reducible repeat (first | refine blk_drewN ?_ _ | refine blk_drew ?_ | refine blk_alloc ?_ _)); refine blk_far ?_ NB681_682.out _; (with_reducible repeat (first | refine blk_drewN ?_ _ | refine blk_drew ?_ | refine blk_alloc ?_ _)); refine blk_far ?_ NB681_682.out _; (with_reducible repeat (first | refine blk_drewN ?_ _ | refine blk_drew ?_ | refine blk_alloc ?_ _)); exact BK681.out⟩, ⟨by (with_reducible repeat (first | refine blk_drewN ?_ _ | refine blk_drew ?_ | refine blk_alloc ?_ _)); refine blk_put (cs := #[.int .i64 a0_0, .int .i64 0]) ?_ 1 _ rfl; (with_reducible repeat (first | refine blk_drewN ?_ _ | refine blk_drew ?_ | refine blk_alloc ?_ _)); refine blk_put (cs := #[.int .i64 0, .int .i64 0]) ?_ 0 _ rfl; (with_reducible repeat (first | refine blk_drewN ?_ _ | refine blk_drew ?_ | refine blk_alloc ?_ _)); exact BK682.out⟩, ⟨by repeat (first | (with_reducible first | exact HB.out | apply below_alloc | apply pw_below_drewN | apply below_drew1 | refine below_set ?_ GE681.out | refine below_set ?_ GE682.out) | exact HB.out)⟩⟩
  case round =>
    clear H'
    try clear p2
    try clear c5
    try clear hcz3_0
    try clear hcz3_1
    try clear hcz6_0
    try clear hcz6_1
    try clear hfz3_0
    try clear hfz3_1
    try clear hfz6_0
    try clear hfz6_1
    obtain ⟨x4_1, x683000_1, x683001_1, rfl, HA, HK1, BK681, BK682, HB⟩ := hrel
    cases gk with
    | zero => exact absurd HA.out (by simp [impl_periodOf.l0])
    | succ k1 =>
      have H := HA.out
      clear HA
      simp only [impl_periodOf.l0] at H
      by_cases c7 : x4_1 ≤ 8
      · rw [if_pos c7] at H
        have c7b0 : decide (x4_1 ≤ 8) = true := decide_eq_true c7
        clear c7
        replace H := Option.bind_eq_some_iff.mp H
        obtain ⟨⟨t683, t684⟩, A80, H⟩ := H
        replace H : (if (t683 == a0_0 && (t684 == a0_1)) = true then (some x4_1) else (impl_periodOf.l0 k1 (wrap64 (x4_1 + 1)) a0_0 a0_1 t683 t684)) = some r := H
        have A8 := Aside0.mk A80
        clear A80
        by_cases c9 : (t683 == a0_0 && (t684 == a0_1)) = true
        · rw [if_pos c9] at H
          have c9b0 : (t683 == a0_0 && (t684 == a0_1)) = true := c9
          (try (have c9b1 : decide (t683 = a0_0 && (t684 == a0_1)) = true := by simpa using c9))
          (try (have c9b2 : (t683 == a0_0 && (t684 == a0_1)) = true := by simpa using c9))
          clear c9
          obtain rfl := Option.some.inj H
          have hnb10 := NB682_681.out
          have hnc10 := NB681_682.out
          have hcz11_0 : wr.cell? ⟨gb682, 0, none⟩ = some (.int .i64 x683000_1) := (blk_cell BK682.out 0).trans rfl
          have hcz11_1 : wr.cell? ⟨gb682, 1, none⟩ = some (.int .i64 x683001_1) := (blk_cell BK682.out 1).trans rfl
          have hfz11_0 := blk_frozen BK682.out 0
          have hfz11_1 := blk_frozen BK682.out 1
          go_wp2_with (first | ((with_reducible refine gate_callee (f := 92) rfl ?_); refine goesL_ (some 11) rfl rfl Try.func92 (by kernel_rfl) rfl #[.agg #[.int .i64 x683000_1, .int .i64 x683001_1]] rfl (by (try simp only [List.map_toArray, List.map_cons, List.map_nil]); first | done | rfl | (simp only [List.length_drop, List.length_take]; rfl)) ?_; (with_reducible refine (impl_Angle_double.calls k1 x683000_1 x683001_1 t683 t684 _ A8.out).mono ?_); rintro e w12 ⟨rfl, hb⟩; refine ⟨_, rfl, ?_⟩; have n0_ := Aside0.mk (blk_below (g := gb681) (o := .cells #[.int .i64 a0_0, .int .i64 a0_1] 27 (0, 0)) (by (with_reducible repeat (first | refine blk_drewN ?_ _ | refine blk_drew ?_ | refine blk_alloc ?_ _)); exact BK681.out) hb); have n1_ := Aside0.mk (blk_below (g := gb682) (o := .cells #[.int .i64 x683000_1, .int .i64 x683001_1] 27 (0, 0)) (by (with_reducible repeat (first | refine blk_drewN ?_ _ | refine blk_drew ?_ | refine blk_alloc ?_ _)); exact BK682.out) hb); have n2_ := Aside0.mk (below_step (by repeat (first | (with_reducible first | exact HB.out | apply below_alloc | apply pw_below_drewN | apply below_drew1 | refine below_set ?_ GE681.out | refine below_set ?_ GE682.out) | exact HB.out)) hb); clear BK681; clear BK682; clear HB; have BK681 := n0_; have BK682 := n1_; have HB := n2_; clear n0_ n1_ n2_; (try clear hb); (try clear hb2); (try clear hk); (try clear hi); have hcz13_0 : w12.cell? ⟨gb682, 0, none⟩ = some (.int .i64 x683000_1) := (blk_cell BK682.out 0).trans rfl; have hcz13_1 : w12.cell? ⟨gb682, 1, none⟩ = some (.int .i64 x683001_1) := (blk_cell BK682.out 1).trans rfl; have hfz13_0 := blk_frozen BK682.out 0; have hfz13_1 := blk_frozen BK682.out 1; have hcz14_0 : w12.cell? ⟨gb681, 0, none⟩ = some (.int .i64 a0_0) := (blk_cell BK681.out 0).trans rfl; have hcz14_1 : w12.cell? ⟨gb681, 1, none⟩ = some (.int .i64 a0_1) := (blk_cell BK681.out 1).trans rfl; have hfz14_0 := blk_frozen BK681.out 0; have hfz14_1 := blk_frozen BK681.out 1))
          go_ret
          exact ⟨by first | rfl | (simp [errW_none, errW_some] <;> rfl) | (simp [*, errW_none, errW_some] <;> rfl), by repeat (first | (with_reducible first | exact HB.out | apply below_alloc | apply pw_below_drewN | apply below_drew1 | refine below_set ?_ GE681.out | refine below_set ?_ GE682.out) | exact HB.out)⟩
        · rw [if_neg c9] at H
          have c9b0 : (t683 == a0_0 && (t684 == a0_1)) = false := by simpa using c9
          (try (have c9b1 : decide (t683 = a0_0 && (t684 == a0_1)) = false := by simpa using c9))
          (try (have c9b2 : (t683 == a0_0 && (t684 == a0_1)) = false := by simpa using c9))
          (try (have c9b3 : ¬ (t683 = a0_0 && (t684 == a0_1)) := by simpa using c9))
          clear c9
          have H' := Aside0.mk H
          clear H
          have hnb15 := NB682_681.out
          have hnc15 := NB681_682.out
          have hcz16_0 : wr.cell? ⟨gb682, 0, none⟩ = some (.int .i64 x683000_1) := (blk_cell BK682.out 0).trans rfl
          have hcz16_1 : wr.cell? ⟨gb682, 1, none⟩ = some (.int .i64 x683001_1) := (blk_cell BK682.out 1).trans rfl
          have hfz16_0 := blk_frozen BK682.out 0
          have hfz16_1 := blk_frozen BK682.out 1
          go_wp2_with (first | ((with_reducible refine gate_callee (f := 92) rfl ?_); refine goesL_ (some 11) rfl rfl Try.func92 (by kernel_rfl) rfl #[.agg #[.int .i64 x683000_1, .int .i64 x683001_1]] rfl (by (try simp only [List.map_toArray, List.map_cons, List.map_nil]); first | done | rfl | (simp only [List.length_drop, List.length_take]; rfl)) ?_; (with_reducible refine (impl_Angle_double.calls k1 x683000_1 x683001_1 t683 t684 _ A8.out).mono ?_); rintro e w17 ⟨rfl, hb⟩; refine ⟨_, rfl, ?_⟩; have n0_ := Aside0.mk (blk_below (g := gb681) (o := .cells #[.int .i64 a0_0, .int .i64 a0_1] 27 (0, 0)) (by (with_reducible repeat (first | refine blk_drewN ?_ _ | refine blk_drew ?_ | refine blk_alloc ?_ _)); exact BK681.out) hb); have n1_ := Aside0.mk (blk_below (g := gb682) (o := .cells #[.int .i64 x683000_1, .int .i64 x683001_1] 27 (0, 0)) (by (with_reducible repeat (first | refine blk_drewN ?_ _ | refine blk_drew ?_ | refine blk_alloc ?_ _)); exact BK682.out) hb); have n2_ := Aside0.mk (below_step (by repeat (first | (with_reducible first | exact HB.out | apply below_alloc | apply pw_below_drewN | apply below_drew1 | refine below_set ?_ GE681.out | refine below_set ?_ GE682.out) | exact HB.out)) hb); clear BK681; clear BK682; clear HB; have BK681 := n0_; have BK682 := n1_; have HB := n2_; clear n0_ n1_ n2_; (try clear hb); (try clear hb2); (try clear hk); (try clear hi); have hcz18_0 : w17.cell? ⟨gb682, 0, none⟩ = some (.int .i64 x683000_1) := (blk_cell BK682.out 0).trans rfl; have hcz18_1 : w17.cell? ⟨gb682, 1, none⟩ = some (.int .i64 x683001_1) := (blk_cell BK682.out 1).trans rfl; have hfz18_0 := blk_frozen BK682.out 0; have hfz18_1 := blk_frozen BK682.out 1; have hcz19_0 : w17.cell? ⟨gb681, 0, none⟩ = some (.int .i64 a0_0) := (blk_cell BK681.out 0).trans rfl; have hcz19_1 : w17.cell? ⟨gb681, 1, none⟩ = some (.int .i64 a0_1) := (blk_cell BK681.out 1).trans rfl; have hfz19_0 := blk_frozen BK681.out 0; have hfz19_1 := blk_frozen BK681.out 1))
          go_roundg k1
          case measure => have := HK1.out; omega
          case rel => exact ⟨(wrap64 (x4_1 + 1)), (t683), (t684), (by first | rfl | (simp; done) | (simp [*]; done)), H', ⟨by have := HK1.out; omega⟩, ⟨by (with_reducible repeat (first | refine blk_drewN ?_ _ | refine blk_drew ?_ | refine blk_alloc ?_ _)); refine blk_far ?_ NB681_682.out _; (with_reducible repeat (first | refine blk_drewN ?_ _ | refine blk_drew ?_ | refine blk_alloc ?_ _)); refine blk_far ?_ NB681_682.out _; (with_reducible repeat (first | refine blk_drewN ?_ _ | refine blk_drew ?_ | refine blk_alloc ?_ _)); exact BK681.out⟩, ⟨by (with_reducible repeat (first | refine blk_drewN ?_ _ | refine blk_drew ?_ | refine blk_alloc ?_ _)); refine blk_put (cs := #[.int .i64 t683, .int .i64 x683001_1]) ?_ 1 _ rfl; (with_reducible repeat (first | refine blk_drewN ?_ _ | refine blk_drew ?_ | refine blk_alloc ?_ _)); refine blk_put (cs := #[.int .i64 x683000_1, .int .i64 x683001_1]) ?_ 0 _ rfl; (with_reducible repeat (first | refine blk_drewN ?_ _ | refine blk_drew ?_ | refine blk_alloc ?_ _)); exact BK682.out⟩, ⟨by repeat (first | (with_reducible first | exact HB.out | apply below_alloc | apply pw_below_drewN | apply below_drew1 | refine below_set ?_ GE681.out | refine below_set ?_ GE682.out) | exact HB.out)⟩⟩
      · rw [if_neg c7] at H
        have c7b0 : decide (x4_1 ≤ 8) = false := decide_eq_false c7
        clear c7
        obtain rfl := Option.some.inj H
        go_wp2
        go_ret
        exact ⟨by first | rfl | (simp [errW_none, errW_some] <;> rfl) | (simp [*, errW_none, errW_some] <;> rfl), by repeat (first | (with_reducible first | exact HB.out | apply below_alloc | apply pw_below_drewN | apply below_drew1 | refine below_set ?_ GE681.out | refine below_set ?_ GE682.out) | exact HB.out)⟩

end Go.Proofs.Ytkdefglfolmfbaa.Q
