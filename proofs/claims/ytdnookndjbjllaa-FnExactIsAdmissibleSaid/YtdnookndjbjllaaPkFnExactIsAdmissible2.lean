/- Joined texts: Qx63, Qx68, Qx69, Qx70, SeqCore, Qx27, Qx2, SeqIs, Qx42, Qx44, SeqRho, SeqFails, PureFnExactIsAdmissible -/
import Derived.Test.YtdnookndjbjllaaPkFnExactIsAdmissible0
import Derived.Test.YtdnookndjbjllaaPkFnExactIsAdmissible1
import Derived.Lib.IndexLaws
section
-- By wip/hyb/hyb.py of this session, over the kit's print.py
namespace Go.Proofs.Ytdnookndjbjllaa.Q
open Go.Proofs.YtdnookndjbjllaaW.Ext
open Go.RowKit Go.Proofs.YtdnookndjbjllaaW.PrintWords Go.Proofs.YtdnookndjbjllaaW.PrintLast Go.Proofs.YtdnookndjbjllaaW.PrintMore
attribute [local go_sem] max2_int min2_int max_two min_two max_three min_three max_four min_four   -- for this text's walks alone
set_option linter.unusedVariables false
set_option linter.unusedSimpArgs false

/-! ### impl_Sequence_fails: function 60 -/
def impl_Sequence_fails.l0 : Nat → Int → Int → ByteArray → ByteArray → Option (Bool)
  | 0, _, _, _, _ => none
  | k + 1, x1, x5, x369000, x369001 => if x5 < x1 then (if x5 = 0 then (none) else (if (Int.tmod x1 x5) = 0 then ((impl_Sequence_rho.f k x369000 x369001 x5).bind fun t370 => (if t370 > x1 then (some false) else (impl_Sequence_fails.l0 k x1 (wrap64 (x5 + 1)) x369000 x369001))) else (impl_Sequence_fails.l0 k x1 (wrap64 (x5 + 1)) x369000 x369001))) else ((impl_Sequence_rho.f k x369000 x369001 x1).bind fun t371 => (if x1 = 0 then (none) else ((impl_Sequence_reaches.f k x369000 x369001 (wrap64 ((Int.tmod (wrap64 (t371 - 1)) x1) + 1)) x1).bind fun t372 => (some t372))))
def impl_Sequence_fails.f (k : Nat) (a0_0 : ByteArray) (a0_1 : ByteArray) (a1 : Int) : Option (Bool) := (impl_Sequence_reaches.f k a0_0 a0_1 1 a1).bind fun t369 => (if t369 = true then (some false) else (impl_Sequence_fails.l0 k a1 1 a0_0 a0_1))
theorem impl_Sequence_fails.mono_l : ∀ k, (∀ y0 y1 y2 y3, LeO (impl_Sequence_fails.l0 k y0 y1 y2 y3) (impl_Sequence_fails.l0 (k + 1) y0 y1 y2 y3))
  | 0 => fun _ _ _ _ r h => by simp [impl_Sequence_fails.l0] at h
  | k + 1 => by
    have ih0 := impl_Sequence_fails.mono_l k
    · intro y0 y1 y2 y3
      unfold impl_Sequence_fails.l0
      repeat' first
      | (with_reducible exact ih0 _ _ _ _)
      | (with_reducible exact impl_Sequence_reaches.mono _ _ _ _ _)
      | (with_reducible exact impl_Sequence_rho.mono _ _ _ _)
      | (with_reducible exact LeO.refl _)
      | (with_reducible exact LeO.none _)
      | (with_reducible refine LeO.ite ?_ ?_)
      | (with_reducible refine LeO.bind ?_ (fun _ => ?_))
      | exact ih0 _ _ _ _
      | exact impl_Sequence_reaches.mono _ _ _ _ _
      | exact impl_Sequence_rho.mono _ _ _ _
      | exact LeO.none _
      | refine LeO.ite ?_ ?_
      | refine LeO.bind ?_ (fun _ => ?_)
theorem impl_Sequence_fails.mono : ∀ a0 a1 a2 k, LeO (impl_Sequence_fails.f k a0 a1 a2) (impl_Sequence_fails.f (k + 1) a0 a1 a2) := by
  intro a0 a1 a2 k
  have ih0 := impl_Sequence_fails.mono_l k
  unfold impl_Sequence_fails.f
  repeat' first
      | (with_reducible exact ih0 _ _ _ _)
      | (with_reducible exact impl_Sequence_reaches.mono _ _ _ _ _)
      | (with_reducible exact impl_Sequence_rho.mono _ _ _ _)
      | (with_reducible exact LeO.refl _)
      | (with_reducible exact LeO.none _)
      | (with_reducible refine LeO.ite ?_ ?_)
      | (with_reducible refine LeO.bind ?_ (fun _ => ?_))
      | exact ih0 _ _ _ _
      | exact impl_Sequence_reaches.mono _ _ _ _ _
      | exact impl_Sequence_rho.mono _ _ _ _
      | exact LeO.none _
      | refine LeO.ite ?_ ?_
      | refine LeO.bind ?_ (fun _ => ?_)
def impl_Sequence_fails.T8 : Bool × List (List Nat × List Nat) := (true, [([], []), ([], []), ([], []), ([1, 2], [1, 2]), ([3], [3]), ([], []), ([4, 5], [4, 5]), ([6], [6]), ([], []), ([0, 7, 8, 3], [0, 7, 8]), ([9, 9, 0, 1, 2, 3, 4, 5, 6, 7, 8, 9], [9])])
def impl_Sequence_fails.B8 : List Nat := [0, 0, 0, 6, 14, 0, 62, 126, 0, 511, 1023]
theorem impl_Sequence_fails.tab8 : rtab .any (opsOf Try.f60 8) = impl_Sequence_fails.T8 := by kernel_rfl
theorem impl_Sequence_fails.bits8 : waitsOk impl_Sequence_fails.T8.2 impl_Sequence_fails.B8 = true := by kernel_rfl
set_option maxHeartbeats 8000000 in
set_option maxRecDepth 100000 in
theorem impl_Sequence_fails.calls (k : Nat) (a0_0 : ByteArray) (a0_1 : ByteArray) (a1 : Int) (r : Bool) (w : World) (h : impl_Sequence_fails.f k a0_0 a0_1 a1 = some r) :
    Calls Try.prog 60 #[.agg #[.string a0_0, .string a0_1], .int .i64 a1] w fun e w' => e = .returned (.bool r) ∧ Below w.heap.size w w' := by
  have hu23 := Try.underlying23
  have HB := Aside0.mk (Below.refl w.heap.size w)
  have H : ((impl_Sequence_reaches.f k a0_0 a0_1 1 a1).bind fun t369 => (if t369 = true then (some false) else (impl_Sequence_fails.l0 k a1 1 a0_0 a0_1))) = some r := h
  clear h
  replace H := Option.bind_eq_some_iff.mp H
  obtain ⟨t369, A30, H⟩ := H
  replace H : (if t369 = true then (some false) else (impl_Sequence_fails.l0 k a1 1 a0_0 a0_1)) = some r := H
  have A3 := Aside0.mk A30
  clear A30
  by_cases c4 : t369 = true
  · subst c4
    have H1 : (some false) = some r := by rw [if_pos rfl] at H; exact H
    clear H
    have H := H1
    clear H1
    obtain rfl := Option.some.inj H
    go_enter Try.func60, Try.ntmps60
    go_wp2_with (first | ((with_reducible refine gate_dst (N := 2) rfl ?_); refine box_event ?hg (N := 2) ?hd (cs := #[.string a0_0, .string a0_1]) (t := 23) ?hr ?_; (case hd => rfl); (case hg => rfl); (case hr => first | (go_simp; done) | (go_simp; rfl)); intro gb368 hg w5 hbox hb; have n0_ := Aside0.mk (below_step (by repeat (first | (with_reducible first | exact HB.out | apply below_alloc | apply pw_below_drewN | apply below_drew1) | exact HB.out)) hb); have n1_ := Aside0.mk (hbox); have n2_ := Aside0.mk ((by rw [hg]; exact (below_size (by repeat (first | (with_reducible first | exact HB.out | apply below_alloc | apply pw_below_drewN | apply below_drew1) | exact HB.out))) : w.heap.size ≤ gb368)); have n3_ := Aside0.mk ((by rw [hg]; exact (below_size (by repeat (first | (with_reducible first | exact HB.out | apply below_alloc | apply pw_below_drewN | apply below_drew1) | exact HB.out))) : w.heap.size ≤ gb368)); clear HB; have HB := n0_; have BK368 := n1_; have GW368 := n2_; have GE368 := n3_; clear n0_ n1_ n2_ n3_; clear hb hbox hg; have hcz6_0 : w5.cell? ⟨gb368, 0, none⟩ = some (.string a0_0) := (blk_cell BK368.out 0).trans rfl; have hcz6_1 : w5.cell? ⟨gb368, 1, none⟩ = some (.string a0_1) := (blk_cell BK368.out 1).trans rfl; have hfz6_0 := blk_frozen BK368.out 0; have hfz6_1 := blk_frozen BK368.out 1) | ((with_reducible refine gate_callee (f := 69) rfl ?_); refine goesL_ (some 8) rfl rfl Try.func69 (by kernel_rfl) rfl #[.agg #[.string a0_0, .string a0_1], .int .i64 1, .int .i64 a1] rfl (by (try simp only [List.map_toArray, List.map_cons, List.map_nil]); first | done | rfl | (simp only [List.length_drop, List.length_take]; rfl)) ?_; (with_reducible refine (impl_Sequence_reaches.calls k a0_0 a0_1 1 a1 true _ A3.out).mono ?_); rintro e w7 ⟨rfl, hb⟩; refine ⟨_, rfl, ?_⟩; have n0_ := Aside0.mk (blk_below (g := gb368) (o := .cells #[.string a0_0, .string a0_1] 23 (0, 0)) (by (with_reducible repeat (first | refine blk_drewN ?_ _ | refine blk_drew ?_ | refine blk_alloc ?_ _)); exact BK368.out) hb); have n1_ := Aside0.mk (below_step (by repeat (first | (with_reducible first | exact HB.out | apply below_alloc | apply pw_below_drewN | apply below_drew1 | refine below_set ?_ GE368.out) | exact HB.out)) hb); clear BK368; clear HB; have BK368 := n0_; have HB := n1_; clear n0_ n1_; (try clear hb); (try clear hb2); (try clear hk); (try clear hi)))
    go_ret
    exact ⟨by first | rfl | (simp [errW_none, errW_some] <;> rfl) | (simp [*, errW_none, errW_some] <;> rfl), by repeat (first | (with_reducible first | exact HB.out | apply below_alloc | apply pw_below_drewN | apply below_drew1 | refine below_set ?_ GE368.out) | exact HB.out)⟩
  · replace c4 := Bool.eq_false_iff.mpr c4
    subst c4
    have H1 : (impl_Sequence_fails.l0 k a1 1 a0_0 a0_1) = some r := by rw [if_neg (show ¬ (false = true) by decide)] at H; exact H
    clear H
    have H := H1
    clear H1
    have H' := Aside0.mk H
    clear H
    go_enter Try.func60, Try.ntmps60
    go_wp2_with (first | ((with_reducible refine gate_dst (N := 2) rfl ?_); refine box_event ?hg (N := 2) ?hd (cs := #[.string a0_0, .string a0_1]) (t := 23) ?hr ?_; (case hd => rfl); (case hg => rfl); (case hr => first | (go_simp; done) | (go_simp; rfl)); intro gb368 hg w8 hbox hb; have n0_ := Aside0.mk (below_step (by repeat (first | (with_reducible first | exact HB.out | apply below_alloc | apply pw_below_drewN | apply below_drew1) | exact HB.out)) hb); have n1_ := Aside0.mk (hbox); have n2_ := Aside0.mk ((by rw [hg]; exact (below_size (by repeat (first | (with_reducible first | exact HB.out | apply below_alloc | apply pw_below_drewN | apply below_drew1) | exact HB.out))) : w.heap.size ≤ gb368)); have n3_ := Aside0.mk ((by rw [hg]; exact (below_size (by repeat (first | (with_reducible first | exact HB.out | apply below_alloc | apply pw_below_drewN | apply below_drew1) | exact HB.out))) : w.heap.size ≤ gb368)); clear HB; have HB := n0_; have BK368 := n1_; have GW368 := n2_; have GE368 := n3_; clear n0_ n1_ n2_ n3_; clear hb hbox hg; have hcz9_0 : w8.cell? ⟨gb368, 0, none⟩ = some (.string a0_0) := (blk_cell BK368.out 0).trans rfl; have hcz9_1 : w8.cell? ⟨gb368, 1, none⟩ = some (.string a0_1) := (blk_cell BK368.out 1).trans rfl; have hfz9_0 := blk_frozen BK368.out 0; have hfz9_1 := blk_frozen BK368.out 1) | ((with_reducible refine gate_callee (f := 69) rfl ?_); refine goesL_ (some 8) rfl rfl Try.func69 (by kernel_rfl) rfl #[.agg #[.string a0_0, .string a0_1], .int .i64 1, .int .i64 a1] rfl (by (try simp only [List.map_toArray, List.map_cons, List.map_nil]); first | done | rfl | (simp only [List.length_drop, List.length_take]; rfl)) ?_; (with_reducible refine (impl_Sequence_reaches.calls k a0_0 a0_1 1 a1 false _ A3.out).mono ?_); rintro e w10 ⟨rfl, hb⟩; refine ⟨_, rfl, ?_⟩; have n0_ := Aside0.mk (blk_below (g := gb368) (o := .cells #[.string a0_0, .string a0_1] 23 (0, 0)) (by (with_reducible repeat (first | refine blk_drewN ?_ _ | refine blk_drew ?_ | refine blk_alloc ?_ _)); exact BK368.out) hb); have n1_ := Aside0.mk (below_step (by repeat (first | (with_reducible first | exact HB.out | apply below_alloc | apply pw_below_drewN | apply below_drew1 | refine below_set ?_ GE368.out) | exact HB.out)) hb); clear BK368; clear HB; have BK368 := n0_; have HB := n1_; clear n0_ n1_; (try clear hb); (try clear hb2); (try clear hk); (try clear hi)))
    go_loopg [5] k (fun kq v5 w' => ∃ (x5_1 : Int), v5 = .int .i64 x5_1 ∧ Aside0 (impl_Sequence_fails.l0 kq a1 x5_1 a0_0 a0_1 = some r) ∧ Aside0 (kq ≤ k) ∧ Aside0 (w'.heap[gb368]? = some (.cells #[.string a0_0, .string a0_1] 23 (0, 0))) ∧ Aside0 (Below w.heap.size w w'))
    case atStart => exact ⟨(1), (by first | rfl | (simp; done) | (simp [*]; done)), H', ⟨Nat.le_refl _⟩, ⟨by (with_reducible repeat (first | refine blk_drewN ?_ _ | refine blk_drew ?_ | refine blk_alloc ?_ _)); exact BK368.out⟩, ⟨by repeat (first | (with_reducible first | exact HB.out | apply below_alloc | apply pw_below_drewN | apply below_drew1 | refine below_set ?_ GE368.out) | exact HB.out)⟩⟩
    case round =>
      clear H'
      try clear p2
      try clear c4
      try clear c6
      try clear hcz6_0
      try clear hcz6_1
      try clear hcz9_0
      try clear hcz9_1
      try clear hfz6_0
      try clear hfz6_1
      try clear hfz9_0
      try clear hfz9_1
      obtain ⟨x5_1, rfl, HA, HK1, BK368, HB⟩ := hrel
      cases gk with
      | zero => exact absurd HA.out (by simp [impl_Sequence_fails.l0])
      | succ k1 =>
        have H := HA.out
        clear HA
        simp only [impl_Sequence_fails.l0] at H
        by_cases c11 : x5_1 < a1
        · rw [if_pos c11] at H
          have c11b0 : decide (x5_1 < a1) = true := decide_eq_true c11
          clear c11
          by_cases c12 : x5_1 = 0
          · rw [if_pos c12] at H
            exact absurd H (by simp)
          · rw [if_neg c12] at H
            have c12b0 : (x5_1 == 0) = false := beq_eq_false_iff_ne.mpr c12
            have c12b1 : (x5_1 != 0) = true := bne_iff_ne.mpr c12
            by_cases c13 : (Int.tmod a1 x5_1) = 0
            · rw [if_pos c13] at H
              have c13b0 : ((Int.tmod a1 x5_1) == 0) = true := beq_iff_eq.mpr c13
              have c13b1 : ((Int.tmod a1 x5_1) != 0) = false := bne_eq_false_iff_eq.mpr c13
              clear c13
              replace H := Option.bind_eq_some_iff.mp H
              obtain ⟨t370, A140, H⟩ := H
              replace H : (if t370 > a1 then (some false) else (impl_Sequence_fails.l0 k1 a1 (wrap64 (x5_1 + 1)) a0_0 a0_1)) = some r := H
              have A14 := Aside0.mk A140
              clear A140
              by_cases c15 : t370 > a1
              · rw [if_pos c15] at H
                have c15b0 : decide (a1 < t370) = true := decide_eq_true c15
                clear c15
                obtain rfl := Option.some.inj H
                have hcz16_0 : wr.cell? ⟨gb368, 0, none⟩ = some (.string a0_0) := (blk_cell BK368.out 0).trans rfl
                have hcz16_1 : wr.cell? ⟨gb368, 1, none⟩ = some (.string a0_1) := (blk_cell BK368.out 1).trans rfl
                have hfz16_0 := blk_frozen BK368.out 0
                have hfz16_1 := blk_frozen BK368.out 1
                go_wp2_with (first | (go_at_call 57; (with_reducible refine (impl_Sequence_rho.calls k1 a0_0 a0_1 x5_1 t370 _ A14.out).mono ?_); rintro e w17 ⟨rfl, hb⟩; have n0_ := Aside0.mk (blk_below (g := gb368) (o := .cells #[.string a0_0, .string a0_1] 23 (0, 0)) (by (with_reducible repeat (first | refine blk_drewN ?_ _ | refine blk_drew ?_ | refine blk_alloc ?_ _)); exact BK368.out) hb); have n1_ := Aside0.mk (below_step (by repeat (first | (with_reducible first | exact HB.out | apply below_alloc | apply pw_below_drewN | apply below_drew1 | refine below_set ?_ GE368.out) | exact HB.out)) hb); clear BK368; clear HB; have BK368 := n0_; have HB := n1_; clear n0_ n1_; (try clear hb); (try clear hb2); (try clear hk); (try clear hi)))
                go_ret
                exact ⟨by first | rfl | (simp [errW_none, errW_some] <;> rfl) | (simp [*, errW_none, errW_some] <;> rfl), by repeat (first | (with_reducible first | exact HB.out | apply below_alloc | apply pw_below_drewN | apply below_drew1 | refine below_set ?_ GE368.out) | exact HB.out)⟩
              · rw [if_neg c15] at H
                have c15b0 : decide (a1 < t370) = false := decide_eq_false c15
                clear c15
                have H' := Aside0.mk H
                clear H
                have hcz18_0 : wr.cell? ⟨gb368, 0, none⟩ = some (.string a0_0) := (blk_cell BK368.out 0).trans rfl
                have hcz18_1 : wr.cell? ⟨gb368, 1, none⟩ = some (.string a0_1) := (blk_cell BK368.out 1).trans rfl
                have hfz18_0 := blk_frozen BK368.out 0
                have hfz18_1 := blk_frozen BK368.out 1
                go_wp2_with (first | (go_at_call 57; (with_reducible refine (impl_Sequence_rho.calls k1 a0_0 a0_1 x5_1 t370 _ A14.out).mono ?_); rintro e w19 ⟨rfl, hb⟩; have n0_ := Aside0.mk (blk_below (g := gb368) (o := .cells #[.string a0_0, .string a0_1] 23 (0, 0)) (by (with_reducible repeat (first | refine blk_drewN ?_ _ | refine blk_drew ?_ | refine blk_alloc ?_ _)); exact BK368.out) hb); have n1_ := Aside0.mk (below_step (by repeat (first | (with_reducible first | exact HB.out | apply below_alloc | apply pw_below_drewN | apply below_drew1 | refine below_set ?_ GE368.out) | exact HB.out)) hb); clear BK368; clear HB; have BK368 := n0_; have HB := n1_; clear n0_ n1_; (try clear hb); (try clear hb2); (try clear hk); (try clear hi)))
                go_roundg k1
                case measure => have := HK1.out; omega
                case rel => exact ⟨(wrap64 (x5_1 + 1)), (by first | rfl | (simp; done) | (simp [*]; done)), H', ⟨by have := HK1.out; omega⟩, ⟨by (with_reducible repeat (first | refine blk_drewN ?_ _ | refine blk_drew ?_ | refine blk_alloc ?_ _)); exact BK368.out⟩, ⟨by repeat (first | (with_reducible first | exact HB.out | apply below_alloc | apply pw_below_drewN | apply below_drew1 | refine below_set ?_ GE368.out) | exact HB.out)⟩⟩
            · rw [if_neg c13] at H
              have c13b0 : ((Int.tmod a1 x5_1) == 0) = false := beq_eq_false_iff_ne.mpr c13
              have c13b1 : ((Int.tmod a1 x5_1) != 0) = true := bne_iff_ne.mpr c13
              have H' := Aside0.mk H
              clear H
              go_wp2
              go_roundg k1
              case measure => have := HK1.out; omega
              case rel => exact ⟨(wrap64 (x5_1 + 1)), (by first | rfl | (simp; done) | (simp [*]; done)), H', ⟨by have := HK1.out; omega⟩, ⟨by (with_reducible repeat (first | refine blk_drewN ?_ _ | refine blk_drew ?_ | refine blk_alloc ?_ _)); exact BK368.out⟩, ⟨by repeat (first | (with_reducible first | exact HB.out | apply below_alloc | apply pw_below_drewN | apply below_drew1 | refine below_set ?_ GE368.out) | exact HB.out)⟩⟩
        · rw [if_neg c11] at H
          have c11b0 : decide (x5_1 < a1) = false := decide_eq_false c11
          clear c11
          replace H := Option.bind_eq_some_iff.mp H
          obtain ⟨t371, A200, H⟩ := H
          replace H : (if a1 = 0 then (none) else ((impl_Sequence_reaches.f k1 a0_0 a0_1 (wrap64 ((Int.tmod (wrap64 (t371 - 1)) a1) + 1)) a1).bind fun t372 => (some t372))) = some r := H
          have A20 := Aside0.mk A200
          clear A200
          by_cases c21 : a1 = 0
          · rw [if_pos c21] at H
            exact absurd H (by simp)
          · rw [if_neg c21] at H
            have c21b0 : (a1 == 0) = false := beq_eq_false_iff_ne.mpr c21
            have c21b1 : (a1 != 0) = true := bne_iff_ne.mpr c21
            replace H := Option.bind_eq_some_iff.mp H
            obtain ⟨t372, A220, H⟩ := H
            replace H : (some t372) = some r := H
            have A22 := Aside0.mk A220
            clear A220
            obtain rfl := Option.some.inj H
            try go_wp2
            have n0_ := Aside0.mk (blk_drew BK368.out)
            have n1_ := Aside0.mk (below_drew1 HB.out)
            clear BK368
            clear HB
            have BK368 := n0_
            have HB := n1_
            clear n0_ n1_
            refine start_ (n := 11) (S := fun w' => w'.cell? ⟨gb368, 0, none⟩ = some (.string a0_0) ∧ w'.cell? ⟨gb368, 1, none⟩ = some (.string a0_1)) (ds := []) #[false, false, false, false, false, false, false, false, false, false, false] (by kernel_rfl) rfl rfl ⟨(blk_cell BK368.out 0).trans rfl, (blk_cell BK368.out 1).trans rfl⟩ (fun hHeld => ?_); refine with_tabW impl_Sequence_fails.tab8 impl_Sequence_fails.bits8 (fun HT_ HW_ => ?_)
            generalize wr.drew = w23 at BK368 HB hHeld ⊢
            refine pure_ (i := 2) (N := some 27) (v := ?_) (a' := ?_) #[false, false, true, false, false, false, false, false, false, false, false] rfl rfl (any_of HT_.out (by kernel_rfl)) (fun _ _ _ h => h) (Or.inl ⟨by rfl, ?_⟩) ?_ ?_
            rotate_left
            · intro w'
              go_simp
              with_reducible rfl
            rotate_left
            · simp only [Act.put, List.setIfInBounds_toArray, List.set_cons_zero, List.set_cons_succ, i64_w, i32_w]
              rfl
            refine pure_ (i := 5) (N := some 30) (v := ?_) (a' := ?_) #[false, false, true, false, false, true, false, false, false, false, false] rfl rfl (any_of HT_.out (by kernel_rfl)) (fun _ _ _ h => h) (Or.inl ⟨by rfl, ?_⟩) ?_ ?_
            rotate_left
            · intro w'
              go_simp
              with_reducible rfl
            rotate_left
            · simp only [Act.put, List.setIfInBounds_toArray, List.set_cons_zero, List.set_cons_succ, i64_w, i32_w]
              rfl
            refine pure_ (i := 8) (N := some 33) (v := ?_) (a' := ?_) #[false, false, true, false, false, true, false, false, true, false, false] rfl rfl (any_of HT_.out (by kernel_rfl)) (fun _ _ _ h => h) (Or.inl ⟨by rfl, ?_⟩) ?_ ?_
            rotate_left
            · intro w'
              go_simp
              with_reducible rfl
            rotate_left
            · simp only [Act.put, List.setIfInBounds_toArray, List.set_cons_zero, List.set_cons_succ, i64_w, i32_w]
              rfl
            refine take_ (i := 0) (N := some 25) (v := ?_) (a' := ?_) #[true, false, true, false, false, true, false, false, true, false, false] rfl rfl (take_ofW HT_.out HW_.out (by kernel_rfl)) (fun _ _ _ h => h) (Or.inl ⟨by rfl, ?_⟩) hHeld ?_ ?_
            rotate_left
            · rintro w' ⟨s0, s1⟩
              go_simp
              with_reducible rfl
            rotate_left
            · simp only [Act.put, List.setIfInBounds_toArray, List.set_cons_zero, List.set_cons_succ, i64_w, i32_w]
              rfl
            refine take_ (i := 1) (N := some 26) (v := ?_) (a' := ?_) #[true, true, true, false, false, true, false, false, true, false, false] rfl rfl (take_ofW HT_.out HW_.out (by kernel_rfl)) (fun _ _ _ h => h) (Or.inl ⟨by rfl, ?_⟩) hHeld ?_ ?_
            rotate_left
            · rintro w' ⟨s0, s1⟩
              go_simp
              with_reducible rfl
            rotate_left
            · simp only [Act.put, List.setIfInBounds_toArray, List.set_cons_zero, List.set_cons_succ, i64_w, i32_w]
              rfl
            refine one_ (i := 3) (N := some 28) #[true, true, true, true, false, true, false, false, true, false, false] rfl rfl (one_of HT_.out (by kernel_rfl)) (by decide) (fun K hK => ?_)
            refine goes_ Try.func57 (by kernel_rfl) rfl #[.agg #[.string a0_0, .string a0_1], .int .i64 a1] (by rfl) rfl rfl (by (try simp only [List.map_toArray, List.map_cons, List.map_nil]); first | done | rfl | (simp only [List.length_drop, List.length_take]; rfl)) ?_
            with_reducible refine (impl_Sequence_rho.calls k1 a0_0 a0_1 a1 t371 _ A20.out).mono ?_
            rintro e w24 ⟨rfl, hb⟩
            refine ⟨_, rfl, ?_⟩
            have n0_ := Aside0.mk (blk_below (g := gb368) (o := .cells #[.string a0_0, .string a0_1] 23 (0, 0)) (by (with_reducible repeat (first | refine blk_drewN ?_ _ | refine blk_drew ?_ | refine blk_alloc ?_ _)); exact BK368.out) hb)
            have n1_ := Aside0.mk (below_step (by repeat (first | (with_reducible first | exact HB.out | apply below_alloc | apply pw_below_drewN | apply below_drew1 | refine below_set ?_ GE368.out) | exact HB.out)) hb)
            clear BK368
            clear HB
            have BK368 := n0_
            have HB := n1_
            clear n0_ n1_
            (try clear hb)
            (try clear hb2)
            (try clear hk)
            (try clear hi)
            refine hK.out _ _ ⟨(blk_cell BK368.out 0).trans rfl, (blk_cell BK368.out 1).trans rfl⟩ (fun hHeld => ?_)
            clear hK K
            refine norm_ (a' := ?_) ?_ ?_
            rotate_left
            · show Act.put _ (some 28) _ = _
              simp only [Act.put, List.setIfInBounds_toArray, List.set_cons_zero, List.set_cons_succ, i64_w, i32_w]
              rfl
            refine pure_ (i := 4) (N := some 29) (v := ?_) (a' := ?_) #[true, true, true, true, true, true, false, false, true, false, false] rfl rfl (any_of HT_.out (by kernel_rfl)) (fun _ _ _ h => h) (Or.inl ⟨by rfl, ?_⟩) ?_ ?_
            rotate_left
            · intro w'
              go_simp
              with_reducible rfl
            rotate_left
            · simp only [Act.put, List.setIfInBounds_toArray, List.set_cons_zero, List.set_cons_succ, i64_w, i32_w]
              rfl
            refine pure_ (i := 6) (N := some 31) (v := ?_) (a' := ?_) #[true, true, true, true, true, true, true, false, true, false, false] rfl rfl (any_of HT_.out (by kernel_rfl)) (fun _ _ _ h => h) (Or.inl ⟨by rfl, ?_⟩) ?_ ?_
            rotate_left
            · intro w'
              go_simp
              with_reducible rfl
            rotate_left
            · simp only [Act.put, List.setIfInBounds_toArray, List.set_cons_zero, List.set_cons_succ, i64_w, i32_w]
              rfl
            refine pure_ (i := 7) (N := some 32) (v := ?_) (a' := ?_) #[true, true, true, true, true, true, true, true, true, false, false] rfl rfl (any_of HT_.out (by kernel_rfl)) (fun _ _ _ h => h) (Or.inl ⟨by rfl, ?_⟩) ?_ ?_
            rotate_left
            · intro w'
              go_simp
              with_reducible rfl
            rotate_left
            · simp only [Act.put, List.setIfInBounds_toArray, List.set_cons_zero, List.set_cons_succ, i64_w, i32_w]
              rfl
            refine one_ (i := 9) (N := some 34) #[true, true, true, true, true, true, true, true, true, true, false] rfl rfl (one_of HT_.out (by kernel_rfl)) (by decide) (fun K hK => ?_)
            refine goes_ Try.func69 (by kernel_rfl) rfl #[.agg #[.string a0_0, .string a0_1], .int .i64 (wrap64 ((Int.tmod (wrap64 (t371 - 1)) a1) + 1)), .int .i64 a1] (by rfl) rfl rfl (by (try simp only [List.map_toArray, List.map_cons, List.map_nil]); first | done | rfl | (simp only [List.length_drop, List.length_take]; rfl)) ?_
            with_reducible refine (impl_Sequence_reaches.calls k1 a0_0 a0_1 (wrap64 ((Int.tmod (wrap64 (t371 - 1)) a1) + 1)) a1 t372 _ A22.out).mono ?_
            rintro e w25 ⟨rfl, hb⟩
            refine ⟨_, rfl, ?_⟩
            have n0_ := Aside0.mk (blk_below (g := gb368) (o := .cells #[.string a0_0, .string a0_1] 23 (0, 0)) (by (with_reducible repeat (first | refine blk_drewN ?_ _ | refine blk_drew ?_ | refine blk_alloc ?_ _)); exact BK368.out) hb)
            have n1_ := Aside0.mk (below_step (by repeat (first | (with_reducible first | exact HB.out | apply below_alloc | apply pw_below_drewN | apply below_drew1 | refine below_set ?_ GE368.out) | exact HB.out)) hb)
            clear BK368
            clear HB
            have BK368 := n0_
            have HB := n1_
            clear n0_ n1_
            (try clear hb)
            (try clear hb2)
            (try clear hk)
            (try clear hi)
            refine hK.out _ _ ⟨(blk_cell BK368.out 0).trans rfl, (blk_cell BK368.out 1).trans rfl⟩ (fun hHeld => ?_)
            clear hK K
            refine norm_ (a' := ?_) ?_ ?_
            rotate_left
            · show Act.put _ (some 34) _ = _
              simp only [Act.put, List.setIfInBounds_toArray, List.set_cons_zero, List.set_cons_succ, i64_w, i32_w]
              rfl
            refine pure_ (i := 10) (N := some 4) (v := ?_) (a' := ?_) #[true, true, true, true, true, true, true, true, true, true, true] rfl rfl (any_of HT_.out (by kernel_rfl)) (fun _ _ _ h => h) (Or.inl ⟨by rfl, ?_⟩) ?_ ?_
            rotate_left
            · intro w'
              go_simp
              with_reducible rfl
            rotate_left
            · simp only [Act.put, List.setIfInBounds_toArray, List.set_cons_zero, List.set_cons_succ, i64_w, i32_w]
              rfl
            refine done_ (done_of HT_.out (by kernel_rfl)) ?_
            try go_wp2
            go_ret
            exact ⟨by first | rfl | (simp [errW_none, errW_some] <;> rfl) | (simp [*, errW_none, errW_some] <;> rfl), by repeat (first | (with_reducible first | exact HB.out | apply below_alloc | apply pw_below_drewN | apply below_drew1 | refine below_set ?_ GE368.out) | exact HB.out)⟩

end Go.Proofs.Ytdnookndjbjllaa.Q
end
section
-- By wip/hyb/hyb.py of this session, over the kit's print.py
namespace Go.Proofs.Ytdnookndjbjllaa.Q
open Go.Proofs.YtdnookndjbjllaaW.Ext
open Go.RowKit Go.Proofs.YtdnookndjbjllaaW.PrintWords Go.Proofs.YtdnookndjbjllaaW.PrintLast Go.Proofs.YtdnookndjbjllaaW.PrintMore
attribute [local go_sem] max2_int min2_int max_two min_two max_three min_three max_four min_four   -- for this text's walks alone
set_option linter.unusedVariables false
set_option linter.unusedSimpArgs false

/-! ### impl_Sequence_isAdmissible: function 62 -/
def impl_Sequence_isAdmissible.l0 : Nat → Int → Int → ByteArray → ByteArray → Option (Bool)
  | 0, _, _, _, _ => none
  | k + 1, x6, x7, x395000, x395001 => if x7 < x6 then (if x7 > 0 then ((impl_Sequence_fails.f k x395000 x395001 x7).bind fun t395 => (if t395 = true then (some false) else (impl_Sequence_isAdmissible.l0 k x6 (wrap64 (x7 + 1)) x395000 x395001))) else (impl_Sequence_isAdmissible.l0 k x6 (wrap64 (x7 + 1)) x395000 x395001)) else (some true)
def impl_Sequence_isAdmissible.f (k : Nat) (a0_0 : ByteArray) (a0_1 : ByteArray) : Option (Bool) := impl_Sequence_isAdmissible.l0 k (a0_1.size : Int) 0 a0_0 a0_1
theorem impl_Sequence_isAdmissible.mono_l : ∀ k, (∀ y0 y1 y2 y3, LeO (impl_Sequence_isAdmissible.l0 k y0 y1 y2 y3) (impl_Sequence_isAdmissible.l0 (k + 1) y0 y1 y2 y3))
  | 0 => fun _ _ _ _ r h => by simp [impl_Sequence_isAdmissible.l0] at h
  | k + 1 => by
    have ih0 := impl_Sequence_isAdmissible.mono_l k
    · intro y0 y1 y2 y3
      unfold impl_Sequence_isAdmissible.l0
      repeat' first
      | (with_reducible exact ih0 _ _ _ _)
      | (with_reducible exact impl_Sequence_fails.mono _ _ _ _)
      | (with_reducible exact LeO.refl _)
      | (with_reducible exact LeO.none _)
      | (with_reducible refine LeO.ite ?_ ?_)
      | (with_reducible refine LeO.bind ?_ (fun _ => ?_))
      | exact ih0 _ _ _ _
      | exact impl_Sequence_fails.mono _ _ _ _
      | exact LeO.none _
      | refine LeO.ite ?_ ?_
      | refine LeO.bind ?_ (fun _ => ?_)
theorem impl_Sequence_isAdmissible.mono : ∀ a0 a1 k, LeO (impl_Sequence_isAdmissible.f k a0 a1) (impl_Sequence_isAdmissible.f (k + 1) a0 a1) := by
  intro a0 a1 k
  have ih0 := impl_Sequence_isAdmissible.mono_l k
  unfold impl_Sequence_isAdmissible.f
  repeat' first
      | (with_reducible exact ih0 _ _ _ _)
      | (with_reducible exact impl_Sequence_fails.mono _ _ _ _)
      | (with_reducible exact LeO.refl _)
      | (with_reducible exact LeO.none _)
      | (with_reducible refine LeO.ite ?_ ?_)
      | (with_reducible refine LeO.bind ?_ (fun _ => ?_))
      | exact ih0 _ _ _ _
      | exact impl_Sequence_fails.mono _ _ _ _
      | exact LeO.none _
      | refine LeO.ite ?_ ?_
      | refine LeO.bind ?_ (fun _ => ?_)
set_option maxHeartbeats 8000000 in
set_option maxRecDepth 100000 in
theorem impl_Sequence_isAdmissible.calls (k : Nat) (a0_0 : ByteArray) (a0_1 : ByteArray) (r : Bool) (w : World) (h : impl_Sequence_isAdmissible.f k a0_0 a0_1 = some r) :
    Calls Try.prog 62 #[.agg #[.string a0_0, .string a0_1]] w fun e w' => e = .returned (.bool r) ∧ Below w.heap.size w w' := by
  have hu23 := Try.underlying23
  have HB := Aside0.mk (Below.refl w.heap.size w)
  have H : (impl_Sequence_isAdmissible.l0 k (a0_1.size : Int) 0 a0_0 a0_1) = some r := h
  clear h
  have H' := Aside0.mk H
  clear H
  go_enter Try.func62, Try.ntmps62
  go_wp2_with (first | ((with_reducible refine gate_dst (N := 1) rfl ?_); refine box_event ?hg (N := 1) ?hd (cs := #[.string a0_0, .string a0_1]) (t := 23) ?hr ?_; (case hd => rfl); (case hg => rfl); (case hr => first | (go_simp; done) | (go_simp; rfl)); intro gb394 hg w2 hbox hb; have n0_ := Aside0.mk (below_step (by repeat (first | (with_reducible first | exact HB.out | apply below_alloc | apply pw_below_drewN | apply below_drew1) | exact HB.out)) hb); have n1_ := Aside0.mk (hbox); have n2_ := Aside0.mk ((by rw [hg]; exact (below_size (by repeat (first | (with_reducible first | exact HB.out | apply below_alloc | apply pw_below_drewN | apply below_drew1) | exact HB.out))) : w.heap.size ≤ gb394)); have n3_ := Aside0.mk ((by rw [hg]; exact (below_size (by repeat (first | (with_reducible first | exact HB.out | apply below_alloc | apply pw_below_drewN | apply below_drew1) | exact HB.out))) : w.heap.size ≤ gb394)); clear HB; have HB := n0_; have BK394 := n1_; have GW394 := n2_; have GE394 := n3_; clear n0_ n1_ n2_ n3_; clear hb hbox hg; have hcz3_0 : w2.cell? ⟨gb394, 0, none⟩ = some (.string a0_0) := (blk_cell BK394.out 0).trans rfl; have hcz3_1 : w2.cell? ⟨gb394, 1, none⟩ = some (.string a0_1) := (blk_cell BK394.out 1).trans rfl; have hfz3_0 := blk_frozen BK394.out 0; have hfz3_1 := blk_frozen BK394.out 1))
  go_loopg [7] k (fun kq v7 w' => ∃ (x7_1 : Int), v7 = .int .i64 x7_1 ∧ Aside0 (impl_Sequence_isAdmissible.l0 kq (a0_1.size : Int) x7_1 a0_0 a0_1 = some r) ∧ Aside0 (kq ≤ k) ∧ Aside0 (w'.heap[gb394]? = some (.cells #[.string a0_0, .string a0_1] 23 (0, 0))) ∧ Aside0 (Below w.heap.size w w'))
  case atStart => exact ⟨(0), (by first | rfl | (simp; done) | (simp [*]; done)), H', ⟨Nat.le_refl _⟩, ⟨by (with_reducible repeat (first | refine blk_drewN ?_ _ | refine blk_drew ?_ | refine blk_alloc ?_ _)); exact BK394.out⟩, ⟨by repeat (first | (with_reducible first | exact HB.out | apply below_alloc | apply pw_below_drewN | apply below_drew1 | refine below_set ?_ GE394.out) | exact HB.out)⟩⟩
  case round =>
    clear H'
    try clear p2
    try clear hcz3_0
    try clear hcz3_1
    try clear hfz3_0
    try clear hfz3_1
    obtain ⟨x7_1, rfl, HA, HK1, BK394, HB⟩ := hrel
    cases gk with
    | zero => exact absurd HA.out (by simp [impl_Sequence_isAdmissible.l0])
    | succ k1 =>
      have H := HA.out
      clear HA
      simp only [impl_Sequence_isAdmissible.l0] at H
      by_cases c4 : x7_1 < (a0_1.size : Int)
      · rw [if_pos c4] at H
        have c4b0 : decide (x7_1 < (a0_1.size : Int)) = true := decide_eq_true c4
        clear c4
        by_cases c5 : x7_1 > 0
        · rw [if_pos c5] at H
          have c5b0 : decide (0 < x7_1) = true := decide_eq_true c5
          clear c5
          replace H := Option.bind_eq_some_iff.mp H
          obtain ⟨t395, A60, H⟩ := H
          replace H : (if t395 = true then (some false) else (impl_Sequence_isAdmissible.l0 k1 (a0_1.size : Int) (wrap64 (x7_1 + 1)) a0_0 a0_1)) = some r := H
          have A6 := Aside0.mk A60
          clear A60
          by_cases c7 : t395 = true
          · subst c7
            have H1 : (some false) = some r := by rw [if_pos rfl] at H; exact H
            clear H
            have H := H1
            clear H1
            obtain rfl := Option.some.inj H
            have hcz8_0 : wr.cell? ⟨gb394, 0, none⟩ = some (.string a0_0) := (blk_cell BK394.out 0).trans rfl
            have hcz8_1 : wr.cell? ⟨gb394, 1, none⟩ = some (.string a0_1) := (blk_cell BK394.out 1).trans rfl
            have hfz8_0 := blk_frozen BK394.out 0
            have hfz8_1 := blk_frozen BK394.out 1
            go_wp2_with (first | (go_at_call 60; (with_reducible refine (impl_Sequence_fails.calls k1 a0_0 a0_1 x7_1 true _ A6.out).mono ?_); rintro e w9 ⟨rfl, hb⟩; have n0_ := Aside0.mk (blk_below (g := gb394) (o := .cells #[.string a0_0, .string a0_1] 23 (0, 0)) (by (with_reducible repeat (first | refine blk_drewN ?_ _ | refine blk_drew ?_ | refine blk_alloc ?_ _)); exact BK394.out) hb); have n1_ := Aside0.mk (below_step (by repeat (first | (with_reducible first | exact HB.out | apply below_alloc | apply pw_below_drewN | apply below_drew1 | refine below_set ?_ GE394.out) | exact HB.out)) hb); clear BK394; clear HB; have BK394 := n0_; have HB := n1_; clear n0_ n1_; (try clear hb); (try clear hb2); (try clear hk); (try clear hi)))
            go_ret
            exact ⟨by first | rfl | (simp [errW_none, errW_some] <;> rfl) | (simp [*, errW_none, errW_some] <;> rfl), by repeat (first | (with_reducible first | exact HB.out | apply below_alloc | apply pw_below_drewN | apply below_drew1 | refine below_set ?_ GE394.out) | exact HB.out)⟩
          · replace c7 := Bool.eq_false_iff.mpr c7
            subst c7
            have H1 : (impl_Sequence_isAdmissible.l0 k1 (a0_1.size : Int) (wrap64 (x7_1 + 1)) a0_0 a0_1) = some r := by rw [if_neg (show ¬ (false = true) by decide)] at H; exact H
            clear H
            have H := H1
            clear H1
            have H' := Aside0.mk H
            clear H
            have hcz10_0 : wr.cell? ⟨gb394, 0, none⟩ = some (.string a0_0) := (blk_cell BK394.out 0).trans rfl
            have hcz10_1 : wr.cell? ⟨gb394, 1, none⟩ = some (.string a0_1) := (blk_cell BK394.out 1).trans rfl
            have hfz10_0 := blk_frozen BK394.out 0
            have hfz10_1 := blk_frozen BK394.out 1
            go_wp2_with (first | (go_at_call 60; (with_reducible refine (impl_Sequence_fails.calls k1 a0_0 a0_1 x7_1 false _ A6.out).mono ?_); rintro e w11 ⟨rfl, hb⟩; have n0_ := Aside0.mk (blk_below (g := gb394) (o := .cells #[.string a0_0, .string a0_1] 23 (0, 0)) (by (with_reducible repeat (first | refine blk_drewN ?_ _ | refine blk_drew ?_ | refine blk_alloc ?_ _)); exact BK394.out) hb); have n1_ := Aside0.mk (below_step (by repeat (first | (with_reducible first | exact HB.out | apply below_alloc | apply pw_below_drewN | apply below_drew1 | refine below_set ?_ GE394.out) | exact HB.out)) hb); clear BK394; clear HB; have BK394 := n0_; have HB := n1_; clear n0_ n1_; (try clear hb); (try clear hb2); (try clear hk); (try clear hi)))
            go_roundg k1
            case measure => have := HK1.out; omega
            case rel => exact ⟨(wrap64 (x7_1 + 1)), (by first | rfl | (simp; done) | (simp [*]; done)), H', ⟨by have := HK1.out; omega⟩, ⟨by (with_reducible repeat (first | refine blk_drewN ?_ _ | refine blk_drew ?_ | refine blk_alloc ?_ _)); exact BK394.out⟩, ⟨by repeat (first | (with_reducible first | exact HB.out | apply below_alloc | apply pw_below_drewN | apply below_drew1 | refine below_set ?_ GE394.out) | exact HB.out)⟩⟩
        · rw [if_neg c5] at H
          have c5b0 : decide (0 < x7_1) = false := decide_eq_false c5
          clear c5
          have H' := Aside0.mk H
          clear H
          go_wp2
          go_roundg k1
          case measure => have := HK1.out; omega
          case rel => exact ⟨(wrap64 (x7_1 + 1)), (by first | rfl | (simp; done) | (simp [*]; done)), H', ⟨by have := HK1.out; omega⟩, ⟨by (with_reducible repeat (first | refine blk_drewN ?_ _ | refine blk_drew ?_ | refine blk_alloc ?_ _)); exact BK394.out⟩, ⟨by repeat (first | (with_reducible first | exact HB.out | apply below_alloc | apply pw_below_drewN | apply below_drew1 | refine below_set ?_ GE394.out) | exact HB.out)⟩⟩
      · rw [if_neg c4] at H
        have c4b0 : decide (x7_1 < (a0_1.size : Int)) = false := decide_eq_false c4
        clear c4
        obtain rfl := Option.some.inj H
        go_wp2
        go_ret
        exact ⟨by first | rfl | (simp [errW_none, errW_some] <;> rfl) | (simp [*, errW_none, errW_some] <;> rfl), by repeat (first | (with_reducible first | exact HB.out | apply below_alloc | apply pw_below_drewN | apply below_drew1 | refine below_set ?_ GE394.out) | exact HB.out)⟩

end Go.Proofs.Ytdnookndjbjllaa.Q
end
section
-- By wip/hyb/hyb.py of this session, over the kit's print.py
namespace Go.Proofs.Ytdnookndjbjllaa.Q
open Go.Proofs.YtdnookndjbjllaaW.Ext
open Go.RowKit Go.Proofs.YtdnookndjbjllaaW.PrintWords Go.Proofs.YtdnookndjbjllaaW.PrintLast Go.Proofs.YtdnookndjbjllaaW.PrintMore
attribute [local go_sem] max2_int min2_int max_two min_two max_three min_three max_four min_four   -- for this text's walks alone
set_option linter.unusedVariables false
set_option linter.unusedSimpArgs false

/-! ### impl_IsAdmissible: function 38 -/
def impl_IsAdmissible.f (k : Nat) (a0_0 : ByteArray) (a0_1 : ByteArray) : Option (Bool × Int) := (impl_IsSequence.f k a0_0 a0_1).bind fun t397 => (if t397 = true then ((impl_Sequence_isStar.f a0_0 a0_1).bind fun t398 => (if t398 = true then ((impl_Sequence_isAdmissible.f k a0_0 a0_1).bind fun t399 => (some (t399, 0))) else (some (false, 5)))) else (some (false, 1)))
theorem impl_IsAdmissible.mono : ∀ a0 a1 k, LeO (impl_IsAdmissible.f k a0 a1) (impl_IsAdmissible.f (k + 1) a0 a1) := by
  intro a0 a1 k
  unfold impl_IsAdmissible.f
  repeat' first
      | (with_reducible exact impl_IsSequence.mono _ _ _)
      | (with_reducible exact impl_Sequence_isAdmissible.mono _ _ _)
      | (with_reducible exact LeO.refl _)
      | (with_reducible exact LeO.none _)
      | (with_reducible refine LeO.ite ?_ ?_)
      | (with_reducible refine LeO.bind ?_ (fun _ => ?_))
      | exact impl_IsSequence.mono _ _ _
      | exact impl_Sequence_isAdmissible.mono _ _ _
      | exact LeO.none _
      | refine LeO.ite ?_ ?_
      | refine LeO.bind ?_ (fun _ => ?_)
set_option maxHeartbeats 8000000 in
set_option maxRecDepth 100000 in
theorem impl_IsAdmissible.calls (k : Nat) (a0_0 : ByteArray) (a0_1 : ByteArray) (r1 : Bool) (r2 : Int) (w : World) (h : impl_IsAdmissible.f k a0_0 a0_1 = some (r1, r2)) :
    Calls Try.prog 38 #[.agg #[.string a0_0, .string a0_1]] w fun e w' => e = .returned (.tuple #[.bool r1, .int .i64 r2]) ∧ Below w.heap.size w w' := by
  have hu23 := Try.underlying23
  have HB := Aside0.mk (Below.refl w.heap.size w)
  have H : ((impl_IsSequence.f k a0_0 a0_1).bind fun t397 => (if t397 = true then ((impl_Sequence_isStar.f a0_0 a0_1).bind fun t398 => (if t398 = true then ((impl_Sequence_isAdmissible.f k a0_0 a0_1).bind fun t399 => (some (t399, 0))) else (some (false, 5)))) else (some (false, 1)))) = some (r1, r2) := h
  clear h
  replace H := Option.bind_eq_some_iff.mp H
  obtain ⟨t397, A20, H⟩ := H
  replace H : (if t397 = true then ((impl_Sequence_isStar.f a0_0 a0_1).bind fun t398 => (if t398 = true then ((impl_Sequence_isAdmissible.f k a0_0 a0_1).bind fun t399 => (some (t399, 0))) else (some (false, 5)))) else (some (false, 1))) = some (r1, r2) := H
  have A2 := Aside0.mk A20
  clear A20
  by_cases c3 : t397 = true
  · subst c3
    have H1 : ((impl_Sequence_isStar.f a0_0 a0_1).bind fun t398 => (if t398 = true then ((impl_Sequence_isAdmissible.f k a0_0 a0_1).bind fun t399 => (some (t399, 0))) else (some (false, 5)))) = some (r1, r2) := by rw [if_pos rfl] at H; exact H
    clear H
    have H := H1
    clear H1
    replace H := Option.bind_eq_some_iff.mp H
    obtain ⟨t398, A40, H⟩ := H
    replace H : (if t398 = true then ((impl_Sequence_isAdmissible.f k a0_0 a0_1).bind fun t399 => (some (t399, 0))) else (some (false, 5))) = some (r1, r2) := H
    have A4 := Aside0.mk A40
    clear A40
    by_cases c5 : t398 = true
    · subst c5
      have H1 : ((impl_Sequence_isAdmissible.f k a0_0 a0_1).bind fun t399 => (some (t399, 0))) = some (r1, r2) := by rw [if_pos rfl] at H; exact H
      clear H
      have H := H1
      clear H1
      replace H := Option.bind_eq_some_iff.mp H
      obtain ⟨t399, A60, H⟩ := H
      replace H : (some (t399, 0)) = some (r1, r2) := H
      have A6 := Aside0.mk A60
      clear A60
      simp only [Option.some.injEq, Prod.mk.injEq] at H
      obtain ⟨rfl, rfl⟩ := H
      go_enter Try.func38, Try.ntmps38
      go_wp2_with (first | ((with_reducible refine gate_dst (N := 1) rfl ?_); refine box_event ?hg (N := 1) ?hd (cs := #[.string a0_0, .string a0_1]) (t := 23) ?hr ?_; (case hd => rfl); (case hg => rfl); (case hr => first | (go_simp; done) | (go_simp; rfl)); intro gb396 hg w7 hbox hb; have n0_ := Aside0.mk (below_step (by repeat (first | (with_reducible first | exact HB.out | apply below_alloc | apply pw_below_drewN | apply below_drew1) | exact HB.out)) hb); have n1_ := Aside0.mk (hbox); have n2_ := Aside0.mk ((by rw [hg]; exact (below_size (by repeat (first | (with_reducible first | exact HB.out | apply below_alloc | apply pw_below_drewN | apply below_drew1) | exact HB.out))) : w.heap.size ≤ gb396)); have n3_ := Aside0.mk ((by rw [hg]; exact (below_size (by repeat (first | (with_reducible first | exact HB.out | apply below_alloc | apply pw_below_drewN | apply below_drew1) | exact HB.out))) : w.heap.size ≤ gb396)); clear HB; have HB := n0_; have BK396 := n1_; have GW396 := n2_; have GE396 := n3_; clear n0_ n1_ n2_ n3_; clear hb hbox hg; have hcz8_0 : w7.cell? ⟨gb396, 0, none⟩ = some (.string a0_0) := (blk_cell BK396.out 0).trans rfl; have hcz8_1 : w7.cell? ⟨gb396, 1, none⟩ = some (.string a0_1) := (blk_cell BK396.out 1).trans rfl; have hfz8_0 := blk_frozen BK396.out 0; have hfz8_1 := blk_frozen BK396.out 1) | ((with_reducible refine gate_callee (f := 19) rfl ?_); refine goesL_ (some 6) rfl rfl Try.func19 (by kernel_rfl) rfl #[.agg #[.string a0_0, .string a0_1]] rfl (by (try simp only [List.map_toArray, List.map_cons, List.map_nil]); first | done | rfl | (simp only [List.length_drop, List.length_take]; rfl)) ?_; (with_reducible refine (impl_IsSequence.calls k a0_0 a0_1 true _ A2.out).mono ?_); rintro e w9 ⟨rfl, hb⟩; refine ⟨_, rfl, ?_⟩; have n0_ := Aside0.mk (blk_below (g := gb396) (o := .cells #[.string a0_0, .string a0_1] 23 (0, 0)) (by (with_reducible repeat (first | refine blk_drewN ?_ _ | refine blk_drew ?_ | refine blk_alloc ?_ _)); exact BK396.out) hb); have n1_ := Aside0.mk (below_step (by repeat (first | (with_reducible first | exact HB.out | apply below_alloc | apply pw_below_drewN | apply below_drew1 | refine below_set ?_ GE396.out) | exact HB.out)) hb); clear BK396; clear HB; have BK396 := n0_; have HB := n1_; clear n0_ n1_; (try clear hb); (try clear hb2); (try clear hk); (try clear hi); have hcz10_0 : w9.cell? ⟨gb396, 0, none⟩ = some (.string a0_0) := (blk_cell BK396.out 0).trans rfl; have hcz10_1 : w9.cell? ⟨gb396, 1, none⟩ = some (.string a0_1) := (blk_cell BK396.out 1).trans rfl; have hfz10_0 := blk_frozen BK396.out 0; have hfz10_1 := blk_frozen BK396.out 1) | ((with_reducible refine gate_callee (f := 53) rfl ?_); refine goesL_ (some 10) rfl rfl Try.func53 (by kernel_rfl) rfl #[.agg #[.string a0_0, .string a0_1]] rfl (by (try simp only [List.map_toArray, List.map_cons, List.map_nil]); first | done | rfl | (simp only [List.length_drop, List.length_take]; rfl)) ?_; (with_reducible refine (impl_Sequence_isStar.calls a0_0 a0_1 true _ A4.out).mono ?_); rintro e w11 ⟨rfl, hb⟩; refine ⟨_, rfl, ?_⟩; have n0_ := Aside0.mk (blk_below (g := gb396) (o := .cells #[.string a0_0, .string a0_1] 23 (0, 0)) (by (with_reducible repeat (first | refine blk_drewN ?_ _ | refine blk_drew ?_ | refine blk_alloc ?_ _)); exact BK396.out) hb); have n1_ := Aside0.mk (below_step (by repeat (first | (with_reducible first | exact HB.out | apply below_alloc | apply pw_below_drewN | apply below_drew1 | refine below_set ?_ GE396.out) | exact HB.out)) hb); clear BK396; clear HB; have BK396 := n0_; have HB := n1_; clear n0_ n1_; (try clear hb); (try clear hb2); (try clear hk); (try clear hi); have hcz12_0 : w11.cell? ⟨gb396, 0, none⟩ = some (.string a0_0) := (blk_cell BK396.out 0).trans rfl; have hcz12_1 : w11.cell? ⟨gb396, 1, none⟩ = some (.string a0_1) := (blk_cell BK396.out 1).trans rfl; have hfz12_0 := blk_frozen BK396.out 0; have hfz12_1 := blk_frozen BK396.out 1) | ((with_reducible refine gate_callee (f := 62) rfl ?_); refine goesL_ (some 13) rfl rfl Try.func62 (by kernel_rfl) rfl #[.agg #[.string a0_0, .string a0_1]] rfl (by (try simp only [List.map_toArray, List.map_cons, List.map_nil]); first | done | rfl | (simp only [List.length_drop, List.length_take]; rfl)) ?_; (with_reducible refine (impl_Sequence_isAdmissible.calls k a0_0 a0_1 t399 _ A6.out).mono ?_); rintro e w13 ⟨rfl, hb⟩; refine ⟨_, rfl, ?_⟩; have n0_ := Aside0.mk (blk_below (g := gb396) (o := .cells #[.string a0_0, .string a0_1] 23 (0, 0)) (by (with_reducible repeat (first | refine blk_drewN ?_ _ | refine blk_drew ?_ | refine blk_alloc ?_ _)); exact BK396.out) hb); have n1_ := Aside0.mk (below_step (by repeat (first | (with_reducible first | exact HB.out | apply below_alloc | apply pw_below_drewN | apply below_drew1 | refine below_set ?_ GE396.out) | exact HB.out)) hb); clear BK396; clear HB; have BK396 := n0_; have HB := n1_; clear n0_ n1_; (try clear hb); (try clear hb2); (try clear hk); (try clear hi)))
      go_ret2
      exact ⟨by first | rfl | (simp [errW_none, errW_some] <;> rfl) | (simp [*, errW_none, errW_some] <;> rfl), by repeat (first | (with_reducible first | exact HB.out | apply below_alloc | apply pw_below_drewN | apply below_drew1 | refine below_set ?_ GE396.out) | exact HB.out)⟩
    · replace c5 := Bool.eq_false_iff.mpr c5
      subst c5
      have H1 : (some (false, 5)) = some (r1, r2) := by rw [if_neg (show ¬ (false = true) by decide)] at H; exact H
      clear H
      have H := H1
      clear H1
      simp only [Option.some.injEq, Prod.mk.injEq] at H
      obtain ⟨rfl, rfl⟩ := H
      go_enter Try.func38, Try.ntmps38
      go_wp2_with (first | ((with_reducible refine gate_dst (N := 1) rfl ?_); refine box_event ?hg (N := 1) ?hd (cs := #[.string a0_0, .string a0_1]) (t := 23) ?hr ?_; (case hd => rfl); (case hg => rfl); (case hr => first | (go_simp; done) | (go_simp; rfl)); intro gb396 hg w14 hbox hb; have n0_ := Aside0.mk (below_step (by repeat (first | (with_reducible first | exact HB.out | apply below_alloc | apply pw_below_drewN | apply below_drew1) | exact HB.out)) hb); have n1_ := Aside0.mk (hbox); have n2_ := Aside0.mk ((by rw [hg]; exact (below_size (by repeat (first | (with_reducible first | exact HB.out | apply below_alloc | apply pw_below_drewN | apply below_drew1) | exact HB.out))) : w.heap.size ≤ gb396)); have n3_ := Aside0.mk ((by rw [hg]; exact (below_size (by repeat (first | (with_reducible first | exact HB.out | apply below_alloc | apply pw_below_drewN | apply below_drew1) | exact HB.out))) : w.heap.size ≤ gb396)); clear HB; have HB := n0_; have BK396 := n1_; have GW396 := n2_; have GE396 := n3_; clear n0_ n1_ n2_ n3_; clear hb hbox hg; have hcz15_0 : w14.cell? ⟨gb396, 0, none⟩ = some (.string a0_0) := (blk_cell BK396.out 0).trans rfl; have hcz15_1 : w14.cell? ⟨gb396, 1, none⟩ = some (.string a0_1) := (blk_cell BK396.out 1).trans rfl; have hfz15_0 := blk_frozen BK396.out 0; have hfz15_1 := blk_frozen BK396.out 1) | ((with_reducible refine gate_callee (f := 19) rfl ?_); refine goesL_ (some 6) rfl rfl Try.func19 (by kernel_rfl) rfl #[.agg #[.string a0_0, .string a0_1]] rfl (by (try simp only [List.map_toArray, List.map_cons, List.map_nil]); first | done | rfl | (simp only [List.length_drop, List.length_take]; rfl)) ?_; (with_reducible refine (impl_IsSequence.calls k a0_0 a0_1 true _ A2.out).mono ?_); rintro e w16 ⟨rfl, hb⟩; refine ⟨_, rfl, ?_⟩; have n0_ := Aside0.mk (blk_below (g := gb396) (o := .cells #[.string a0_0, .string a0_1] 23 (0, 0)) (by (with_reducible repeat (first | refine blk_drewN ?_ _ | refine blk_drew ?_ | refine blk_alloc ?_ _)); exact BK396.out) hb); have n1_ := Aside0.mk (below_step (by repeat (first | (with_reducible first | exact HB.out | apply below_alloc | apply pw_below_drewN | apply below_drew1 | refine below_set ?_ GE396.out) | exact HB.out)) hb); clear BK396; clear HB; have BK396 := n0_; have HB := n1_; clear n0_ n1_; (try clear hb); (try clear hb2); (try clear hk); (try clear hi); have hcz17_0 : w16.cell? ⟨gb396, 0, none⟩ = some (.string a0_0) := (blk_cell BK396.out 0).trans rfl; have hcz17_1 : w16.cell? ⟨gb396, 1, none⟩ = some (.string a0_1) := (blk_cell BK396.out 1).trans rfl; have hfz17_0 := blk_frozen BK396.out 0; have hfz17_1 := blk_frozen BK396.out 1) | ((with_reducible refine gate_callee (f := 53) rfl ?_); refine goesL_ (some 10) rfl rfl Try.func53 (by kernel_rfl) rfl #[.agg #[.string a0_0, .string a0_1]] rfl (by (try simp only [List.map_toArray, List.map_cons, List.map_nil]); first | done | rfl | (simp only [List.length_drop, List.length_take]; rfl)) ?_; (with_reducible refine (impl_Sequence_isStar.calls a0_0 a0_1 false _ A4.out).mono ?_); rintro e w18 ⟨rfl, hb⟩; refine ⟨_, rfl, ?_⟩; have n0_ := Aside0.mk (blk_below (g := gb396) (o := .cells #[.string a0_0, .string a0_1] 23 (0, 0)) (by (with_reducible repeat (first | refine blk_drewN ?_ _ | refine blk_drew ?_ | refine blk_alloc ?_ _)); exact BK396.out) hb); have n1_ := Aside0.mk (below_step (by repeat (first | (with_reducible first | exact HB.out | apply below_alloc | apply pw_below_drewN | apply below_drew1 | refine below_set ?_ GE396.out) | exact HB.out)) hb); clear BK396; clear HB; have BK396 := n0_; have HB := n1_; clear n0_ n1_; (try clear hb); (try clear hb2); (try clear hk); (try clear hi)))
      go_ret2
      exact ⟨by first | rfl | (simp [errW_none, errW_some] <;> rfl) | (simp [*, errW_none, errW_some] <;> rfl), by repeat (first | (with_reducible first | exact HB.out | apply below_alloc | apply pw_below_drewN | apply below_drew1 | refine below_set ?_ GE396.out) | exact HB.out)⟩
  · replace c3 := Bool.eq_false_iff.mpr c3
    subst c3
    have H1 : (some (false, 1)) = some (r1, r2) := by rw [if_neg (show ¬ (false = true) by decide)] at H; exact H
    clear H
    have H := H1
    clear H1
    simp only [Option.some.injEq, Prod.mk.injEq] at H
    obtain ⟨rfl, rfl⟩ := H
    go_enter Try.func38, Try.ntmps38
    go_wp2_with (first | ((with_reducible refine gate_dst (N := 1) rfl ?_); refine box_event ?hg (N := 1) ?hd (cs := #[.string a0_0, .string a0_1]) (t := 23) ?hr ?_; (case hd => rfl); (case hg => rfl); (case hr => first | (go_simp; done) | (go_simp; rfl)); intro gb396 hg w19 hbox hb; have n0_ := Aside0.mk (below_step (by repeat (first | (with_reducible first | exact HB.out | apply below_alloc | apply pw_below_drewN | apply below_drew1) | exact HB.out)) hb); have n1_ := Aside0.mk (hbox); have n2_ := Aside0.mk ((by rw [hg]; exact (below_size (by repeat (first | (with_reducible first | exact HB.out | apply below_alloc | apply pw_below_drewN | apply below_drew1) | exact HB.out))) : w.heap.size ≤ gb396)); have n3_ := Aside0.mk ((by rw [hg]; exact (below_size (by repeat (first | (with_reducible first | exact HB.out | apply below_alloc | apply pw_below_drewN | apply below_drew1) | exact HB.out))) : w.heap.size ≤ gb396)); clear HB; have HB := n0_; have BK396 := n1_; have GW396 := n2_; have GE396 := n3_; clear n0_ n1_ n2_ n3_; clear hb hbox hg; have hcz20_0 : w19.cell? ⟨gb396, 0, none⟩ = some (.string a0_0) := (blk_cell BK396.out 0).trans rfl; have hcz20_1 : w19.cell? ⟨gb396, 1, none⟩ = some (.string a0_1) := (blk_cell BK396.out 1).trans rfl; have hfz20_0 := blk_frozen BK396.out 0; have hfz20_1 := blk_frozen BK396.out 1) | ((with_reducible refine gate_callee (f := 19) rfl ?_); refine goesL_ (some 6) rfl rfl Try.func19 (by kernel_rfl) rfl #[.agg #[.string a0_0, .string a0_1]] rfl (by (try simp only [List.map_toArray, List.map_cons, List.map_nil]); first | done | rfl | (simp only [List.length_drop, List.length_take]; rfl)) ?_; (with_reducible refine (impl_IsSequence.calls k a0_0 a0_1 false _ A2.out).mono ?_); rintro e w21 ⟨rfl, hb⟩; refine ⟨_, rfl, ?_⟩; have n0_ := Aside0.mk (blk_below (g := gb396) (o := .cells #[.string a0_0, .string a0_1] 23 (0, 0)) (by (with_reducible repeat (first | refine blk_drewN ?_ _ | refine blk_drew ?_ | refine blk_alloc ?_ _)); exact BK396.out) hb); have n1_ := Aside0.mk (below_step (by repeat (first | (with_reducible first | exact HB.out | apply below_alloc | apply pw_below_drewN | apply below_drew1 | refine below_set ?_ GE396.out) | exact HB.out)) hb); clear BK396; clear HB; have BK396 := n0_; have HB := n1_; clear n0_ n1_; (try clear hb); (try clear hb2); (try clear hk); (try clear hi)))
    go_ret2
    exact ⟨by first | rfl | (simp [errW_none, errW_some] <;> rfl) | (simp [*, errW_none, errW_some] <;> rfl), by repeat (first | (with_reducible first | exact HB.out | apply below_alloc | apply pw_below_drewN | apply below_drew1 | refine below_set ?_ GE396.out) | exact HB.out)⟩

end Go.Proofs.Ytdnookndjbjllaa.Q
end
section
-- By wip/hyb/hyb.py of this session, over the kit's print.py
namespace Go.Proofs.Ytdnookndjbjllaa.Q
open Go.Proofs.YtdnookndjbjllaaW.Ext
open Go.RowKit Go.Proofs.YtdnookndjbjllaaW.PrintWords Go.Proofs.YtdnookndjbjllaaW.PrintLast Go.Proofs.YtdnookndjbjllaaW.PrintMore
attribute [local go_sem] max2_int min2_int max_two min_two max_three min_three max_four min_four   -- for this text's walks alone
set_option linter.unusedVariables false
set_option linter.unusedSimpArgs false

/-! ### laws_FnExactIsAdmissible: function 12 -/
def laws_FnExactIsAdmissible.f (k : Nat) (a0_0 : ByteArray) (a0_1 : ByteArray) : Option (Bool) := (laws_szSequence.f a0_0 a0_1 1048576).bind fun t401 => (if t401 < 0 then (some true) else ((laws_toSequence.f a0_0 a0_1).bind fun bt402 => ((spec_IsAdmissible.f k bt402.1 bt402.2).bind fun bt404 => ((laws_toSequence.f a0_0 a0_1).bind fun bt406 => ((impl_IsAdmissible.f k bt406.1 bt406.2).bind fun bt408 => (if (bt408.1 != bt404.1) = true then (some false) else (if bt408.2 = bt404.2 then (some true) else (some false))))))))
theorem laws_FnExactIsAdmissible.mono : ∀ a0 a1 k, LeO (laws_FnExactIsAdmissible.f k a0 a1) (laws_FnExactIsAdmissible.f (k + 1) a0 a1) := by
  intro a0 a1 k
  unfold laws_FnExactIsAdmissible.f
  repeat' first
      | (with_reducible exact impl_IsAdmissible.mono _ _ _)
      | (with_reducible exact spec_IsAdmissible.mono _ _ _)
      | (with_reducible exact LeO.refl _)
      | (with_reducible exact LeO.none _)
      | (with_reducible refine LeO.ite ?_ ?_)
      | (with_reducible refine LeO.bind ?_ (fun _ => ?_))
      | exact impl_IsAdmissible.mono _ _ _
      | exact spec_IsAdmissible.mono _ _ _
      | exact LeO.none _
      | refine LeO.ite ?_ ?_
      | refine LeO.bind ?_ (fun _ => ?_)
set_option maxHeartbeats 8000000 in
set_option maxRecDepth 100000 in
theorem laws_FnExactIsAdmissible.calls (k : Nat) (a0_0 : ByteArray) (a0_1 : ByteArray) (r_ : Bool) (w : World) (h : laws_FnExactIsAdmissible.f k a0_0 a0_1 = some true) :
    Calls Try.prog 12 #[.agg #[.string a0_0, .string a0_1]] w fun e w' => e = .returned (.bool true) ∧ Below w.heap.size w w' := by
  have hu28 := Try.underlying28
  have HB := Aside0.mk (Below.refl w.heap.size w)
  have H : ((laws_szSequence.f a0_0 a0_1 1048576).bind fun t401 => (if t401 < 0 then (some true) else ((laws_toSequence.f a0_0 a0_1).bind fun bt402 => ((spec_IsAdmissible.f k bt402.1 bt402.2).bind fun bt404 => ((laws_toSequence.f a0_0 a0_1).bind fun bt406 => ((impl_IsAdmissible.f k bt406.1 bt406.2).bind fun bt408 => (if (bt408.1 != bt404.1) = true then (some false) else (if bt408.2 = bt404.2 then (some true) else (some false))))))))) = some true := h
  clear h
  replace H := Option.bind_eq_some_iff.mp H
  obtain ⟨t401, A20, H⟩ := H
  replace H : (if t401 < 0 then (some true) else ((laws_toSequence.f a0_0 a0_1).bind fun bt402 => ((spec_IsAdmissible.f k bt402.1 bt402.2).bind fun bt404 => ((laws_toSequence.f a0_0 a0_1).bind fun bt406 => ((impl_IsAdmissible.f k bt406.1 bt406.2).bind fun bt408 => (if (bt408.1 != bt404.1) = true then (some false) else (if bt408.2 = bt404.2 then (some true) else (some false)))))))) = some true := H
  have A2 := Aside0.mk A20
  clear A20
  by_cases c3 : t401 < 0
  · rw [if_pos c3] at H
    have c3b0 : decide (t401 < 0) = true := decide_eq_true c3
    clear c3
    clear H
    go_enter Try.func12, Try.ntmps12
    go_wp2_with (first | ((with_reducible refine gate_dst (N := 1) rfl ?_); refine box_event ?hg (N := 1) ?hd (cs := #[.string a0_0, .string a0_1]) (t := 28) ?hr ?_; (case hd => rfl); (case hg => rfl); (case hr => first | (go_simp; done) | (go_simp; rfl)); intro gb400 hg w4 hbox hb; have n0_ := Aside0.mk (below_step (by repeat (first | (with_reducible first | exact HB.out | apply below_alloc | apply pw_below_drewN | apply below_drew1) | exact HB.out)) hb); have n1_ := Aside0.mk (hbox); have n2_ := Aside0.mk ((by rw [hg]; exact (below_size (by repeat (first | (with_reducible first | exact HB.out | apply below_alloc | apply pw_below_drewN | apply below_drew1) | exact HB.out))) : w.heap.size ≤ gb400)); have n3_ := Aside0.mk ((by rw [hg]; exact (below_size (by repeat (first | (with_reducible first | exact HB.out | apply below_alloc | apply pw_below_drewN | apply below_drew1) | exact HB.out))) : w.heap.size ≤ gb400)); clear HB; have HB := n0_; have BK400 := n1_; have GW400 := n2_; have GE400 := n3_; clear n0_ n1_ n2_ n3_; clear hb hbox hg; have hcz5_0 : w4.cell? ⟨gb400, 0, none⟩ = some (.string a0_0) := (blk_cell BK400.out 0).trans rfl; have hcz5_1 : w4.cell? ⟨gb400, 1, none⟩ = some (.string a0_1) := (blk_cell BK400.out 1).trans rfl; have hfz5_0 := blk_frozen BK400.out 0; have hfz5_1 := blk_frozen BK400.out 1) | ((with_reducible refine gate_callee (f := 16) rfl ?_); refine goesL_ (some 10) rfl rfl Try.func16 (by kernel_rfl) rfl #[.agg #[.string a0_0, .string a0_1], .int .i64 1048576] rfl (by (try simp only [List.map_toArray, List.map_cons, List.map_nil]); first | done | rfl | (simp only [List.length_drop, List.length_take]; rfl)) ?_; (with_reducible refine (laws_szSequence.calls a0_0 a0_1 1048576 t401 _ A2.out).mono ?_); rintro e w6 ⟨rfl, hb⟩; refine ⟨_, rfl, ?_⟩; have n0_ := Aside0.mk (blk_below (g := gb400) (o := .cells #[.string a0_0, .string a0_1] 28 (0, 0)) (by (with_reducible repeat (first | refine blk_drewN ?_ _ | refine blk_drew ?_ | refine blk_alloc ?_ _)); exact BK400.out) hb); have n1_ := Aside0.mk (below_step (by repeat (first | (with_reducible first | exact HB.out | apply below_alloc | apply pw_below_drewN | apply below_drew1 | refine below_set ?_ GE400.out) | exact HB.out)) hb); clear BK400; clear HB; have BK400 := n0_; have HB := n1_; clear n0_ n1_; (try clear hb); (try clear hb2); (try clear hk); (try clear hi)))
    go_ret
    exact ⟨by first | rfl | (simp [errW_none, errW_some] <;> rfl) | (simp [*, errW_none, errW_some] <;> rfl), by repeat (first | (with_reducible first | exact HB.out | apply below_alloc | apply pw_below_drewN | apply below_drew1 | refine below_set ?_ GE400.out) | exact HB.out)⟩
  · rw [if_neg c3] at H
    have c3b0 : decide (t401 < 0) = false := decide_eq_false c3
    clear c3
    replace H := Option.bind_eq_some_iff.mp H
    obtain ⟨⟨t402, t403⟩, A70, H⟩ := H
    replace H : ((spec_IsAdmissible.f k t402 t403).bind fun bt404 => ((laws_toSequence.f a0_0 a0_1).bind fun bt406 => ((impl_IsAdmissible.f k bt406.1 bt406.2).bind fun bt408 => (if (bt408.1 != bt404.1) = true then (some false) else (if bt408.2 = bt404.2 then (some true) else (some false)))))) = some true := H
    have A7 := Aside0.mk A70
    clear A70
    replace H := Option.bind_eq_some_iff.mp H
    obtain ⟨⟨t404, t405⟩, A80, H⟩ := H
    replace H : ((laws_toSequence.f a0_0 a0_1).bind fun bt406 => ((impl_IsAdmissible.f k bt406.1 bt406.2).bind fun bt408 => (if (bt408.1 != t404) = true then (some false) else (if bt408.2 = t405 then (some true) else (some false))))) = some true := H
    have A8 := Aside0.mk A80
    clear A80
    replace H := Option.bind_eq_some_iff.mp H
    obtain ⟨⟨t406, t407⟩, A90, H⟩ := H
    replace H : ((impl_IsAdmissible.f k t406 t407).bind fun bt408 => (if (bt408.1 != t404) = true then (some false) else (if bt408.2 = t405 then (some true) else (some false)))) = some true := H
    have A9 := Aside0.mk A90
    clear A90
    replace H := Option.bind_eq_some_iff.mp H
    obtain ⟨⟨t408, t409⟩, A100, H⟩ := H
    replace H : (if (t408 != t404) = true then (some false) else (if t409 = t405 then (some true) else (some false))) = some true := H
    have A10 := Aside0.mk A100
    clear A100
    by_cases c11 : (t408 != t404) = true
    · rw [if_pos c11] at H
      have c11b0 : (t408 != t404) = true := c11
      (try (have c11b1 : decide (t408 = t404) = false := by simpa using c11))
      (try (have c11b2 : (t408 == t404) = false := by simpa using c11))
      (try (have c11b3 : ¬ (t408 = t404) := by simpa using c11))
      clear c11
      exact absurd H (by simp)
    · rw [if_neg c11] at H
      have c11b0 : (t408 != t404) = false := by simpa using c11
      (try (have c11b1 : decide (t408 = t404) = true := by simpa using c11))
      (try (have c11b2 : (t408 == t404) = true := by simpa using c11))
      clear c11
      by_cases c12 : t409 = t405
      · rw [if_pos c12] at H
        have c12b0 : (t409 == t405) = true := beq_iff_eq.mpr c12
        have c12b1 : (t409 != t405) = false := bne_eq_false_iff_eq.mpr c12
        clear c12
        clear H
        go_enter Try.func12, Try.ntmps12
        go_wp2_with (first | ((with_reducible refine gate_dst (N := 1) rfl ?_); refine box_event ?hg (N := 1) ?hd (cs := #[.string a0_0, .string a0_1]) (t := 28) ?hr ?_; (case hd => rfl); (case hg => rfl); (case hr => first | (go_simp; done) | (go_simp; rfl)); intro gb400 hg w13 hbox hb; have n0_ := Aside0.mk (below_step (by repeat (first | (with_reducible first | exact HB.out | apply below_alloc | apply pw_below_drewN | apply below_drew1) | exact HB.out)) hb); have n1_ := Aside0.mk (hbox); have n2_ := Aside0.mk ((by rw [hg]; exact (below_size (by repeat (first | (with_reducible first | exact HB.out | apply below_alloc | apply pw_below_drewN | apply below_drew1) | exact HB.out))) : w.heap.size ≤ gb400)); have n3_ := Aside0.mk ((by rw [hg]; exact (below_size (by repeat (first | (with_reducible first | exact HB.out | apply below_alloc | apply pw_below_drewN | apply below_drew1) | exact HB.out))) : w.heap.size ≤ gb400)); clear HB; have HB := n0_; have BK400 := n1_; have GW400 := n2_; have GE400 := n3_; clear n0_ n1_ n2_ n3_; clear hb hbox hg; have hcz14_0 : w13.cell? ⟨gb400, 0, none⟩ = some (.string a0_0) := (blk_cell BK400.out 0).trans rfl; have hcz14_1 : w13.cell? ⟨gb400, 1, none⟩ = some (.string a0_1) := (blk_cell BK400.out 1).trans rfl; have hfz14_0 := blk_frozen BK400.out 0; have hfz14_1 := blk_frozen BK400.out 1) | ((with_reducible refine gate_callee (f := 16) rfl ?_); refine goesL_ (some 10) rfl rfl Try.func16 (by kernel_rfl) rfl #[.agg #[.string a0_0, .string a0_1], .int .i64 1048576] rfl (by (try simp only [List.map_toArray, List.map_cons, List.map_nil]); first | done | rfl | (simp only [List.length_drop, List.length_take]; rfl)) ?_; (with_reducible refine (laws_szSequence.calls a0_0 a0_1 1048576 t401 _ A2.out).mono ?_); rintro e w15 ⟨rfl, hb⟩; refine ⟨_, rfl, ?_⟩; have n0_ := Aside0.mk (blk_below (g := gb400) (o := .cells #[.string a0_0, .string a0_1] 28 (0, 0)) (by (with_reducible repeat (first | refine blk_drewN ?_ _ | refine blk_drew ?_ | refine blk_alloc ?_ _)); exact BK400.out) hb); have n1_ := Aside0.mk (below_step (by repeat (first | (with_reducible first | exact HB.out | apply below_alloc | apply pw_below_drewN | apply below_drew1 | refine below_set ?_ GE400.out) | exact HB.out)) hb); clear BK400; clear HB; have BK400 := n0_; have HB := n1_; clear n0_ n1_; (try clear hb); (try clear hb2); (try clear hk); (try clear hi); have hcz16_0 : w15.cell? ⟨gb400, 0, none⟩ = some (.string a0_0) := (blk_cell BK400.out 0).trans rfl; have hcz16_1 : w15.cell? ⟨gb400, 1, none⟩ = some (.string a0_1) := (blk_cell BK400.out 1).trans rfl; have hfz16_0 := blk_frozen BK400.out 0; have hfz16_1 := blk_frozen BK400.out 1) | ((with_reducible refine gate_callee (f := 18) rfl ?_); refine goesL_ (some 15) rfl rfl Try.func18 (by kernel_rfl) rfl #[.agg #[.string a0_0, .string a0_1]] rfl (by (try simp only [List.map_toArray, List.map_cons, List.map_nil]); first | done | rfl | (simp only [List.length_drop, List.length_take]; rfl)) ?_; (with_reducible refine (laws_toSequence.calls a0_0 a0_1 t402 t403 _ A7.out).mono ?_); rintro e w17 ⟨rfl, hb⟩; refine ⟨_, rfl, ?_⟩; have n0_ := Aside0.mk (blk_below (g := gb400) (o := .cells #[.string a0_0, .string a0_1] 28 (0, 0)) (by (with_reducible repeat (first | refine blk_drewN ?_ _ | refine blk_drew ?_ | refine blk_alloc ?_ _)); exact BK400.out) hb); have n1_ := Aside0.mk (below_step (by repeat (first | (with_reducible first | exact HB.out | apply below_alloc | apply pw_below_drewN | apply below_drew1 | refine below_set ?_ GE400.out) | exact HB.out)) hb); clear BK400; clear HB; have BK400 := n0_; have HB := n1_; clear n0_ n1_; (try clear hb); (try clear hb2); (try clear hk); (try clear hi)) | ((with_reducible refine gate_callee (f := 37) rfl ?_); refine goesL_ (some 16) rfl rfl Try.func37 (by kernel_rfl) rfl #[.agg #[.string t402, .string t403]] rfl (by (try simp only [List.map_toArray, List.map_cons, List.map_nil]); first | done | rfl | (simp only [List.length_drop, List.length_take]; rfl)) ?_; (with_reducible refine (spec_IsAdmissible.calls k t402 t403 t404 t405 _ A8.out).mono ?_); rintro e w18 ⟨rfl, hb⟩; refine ⟨_, rfl, ?_⟩; have n0_ := Aside0.mk (blk_below (g := gb400) (o := .cells #[.string a0_0, .string a0_1] 28 (0, 0)) (by (with_reducible repeat (first | refine blk_drewN ?_ _ | refine blk_drew ?_ | refine blk_alloc ?_ _)); exact BK400.out) hb); have n1_ := Aside0.mk (below_step (by repeat (first | (with_reducible first | exact HB.out | apply below_alloc | apply pw_below_drewN | apply below_drew1 | refine below_set ?_ GE400.out) | exact HB.out)) hb); clear BK400; clear HB; have BK400 := n0_; have HB := n1_; clear n0_ n1_; (try clear hb); (try clear hb2); (try clear hk); (try clear hi); have hcz19_0 : w18.cell? ⟨gb400, 0, none⟩ = some (.string a0_0) := (blk_cell BK400.out 0).trans rfl; have hcz19_1 : w18.cell? ⟨gb400, 1, none⟩ = some (.string a0_1) := (blk_cell BK400.out 1).trans rfl; have hfz19_0 := blk_frozen BK400.out 0; have hfz19_1 := blk_frozen BK400.out 1) | ((with_reducible refine gate_callee (f := 18) rfl ?_); refine goesL_ (some 21) rfl rfl Try.func18 (by kernel_rfl) rfl #[.agg #[.string a0_0, .string a0_1]] rfl (by (try simp only [List.map_toArray, List.map_cons, List.map_nil]); first | done | rfl | (simp only [List.length_drop, List.length_take]; rfl)) ?_; (with_reducible refine (laws_toSequence.calls a0_0 a0_1 t406 t407 _ A9.out).mono ?_); rintro e w20 ⟨rfl, hb⟩; refine ⟨_, rfl, ?_⟩; have n0_ := Aside0.mk (blk_below (g := gb400) (o := .cells #[.string a0_0, .string a0_1] 28 (0, 0)) (by (with_reducible repeat (first | refine blk_drewN ?_ _ | refine blk_drew ?_ | refine blk_alloc ?_ _)); exact BK400.out) hb); have n1_ := Aside0.mk (below_step (by repeat (first | (with_reducible first | exact HB.out | apply below_alloc | apply pw_below_drewN | apply below_drew1 | refine below_set ?_ GE400.out) | exact HB.out)) hb); clear BK400; clear HB; have BK400 := n0_; have HB := n1_; clear n0_ n1_; (try clear hb); (try clear hb2); (try clear hk); (try clear hi)) | ((with_reducible refine gate_callee (f := 38) rfl ?_); refine goesL_ (some 22) rfl rfl Try.func38 (by kernel_rfl) rfl #[.agg #[.string t406, .string t407]] rfl (by (try simp only [List.map_toArray, List.map_cons, List.map_nil]); first | done | rfl | (simp only [List.length_drop, List.length_take]; rfl)) ?_; (with_reducible refine (impl_IsAdmissible.calls k t406 t407 t408 t409 _ A10.out).mono ?_); rintro e w21 ⟨rfl, hb⟩; refine ⟨_, rfl, ?_⟩; have n0_ := Aside0.mk (blk_below (g := gb400) (o := .cells #[.string a0_0, .string a0_1] 28 (0, 0)) (by (with_reducible repeat (first | refine blk_drewN ?_ _ | refine blk_drew ?_ | refine blk_alloc ?_ _)); exact BK400.out) hb); have n1_ := Aside0.mk (below_step (by repeat (first | (with_reducible first | exact HB.out | apply below_alloc | apply pw_below_drewN | apply below_drew1 | refine below_set ?_ GE400.out) | exact HB.out)) hb); clear BK400; clear HB; have BK400 := n0_; have HB := n1_; clear n0_ n1_; (try clear hb); (try clear hb2); (try clear hk); (try clear hi)))
        go_ret
        exact ⟨by first | rfl | (simp [errW_none, errW_some] <;> rfl) | (simp [*, errW_none, errW_some] <;> rfl), by repeat (first | (with_reducible first | exact HB.out | apply below_alloc | apply pw_below_drewN | apply below_drew1 | refine below_set ?_ GE400.out) | exact HB.out)⟩
      · rw [if_neg c12] at H
        have c12b0 : (t409 == t405) = false := beq_eq_false_iff_ne.mpr c12
        have c12b1 : (t409 != t405) = true := bne_iff_ne.mpr c12
        exact absurd H (by simp)

end Go.Proofs.Ytdnookndjbjllaa.Q
end
section
/- What the printed functions on letters and sequences answer: letters, the shortest word, the one way to tell a sequence. -/
namespace Go.Proofs.Ytdnookndjbjllaa.Q
open Go.RowKit Go.Proofs.YtdnookndjbjllaaW.PrintWords Go.Proofs.YtdnookndjbjllaaW.PrintLast Go.Proofs.YtdnookndjbjllaaW.Ext
set_option linter.unusedVariables false
set_option linter.unusedSimpArgs false

theorem wrS {x : Int} (h0 : -9223372036854775808 ≤ x) (h1 : x ≤ 9223372036854775807) : wrap64 x = x := by unfold wrap64; omega
/-- Are all bytes letters. -/
def lettersB (s : ByteArray) : Bool := (bytesOf s).all isLetterN
theorem get_bytesOf (s : ByteArray) (i : Nat) (hi : i < (bytesOf s).length) : (bytesOf s)[i] = bt s (i : Int) := by
  rw [← rd_bytesOf]
  simp [rd, hi]
theorem ev_spec_letters (s : ByteArray) (hs : s.size ≤ 1048576) : Ev (fun k => spec_l01Letters.f k s) (lettersB s) := by
  unfold spec_l01Letters.f lettersB
  have key : ∀ d i : Nat, i + d = s.size → Ev (fun k => spec_l01Letters.l0 k s (i : Int)) (((bytesOf s).drop i).all isLetterN) := by
    intro d
    induction d with
    | zero =>
      intro i h
      refine Ev.step (f := fun _ => some true) (fun k => by rw [spec_l01Letters.l0, if_neg (by omega)]) ?_
      rw [List.drop_of_length_le (by rw [bytesOf_length]; omega)]
      exact Ev.now _
    | succ d ih =>
      intro i h
      have hi : i < (bytesOf s).length := by rw [bytesOf_length]; omega
      refine Ev.step (f := fun k => if isLetterN (bt s (i : Int)) = true then spec_l01Letters.l0 k s ((i + 1 : Nat) : Int) else some false) (fun k => ?_) ?_
      · rw [spec_l01Letters.l0, if_pos (by omega), if_pos (by omega), wrS (x := (i : Int) + 1) (by omega) (by omega)]
        rw [show ((i : Int) + 1) = ((i + 1 : Nat) : Int) by omega]
        unfold isLetterN
        by_cases h1 : bt s (i : Int) = 48
        · simp [h1]
        · by_cases h2 : bt s (i : Int) = 49
          · simp [h2]
          · by_cases h3 : bt s (i : Int) = 42
            · simp [h3]
            · simp [h1, h2, h3]
      · rw [List.drop_eq_getElem_cons hi, List.all_cons, get_bytesOf s i hi]
        cases hl : isLetterN (bt s (i : Int)) with
        | true => simpa using ih (i + 1) (by omega)
        | false => simpa using Ev.now false
  simpa using key s.size 0 (by omega)
theorem impl_letters (s : ByteArray) (hs : s.size ≤ 1048576 + 1048576) : impl_areLetters.f s = some (lettersB s) := by
  unfold impl_areLetters.f lettersB
  rw [if_pos (by omega)]
theorem letters_append (a b : ByteArray) : lettersB (a ++ b) = (lettersB a && lettersB b) := by
  unfold lettersB bytesOf
  rw [← List.all_append, ← List.map_append]
  simp
/-! ### the shortest word -/
def perP (s : ByteArray) (m : Nat) : Prop := s.size % m = 0 ∧ ∀ i : Nat, m ≤ i → i < s.size → bt s (i : Int) = bt s ((i - m : Nat) : Int)
theorem leastS {P : Nat → Prop} : ∀ n, 1 ≤ n → P n → ∃ M, 1 ≤ M ∧ M ≤ n ∧ P M ∧ ∀ j, 1 ≤ j → j < M → ¬ P j := by
  intro n
  induction n using Nat.strongRecOn with
  | _ n ih =>
    intro h1 hn
    by_cases h : ∃ j, 1 ≤ j ∧ j < n ∧ P j
    · obtain ⟨j, a, b, c⟩ := h
      obtain ⟨M, m1, m2, m3, m4⟩ := ih j b a c
      exact ⟨M, m1, by omega, m3, m4⟩
    · exact ⟨n, h1, Nat.le_refl _, hn, fun j a b c => h ⟨j, a, b, c⟩⟩
theorem perP_least (s : ByteArray) (h : 1 ≤ s.size) : ∃ M, 1 ≤ M ∧ M ≤ s.size ∧ perP s M ∧ ∀ j, 1 ≤ j → j < M → ¬ perP s j :=
  leastS s.size h ⟨Nat.mod_self _, fun i h1 h2 => by omega⟩
section
variable {s x : ByteArray} {r : ByteArray × ByteArray}
theorem in_false (hs : s.size ≤ 1048576) {c : Nat} (h1 : 1 ≤ c) (hc : c < s.size) (hr : Ev (fun k => spec_l01Canonical.l0 k x s (s.size : Int) ((c + 1 : Nat) : Int)) r) :
    ∀ d i : Nat, i + d = s.size → Ev (fun k => spec_l01Canonical.l1 k x s (s.size : Int) (c : Int) false (i : Int)) r := by
  intro d
  induction d with
  | zero =>
    intro i h
    refine Ev.step (f := fun k => spec_l01Canonical.l0 k x s (s.size : Int) ((c + 1 : Nat) : Int)) (fun k => ?_) hr
    rw [spec_l01Canonical.l1, if_neg (by omega), if_neg (by decide), wrS (x := (c : Int) + 1) (by omega) (by omega)]
    rw [show (c : Int) + 1 = ((c + 1 : Nat) : Int) by omega]
  | succ d ih =>
    intro i h
    refine Ev.step (f := fun k => spec_l01Canonical.l1 k x s (s.size : Int) (c : Int) false ((i + 1 : Nat) : Int)) (fun k => ?_) (ih (i + 1) (by omega))
    rw [spec_l01Canonical.l1, if_pos (by omega), if_neg (by decide), wrS (x := (i : Int) + 1) (by omega) (by omega)]
    rw [show (i : Int) + 1 = ((i + 1 : Nat) : Int) by omega]
theorem in_step (hs : s.size ≤ 1048576) {c i : Nat} (h1 : 1 ≤ c) (hi : i < s.size) (hc : c ≤ i) (k : Nat) :
    spec_l01Canonical.l1 (k + 1) x s (s.size : Int) (c : Int) true (i : Int) = spec_l01Canonical.l1 k x s (s.size : Int) (c : Int) (bt s (i : Int) == bt s ((i - c : Nat) : Int)) ((i + 1 : Nat) : Int) := by
  rw [spec_l01Canonical.l1, if_pos (by omega), if_pos rfl, if_pos (by omega), if_pos (by omega), wrS (x := (i : Int) - (c : Int)) (by omega) (by omega), if_pos (by omega), if_pos (by omega), wrS (x := (i : Int) + 1) (by omega) (by omega)]
  rw [show (i : Int) + 1 = ((i + 1 : Nat) : Int) by omega, show (i : Int) - (c : Int) = ((i - c : Nat) : Int) by omega]
theorem in_all (hs : s.size ≤ 1048576) {c : Nat} (h1 : 1 ≤ c) (hc : c ≤ s.size) (hp : ∀ i : Nat, c ≤ i → i < s.size → bt s (i : Int) = bt s ((i - c : Nat) : Int)) (hr : Ev (fun k => spec_l01Canonical.j2 k x (s.extract 0 c)) r) :
    ∀ d i : Nat, i + d = s.size → c ≤ i → Ev (fun k => spec_l01Canonical.l1 k x s (s.size : Int) (c : Int) true (i : Int)) r := by
  intro d
  induction d with
  | zero =>
    intro i h _
    refine Ev.step (f := fun k => spec_l01Canonical.j2 k x (s.extract 0 c)) (fun k => ?_) hr
    rw [spec_l01Canonical.l1, if_neg (by omega), if_pos rfl, if_pos (by omega), if_pos (by omega), Int.toNat_natCast]
  | succ d ih =>
    intro i h hci
    refine Ev.step (f := fun k => spec_l01Canonical.l1 k x s (s.size : Int) (c : Int) true ((i + 1 : Nat) : Int)) (fun k => ?_) (ih (i + 1) (by omega) (by omega))
    rw [in_step hs h1 (by omega) hci, hp i hci (by omega)]
    simp
theorem in_some (hs : s.size ≤ 1048576) {c : Nat} (h1 : 1 ≤ c) (hc : c < s.size) (hr : Ev (fun k => spec_l01Canonical.l0 k x s (s.size : Int) ((c + 1 : Nat) : Int)) r) :
    ∀ d i : Nat, i + d = s.size → c ≤ i → (∃ t, i ≤ t ∧ t < s.size ∧ bt s (t : Int) ≠ bt s ((t - c : Nat) : Int)) → Ev (fun k => spec_l01Canonical.l1 k x s (s.size : Int) (c : Int) true (i : Int)) r := by
  intro d
  induction d with
  | zero =>
    intro i h _ ht
    obtain ⟨t, t1, t2, _⟩ := ht
    omega
  | succ d ih =>
    intro i h hci ht
    obtain ⟨t, t1, t2, t3⟩ := ht
    by_cases e : bt s (i : Int) = bt s ((i - c : Nat) : Int)
    · refine Ev.step (f := fun k => spec_l01Canonical.l1 k x s (s.size : Int) (c : Int) true ((i + 1 : Nat) : Int)) (fun k => ?_) (ih (i + 1) (by omega) (by omega) ⟨t, ?_, t2, t3⟩)
      · rw [in_step hs h1 (by omega) hci, e]
        simp
      · rcases Nat.lt_or_ge i t with h' | h'
        · exact h'
        · have : t = i := by omega
          subst this
          exact absurd e t3
    · refine Ev.step (f := fun k => spec_l01Canonical.l1 k x s (s.size : Int) (c : Int) false ((i + 1 : Nat) : Int)) (fun k => ?_) (in_false hs h1 hc hr d (i + 1) (by omega))
      rw [in_step hs h1 (by omega) hci, beq_eq_false_iff_ne.2 e]
theorem not_perP {c : Nat} (h : ¬ perP s c) (hd : s.size % c = 0) : ∃ t, c ≤ t ∧ t < s.size ∧ bt s (t : Int) ≠ bt s ((t - c : Nat) : Int) := by
  by_cases g : ∃ t, c ≤ t ∧ t < s.size ∧ bt s (t : Int) ≠ bt s ((t - c : Nat) : Int)
  · exact g
  · exfalso
    refine h ⟨hd, fun i h1 h2 => ?_⟩
    by_cases e : bt s (i : Int) = bt s ((i - c : Nat) : Int)
    · exact e
    · exact absurd ⟨i, h1, h2, e⟩ g
theorem tmod_nat (a b : Nat) : Int.tmod (a : Int) (b : Int) = ((a % b : Nat) : Int) := by
  rw [Int.tmod_eq_emod_of_nonneg (by omega)]
  omega
theorem out_root (hs : s.size ≤ 1048576) {m : Nat} (m1 : 1 ≤ m) (m2 : m ≤ s.size) (hp : perP s m) (hl : ∀ j, 1 ≤ j → j < m → ¬ perP s j) (hr : Ev (fun k => spec_l01Canonical.j2 k x (s.extract 0 m)) r) :
    ∀ d c : Nat, c + d = m → 1 ≤ c → Ev (fun k => spec_l01Canonical.l0 k x s (s.size : Int) (c : Int)) r := by
  intro d
  induction d with
  | zero =>
    intro c h h1
    obtain rfl : c = m := by omega
    refine Ev.step (f := fun k => spec_l01Canonical.l1 k x s (s.size : Int) (c : Int) true (c : Int)) (fun k => ?_) (in_all hs h1 m2 hp.2 hr (s.size - c) c (by omega) (Nat.le_refl _))
    rw [spec_l01Canonical.l0, if_pos (by omega), if_neg (by omega), tmod_nat, hp.1, if_pos (by omega)]
  | succ d ih =>
    intro c h h1
    have next := ih (c + 1) (by omega) (by omega)
    by_cases hd : s.size % c = 0
    · refine Ev.step (f := fun k => spec_l01Canonical.l1 k x s (s.size : Int) (c : Int) true (c : Int)) (fun k => ?_) (in_some hs h1 (by omega) next (s.size - c) c (by omega) (Nat.le_refl _) (not_perP (hl c h1 (by omega)) hd))
      rw [spec_l01Canonical.l0, if_pos (by omega), if_neg (by omega), tmod_nat, hd, if_pos (by omega)]
    · refine Ev.step (f := fun k => spec_l01Canonical.l0 k x s (s.size : Int) ((c + 1 : Nat) : Int)) (fun k => ?_) next
      rw [spec_l01Canonical.l0, if_pos (by omega), if_neg (by omega), tmod_nat, if_neg (by omega), wrS (x := (c : Int) + 1) (by omega) (by omega)]
      rw [show (c : Int) + 1 = ((c + 1 : Nat) : Int) by omega]
end
/-! ### the same, as the program asks it: by repeating -/
theorem rep_get (l : List UInt8) (hl : 0 < l.length) : ∀ c i, i < c * l.length → (Lib.repeatL l c)[i]? = l[i % l.length]? := by
  intro c
  induction c with
  | zero => intro i h; omega
  | succ c ih =>
    intro i h
    show (l ++ Lib.repeatL l c)[i]? = _
    rw [Nat.succ_mul] at h
    by_cases hi : i < l.length
    · rw [List.getElem?_append_left hi, Nat.mod_eq_of_lt hi]
    · rw [List.getElem?_append_right (by omega), ih (i - l.length) (by omega), ← Nat.mod_eq_sub_mod (by omega)]
theorem bt_eq (s t : ByteArray) (i j : Nat) (hi : i < s.size) (hj : j < t.size) : bt s (i : Int) = bt t (j : Int) ↔ s.data.toList[i]? = t.data.toList[j]? := by
  have hi' : i < s.data.toList.length := by rw [← Lib.size_eq]; exact hi
  have hj' : j < t.data.toList.length := by rw [← Lib.size_eq]; exact hj
  rw [List.getElem?_eq_getElem hi', List.getElem?_eq_getElem hj']
  unfold bt
  rw [Int.toNat_natCast, Int.toNat_natCast, dif_pos hi, dif_pos hj]
  have e1 : s[i] = s.data.toList[i] := by simp [ByteArray.getElem_eq_getElem_data]
  have e2 : t[j] = t.data.toList[j] := by simp [ByteArray.getElem_eq_getElem_data]
  rw [e1, e2]
  constructor
  · intro h
    have : s.data.toList[i].toNat = t.data.toList[j].toNat := by omega
    rw [UInt8.toNat_inj.1 this]
  · intro h
    rw [Option.some.inj h]
theorem per_mod {s : ByteArray} {c : Nat} (h1 : 1 ≤ c) (hc : c ≤ s.size) : (∀ i : Nat, c ≤ i → i < s.size → bt s (i : Int) = bt s ((i - c : Nat) : Int)) ↔ (∀ i : Nat, i < s.size → bt s (i : Int) = bt s ((i % c : Nat) : Int)) := by
  constructor
  · intro h i
    induction i using Nat.strongRecOn with
    | _ i ih =>
      intro hi
      by_cases hci : c ≤ i
      · rw [h i hci hi, ih (i - c) (by omega) (by omega), ← Nat.mod_eq_sub_mod hci]
      · rw [Nat.mod_eq_of_lt (by omega)]
  · intro h i hci hi
    rw [h i hi, h (i - c) (by omega), ← Nat.mod_eq_sub_mod hci]
theorem rep_iff {s : ByteArray} {c : Nat} (h1 : 1 ≤ c) (hc : c ≤ s.size) (hd : s.size % c = 0) :
    (Go.Proofs.Ytdnookndjbjllaa.Rep.val (s.extract 0 c) ((s.size / c : Nat) : Int)).toList = s.toList ↔ ∀ i : Nat, c ≤ i → i < s.size → bt s (i : Int) = bt s ((i - c : Nat) : Int) := by
  rw [per_mod h1 hc, Lib.toList_data, Lib.toList_data]
  unfold Go.Proofs.Ytdnookndjbjllaa.Rep.val
  rw [Int.toNat_natCast, Lib.extract_data]
  simp only [List.drop_zero, Nat.sub_zero]
  have hL : s.data.toList.length = s.size := (Lib.size_eq s).symm
  have hl : (s.data.toList.take c).length = c := by rw [List.length_take, hL]; omega
  have hn : s.size / c * c = s.size := Nat.div_mul_cancel (Nat.dvd_of_mod_eq_zero hd)
  have hlen : (Lib.repeatL (s.data.toList.take c) (s.size / c)).length = s.size := by rw [Lib.repeatL_length, hl, hn]
  have get : ∀ i, i < s.size → (Lib.repeatL (s.data.toList.take c) (s.size / c))[i]? = s.data.toList[i % c]? := by
    intro i hi
    rw [rep_get _ (by omega) _ _ (by rw [hl, hn]; exact hi), hl, List.getElem?_take, if_pos (Nat.mod_lt _ (by omega))]
  constructor
  · intro h i hi
    have hm : i % c < s.size := Nat.lt_of_lt_of_le (Nat.mod_lt _ (by omega)) hc
    rw [bt_eq s s i (i % c) hi hm, ← get i hi, h]
  · intro h
    refine List.ext_getElem? fun i => ?_
    by_cases hi : i < s.size
    · have hm : i % c < s.size := Nat.lt_of_lt_of_le (Nat.mod_lt _ (by omega)) hc
      have := (bt_eq s s i (i % c) hi hm).1 (h i hi)
      rw [this]
      exact get i hi
    · rw [List.getElem?_eq_none (by show _ ≤ _; simp only [hlen]; omega), List.getElem?_eq_none (by omega)]
theorem ev_impl_root {s : ByteArray} (hs : s.size ≤ 8192) {m : Nat} (m1 : 1 ≤ m) (m2 : m ≤ s.size) (hp : perP s m) (hl : ∀ j, 1 ≤ j → j < m → ¬ perP s j) :
    Ev (fun k => impl_root.f k s) (s.extract 0 m) := by
  unfold impl_root.f
  have key : ∀ d c : Nat, c + d = m → 1 ≤ c → Ev (fun k => impl_root.l0 k s (c : Int)) (s.extract 0 m) := by
    intro d
    have ev : ∀ c : Nat, 1 ≤ c → c ≤ s.size → s.size % c = 0 → ∀ k, impl_root.l0 (k + 1) s (c : Int) = if (Go.Proofs.Ytdnookndjbjllaa.Rep.val (s.extract 0 c) ((s.size / c : Nat) : Int)).toList = s.toList then some (s.extract 0 c) else impl_root.l0 k s ((c + 1 : Nat) : Int) := by
      intro c h1 hc hd k
      have hq : s.size / c * c = s.size := Nat.div_mul_cancel (Nat.dvd_of_mod_eq_zero hd)
      have hq2 : s.size / c ≤ s.size := Nat.div_le_self _ _
      have hx : (s.extract 0 c).size = c := by simp; omega
      rw [impl_root.l0, if_neg (by omega), if_pos (by omega), if_pos (by omega), if_pos (by omega)]
      unfold strings_Repeat.f
      rw [show ((s.size : Nat) : Int) / (c : Int) = ((s.size / c : Nat) : Int) from (Int.natCast_ediv _ _).symm]
      generalize s.size / c = q at *
      rw [wrS (x := (q : Int)) (by omega) (by omega), Int.toNat_natCast, Int.toNat_natCast, if_pos ⟨by omega, by omega, by rw [hx, Nat.mul_comm, hq]; omega⟩]
      rw [wrS (x := (c : Int) + 1) (by omega) (by omega), show (c : Int) + 1 = ((c + 1 : Nat) : Int) by omega]
      rfl
    induction d with
    | zero =>
      intro c h h1
      obtain rfl : c = m := by omega
      refine Ev.step (f := fun k => some (s.extract 0 c)) (fun k => ?_) (Ev.now _)
      rw [ev c h1 m2 hp.1, if_pos ((rep_iff h1 m2 hp.1).2 hp.2)]
    | succ d ih =>
      intro c h h1
      have next := ih (c + 1) (by omega) (by omega)
      refine Ev.step (f := fun k => impl_root.l0 k s ((c + 1 : Nat) : Int)) (fun k => ?_) next
      by_cases hd : s.size % c = 0
      · rw [ev c h1 (by omega) hd, if_neg (fun e => hl c h1 (by omega) ⟨hd, (rep_iff h1 (by omega) hd).1 e⟩)]
      · rw [impl_root.l0, if_neg (by omega), if_neg (by omega), wrS (x := (c : Int) + 1) (by omega) (by omega)]
        rw [show (c : Int) + 1 = ((c + 1 : Nat) : Int) by omega]
  exact key (m - 1) 1 (by omega) (by omega)
/-! ### letters of Pre taken into Per -/
def rotB : Nat → ByteArray → ByteArray → ByteArray × ByteArray
  | 0, x, y => (x, y)
  | n + 1, x, y => if bt x (n : Int) = bt y ((y.size - 1 : Nat) : Int) then rotB n (x.extract 0 n) (y.extract (y.size - 1) y.size ++ y.extract 0 (y.size - 1)) else (x, y)
theorem rot_size (y : ByteArray) (h : 1 ≤ y.size) : (y.extract (y.size - 1) y.size ++ y.extract 0 (y.size - 1)).size = y.size := by
  simp <;> omega
theorem rotB_size : ∀ n x y, x.size = n → 1 ≤ y.size → (rotB n x y).1.size ≤ n ∧ (rotB n x y).2.size = y.size := by
  intro n
  induction n with
  | zero => intro x y hx hy; simp [rotB, hx]
  | succ n ih =>
    intro x y hx hy
    unfold rotB
    split
    · have := ih (x.extract 0 n) (y.extract (y.size - 1) y.size ++ y.extract 0 (y.size - 1)) (by simp; omega) (by rw [rot_size y hy]; exact hy)
      rw [rot_size y hy] at this
      omega
    · simp [hx]
theorem nil_iff (x : ByteArray) : x.toList = ([] : List UInt8) ↔ x.size = 0 := by
  rw [Lib.toList_data, Lib.size_eq]
  exact List.length_eq_zero_iff.symm
theorem ev_spec_rot : ∀ n x y, x.size = n → n ≤ 64 → 1 ≤ y.size → y.size ≤ 64 → Ev (fun k => spec_l01Canonical.l2 k x y) (rotB n x y) := by
  intro n
  induction n with
  | zero =>
    intro x y hx _ _ _
    exact Ev.step (f := fun _ => some (x, y)) (fun k => by rw [spec_l01Canonical.l2, if_neg (by omega)]) (Ev.now _)
  | succ n ih =>
    intro x y hx hn hy hy64
    refine Ev.step (f := fun k => if bt x (n : Int) = bt y ((y.size - 1 : Nat) : Int) then spec_l01Canonical.l2 k (x.extract 0 n) (y.extract (y.size - 1) y.size ++ y.extract 0 (y.size - 1)) else some (x, y)) (fun k => ?_) ?_
    · have e := rot_size y hy
      rw [ByteArray.size_append] at e
      rw [spec_l01Canonical.l2, if_pos (by omega), wrS (x := (x.size : Int) - 1) (by omega) (by omega), wrS (x := (y.size : Int) - 1) (by omega) (by omega), show (x.size : Int) - 1 = (n : Int) by omega, show (y.size : Int) - 1 = ((y.size - 1 : Nat) : Int) by omega]
      rw [if_pos (by omega), if_pos (by omega), if_pos (by omega), if_pos (by omega), if_pos (show ((y.size - 1 : Nat) : Int) ≤ (y.size : Int) by omega), Int.toNat_natCast, Int.toNat_natCast, if_pos (show (y.extract (y.size - 1) y.size).size + (y.extract 0 (y.size - 1)).size ≤ 9223372036854775807 by omega), if_pos (show (n : Int) ≤ (x.size : Int) by omega)]
    · unfold rotB
      by_cases h : bt x (n : Int) = bt y ((y.size - 1 : Nat) : Int)
      · simp only [if_pos h]
        exact ih _ _ (by simp; omega) (by omega) (by rw [rot_size y hy]; exact hy) (by rw [rot_size y hy]; exact hy64)
      · simp only [if_neg h]
        exact Ev.now _
theorem ev_impl_rot : ∀ n x y, x.size = n → n ≤ 64 → 1 ≤ y.size → y.size ≤ 64 → Ev (fun k => impl_sequence.l0 k x y) (rotB n x y) := by
  intro n
  induction n with
  | zero =>
    intro x y hx _ _ _
    exact Ev.step (f := fun _ => some (x, y)) (fun k => by rw [impl_sequence.l0, if_pos ((nil_iff x).2 hx)]) (Ev.now _)
  | succ n ih =>
    intro x y hx hn hy hy64
    refine Ev.step (f := fun k => if bt x (n : Int) = bt y ((y.size - 1 : Nat) : Int) then impl_sequence.l0 k (x.extract 0 n) (y.extract (y.size - 1) y.size ++ y.extract 0 (y.size - 1)) else some (x, y)) (fun k => ?_) ?_
    · have e := rot_size y hy
      rw [ByteArray.size_append] at e
      rw [impl_sequence.l0, if_neg (fun z => by have := (nil_iff x).1 z; omega), wrS (x := (x.size : Int) - 1) (by omega) (by omega), wrS (x := (y.size : Int) - 1) (by omega) (by omega), show (x.size : Int) - 1 = (n : Int) by omega, show (y.size : Int) - 1 = ((y.size - 1 : Nat) : Int) by omega]
      rw [if_pos (by omega), if_pos (by omega), if_pos (by omega), if_pos (by omega), if_pos (show (n : Int) ≤ (x.size : Int) by omega), if_pos (show ((y.size - 1 : Nat) : Int) ≤ (y.size : Int) by omega), Int.toNat_natCast, Int.toNat_natCast, if_pos (show (y.extract (y.size - 1) y.size).size + (y.extract 0 (y.size - 1)).size ≤ 9223372036854775807 by omega)]
    · unfold rotB
      by_cases h : bt x (n : Int) = bt y ((y.size - 1 : Nat) : Int)
      · simp only [if_pos h]
        exact ih _ _ (by simp; omega) (by omega) (by rw [rot_size y hy]; exact hy) (by rw [rot_size y hy]; exact hy64)
      · simp only [if_neg h]
        exact Ev.now _
/-- Both tell a sequence in the same way. -/
theorem both_canon (x y : ByteArray) (hy : 1 ≤ y.size) (h64 : x.size + y.size ≤ 64) :
    ∃ c : ByteArray × ByteArray, Ev (fun k => spec_l01Canonical.f k x y) c ∧ Ev (fun k => impl_sequence.f k x y) c ∧ c.1.size ≤ x.size ∧ 1 ≤ c.2.size ∧ c.2.size ≤ y.size := by
  obtain ⟨m, m1, m2, hp, hl⟩ := perP_least y hy
  have hz : (y.extract 0 m).size = m := by simp; omega
  have sz := rotB_size x.size x (y.extract 0 m) rfl (by omega)
  refine ⟨rotB x.size x (y.extract 0 m), ?_, ?_, sz.1, by omega, by omega⟩
  · unfold spec_l01Canonical.f
    have hr : Ev (fun k => spec_l01Canonical.j2 k x (y.extract 0 m)) (rotB x.size x (y.extract 0 m)) :=
      Ev.step (f := fun k => spec_l01Canonical.l2 k x (y.extract 0 m)) (fun k => by rw [spec_l01Canonical.j2]) (ev_spec_rot x.size x (y.extract 0 m) rfl (by omega) (by omega) (by omega))
    exact out_root (by omega) m1 m2 hp hl hr (m - 1) 1 (by omega) (by omega)
  · unfold impl_sequence.f
    refine Ev.bind (ev_impl_root (by omega) m1 m2 hp hl) ?_
    exact ev_impl_rot x.size x (y.extract 0 m) rfl (by omega) (by omega) (by omega)
end Go.Proofs.Ytdnookndjbjllaa.Q
end
section
-- By wip/hyb/hyb.py of this session, over the kit's print.py
namespace Go.Proofs.Ytdnookndjbjllaa.Q
open Go.Proofs.YtdnookndjbjllaaW.Ext
open Go.RowKit Go.Proofs.YtdnookndjbjllaaW.PrintWords Go.Proofs.YtdnookndjbjllaaW.PrintLast Go.Proofs.YtdnookndjbjllaaW.PrintMore
attribute [local go_sem] max2_int min2_int max_two min_two max_three min_three max_four min_four   -- for this text's walks alone
set_option linter.unusedVariables false
set_option linter.unusedSimpArgs false

/-! ### areAll at Sequence, and what it calls -/
set_option maxHeartbeats 1000000 in
theorem indexFunc_Sequence.calls (g : Nat) (lb : Array Value) (eg : ∀ args w, (callFunc g args).run Try.prog w = .ok (.enter g args) w) (p : S23 → Option Bool) (A0 : Option Addr) (c0 : Nat) (l0 : List S23) (r : Int) (w : World)
    (hr0 : Kd.C k23 w A0 l0.length l0) (hc0 : l0.length ≤ c0)
    (hp : ∀ W x b, Below w.heap.size w W → p x = some b → Calls Try.prog g (#[.agg #[.string x.f0, .string x.f1]] ++ lb) W fun e w' => e = .returned (.bool b) ∧ Below W.heap.size W w')
    (h : idxGo p 0 l0 = some r) :
    Calls Try.prog 83 #[.slice A0 l0.length c0, .func (.func g) #[] lb] w fun e w' => e = .returned (.int .i64 r) ∧ Below w.heap.size w w' := by
  have hm := Kd.C_max hr0
  have HR := Aside0.mk hr0
  have H0 := Aside0.mk h
  have HP := Aside0.mk hp
  clear hr0 h hp
  go_enter Try.func83, Try.ntmps83
  go_wp2
  go_loopg [8] l0.length (fun gg i wr => ∃ k : Nat, k ≤ l0.length ∧ l0.length - k ≤ gg ∧ i = .int .i64 k ∧ Aside0 (idxGo p k (l0.drop k) = some r) ∧ Aside0 (Below w.heap.size w wr))
  case atStart => exact ⟨0, Nat.zero_le _, by omega, rfl, Aside0.mk (by simpa using H0.out), Aside0.mk (Below.refl _ _)⟩
  case round =>
    obtain ⟨k, hk, hg, rfl, HJ, HB⟩ := hrel
    clear H0
    by_cases hlt : k < l0.length
    · have hlti : (k : Int) < (l0.length : Int) := by omega
      obtain ⟨b, hb, hstep⟩ := idxGo_drop p l0 k k r hlt HJ.out
      obtain ⟨ad, e, e0, e1⟩ := at_T23 (Kd.C_below HR.out HB.out) (k : Int) (by omega) hlti
      have hx : rd_T23 l0 (k : Int) = l0[k] := by simp [rd_T23, hlt]
      rw [hx] at e0 e1
      simp only [Int.toNat_natCast] at e0 e1
      generalize l0[k] = x at hb e0 e1
      have hcall := HP.out wr x b HB.out hb
      subst e
      rcases hstep with ⟨rfl, rfl⟩ | ⟨rfl, hj⟩
      · have HC := Aside0.mk hcall
        have HB1 := HB.out
        clear hcall hb hx HP HJ
        go_wp2_with (go_at_fn g; refine HC.out.mono ?_; rintro e w' ⟨rfl, hb'⟩)
        go_ret
        exact ⟨rfl, HB1.trans (hb'.mono HB1.size)⟩
      · have HC := Aside0.mk hcall
        have HJ2 := Aside0.mk hj
        clear hcall hb hx hj
        go_wp2_with (go_at_fn g; refine HC.out.mono ?_; rintro e w' ⟨rfl, hb'⟩)
        go_roundg (l0.length - (k + 1))
        case measure => omega
        case rel => exact ⟨k + 1, by omega, by omega, by go_num, ⟨by simpa using HJ2.out⟩, ⟨HB.out.trans (hb'.mono HB.out.size)⟩⟩
    · have hlti : ¬ (k : Int) < (l0.length : Int) := by omega
      have hr : r = -1 := idxGo_end p l0 k k r (by omega) HJ.out
      have HR1 := Aside0.mk hr
      have HB1 := HB.out
      clear hr HP HJ
      go_wp2
      go_ret
      exact ⟨by rw [HR1.out]; rfl, HB1⟩
set_option maxHeartbeats 1000000 in
theorem containsFunc_Sequence.calls (g : Nat) (lb : Array Value) (eg : ∀ args w, (callFunc g args).run Try.prog w = .ok (.enter g args) w) (p : S23 → Option Bool) (A0 : Option Addr) (c0 : Nat) (l0 : List S23) (r : Int) (w : World)
    (hr0 : Kd.C k23 w A0 l0.length l0) (hc0 : l0.length ≤ c0)
    (hp : ∀ W x b, Below w.heap.size w W → p x = some b → Calls Try.prog g (#[.agg #[.string x.f0, .string x.f1]] ++ lb) W fun e w' => e = .returned (.bool b) ∧ Below W.heap.size W w')
    (h : idxGo p 0 l0 = some r) :
    Calls Try.prog 73 #[.slice A0 l0.length c0, .func (.func g) #[] lb] w fun e w' => e = .returned (.bool (decide (0 ≤ r))) ∧ Below w.heap.size w w' := by
  have hcon := indexFunc_Sequence.calls g lb eg p A0 c0 l0 r w hr0 hc0 hp h
  have HC := Aside0.mk hcon
  clear hcon hp h hr0
  go_enter Try.func73, Try.ntmps73
  go_wp2_with (go_at_call 83; refine HC.out.mono ?_; rintro e w' ⟨rfl, hb'⟩)
  go_ret
  exact ⟨rfl, hb'⟩
set_option maxHeartbeats 1000000 in
theorem notIs_Sequence.calls (g : Nat) (eg : ∀ args w, (callFunc g args).run Try.prog w = .ok (.enter g args) w) (B : Nat) (w : World) (hcell : w.cell? ⟨B, 0, none⟩ = some (.func (.func g) #[] #[])) (hB : B < w.heap.size) (x : S23) (b : Bool)
    (hp : ∀ W, Below w.heap.size w W → Calls Try.prog g #[.agg #[.string x.f0, .string x.f1]] W fun e w' => e = .returned (.bool b) ∧ Below W.heap.size W w') :
    Calls Try.prog 74 #[.agg #[.string x.f0, .string x.f1], .pointer (some ⟨B, 0, none⟩)] w fun e w' => e = .returned (.bool (!b)) ∧ Below w.heap.size w w' := by
  have HP := Aside0.mk hp
  have hu := Try.underlying23
  clear hp
  go_enter Try.func74, Try.ntmps74
  go_wp2_with (go_at_fn g; refine (HP.out _ ((Below.refl _ _).alloc (Nat.le_refl _) _)).mono ?_; rintro e w' ⟨rfl, hb'⟩)
  go_ret
  exact ⟨rfl, ((Below.refl _ w).alloc (Nat.le_refl _) _).trans (hb'.mono (by simp))⟩
set_option maxHeartbeats 1000000 in
theorem areAll_Sequence.calls (g : Nat) (eg : ∀ args w, (callFunc g args).run Try.prog w = .ok (.enter g args) w) (p : S23 → Option Bool) (A0 : Option Addr) (c0 : Nat) (l0 : List S23) (r : Bool) (w : World)
    (hr0 : Kd.C k23 w A0 l0.length l0) (hc0 : l0.length ≤ c0)
    (hp : ∀ W x b, Below w.heap.size w W → p x = some b → Calls Try.prog g #[.agg #[.string x.f0, .string x.f1]] W fun e w' => e = .returned (.bool b) ∧ Below W.heap.size W w')
    (h : allM p l0 = some r) :
    Calls Try.prog 66 #[.slice A0 l0.length c0, .func (.func g) #[] #[]] w fun e w' => e = .returned (.bool r) ∧ Below w.heap.size w w' := by
  obtain ⟨i, h1, h2⟩ := allM_idx p l0 0 r (by omega) h
  have hw1 : Below w.heap.size w (w.alloc (.cells #[.func (.func g) #[] #[]] 30)) := (Below.refl _ w).alloc (Nat.le_refl _) _
  have hcon := containsFunc_Sequence.calls 74 #[.pointer (some ⟨w.heap.size, 0, none⟩)] (enters_of Try.func74 (by kernel_rfl) rfl)
    (fun x => (p x).map (fun b => !b)) A0 c0 l0 i (w.alloc (.cells #[.func (.func g) #[] #[]] 30)) (Kd.C_below hr0 hw1) hc0
    (fun W x b hW hx => by
      obtain ⟨q, hq, rfl⟩ := Option.map_eq_some_iff.1 hx
      have hcell : W.cell? ⟨w.heap.size, 0, none⟩ = some (.func (.func g) #[] #[]) := (hW.cell (p := ⟨w.heap.size, 0, none⟩) (by simp)).trans (by simp)
      exact notIs_Sequence.calls g eg w.heap.size W hcell (by have := hW.size; simp at this; omega) x q (fun W' hW' => hp W' x q (hw1.trans ((hW.mono (by simp)).trans (hW'.mono (by have := hW.size; simp at this; omega)))) hq)) h1
  have HC := Aside0.mk hcon
  have H2 := Aside0.mk h2
  clear hcon hp h hr0 h1 h2
  go_enter Try.func66, Try.ntmps66
  go_wp2_with (go_at_call 73; refine HC.out.mono ?_; rintro e w' ⟨rfl, hb'⟩)
  go_ret
  exact ⟨by rw [H2.out]; simp, hw1.trans (hb'.mono (by simp))⟩

/-! ### impl_sequencesCode: function 47 -/
def impl_sequencesCode.f (k : Nat) (a0 : Bool) (l1 : List S23) : Option Int := (allM (fun x => impl_IsSequence.f k x.f0 x.f1) l1).bind fun b => some (if b = true then (if a0 = true then 0 else 2) else 1)
theorem impl_sequencesCode.mono : ∀ a0 a1 k, LeO (impl_sequencesCode.f k a0 a1) (impl_sequencesCode.f (k + 1) a0 a1) := by
  intro a l k r h
  unfold impl_sequencesCode.f at h ⊢
  cases hb : allM (fun x : S23 => impl_IsSequence.f k x.f0 x.f1) l with
  | none => rw [hb] at h; simp at h
  | some b =>
    rw [hb] at h
    rw [allM_mono (q := fun x : S23 => impl_IsSequence.f (k + 1) x.f0 x.f1) (fun x => impl_IsSequence.mono _ _ k) l b hb]
    exact h
set_option maxHeartbeats 1000000 in
theorem impl_sequencesCode.calls (k : Nat) (a0 : Bool) (A1 : Option Addr) (c1 : Nat) (l1 : List S23) (r : Int) (w : World) (hr1 : Kd.C k23 w A1 l1.length l1) (hc1 : l1.length ≤ c1) (h : impl_sequencesCode.f k a0 l1 = some r) :
    Calls Try.prog 47 #[.bool a0, .slice A1 l1.length c1] w fun e w' => e = .returned (.int .i64 r) ∧ Below w.heap.size w w' := by
  unfold impl_sequencesCode.f at h
  obtain ⟨b, hb, hr⟩ := Option.bind_eq_some_iff.1 h
  have hcon := areAll_Sequence.calls 19 (enters_of Try.func19 (by kernel_rfl) rfl) (fun x : S23 => impl_IsSequence.f k x.f0 x.f1) A1 c1 l1 b w hr1 hc1
    (fun W x q _ hx => (impl_IsSequence.calls k _ _ q W hx).mono fun e w' ⟨he, hd⟩ => ⟨he, by first | exact hd | exact hd.below⟩) hb
  have HR := Aside0.mk hr
  clear h hr hb hr1
  cases b <;> cases a0 <;>
  · go_enter Try.func47, Try.ntmps47
    go_wp2_with (go_at_call 66; refine hcon.mono ?_; rintro e w' ⟨rfl, hb'⟩)
    go_ret
    have hr := HR.out
    simp at hr
    subst hr
    exact ⟨rfl, hb'⟩

end Go.Proofs.Ytdnookndjbjllaa.Q
end
section
-- By wip/hyb/hyb.py of this session, over the kit's print.py
namespace Go.Proofs.Ytdnookndjbjllaa.Q
open Go.Proofs.YtdnookndjbjllaaW.Ext
open Go.RowKit Go.Proofs.YtdnookndjbjllaaW.PrintWords Go.Proofs.YtdnookndjbjllaaW.PrintLast Go.Proofs.YtdnookndjbjllaaW.PrintMore
attribute [local go_sem] max2_int min2_int max_two min_two max_three min_three max_four min_four   -- for this text's walks alone
set_option linter.unusedVariables false
set_option linter.unusedSimpArgs false

/-! ### spec_l01In: function 45 -/
def spec_l01In.f (a0 : Int) (a1 : Int) (a2 : Int) : Option (Bool) := if a0 ≥ a1 then (some (decide (a0 ≤ a2))) else (some false)
set_option maxHeartbeats 8000000 in
set_option maxRecDepth 100000 in
theorem spec_l01In.calls (a0 : Int) (a1 : Int) (a2 : Int) (r : Bool) (w : World) (h : spec_l01In.f a0 a1 a2 = some r) :
    Calls Try.prog 45 #[.int .i64 a0, .int .i64 a1, .int .i64 a2] w fun e w' => e = .returned (.bool r) ∧ Drawn0 w w' := by
  have H : (if a0 ≥ a1 then (some (decide (a0 ≤ a2))) else (some false)) = some r := h
  clear h
  by_cases c4 : a0 ≥ a1
  · rw [if_pos c4] at H
    have c4b0 : decide (a1 ≤ a0) = true := decide_eq_true c4
    clear c4
    obtain rfl := Option.some.inj H
    go_enter Try.func45, Try.ntmps45
    go_wp2
    go_ret
    exact ⟨by first | rfl | (simp; done) | (simp [*]; done), by repeat (first | exact Drawn0.refl _ | apply Drawn0.step)⟩
  · rw [if_neg c4] at H
    have c4b0 : decide (a1 ≤ a0) = false := decide_eq_false c4
    clear c4
    obtain rfl := Option.some.inj H
    go_enter Try.func45, Try.ntmps45
    go_wp2
    go_ret
    exact ⟨by first | rfl | (simp; done) | (simp [*]; done), by repeat (first | exact Drawn0.refl _ | apply Drawn0.step)⟩

/-! ### impl_within: function 48 -/
def impl_within.f (a0 : Int) (a1 : Int) (a2 : Int) : Option (Bool) := if a1 ≤ a0 then (some (decide (a0 ≤ a2))) else (some false)
set_option maxHeartbeats 8000000 in
set_option maxRecDepth 100000 in
theorem impl_within.calls (a0 : Int) (a1 : Int) (a2 : Int) (r : Bool) (w : World) (h : impl_within.f a0 a1 a2 = some r) :
    Calls Try.prog 48 #[.int .i64 a0, .int .i64 a1, .int .i64 a2] w fun e w' => e = .returned (.bool r) ∧ Drawn0 w w' := by
  have H : (if a1 ≤ a0 then (some (decide (a0 ≤ a2))) else (some false)) = some r := h
  clear h
  by_cases c4 : a1 ≤ a0
  · rw [if_pos c4] at H
    have c4b0 : decide (a1 ≤ a0) = true := decide_eq_true c4
    clear c4
    obtain rfl := Option.some.inj H
    go_enter Try.func48, Try.ntmps48
    go_wp2
    go_ret
    exact ⟨by first | rfl | (simp; done) | (simp [*]; done), by repeat (first | exact Drawn0.refl _ | apply Drawn0.step)⟩
  · rw [if_neg c4] at H
    have c4b0 : decide (a1 ≤ a0) = false := decide_eq_false c4
    clear c4
    obtain rfl := Option.some.inj H
    go_enter Try.func48, Try.ntmps48
    go_wp2
    go_ret
    exact ⟨by first | rfl | (simp; done) | (simp [*]; done), by repeat (first | exact Drawn0.refl _ | apply Drawn0.step)⟩

end Go.Proofs.Ytdnookndjbjllaa.Q
end
section
/- Whether two words are a sequence; a letter of a sequence; rho: both ways to ask answer alike. -/
namespace Go.Proofs.Ytdnookndjbjllaa.Q
open Go.RowKit Go.Proofs.YtdnookndjbjllaaW.PrintWords Go.Proofs.YtdnookndjbjllaaW.PrintLast Go.Proofs.YtdnookndjbjllaaW.Ext
set_option linter.unusedVariables false
set_option linter.unusedSimpArgs false

theorem sz_some (a b : ByteArray) (n : Int) (h0 : 0 ≤ n) (h1 : n ≤ 1048576) (ha : a.size ≤ maxLen) (hb : b.size ≤ maxLen) :
    ∃ z, laws_szSequence.f a b n = some z ∧ (z < 0 ∨ (0 ≤ z ∧ z ≤ n ∧ (a.size : Int) + (b.size : Int) ≤ n)) := by
  unfold maxLen at ha hb
  unfold laws_szSequence.f
  rw [wrS (x := n - (a.size : Int)) (by omega) (by omega)]
  by_cases c : n - (a.size : Int) < 0
  · exact ⟨-1, by rw [if_pos c], by omega⟩
  · rw [if_neg c, wrS (x := n - (a.size : Int) - (b.size : Int)) (by omega) (by omega)]
    by_cases d : n - (a.size : Int) - (b.size : Int) < 0
    · exact ⟨-1, by rw [if_pos d], by omega⟩
    · exact ⟨_, by rw [if_neg d], by omega⟩
theorem given_val (a b : ByteArray) (h : a.size + b.size ≤ 4194304) : impl_areGiven.f a b = some (decide (1 ≤ b.size ∧ a.size + b.size ≤ 64)) := by
  unfold impl_areGiven.f
  by_cases hb : b.size = 0
  · rw [if_pos ((nil_iff b).2 hb)]
    simp [hb]
  · rw [if_neg (fun z => hb ((nil_iff b).1 z)), wrS (by omega) (by omega)]
    congr 1
    rw [decide_eq_decide]
    omega
theorem both_seq (a b : ByteArray) (h : a.size + b.size ≤ 1048576) : ∃ r : Bool, Ev (fun k => spec_l01Seq.f k a b) r ∧ Ev (fun k => impl_IsSequence.f k a b) r ∧
    (r = true → lettersB a = true ∧ lettersB b = true ∧ 1 ≤ b.size ∧ a.size + b.size ≤ 64) := by
  have la := ev_spec_letters a (by omega)
  have lb := ev_spec_letters b (by omega)
  have li : impl_areLetters.f (a ++ b) = some (lettersB a && lettersB b) := by rw [impl_letters _ (by rw [ByteArray.size_append]; omega), letters_append]
  have himpl : ∀ k, impl_IsSequence.f k a b = if (lettersB a && lettersB b) = true then (if 1 ≤ b.size ∧ a.size + b.size ≤ 64 then (impl_sequence.f k a b).bind fun c => some (c.1.toList == a.toList && (c.2.toList == b.toList)) else some false) else some false := by
    intro k
    unfold impl_IsSequence.f
    rw [if_pos (by omega), li, Option.bind_some, given_val a b (by omega), Option.bind_some]
    simp only [decide_eq_true_eq]
  have hspec : ∀ r, Ev (fun k => if lettersB b = true then (if b.size = 0 then some false else if a.size + b.size ≤ 64 then (spec_l01Canonical.f k a b).bind fun c => some (c.1.toList == a.toList && (c.2.toList == b.toList)) else some false) else some false) r → lettersB a = true → Ev (fun k => spec_l01Seq.f k a b) r := by
    intro r hr h1
    unfold spec_l01Seq.f
    refine Ev.bind la ?_
    simp only [h1, if_true]
    refine Ev.bind lb ?_
    refine Ev.congr (fun k => ?_) hr
    by_cases hb : b.size = 0
    · rw [if_pos ((nil_iff b).2 hb), if_pos hb]
    · rw [if_neg (fun z => hb ((nil_iff b).1 z)), if_neg hb, wrS (by omega) (by omega)]
      by_cases h64 : a.size + b.size ≤ 64
      · rw [if_neg (show ¬ (a.size : Int) + (b.size : Int) > 64 by omega), if_pos h64]
      · rw [if_pos (show (a.size : Int) + (b.size : Int) > 64 by omega), if_neg h64]
  cases h1 : lettersB a with
  | false =>
    refine ⟨false, ?_, ?_, by simp⟩
    · unfold spec_l01Seq.f
      refine Ev.bind la ?_
      simp only [h1, Bool.false_eq_true, if_false]
      exact Ev.now _
    · exact Ev.congr (fun k => by rw [himpl k, h1, Bool.false_and, if_neg (by decide)]) (Ev.now false)
  | true =>
    cases h2 : lettersB b with
    | false =>
      refine ⟨false, hspec _ ?_ h1, ?_, by simp⟩
      · simp only [h2, Bool.false_eq_true, if_false]
        exact Ev.now _
      · exact Ev.congr (fun k => by rw [himpl k, h1, h2, if_neg (by decide)]) (Ev.now false)
    | true =>
      by_cases hb : 1 ≤ b.size ∧ a.size + b.size ≤ 64
      · obtain ⟨c, c1, c2, _⟩ := both_canon a b hb.1 hb.2
        refine ⟨c.1.toList == a.toList && (c.2.toList == b.toList), hspec _ ?_ h1, ?_, fun _ => ⟨rfl, rfl, hb⟩⟩
        · simp only [h2, if_true, if_neg (show ¬ b.size = 0 by omega), if_pos hb.2]
          exact Ev.bind c1 (Ev.now _)
        · refine Ev.congr (f := fun k => (impl_sequence.f k a b).bind fun c => some (c.1.toList == a.toList && (c.2.toList == b.toList))) (fun k => by rw [himpl k, h1, h2, if_pos (by decide), if_pos hb]) ?_
          exact Ev.bind c2 (Ev.now _)
      · refine ⟨false, hspec _ ?_ h1, ?_, by simp⟩
        · simp only [h2, if_true]
          by_cases hz : b.size = 0
          · simp only [if_pos hz]; exact Ev.now _
          · simp only [if_neg hz, if_neg (show ¬ a.size + b.size ≤ 64 by omega)]; exact Ev.now _
        · exact Ev.congr (fun k => by rw [himpl k, h1, h2, if_pos (by decide), if_neg hb]) (Ev.now false)
/-- The code for sequences. -/
theorem ev_all1 {a b : ByteArray} {r : Bool} (h : Ev (fun k => impl_IsSequence.f k a b) r) : Ev (fun k => allM (fun x : S23 => impl_IsSequence.f k x.f0 x.f1) [⟨a, b⟩]) r := by
  refine Ev.congr (f := fun k => (impl_IsSequence.f k a b).bind fun q => if q = true then some true else some false) (fun k => rfl) ?_
  refine Ev.bind h ?_
  cases r <;> exact Ev.now _
theorem ev_code1 {a b : ByteArray} {r : Bool} (q : Bool) (h : Ev (fun k => impl_IsSequence.f k a b) r) : Ev (fun k => impl_sequencesCode.f k q [⟨a, b⟩]) (if r = true then (if q = true then 0 else 2) else 1) := by
  unfold impl_sequencesCode.f
  exact Ev.bind (ev_all1 h) (Ev.now _)
theorem ev_code2 {a b c d : ByteArray} {r s : Bool} (q : Bool) (h : Ev (fun k => impl_IsSequence.f k a b) r) (g : Ev (fun k => impl_IsSequence.f k c d) s) : Ev (fun k => impl_sequencesCode.f k q [⟨a, b⟩, ⟨c, d⟩]) (if (r && s) = true then (if q = true then 0 else 2) else 1) := by
  unfold impl_sequencesCode.f
  refine Ev.bind (a := (r && s)) ?_ (Ev.now _)
  refine Ev.congr (f := fun k => (impl_IsSequence.f k a b).bind fun q => if q = true then allM (fun x : S23 => impl_IsSequence.f k x.f0 x.f1) [⟨c, d⟩] else some false) (fun k => rfl) ?_
  refine Ev.bind h ?_
  cases r
  · exact Ev.now _
  · simpa using ev_all1 g
/-- A letter, by its number. -/
def atV (a b : ByteArray) (k : Nat) : Int := if k < a.size then bt a (k : Int) else bt b (((k - a.size) % b.size : Nat) : Int)
theorem at_val (a b : ByteArray) (k : Nat) (hb : 1 ≤ b.size) (ha : a.size ≤ 64) (hk : k ≤ 1000000000) : spec_l01At.f a b (k : Int) = some (atV a b k) := by
  unfold spec_l01At.f atV
  by_cases h : k < a.size
  · rw [if_pos (by omega), if_pos (by omega), if_pos h]
  · have hm := Nat.mod_lt (k - a.size) (show 0 < b.size by omega)
    rw [if_neg (by omega), if_neg (by omega), wrS (by omega) (by omega), show (k : Int) - (a.size : Int) = ((k - a.size : Nat) : Int) by omega, tmod_nat]
    generalize (k - a.size) % b.size = m at *
    rw [if_pos (by omega), if_pos (by omega), if_neg h]
theorem at_val' (a b : ByteArray) (k : Nat) (hb : 1 ≤ b.size) (ha : a.size ≤ 64) (hk : k ≤ 1000000000) : impl_Sequence_at.f a b (k : Int) = some (atV a b k) := at_val a b k hb ha hk
theorem bt_letter {s : ByteArray} (h : lettersB s = true) (i : Nat) (hi : i < s.size) : bt s (i : Int) = 48 ∨ bt s (i : Int) = 49 ∨ bt s (i : Int) = 42 := by
  have hl : i < (bytesOf s).length := by rw [bytesOf_length]; exact hi
  have := List.all_eq_true.1 h _ (List.getElem_mem hl)
  rw [get_bytesOf s i hl] at this
  unfold isLetterN at this
  simpa using this
theorem at_letter {a b : ByteArray} (ha : lettersB a = true) (hb : lettersB b = true) (h1 : 1 ≤ b.size) (k : Nat) : atV a b k = 48 ∨ atV a b k = 49 ∨ atV a b k = 42 := by
  unfold atV
  split
  · rename_i h; exact bt_letter ha k h
  · exact bt_letter hb _ (Nat.mod_lt _ (by omega))
/-- What the laws ask first: how long the words are. -/
theorem sz_frame {a b : ByteArray} (ha : a.size ≤ maxLen) (hb : b.size ≤ maxLen) {g : Nat → Option Bool} (h : a.size + b.size ≤ 1048576 → Ev g true) :
    Ev (fun k => (laws_szSequence.f a b 1048576).bind fun t => if t < 0 then some true else g k) true := by
  obtain ⟨z, hz, h1⟩ := sz_some a b 1048576 (by omega) (by omega) ha hb
  rw [hz]
  simp only [Option.bind_some]
  by_cases hn : z < 0
  · simp only [if_pos hn]; exact Ev.now _
  · simp only [if_neg hn]; exact h (by omega)
theorem in_val (n lo hi : Int) : spec_l01In.f n lo hi = some (decide (lo ≤ n ∧ n ≤ hi)) := by
  unfold spec_l01In.f
  by_cases h : n ≥ lo
  · rw [if_pos h]; congr 1; rw [decide_eq_decide]; omega
  · rw [if_neg h]; congr 1; symm; rw [decide_eq_false_iff_not]; omega
theorem in_val' (n lo hi : Int) : impl_within.f n lo hi = some (decide (lo ≤ n ∧ n ≤ hi)) := by
  unfold impl_within.f
  by_cases h : lo ≤ n
  · rw [if_pos h]; congr 1; rw [decide_eq_decide]; omega
  · rw [if_neg h]; congr 1; symm; rw [decide_eq_false_iff_not]; omega
end Go.Proofs.Ytdnookndjbjllaa.Q
end
section
-- By wip/hyb/hyb.py of this session, over the kit's print.py
namespace Go.Proofs.Ytdnookndjbjllaa.Q
open Go.Proofs.YtdnookndjbjllaaW.Ext
open Go.RowKit Go.Proofs.YtdnookndjbjllaaW.PrintWords Go.Proofs.YtdnookndjbjllaaW.PrintLast Go.Proofs.YtdnookndjbjllaaW.PrintMore
attribute [local go_sem] max2_int min2_int max_two min_two max_three min_three max_four min_four   -- for this text's walks alone
set_option linter.unusedVariables false
set_option linter.unusedSimpArgs false

/-! ### spec_l02Difference: function 54 -/
def spec_l02Difference.l0 : Nat → Int → Int → ByteArray → ByteArray → ByteArray → ByteArray → Option (Int)
  | 0, _, _, _, _, _, _ => none
  | k + 1, x5, x6, x235000, x235001, x236000, x236001 => if x6 < x5 then ((spec_l01At.f x235000 x235001 x6).bind fun t236 => ((spec_l01At.f x236000 x236001 x6).bind fun t237 => (if t236 = t237 then (spec_l02Difference.l0 k x5 (wrap64 (x6 + 1)) x235000 x235001 x236000 x236001) else (some (wrap64 (x6 + 1)))))) else (some 0)
def spec_l02Difference.f (k : Nat) (a0_0 : ByteArray) (a0_1 : ByteArray) (a1_0 : ByteArray) (a1_1 : ByteArray) : Option (Int) := spec_l02Difference.l0 k (wrap64 ((mx (a0_0.size : Int) (a1_0.size : Int)) + (wrap64 ((a0_1.size : Int) * (a1_1.size : Int))))) 0 a0_0 a0_1 a1_0 a1_1
theorem spec_l02Difference.mono_l : ∀ k, (∀ y0 y1 y2 y3 y4 y5, LeO (spec_l02Difference.l0 k y0 y1 y2 y3 y4 y5) (spec_l02Difference.l0 (k + 1) y0 y1 y2 y3 y4 y5))
  | 0 => fun _ _ _ _ _ _ r h => by simp [spec_l02Difference.l0] at h
  | k + 1 => by
    have ih0 := spec_l02Difference.mono_l k
    · intro y0 y1 y2 y3 y4 y5
      unfold spec_l02Difference.l0
      repeat' first
      | (with_reducible exact ih0 _ _ _ _ _ _)
      | (with_reducible exact LeO.refl _)
      | (with_reducible exact LeO.none _)
      | (with_reducible refine LeO.ite ?_ ?_)
      | (with_reducible refine LeO.bind ?_ (fun _ => ?_))
      | exact ih0 _ _ _ _ _ _
      | exact LeO.none _
      | refine LeO.ite ?_ ?_
      | refine LeO.bind ?_ (fun _ => ?_)
theorem spec_l02Difference.mono : ∀ a0 a1 a2 a3 k, LeO (spec_l02Difference.f k a0 a1 a2 a3) (spec_l02Difference.f (k + 1) a0 a1 a2 a3) := by
  intro a0 a1 a2 a3 k
  have ih0 := spec_l02Difference.mono_l k
  unfold spec_l02Difference.f
  repeat' first
      | (with_reducible exact ih0 _ _ _ _ _ _)
      | (with_reducible exact LeO.refl _)
      | (with_reducible exact LeO.none _)
      | (with_reducible refine LeO.ite ?_ ?_)
      | (with_reducible refine LeO.bind ?_ (fun _ => ?_))
      | exact ih0 _ _ _ _ _ _
      | exact LeO.none _
      | refine LeO.ite ?_ ?_
      | refine LeO.bind ?_ (fun _ => ?_)
set_option maxHeartbeats 8000000 in
set_option maxRecDepth 100000 in
theorem spec_l02Difference.calls (k : Nat) (a0_0 : ByteArray) (a0_1 : ByteArray) (a1_0 : ByteArray) (a1_1 : ByteArray) (r : Int) (w : World) (h : spec_l02Difference.f k a0_0 a0_1 a1_0 a1_1 = some r) :
    Calls Try.prog 54 #[.agg #[.string a0_0, .string a0_1], .agg #[.string a1_0, .string a1_1]] w fun e w' => e = .returned (.int .i64 r) ∧ Below w.heap.size w w' := by
  have hu23 := Try.underlying23
  have HB := Aside0.mk (Below.refl w.heap.size w)
  have H : (spec_l02Difference.l0 k (wrap64 ((mx (a0_0.size : Int) (a1_0.size : Int)) + (wrap64 ((a0_1.size : Int) * (a1_1.size : Int))))) 0 a0_0 a0_1 a1_0 a1_1) = some r := h
  clear h
  obtain ⟨ji3, hji3⟩ : ∃ j_ : Int, (mx (a0_0.size : Int) (a1_0.size : Int)) = j_ := ⟨_, rfl⟩
  replace H : (spec_l02Difference.l0 k (wrap64 ((ji3) + (wrap64 ((a0_1.size : Int) * (a1_1.size : Int))))) 0 a0_0 a0_1 a1_0 a1_1) = some r := by first | (rw [hji3] at H; exact H) | (simp only [hji3] at H ⊢; exact H)
  (try (have hji3l : 0 ≤ ji3 := by (rw [← hji3]; unfold mx; (repeat' split) <;> omega)))
  (try (have hji3m : 0 ≤ ji3 := by omega))
  have hji3_ : (if (a0_0.size : Int) < (a1_0.size : Int) then (a1_0.size : Int) else (a0_0.size : Int)) = ji3 := hji3
  try (have hji3n := hji3_; simp only [Int.ofNat_lt] at hji3n)
  have H' := Aside0.mk H
  clear H
  go_enter Try.func54, Try.ntmps54
  go_wp2_with (first | ((with_reducible refine gate_dst (N := 2) rfl ?_); refine box_event ?hg (N := 2) ?hd (cs := #[.string a0_0, .string a0_1]) (t := 23) ?hr ?_; (case hd => rfl); (case hg => rfl); (case hr => first | (go_simp; done) | (go_simp; rfl)); intro gb234 hg w4 hbox hb; have n0_ := Aside0.mk (below_step (by repeat (first | (with_reducible first | exact HB.out | apply below_alloc | apply pw_below_drewN | apply below_drew1) | exact HB.out)) hb); have n1_ := Aside0.mk (hbox); have n2_ := Aside0.mk ((by rw [hg]; exact (below_size (by repeat (first | (with_reducible first | exact HB.out | apply below_alloc | apply pw_below_drewN | apply below_drew1) | exact HB.out))) : w.heap.size ≤ gb234)); have n3_ := Aside0.mk ((by rw [hg]; exact (below_size (by repeat (first | (with_reducible first | exact HB.out | apply below_alloc | apply pw_below_drewN | apply below_drew1) | exact HB.out))) : w.heap.size ≤ gb234)); clear HB; have HB := n0_; have BK234 := n1_; have GW234 := n2_; have GE234 := n3_; clear n0_ n1_ n2_ n3_; clear hb hbox hg) | ((with_reducible refine gate_dst (N := 3) rfl ?_); refine box_event ?hg (N := 3) ?hd (cs := #[.string a1_0, .string a1_1]) (t := 23) ?hr ?_; (case hd => rfl); (case hg => rfl); (case hr => first | (go_simp; done) | (go_simp; rfl)); intro gb235 hg w5 hbox hb; have n0_ := Aside0.mk (blk_below (g := gb234) (o := .cells #[.string a0_0, .string a0_1] 23 (0, 0)) (by (with_reducible repeat (first | refine blk_drewN ?_ _ | refine blk_drew ?_ | refine blk_alloc ?_ _)); exact BK234.out) hb); have n1_ := Aside0.mk (below_step (by repeat (first | (with_reducible first | exact HB.out | apply below_alloc | apply pw_below_drewN | apply below_drew1 | refine below_set ?_ GE234.out) | exact HB.out)) hb); have n2_ := Aside0.mk (hbox); have n3_ := Aside0.mk ((by rw [hg]; exact (below_size (by repeat (first | (with_reducible first | exact HB.out | apply below_alloc | apply pw_below_drewN | apply below_drew1 | refine below_set ?_ GE234.out) | exact HB.out))) : w.heap.size ≤ gb235)); have n4_ := Aside0.mk ((by rw [hg]; exact (below_size (by repeat (first | (with_reducible first | exact HB.out | apply below_alloc | apply pw_below_drewN | apply below_drew1 | refine below_set ?_ GE234.out) | exact HB.out))) : w.heap.size ≤ gb235)); have n5_ := Aside0.mk ((by rw [hg]; exact Nat.ne_of_lt (blk_lt (g := gb234) (o := .cells #[.string a0_0, .string a0_1] 23 (0, 0)) (by (with_reducible repeat (first | refine blk_drewN ?_ _ | refine blk_drew ?_ | refine blk_alloc ?_ _)); exact BK234.out)) : gb234 ≠ gb235)); have n6_ := Aside0.mk ((by rw [hg]; exact Nat.ne_of_gt (blk_lt (g := gb234) (o := .cells #[.string a0_0, .string a0_1] 23 (0, 0)) (by (with_reducible repeat (first | refine blk_drewN ?_ _ | refine blk_drew ?_ | refine blk_alloc ?_ _)); exact BK234.out)) : gb235 ≠ gb234)); clear BK234; clear HB; have BK234 := n0_; have HB := n1_; have BK235 := n2_; have GW235 := n3_; have GE235 := n4_; have NB234_235 := n5_; have NB235_234 := n6_; clear n0_ n1_ n2_ n3_ n4_ n5_ n6_; clear hb hbox hg; have hnb6 := NB234_235.out; have hnc6 := NB235_234.out; have hcz7_0 : w5.cell? ⟨gb234, 0, none⟩ = some (.string a0_0) := (blk_cell BK234.out 0).trans rfl; have hcz7_1 : w5.cell? ⟨gb234, 1, none⟩ = some (.string a0_1) := (blk_cell BK234.out 1).trans rfl; have hfz7_0 := blk_frozen BK234.out 0; have hfz7_1 := blk_frozen BK234.out 1; have hcz8_0 : w5.cell? ⟨gb235, 0, none⟩ = some (.string a1_0) := (blk_cell BK235.out 0).trans rfl; have hcz8_1 : w5.cell? ⟨gb235, 1, none⟩ = some (.string a1_1) := (blk_cell BK235.out 1).trans rfl; have hfz8_0 := blk_frozen BK235.out 0; have hfz8_1 := blk_frozen BK235.out 1))
  go_loopg [6] k (fun kq v6 w' => ∃ (x6_1 : Int), v6 = .int .i64 x6_1 ∧ Aside0 (spec_l02Difference.l0 kq (wrap64 ((ji3) + (wrap64 ((a0_1.size : Int) * (a1_1.size : Int))))) x6_1 a0_0 a0_1 a1_0 a1_1 = some r) ∧ Aside0 (kq ≤ k) ∧ Aside0 (w'.heap[gb234]? = some (.cells #[.string a0_0, .string a0_1] 23 (0, 0))) ∧ Aside0 (w'.heap[gb235]? = some (.cells #[.string a1_0, .string a1_1] 23 (0, 0))) ∧ Aside0 (Below w.heap.size w w'))
  case atStart => exact ⟨(0), (by first | rfl | (simp; done) | (simp [*]; done)), H', ⟨Nat.le_refl _⟩, ⟨by (with_reducible repeat (first | refine blk_drewN ?_ _ | refine blk_drew ?_ | refine blk_alloc ?_ _)); exact BK234.out⟩, ⟨by (with_reducible repeat (first | refine blk_drewN ?_ _ | refine blk_drew ?_ | refine blk_alloc ?_ _)); exact BK235.out⟩, ⟨by repeat (first | (with_reducible first | exact HB.out | apply below_alloc | apply pw_below_drewN | apply below_drew1 | refine below_set ?_ GE234.out | refine below_set ?_ GE235.out) | exact HB.out)⟩⟩
  case round =>
    clear H'
    try clear p2
    try clear c5
    try clear c6
    try clear p6
    try clear hcz7_0
    try clear hcz7_1
    try clear hcz8_0
    try clear hcz8_1
    try clear hfz7_0
    try clear hfz7_1
    try clear hfz8_0
    try clear hfz8_1
    obtain ⟨x6_1, rfl, HA, HK1, BK234, BK235, HB⟩ := hrel
    cases gk with
    | zero => exact absurd HA.out (by simp [spec_l02Difference.l0])
    | succ k1 =>
      have H := HA.out
      clear HA
      simp only [spec_l02Difference.l0] at H
      by_cases c9 : x6_1 < (wrap64 ((ji3) + (wrap64 ((a0_1.size : Int) * (a1_1.size : Int)))))
      · rw [if_pos c9] at H
        have c9b0 : decide (x6_1 < (wrap64 ((ji3) + (wrap64 ((a0_1.size : Int) * (a1_1.size : Int)))))) = true := decide_eq_true c9
        clear c9
        replace H := Option.bind_eq_some_iff.mp H
        obtain ⟨t236, A100, H⟩ := H
        replace H : ((spec_l01At.f a1_0 a1_1 x6_1).bind fun t237 => (if t236 = t237 then (spec_l02Difference.l0 k1 (wrap64 ((ji3) + (wrap64 ((a0_1.size : Int) * (a1_1.size : Int))))) (wrap64 (x6_1 + 1)) a0_0 a0_1 a1_0 a1_1) else (some (wrap64 (x6_1 + 1))))) = some r := H
        have A10 := Aside0.mk A100
        clear A100
        replace H := Option.bind_eq_some_iff.mp H
        obtain ⟨t237, A110, H⟩ := H
        replace H : (if t236 = t237 then (spec_l02Difference.l0 k1 (wrap64 ((ji3) + (wrap64 ((a0_1.size : Int) * (a1_1.size : Int))))) (wrap64 (x6_1 + 1)) a0_0 a0_1 a1_0 a1_1) else (some (wrap64 (x6_1 + 1)))) = some r := H
        have A11 := Aside0.mk A110
        clear A110
        by_cases c12 : t236 = t237
        · rw [if_pos c12] at H
          have c12b0 : (t236 == t237) = true := beq_iff_eq.mpr c12
          have c12b1 : (t236 != t237) = false := bne_eq_false_iff_eq.mpr c12
          clear c12
          have H' := Aside0.mk H
          clear H
          try go_wp2
          have n0_ := Aside0.mk (blk_drew BK234.out)
          have n1_ := Aside0.mk (blk_drew BK235.out)
          have n2_ := Aside0.mk (below_drew1 HB.out)
          clear BK234
          clear BK235
          clear HB
          have BK234 := n0_
          have BK235 := n1_
          have HB := n2_
          clear n0_ n1_ n2_
          refine start_ (n := 7) (S := fun w' => w'.cell? ⟨gb234, 0, none⟩ = some (.string a0_0) ∧ w'.cell? ⟨gb234, 1, none⟩ = some (.string a0_1) ∧ w'.cell? ⟨gb235, 0, none⟩ = some (.string a1_0) ∧ w'.cell? ⟨gb235, 1, none⟩ = some (.string a1_1)) (ds := []) #[false, false, false, false, false, false, false] (by kernel_rfl) rfl rfl ⟨(blk_cell BK234.out 0).trans rfl, (blk_cell BK234.out 1).trans rfl, (blk_cell BK235.out 0).trans rfl, (blk_cell BK235.out 1).trans rfl⟩ (fun hHeld => ?_)
          generalize wr.drew = w13 at BK234 BK235 HB hHeld ⊢
          refine pure_ (i := 1) (N := some 28) (v := ?_) (a' := ?_) #[false, true, false, false, false, false, false] rfl rfl (by kernel_rfl) (fun _ _ _ h => h) (Or.inl ⟨by rfl, ?_⟩) ?_ ?_
          rotate_left
          · intro w'
            go_simp
            with_reducible rfl
          rotate_left
          · simp only [Act.put, List.setIfInBounds_toArray, List.set_cons_zero, List.set_cons_succ, i64_w, i32_w]
            rfl
          refine pure_ (i := 4) (N := some 31) (v := ?_) (a' := ?_) #[false, true, false, false, true, false, false] rfl rfl (by kernel_rfl) (fun _ _ _ h => h) (Or.inl ⟨by rfl, ?_⟩) ?_ ?_
          rotate_left
          · intro w'
            go_simp
            with_reducible rfl
          rotate_left
          · simp only [Act.put, List.setIfInBounds_toArray, List.set_cons_zero, List.set_cons_succ, i64_w, i32_w]
            rfl
          refine take_ (i := 0) (N := some 27) (v := ?_) (a' := ?_) #[true, true, false, false, true, false, false] rfl rfl (by kernel_rfl) (fun _ _ _ h => h) (Or.inl ⟨by rfl, ?_⟩) hHeld ?_ ?_
          rotate_left
          · rintro w' ⟨s0, s1, s2, s3⟩
            go_simp
            with_reducible rfl
          rotate_left
          · simp only [Act.put, List.setIfInBounds_toArray, List.set_cons_zero, List.set_cons_succ, i64_w, i32_w]
            rfl
          refine take_ (i := 3) (N := some 30) (v := ?_) (a' := ?_) #[true, true, false, true, true, false, false] rfl rfl (by kernel_rfl) (fun _ _ _ h => h) (Or.inl ⟨by rfl, ?_⟩) hHeld ?_ ?_
          rotate_left
          · rintro w' ⟨s0, s1, s2, s3⟩
            go_simp
            with_reducible rfl
          rotate_left
          · simp only [Act.put, List.setIfInBounds_toArray, List.set_cons_zero, List.set_cons_succ, i64_w, i32_w]
            rfl
          refine one_ (i := 2) (N := some 29) #[true, true, true, true, true, false, false] rfl rfl (by kernel_rfl) (by decide) (fun K hK => ?_)
          refine goes_ Try.func46 (by kernel_rfl) rfl #[.agg #[.string a0_0, .string a0_1], .int .i64 x6_1] (by rfl) rfl rfl (by (try simp only [List.map_toArray, List.map_cons, List.map_nil]); first | done | rfl | (simp only [List.length_drop, List.length_take]; rfl)) ?_
          with_reducible refine (spec_l01At.calls a0_0 a0_1 x6_1 t236 _ A10.out).mono ?_
          rintro e w14 ⟨rfl, hb⟩
          refine ⟨_, rfl, ?_⟩
          have n0_ := Aside0.mk (blk_below (g := gb234) (o := .cells #[.string a0_0, .string a0_1] 23 (0, 0)) (by (with_reducible repeat (first | refine blk_drewN ?_ _ | refine blk_drew ?_ | refine blk_alloc ?_ _)); exact BK234.out) hb)
          have n1_ := Aside0.mk (blk_below (g := gb235) (o := .cells #[.string a1_0, .string a1_1] 23 (0, 0)) (by (with_reducible repeat (first | refine blk_drewN ?_ _ | refine blk_drew ?_ | refine blk_alloc ?_ _)); exact BK235.out) hb)
          have n2_ := Aside0.mk (below_step (by repeat (first | (with_reducible first | exact HB.out | apply below_alloc | apply pw_below_drewN | apply below_drew1 | refine below_set ?_ GE234.out | refine below_set ?_ GE235.out) | exact HB.out)) hb)
          clear BK234
          clear BK235
          clear HB
          have BK234 := n0_
          have BK235 := n1_
          have HB := n2_
          clear n0_ n1_ n2_
          (try clear hb)
          (try clear hb2)
          (try clear hk)
          (try clear hi)
          refine hK.out _ _ ⟨(blk_cell BK234.out 0).trans rfl, (blk_cell BK234.out 1).trans rfl, (blk_cell BK235.out 0).trans rfl, (blk_cell BK235.out 1).trans rfl⟩ (fun hHeld => ?_)
          clear hK K
          refine norm_ (a' := ?_) ?_ ?_
          rotate_left
          · show Act.put _ (some 29) _ = _
            simp only [Act.put, List.setIfInBounds_toArray, List.set_cons_zero, List.set_cons_succ, i64_w, i32_w]
            rfl
          refine one_ (i := 5) (N := some 32) #[true, true, true, true, true, true, false] rfl rfl (by kernel_rfl) (by decide) (fun K hK => ?_)
          refine goes_ Try.func46 (by kernel_rfl) rfl #[.agg #[.string a1_0, .string a1_1], .int .i64 x6_1] (by rfl) rfl rfl (by (try simp only [List.map_toArray, List.map_cons, List.map_nil]); first | done | rfl | (simp only [List.length_drop, List.length_take]; rfl)) ?_
          with_reducible refine (spec_l01At.calls a1_0 a1_1 x6_1 t237 _ A11.out).mono ?_
          rintro e w15 ⟨rfl, hb⟩
          refine ⟨_, rfl, ?_⟩
          have n0_ := Aside0.mk (blk_below (g := gb234) (o := .cells #[.string a0_0, .string a0_1] 23 (0, 0)) (by (with_reducible repeat (first | refine blk_drewN ?_ _ | refine blk_drew ?_ | refine blk_alloc ?_ _)); exact BK234.out) hb)
          have n1_ := Aside0.mk (blk_below (g := gb235) (o := .cells #[.string a1_0, .string a1_1] 23 (0, 0)) (by (with_reducible repeat (first | refine blk_drewN ?_ _ | refine blk_drew ?_ | refine blk_alloc ?_ _)); exact BK235.out) hb)
          have n2_ := Aside0.mk (below_step (by repeat (first | (with_reducible first | exact HB.out | apply below_alloc | apply pw_below_drewN | apply below_drew1 | refine below_set ?_ GE234.out | refine below_set ?_ GE235.out) | exact HB.out)) hb)
          clear BK234
          clear BK235
          clear HB
          have BK234 := n0_
          have BK235 := n1_
          have HB := n2_
          clear n0_ n1_ n2_
          (try clear hb)
          (try clear hb2)
          (try clear hk)
          (try clear hi)
          refine hK.out _ _ ⟨(blk_cell BK234.out 0).trans rfl, (blk_cell BK234.out 1).trans rfl, (blk_cell BK235.out 0).trans rfl, (blk_cell BK235.out 1).trans rfl⟩ (fun hHeld => ?_)
          clear hK K
          refine norm_ (a' := ?_) ?_ ?_
          rotate_left
          · show Act.put _ (some 32) _ = _
            simp only [Act.put, List.setIfInBounds_toArray, List.set_cons_zero, List.set_cons_succ, i64_w, i32_w]
            rfl
          refine pure_ (i := 6) (N := some 33) (v := ?_) (a' := ?_) #[true, true, true, true, true, true, true] rfl rfl (by kernel_rfl) (fun _ _ _ h => h) (Or.inl ⟨by rfl, ?_⟩) ?_ ?_
          rotate_left
          · intro w'
            go_simp
            with_reducible rfl
          rotate_left
          · simp only [Act.put, List.setIfInBounds_toArray, List.set_cons_zero, List.set_cons_succ, i64_w, i32_w]
            rfl
          refine done_ (by kernel_rfl) ?_
          try go_wp2
          go_roundg k1
          case measure => have := HK1.out; omega
          case rel => exact ⟨(wrap64 (x6_1 + 1)), (by first | rfl | (simp; done) | (simp [*]; done)), H', ⟨by have := HK1.out; omega⟩, ⟨by (with_reducible repeat (first | refine blk_drewN ?_ _ | refine blk_drew ?_ | refine blk_alloc ?_ _)); exact BK234.out⟩, ⟨by (with_reducible repeat (first | refine blk_drewN ?_ _ | refine blk_drew ?_ | refine blk_alloc ?_ _)); exact BK235.out⟩, ⟨by repeat (first | (with_reducible first | exact HB.out | apply below_alloc | apply pw_below_drewN | apply below_drew1 | refine below_set ?_ GE234.out | refine below_set ?_ GE235.out) | exact HB.out)⟩⟩
        · rw [if_neg c12] at H
          have c12b0 : (t236 == t237) = false := beq_eq_false_iff_ne.mpr c12
          have c12b1 : (t236 != t237) = true := bne_iff_ne.mpr c12
          obtain rfl := Option.some.inj H
          try go_wp2
          have n0_ := Aside0.mk (blk_drew BK234.out)
          have n1_ := Aside0.mk (blk_drew BK235.out)
          have n2_ := Aside0.mk (below_drew1 HB.out)
          clear BK234
          clear BK235
          clear HB
          have BK234 := n0_
          have BK235 := n1_
          have HB := n2_
          clear n0_ n1_ n2_
          refine start_ (n := 7) (S := fun w' => w'.cell? ⟨gb234, 0, none⟩ = some (.string a0_0) ∧ w'.cell? ⟨gb234, 1, none⟩ = some (.string a0_1) ∧ w'.cell? ⟨gb235, 0, none⟩ = some (.string a1_0) ∧ w'.cell? ⟨gb235, 1, none⟩ = some (.string a1_1)) (ds := []) #[false, false, false, false, false, false, false] (by kernel_rfl) rfl rfl ⟨(blk_cell BK234.out 0).trans rfl, (blk_cell BK234.out 1).trans rfl, (blk_cell BK235.out 0).trans rfl, (blk_cell BK235.out 1).trans rfl⟩ (fun hHeld => ?_)
          generalize wr.drew = w16 at BK234 BK235 HB hHeld ⊢
          refine pure_ (i := 1) (N := some 28) (v := ?_) (a' := ?_) #[false, true, false, false, false, false, false] rfl rfl (by kernel_rfl) (fun _ _ _ h => h) (Or.inl ⟨by rfl, ?_⟩) ?_ ?_
          rotate_left
          · intro w'
            go_simp
            with_reducible rfl
          rotate_left
          · simp only [Act.put, List.setIfInBounds_toArray, List.set_cons_zero, List.set_cons_succ, i64_w, i32_w]
            rfl
          refine pure_ (i := 4) (N := some 31) (v := ?_) (a' := ?_) #[false, true, false, false, true, false, false] rfl rfl (by kernel_rfl) (fun _ _ _ h => h) (Or.inl ⟨by rfl, ?_⟩) ?_ ?_
          rotate_left
          · intro w'
            go_simp
            with_reducible rfl
          rotate_left
          · simp only [Act.put, List.setIfInBounds_toArray, List.set_cons_zero, List.set_cons_succ, i64_w, i32_w]
            rfl
          refine take_ (i := 0) (N := some 27) (v := ?_) (a' := ?_) #[true, true, false, false, true, false, false] rfl rfl (by kernel_rfl) (fun _ _ _ h => h) (Or.inl ⟨by rfl, ?_⟩) hHeld ?_ ?_
          rotate_left
          · rintro w' ⟨s0, s1, s2, s3⟩
            go_simp
            with_reducible rfl
          rotate_left
          · simp only [Act.put, List.setIfInBounds_toArray, List.set_cons_zero, List.set_cons_succ, i64_w, i32_w]
            rfl
          refine take_ (i := 3) (N := some 30) (v := ?_) (a' := ?_) #[true, true, false, true, true, false, false] rfl rfl (by kernel_rfl) (fun _ _ _ h => h) (Or.inl ⟨by rfl, ?_⟩) hHeld ?_ ?_
          rotate_left
          · rintro w' ⟨s0, s1, s2, s3⟩
            go_simp
            with_reducible rfl
          rotate_left
          · simp only [Act.put, List.setIfInBounds_toArray, List.set_cons_zero, List.set_cons_succ, i64_w, i32_w]
            rfl
          refine one_ (i := 2) (N := some 29) #[true, true, true, true, true, false, false] rfl rfl (by kernel_rfl) (by decide) (fun K hK => ?_)
          refine goes_ Try.func46 (by kernel_rfl) rfl #[.agg #[.string a0_0, .string a0_1], .int .i64 x6_1] (by rfl) rfl rfl (by (try simp only [List.map_toArray, List.map_cons, List.map_nil]); first | done | rfl | (simp only [List.length_drop, List.length_take]; rfl)) ?_
          with_reducible refine (spec_l01At.calls a0_0 a0_1 x6_1 t236 _ A10.out).mono ?_
          rintro e w17 ⟨rfl, hb⟩
          refine ⟨_, rfl, ?_⟩
          have n0_ := Aside0.mk (blk_below (g := gb234) (o := .cells #[.string a0_0, .string a0_1] 23 (0, 0)) (by (with_reducible repeat (first | refine blk_drewN ?_ _ | refine blk_drew ?_ | refine blk_alloc ?_ _)); exact BK234.out) hb)
          have n1_ := Aside0.mk (blk_below (g := gb235) (o := .cells #[.string a1_0, .string a1_1] 23 (0, 0)) (by (with_reducible repeat (first | refine blk_drewN ?_ _ | refine blk_drew ?_ | refine blk_alloc ?_ _)); exact BK235.out) hb)
          have n2_ := Aside0.mk (below_step (by repeat (first | (with_reducible first | exact HB.out | apply below_alloc | apply pw_below_drewN | apply below_drew1 | refine below_set ?_ GE234.out | refine below_set ?_ GE235.out) | exact HB.out)) hb)
          clear BK234
          clear BK235
          clear HB
          have BK234 := n0_
          have BK235 := n1_
          have HB := n2_
          clear n0_ n1_ n2_
          (try clear hb)
          (try clear hb2)
          (try clear hk)
          (try clear hi)
          refine hK.out _ _ ⟨(blk_cell BK234.out 0).trans rfl, (blk_cell BK234.out 1).trans rfl, (blk_cell BK235.out 0).trans rfl, (blk_cell BK235.out 1).trans rfl⟩ (fun hHeld => ?_)
          clear hK K
          refine norm_ (a' := ?_) ?_ ?_
          rotate_left
          · show Act.put _ (some 29) _ = _
            simp only [Act.put, List.setIfInBounds_toArray, List.set_cons_zero, List.set_cons_succ, i64_w, i32_w]
            rfl
          refine one_ (i := 5) (N := some 32) #[true, true, true, true, true, true, false] rfl rfl (by kernel_rfl) (by decide) (fun K hK => ?_)
          refine goes_ Try.func46 (by kernel_rfl) rfl #[.agg #[.string a1_0, .string a1_1], .int .i64 x6_1] (by rfl) rfl rfl (by (try simp only [List.map_toArray, List.map_cons, List.map_nil]); first | done | rfl | (simp only [List.length_drop, List.length_take]; rfl)) ?_
          with_reducible refine (spec_l01At.calls a1_0 a1_1 x6_1 t237 _ A11.out).mono ?_
          rintro e w18 ⟨rfl, hb⟩
          refine ⟨_, rfl, ?_⟩
          have n0_ := Aside0.mk (blk_below (g := gb234) (o := .cells #[.string a0_0, .string a0_1] 23 (0, 0)) (by (with_reducible repeat (first | refine blk_drewN ?_ _ | refine blk_drew ?_ | refine blk_alloc ?_ _)); exact BK234.out) hb)
          have n1_ := Aside0.mk (blk_below (g := gb235) (o := .cells #[.string a1_0, .string a1_1] 23 (0, 0)) (by (with_reducible repeat (first | refine blk_drewN ?_ _ | refine blk_drew ?_ | refine blk_alloc ?_ _)); exact BK235.out) hb)
          have n2_ := Aside0.mk (below_step (by repeat (first | (with_reducible first | exact HB.out | apply below_alloc | apply pw_below_drewN | apply below_drew1 | refine below_set ?_ GE234.out | refine below_set ?_ GE235.out) | exact HB.out)) hb)
          clear BK234
          clear BK235
          clear HB
          have BK234 := n0_
          have BK235 := n1_
          have HB := n2_
          clear n0_ n1_ n2_
          (try clear hb)
          (try clear hb2)
          (try clear hk)
          (try clear hi)
          refine hK.out _ _ ⟨(blk_cell BK234.out 0).trans rfl, (blk_cell BK234.out 1).trans rfl, (blk_cell BK235.out 0).trans rfl, (blk_cell BK235.out 1).trans rfl⟩ (fun hHeld => ?_)
          clear hK K
          refine norm_ (a' := ?_) ?_ ?_
          rotate_left
          · show Act.put _ (some 32) _ = _
            simp only [Act.put, List.setIfInBounds_toArray, List.set_cons_zero, List.set_cons_succ, i64_w, i32_w]
            rfl
          refine pure_ (i := 6) (N := some 33) (v := ?_) (a' := ?_) #[true, true, true, true, true, true, true] rfl rfl (by kernel_rfl) (fun _ _ _ h => h) (Or.inl ⟨by rfl, ?_⟩) ?_ ?_
          rotate_left
          · intro w'
            go_simp
            with_reducible rfl
          rotate_left
          · simp only [Act.put, List.setIfInBounds_toArray, List.set_cons_zero, List.set_cons_succ, i64_w, i32_w]
            rfl
          refine done_ (by kernel_rfl) ?_
          try go_wp2
          go_ret
          exact ⟨by first | rfl | (simp [errW_none, errW_some] <;> rfl) | (simp only [← hji3]; first | rfl | (simp [errW_none, errW_some] <;> rfl)) | (simp [*, errW_none, errW_some] <;> rfl), by repeat (first | (with_reducible first | exact HB.out | apply below_alloc | apply pw_below_drewN | apply below_drew1 | refine below_set ?_ GE234.out | refine below_set ?_ GE235.out) | exact HB.out)⟩
      · rw [if_neg c9] at H
        have c9b0 : decide (x6_1 < (wrap64 ((ji3) + (wrap64 ((a0_1.size : Int) * (a1_1.size : Int)))))) = false := decide_eq_false c9
        clear c9
        obtain rfl := Option.some.inj H
        go_wp2
        go_ret
        exact ⟨by first | rfl | (simp [errW_none, errW_some] <;> rfl) | (simp only [← hji3]; first | rfl | (simp [errW_none, errW_some] <;> rfl)) | (simp [*, errW_none, errW_some] <;> rfl), by repeat (first | (with_reducible first | exact HB.out | apply below_alloc | apply pw_below_drewN | apply below_drew1 | refine below_set ?_ GE234.out | refine below_set ?_ GE235.out) | exact HB.out)⟩

end Go.Proofs.Ytdnookndjbjllaa.Q
end
section
-- By wip/hyb/hyb.py of this session, over the kit's print.py
namespace Go.Proofs.Ytdnookndjbjllaa.Q
open Go.Proofs.YtdnookndjbjllaaW.Ext
open Go.RowKit Go.Proofs.YtdnookndjbjllaaW.PrintWords Go.Proofs.YtdnookndjbjllaaW.PrintLast Go.Proofs.YtdnookndjbjllaaW.PrintMore
attribute [local go_sem] max2_int min2_int max_two min_two max_three min_three max_four min_four   -- for this text's walks alone
set_option linter.unusedVariables false
set_option linter.unusedSimpArgs false

/-! ### impl_Sequence_difference: function 55 -/
def impl_Sequence_difference.l0 : Nat → Int → ByteArray → ByteArray → ByteArray → ByteArray → Option (Int)
  | 0, _, _, _, _, _ => none
  | k + 1, x6, x244000, x244001, x245000, x245001 => if x6 < 256 then ((impl_Sequence_at.f x244000 x244001 x6).bind fun t245 => ((impl_Sequence_at.f x245000 x245001 x6).bind fun t246 => (if t245 = t246 then (impl_Sequence_difference.l0 k (wrap64 (x6 + 1)) x244000 x244001 x245000 x245001) else (some (wrap64 (x6 + 1)))))) else (some 0)
def impl_Sequence_difference.f (k : Nat) (a0_0 : ByteArray) (a0_1 : ByteArray) (a1_0 : ByteArray) (a1_1 : ByteArray) : Option (Int) := impl_Sequence_difference.l0 k 0 a0_0 a0_1 a1_0 a1_1
theorem impl_Sequence_difference.mono_l : ∀ k, (∀ y0 y1 y2 y3 y4, LeO (impl_Sequence_difference.l0 k y0 y1 y2 y3 y4) (impl_Sequence_difference.l0 (k + 1) y0 y1 y2 y3 y4))
  | 0 => fun _ _ _ _ _ r h => by simp [impl_Sequence_difference.l0] at h
  | k + 1 => by
    have ih0 := impl_Sequence_difference.mono_l k
    · intro y0 y1 y2 y3 y4
      unfold impl_Sequence_difference.l0
      repeat' first
      | (with_reducible exact ih0 _ _ _ _ _)
      | (with_reducible exact LeO.refl _)
      | (with_reducible exact LeO.none _)
      | (with_reducible refine LeO.ite ?_ ?_)
      | (with_reducible refine LeO.bind ?_ (fun _ => ?_))
      | exact ih0 _ _ _ _ _
      | exact LeO.none _
      | refine LeO.ite ?_ ?_
      | refine LeO.bind ?_ (fun _ => ?_)
theorem impl_Sequence_difference.mono : ∀ a0 a1 a2 a3 k, LeO (impl_Sequence_difference.f k a0 a1 a2 a3) (impl_Sequence_difference.f (k + 1) a0 a1 a2 a3) := by
  intro a0 a1 a2 a3 k
  have ih0 := impl_Sequence_difference.mono_l k
  unfold impl_Sequence_difference.f
  repeat' first
      | (with_reducible exact ih0 _ _ _ _ _)
      | (with_reducible exact LeO.refl _)
      | (with_reducible exact LeO.none _)
      | (with_reducible refine LeO.ite ?_ ?_)
      | (with_reducible refine LeO.bind ?_ (fun _ => ?_))
      | exact ih0 _ _ _ _ _
      | exact LeO.none _
      | refine LeO.ite ?_ ?_
      | refine LeO.bind ?_ (fun _ => ?_)
set_option maxHeartbeats 8000000 in
set_option maxRecDepth 100000 in
theorem impl_Sequence_difference.calls (k : Nat) (a0_0 : ByteArray) (a0_1 : ByteArray) (a1_0 : ByteArray) (a1_1 : ByteArray) (r : Int) (w : World) (h : impl_Sequence_difference.f k a0_0 a0_1 a1_0 a1_1 = some r) :
    Calls Try.prog 55 #[.agg #[.string a0_0, .string a0_1], .agg #[.string a1_0, .string a1_1]] w fun e w' => e = .returned (.int .i64 r) ∧ Below w.heap.size w w' := by
  have hu23 := Try.underlying23
  have HB := Aside0.mk (Below.refl w.heap.size w)
  have H : (impl_Sequence_difference.l0 k 0 a0_0 a0_1 a1_0 a1_1) = some r := h
  clear h
  have H' := Aside0.mk H
  clear H
  go_enter Try.func55, Try.ntmps55
  go_wp2_with (first | ((with_reducible refine gate_dst (N := 2) rfl ?_); refine box_event ?hg (N := 2) ?hd (cs := #[.string a0_0, .string a0_1]) (t := 23) ?hr ?_; (case hd => rfl); (case hg => rfl); (case hr => first | (go_simp; done) | (go_simp; rfl)); intro gb243 hg w3 hbox hb; have n0_ := Aside0.mk (below_step (by repeat (first | (with_reducible first | exact HB.out | apply below_alloc | apply pw_below_drewN | apply below_drew1) | exact HB.out)) hb); have n1_ := Aside0.mk (hbox); have n2_ := Aside0.mk ((by rw [hg]; exact (below_size (by repeat (first | (with_reducible first | exact HB.out | apply below_alloc | apply pw_below_drewN | apply below_drew1) | exact HB.out))) : w.heap.size ≤ gb243)); have n3_ := Aside0.mk ((by rw [hg]; exact (below_size (by repeat (first | (with_reducible first | exact HB.out | apply below_alloc | apply pw_below_drewN | apply below_drew1) | exact HB.out))) : w.heap.size ≤ gb243)); clear HB; have HB := n0_; have BK243 := n1_; have GW243 := n2_; have GE243 := n3_; clear n0_ n1_ n2_ n3_; clear hb hbox hg) | ((with_reducible refine gate_dst (N := 3) rfl ?_); refine box_event ?hg (N := 3) ?hd (cs := #[.string a1_0, .string a1_1]) (t := 23) ?hr ?_; (case hd => rfl); (case hg => rfl); (case hr => first | (go_simp; done) | (go_simp; rfl)); intro gb244 hg w4 hbox hb; have n0_ := Aside0.mk (blk_below (g := gb243) (o := .cells #[.string a0_0, .string a0_1] 23 (0, 0)) (by (with_reducible repeat (first | refine blk_drewN ?_ _ | refine blk_drew ?_ | refine blk_alloc ?_ _)); exact BK243.out) hb); have n1_ := Aside0.mk (below_step (by repeat (first | (with_reducible first | exact HB.out | apply below_alloc | apply pw_below_drewN | apply below_drew1 | refine below_set ?_ GE243.out) | exact HB.out)) hb); have n2_ := Aside0.mk (hbox); have n3_ := Aside0.mk ((by rw [hg]; exact (below_size (by repeat (first | (with_reducible first | exact HB.out | apply below_alloc | apply pw_below_drewN | apply below_drew1 | refine below_set ?_ GE243.out) | exact HB.out))) : w.heap.size ≤ gb244)); have n4_ := Aside0.mk ((by rw [hg]; exact (below_size (by repeat (first | (with_reducible first | exact HB.out | apply below_alloc | apply pw_below_drewN | apply below_drew1 | refine below_set ?_ GE243.out) | exact HB.out))) : w.heap.size ≤ gb244)); have n5_ := Aside0.mk ((by rw [hg]; exact Nat.ne_of_lt (blk_lt (g := gb243) (o := .cells #[.string a0_0, .string a0_1] 23 (0, 0)) (by (with_reducible repeat (first | refine blk_drewN ?_ _ | refine blk_drew ?_ | refine blk_alloc ?_ _)); exact BK243.out)) : gb243 ≠ gb244)); have n6_ := Aside0.mk ((by rw [hg]; exact Nat.ne_of_gt (blk_lt (g := gb243) (o := .cells #[.string a0_0, .string a0_1] 23 (0, 0)) (by (with_reducible repeat (first | refine blk_drewN ?_ _ | refine blk_drew ?_ | refine blk_alloc ?_ _)); exact BK243.out)) : gb244 ≠ gb243)); clear BK243; clear HB; have BK243 := n0_; have HB := n1_; have BK244 := n2_; have GW244 := n3_; have GE244 := n4_; have NB243_244 := n5_; have NB244_243 := n6_; clear n0_ n1_ n2_ n3_ n4_ n5_ n6_; clear hb hbox hg))
  go_loopg [6] k (fun kq v6 w' => ∃ (x6_1 : Int), v6 = .int .i64 x6_1 ∧ Aside0 (impl_Sequence_difference.l0 kq x6_1 a0_0 a0_1 a1_0 a1_1 = some r) ∧ Aside0 (kq ≤ k) ∧ Aside0 (w'.heap[gb243]? = some (.cells #[.string a0_0, .string a0_1] 23 (0, 0))) ∧ Aside0 (w'.heap[gb244]? = some (.cells #[.string a1_0, .string a1_1] 23 (0, 0))) ∧ Aside0 (Below w.heap.size w w'))
  case atStart => exact ⟨(0), (by first | rfl | (simp; done) | (simp [*]; done)), H', ⟨Nat.le_refl _⟩, ⟨by (with_reducible repeat (first | refine blk_drewN ?_ _ | refine blk_drew ?_ | refine blk_alloc ?_ _)); exact BK243.out⟩, ⟨by (with_reducible repeat (first | refine blk_drewN ?_ _ | refine blk_drew ?_ | refine blk_alloc ?_ _)); exact BK244.out⟩, ⟨by repeat (first | (with_reducible first | exact HB.out | apply below_alloc | apply pw_below_drewN | apply below_drew1 | refine below_set ?_ GE243.out | refine below_set ?_ GE244.out) | exact HB.out)⟩⟩
  case round =>
    clear H'
    try clear p2
    obtain ⟨x6_1, rfl, HA, HK1, BK243, BK244, HB⟩ := hrel
    cases gk with
    | zero => exact absurd HA.out (by simp [impl_Sequence_difference.l0])
    | succ k1 =>
      have H := HA.out
      clear HA
      simp only [impl_Sequence_difference.l0] at H
      by_cases c5 : x6_1 < 256
      · rw [if_pos c5] at H
        have c5b0 : decide (x6_1 < 256) = true := decide_eq_true c5
        clear c5
        replace H := Option.bind_eq_some_iff.mp H
        obtain ⟨t245, A60, H⟩ := H
        replace H : ((impl_Sequence_at.f a1_0 a1_1 x6_1).bind fun t246 => (if t245 = t246 then (impl_Sequence_difference.l0 k1 (wrap64 (x6_1 + 1)) a0_0 a0_1 a1_0 a1_1) else (some (wrap64 (x6_1 + 1))))) = some r := H
        have A6 := Aside0.mk A60
        clear A60
        replace H := Option.bind_eq_some_iff.mp H
        obtain ⟨t246, A70, H⟩ := H
        replace H : (if t245 = t246 then (impl_Sequence_difference.l0 k1 (wrap64 (x6_1 + 1)) a0_0 a0_1 a1_0 a1_1) else (some (wrap64 (x6_1 + 1)))) = some r := H
        have A7 := Aside0.mk A70
        clear A70
        by_cases c8 : t245 = t246
        · rw [if_pos c8] at H
          have c8b0 : (t245 == t246) = true := beq_iff_eq.mpr c8
          have c8b1 : (t245 != t246) = false := bne_eq_false_iff_eq.mpr c8
          clear c8
          have H' := Aside0.mk H
          clear H
          try go_wp2
          have n0_ := Aside0.mk (blk_drew BK243.out)
          have n1_ := Aside0.mk (blk_drew BK244.out)
          have n2_ := Aside0.mk (below_drew1 HB.out)
          clear BK243
          clear BK244
          clear HB
          have BK243 := n0_
          have BK244 := n1_
          have HB := n2_
          clear n0_ n1_ n2_
          refine start_ (n := 7) (S := fun w' => w'.cell? ⟨gb243, 0, none⟩ = some (.string a0_0) ∧ w'.cell? ⟨gb243, 1, none⟩ = some (.string a0_1) ∧ w'.cell? ⟨gb244, 0, none⟩ = some (.string a1_0) ∧ w'.cell? ⟨gb244, 1, none⟩ = some (.string a1_1)) (ds := []) #[false, false, false, false, false, false, false] (by kernel_rfl) rfl rfl ⟨(blk_cell BK243.out 0).trans rfl, (blk_cell BK243.out 1).trans rfl, (blk_cell BK244.out 0).trans rfl, (blk_cell BK244.out 1).trans rfl⟩ (fun hHeld => ?_)
          generalize wr.drew = w9 at BK243 BK244 HB hHeld ⊢
          refine pure_ (i := 1) (N := some 10) (v := ?_) (a' := ?_) #[false, true, false, false, false, false, false] rfl rfl (by kernel_rfl) (fun _ _ _ h => h) (Or.inl ⟨by rfl, ?_⟩) ?_ ?_
          rotate_left
          · intro w'
            go_simp
            with_reducible rfl
          rotate_left
          · simp only [Act.put, List.setIfInBounds_toArray, List.set_cons_zero, List.set_cons_succ, i64_w, i32_w]
            rfl
          refine pure_ (i := 4) (N := some 13) (v := ?_) (a' := ?_) #[false, true, false, false, true, false, false] rfl rfl (by kernel_rfl) (fun _ _ _ h => h) (Or.inl ⟨by rfl, ?_⟩) ?_ ?_
          rotate_left
          · intro w'
            go_simp
            with_reducible rfl
          rotate_left
          · simp only [Act.put, List.setIfInBounds_toArray, List.set_cons_zero, List.set_cons_succ, i64_w, i32_w]
            rfl
          refine take_ (i := 0) (N := some 9) (v := ?_) (a' := ?_) #[true, true, false, false, true, false, false] rfl rfl (by kernel_rfl) (fun _ _ _ h => h) (Or.inl ⟨by rfl, ?_⟩) hHeld ?_ ?_
          rotate_left
          · rintro w' ⟨s0, s1, s2, s3⟩
            go_simp
            with_reducible rfl
          rotate_left
          · simp only [Act.put, List.setIfInBounds_toArray, List.set_cons_zero, List.set_cons_succ, i64_w, i32_w]
            rfl
          refine take_ (i := 3) (N := some 12) (v := ?_) (a' := ?_) #[true, true, false, true, true, false, false] rfl rfl (by kernel_rfl) (fun _ _ _ h => h) (Or.inl ⟨by rfl, ?_⟩) hHeld ?_ ?_
          rotate_left
          · rintro w' ⟨s0, s1, s2, s3⟩
            go_simp
            with_reducible rfl
          rotate_left
          · simp only [Act.put, List.setIfInBounds_toArray, List.set_cons_zero, List.set_cons_succ, i64_w, i32_w]
            rfl
          refine one_ (i := 2) (N := some 11) #[true, true, true, true, true, false, false] rfl rfl (by kernel_rfl) (by decide) (fun K hK => ?_)
          refine goes_ Try.func49 (by kernel_rfl) rfl #[.agg #[.string a0_0, .string a0_1], .int .i64 x6_1] (by rfl) rfl rfl (by (try simp only [List.map_toArray, List.map_cons, List.map_nil]); first | done | rfl | (simp only [List.length_drop, List.length_take]; rfl)) ?_
          with_reducible refine (impl_Sequence_at.calls a0_0 a0_1 x6_1 t245 _ A6.out).mono ?_
          rintro e w10 ⟨rfl, hb⟩
          refine ⟨_, rfl, ?_⟩
          have n0_ := Aside0.mk (blk_below (g := gb243) (o := .cells #[.string a0_0, .string a0_1] 23 (0, 0)) (by (with_reducible repeat (first | refine blk_drewN ?_ _ | refine blk_drew ?_ | refine blk_alloc ?_ _)); exact BK243.out) hb)
          have n1_ := Aside0.mk (blk_below (g := gb244) (o := .cells #[.string a1_0, .string a1_1] 23 (0, 0)) (by (with_reducible repeat (first | refine blk_drewN ?_ _ | refine blk_drew ?_ | refine blk_alloc ?_ _)); exact BK244.out) hb)
          have n2_ := Aside0.mk (below_step (by repeat (first | (with_reducible first | exact HB.out | apply below_alloc | apply pw_below_drewN | apply below_drew1 | refine below_set ?_ GE243.out | refine below_set ?_ GE244.out) | exact HB.out)) hb)
          clear BK243
          clear BK244
          clear HB
          have BK243 := n0_
          have BK244 := n1_
          have HB := n2_
          clear n0_ n1_ n2_
          (try clear hb)
          (try clear hb2)
          (try clear hk)
          (try clear hi)
          refine hK.out _ _ ⟨(blk_cell BK243.out 0).trans rfl, (blk_cell BK243.out 1).trans rfl, (blk_cell BK244.out 0).trans rfl, (blk_cell BK244.out 1).trans rfl⟩ (fun hHeld => ?_)
          clear hK K
          refine norm_ (a' := ?_) ?_ ?_
          rotate_left
          · show Act.put _ (some 11) _ = _
            simp only [Act.put, List.setIfInBounds_toArray, List.set_cons_zero, List.set_cons_succ, i64_w, i32_w]
            rfl
          refine one_ (i := 5) (N := some 14) #[true, true, true, true, true, true, false] rfl rfl (by kernel_rfl) (by decide) (fun K hK => ?_)
          refine goes_ Try.func49 (by kernel_rfl) rfl #[.agg #[.string a1_0, .string a1_1], .int .i64 x6_1] (by rfl) rfl rfl (by (try simp only [List.map_toArray, List.map_cons, List.map_nil]); first | done | rfl | (simp only [List.length_drop, List.length_take]; rfl)) ?_
          with_reducible refine (impl_Sequence_at.calls a1_0 a1_1 x6_1 t246 _ A7.out).mono ?_
          rintro e w11 ⟨rfl, hb⟩
          refine ⟨_, rfl, ?_⟩
          have n0_ := Aside0.mk (blk_below (g := gb243) (o := .cells #[.string a0_0, .string a0_1] 23 (0, 0)) (by (with_reducible repeat (first | refine blk_drewN ?_ _ | refine blk_drew ?_ | refine blk_alloc ?_ _)); exact BK243.out) hb)
          have n1_ := Aside0.mk (blk_below (g := gb244) (o := .cells #[.string a1_0, .string a1_1] 23 (0, 0)) (by (with_reducible repeat (first | refine blk_drewN ?_ _ | refine blk_drew ?_ | refine blk_alloc ?_ _)); exact BK244.out) hb)
          have n2_ := Aside0.mk (below_step (by repeat (first | (with_reducible first | exact HB.out | apply below_alloc | apply pw_below_drewN | apply below_drew1 | refine below_set ?_ GE243.out | refine below_set ?_ GE244.out) | exact HB.out)) hb)
          clear BK243
          clear BK244
          clear HB
          have BK243 := n0_
          have BK244 := n1_
          have HB := n2_
          clear n0_ n1_ n2_
          (try clear hb)
          (try clear hb2)
          (try clear hk)
          (try clear hi)
          refine hK.out _ _ ⟨(blk_cell BK243.out 0).trans rfl, (blk_cell BK243.out 1).trans rfl, (blk_cell BK244.out 0).trans rfl, (blk_cell BK244.out 1).trans rfl⟩ (fun hHeld => ?_)
          clear hK K
          refine norm_ (a' := ?_) ?_ ?_
          rotate_left
          · show Act.put _ (some 14) _ = _
            simp only [Act.put, List.setIfInBounds_toArray, List.set_cons_zero, List.set_cons_succ, i64_w, i32_w]
            rfl
          refine pure_ (i := 6) (N := some 15) (v := ?_) (a' := ?_) #[true, true, true, true, true, true, true] rfl rfl (by kernel_rfl) (fun _ _ _ h => h) (Or.inl ⟨by rfl, ?_⟩) ?_ ?_
          rotate_left
          · intro w'
            go_simp
            with_reducible rfl
          rotate_left
          · simp only [Act.put, List.setIfInBounds_toArray, List.set_cons_zero, List.set_cons_succ, i64_w, i32_w]
            rfl
          refine done_ (by kernel_rfl) ?_
          try go_wp2
          go_roundg k1
          case measure => have := HK1.out; omega
          case rel => exact ⟨(wrap64 (x6_1 + 1)), (by first | rfl | (simp; done) | (simp [*]; done)), H', ⟨by have := HK1.out; omega⟩, ⟨by (with_reducible repeat (first | refine blk_drewN ?_ _ | refine blk_drew ?_ | refine blk_alloc ?_ _)); exact BK243.out⟩, ⟨by (with_reducible repeat (first | refine blk_drewN ?_ _ | refine blk_drew ?_ | refine blk_alloc ?_ _)); exact BK244.out⟩, ⟨by repeat (first | (with_reducible first | exact HB.out | apply below_alloc | apply pw_below_drewN | apply below_drew1 | refine below_set ?_ GE243.out | refine below_set ?_ GE244.out) | exact HB.out)⟩⟩
        · rw [if_neg c8] at H
          have c8b0 : (t245 == t246) = false := beq_eq_false_iff_ne.mpr c8
          have c8b1 : (t245 != t246) = true := bne_iff_ne.mpr c8
          obtain rfl := Option.some.inj H
          try go_wp2
          have n0_ := Aside0.mk (blk_drew BK243.out)
          have n1_ := Aside0.mk (blk_drew BK244.out)
          have n2_ := Aside0.mk (below_drew1 HB.out)
          clear BK243
          clear BK244
          clear HB
          have BK243 := n0_
          have BK244 := n1_
          have HB := n2_
          clear n0_ n1_ n2_
          refine start_ (n := 7) (S := fun w' => w'.cell? ⟨gb243, 0, none⟩ = some (.string a0_0) ∧ w'.cell? ⟨gb243, 1, none⟩ = some (.string a0_1) ∧ w'.cell? ⟨gb244, 0, none⟩ = some (.string a1_0) ∧ w'.cell? ⟨gb244, 1, none⟩ = some (.string a1_1)) (ds := []) #[false, false, false, false, false, false, false] (by kernel_rfl) rfl rfl ⟨(blk_cell BK243.out 0).trans rfl, (blk_cell BK243.out 1).trans rfl, (blk_cell BK244.out 0).trans rfl, (blk_cell BK244.out 1).trans rfl⟩ (fun hHeld => ?_)
          generalize wr.drew = w12 at BK243 BK244 HB hHeld ⊢
          refine pure_ (i := 1) (N := some 10) (v := ?_) (a' := ?_) #[false, true, false, false, false, false, false] rfl rfl (by kernel_rfl) (fun _ _ _ h => h) (Or.inl ⟨by rfl, ?_⟩) ?_ ?_
          rotate_left
          · intro w'
            go_simp
            with_reducible rfl
          rotate_left
          · simp only [Act.put, List.setIfInBounds_toArray, List.set_cons_zero, List.set_cons_succ, i64_w, i32_w]
            rfl
          refine pure_ (i := 4) (N := some 13) (v := ?_) (a' := ?_) #[false, true, false, false, true, false, false] rfl rfl (by kernel_rfl) (fun _ _ _ h => h) (Or.inl ⟨by rfl, ?_⟩) ?_ ?_
          rotate_left
          · intro w'
            go_simp
            with_reducible rfl
          rotate_left
          · simp only [Act.put, List.setIfInBounds_toArray, List.set_cons_zero, List.set_cons_succ, i64_w, i32_w]
            rfl
          refine take_ (i := 0) (N := some 9) (v := ?_) (a' := ?_) #[true, true, false, false, true, false, false] rfl rfl (by kernel_rfl) (fun _ _ _ h => h) (Or.inl ⟨by rfl, ?_⟩) hHeld ?_ ?_
          rotate_left
          · rintro w' ⟨s0, s1, s2, s3⟩
            go_simp
            with_reducible rfl
          rotate_left
          · simp only [Act.put, List.setIfInBounds_toArray, List.set_cons_zero, List.set_cons_succ, i64_w, i32_w]
            rfl
          refine take_ (i := 3) (N := some 12) (v := ?_) (a' := ?_) #[true, true, false, true, true, false, false] rfl rfl (by kernel_rfl) (fun _ _ _ h => h) (Or.inl ⟨by rfl, ?_⟩) hHeld ?_ ?_
          rotate_left
          · rintro w' ⟨s0, s1, s2, s3⟩
            go_simp
            with_reducible rfl
          rotate_left
          · simp only [Act.put, List.setIfInBounds_toArray, List.set_cons_zero, List.set_cons_succ, i64_w, i32_w]
            rfl
          refine one_ (i := 2) (N := some 11) #[true, true, true, true, true, false, false] rfl rfl (by kernel_rfl) (by decide) (fun K hK => ?_)
          refine goes_ Try.func49 (by kernel_rfl) rfl #[.agg #[.string a0_0, .string a0_1], .int .i64 x6_1] (by rfl) rfl rfl (by (try simp only [List.map_toArray, List.map_cons, List.map_nil]); first | done | rfl | (simp only [List.length_drop, List.length_take]; rfl)) ?_
          with_reducible refine (impl_Sequence_at.calls a0_0 a0_1 x6_1 t245 _ A6.out).mono ?_
          rintro e w13 ⟨rfl, hb⟩
          refine ⟨_, rfl, ?_⟩
          have n0_ := Aside0.mk (blk_below (g := gb243) (o := .cells #[.string a0_0, .string a0_1] 23 (0, 0)) (by (with_reducible repeat (first | refine blk_drewN ?_ _ | refine blk_drew ?_ | refine blk_alloc ?_ _)); exact BK243.out) hb)
          have n1_ := Aside0.mk (blk_below (g := gb244) (o := .cells #[.string a1_0, .string a1_1] 23 (0, 0)) (by (with_reducible repeat (first | refine blk_drewN ?_ _ | refine blk_drew ?_ | refine blk_alloc ?_ _)); exact BK244.out) hb)
          have n2_ := Aside0.mk (below_step (by repeat (first | (with_reducible first | exact HB.out | apply below_alloc | apply pw_below_drewN | apply below_drew1 | refine below_set ?_ GE243.out | refine below_set ?_ GE244.out) | exact HB.out)) hb)
          clear BK243
          clear BK244
          clear HB
          have BK243 := n0_
          have BK244 := n1_
          have HB := n2_
          clear n0_ n1_ n2_
          (try clear hb)
          (try clear hb2)
          (try clear hk)
          (try clear hi)
          refine hK.out _ _ ⟨(blk_cell BK243.out 0).trans rfl, (blk_cell BK243.out 1).trans rfl, (blk_cell BK244.out 0).trans rfl, (blk_cell BK244.out 1).trans rfl⟩ (fun hHeld => ?_)
          clear hK K
          refine norm_ (a' := ?_) ?_ ?_
          rotate_left
          · show Act.put _ (some 11) _ = _
            simp only [Act.put, List.setIfInBounds_toArray, List.set_cons_zero, List.set_cons_succ, i64_w, i32_w]
            rfl
          refine one_ (i := 5) (N := some 14) #[true, true, true, true, true, true, false] rfl rfl (by kernel_rfl) (by decide) (fun K hK => ?_)
          refine goes_ Try.func49 (by kernel_rfl) rfl #[.agg #[.string a1_0, .string a1_1], .int .i64 x6_1] (by rfl) rfl rfl (by (try simp only [List.map_toArray, List.map_cons, List.map_nil]); first | done | rfl | (simp only [List.length_drop, List.length_take]; rfl)) ?_
          with_reducible refine (impl_Sequence_at.calls a1_0 a1_1 x6_1 t246 _ A7.out).mono ?_
          rintro e w14 ⟨rfl, hb⟩
          refine ⟨_, rfl, ?_⟩
          have n0_ := Aside0.mk (blk_below (g := gb243) (o := .cells #[.string a0_0, .string a0_1] 23 (0, 0)) (by (with_reducible repeat (first | refine blk_drewN ?_ _ | refine blk_drew ?_ | refine blk_alloc ?_ _)); exact BK243.out) hb)
          have n1_ := Aside0.mk (blk_below (g := gb244) (o := .cells #[.string a1_0, .string a1_1] 23 (0, 0)) (by (with_reducible repeat (first | refine blk_drewN ?_ _ | refine blk_drew ?_ | refine blk_alloc ?_ _)); exact BK244.out) hb)
          have n2_ := Aside0.mk (below_step (by repeat (first | (with_reducible first | exact HB.out | apply below_alloc | apply pw_below_drewN | apply below_drew1 | refine below_set ?_ GE243.out | refine below_set ?_ GE244.out) | exact HB.out)) hb)
          clear BK243
          clear BK244
          clear HB
          have BK243 := n0_
          have BK244 := n1_
          have HB := n2_
          clear n0_ n1_ n2_
          (try clear hb)
          (try clear hb2)
          (try clear hk)
          (try clear hi)
          refine hK.out _ _ ⟨(blk_cell BK243.out 0).trans rfl, (blk_cell BK243.out 1).trans rfl, (blk_cell BK244.out 0).trans rfl, (blk_cell BK244.out 1).trans rfl⟩ (fun hHeld => ?_)
          clear hK K
          refine norm_ (a' := ?_) ?_ ?_
          rotate_left
          · show Act.put _ (some 14) _ = _
            simp only [Act.put, List.setIfInBounds_toArray, List.set_cons_zero, List.set_cons_succ, i64_w, i32_w]
            rfl
          refine pure_ (i := 6) (N := some 15) (v := ?_) (a' := ?_) #[true, true, true, true, true, true, true] rfl rfl (by kernel_rfl) (fun _ _ _ h => h) (Or.inl ⟨by rfl, ?_⟩) ?_ ?_
          rotate_left
          · intro w'
            go_simp
            with_reducible rfl
          rotate_left
          · simp only [Act.put, List.setIfInBounds_toArray, List.set_cons_zero, List.set_cons_succ, i64_w, i32_w]
            rfl
          refine done_ (by kernel_rfl) ?_
          try go_wp2
          go_ret
          exact ⟨by first | rfl | (simp [errW_none, errW_some] <;> rfl) | (simp [*, errW_none, errW_some] <;> rfl), by repeat (first | (with_reducible first | exact HB.out | apply below_alloc | apply pw_below_drewN | apply below_drew1 | refine below_set ?_ GE243.out | refine below_set ?_ GE244.out) | exact HB.out)⟩
      · rw [if_neg c5] at H
        have c5b0 : decide (x6_1 < 256) = false := decide_eq_false c5
        clear c5
        obtain rfl := Option.some.inj H
        go_wp2
        go_ret
        exact ⟨by first | rfl | (simp [errW_none, errW_some] <;> rfl) | (simp [*, errW_none, errW_some] <;> rfl), by repeat (first | (with_reducible first | exact HB.out | apply below_alloc | apply pw_below_drewN | apply below_drew1 | refine below_set ?_ GE243.out | refine below_set ?_ GE244.out) | exact HB.out)⟩

end Go.Proofs.Ytdnookndjbjllaa.Q
end
section
/- rho, and the list of it; where two sequences differ; star-periodic sequences: both ways to ask answer alike. -/
namespace Go.Proofs.Ytdnookndjbjllaa.Q
open Go.RowKit Go.Proofs.YtdnookndjbjllaaW.PrintWords Go.Proofs.YtdnookndjbjllaaW.PrintLast Go.Proofs.YtdnookndjbjllaaW.Ext
set_option linter.unusedVariables false
set_option linter.unusedSimpArgs false

/-! ### rho -/
def rhoGo (a b : ByteArray) (k : Nat) : Nat → Nat → Nat
  | 0, _ => 0
  | f + 1, i => if atV a b (i + k) = atV a b i then rhoGo a b k f (i + 1) else i + k + 1
def rhoV (a b : ByteArray) (k : Nat) : Nat := rhoGo a b k (a.size + b.size) 0
theorem rhoGo_bd (a b : ByteArray) (k : Nat) : ∀ f i, rhoGo a b k f i = 0 ∨ (k < rhoGo a b k f i ∧ rhoGo a b k f i ≤ i + f + k) := by
  intro f
  induction f with
  | zero => intro i; left; rfl
  | succ f ih =>
    intro i
    unfold rhoGo
    split
    · rcases ih (i + 1) with h | h
      · left; exact h
      · right; omega
    · right; omega
theorem rhoV_bd (a b : ByteArray) (k : Nat) (h64 : a.size + b.size ≤ 64) : rhoV a b k = 0 ∨ (k < rhoV a b k ∧ rhoV a b k ≤ k + 64) := by
  rcases rhoGo_bd a b k (a.size + b.size) 0 with h | h
  · left; exact h
  · right; unfold rhoV; omega
theorem ev_spec_rho (a b : ByteArray) (k : Nat) (hb : 1 ≤ b.size) (h64 : a.size + b.size ≤ 64) (hk : k ≤ 1000000) : Ev (fun n => spec_l02Rho.f n a b (k : Int)) ((rhoV a b k : Nat) : Int) := by
  unfold spec_l02Rho.f rhoV
  have key : ∀ f i, i + f = a.size + b.size → Ev (fun n => spec_l02Rho.l0 n (k : Int) ((i + k + 1 : Nat) : Int) a b) ((rhoGo a b k f i : Nat) : Int) := by
    intro f
    induction f with
    | zero =>
      intro i h
      refine Ev.step (f := fun _ => some 0) (fun n => ?_) (Ev.now _)
      rw [spec_l02Rho.l0, wrS (x := (a.size : Int) + (b.size : Int)) (by omega) (by omega), wrS (x := (k : Int) + ((a.size : Int) + (b.size : Int))) (by omega) (by omega), if_neg (by omega)]
    | succ f ih =>
      intro i h
      refine Ev.step (f := fun n => if atV a b (i + k) = atV a b i then spec_l02Rho.l0 n (k : Int) ((i + 1 + k + 1 : Nat) : Int) a b else some ((i + k + 1 : Nat) : Int)) (fun n => ?_) ?_
      · rw [spec_l02Rho.l0, wrS (x := (a.size : Int) + (b.size : Int)) (by omega) (by omega), wrS (x := (k : Int) + ((a.size : Int) + (b.size : Int))) (by omega) (by omega), if_pos (by omega), wrS (x := ((i + k + 1 : Nat) : Int) - 1) (by omega) (by omega), wrS (x := ((i + k + 1 : Nat) : Int) - (k : Int)) (by omega) (by omega), wrS (x := ((i + k + 1 : Nat) : Int) - (k : Int) - 1) (by omega) (by omega)]
        rw [show ((i + k + 1 : Nat) : Int) - 1 = ((i + k : Nat) : Int) by omega, show ((i + k + 1 : Nat) : Int) - (k : Int) - 1 = (i : Int) by omega, at_val a b (i + k) hb (by omega) (by omega), at_val a b i hb (by omega) (by omega)]
        simp only [Option.bind_some]
        rw [wrS (x := ((i + k + 1 : Nat) : Int) + 1) (by omega) (by omega), show ((i + k + 1 : Nat) : Int) + 1 = ((i + 1 + k + 1 : Nat) : Int) by omega]
      · unfold rhoGo
        by_cases z : atV a b (i + k) = atV a b i
        · simp only [if_pos z]; exact ih (i + 1) (by omega)
        · simp only [if_neg z]; exact Ev.now _
  rw [wrS (by omega) (by omega)]
  have := key (a.size + b.size) 0 (by omega)
  rw [show ((0 + k + 1 : Nat) : Int) = (k : Int) + 1 by omega] at this
  exact this
theorem ev_impl_rho (a b : ByteArray) (k : Nat) (hb : 1 ≤ b.size) (h64 : a.size + b.size ≤ 64) (hk : k ≤ 1000000) : Ev (fun n => impl_Sequence_rho.f n a b (k : Int)) ((rhoV a b k : Nat) : Int) := by
  unfold impl_Sequence_rho.f rhoV
  have key : ∀ f i, i + f = a.size + b.size → Ev (fun n => impl_Sequence_rho.l0 n (k : Int) ((a.size : Int) + (b.size : Int)) (i : Int) a b) ((rhoGo a b k f i : Nat) : Int) := by
    intro f
    induction f with
    | zero =>
      intro i h
      exact Ev.step (f := fun _ => some 0) (fun n => by rw [impl_Sequence_rho.l0, if_neg (by omega)]) (Ev.now _)
    | succ f ih =>
      intro i h
      refine Ev.step (f := fun n => if atV a b (i + k) = atV a b i then impl_Sequence_rho.l0 n (k : Int) ((a.size : Int) + (b.size : Int)) ((i + 1 : Nat) : Int) a b else some ((i + k + 1 : Nat) : Int)) (fun n => ?_) ?_
      · rw [impl_Sequence_rho.l0, if_pos (by omega), wrS (x := (i : Int) + (k : Int)) (by omega) (by omega), show (i : Int) + (k : Int) = ((i + k : Nat) : Int) by omega, at_val' a b (i + k) hb (by omega) (by omega), at_val' a b i hb (by omega) (by omega)]
        simp only [Option.bind_some]
        rw [wrS (x := (i : Int) + 1) (by omega) (by omega), wrS (x := ((i + k : Nat) : Int) + 1) (by omega) (by omega), show ((i + k : Nat) : Int) + 1 = ((i + k + 1 : Nat) : Int) by omega, show (i : Int) + 1 = ((i + 1 : Nat) : Int) by omega]
        by_cases z : atV a b (i + k) = atV a b i
        · rw [if_pos z.symm, if_pos z]
        · rw [if_neg (fun e => z e.symm), if_neg z]
      · unfold rhoGo
        by_cases z : atV a b (i + k) = atV a b i
        · simp only [if_pos z]; exact ih (i + 1) (by omega)
        · simp only [if_neg z]; exact Ev.now _
  rw [wrS (by omega) (by omega)]
  exact key (a.size + b.size) 0 (by omega)
/-! ### the list of it -/
def alongGo (a b : ByteArray) : Nat → List Int → Nat → List Int
  | 0, acc, _ => acc
  | f + 1, acc, x => if x = 0 then acc else alongGo a b f (acc ++ [(x : Int)]) (rhoV a b x)
theorem alongGo_len (a b : ByteArray) : ∀ f acc x, (alongGo a b f acc x).length ≤ acc.length + f := by
  intro f
  induction f with
  | zero => intro acc x; simp [alongGo]
  | succ f ih =>
    intro acc x
    unfold alongGo
    split
    · omega
    · refine Nat.le_trans (ih _ _) ?_
      simp
      omega
theorem ev_spec_along (a b : ByteArray) (M : Nat) (hM : M ≤ 100) (hb : 1 ≤ b.size) (h64 : a.size + b.size ≤ 64) :
    ∀ (f : Nat) (acc : List Int) (x : Nat), acc.length + f = M → x ≤ 100 * (acc.length + 1) → Ev (fun n => spec_l02Along.l0 n (M : Int) acc (x : Int) a b) (alongGo a b f acc x) := by
  intro f
  induction f with
  | zero =>
    intro acc x h hx
    refine Ev.step (f := fun _ => some acc) (fun n => ?_) (Ev.now _)
    rw [spec_l02Along.l0]
    by_cases h0 : (x : Int) > 0
    · rw [if_pos h0, if_neg (by omega)]
    · rw [if_neg h0]
  | succ f ih =>
    intro acc x h hx
    unfold alongGo
    by_cases h0 : x = 0
    · rw [if_pos h0]
      exact Ev.step (f := fun _ => some acc) (fun n => by rw [spec_l02Along.l0, if_neg (by omega)]) (Ev.now _)
    · rw [if_neg h0]
      refine Ev.step (f := fun n => (spec_l02Rho.f n a b (x : Int)).bind fun t => spec_l02Along.l0 n (M : Int) (acc ++ [(x : Int)]) t a b) (fun n => ?_) ?_
      · rw [spec_l02Along.l0, if_pos (by omega), if_pos (by omega), if_pos (by omega)]
      · refine Ev.bind (ev_spec_rho a b x hb h64 (by omega)) ?_
        have := rhoV_bd a b x h64
        exact ih _ _ (by simp; omega) (by simp; omega)
/-! ### the first letter in which two sequences differ -/
theorem at_per (a b : ByteArray) (i c : Nat) (hi : a.size ≤ i) : atV a b (i + b.size * c) = atV a b i := by
  unfold atV
  rw [if_neg (by omega), if_neg (by omega), show i + b.size * c - a.size = (i - a.size) + b.size * c by omega, Nat.add_mul_mod_self_left]
theorem at_per1 (a b : ByteArray) (i : Nat) (hi : a.size ≤ i) : atV a b (i + b.size) = atV a b i := by
  have := at_per a b i 1 hi
  rwa [Nat.mul_one] at this
section
variable {a b c d : ByteArray}
theorem diff_all {P : Nat} (ha : a.size ≤ P) (hc : c.size ≤ P) (h : ∀ i, i < P + b.size + d.size → atV a b i = atV c d i) : ∀ i, atV a b i = atV c d i := by
  intro i
  induction i using Nat.strongRecOn with
  | _ i ih =>
    by_cases hi : i < P + b.size + d.size
    · exact h i hi
    · by_cases hb : b.size = 0
      · by_cases hd : d.size = 0
        · -- both without a period: each letter is the first
          unfold atV
          rw [if_neg (by omega), if_neg (by omega)]
          have : b = ByteArray.empty := by
            apply ByteArray.ext
            apply Array.eq_empty_of_size_eq_zero
            exact hb
          have : d = ByteArray.empty := by
            apply ByteArray.ext
            apply Array.eq_empty_of_size_eq_zero
            exact hd
          simp [bt, hb, hd]
        · have e := at_per1 c d (i - d.size) (by omega)
          rw [show i - d.size + d.size = i by omega] at e
          rw [e, ← ih (i - d.size) (by omega)]
          unfold atV
          rw [if_neg (by omega), if_neg (by omega)]
          simp [bt, hb]
      · by_cases hd : d.size = 0
        · have e := at_per1 a b (i - b.size) (by omega)
          rw [show i - b.size + b.size = i by omega] at e
          rw [e, ih (i - b.size) (by omega)]
          unfold atV
          rw [if_neg (by omega), if_neg (by omega)]
          simp [bt, hd]
        · have e1 := at_per1 a b (i - b.size) (by omega)
          have e2 := at_per1 c d (i - d.size) (by omega)
          have e3 := at_per1 c d (i - b.size - d.size) (by omega)
          have e4 := at_per1 a b (i - d.size - b.size) (by omega)
          rw [show i - b.size + b.size = i by omega] at e1
          rw [show i - d.size + d.size = i by omega] at e2
          rw [show i - b.size - d.size + d.size = i - b.size by omega] at e3
          rw [show i - d.size - b.size + b.size = i - d.size by omega] at e4
          rw [e1, ih (i - b.size) (by omega), e3, ← ih (i - b.size - d.size) (by omega), show i - b.size - d.size = i - d.size - b.size by omega, ← e4, ih (i - d.size) (by omega), ← e2]
theorem diff_mul {P : Nat} (ha : a.size ≤ P) (hc : c.size ≤ P) (hb : 1 ≤ b.size) (hd : 1 ≤ d.size) (h : ∀ i, i < P + b.size * d.size → atV a b i = atV c d i) : ∀ i, atV a b i = atV c d i := by
  intro i
  induction i using Nat.strongRecOn with
  | _ i ih =>
    by_cases hi : i < P + b.size * d.size
    · exact h i hi
    · have hp : 1 ≤ b.size * d.size := Nat.mul_pos hb hd
      have e1 := at_per a b (i - b.size * d.size) d.size (by omega)
      have e2 := at_per c d (i - b.size * d.size) b.size (by omega)
      rw [Nat.mul_comm d.size b.size] at e2
      rw [show i - b.size * d.size + b.size * d.size = i by omega] at e1 e2
      rw [e1, e2, ih (i - b.size * d.size) (by omega)]
theorem ev_spec_diff (hb : 1 ≤ b.size) (hd : 1 ≤ d.size) (ha : a.size ≤ 64) (hc : c.size ≤ 64) {N i0 : Nat} (hN : N ≤ 100000) (h0 : i0 < N) (hn : atV a b i0 ≠ atV c d i0) (hl : ∀ i, i < i0 → atV a b i = atV c d i) :
    ∀ (f i : Nat), i + f = i0 → Ev (fun n => spec_l02Difference.l0 n (N : Int) (i : Int) a b c d) ((i0 + 1 : Nat) : Int) := by
  intro f
  induction f with
  | zero =>
    intro i h
    obtain rfl : i = i0 := by omega
    refine Ev.step (f := fun _ => some ((i + 1 : Nat) : Int)) (fun n => ?_) (Ev.now _)
    rw [spec_l02Difference.l0, if_pos (by omega), at_val a b i hb (by omega) (by omega), at_val c d i hd (by omega) (by omega)]
    simp only [Option.bind_some, if_neg hn]
    rw [wrS (by omega) (by omega)]
    rfl
  | succ f ih =>
    intro i h
    refine Ev.step (f := fun n => spec_l02Difference.l0 n (N : Int) ((i + 1 : Nat) : Int) a b c d) (fun n => ?_) (ih (i + 1) (by omega))
    rw [spec_l02Difference.l0, if_pos (by omega), at_val a b i hb (by omega) (by omega), at_val c d i hd (by omega) (by omega)]
    simp only [Option.bind_some, if_pos (hl i (by omega))]
    rw [wrS (by omega) (by omega)]
    rfl
theorem ev_spec_same (hb : 1 ≤ b.size) (hd : 1 ≤ d.size) (ha : a.size ≤ 64) (hc : c.size ≤ 64) {N : Nat} (hN : N ≤ 100000) (hl : ∀ i, atV a b i = atV c d i) :
    ∀ (f i : Nat), i + f = N → Ev (fun n => spec_l02Difference.l0 n (N : Int) (i : Int) a b c d) 0 := by
  intro f
  induction f with
  | zero =>
    intro i h
    exact Ev.step (f := fun _ => some 0) (fun n => by rw [spec_l02Difference.l0, if_neg (by omega)]) (Ev.now _)
  | succ f ih =>
    intro i h
    refine Ev.step (f := fun n => spec_l02Difference.l0 n (N : Int) ((i + 1 : Nat) : Int) a b c d) (fun n => ?_) (ih (i + 1) (by omega))
    rw [spec_l02Difference.l0, if_pos (by omega), at_val a b i hb (by omega) (by omega), at_val c d i hd (by omega) (by omega)]
    simp only [Option.bind_some, if_pos (hl i)]
    rw [wrS (by omega) (by omega)]
    rfl
theorem ev_impl_diff (hb : 1 ≤ b.size) (hd : 1 ≤ d.size) (ha : a.size ≤ 64) (hc : c.size ≤ 64) {i0 : Nat} (h0 : i0 < 256) (hn : atV a b i0 ≠ atV c d i0) (hl : ∀ i, i < i0 → atV a b i = atV c d i) :
    ∀ (f i : Nat), i + f = i0 → Ev (fun n => impl_Sequence_difference.l0 n (i : Int) a b c d) ((i0 + 1 : Nat) : Int) := by
  intro f
  induction f with
  | zero =>
    intro i h
    obtain rfl : i = i0 := by omega
    refine Ev.step (f := fun _ => some ((i + 1 : Nat) : Int)) (fun n => ?_) (Ev.now _)
    rw [impl_Sequence_difference.l0, if_pos (by omega), at_val' a b i hb (by omega) (by omega), at_val' c d i hd (by omega) (by omega)]
    simp only [Option.bind_some, if_neg hn]
    rw [wrS (by omega) (by omega)]
    rfl
  | succ f ih =>
    intro i h
    refine Ev.step (f := fun n => impl_Sequence_difference.l0 n ((i + 1 : Nat) : Int) a b c d) (fun n => ?_) (ih (i + 1) (by omega))
    rw [impl_Sequence_difference.l0, if_pos (by omega), at_val' a b i hb (by omega) (by omega), at_val' c d i hd (by omega) (by omega)]
    simp only [Option.bind_some, if_pos (hl i (by omega))]
    rw [wrS (by omega) (by omega)]
    rfl
theorem ev_impl_same (hb : 1 ≤ b.size) (hd : 1 ≤ d.size) (ha : a.size ≤ 64) (hc : c.size ≤ 64) (hl : ∀ i, atV a b i = atV c d i) :
    ∀ (f i : Nat), i + f = 256 → Ev (fun n => impl_Sequence_difference.l0 n (i : Int) a b c d) 0 := by
  intro f
  induction f with
  | zero =>
    intro i h
    exact Ev.step (f := fun _ => some 0) (fun n => by rw [impl_Sequence_difference.l0, if_neg (by omega)]) (Ev.now _)
  | succ f ih =>
    intro i h
    refine Ev.step (f := fun n => impl_Sequence_difference.l0 n ((i + 1 : Nat) : Int) a b c d) (fun n => ?_) (ih (i + 1) (by omega))
    rw [impl_Sequence_difference.l0, if_pos (by omega), at_val' a b i hb (by omega) (by omega), at_val' c d i hd (by omega) (by omega)]
    simp only [Option.bind_some, if_pos (hl i)]
    rw [wrS (by omega) (by omega)]
    rfl
theorem both_diff (hb : 1 ≤ b.size) (hd : 1 ≤ d.size) (ha : a.size + b.size ≤ 64) (hc : c.size + d.size ≤ 64) : ∃ r : Int, Ev (fun n => spec_l02Difference.f n a b c d) r ∧ Ev (fun n => impl_Sequence_difference.f n a b c d) r := by
  obtain ⟨P, hP⟩ : ∃ P : Nat, mx (a.size : Int) (c.size : Int) = (P : Int) ∧ a.size ≤ P ∧ c.size ≤ P ∧ P ≤ 64 := by
    unfold mx
    by_cases h : (a.size : Int) < (c.size : Int)
    · exact ⟨c.size, by rw [if_pos h], by omega, by omega, by omega⟩
    · exact ⟨a.size, by rw [if_neg h], by omega, by omega, by omega⟩
  obtain ⟨hP, pa, pc, p64⟩ := hP
  have hm : b.size * d.size ≤ 64 * 64 := Nat.mul_le_mul (by omega) (by omega)
  have hN : wrap64 (mx (a.size : Int) (c.size : Int) + wrap64 ((b.size : Int) * (d.size : Int))) = ((P + b.size * d.size : Nat) : Int) := by
    rw [hP, show (b.size : Int) * (d.size : Int) = ((b.size * d.size : Nat) : Int) by simp]
    generalize b.size * d.size = q at *
    rw [wrS (x := (q : Int)) (by omega) (by omega), wrS (by omega) (by omega)]
    omega
  unfold spec_l02Difference.f impl_Sequence_difference.f
  rw [hN]
  by_cases h : ∃ i, atV a b i ≠ atV c d i
  · obtain ⟨j, hj⟩ := h
    obtain ⟨M, _, _, m3, m4⟩ := leastS (P := fun j => atV a b (j - 1) ≠ atV c d (j - 1)) (j + 1) (by omega) (by simpa using hj)
    have hl : ∀ i, i < M - 1 → atV a b i = atV c d i := by
      intro i hi
      by_cases e : atV a b i = atV c d i
      · exact e
      · exact absurd (by simpa using e) (m4 (i + 1) (by omega) (by omega))
    have hA : M - 1 < P + b.size + d.size := by
      rcases Nat.lt_or_ge (M - 1) (P + b.size + d.size) with g | g
      · exact g
      · exact absurd (diff_all pa pc (fun i hi => hl i (by omega)) (M - 1)) m3
    have hB : M - 1 < P + b.size * d.size := by
      rcases Nat.lt_or_ge (M - 1) (P + b.size * d.size) with g | g
      · exact g
      · exact absurd (diff_mul pa pc hb hd (fun i hi => hl i (by omega)) (M - 1)) m3
    exact ⟨_, ev_spec_diff hb hd (by omega) (by omega) (by omega) hB m3 hl (M - 1) 0 (by omega), ev_impl_diff hb hd (by omega) (by omega) (by omega) m3 hl (M - 1) 0 (by omega)⟩
  · have hl : ∀ i, atV a b i = atV c d i := fun i => by
      by_cases e : atV a b i = atV c d i
      · exact e
      · exact absurd ⟨i, e⟩ h
    exact ⟨0, ev_spec_same hb hd (by omega) (by omega) (by omega) hl (P + b.size * d.size) 0 (by omega), ev_impl_same hb hd (by omega) (by omega) hl 256 0 (by omega)⟩
end
/-! ### star-periodic -/
theorem star_none (a b : ByteArray) (hb : 1 ≤ b.size) (h64 : b.size ≤ 64) (h : ∀ i : Nat, i < b.size - 1 → bt b (i : Int) ≠ 42) : ∀ d i, i + d = b.size - 1 → Ev (fun k => spec_l02Star.l0 k (b.size : Int) (i : Int) a b) true := by
  intro d
  induction d with
  | zero =>
    intro i hi
    exact Ev.step (f := fun _ => some true) (fun k => by rw [spec_l02Star.l0, wrS (x := (b.size : Int) - 1) (by omega) (by omega), if_neg (by omega)]) (Ev.now _)
  | succ d ih =>
    intro i hi
    refine Ev.step (f := fun k => spec_l02Star.l0 k (b.size : Int) ((i + 1 : Nat) : Int) a b) (fun k => ?_) (ih (i + 1) (by omega))
    rw [spec_l02Star.l0, wrS (x := (b.size : Int) - 1) (by omega) (by omega), if_pos (by omega), if_pos (by omega), if_pos (by omega), if_neg (h i (by omega)), wrS (x := (i : Int) + 1) (by omega) (by omega)]
    rfl
theorem star_some (a b : ByteArray) (hb : 1 ≤ b.size) (h64 : b.size ≤ 64) : ∀ d i, i + d = b.size - 1 → (∃ t : Nat, i ≤ t ∧ t < b.size - 1 ∧ bt b (t : Int) = 42) → Ev (fun k => spec_l02Star.l0 k (b.size : Int) (i : Int) a b) false := by
  intro d
  induction d with
  | zero =>
    intro i hi ht
    obtain ⟨t, t1, t2, _⟩ := ht
    omega
  | succ d ih =>
    intro i hi ht
    by_cases e : bt b (i : Int) = 42
    · refine Ev.step (f := fun _ => some false) (fun k => ?_) (Ev.now _)
      rw [spec_l02Star.l0, wrS (x := (b.size : Int) - 1) (by omega) (by omega), if_pos (by omega), if_pos (by omega), if_pos (by omega), if_pos e]
    · obtain ⟨t, t1, t2, t3⟩ := ht
      refine Ev.step (f := fun k => spec_l02Star.l0 k (b.size : Int) ((i + 1 : Nat) : Int) a b) (fun k => ?_) (ih (i + 1) (by omega) ⟨t, ?_, t2, t3⟩)
      · rw [spec_l02Star.l0, wrS (x := (b.size : Int) - 1) (by omega) (by omega), if_pos (by omega), if_pos (by omega), if_pos (by omega), if_neg e, wrS (x := (i : Int) + 1) (by omega) (by omega)]
        rfl
      · rcases Nat.lt_or_ge i t with g | g
        · exact g
        · have : t = i := by omega
          subst this
          exact absurd t3 e
theorem bt_star (b : ByteArray) (i : Nat) (hi : i < b.size) : bt b (i : Int) = 42 ↔ b.data.toList[i]? = some 42 := by
  have hi' : i < b.data.toList.length := by rw [← Lib.size_eq]; exact hi
  rw [List.getElem?_eq_getElem hi']
  unfold bt
  rw [Int.toNat_natCast, dif_pos hi]
  have e1 : b[i] = b.data.toList[i] := by simp [ByteArray.getElem_eq_getElem_data]
  rw [e1]
  constructor
  · intro h
    have : b.data.toList[i].toNat = (42 : UInt8).toNat := by
      show _ = 42
      omega
    rw [UInt8.toNat_inj.1 this]
  · intro h
    rw [Option.some.inj h]
    rfl
/-- What 'strings.IndexByte(Per, '*') == len(Per)-1' asks. -/
theorem index_last (b : ByteArray) (hb : 1 ≤ b.size) : Lib.indexByte b.data.toList 42 = ((b.size - 1 : Nat) : Int) ↔ (bt b ((b.size - 1 : Nat) : Int) = 42 ∧ ∀ i : Nat, i < b.size - 1 → bt b (i : Int) ≠ 42) := by
  constructor
  · intro h
    obtain ⟨h1, h2⟩ := Lib.indexByte_some h
    exact ⟨(bt_star b _ (by omega)).2 h1, fun i hi e => h2 i hi ((bt_star b i (by omega)).1 e)⟩
  · rintro ⟨h1, h2⟩
    have g := Lib.indexByte_ge b.data.toList 42
    have k1 := (bt_star b (b.size - 1) (by omega)).1 h1
    by_cases e : Lib.indexByte b.data.toList 42 = -1
    · exact absurd k1 (Lib.indexByte_none e (b.size - 1))
    · obtain ⟨o, ho⟩ := Int.eq_ofNat_of_zero_le (show 0 ≤ Lib.indexByte b.data.toList 42 by omega)
      obtain ⟨o1, o2⟩ := Lib.indexByte_some ho
      rw [ho]
      rcases Nat.lt_trichotomy o (b.size - 1) with z | z | z
      · exact absurd ((bt_star b o (by omega)).2 o1) (h2 o z)
      · rw [z]
      · exact absurd k1 (o2 _ z)
theorem both_star (a b : ByteArray) (hb : 1 ≤ b.size) (h64 : a.size + b.size ≤ 64) : ∃ r : Bool, Ev (fun k => spec_l02Star.f k a b) r ∧ impl_Sequence_isStar.f a b = some r ∧
    (r = true → a.size = 0 ∧ bt b ((b.size - 1 : Nat) : Int) = 42 ∧ ∀ i : Nat, i < b.size - 1 → bt b (i : Int) ≠ 42) := by
  have jt : Ev (fun k => spec_l02Star.j0 k (b.size : Int) true a b) false := Ev.step (f := fun _ => some false) (fun k => by rw [spec_l02Star.j0, if_pos rfl]) (Ev.now _)
  have jf : ∀ r, Ev (fun k => spec_l02Star.l0 k (b.size : Int) 0 a b) r → Ev (fun k => spec_l02Star.j0 k (b.size : Int) false a b) r := fun r h => Ev.step (f := fun k => spec_l02Star.l0 k (b.size : Int) 0 a b) (fun k => by rw [spec_l02Star.j0, if_neg (by decide)]) h
  have ix : strings_IndexByte.f b 42 = some (Lib.indexByte b.data.toList 42) := by
    unfold strings_IndexByte.f
    rw [if_pos (by omega)]
    rfl
  by_cases ha : a.size = 0
  · have hs : ∀ r, Ev (fun k => if bt b ((b.size - 1 : Nat) : Int) = 42 then (if (b.size : Int) > 1 then spec_l02Star.j0 k (b.size : Int) (bt b 0 != 49) a b else spec_l02Star.j0 k (b.size : Int) false a b) else spec_l02Star.j0 k (b.size : Int) true a b) r → Ev (fun k => spec_l02Star.f k a b) r := by
      intro r h
      refine Ev.congr (fun k => ?_) h
      unfold spec_l02Star.f
      rw [if_pos ((nil_iff a).2 ha), wrS (x := (b.size : Int) - 1) (by omega) (by omega), show (b.size : Int) - 1 = ((b.size - 1 : Nat) : Int) by omega, if_pos (by omega), if_pos (by omega)]
      by_cases h1 : (b.size : Int) > 1
      · rw [if_pos h1, if_pos h1, if_pos (show 0 < (b.size : Int) by omega)]
      · rw [if_neg h1, if_neg h1]
    have hi : impl_Sequence_isStar.f a b = if Lib.indexByte b.data.toList 42 = ((b.size - 1 : Nat) : Int) then (if (b.size : Int) = 1 then some true else some (bt b 0 == 49)) else some false := by
      unfold impl_Sequence_isStar.f
      rw [if_pos ((nil_iff a).2 ha), ix, Option.bind_some, wrS (x := (b.size : Int) - 1) (by omega) (by omega), show (b.size : Int) - 1 = ((b.size - 1 : Nat) : Int) by omega, if_pos (show 0 < (b.size : Int) by omega)]
    by_cases hl : bt b ((b.size - 1 : Nat) : Int) = 42
    · by_cases hn : ∀ i : Nat, i < b.size - 1 → bt b (i : Int) ≠ 42
      · have hidx := (index_last b hb).2 ⟨hl, hn⟩
        rw [if_pos hidx] at hi
        have lp := star_none a b hb (by omega) hn (b.size - 1) 0 (by omega)
        by_cases h1 : b.size = 1
        · refine ⟨true, hs _ ?_, by rw [hi, if_pos (by omega)], fun _ => ⟨ha, hl, hn⟩⟩
          simp only [if_pos hl, if_neg (show ¬ (b.size : Int) > 1 by omega)]
          exact jf _ lp
        · refine ⟨bt b 0 == 49, hs _ ?_, by rw [hi, if_neg (by omega)], fun _ => ⟨ha, hl, hn⟩⟩
          simp only [if_pos hl, if_pos (show (b.size : Int) > 1 by omega)]
          by_cases h0 : bt b 0 = 49
          · have e1 : (bt b 0 != 49) = false := bne_eq_false_iff_eq.2 h0
            have e2 : (bt b 0 == 49) = true := beq_iff_eq.2 h0
            simp only [e1, e2]
            exact jf _ lp
          · have e1 : (bt b 0 != 49) = true := bne_iff_ne.2 h0
            have e2 : (bt b 0 == 49) = false := beq_eq_false_iff_ne.2 h0
            simp only [e1, e2]
            exact jt
      · have hidx : ¬ Lib.indexByte b.data.toList 42 = ((b.size - 1 : Nat) : Int) := fun e => hn ((index_last b hb).1 e).2
        rw [if_neg hidx] at hi
        refine ⟨false, hs _ ?_, hi, by simp⟩
        have ht : ∃ t : Nat, 0 ≤ t ∧ t < b.size - 1 ∧ bt b (t : Int) = 42 := by
          by_cases g : ∃ t : Nat, 0 ≤ t ∧ t < b.size - 1 ∧ bt b (t : Int) = 42
          · exact g
          · exact absurd (fun i hi e => g ⟨i, by omega, hi, e⟩) hn
        have lp := star_some a b hb (by omega) (b.size - 1) 0 (by omega) ht
        obtain ⟨t, _, t2, _⟩ := ht
        simp only [if_pos hl, if_pos (show (b.size : Int) > 1 by omega)]
        cases e : (bt b 0 != 49)
        · exact jf _ lp
        · exact jt
    · have hidx : ¬ Lib.indexByte b.data.toList 42 = ((b.size - 1 : Nat) : Int) := fun e => hl ((index_last b hb).1 e).1
      rw [if_neg hidx] at hi
      refine ⟨false, hs _ ?_, hi, by simp⟩
      simp only [if_neg hl]
      exact jt
  · refine ⟨false, ?_, ?_, by simp⟩
    · unfold spec_l02Star.f
      simp only [if_neg (fun z => ha ((nil_iff a).1 z))]
      exact jt
    · unfold impl_Sequence_isStar.f
      rw [if_neg (fun z => ha ((nil_iff a).1 z))]
end Go.Proofs.Ytdnookndjbjllaa.Q
end
section
/- Whether a star-periodic sequence fails for a number, whether it is admissible: both ways to ask answer alike. -/
namespace Go.Proofs.Ytdnookndjbjllaa.Q
open Go.RowKit Go.Proofs.YtdnookndjbjllaaW.PrintWords Go.Proofs.YtdnookndjbjllaaW.PrintLast Go.Proofs.YtdnookndjbjllaaW.Ext
set_option linter.unusedVariables false
set_option linter.unusedSimpArgs false

/-- The numbers that rho leads to. -/
def itR (a b : ByteArray) (x : Nat) : Nat → Nat
  | 0 => x
  | j + 1 => if itR a b x j = 0 then 0 else rhoV a b (itR a b x j)
def leads (a b : ByteArray) (x m : Nat) : Prop := ∃ j, itR a b x j = m
section
variable {a b : ByteArray} (h64 : a.size + b.size ≤ 64)
include h64
theorem itR_ge (x : Nat) : ∀ j, itR a b x j = 0 ∨ x + j ≤ itR a b x j := by
  intro j
  induction j with
  | zero => right; exact Nat.le_refl _
  | succ j ih =>
    unfold itR
    rcases ih with h | h
    · left; rw [if_pos h]
    · by_cases z : itR a b x j = 0
      · left; rw [if_pos z]
      · rw [if_neg z]
        rcases rhoV_bd a b (itR a b x j) h64 with g | g
        · left; exact g
        · right; omega
omit h64 in
theorem itR_zero : ∀ j, itR a b 0 j = 0 := by
  intro j
  induction j with
  | zero => rfl
  | succ j ih => unfold itR; rw [if_pos ih]
omit h64 in
theorem itR_shift (x : Nat) (hx : x ≠ 0) : ∀ j, itR a b x (j + 1) = itR a b (rhoV a b x) j := by
  intro j
  induction j with
  | zero => show (if x = 0 then 0 else rhoV a b x) = _; rw [if_neg hx]; rfl
  | succ j ih =>
    show (if itR a b x (j + 1) = 0 then 0 else rhoV a b (itR a b x (j + 1))) = (if itR a b (rhoV a b x) j = 0 then 0 else rhoV a b (itR a b (rhoV a b x) j))
    rw [ih]
omit h64 in
theorem leads_zero {m : Nat} (hm : 1 ≤ m) : ¬ leads a b 0 m := by
  rintro ⟨j, h⟩
  rw [itR_zero] at h
  omega
theorem leads_gt {x m : Nat} (hm : 1 ≤ m) (h : m < x) : ¬ leads a b x m := by
  rintro ⟨j, e⟩
  rcases itR_ge h64 x j with g | g <;> omega
omit h64 in
theorem leads_eq (m : Nat) : leads a b m m := ⟨0, rfl⟩
omit h64 in
theorem leads_lt {x m : Nat} (hx : x ≠ 0) (h : x ≠ m) : leads a b x m ↔ leads a b (rhoV a b x) m := by
  constructor
  · rintro ⟨j, e⟩
    cases j with
    | zero => exact absurd e h
    | succ j => exact ⟨j, by rw [← itR_shift x hx]; exact e⟩
  · rintro ⟨j, e⟩
    exact ⟨j + 1, by rw [itR_shift x hx]; exact e⟩
theorem ev_reaches (hb : 1 ≤ b.size) {m : Nat} (hm : 1 ≤ m) (hm2 : m ≤ 1000) (r : Bool) :
    ∀ d x : Nat, m ≤ x + d → x ≤ 2000 → (r = true ↔ leads a b x m) → Ev (fun n => impl_Sequence_reaches.l0 n (x : Int) (m : Int) a b) r := by
  have fin : ∀ x : Nat, (x = 0 ∨ m ≤ x) → (r = true ↔ leads a b x m) → Ev (fun n => impl_Sequence_reaches.l0 n (x : Int) (m : Int) a b) r := by
    intro x hx hr
    have e : ((x : Int) == (m : Int)) = r := by
      rw [Bool.eq_iff_iff, hr, beq_iff_eq]
      rcases hx with rfl | h
      · constructor
        · intro h; omega
        · intro h; exact absurd h (leads_zero hm)
      · rcases Nat.lt_or_ge m x with g | g
        · constructor
          · intro h; omega
          · intro h; exact absurd h (leads_gt h64 hm g)
        · have : x = m := by omega
          subst this
          exact ⟨fun _ => leads_eq x, fun _ => rfl⟩
    refine Ev.step (f := fun _ => some ((x : Int) == (m : Int))) (fun n => ?_) (by rw [e]; exact Ev.now _)
    rw [impl_Sequence_reaches.l0]
    by_cases h0 : (x : Int) = 0
    · rw [if_pos h0]
    · rw [if_neg h0, if_neg (by omega)]
  intro d
  induction d with
  | zero => intro x h _ hr; exact fin x (by omega) hr
  | succ d ih =>
    intro x h hx hr
    by_cases hc : x = 0 ∨ m ≤ x
    · exact fin x hc hr
    · refine Ev.step (f := fun n => (impl_Sequence_rho.f n a b (x : Int)).bind fun t => impl_Sequence_reaches.l0 n t (m : Int) a b) (fun n => ?_) ?_
      · rw [impl_Sequence_reaches.l0, if_neg (by omega), if_pos (by omega)]
      · refine Ev.bind (ev_impl_rho a b x hb h64 (by omega)) ?_
        have hbd := rhoV_bd a b x h64
        have hr2 := hr.trans (leads_lt (by omega) (by omega))
        by_cases hz : rhoV a b x = 0
        · exact fin _ (Or.inl hz) hr2
        · exact ih _ (by omega) (by omega) hr2
theorem mem_along {m : Nat} (hm : 1 ≤ m) : ∀ (f : Nat) (acc : List Int) (x : Nat), (x = 0 ∨ m < x + f) → ((m : Int) ∈ alongGo a b f acc x ↔ (m : Int) ∈ acc ∨ leads a b x m) := by
  intro f
  induction f with
  | zero =>
    intro acc x hx
    have : ¬ leads a b x m := by
      rcases hx with rfl | h
      · exact leads_zero hm
      · exact leads_gt h64 hm (by omega)
    simp [alongGo, this]
  | succ f ih =>
    intro acc x hx
    unfold alongGo
    by_cases h0 : x = 0
    · rw [if_pos h0]
      subst h0
      simp [leads_zero hm]
    · rw [if_neg h0]
      have hbd := rhoV_bd a b x h64
      rw [ih _ _ (by omega)]
      by_cases e : x = m
      · subst e
        simp [leads_eq x]
      · rw [leads_lt h0 e]
        have : (m : Int) ≠ (x : Int) := by omega
        simp [this]
end
theorem ev_has (l : List Int) (m : Int) (hl : l.length ≤ 1000) : Ev (fun n => spec_l02Has.f n l m) (decide (m ∈ l)) := by
  unfold spec_l02Has.f
  have key : ∀ d i : Nat, i + d = l.length → Ev (fun n => spec_l02Has.l0 n l m (i : Int)) (decide (m ∈ l.drop i)) := by
    intro d
    induction d with
    | zero =>
      intro i h
      rw [List.drop_of_length_le (by omega)]
      exact Ev.step (f := fun _ => some false) (fun n => by rw [spec_l02Has.l0, if_neg (by omega)]) (Ev.now _)
    | succ d ih =>
      intro i h
      have hi : i < l.length := by omega
      have e : rd l (i : Int) = l[i] := by simp [rd, hi]
      refine Ev.step (f := fun n => if l[i] = m then some true else spec_l02Has.l0 n l m ((i + 1 : Nat) : Int)) (fun n => ?_) ?_
      · rw [spec_l02Has.l0, if_pos (by omega), if_pos (by omega), e, wrS (by omega) (by omega)]
        rfl
      · rw [List.drop_eq_getElem_cons hi]
        by_cases z : l[i] = m
        · simp only [if_pos z, z, List.mem_cons, true_or, decide_true]
          exact Ev.now _
        · simp only [if_neg z]
          have z2 : m ≠ l[i] := fun h => z h.symm
          rw [show decide (m ∈ l[i] :: l.drop (i + 1)) = decide (m ∈ l.drop (i + 1)) from by rw [decide_eq_decide]; exact ⟨fun h => (List.mem_cons.1 h).resolve_left z2, fun h => List.mem_cons_of_mem _ h⟩]
          exact ih (i + 1) (by omega)
  simpa using key l.length 0 (by omega)
/-! ### fails -/
section
variable {a b : ByteArray} (hb : 1 ≤ b.size) (h64 : a.size + b.size ≤ 64) (ha : a.size = 0) (hs : bt b ((b.size - 1 : Nat) : Int) = 42) (hn : ∀ i : Nat, i < b.size - 1 → bt b (i : Int) ≠ 42)
include hb h64 ha hs hn
theorem rho_ne {k : Nat} (h1 : 1 ≤ k) (hk : k < b.size) : rhoV a b k ≠ 0 := by
  have hd : atV a b (b.size - 1 + k) ≠ atV a b (b.size - 1) := by
    unfold atV
    rw [if_neg (by omega), if_neg (by omega), ha, Nat.sub_zero, Nat.sub_zero, Nat.mod_eq_of_lt (show b.size - 1 < b.size by omega), show b.size - 1 + k = (k - 1) + b.size by omega, Nat.add_mod_right, Nat.mod_eq_of_lt (show k - 1 < b.size by omega), hs]
    exact hn _ (by omega)
  have key : ∀ f i, i ≤ b.size - 1 → b.size - 1 < i + f → rhoGo a b k f i ≠ 0 := by
    intro f
    induction f with
    | zero => intro i h1 h2; omega
    | succ f ih =>
      intro i h1 h2
      unfold rhoGo
      by_cases e : atV a b (i + k) = atV a b i
      · rw [if_pos e]
        refine ih (i + 1) ?_ (by omega)
        rcases Nat.lt_or_ge i (b.size - 1) with g | g
        · omega
        · have : i = b.size - 1 := by omega
          subst this
          exact absurd e hd
      · rw [if_neg e]; omega
  exact key (a.size + b.size) 0 (by omega) (by omega)
theorem both_fails_loop {m : Nat} (m1 : 1 ≤ m) (m2 : m < b.size) :
    ∀ d i : Nat, i + d = m → 1 ≤ i → ∃ r : Bool, Ev (fun n => spec_l02Fails.l0 n (m : Int) (b.size : Int) (i : Int) a b) r ∧ Ev (fun n => impl_Sequence_fails.l0 n (m : Int) (i : Int) a b) r := by
  intro d
  induction d with
  | zero =>
    intro i h h1
    obtain rfl : i = m := by omega
    have hr := rho_ne hb h64 ha hs hn h1 m2
    have hbd := rhoV_bd a b i h64
    obtain ⟨t, ht⟩ : ∃ t : Nat, (rhoV a b i - 1) % i + 1 = t := ⟨_, rfl⟩
    have hm := Nat.mod_lt (rhoV a b i - 1) (show 0 < i by omega)
    have e : wrap64 (Int.tmod (wrap64 (((rhoV a b i : Nat) : Int) - 1)) (i : Int) + 1) = (t : Int) := by
      rw [wrS (x := ((rhoV a b i : Nat) : Int) - 1) (by omega) (by omega), show ((rhoV a b i : Nat) : Int) - 1 = ((rhoV a b i - 1 : Nat) : Int) by omega, tmod_nat, wrS (by omega) (by omega)]
      omega
    have em : wrap64 ((b.size : Int) + 1) = ((b.size + 1 : Nat) : Int) := by rw [wrS (by omega) (by omega)]; rfl
    have al := ev_spec_along a b (b.size + 1) (by omega) hb h64 (b.size + 1) [] t (by simp) (by simp; omega)
    have hl := alongGo_len a b (b.size + 1) [] t
    refine ⟨decide ((i : Int) ∈ alongGo a b (b.size + 1) [] t), ?_, ?_⟩
    · refine Ev.step (f := fun n => (spec_l02Rho.f n a b (i : Int)).bind fun t356 => ((spec_l02Along.f n a b (wrap64 ((Int.tmod (wrap64 (t356 - 1)) (i : Int)) + 1)) (wrap64 ((b.size : Int) + 1))).bind fun t357 => ((spec_l02Has.f n t357 (i : Int)).bind fun t360 => (some t360)))) (fun n => by rw [spec_l02Fails.l0, if_neg (by omega)]; simp only [if_neg (show ¬ (i : Int) = 0 by omega)]) ?_
      refine Ev.bind (ev_spec_rho a b i hb h64 (by omega)) ?_
      rw [e, em]
      unfold spec_l02Along.f
      refine Ev.bind al ?_
      exact Ev.bind (ev_has _ _ (by simp at hl; omega)) (Ev.now _)
    · refine Ev.step (f := fun n => (impl_Sequence_rho.f n a b (i : Int)).bind fun t371 => ((impl_Sequence_reaches.f n a b (wrap64 ((Int.tmod (wrap64 (t371 - 1)) (i : Int)) + 1)) (i : Int)).bind fun t372 => (some t372))) (fun n => by rw [impl_Sequence_fails.l0, if_neg (by omega)]; simp only [if_neg (show ¬ (i : Int) = 0 by omega)]) ?_
      refine Ev.bind (ev_impl_rho a b i hb h64 (by omega)) ?_
      rw [e]
      unfold impl_Sequence_reaches.f
      refine Ev.bind ?_ (Ev.now _)
      refine ev_reaches h64 hb h1 (by omega) _ i t (by omega) (by omega) ?_
      rw [decide_eq_true_iff, mem_along h64 h1 (b.size + 1) [] t (Or.inr (by omega))]
      simp
  | succ d ih =>
    intro i h h1
    obtain ⟨r, r1, r2⟩ := ih (i + 1) (by omega) (by omega)
    have hr := rho_ne hb h64 ha hs hn h1 (by omega)
    have hbd := rhoV_bd a b i h64
    have hs' : ∀ r, Ev (fun n => if (m % i = 0) then (if ((rhoV a b i : Nat) : Int) > (m : Int) then some false else spec_l02Fails.l0 n (m : Int) (b.size : Int) ((i + 1 : Nat) : Int) a b) else spec_l02Fails.l0 n (m : Int) (b.size : Int) ((i + 1 : Nat) : Int) a b) r → Ev (fun n => spec_l02Fails.l0 n (m : Int) (b.size : Int) (i : Int) a b) r := by
      intro r hh
      refine Ev.step (f := fun n => (spec_l02Rho.f n a b (i : Int)).bind fun t355 => (if (Int.tmod (m : Int) (i : Int)) = 0 then (if t355 = 0 then (some false) else (if t355 > (m : Int) then (some false) else (spec_l02Fails.l0 n (m : Int) (b.size : Int) (wrap64 ((i : Int) + 1)) a b))) else (spec_l02Fails.l0 n (m : Int) (b.size : Int) (wrap64 ((i : Int) + 1)) a b))) (fun n => by rw [spec_l02Fails.l0, if_pos (by omega)]; simp only [if_neg (show ¬ (i : Int) = 0 by omega)]) ?_
      refine Ev.bind (ev_spec_rho a b i hb h64 (by omega)) ?_
      refine Ev.congr (fun n => ?_) hh
      rw [tmod_nat, wrS (x := (i : Int) + 1) (by omega) (by omega), show (i : Int) + 1 = ((i + 1 : Nat) : Int) by omega]
      by_cases hd : m % i = 0
      · rw [if_pos (by omega), if_neg (by omega), if_pos hd]
      · rw [if_neg (by omega), if_neg hd]
    have hi' : ∀ r, Ev (fun n => if (m % i = 0) then (if ((rhoV a b i : Nat) : Int) > (m : Int) then some false else impl_Sequence_fails.l0 n (m : Int) ((i + 1 : Nat) : Int) a b) else impl_Sequence_fails.l0 n (m : Int) ((i + 1 : Nat) : Int) a b) r → Ev (fun n => impl_Sequence_fails.l0 n (m : Int) (i : Int) a b) r := by
      intro r hh
      by_cases hd : m % i = 0
      · refine Ev.step (f := fun n => (impl_Sequence_rho.f n a b (i : Int)).bind fun t370 => (if t370 > (m : Int) then (some false) else (impl_Sequence_fails.l0 n (m : Int) ((i + 1 : Nat) : Int) a b))) (fun n => ?_) ?_
        · rw [impl_Sequence_fails.l0, if_pos (by omega), if_neg (by omega), tmod_nat, if_pos (by omega), wrS (x := (i : Int) + 1) (by omega) (by omega)]
          rfl
        · refine Ev.bind (ev_impl_rho a b i hb h64 (by omega)) ?_
          simpa only [if_pos hd] using hh
      · refine Ev.step (f := fun n => impl_Sequence_fails.l0 n (m : Int) ((i + 1 : Nat) : Int) a b) (fun n => ?_) (by simpa only [if_neg hd] using hh)
        rw [impl_Sequence_fails.l0, if_pos (by omega), if_neg (by omega), tmod_nat, if_neg (by omega), wrS (x := (i : Int) + 1) (by omega) (by omega)]
        rfl
    by_cases hd : m % i = 0
    · by_cases hg : ((rhoV a b i : Nat) : Int) > (m : Int)
      · refine ⟨false, hs' _ ?_, hi' _ ?_⟩
        · simp only [if_pos hd, if_pos hg]; exact Ev.now _
        · simp only [if_pos hd, if_pos hg]; exact Ev.now _
      · refine ⟨r, hs' _ ?_, hi' _ ?_⟩
        · simpa only [if_pos hd, if_neg hg] using r1
        · simpa only [if_pos hd, if_neg hg] using r2
    · refine ⟨r, hs' _ ?_, hi' _ ?_⟩
      · simpa only [if_neg hd] using r1
      · simpa only [if_neg hd] using r2
theorem both_fails {m : Nat} (m1 : 1 ≤ m) (m2 : m < b.size) : ∃ r : Bool, Ev (fun n => spec_l02Fails.f n a b (m : Int)) r ∧ Ev (fun n => impl_Sequence_fails.f n a b (m : Int)) r := by
  obtain ⟨r, r1, r2⟩ := both_fails_loop hb h64 ha hs hn m1 m2 (m - 1) 1 (by omega) (by omega)
  have em : wrap64 ((b.size : Int) + 1) = ((b.size + 1 : Nat) : Int) := by rw [wrS (by omega) (by omega)]; rfl
  have al := ev_spec_along a b (b.size + 1) (by omega) hb h64 (b.size + 1) [] 1 (by simp) (by simp)
  have hl := alongGo_len a b (b.size + 1) [] 1
  have has := ev_has (alongGo a b (b.size + 1) [] 1) (m : Int) (by simp at hl; omega)
  have rc := ev_reaches h64 hb m1 (by omega) (decide ((m : Int) ∈ alongGo a b (b.size + 1) [] 1)) m 1 (by omega) (by omega) (by rw [decide_eq_true_iff, mem_along h64 m1 (b.size + 1) [] 1 (Or.inr (by omega))]; simp)
  cases e : decide ((m : Int) ∈ alongGo a b (b.size + 1) [] 1) with
  | true =>
    rw [e] at has rc
    refine ⟨false, ?_, ?_⟩
    · unfold spec_l02Fails.f spec_l02Along.f
      rw [em]
      refine Ev.bind al (Ev.bind has ?_)
      simp only [if_true]
      exact Ev.now _
    · unfold impl_Sequence_fails.f impl_Sequence_reaches.f
      refine Ev.bind rc ?_
      simp only [if_true]
      exact Ev.now _
  | false =>
    rw [e] at has rc
    refine ⟨r, ?_, ?_⟩
    · unfold spec_l02Fails.f spec_l02Along.f
      rw [em]
      refine Ev.bind al (Ev.bind has ?_)
      simp only [Bool.false_eq_true, if_false]
      exact r1
    · unfold impl_Sequence_fails.f impl_Sequence_reaches.f
      refine Ev.bind rc ?_
      simp only [Bool.false_eq_true, if_false]
      exact r2
/-! ### admissible -/
theorem both_good : ∃ r : Bool, Ev (fun n => spec_l02Good.f n a b) r ∧ Ev (fun n => impl_Sequence_isAdmissible.f n a b) r := by
  have key : ∀ d i : Nat, i + d = b.size → 1 ≤ i → ∃ r : Bool, Ev (fun n => spec_l02Good.l0 n (i : Int) a b) r ∧ Ev (fun n => impl_Sequence_isAdmissible.l0 n (b.size : Int) (i : Int) a b) r := by
    intro d
    induction d with
    | zero =>
      intro i h h1
      exact ⟨true, Ev.step (f := fun _ => some true) (fun n => by rw [spec_l02Good.l0, if_neg (by omega)]) (Ev.now _), Ev.step (f := fun _ => some true) (fun n => by rw [impl_Sequence_isAdmissible.l0, if_neg (by omega)]) (Ev.now _)⟩
    | succ d ih =>
      intro i h h1
      obtain ⟨r, r1, r2⟩ := ih (i + 1) (by omega) (by omega)
      obtain ⟨q, q1, q2⟩ := both_fails hb h64 ha hs hn h1 (show i < b.size by omega)
      have s1 : ∀ r, Ev (fun n => if q = true then some false else spec_l02Good.l0 n ((i + 1 : Nat) : Int) a b) r → Ev (fun n => spec_l02Good.l0 n (i : Int) a b) r := by
        intro r hh
        refine Ev.step (f := fun n => (spec_l02Fails.f n a b (i : Int)).bind fun t389 => (if t389 = true then (some false) else (spec_l02Good.l0 n ((i + 1 : Nat) : Int) a b))) (fun n => ?_) (Ev.bind q1 hh)
        rw [spec_l02Good.l0, if_pos (by omega), wrS (x := (i : Int) + 1) (by omega) (by omega)]
        rfl
      have s2 : ∀ r, Ev (fun n => if q = true then some false else impl_Sequence_isAdmissible.l0 n (b.size : Int) ((i + 1 : Nat) : Int) a b) r → Ev (fun n => impl_Sequence_isAdmissible.l0 n (b.size : Int) (i : Int) a b) r := by
        intro r hh
        refine Ev.step (f := fun n => (impl_Sequence_fails.f n a b (i : Int)).bind fun t389 => (if t389 = true then (some false) else (impl_Sequence_isAdmissible.l0 n (b.size : Int) ((i + 1 : Nat) : Int) a b))) (fun n => ?_) (Ev.bind q2 hh)
        rw [impl_Sequence_isAdmissible.l0, if_pos (by omega), if_pos (by omega), wrS (x := (i : Int) + 1) (by omega) (by omega)]
        rfl
      cases q with
      | true => exact ⟨false, s1 _ (by simp only [if_true]; exact Ev.now _), s2 _ (by simp only [if_true]; exact Ev.now _)⟩
      | false => exact ⟨r, s1 _ (by simpa using r1), s2 _ (by simpa using r2)⟩
  obtain ⟨r, r1, r2⟩ := key (b.size - 1) 1 (by omega) (by omega)
  refine ⟨r, r1, ?_⟩
  unfold impl_Sequence_isAdmissible.f
  refine Ev.step (f := fun n => impl_Sequence_isAdmissible.l0 n (b.size : Int) 1 a b) (fun n => ?_) r2
  rw [impl_Sequence_isAdmissible.l0, if_pos (by omega), if_neg (by omega), wrS (x := (0 : Int) + 1) (by omega) (by omega)]
  rfl
end
end Go.Proofs.Ytdnookndjbjllaa.Q
end
section
/- HYPS: no string is longer than Go's longest. The pure statement of FnExactIsAdmissible. -/
namespace Go.Proofs.Ytdnookndjbjllaa.Q
open Go.RowKit Go.Proofs.YtdnookndjbjllaaW.PrintWords Go.Proofs.YtdnookndjbjllaaW.PrintLast Go.Proofs.YtdnookndjbjllaaW.Ext
set_option linter.unusedVariables false
set_option linter.unusedSimpArgs false

theorem pure_FnExactIsAdmissible (a b : ByteArray) (ha : a.size ≤ maxLen) (hb : b.size ≤ maxLen) : ∃ k, laws_FnExactIsAdmissible.f k a b = some true := by
  refine Ev.rounds (g := fun k => laws_FnExactIsAdmissible.f k a b) ?_
  unfold laws_FnExactIsAdmissible.f
  simp only [laws_toSequence.f, Option.bind_some]
  refine sz_frame ha hb fun h => ?_
  obtain ⟨r, hs, hi, hr⟩ := both_seq a b h
  have fin : ∀ v : Bool × Int, Ev (fun k => spec_IsAdmissible.f k a b) v → Ev (fun k => impl_IsAdmissible.f k a b) v → Ev (fun k => (spec_IsAdmissible.f k a b).bind fun bt228 => ((impl_IsAdmissible.f k a b).bind fun bt232 => (if (bt232.1 != bt228.1) = true then (some false) else (if bt232.2 = bt228.2 then (some true) else (some false))))) true := by
    intro v h1 h2
    refine Ev.bind h1 (Ev.bind h2 ?_)
    simp
    exact Ev.now _
  cases r with
  | false =>
    refine fin (false, 1) ?_ ?_
    · unfold spec_IsAdmissible.f
      refine Ev.bind hs ?_
      simp only [Bool.false_eq_true, if_false]
      exact Ev.now _
    · unfold impl_IsAdmissible.f
      refine Ev.bind hi ?_
      simp only [Bool.false_eq_true, if_false]
      exact Ev.now _
  | true =>
    obtain ⟨l1, l2, l3, l4⟩ := hr rfl
    obtain ⟨q, q1, q2, q3⟩ := both_star a b l3 l4
    cases q with
    | false =>
      refine fin (false, 5) ?_ ?_
      · unfold spec_IsAdmissible.f
        refine Ev.bind hs ?_
        simp only [if_true]
        refine Ev.bind q1 ?_
        simp only [Bool.false_eq_true, if_false]
        exact Ev.now _
      · unfold impl_IsAdmissible.f
        refine Ev.bind hi ?_
        simp only [if_true, q2, Option.bind_some, Bool.false_eq_true, if_false]
        exact Ev.now _
    | true =>
      obtain ⟨z1, z2, z3⟩ := q3 rfl
      obtain ⟨v, v1, v2⟩ := both_good l3 l4 z1 z2 z3
      refine fin (v, 0) ?_ ?_
      · unfold spec_IsAdmissible.f
        refine Ev.bind hs ?_
        simp only [if_true]
        refine Ev.bind q1 ?_
        simp only [if_true]
        exact Ev.bind v1 (Ev.now _)
      · unfold impl_IsAdmissible.f
        refine Ev.bind hi ?_
        simp only [if_true, q2, Option.bind_some]
        exact Ev.bind v2 (Ev.now _)
end Go.Proofs.Ytdnookndjbjllaa.Q
end
