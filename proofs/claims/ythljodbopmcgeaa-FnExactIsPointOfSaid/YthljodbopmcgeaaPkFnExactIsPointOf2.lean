/- Joined texts: Qx26, Qx27, Qx28, Qx29, SeqCore, SeqIsLite, SeqStarLite, SeqPoint, PureFnExactIsPointOf -/
import Derived.Test.YthljodbopmcgeaaPkFnExactIsPointOf0
import Derived.Test.YthljodbopmcgeaaPkFnExactIsPointOf1
import Derived.Lib.IndexLaws
section
-- By wip/hyb/hyb.py of this session, over the kit's print.py
namespace Go.Proofs.Ythljodbopmcgeaa.Q
open Go.Proofs.YthljodbopmcgeaaW.Ext
open Go.RowKit Go.Proofs.YthljodbopmcgeaaW.PrintWords Go.Proofs.YthljodbopmcgeaaW.PrintLast Go.Proofs.YthljodbopmcgeaaW.PrintMore
attribute [local go_sem] max2_int min2_int max_two min_two max_three min_three max_four min_four   -- for this text's walks alone
set_option linter.unusedVariables false
set_option linter.unusedSimpArgs false

/-! ### impl_Sequence_at: function 35 -/
def impl_Sequence_at.f (a0_0 : ByteArray) (a0_1 : ByteArray) (a1 : Int) : Option (Int) := if a1 < (a0_0.size : Int) then (if 0 ≤ a1 then (some (bt a0_0 a1)) else (none)) else (if (a0_1.size : Int) = 0 then (none) else (if 0 ≤ (Int.tmod (wrap64 (a1 - (a0_0.size : Int))) (a0_1.size : Int)) then (if (Int.tmod (wrap64 (a1 - (a0_0.size : Int))) (a0_1.size : Int)) < (a0_1.size : Int) then (some (bt a0_1 (Int.tmod (wrap64 (a1 - (a0_0.size : Int))) (a0_1.size : Int)))) else (none)) else (none)))
set_option maxHeartbeats 8000000 in
set_option maxRecDepth 100000 in
theorem impl_Sequence_at.calls (a0_0 : ByteArray) (a0_1 : ByteArray) (a1 : Int) (r : Int) (w : World) (h : impl_Sequence_at.f a0_0 a0_1 a1 = some r) :
    Calls Try.prog 35 #[.agg #[.string a0_0, .string a0_1], .int .i64 a1] w fun e w' => e = .returned (.int .u8 r) ∧ Below w.heap.size w w' := by
  have hu27 := Try.underlying27
  have HB := Aside0.mk (Below.refl w.heap.size w)
  have H : (if a1 < (a0_0.size : Int) then (if 0 ≤ a1 then (some (bt a0_0 a1)) else (none)) else (if (a0_1.size : Int) = 0 then (none) else (if 0 ≤ (Int.tmod (wrap64 (a1 - (a0_0.size : Int))) (a0_1.size : Int)) then (if (Int.tmod (wrap64 (a1 - (a0_0.size : Int))) (a0_1.size : Int)) < (a0_1.size : Int) then (some (bt a0_1 (Int.tmod (wrap64 (a1 - (a0_0.size : Int))) (a0_1.size : Int)))) else (none)) else (none)))) = some r := h
  clear h
  by_cases c3 : a1 < (a0_0.size : Int)
  · rw [if_pos c3] at H
    have c3b0 : decide (a1 < (a0_0.size : Int)) = true := decide_eq_true c3
    clear c3
    by_cases c4 : 0 ≤ a1
    · rw [if_pos c4] at H
      have c4b0 : decide (0 ≤ a1) = true := decide_eq_true c4
      clear c4
      obtain rfl := Option.some.inj H
      go_enter Try.func35, Try.ntmps35
      go_wp2_with (first | ((with_reducible refine gate_dst (N := 2) rfl ?_); refine box_event ?hg (N := 2) ?hd (cs := #[.string a0_0, .string a0_1]) (t := 27) ?hr ?_; (case hd => rfl); (case hg => rfl); (case hr => first | (go_simp; done) | (go_simp; rfl)); intro gb143 hg w6 hbox hb; have n0_ := Aside0.mk (below_step (by repeat (first | (with_reducible first | exact HB.out | apply below_alloc | apply pw_below_drewN | apply below_drew1) | exact HB.out)) hb); have n1_ := Aside0.mk (hbox); have n2_ := Aside0.mk ((by rw [hg]; exact (below_size (by repeat (first | (with_reducible first | exact HB.out | apply below_alloc | apply pw_below_drewN | apply below_drew1) | exact HB.out))) : w.heap.size ≤ gb143)); have n3_ := Aside0.mk ((by rw [hg]; exact (below_size (by repeat (first | (with_reducible first | exact HB.out | apply below_alloc | apply pw_below_drewN | apply below_drew1) | exact HB.out))) : w.heap.size ≤ gb143)); clear HB; have HB := n0_; have BK143 := n1_; have GW143 := n2_; have GE143 := n3_; clear n0_ n1_ n2_ n3_; clear hb hbox hg; have hcz7_0 : w6.cell? ⟨gb143, 0, none⟩ = some (.string a0_0) := (blk_cell BK143.out 0).trans rfl; have hcz7_1 : w6.cell? ⟨gb143, 1, none⟩ = some (.string a0_1) := (blk_cell BK143.out 1).trans rfl; have hfz7_0 := blk_frozen BK143.out 0; have hfz7_1 := blk_frozen BK143.out 1; have p5 : 0 ≤ (a1 : Int) := of_decide_eq_true (by first | (with_reducible assumption) | assumption); have q5 : a1 < (a0_0.size : Int) := of_decide_eq_true (by first | (with_reducible assumption) | assumption); have hx5 := bt_at a0_0 a1; replace p5 := eq_true p5; replace q5 := eq_true q5))
      repeat (go_quiet (first | ((with_reducible refine gate_dst (N := 2) rfl ?_); refine box_event ?hg (N := 2) ?hd (cs := #[.string a0_0, .string a0_1]) (t := 27) ?hr ?_; (case hd => rfl); (case hg => rfl); (case hr => first | (go_simp; done) | (go_simp; rfl)); intro gb143 hg w6 hbox hb; have n0_ := Aside0.mk (below_step (by repeat (first | (with_reducible first | exact HB.out | apply below_alloc | apply pw_below_drewN | apply below_drew1) | exact HB.out)) hb); have n1_ := Aside0.mk (hbox); have n2_ := Aside0.mk ((by rw [hg]; exact (below_size (by repeat (first | (with_reducible first | exact HB.out | apply below_alloc | apply pw_below_drewN | apply below_drew1) | exact HB.out))) : w.heap.size ≤ gb143)); have n3_ := Aside0.mk ((by rw [hg]; exact (below_size (by repeat (first | (with_reducible first | exact HB.out | apply below_alloc | apply pw_below_drewN | apply below_drew1) | exact HB.out))) : w.heap.size ≤ gb143)); clear HB; have HB := n0_; have BK143 := n1_; have GW143 := n2_; have GE143 := n3_; clear n0_ n1_ n2_ n3_; clear hb hbox hg; have hcz7_0 : w6.cell? ⟨gb143, 0, none⟩ = some (.string a0_0) := (blk_cell BK143.out 0).trans rfl; have hcz7_1 : w6.cell? ⟨gb143, 1, none⟩ = some (.string a0_1) := (blk_cell BK143.out 1).trans rfl; have hfz7_0 := blk_frozen BK143.out 0; have hfz7_1 := blk_frozen BK143.out 1; have p5 : 0 ≤ (a1 : Int) := of_decide_eq_true (by first | (with_reducible assumption) | assumption); have q5 : a1 < (a0_0.size : Int) := of_decide_eq_true (by first | (with_reducible assumption) | assumption); have hx5 := bt_at a0_0 a1; replace p5 := eq_true p5; replace q5 := eq_true q5)); try go_wp2_with (first | ((with_reducible refine gate_dst (N := 2) rfl ?_); refine box_event ?hg (N := 2) ?hd (cs := #[.string a0_0, .string a0_1]) (t := 27) ?hr ?_; (case hd => rfl); (case hg => rfl); (case hr => first | (go_simp; done) | (go_simp; rfl)); intro gb143 hg w6 hbox hb; have n0_ := Aside0.mk (below_step (by repeat (first | (with_reducible first | exact HB.out | apply below_alloc | apply pw_below_drewN | apply below_drew1) | exact HB.out)) hb); have n1_ := Aside0.mk (hbox); have n2_ := Aside0.mk ((by rw [hg]; exact (below_size (by repeat (first | (with_reducible first | exact HB.out | apply below_alloc | apply pw_below_drewN | apply below_drew1) | exact HB.out))) : w.heap.size ≤ gb143)); have n3_ := Aside0.mk ((by rw [hg]; exact (below_size (by repeat (first | (with_reducible first | exact HB.out | apply below_alloc | apply pw_below_drewN | apply below_drew1) | exact HB.out))) : w.heap.size ≤ gb143)); clear HB; have HB := n0_; have BK143 := n1_; have GW143 := n2_; have GE143 := n3_; clear n0_ n1_ n2_ n3_; clear hb hbox hg; have hcz7_0 : w6.cell? ⟨gb143, 0, none⟩ = some (.string a0_0) := (blk_cell BK143.out 0).trans rfl; have hcz7_1 : w6.cell? ⟨gb143, 1, none⟩ = some (.string a0_1) := (blk_cell BK143.out 1).trans rfl; have hfz7_0 := blk_frozen BK143.out 0; have hfz7_1 := blk_frozen BK143.out 1; have p5 : 0 ≤ (a1 : Int) := of_decide_eq_true (by first | (with_reducible assumption) | assumption); have q5 : a1 < (a0_0.size : Int) := of_decide_eq_true (by first | (with_reducible assumption) | assumption); have hx5 := bt_at a0_0 a1; replace p5 := eq_true p5; replace q5 := eq_true q5)))
      go_ret
      exact ⟨by first | rfl | (simp [errW_none, errW_some] <;> rfl) | (simp [*, errW_none, errW_some] <;> rfl), by repeat (first | (with_reducible first | exact HB.out | apply below_alloc | apply pw_below_drewN | apply below_drew1 | refine below_set ?_ GE143.out) | exact HB.out)⟩
    · rw [if_neg c4] at H
      exact absurd H (by simp)
  · rw [if_neg c3] at H
    have c3b0 : decide (a1 < (a0_0.size : Int)) = false := decide_eq_false c3
    clear c3
    by_cases c8 : (a0_1.size : Int) = 0
    · rw [if_pos c8] at H
      exact absurd H (by simp)
    · rw [if_neg c8] at H
      have c8b0 : ((a0_1.size : Int) == 0) = false := beq_eq_false_iff_ne.mpr c8
      have c8b1 : ((a0_1.size : Int) != 0) = true := bne_iff_ne.mpr c8
      obtain ⟨ji9, hji9⟩ : ∃ j_ : Int, (Int.tmod (wrap64 (a1 - (a0_0.size : Int))) (a0_1.size : Int)) = j_ := ⟨_, rfl⟩
      replace H : (if 0 ≤ (ji9) then (if (ji9) < (a0_1.size : Int) then (some (bt a0_1 (ji9))) else (none)) else (none)) = some r := by first | (rw [hji9] at H; exact H) | (simp only [hji9] at H ⊢; exact H)
      by_cases c10 : 0 ≤ (ji9)
      · rw [if_pos c10] at H
        have c10b0 : decide (0 ≤ (ji9)) = true := decide_eq_true c10
        clear c10
        by_cases c11 : (ji9) < (a0_1.size : Int)
        · rw [if_pos c11] at H
          have c11b0 : decide ((ji9) < (a0_1.size : Int)) = true := decide_eq_true c11
          clear c11
          obtain rfl := Option.some.inj H
          go_enter Try.func35, Try.ntmps35
          go_wp2_with (first | ((with_reducible refine gate_dst (N := 2) rfl ?_); refine box_event ?hg (N := 2) ?hd (cs := #[.string a0_0, .string a0_1]) (t := 27) ?hr ?_; (case hd => rfl); (case hg => rfl); (case hr => first | (go_simp; done) | (go_simp; rfl)); intro gb143 hg w13 hbox hb; have n0_ := Aside0.mk (below_step (by repeat (first | (with_reducible first | exact HB.out | apply below_alloc | apply pw_below_drewN | apply below_drew1) | exact HB.out)) hb); have n1_ := Aside0.mk (hbox); have n2_ := Aside0.mk ((by rw [hg]; exact (below_size (by repeat (first | (with_reducible first | exact HB.out | apply below_alloc | apply pw_below_drewN | apply below_drew1) | exact HB.out))) : w.heap.size ≤ gb143)); have n3_ := Aside0.mk ((by rw [hg]; exact (below_size (by repeat (first | (with_reducible first | exact HB.out | apply below_alloc | apply pw_below_drewN | apply below_drew1) | exact HB.out))) : w.heap.size ≤ gb143)); clear HB; have HB := n0_; have BK143 := n1_; have GW143 := n2_; have GE143 := n3_; clear n0_ n1_ n2_ n3_; clear hb hbox hg; have hcz14_0 : w13.cell? ⟨gb143, 0, none⟩ = some (.string a0_0) := (blk_cell BK143.out 0).trans rfl; have hcz14_1 : w13.cell? ⟨gb143, 1, none⟩ = some (.string a0_1) := (blk_cell BK143.out 1).trans rfl; have hfz14_0 := blk_frozen BK143.out 0; have hfz14_1 := blk_frozen BK143.out 1; have p12 : 0 ≤ ((ji9) : Int) := of_decide_eq_true (by first | (with_reducible assumption) | assumption); have q12 : (ji9) < (a0_1.size : Int) := of_decide_eq_true (by first | (with_reducible assumption) | assumption); have hx12 := bt_at a0_1 (ji9); replace p12 := eq_true p12; replace q12 := eq_true q12))
          repeat (go_quiet (first | ((with_reducible refine gate_dst (N := 2) rfl ?_); refine box_event ?hg (N := 2) ?hd (cs := #[.string a0_0, .string a0_1]) (t := 27) ?hr ?_; (case hd => rfl); (case hg => rfl); (case hr => first | (go_simp; done) | (go_simp; rfl)); intro gb143 hg w13 hbox hb; have n0_ := Aside0.mk (below_step (by repeat (first | (with_reducible first | exact HB.out | apply below_alloc | apply pw_below_drewN | apply below_drew1) | exact HB.out)) hb); have n1_ := Aside0.mk (hbox); have n2_ := Aside0.mk ((by rw [hg]; exact (below_size (by repeat (first | (with_reducible first | exact HB.out | apply below_alloc | apply pw_below_drewN | apply below_drew1) | exact HB.out))) : w.heap.size ≤ gb143)); have n3_ := Aside0.mk ((by rw [hg]; exact (below_size (by repeat (first | (with_reducible first | exact HB.out | apply below_alloc | apply pw_below_drewN | apply below_drew1) | exact HB.out))) : w.heap.size ≤ gb143)); clear HB; have HB := n0_; have BK143 := n1_; have GW143 := n2_; have GE143 := n3_; clear n0_ n1_ n2_ n3_; clear hb hbox hg; have hcz14_0 : w13.cell? ⟨gb143, 0, none⟩ = some (.string a0_0) := (blk_cell BK143.out 0).trans rfl; have hcz14_1 : w13.cell? ⟨gb143, 1, none⟩ = some (.string a0_1) := (blk_cell BK143.out 1).trans rfl; have hfz14_0 := blk_frozen BK143.out 0; have hfz14_1 := blk_frozen BK143.out 1; have p12 : 0 ≤ ((ji9) : Int) := of_decide_eq_true (by first | (with_reducible assumption) | assumption); have q12 : (ji9) < (a0_1.size : Int) := of_decide_eq_true (by first | (with_reducible assumption) | assumption); have hx12 := bt_at a0_1 (ji9); replace p12 := eq_true p12; replace q12 := eq_true q12)); try go_wp2_with (first | ((with_reducible refine gate_dst (N := 2) rfl ?_); refine box_event ?hg (N := 2) ?hd (cs := #[.string a0_0, .string a0_1]) (t := 27) ?hr ?_; (case hd => rfl); (case hg => rfl); (case hr => first | (go_simp; done) | (go_simp; rfl)); intro gb143 hg w13 hbox hb; have n0_ := Aside0.mk (below_step (by repeat (first | (with_reducible first | exact HB.out | apply below_alloc | apply pw_below_drewN | apply below_drew1) | exact HB.out)) hb); have n1_ := Aside0.mk (hbox); have n2_ := Aside0.mk ((by rw [hg]; exact (below_size (by repeat (first | (with_reducible first | exact HB.out | apply below_alloc | apply pw_below_drewN | apply below_drew1) | exact HB.out))) : w.heap.size ≤ gb143)); have n3_ := Aside0.mk ((by rw [hg]; exact (below_size (by repeat (first | (with_reducible first | exact HB.out | apply below_alloc | apply pw_below_drewN | apply below_drew1) | exact HB.out))) : w.heap.size ≤ gb143)); clear HB; have HB := n0_; have BK143 := n1_; have GW143 := n2_; have GE143 := n3_; clear n0_ n1_ n2_ n3_; clear hb hbox hg; have hcz14_0 : w13.cell? ⟨gb143, 0, none⟩ = some (.string a0_0) := (blk_cell BK143.out 0).trans rfl; have hcz14_1 : w13.cell? ⟨gb143, 1, none⟩ = some (.string a0_1) := (blk_cell BK143.out 1).trans rfl; have hfz14_0 := blk_frozen BK143.out 0; have hfz14_1 := blk_frozen BK143.out 1; have p12 : 0 ≤ ((ji9) : Int) := of_decide_eq_true (by first | (with_reducible assumption) | assumption); have q12 : (ji9) < (a0_1.size : Int) := of_decide_eq_true (by first | (with_reducible assumption) | assumption); have hx12 := bt_at a0_1 (ji9); replace p12 := eq_true p12; replace q12 := eq_true q12)))
          go_ret
          exact ⟨by first | rfl | (simp [errW_none, errW_some] <;> rfl) | (simp only [← hji9]; first | rfl | (simp [errW_none, errW_some] <;> rfl)) | (simp [*, errW_none, errW_some] <;> rfl), by repeat (first | (with_reducible first | exact HB.out | apply below_alloc | apply pw_below_drewN | apply below_drew1 | refine below_set ?_ GE143.out) | exact HB.out)⟩
        · rw [if_neg c11] at H
          exact absurd H (by simp)
      · rw [if_neg c10] at H
        exact absurd H (by simp)

end Go.Proofs.Ythljodbopmcgeaa.Q
end
section
-- By wip/hyb/hyb.py of this session, over the kit's print.py
namespace Go.Proofs.Ythljodbopmcgeaa.Q
open Go.Proofs.YthljodbopmcgeaaW.Ext
open Go.RowKit Go.Proofs.YthljodbopmcgeaaW.PrintWords Go.Proofs.YthljodbopmcgeaaW.PrintLast Go.Proofs.YthljodbopmcgeaaW.PrintMore
attribute [local go_sem] max2_int min2_int max_two min_two max_three min_three max_four min_four   -- for this text's walks alone
set_option linter.unusedVariables false
set_option linter.unusedSimpArgs false

attribute [local go_sem high] eqA27
/-! ### impl_Sequence_isPoint: function 19 -/
def impl_Sequence_isPoint.l0 : Nat → Int → Int → ByteArray → ByteArray → ByteArray → ByteArray → Option (Bool)
  | 0, _, _, _, _, _, _ => none
  | k + 1, x12, x13, x145000, x145001, x146000, x146001 => if x13 < x12 then ((impl_Sequence_shift.f x146000 x146001).bind fun bt146 => ((impl_Sequence_at.f x146000 x146001 0).bind fun t149 => (if t149 = 42 then (if (!(bt146.1.toList == x145000.toList) || (!(bt146.2.toList == x145001.toList))) = true then (some false) else (impl_Sequence_isPoint.l0 k x12 (wrap64 (x13 + 1)) x145000 x145001 bt146.1 bt146.2)) else (impl_Sequence_isPoint.l0 k x12 (wrap64 (x13 + 1)) x145000 x145001 bt146.1 bt146.2)))) else (some true)
def impl_Sequence_isPoint.f (k : Nat) (a0_0 : ByteArray) (a0_1 : ByteArray) (a1_0 : ByteArray) (a1_1 : ByteArray) : Option (Bool) := impl_Sequence_isPoint.l0 k (wrap64 ((a1_0.size : Int) + (a1_1.size : Int))) 0 a0_0 a0_1 a1_0 a1_1
theorem impl_Sequence_isPoint.mono_l : ∀ k, (∀ y0 y1 y2 y3 y4 y5, LeO (impl_Sequence_isPoint.l0 k y0 y1 y2 y3 y4 y5) (impl_Sequence_isPoint.l0 (k + 1) y0 y1 y2 y3 y4 y5))
  | 0 => fun _ _ _ _ _ _ r h => by simp [impl_Sequence_isPoint.l0] at h
  | k + 1 => by
    have ih0 := impl_Sequence_isPoint.mono_l k
    · intro y0 y1 y2 y3 y4 y5
      unfold impl_Sequence_isPoint.l0
      repeat' first
      | (with_reducible exact ih0 _ _ _ _ _ _)
      | (with_reducible exact LeO.refl _)
      | (with_reducible exact LeO.none _)
      | (with_reducible refine LeO.ite ?_ ?_)
      | (with_reducible refine LeO.bind ?_ (fun _ => ?_))
      | exact ih0 _ _ _ _ _ _
      | exact LeO.none _
      | refine LeO.ite ?_ ?_
      | refine LeO.bind ?_ (fun _ => ?_)
theorem impl_Sequence_isPoint.mono : ∀ a0 a1 a2 a3 k, LeO (impl_Sequence_isPoint.f k a0 a1 a2 a3) (impl_Sequence_isPoint.f (k + 1) a0 a1 a2 a3) := by
  intro a0 a1 a2 a3 k
  have ih0 := impl_Sequence_isPoint.mono_l k
  unfold impl_Sequence_isPoint.f
  repeat' first
      | (with_reducible exact ih0 _ _ _ _ _ _)
      | (with_reducible exact LeO.refl _)
      | (with_reducible exact LeO.none _)
      | (with_reducible refine LeO.ite ?_ ?_)
      | (with_reducible refine LeO.bind ?_ (fun _ => ?_))
      | exact ih0 _ _ _ _ _ _
      | exact LeO.none _
      | refine LeO.ite ?_ ?_
      | refine LeO.bind ?_ (fun _ => ?_)
set_option maxHeartbeats 8000000 in
set_option maxRecDepth 100000 in
theorem impl_Sequence_isPoint.calls (k : Nat) (a0_0 : ByteArray) (a0_1 : ByteArray) (a1_0 : ByteArray) (a1_1 : ByteArray) (r : Bool) (w : World) (h : impl_Sequence_isPoint.f k a0_0 a0_1 a1_0 a1_1 = some r) :
    Calls Try.prog 19 #[.agg #[.string a0_0, .string a0_1], .agg #[.string a1_0, .string a1_1]] w fun e w' => e = .returned (.bool r) ∧ Below w.heap.size w w' := by
  have hu27 := Try.underlying27
  have HB := Aside0.mk (Below.refl w.heap.size w)
  have H : (impl_Sequence_isPoint.l0 k (wrap64 ((a1_0.size : Int) + (a1_1.size : Int))) 0 a0_0 a0_1 a1_0 a1_1) = some r := h
  clear h
  have H' := Aside0.mk H
  clear H
  go_enter Try.func19, Try.ntmps19
  go_wp2_with (first | ((with_reducible refine gate_dst (N := 2) rfl ?_); refine box_event ?hg (N := 2) ?hd (cs := #[.string a0_0, .string a0_1]) (t := 27) ?hr ?_; (case hd => rfl); (case hg => rfl); (case hr => first | (go_simp; done) | (go_simp; rfl)); intro gb144 hg w3 hbox hb; have n0_ := Aside0.mk (below_step (by repeat (first | (with_reducible first | exact HB.out | apply below_alloc | apply pw_below_drewN | apply below_drew1) | exact HB.out)) hb); have n1_ := Aside0.mk (hbox); have n2_ := Aside0.mk ((by rw [hg]; exact (below_size (by repeat (first | (with_reducible first | exact HB.out | apply below_alloc | apply pw_below_drewN | apply below_drew1) | exact HB.out))) : w.heap.size ≤ gb144)); have n3_ := Aside0.mk ((by rw [hg]; exact (below_size (by repeat (first | (with_reducible first | exact HB.out | apply below_alloc | apply pw_below_drewN | apply below_drew1) | exact HB.out))) : w.heap.size ≤ gb144)); clear HB; have HB := n0_; have BK144 := n1_; have GW144 := n2_; have GE144 := n3_; clear n0_ n1_ n2_ n3_; clear hb hbox hg) | ((with_reducible refine gate_dst (N := 3) rfl ?_); refine box_event ?hg (N := 3) ?hd (cs := #[.string a1_0, .string a1_1]) (t := 27) ?hr ?_; (case hd => rfl); (case hg => rfl); (case hr => first | (go_simp; done) | (go_simp; rfl)); intro gb145 hg w4 hbox hb; have n0_ := Aside0.mk (blk_below (g := gb144) (o := .cells #[.string a0_0, .string a0_1] 27 (0, 0)) (by (with_reducible repeat (first | refine blk_drewN ?_ _ | refine blk_drew ?_ | refine blk_alloc ?_ _)); exact BK144.out) hb); have n1_ := Aside0.mk (below_step (by repeat (first | (with_reducible first | exact HB.out | apply below_alloc | apply pw_below_drewN | apply below_drew1 | refine below_set ?_ GE144.out) | exact HB.out)) hb); have n2_ := Aside0.mk (hbox); have n3_ := Aside0.mk ((by rw [hg]; exact (below_size (by repeat (first | (with_reducible first | exact HB.out | apply below_alloc | apply pw_below_drewN | apply below_drew1 | refine below_set ?_ GE144.out) | exact HB.out))) : w.heap.size ≤ gb145)); have n4_ := Aside0.mk ((by rw [hg]; exact (below_size (by repeat (first | (with_reducible first | exact HB.out | apply below_alloc | apply pw_below_drewN | apply below_drew1 | refine below_set ?_ GE144.out) | exact HB.out))) : w.heap.size ≤ gb145)); have n5_ := Aside0.mk ((by rw [hg]; exact Nat.ne_of_lt (blk_lt (g := gb144) (o := .cells #[.string a0_0, .string a0_1] 27 (0, 0)) (by (with_reducible repeat (first | refine blk_drewN ?_ _ | refine blk_drew ?_ | refine blk_alloc ?_ _)); exact BK144.out)) : gb144 ≠ gb145)); have n6_ := Aside0.mk ((by rw [hg]; exact Nat.ne_of_gt (blk_lt (g := gb144) (o := .cells #[.string a0_0, .string a0_1] 27 (0, 0)) (by (with_reducible repeat (first | refine blk_drewN ?_ _ | refine blk_drew ?_ | refine blk_alloc ?_ _)); exact BK144.out)) : gb145 ≠ gb144)); clear BK144; clear HB; have BK144 := n0_; have HB := n1_; have BK145 := n2_; have GW145 := n3_; have GE145 := n4_; have NB144_145 := n5_; have NB145_144 := n6_; clear n0_ n1_ n2_ n3_ n4_ n5_ n6_; clear hb hbox hg; have hnb5 := NB145_144.out; have hnc5 := NB144_145.out; have hcz6_0 : w4.cell? ⟨gb145, 0, none⟩ = some (.string a1_0) := (blk_cell BK145.out 0).trans rfl; have hcz6_1 : w4.cell? ⟨gb145, 1, none⟩ = some (.string a1_1) := (blk_cell BK145.out 1).trans rfl; have hfz6_0 := blk_frozen BK145.out 0; have hfz6_1 := blk_frozen BK145.out 1))
  go_loopg [13] k (fun kq v13 w' => ∃ (x13_1 : Int) (x146000_1 : ByteArray) (x146001_1 : ByteArray), v13 = .int .i64 x13_1 ∧ Aside0 (impl_Sequence_isPoint.l0 kq (wrap64 ((a1_0.size : Int) + (a1_1.size : Int))) x13_1 a0_0 a0_1 x146000_1 x146001_1 = some r) ∧ Aside0 (kq ≤ k) ∧ Aside0 (w'.heap[gb144]? = some (.cells #[.string a0_0, .string a0_1] 27 (0, 0))) ∧ Aside0 (w'.heap[gb145]? = some (.cells #[.string x146000_1, .string x146001_1] 27 (0, 0))) ∧ Aside0 (Below w.heap.size w w'))
  case atStart => exact ⟨(0), (a1_0), (a1_1), (by first | rfl | (simp; done) | (simp [*]; done)), H', ⟨Nat.le_refl _⟩, ⟨by (with_reducible repeat (first | refine blk_drewN ?_ _ | refine blk_drew ?_ | refine blk_alloc ?_ _)); exact BK144.out⟩, ⟨by (with_reducible repeat (first | refine blk_drewN ?_ _ | refine blk_drew ?_ | refine blk_alloc ?_ _)); exact BK145.out⟩, ⟨by repeat (first | (with_reducible first | exact HB.out | apply below_alloc | apply pw_below_drewN | apply below_drew1 | refine below_set ?_ GE144.out | refine below_set ?_ GE145.out) | exact HB.out)⟩⟩
  case round =>
    clear H'
    try clear c1
    try clear p2
    try clear c5
    try clear p6
    try clear hcz6_0
    try clear hcz6_1
    try clear hfz6_0
    try clear hfz6_1
    obtain ⟨x13_1, x146000_1, x146001_1, rfl, HA, HK1, BK144, BK145, HB⟩ := hrel
    cases gk with
    | zero => exact absurd HA.out (by simp [impl_Sequence_isPoint.l0])
    | succ k1 =>
      have H := HA.out
      clear HA
      simp only [impl_Sequence_isPoint.l0] at H
      by_cases c7 : x13_1 < (wrap64 ((a1_0.size : Int) + (a1_1.size : Int)))
      · rw [if_pos c7] at H
        have c7b0 : decide (x13_1 < (wrap64 ((a1_0.size : Int) + (a1_1.size : Int)))) = true := decide_eq_true c7
        clear c7
        replace H := Option.bind_eq_some_iff.mp H
        obtain ⟨⟨t146, t147⟩, A80, H⟩ := H
        replace H : ((impl_Sequence_at.f x146000_1 x146001_1 0).bind fun t149 => (if t149 = 42 then (if (!(t146.toList == a0_0.toList) || (!(t147.toList == a0_1.toList))) = true then (some false) else (impl_Sequence_isPoint.l0 k1 (wrap64 ((a1_0.size : Int) + (a1_1.size : Int))) (wrap64 (x13_1 + 1)) a0_0 a0_1 t146 t147)) else (impl_Sequence_isPoint.l0 k1 (wrap64 ((a1_0.size : Int) + (a1_1.size : Int))) (wrap64 (x13_1 + 1)) a0_0 a0_1 t146 t147))) = some r := H
        have A8 := Aside0.mk A80
        clear A80
        replace H := Option.bind_eq_some_iff.mp H
        obtain ⟨t149, A90, H⟩ := H
        replace H : (if t149 = 42 then (if (!(t146.toList == a0_0.toList) || (!(t147.toList == a0_1.toList))) = true then (some false) else (impl_Sequence_isPoint.l0 k1 (wrap64 ((a1_0.size : Int) + (a1_1.size : Int))) (wrap64 (x13_1 + 1)) a0_0 a0_1 t146 t147)) else (impl_Sequence_isPoint.l0 k1 (wrap64 ((a1_0.size : Int) + (a1_1.size : Int))) (wrap64 (x13_1 + 1)) a0_0 a0_1 t146 t147)) = some r := H
        have A9 := Aside0.mk A90
        clear A90
        by_cases c10 : t149 = 42
        · rw [if_pos c10] at H
          have c10b0 : (t149 == 42) = true := beq_iff_eq.mpr c10
          have c10b1 : (t149 != 42) = false := bne_eq_false_iff_eq.mpr c10
          clear c10
          by_cases c11 : (!(t146.toList == a0_0.toList) || (!(t147.toList == a0_1.toList))) = true
          · rw [if_pos c11] at H
            have c11b0 : (!(t146.toList == a0_0.toList) || (!(t147.toList == a0_1.toList))) = true := c11
            clear c11
            obtain rfl := Option.some.inj H
            have hnb12 := NB145_144.out
            have hnc12 := NB144_145.out
            have hcz13_0 : wr.cell? ⟨gb145, 0, none⟩ = some (.string x146000_1) := (blk_cell BK145.out 0).trans rfl
            have hcz13_1 : wr.cell? ⟨gb145, 1, none⟩ = some (.string x146001_1) := (blk_cell BK145.out 1).trans rfl
            have hfz13_0 := blk_frozen BK145.out 0
            have hfz13_1 := blk_frozen BK145.out 1
            go_wp2_with (first | ((with_reducible refine gate_callee (f := 34) rfl ?_); refine goesL_ (some 16) rfl rfl Try.func34 (by kernel_rfl) rfl #[.agg #[.string x146000_1, .string x146001_1]] rfl (by (try simp only [List.map_toArray, List.map_cons, List.map_nil]); first | done | rfl | (simp only [List.length_drop, List.length_take]; rfl)) ?_; (with_reducible refine (impl_Sequence_shift.calls x146000_1 x146001_1 t146 t147 _ A8.out).mono ?_); rintro e w14 ⟨rfl, hb⟩; refine ⟨_, rfl, ?_⟩; have n0_ := Aside0.mk (blk_below (g := gb144) (o := .cells #[.string a0_0, .string a0_1] 27 (0, 0)) (by (with_reducible repeat (first | refine blk_drewN ?_ _ | refine blk_drew ?_ | refine blk_alloc ?_ _)); exact BK144.out) hb); have n1_ := Aside0.mk (blk_below (g := gb145) (o := .cells #[.string x146000_1, .string x146001_1] 27 (0, 0)) (by (with_reducible repeat (first | refine blk_drewN ?_ _ | refine blk_drew ?_ | refine blk_alloc ?_ _)); exact BK145.out) hb); have n2_ := Aside0.mk (below_step (by repeat (first | (with_reducible first | exact HB.out | apply below_alloc | apply pw_below_drewN | apply below_drew1 | refine below_set ?_ GE144.out | refine below_set ?_ GE145.out) | exact HB.out)) hb); clear BK144; clear BK145; clear HB; have BK144 := n0_; have BK145 := n1_; have HB := n2_; clear n0_ n1_ n2_; (try clear hb); (try clear hb2); (try clear hk); (try clear hi)) | ((with_reducible refine gate_dst (N := 5) rfl ?_); refine box_event ?hg (N := 5) ?hd (cs := #[.string (⟨#[]⟩ : ByteArray), .string (⟨#[]⟩ : ByteArray)]) (t := 27) ?hr ?_; (case hd => rfl); (case hg => rfl); (case hr => first | (go_simp; done) | (go_simp; rfl)); intro gb148 hg w15 hbox hb; have n0_ := Aside0.mk (blk_below (g := gb144) (o := .cells #[.string a0_0, .string a0_1] 27 (0, 0)) (by (with_reducible repeat (first | refine blk_drewN ?_ _ | refine blk_drew ?_ | refine blk_alloc ?_ _)); exact BK144.out) hb); have n1_ := Aside0.mk (blk_below (g := gb145) (o := .cells #[.string x146000_1, .string x146001_1] 27 (0, 0)) (by (with_reducible repeat (first | refine blk_drewN ?_ _ | refine blk_drew ?_ | refine blk_alloc ?_ _)); exact BK145.out) hb); have n2_ := Aside0.mk (below_step (by repeat (first | (with_reducible first | exact HB.out | apply below_alloc | apply pw_below_drewN | apply below_drew1 | refine below_set ?_ GE144.out | refine below_set ?_ GE145.out) | exact HB.out)) hb); have n3_ := Aside0.mk (hbox); have n4_ := Aside0.mk ((by rw [hg]; exact (below_size (by repeat (first | (with_reducible first | exact HB.out | apply below_alloc | apply pw_below_drewN | apply below_drew1 | refine below_set ?_ GE144.out | refine below_set ?_ GE145.out) | exact HB.out))) : w.heap.size ≤ gb148)); have n5_ := Aside0.mk ((by rw [hg]; exact (below_size (by repeat (first | (with_reducible first | exact HB.out | apply below_alloc | apply pw_below_drewN | apply below_drew1 | refine below_set ?_ GE144.out | refine below_set ?_ GE145.out) | exact HB.out))) : w.heap.size ≤ gb148)); have n6_ := Aside0.mk ((by rw [hg]; exact Nat.ne_of_lt (blk_lt (g := gb144) (o := .cells #[.string a0_0, .string a0_1] 27 (0, 0)) (by (with_reducible repeat (first | refine blk_drewN ?_ _ | refine blk_drew ?_ | refine blk_alloc ?_ _)); exact BK144.out)) : gb144 ≠ gb148)); have n7_ := Aside0.mk ((by rw [hg]; exact Nat.ne_of_gt (blk_lt (g := gb144) (o := .cells #[.string a0_0, .string a0_1] 27 (0, 0)) (by (with_reducible repeat (first | refine blk_drewN ?_ _ | refine blk_drew ?_ | refine blk_alloc ?_ _)); exact BK144.out)) : gb148 ≠ gb144)); have n8_ := Aside0.mk ((by rw [hg]; exact Nat.ne_of_lt (blk_lt (g := gb145) (o := .cells #[.string x146000_1, .string x146001_1] 27 (0, 0)) (by (with_reducible repeat (first | refine blk_drewN ?_ _ | refine blk_drew ?_ | refine blk_alloc ?_ _)); exact BK145.out)) : gb145 ≠ gb148)); have n9_ := Aside0.mk ((by rw [hg]; exact Nat.ne_of_gt (blk_lt (g := gb145) (o := .cells #[.string x146000_1, .string x146001_1] 27 (0, 0)) (by (with_reducible repeat (first | refine blk_drewN ?_ _ | refine blk_drew ?_ | refine blk_alloc ?_ _)); exact BK145.out)) : gb148 ≠ gb145)); clear BK144; clear BK145; clear HB; have BK144 := n0_; have BK145 := n1_; have HB := n2_; have BK148 := n3_; have GW148 := n4_; have GE148 := n5_; have NB144_148 := n6_; have NB148_144 := n7_; have NB145_148 := n8_; have NB148_145 := n9_; clear n0_ n1_ n2_ n3_ n4_ n5_ n6_ n7_ n8_ n9_; clear hb hbox hg; have hnb16 := NB148_144.out; have hnc16 := NB144_148.out; have hnb17 := NB148_145.out; have hnc17 := NB145_148.out; have hcz18_0 : w15.cell? ⟨gb148, 0, none⟩ = some (.string (⟨#[]⟩ : ByteArray)) := (blk_cell BK148.out 0).trans rfl; have hcz18_1 : w15.cell? ⟨gb148, 1, none⟩ = some (.string (⟨#[]⟩ : ByteArray)) := (blk_cell BK148.out 1).trans rfl; have hfz18_0 := blk_frozen BK148.out 0; have hfz18_1 := blk_frozen BK148.out 1; have hcz19_0 : w15.cell? ⟨gb145, 0, none⟩ = some (.string x146000_1) := (blk_cell BK145.out 0).trans rfl; have hcz19_1 : w15.cell? ⟨gb145, 1, none⟩ = some (.string x146001_1) := (blk_cell BK145.out 1).trans rfl; have hfz19_0 := blk_frozen BK145.out 0; have hfz19_1 := blk_frozen BK145.out 1) | ((with_reducible refine gate_callee (f := 35) rfl ?_); refine goesL_ (some 18) rfl rfl Try.func35 (by kernel_rfl) rfl #[.agg #[.string x146000_1, .string x146001_1], .int .i64 0] rfl (by (try simp only [List.map_toArray, List.map_cons, List.map_nil]); first | done | rfl | (simp only [List.length_drop, List.length_take]; rfl)) ?_; (with_reducible refine (impl_Sequence_at.calls x146000_1 x146001_1 0 t149 _ A9.out).mono ?_); rintro e w20 ⟨rfl, hb⟩; refine ⟨_, rfl, ?_⟩; have n0_ := Aside0.mk (blk_below (g := gb144) (o := .cells #[.string a0_0, .string a0_1] 27 (0, 0)) (by (with_reducible repeat (first | refine blk_drewN ?_ _ | refine blk_drew ?_ | refine blk_alloc ?_ _)); refine blk_far ?_ NB144_148.out _; (with_reducible repeat (first | refine blk_drewN ?_ _ | refine blk_drew ?_ | refine blk_alloc ?_ _)); refine blk_far ?_ NB144_148.out _; (with_reducible repeat (first | refine blk_drewN ?_ _ | refine blk_drew ?_ | refine blk_alloc ?_ _)); exact BK144.out) hb); have n1_ := Aside0.mk (blk_below (g := gb145) (o := .cells #[.string x146000_1, .string x146001_1] 27 (0, 0)) (by (with_reducible repeat (first | refine blk_drewN ?_ _ | refine blk_drew ?_ | refine blk_alloc ?_ _)); refine blk_far ?_ NB145_148.out _; (with_reducible repeat (first | refine blk_drewN ?_ _ | refine blk_drew ?_ | refine blk_alloc ?_ _)); refine blk_far ?_ NB145_148.out _; (with_reducible repeat (first | refine blk_drewN ?_ _ | refine blk_drew ?_ | refine blk_alloc ?_ _)); exact BK145.out) hb); have n2_ := Aside0.mk (blk_below (g := gb148) (o := .cells #[.string t146, .string t147] 27 (0, 0)) (by (with_reducible repeat (first | refine blk_drewN ?_ _ | refine blk_drew ?_ | refine blk_alloc ?_ _)); refine blk_put (cs := #[.string t146, .string (⟨#[]⟩ : ByteArray)]) ?_ 1 _ rfl; (with_reducible repeat (first | refine blk_drewN ?_ _ | refine blk_drew ?_ | refine blk_alloc ?_ _)); refine blk_put (cs := #[.string (⟨#[]⟩ : ByteArray), .string (⟨#[]⟩ : ByteArray)]) ?_ 0 _ rfl; (with_reducible repeat (first | refine blk_drewN ?_ _ | refine blk_drew ?_ | refine blk_alloc ?_ _)); exact BK148.out) hb); have n3_ := Aside0.mk (below_step (by repeat (first | (with_reducible first | exact HB.out | apply below_alloc | apply pw_below_drewN | apply below_drew1 | refine below_set ?_ GE144.out | refine below_set ?_ GE145.out | refine below_set ?_ GE148.out) | exact HB.out)) hb); clear BK144; clear BK145; clear BK148; clear HB; have BK144 := n0_; have BK145 := n1_; have BK148 := n2_; have HB := n3_; clear n0_ n1_ n2_ n3_; (try clear hb); (try clear hb2); (try clear hk); (try clear hi); have hcz21_0 : w20.cell? ⟨gb148, 0, none⟩ = some (.string t146) := (blk_cell BK148.out 0).trans rfl; have hcz21_1 : w20.cell? ⟨gb148, 1, none⟩ = some (.string t147) := (blk_cell BK148.out 1).trans rfl; have hfz21_0 := blk_frozen BK148.out 0; have hfz21_1 := blk_frozen BK148.out 1; have hcz22_0 : w20.cell? ⟨gb144, 0, none⟩ = some (.string a0_0) := (blk_cell BK144.out 0).trans rfl; have hcz22_1 : w20.cell? ⟨gb144, 1, none⟩ = some (.string a0_1) := (blk_cell BK144.out 1).trans rfl; have hfz22_0 := blk_frozen BK144.out 0; have hfz22_1 := blk_frozen BK144.out 1))
            go_ret
            exact ⟨by first | rfl | (simp [errW_none, errW_some] <;> rfl) | (simp [*, errW_none, errW_some] <;> rfl), by repeat (first | (with_reducible first | exact HB.out | apply below_alloc | apply pw_below_drewN | apply below_drew1 | refine below_set ?_ GE144.out | refine below_set ?_ GE145.out | refine below_set ?_ GE148.out) | exact HB.out)⟩
          · rw [if_neg c11] at H
            have c11b0 : (!(t146.toList == a0_0.toList) || (!(t147.toList == a0_1.toList))) = false := by simpa using c11
            clear c11
            have H' := Aside0.mk H
            clear H
            have hnb23 := NB145_144.out
            have hnc23 := NB144_145.out
            have hcz24_0 : wr.cell? ⟨gb145, 0, none⟩ = some (.string x146000_1) := (blk_cell BK145.out 0).trans rfl
            have hcz24_1 : wr.cell? ⟨gb145, 1, none⟩ = some (.string x146001_1) := (blk_cell BK145.out 1).trans rfl
            have hfz24_0 := blk_frozen BK145.out 0
            have hfz24_1 := blk_frozen BK145.out 1
            go_wp2_with (first | ((with_reducible refine gate_callee (f := 34) rfl ?_); refine goesL_ (some 16) rfl rfl Try.func34 (by kernel_rfl) rfl #[.agg #[.string x146000_1, .string x146001_1]] rfl (by (try simp only [List.map_toArray, List.map_cons, List.map_nil]); first | done | rfl | (simp only [List.length_drop, List.length_take]; rfl)) ?_; (with_reducible refine (impl_Sequence_shift.calls x146000_1 x146001_1 t146 t147 _ A8.out).mono ?_); rintro e w25 ⟨rfl, hb⟩; refine ⟨_, rfl, ?_⟩; have n0_ := Aside0.mk (blk_below (g := gb144) (o := .cells #[.string a0_0, .string a0_1] 27 (0, 0)) (by (with_reducible repeat (first | refine blk_drewN ?_ _ | refine blk_drew ?_ | refine blk_alloc ?_ _)); exact BK144.out) hb); have n1_ := Aside0.mk (blk_below (g := gb145) (o := .cells #[.string x146000_1, .string x146001_1] 27 (0, 0)) (by (with_reducible repeat (first | refine blk_drewN ?_ _ | refine blk_drew ?_ | refine blk_alloc ?_ _)); exact BK145.out) hb); have n2_ := Aside0.mk (below_step (by repeat (first | (with_reducible first | exact HB.out | apply below_alloc | apply pw_below_drewN | apply below_drew1 | refine below_set ?_ GE144.out | refine below_set ?_ GE145.out) | exact HB.out)) hb); clear BK144; clear BK145; clear HB; have BK144 := n0_; have BK145 := n1_; have HB := n2_; clear n0_ n1_ n2_; (try clear hb); (try clear hb2); (try clear hk); (try clear hi)) | ((with_reducible refine gate_dst (N := 5) rfl ?_); refine box_event ?hg (N := 5) ?hd (cs := #[.string (⟨#[]⟩ : ByteArray), .string (⟨#[]⟩ : ByteArray)]) (t := 27) ?hr ?_; (case hd => rfl); (case hg => rfl); (case hr => first | (go_simp; done) | (go_simp; rfl)); intro gb148 hg w26 hbox hb; have n0_ := Aside0.mk (blk_below (g := gb144) (o := .cells #[.string a0_0, .string a0_1] 27 (0, 0)) (by (with_reducible repeat (first | refine blk_drewN ?_ _ | refine blk_drew ?_ | refine blk_alloc ?_ _)); exact BK144.out) hb); have n1_ := Aside0.mk (blk_below (g := gb145) (o := .cells #[.string x146000_1, .string x146001_1] 27 (0, 0)) (by (with_reducible repeat (first | refine blk_drewN ?_ _ | refine blk_drew ?_ | refine blk_alloc ?_ _)); exact BK145.out) hb); have n2_ := Aside0.mk (below_step (by repeat (first | (with_reducible first | exact HB.out | apply below_alloc | apply pw_below_drewN | apply below_drew1 | refine below_set ?_ GE144.out | refine below_set ?_ GE145.out) | exact HB.out)) hb); have n3_ := Aside0.mk (hbox); have n4_ := Aside0.mk ((by rw [hg]; exact (below_size (by repeat (first | (with_reducible first | exact HB.out | apply below_alloc | apply pw_below_drewN | apply below_drew1 | refine below_set ?_ GE144.out | refine below_set ?_ GE145.out) | exact HB.out))) : w.heap.size ≤ gb148)); have n5_ := Aside0.mk ((by rw [hg]; exact (below_size (by repeat (first | (with_reducible first | exact HB.out | apply below_alloc | apply pw_below_drewN | apply below_drew1 | refine below_set ?_ GE144.out | refine below_set ?_ GE145.out) | exact HB.out))) : w.heap.size ≤ gb148)); have n6_ := Aside0.mk ((by rw [hg]; exact Nat.ne_of_lt (blk_lt (g := gb144) (o := .cells #[.string a0_0, .string a0_1] 27 (0, 0)) (by (with_reducible repeat (first | refine blk_drewN ?_ _ | refine blk_drew ?_ | refine blk_alloc ?_ _)); exact BK144.out)) : gb144 ≠ gb148)); have n7_ := Aside0.mk ((by rw [hg]; exact Nat.ne_of_gt (blk_lt (g := gb144) (o := .cells #[.string a0_0, .string a0_1] 27 (0, 0)) (by (with_reducible repeat (first | refine blk_drewN ?_ _ | refine blk_drew ?_ | refine blk_alloc ?_ _)); exact BK144.out)) : gb148 ≠ gb144)); have n8_ := Aside0.mk ((by rw [hg]; exact Nat.ne_of_lt (blk_lt (g := gb145) (o := .cells #[.string x146000_1, .string x146001_1] 27 (0, 0)) (by (with_reducible repeat (first | refine blk_drewN ?_ _ | refine blk_drew ?_ | refine blk_alloc ?_ _)); exact BK145.out)) : gb145 ≠ gb148)); have n9_ := Aside0.mk ((by rw [hg]; exact Nat.ne_of_gt (blk_lt (g := gb145) (o := .cells #[.string x146000_1, .string x146001_1] 27 (0, 0)) (by (with_reducible repeat (first | refine blk_drewN ?_ _ | refine blk_drew ?_ | refine blk_alloc ?_ _)); exact BK145.out)) : gb148 ≠ gb145)); clear BK144; clear BK145; clear HB; have BK144 := n0_; have BK145 := n1_; have HB := n2_; have BK148 := n3_; have GW148 := n4_; have GE148 := n5_; have NB144_148 := n6_; have NB148_144 := n7_; have NB145_148 := n8_; have NB148_145 := n9_; clear n0_ n1_ n2_ n3_ n4_ n5_ n6_ n7_ n8_ n9_; clear hb hbox hg; have hnb27 := NB148_144.out; have hnc27 := NB144_148.out; have hnb28 := NB148_145.out; have hnc28 := NB145_148.out; have hcz29_0 : w26.cell? ⟨gb148, 0, none⟩ = some (.string (⟨#[]⟩ : ByteArray)) := (blk_cell BK148.out 0).trans rfl; have hcz29_1 : w26.cell? ⟨gb148, 1, none⟩ = some (.string (⟨#[]⟩ : ByteArray)) := (blk_cell BK148.out 1).trans rfl; have hfz29_0 := blk_frozen BK148.out 0; have hfz29_1 := blk_frozen BK148.out 1; have hcz30_0 : w26.cell? ⟨gb145, 0, none⟩ = some (.string x146000_1) := (blk_cell BK145.out 0).trans rfl; have hcz30_1 : w26.cell? ⟨gb145, 1, none⟩ = some (.string x146001_1) := (blk_cell BK145.out 1).trans rfl; have hfz30_0 := blk_frozen BK145.out 0; have hfz30_1 := blk_frozen BK145.out 1) | ((with_reducible refine gate_callee (f := 35) rfl ?_); refine goesL_ (some 18) rfl rfl Try.func35 (by kernel_rfl) rfl #[.agg #[.string x146000_1, .string x146001_1], .int .i64 0] rfl (by (try simp only [List.map_toArray, List.map_cons, List.map_nil]); first | done | rfl | (simp only [List.length_drop, List.length_take]; rfl)) ?_; (with_reducible refine (impl_Sequence_at.calls x146000_1 x146001_1 0 t149 _ A9.out).mono ?_); rintro e w31 ⟨rfl, hb⟩; refine ⟨_, rfl, ?_⟩; have n0_ := Aside0.mk (blk_below (g := gb144) (o := .cells #[.string a0_0, .string a0_1] 27 (0, 0)) (by (with_reducible repeat (first | refine blk_drewN ?_ _ | refine blk_drew ?_ | refine blk_alloc ?_ _)); refine blk_far ?_ NB144_148.out _; (with_reducible repeat (first | refine blk_drewN ?_ _ | refine blk_drew ?_ | refine blk_alloc ?_ _)); refine blk_far ?_ NB144_148.out _; (with_reducible repeat (first | refine blk_drewN ?_ _ | refine blk_drew ?_ | refine blk_alloc ?_ _)); exact BK144.out) hb); have n1_ := Aside0.mk (blk_below (g := gb145) (o := .cells #[.string x146000_1, .string x146001_1] 27 (0, 0)) (by (with_reducible repeat (first | refine blk_drewN ?_ _ | refine blk_drew ?_ | refine blk_alloc ?_ _)); refine blk_far ?_ NB145_148.out _; (with_reducible repeat (first | refine blk_drewN ?_ _ | refine blk_drew ?_ | refine blk_alloc ?_ _)); refine blk_far ?_ NB145_148.out _; (with_reducible repeat (first | refine blk_drewN ?_ _ | refine blk_drew ?_ | refine blk_alloc ?_ _)); exact BK145.out) hb); have n2_ := Aside0.mk (blk_below (g := gb148) (o := .cells #[.string t146, .string t147] 27 (0, 0)) (by (with_reducible repeat (first | refine blk_drewN ?_ _ | refine blk_drew ?_ | refine blk_alloc ?_ _)); refine blk_put (cs := #[.string t146, .string (⟨#[]⟩ : ByteArray)]) ?_ 1 _ rfl; (with_reducible repeat (first | refine blk_drewN ?_ _ | refine blk_drew ?_ | refine blk_alloc ?_ _)); refine blk_put (cs := #[.string (⟨#[]⟩ : ByteArray), .string (⟨#[]⟩ : ByteArray)]) ?_ 0 _ rfl; (with_reducible repeat (first | refine blk_drewN ?_ _ | refine blk_drew ?_ | refine blk_alloc ?_ _)); exact BK148.out) hb); have n3_ := Aside0.mk (below_step (by repeat (first | (with_reducible first | exact HB.out | apply below_alloc | apply pw_below_drewN | apply below_drew1 | refine below_set ?_ GE144.out | refine below_set ?_ GE145.out | refine below_set ?_ GE148.out) | exact HB.out)) hb); clear BK144; clear BK145; clear BK148; clear HB; have BK144 := n0_; have BK145 := n1_; have BK148 := n2_; have HB := n3_; clear n0_ n1_ n2_ n3_; (try clear hb); (try clear hb2); (try clear hk); (try clear hi); have hcz32_0 : w31.cell? ⟨gb148, 0, none⟩ = some (.string t146) := (blk_cell BK148.out 0).trans rfl; have hcz32_1 : w31.cell? ⟨gb148, 1, none⟩ = some (.string t147) := (blk_cell BK148.out 1).trans rfl; have hfz32_0 := blk_frozen BK148.out 0; have hfz32_1 := blk_frozen BK148.out 1; have hcz33_0 : w31.cell? ⟨gb144, 0, none⟩ = some (.string a0_0) := (blk_cell BK144.out 0).trans rfl; have hcz33_1 : w31.cell? ⟨gb144, 1, none⟩ = some (.string a0_1) := (blk_cell BK144.out 1).trans rfl; have hfz33_0 := blk_frozen BK144.out 0; have hfz33_1 := blk_frozen BK144.out 1; have hcz34_0 : w31.cell? ⟨gb145, 0, none⟩ = some (.string x146000_1) := (blk_cell BK145.out 0).trans rfl; have hcz34_1 : w31.cell? ⟨gb145, 1, none⟩ = some (.string x146001_1) := (blk_cell BK145.out 1).trans rfl; have hfz34_0 := blk_frozen BK145.out 0; have hfz34_1 := blk_frozen BK145.out 1))
            go_roundg k1
            case measure => have := HK1.out; omega
            case rel => exact ⟨(wrap64 (x13_1 + 1)), (t146), (t147), (by first | rfl | (simp; done) | (simp [*]; done)), H', ⟨by have := HK1.out; omega⟩, ⟨by (with_reducible repeat (first | refine blk_drewN ?_ _ | refine blk_drew ?_ | refine blk_alloc ?_ _)); refine blk_far ?_ NB144_145.out _; (with_reducible repeat (first | refine blk_drewN ?_ _ | refine blk_drew ?_ | refine blk_alloc ?_ _)); refine blk_far ?_ NB144_145.out _; (with_reducible repeat (first | refine blk_drewN ?_ _ | refine blk_drew ?_ | refine blk_alloc ?_ _)); exact BK144.out⟩, ⟨by (with_reducible repeat (first | refine blk_drewN ?_ _ | refine blk_drew ?_ | refine blk_alloc ?_ _)); refine blk_put (cs := #[.string t146, .string x146001_1]) ?_ 1 _ rfl; (with_reducible repeat (first | refine blk_drewN ?_ _ | refine blk_drew ?_ | refine blk_alloc ?_ _)); refine blk_put (cs := #[.string x146000_1, .string x146001_1]) ?_ 0 _ rfl; (with_reducible repeat (first | refine blk_drewN ?_ _ | refine blk_drew ?_ | refine blk_alloc ?_ _)); exact BK145.out⟩, ⟨by repeat (first | (with_reducible first | exact HB.out | apply below_alloc | apply pw_below_drewN | apply below_drew1 | refine below_set ?_ GE144.out | refine below_set ?_ GE145.out | refine below_set ?_ GE148.out) | exact HB.out)⟩⟩
        · rw [if_neg c10] at H
          have c10b0 : (t149 == 42) = false := beq_eq_false_iff_ne.mpr c10
          have c10b1 : (t149 != 42) = true := bne_iff_ne.mpr c10
          have H' := Aside0.mk H
          clear H
          have hnb35 := NB145_144.out
          have hnc35 := NB144_145.out
          have hcz36_0 : wr.cell? ⟨gb145, 0, none⟩ = some (.string x146000_1) := (blk_cell BK145.out 0).trans rfl
          have hcz36_1 : wr.cell? ⟨gb145, 1, none⟩ = some (.string x146001_1) := (blk_cell BK145.out 1).trans rfl
          have hfz36_0 := blk_frozen BK145.out 0
          have hfz36_1 := blk_frozen BK145.out 1
          go_wp2_with (first | ((with_reducible refine gate_callee (f := 34) rfl ?_); refine goesL_ (some 16) rfl rfl Try.func34 (by kernel_rfl) rfl #[.agg #[.string x146000_1, .string x146001_1]] rfl (by (try simp only [List.map_toArray, List.map_cons, List.map_nil]); first | done | rfl | (simp only [List.length_drop, List.length_take]; rfl)) ?_; (with_reducible refine (impl_Sequence_shift.calls x146000_1 x146001_1 t146 t147 _ A8.out).mono ?_); rintro e w37 ⟨rfl, hb⟩; refine ⟨_, rfl, ?_⟩; have n0_ := Aside0.mk (blk_below (g := gb144) (o := .cells #[.string a0_0, .string a0_1] 27 (0, 0)) (by (with_reducible repeat (first | refine blk_drewN ?_ _ | refine blk_drew ?_ | refine blk_alloc ?_ _)); exact BK144.out) hb); have n1_ := Aside0.mk (blk_below (g := gb145) (o := .cells #[.string x146000_1, .string x146001_1] 27 (0, 0)) (by (with_reducible repeat (first | refine blk_drewN ?_ _ | refine blk_drew ?_ | refine blk_alloc ?_ _)); exact BK145.out) hb); have n2_ := Aside0.mk (below_step (by repeat (first | (with_reducible first | exact HB.out | apply below_alloc | apply pw_below_drewN | apply below_drew1 | refine below_set ?_ GE144.out | refine below_set ?_ GE145.out) | exact HB.out)) hb); clear BK144; clear BK145; clear HB; have BK144 := n0_; have BK145 := n1_; have HB := n2_; clear n0_ n1_ n2_; (try clear hb); (try clear hb2); (try clear hk); (try clear hi)) | ((with_reducible refine gate_dst (N := 5) rfl ?_); refine box_event ?hg (N := 5) ?hd (cs := #[.string (⟨#[]⟩ : ByteArray), .string (⟨#[]⟩ : ByteArray)]) (t := 27) ?hr ?_; (case hd => rfl); (case hg => rfl); (case hr => first | (go_simp; done) | (go_simp; rfl)); intro gb148 hg w38 hbox hb; have n0_ := Aside0.mk (blk_below (g := gb144) (o := .cells #[.string a0_0, .string a0_1] 27 (0, 0)) (by (with_reducible repeat (first | refine blk_drewN ?_ _ | refine blk_drew ?_ | refine blk_alloc ?_ _)); exact BK144.out) hb); have n1_ := Aside0.mk (blk_below (g := gb145) (o := .cells #[.string x146000_1, .string x146001_1] 27 (0, 0)) (by (with_reducible repeat (first | refine blk_drewN ?_ _ | refine blk_drew ?_ | refine blk_alloc ?_ _)); exact BK145.out) hb); have n2_ := Aside0.mk (below_step (by repeat (first | (with_reducible first | exact HB.out | apply below_alloc | apply pw_below_drewN | apply below_drew1 | refine below_set ?_ GE144.out | refine below_set ?_ GE145.out) | exact HB.out)) hb); have n3_ := Aside0.mk (hbox); have n4_ := Aside0.mk ((by rw [hg]; exact (below_size (by repeat (first | (with_reducible first | exact HB.out | apply below_alloc | apply pw_below_drewN | apply below_drew1 | refine below_set ?_ GE144.out | refine below_set ?_ GE145.out) | exact HB.out))) : w.heap.size ≤ gb148)); have n5_ := Aside0.mk ((by rw [hg]; exact (below_size (by repeat (first | (with_reducible first | exact HB.out | apply below_alloc | apply pw_below_drewN | apply below_drew1 | refine below_set ?_ GE144.out | refine below_set ?_ GE145.out) | exact HB.out))) : w.heap.size ≤ gb148)); have n6_ := Aside0.mk ((by rw [hg]; exact Nat.ne_of_lt (blk_lt (g := gb144) (o := .cells #[.string a0_0, .string a0_1] 27 (0, 0)) (by (with_reducible repeat (first | refine blk_drewN ?_ _ | refine blk_drew ?_ | refine blk_alloc ?_ _)); exact BK144.out)) : gb144 ≠ gb148)); have n7_ := Aside0.mk ((by rw [hg]; exact Nat.ne_of_gt (blk_lt (g := gb144) (o := .cells #[.string a0_0, .string a0_1] 27 (0, 0)) (by (with_reducible repeat (first | refine blk_drewN ?_ _ | refine blk_drew ?_ | refine blk_alloc ?_ _)); exact BK144.out)) : gb148 ≠ gb144)); have n8_ := Aside0.mk ((by rw [hg]; exact Nat.ne_of_lt (blk_lt (g := gb145) (o := .cells #[.string x146000_1, .string x146001_1] 27 (0, 0)) (by (with_reducible repeat (first | refine blk_drewN ?_ _ | refine blk_drew ?_ | refine blk_alloc ?_ _)); exact BK145.out)) : gb145 ≠ gb148)); have n9_ := Aside0.mk ((by rw [hg]; exact Nat.ne_of_gt (blk_lt (g := gb145) (o := .cells #[.string x146000_1, .string x146001_1] 27 (0, 0)) (by (with_reducible repeat (first | refine blk_drewN ?_ _ | refine blk_drew ?_ | refine blk_alloc ?_ _)); exact BK145.out)) : gb148 ≠ gb145)); clear BK144; clear BK145; clear HB; have BK144 := n0_; have BK145 := n1_; have HB := n2_; have BK148 := n3_; have GW148 := n4_; have GE148 := n5_; have NB144_148 := n6_; have NB148_144 := n7_; have NB145_148 := n8_; have NB148_145 := n9_; clear n0_ n1_ n2_ n3_ n4_ n5_ n6_ n7_ n8_ n9_; clear hb hbox hg; have hnb39 := NB148_144.out; have hnc39 := NB144_148.out; have hnb40 := NB148_145.out; have hnc40 := NB145_148.out; have hcz41_0 : w38.cell? ⟨gb148, 0, none⟩ = some (.string (⟨#[]⟩ : ByteArray)) := (blk_cell BK148.out 0).trans rfl; have hcz41_1 : w38.cell? ⟨gb148, 1, none⟩ = some (.string (⟨#[]⟩ : ByteArray)) := (blk_cell BK148.out 1).trans rfl; have hfz41_0 := blk_frozen BK148.out 0; have hfz41_1 := blk_frozen BK148.out 1; have hcz42_0 : w38.cell? ⟨gb145, 0, none⟩ = some (.string x146000_1) := (blk_cell BK145.out 0).trans rfl; have hcz42_1 : w38.cell? ⟨gb145, 1, none⟩ = some (.string x146001_1) := (blk_cell BK145.out 1).trans rfl; have hfz42_0 := blk_frozen BK145.out 0; have hfz42_1 := blk_frozen BK145.out 1) | ((with_reducible refine gate_callee (f := 35) rfl ?_); refine goesL_ (some 18) rfl rfl Try.func35 (by kernel_rfl) rfl #[.agg #[.string x146000_1, .string x146001_1], .int .i64 0] rfl (by (try simp only [List.map_toArray, List.map_cons, List.map_nil]); first | done | rfl | (simp only [List.length_drop, List.length_take]; rfl)) ?_; (with_reducible refine (impl_Sequence_at.calls x146000_1 x146001_1 0 t149 _ A9.out).mono ?_); rintro e w43 ⟨rfl, hb⟩; refine ⟨_, rfl, ?_⟩; have n0_ := Aside0.mk (blk_below (g := gb144) (o := .cells #[.string a0_0, .string a0_1] 27 (0, 0)) (by (with_reducible repeat (first | refine blk_drewN ?_ _ | refine blk_drew ?_ | refine blk_alloc ?_ _)); refine blk_far ?_ NB144_148.out _; (with_reducible repeat (first | refine blk_drewN ?_ _ | refine blk_drew ?_ | refine blk_alloc ?_ _)); refine blk_far ?_ NB144_148.out _; (with_reducible repeat (first | refine blk_drewN ?_ _ | refine blk_drew ?_ | refine blk_alloc ?_ _)); exact BK144.out) hb); have n1_ := Aside0.mk (blk_below (g := gb145) (o := .cells #[.string x146000_1, .string x146001_1] 27 (0, 0)) (by (with_reducible repeat (first | refine blk_drewN ?_ _ | refine blk_drew ?_ | refine blk_alloc ?_ _)); refine blk_far ?_ NB145_148.out _; (with_reducible repeat (first | refine blk_drewN ?_ _ | refine blk_drew ?_ | refine blk_alloc ?_ _)); refine blk_far ?_ NB145_148.out _; (with_reducible repeat (first | refine blk_drewN ?_ _ | refine blk_drew ?_ | refine blk_alloc ?_ _)); exact BK145.out) hb); have n2_ := Aside0.mk (blk_below (g := gb148) (o := .cells #[.string t146, .string t147] 27 (0, 0)) (by (with_reducible repeat (first | refine blk_drewN ?_ _ | refine blk_drew ?_ | refine blk_alloc ?_ _)); refine blk_put (cs := #[.string t146, .string (⟨#[]⟩ : ByteArray)]) ?_ 1 _ rfl; (with_reducible repeat (first | refine blk_drewN ?_ _ | refine blk_drew ?_ | refine blk_alloc ?_ _)); refine blk_put (cs := #[.string (⟨#[]⟩ : ByteArray), .string (⟨#[]⟩ : ByteArray)]) ?_ 0 _ rfl; (with_reducible repeat (first | refine blk_drewN ?_ _ | refine blk_drew ?_ | refine blk_alloc ?_ _)); exact BK148.out) hb); have n3_ := Aside0.mk (below_step (by repeat (first | (with_reducible first | exact HB.out | apply below_alloc | apply pw_below_drewN | apply below_drew1 | refine below_set ?_ GE144.out | refine below_set ?_ GE145.out | refine below_set ?_ GE148.out) | exact HB.out)) hb); clear BK144; clear BK145; clear BK148; clear HB; have BK144 := n0_; have BK145 := n1_; have BK148 := n2_; have HB := n3_; clear n0_ n1_ n2_ n3_; (try clear hb); (try clear hb2); (try clear hk); (try clear hi); have hcz44_0 : w43.cell? ⟨gb148, 0, none⟩ = some (.string t146) := (blk_cell BK148.out 0).trans rfl; have hcz44_1 : w43.cell? ⟨gb148, 1, none⟩ = some (.string t147) := (blk_cell BK148.out 1).trans rfl; have hfz44_0 := blk_frozen BK148.out 0; have hfz44_1 := blk_frozen BK148.out 1; have hcz45_0 : w43.cell? ⟨gb145, 0, none⟩ = some (.string x146000_1) := (blk_cell BK145.out 0).trans rfl; have hcz45_1 : w43.cell? ⟨gb145, 1, none⟩ = some (.string x146001_1) := (blk_cell BK145.out 1).trans rfl; have hfz45_0 := blk_frozen BK145.out 0; have hfz45_1 := blk_frozen BK145.out 1))
          go_roundg k1
          case measure => have := HK1.out; omega
          case rel => exact ⟨(wrap64 (x13_1 + 1)), (t146), (t147), (by first | rfl | (simp; done) | (simp [*]; done)), H', ⟨by have := HK1.out; omega⟩, ⟨by (with_reducible repeat (first | refine blk_drewN ?_ _ | refine blk_drew ?_ | refine blk_alloc ?_ _)); refine blk_far ?_ NB144_145.out _; (with_reducible repeat (first | refine blk_drewN ?_ _ | refine blk_drew ?_ | refine blk_alloc ?_ _)); refine blk_far ?_ NB144_145.out _; (with_reducible repeat (first | refine blk_drewN ?_ _ | refine blk_drew ?_ | refine blk_alloc ?_ _)); exact BK144.out⟩, ⟨by (with_reducible repeat (first | refine blk_drewN ?_ _ | refine blk_drew ?_ | refine blk_alloc ?_ _)); refine blk_put (cs := #[.string t146, .string x146001_1]) ?_ 1 _ rfl; (with_reducible repeat (first | refine blk_drewN ?_ _ | refine blk_drew ?_ | refine blk_alloc ?_ _)); refine blk_put (cs := #[.string x146000_1, .string x146001_1]) ?_ 0 _ rfl; (with_reducible repeat (first | refine blk_drewN ?_ _ | refine blk_drew ?_ | refine blk_alloc ?_ _)); exact BK145.out⟩, ⟨by repeat (first | (with_reducible first | exact HB.out | apply below_alloc | apply pw_below_drewN | apply below_drew1 | refine below_set ?_ GE144.out | refine below_set ?_ GE145.out | refine below_set ?_ GE148.out) | exact HB.out)⟩⟩
      · rw [if_neg c7] at H
        have c7b0 : decide (x13_1 < (wrap64 ((a1_0.size : Int) + (a1_1.size : Int)))) = false := decide_eq_false c7
        clear c7
        obtain rfl := Option.some.inj H
        go_wp2
        go_ret
        exact ⟨by first | rfl | (simp [errW_none, errW_some] <;> rfl) | (simp [*, errW_none, errW_some] <;> rfl), by repeat (first | (with_reducible first | exact HB.out | apply below_alloc | apply pw_below_drewN | apply below_drew1 | refine below_set ?_ GE144.out | refine below_set ?_ GE145.out) | exact HB.out)⟩

end Go.Proofs.Ythljodbopmcgeaa.Q
end
section
-- By wip/hyb/hyb.py of this session, over the kit's print.py
namespace Go.Proofs.Ythljodbopmcgeaa.Q
open Go.Proofs.YthljodbopmcgeaaW.Ext
open Go.RowKit Go.Proofs.YthljodbopmcgeaaW.PrintWords Go.Proofs.YthljodbopmcgeaaW.PrintLast Go.Proofs.YthljodbopmcgeaaW.PrintMore
attribute [local go_sem] max2_int min2_int max_two min_two max_three min_three max_four min_four   -- for this text's walks alone
set_option linter.unusedVariables false
set_option linter.unusedSimpArgs false

/-! ### impl_IsPointOf: function 8 -/
def impl_IsPointOf.j0 : Nat → Bool → ByteArray → ByteArray → ByteArray → ByteArray → Option (Bool × Int)
  | 0, _, _, _, _, _ => none
  | k + 1, x6, x151000, x151001, x152000, x152001 => if x6 = true then (some (false, 1)) else ((impl_Sequence_isStar.f x151000 x151001).bind fun t154 => (if t154 = true then ((impl_Sequence_isPoint.f k x151000 x151001 x152000 x152001).bind fun t155 => (some (t155, 0))) else (some (false, 5))))
def impl_IsPointOf.f (k : Nat) (a0_0 : ByteArray) (a0_1 : ByteArray) (a1_0 : ByteArray) (a1_1 : ByteArray) : Option (Bool × Int) := (impl_IsSequence.f k a0_0 a0_1).bind fun t152 => (if t152 = true then ((impl_IsSequence.f k a1_0 a1_1).bind fun t153 => (impl_IsPointOf.j0 k (!t153) a0_0 a0_1 a1_0 a1_1)) else (impl_IsPointOf.j0 k true a0_0 a0_1 a1_0 a1_1))
theorem impl_IsPointOf.mono_l : ∀ k, (∀ y0 y1 y2 y3 y4, LeO (impl_IsPointOf.j0 k y0 y1 y2 y3 y4) (impl_IsPointOf.j0 (k + 1) y0 y1 y2 y3 y4))
  | 0 => fun _ _ _ _ _ r h => by simp [impl_IsPointOf.j0] at h
  | k + 1 => by
    have ih0 := impl_IsPointOf.mono_l k
    · intro y0 y1 y2 y3 y4
      unfold impl_IsPointOf.j0
      repeat' first
      | (with_reducible exact ih0 _ _ _ _ _)
      | (with_reducible exact impl_IsSequence.mono _ _ _)
      | (with_reducible exact impl_Sequence_isPoint.mono _ _ _ _ _)
      | (with_reducible exact LeO.refl _)
      | (with_reducible exact LeO.none _)
      | (with_reducible refine LeO.ite ?_ ?_)
      | (with_reducible refine LeO.bind ?_ (fun _ => ?_))
      | exact ih0 _ _ _ _ _
      | exact impl_IsSequence.mono _ _ _
      | exact impl_Sequence_isPoint.mono _ _ _ _ _
      | exact LeO.none _
      | refine LeO.ite ?_ ?_
      | refine LeO.bind ?_ (fun _ => ?_)
theorem impl_IsPointOf.mono : ∀ a0 a1 a2 a3 k, LeO (impl_IsPointOf.f k a0 a1 a2 a3) (impl_IsPointOf.f (k + 1) a0 a1 a2 a3) := by
  intro a0 a1 a2 a3 k
  have ih0 := impl_IsPointOf.mono_l k
  unfold impl_IsPointOf.f
  repeat' first
      | (with_reducible exact ih0 _ _ _ _ _)
      | (with_reducible exact impl_IsSequence.mono _ _ _)
      | (with_reducible exact impl_Sequence_isPoint.mono _ _ _ _ _)
      | (with_reducible exact LeO.refl _)
      | (with_reducible exact LeO.none _)
      | (with_reducible refine LeO.ite ?_ ?_)
      | (with_reducible refine LeO.bind ?_ (fun _ => ?_))
      | exact ih0 _ _ _ _ _
      | exact impl_IsSequence.mono _ _ _
      | exact impl_Sequence_isPoint.mono _ _ _ _ _
      | exact LeO.none _
      | refine LeO.ite ?_ ?_
      | refine LeO.bind ?_ (fun _ => ?_)
set_option maxHeartbeats 8000000 in
set_option maxRecDepth 100000 in
theorem impl_IsPointOf.calls (k : Nat) (a0_0 : ByteArray) (a0_1 : ByteArray) (a1_0 : ByteArray) (a1_1 : ByteArray) (r1 : Bool) (r2 : Int) (w : World) (h : impl_IsPointOf.f k a0_0 a0_1 a1_0 a1_1 = some (r1, r2)) :
    Calls Try.prog 8 #[.agg #[.string a0_0, .string a0_1], .agg #[.string a1_0, .string a1_1]] w fun e w' => e = .returned (.tuple #[.bool r1, .int .i64 r2]) ∧ Below w.heap.size w w' := by
  have hu27 := Try.underlying27
  have HB := Aside0.mk (Below.refl w.heap.size w)
  have H : ((impl_IsSequence.f k a0_0 a0_1).bind fun t152 => (if t152 = true then ((impl_IsSequence.f k a1_0 a1_1).bind fun t153 => (impl_IsPointOf.j0 k (!t153) a0_0 a0_1 a1_0 a1_1)) else (impl_IsPointOf.j0 k true a0_0 a0_1 a1_0 a1_1))) = some (r1, r2) := h
  clear h
  have HC3 := Aside0.mk H
  clear H
  go_enter Try.func8, Try.ntmps8
  go_upto_region 1 with (first | ((with_reducible refine gate_dst (N := 2) rfl ?_); refine box_event ?hg (N := 2) ?hd (cs := #[.string a0_0, .string a0_1]) (t := 27) ?hr ?_; (case hd => rfl); (case hg => rfl); (case hr => first | (go_simp; done) | (go_simp; rfl)); intro gb150 hg w4 hbox hb; have n0_ := Aside0.mk (below_step (by repeat (first | (with_reducible first | exact HB.out | apply below_alloc | apply pw_below_drewN | apply below_drew1) | exact HB.out)) hb); have n1_ := Aside0.mk (hbox); have n2_ := Aside0.mk ((by rw [hg]; exact (below_size (by repeat (first | (with_reducible first | exact HB.out | apply below_alloc | apply pw_below_drewN | apply below_drew1) | exact HB.out))) : w.heap.size ≤ gb150)); have n3_ := Aside0.mk ((by rw [hg]; exact (below_size (by repeat (first | (with_reducible first | exact HB.out | apply below_alloc | apply pw_below_drewN | apply below_drew1) | exact HB.out))) : w.heap.size ≤ gb150)); clear HB; have HB := n0_; have BK150 := n1_; have GW150 := n2_; have GE150 := n3_; clear n0_ n1_ n2_ n3_; clear hb hbox hg) | ((with_reducible refine gate_dst (N := 3) rfl ?_); refine box_event ?hg (N := 3) ?hd (cs := #[.string a1_0, .string a1_1]) (t := 27) ?hr ?_; (case hd => rfl); (case hg => rfl); (case hr => first | (go_simp; done) | (go_simp; rfl)); intro gb151 hg w5 hbox hb; have n0_ := Aside0.mk (blk_below (g := gb150) (o := .cells #[.string a0_0, .string a0_1] 27 (0, 0)) (by (with_reducible repeat (first | refine blk_drewN ?_ _ | refine blk_drew ?_ | refine blk_alloc ?_ _)); exact BK150.out) hb); have n1_ := Aside0.mk (below_step (by repeat (first | (with_reducible first | exact HB.out | apply below_alloc | apply pw_below_drewN | apply below_drew1 | refine below_set ?_ GE150.out) | exact HB.out)) hb); have n2_ := Aside0.mk (hbox); have n3_ := Aside0.mk ((by rw [hg]; exact (below_size (by repeat (first | (with_reducible first | exact HB.out | apply below_alloc | apply pw_below_drewN | apply below_drew1 | refine below_set ?_ GE150.out) | exact HB.out))) : w.heap.size ≤ gb151)); have n4_ := Aside0.mk ((by rw [hg]; exact (below_size (by repeat (first | (with_reducible first | exact HB.out | apply below_alloc | apply pw_below_drewN | apply below_drew1 | refine below_set ?_ GE150.out) | exact HB.out))) : w.heap.size ≤ gb151)); have n5_ := Aside0.mk ((by rw [hg]; exact Nat.ne_of_lt (blk_lt (g := gb150) (o := .cells #[.string a0_0, .string a0_1] 27 (0, 0)) (by (with_reducible repeat (first | refine blk_drewN ?_ _ | refine blk_drew ?_ | refine blk_alloc ?_ _)); exact BK150.out)) : gb150 ≠ gb151)); have n6_ := Aside0.mk ((by rw [hg]; exact Nat.ne_of_gt (blk_lt (g := gb150) (o := .cells #[.string a0_0, .string a0_1] 27 (0, 0)) (by (with_reducible repeat (first | refine blk_drewN ?_ _ | refine blk_drew ?_ | refine blk_alloc ?_ _)); exact BK150.out)) : gb151 ≠ gb150)); clear BK150; clear HB; have BK150 := n0_; have HB := n1_; have BK151 := n2_; have GW151 := n3_; have GE151 := n4_; have NB150_151 := n5_; have NB151_150 := n6_; clear n0_ n1_ n2_ n3_ n4_ n5_ n6_; clear hb hbox hg))
  (try simp only [Act.put, List.setIfInBounds_toArray, List.set_cons_zero, List.set_cons_succ])
  go_cut [6] (fun v6 wc => ∃ (kq : Nat) (x6_2 : Bool), v6 = .bool x6_2 ∧ Aside0 (impl_IsPointOf.j0 kq x6_2 a0_0 a0_1 a1_0 a1_1 = some (r1, r2)) ∧ Aside0 (kq ≤ k) ∧ Aside0 (wc.heap[gb150]? = some (.cells #[.string a0_0, .string a0_1] 27 (0, 0))) ∧ Aside0 (wc.heap[gb151]? = some (.cells #[.string a1_0, .string a1_1] 27 (0, 0))) ∧ Aside0 (Below w.heap.size w wc))
  case first =>
    have H := HC3.out
    clear HC3
    replace H := Option.bind_eq_some_iff.mp H
    obtain ⟨t152, A60, H⟩ := H
    replace H : (if t152 = true then ((impl_IsSequence.f k a1_0 a1_1).bind fun t153 => (impl_IsPointOf.j0 k (!t153) a0_0 a0_1 a1_0 a1_1)) else (impl_IsPointOf.j0 k true a0_0 a0_1 a1_0 a1_1)) = some (r1, r2) := H
    have A6 := Aside0.mk A60
    clear A60
    by_cases c7 : t152 = true
    · subst c7
      have H1 : ((impl_IsSequence.f k a1_0 a1_1).bind fun t153 => (impl_IsPointOf.j0 k (!t153) a0_0 a0_1 a1_0 a1_1)) = some (r1, r2) := by rw [if_pos rfl] at H; exact H
      clear H
      have H := H1
      clear H1
      replace H := Option.bind_eq_some_iff.mp H
      obtain ⟨t153, A80, H⟩ := H
      replace H : (impl_IsPointOf.j0 k (!t153) a0_0 a0_1 a1_0 a1_1) = some (r1, r2) := H
      have A8 := Aside0.mk A80
      clear A80
      have H' := Aside0.mk H
      clear H
      have hnb9 := NB150_151.out
      have hnc9 := NB151_150.out
      have hcz10_0 : w5.cell? ⟨gb150, 0, none⟩ = some (.string a0_0) := (blk_cell BK150.out 0).trans rfl
      have hcz10_1 : w5.cell? ⟨gb150, 1, none⟩ = some (.string a0_1) := (blk_cell BK150.out 1).trans rfl
      have hfz10_0 := blk_frozen BK150.out 0
      have hfz10_1 := blk_frozen BK150.out 1
      go_wp2_with (first | ((with_reducible refine gate_callee (f := 17) rfl ?_); refine goesL_ (some 8) rfl rfl Try.func17 (by kernel_rfl) rfl #[.agg #[.string a0_0, .string a0_1]] rfl (by (try simp only [List.map_toArray, List.map_cons, List.map_nil]); first | done | rfl | (simp only [List.length_drop, List.length_take]; rfl)) ?_; (with_reducible refine (impl_IsSequence.calls k a0_0 a0_1 true _ A6.out).mono ?_); rintro e w11 ⟨rfl, hb⟩; refine ⟨_, rfl, ?_⟩; have n0_ := Aside0.mk (blk_below (g := gb150) (o := .cells #[.string a0_0, .string a0_1] 27 (0, 0)) (by (with_reducible repeat (first | refine blk_drewN ?_ _ | refine blk_drew ?_ | refine blk_alloc ?_ _)); exact BK150.out) hb); have n1_ := Aside0.mk (blk_below (g := gb151) (o := .cells #[.string a1_0, .string a1_1] 27 (0, 0)) (by (with_reducible repeat (first | refine blk_drewN ?_ _ | refine blk_drew ?_ | refine blk_alloc ?_ _)); exact BK151.out) hb); have n2_ := Aside0.mk (below_step (by repeat (first | (with_reducible first | exact HB.out | apply below_alloc | apply pw_below_drewN | apply below_drew1 | refine below_set ?_ GE150.out | refine below_set ?_ GE151.out) | exact HB.out)) hb); clear BK150; clear BK151; clear HB; have BK150 := n0_; have BK151 := n1_; have HB := n2_; clear n0_ n1_ n2_; (try clear hb); (try clear hb2); (try clear hk); (try clear hi); have hcz12_0 : w11.cell? ⟨gb151, 0, none⟩ = some (.string a1_0) := (blk_cell BK151.out 0).trans rfl; have hcz12_1 : w11.cell? ⟨gb151, 1, none⟩ = some (.string a1_1) := (blk_cell BK151.out 1).trans rfl; have hfz12_0 := blk_frozen BK151.out 0; have hfz12_1 := blk_frozen BK151.out 1) | (go_at_call 17; (with_reducible refine (impl_IsSequence.calls k a1_0 a1_1 t153 _ A8.out).mono ?_); rintro e w13 ⟨rfl, hb⟩; have n0_ := Aside0.mk (blk_below (g := gb150) (o := .cells #[.string a0_0, .string a0_1] 27 (0, 0)) (by (with_reducible repeat (first | refine blk_drewN ?_ _ | refine blk_drew ?_ | refine blk_alloc ?_ _)); exact BK150.out) hb); have n1_ := Aside0.mk (blk_below (g := gb151) (o := .cells #[.string a1_0, .string a1_1] 27 (0, 0)) (by (with_reducible repeat (first | refine blk_drewN ?_ _ | refine blk_drew ?_ | refine blk_alloc ?_ _)); exact BK151.out) hb); have n2_ := Aside0.mk (below_step (by repeat (first | (with_reducible first | exact HB.out | apply below_alloc | apply pw_below_drewN | apply below_drew1 | refine below_set ?_ GE150.out | refine below_set ?_ GE151.out) | exact HB.out)) hb); clear BK150; clear BK151; clear HB; have BK150 := n0_; have BK151 := n1_; have HB := n2_; clear n0_ n1_ n2_; (try clear hb); (try clear hb2); (try clear hk); (try clear hi)))
      go_meet
      case rel => exact ⟨_, (!t153), (by first | rfl | (simp; done) | (simp [*]; done)), H', ⟨by first | omega | exact Nat.le_refl _⟩, ⟨by (with_reducible repeat (first | refine blk_drewN ?_ _ | refine blk_drew ?_ | refine blk_alloc ?_ _)); exact BK150.out⟩, ⟨by (with_reducible repeat (first | refine blk_drewN ?_ _ | refine blk_drew ?_ | refine blk_alloc ?_ _)); exact BK151.out⟩, ⟨by repeat (first | (with_reducible first | exact HB.out | apply below_alloc | apply pw_below_drewN | apply below_drew1 | refine below_set ?_ GE150.out | refine below_set ?_ GE151.out) | exact HB.out)⟩⟩
    · replace c7 := Bool.eq_false_iff.mpr c7
      subst c7
      have H1 : (impl_IsPointOf.j0 k true a0_0 a0_1 a1_0 a1_1) = some (r1, r2) := by rw [if_neg (show ¬ (false = true) by decide)] at H; exact H
      clear H
      have H := H1
      clear H1
      have H' := Aside0.mk H
      clear H
      have hnb14 := NB150_151.out
      have hnc14 := NB151_150.out
      have hcz15_0 : w5.cell? ⟨gb150, 0, none⟩ = some (.string a0_0) := (blk_cell BK150.out 0).trans rfl
      have hcz15_1 : w5.cell? ⟨gb150, 1, none⟩ = some (.string a0_1) := (blk_cell BK150.out 1).trans rfl
      have hfz15_0 := blk_frozen BK150.out 0
      have hfz15_1 := blk_frozen BK150.out 1
      go_wp2_with (first | ((with_reducible refine gate_callee (f := 17) rfl ?_); refine goesL_ (some 8) rfl rfl Try.func17 (by kernel_rfl) rfl #[.agg #[.string a0_0, .string a0_1]] rfl (by (try simp only [List.map_toArray, List.map_cons, List.map_nil]); first | done | rfl | (simp only [List.length_drop, List.length_take]; rfl)) ?_; (with_reducible refine (impl_IsSequence.calls k a0_0 a0_1 false _ A6.out).mono ?_); rintro e w16 ⟨rfl, hb⟩; refine ⟨_, rfl, ?_⟩; have n0_ := Aside0.mk (blk_below (g := gb150) (o := .cells #[.string a0_0, .string a0_1] 27 (0, 0)) (by (with_reducible repeat (first | refine blk_drewN ?_ _ | refine blk_drew ?_ | refine blk_alloc ?_ _)); exact BK150.out) hb); have n1_ := Aside0.mk (blk_below (g := gb151) (o := .cells #[.string a1_0, .string a1_1] 27 (0, 0)) (by (with_reducible repeat (first | refine blk_drewN ?_ _ | refine blk_drew ?_ | refine blk_alloc ?_ _)); exact BK151.out) hb); have n2_ := Aside0.mk (below_step (by repeat (first | (with_reducible first | exact HB.out | apply below_alloc | apply pw_below_drewN | apply below_drew1 | refine below_set ?_ GE150.out | refine below_set ?_ GE151.out) | exact HB.out)) hb); clear BK150; clear BK151; clear HB; have BK150 := n0_; have BK151 := n1_; have HB := n2_; clear n0_ n1_ n2_; (try clear hb); (try clear hb2); (try clear hk); (try clear hi)))
      go_meet
      case rel => exact ⟨_, (true), (by first | rfl | (simp; done) | (simp [*]; done)), H', ⟨by first | omega | exact Nat.le_refl _⟩, ⟨by (with_reducible repeat (first | refine blk_drewN ?_ _ | refine blk_drew ?_ | refine blk_alloc ?_ _)); exact BK150.out⟩, ⟨by (with_reducible repeat (first | refine blk_drewN ?_ _ | refine blk_drew ?_ | refine blk_alloc ?_ _)); exact BK151.out⟩, ⟨by repeat (first | (with_reducible first | exact HB.out | apply below_alloc | apply pw_below_drewN | apply below_drew1 | refine below_set ?_ GE150.out | refine below_set ?_ GE151.out) | exact HB.out)⟩⟩
  case rest =>
    clear HC3
    try clear c1
    try clear p2
    try clear c7
    try clear c8
    try clear c9
    try clear c14
    try clear hcz10_0
    try clear hcz10_1
    try clear hcz12_0
    try clear hcz12_1
    try clear hcz15_0
    try clear hcz15_1
    try clear hfz10_0
    try clear hfz10_1
    try clear hfz12_0
    try clear hfz12_1
    try clear hfz15_0
    try clear hfz15_1
    obtain ⟨kq, x6_2, rfl, HA, HJ2, BK150, BK151, HB⟩ := hcut
    cases kq with
    | zero => exact absurd HA.out (by simp [impl_IsPointOf.j0])
    | succ kj2 =>
      have H := HA.out
      clear HA
      simp only [impl_IsPointOf.j0] at H
      by_cases c17 : x6_2 = true
      · subst c17
        have H1 : (some (false, 1)) = some (r1, r2) := by rw [if_pos rfl] at H; exact H
        clear H
        have H := H1
        clear H1
        simp only [Option.some.injEq, Prod.mk.injEq] at H
        obtain ⟨rfl, rfl⟩ := H
        go_wp2
        go_ret2
        exact ⟨by first | rfl | (simp [errW_none, errW_some] <;> rfl) | (simp [*, errW_none, errW_some] <;> rfl), by repeat (first | (with_reducible first | exact HB.out | apply below_alloc | apply pw_below_drewN | apply below_drew1 | refine below_set ?_ GE150.out | refine below_set ?_ GE151.out) | exact HB.out)⟩
      · replace c17 := Bool.eq_false_iff.mpr c17
        subst c17
        have H1 : ((impl_Sequence_isStar.f a0_0 a0_1).bind fun t154 => (if t154 = true then ((impl_Sequence_isPoint.f kj2 a0_0 a0_1 a1_0 a1_1).bind fun t155 => (some (t155, 0))) else (some (false, 5)))) = some (r1, r2) := by rw [if_neg (show ¬ (false = true) by decide)] at H; exact H
        clear H
        have H := H1
        clear H1
        replace H := Option.bind_eq_some_iff.mp H
        obtain ⟨t154, A180, H⟩ := H
        replace H : (if t154 = true then ((impl_Sequence_isPoint.f kj2 a0_0 a0_1 a1_0 a1_1).bind fun t155 => (some (t155, 0))) else (some (false, 5))) = some (r1, r2) := H
        have A18 := Aside0.mk A180
        clear A180
        by_cases c19 : t154 = true
        · subst c19
          have H1 : ((impl_Sequence_isPoint.f kj2 a0_0 a0_1 a1_0 a1_1).bind fun t155 => (some (t155, 0))) = some (r1, r2) := by rw [if_pos rfl] at H; exact H
          clear H
          have H := H1
          clear H1
          replace H := Option.bind_eq_some_iff.mp H
          obtain ⟨t155, A200, H⟩ := H
          replace H : (some (t155, 0)) = some (r1, r2) := H
          have A20 := Aside0.mk A200
          clear A200
          simp only [Option.some.injEq, Prod.mk.injEq] at H
          obtain ⟨rfl, rfl⟩ := H
          have hnb21 := NB150_151.out
          have hnc21 := NB151_150.out
          have hcz22_0 : wc.cell? ⟨gb150, 0, none⟩ = some (.string a0_0) := (blk_cell BK150.out 0).trans rfl
          have hcz22_1 : wc.cell? ⟨gb150, 1, none⟩ = some (.string a0_1) := (blk_cell BK150.out 1).trans rfl
          have hfz22_0 := blk_frozen BK150.out 0
          have hfz22_1 := blk_frozen BK150.out 1
          go_wp2_with (first | ((with_reducible refine gate_callee (f := 18) rfl ?_); refine goesL_ (some 17) rfl rfl Try.func18 (by kernel_rfl) rfl #[.agg #[.string a0_0, .string a0_1]] rfl (by (try simp only [List.map_toArray, List.map_cons, List.map_nil]); first | done | rfl | (simp only [List.length_drop, List.length_take]; rfl)) ?_; (with_reducible refine (impl_Sequence_isStar.calls a0_0 a0_1 true _ A18.out).mono ?_); rintro e w23 ⟨rfl, hb⟩; refine ⟨_, rfl, ?_⟩; have n0_ := Aside0.mk (blk_below (g := gb150) (o := .cells #[.string a0_0, .string a0_1] 27 (0, 0)) (by (with_reducible repeat (first | refine blk_drewN ?_ _ | refine blk_drew ?_ | refine blk_alloc ?_ _)); exact BK150.out) hb); have n1_ := Aside0.mk (blk_below (g := gb151) (o := .cells #[.string a1_0, .string a1_1] 27 (0, 0)) (by (with_reducible repeat (first | refine blk_drewN ?_ _ | refine blk_drew ?_ | refine blk_alloc ?_ _)); exact BK151.out) hb); have n2_ := Aside0.mk (below_step (by repeat (first | (with_reducible first | exact HB.out | apply below_alloc | apply pw_below_drewN | apply below_drew1 | refine below_set ?_ GE150.out | refine below_set ?_ GE151.out) | exact HB.out)) hb); clear BK150; clear BK151; clear HB; have BK150 := n0_; have BK151 := n1_; have HB := n2_; clear n0_ n1_ n2_; (try clear hb); (try clear hb2); (try clear hk); (try clear hi); have hcz24_0 : w23.cell? ⟨gb150, 0, none⟩ = some (.string a0_0) := (blk_cell BK150.out 0).trans rfl; have hcz24_1 : w23.cell? ⟨gb150, 1, none⟩ = some (.string a0_1) := (blk_cell BK150.out 1).trans rfl; have hfz24_0 := blk_frozen BK150.out 0; have hfz24_1 := blk_frozen BK150.out 1; have hcz25_0 : w23.cell? ⟨gb151, 0, none⟩ = some (.string a1_0) := (blk_cell BK151.out 0).trans rfl; have hcz25_1 : w23.cell? ⟨gb151, 1, none⟩ = some (.string a1_1) := (blk_cell BK151.out 1).trans rfl; have hfz25_0 := blk_frozen BK151.out 0; have hfz25_1 := blk_frozen BK151.out 1) | ((with_reducible refine gate_callee (f := 19) rfl ?_); refine goesL_ (some 21) rfl rfl Try.func19 (by kernel_rfl) rfl #[.agg #[.string a0_0, .string a0_1], .agg #[.string a1_0, .string a1_1]] rfl (by (try simp only [List.map_toArray, List.map_cons, List.map_nil]); first | done | rfl | (simp only [List.length_drop, List.length_take]; rfl)) ?_; (with_reducible refine (impl_Sequence_isPoint.calls kj2 a0_0 a0_1 a1_0 a1_1 t155 _ A20.out).mono ?_); rintro e w26 ⟨rfl, hb⟩; refine ⟨_, rfl, ?_⟩; have n0_ := Aside0.mk (blk_below (g := gb150) (o := .cells #[.string a0_0, .string a0_1] 27 (0, 0)) (by (with_reducible repeat (first | refine blk_drewN ?_ _ | refine blk_drew ?_ | refine blk_alloc ?_ _)); exact BK150.out) hb); have n1_ := Aside0.mk (blk_below (g := gb151) (o := .cells #[.string a1_0, .string a1_1] 27 (0, 0)) (by (with_reducible repeat (first | refine blk_drewN ?_ _ | refine blk_drew ?_ | refine blk_alloc ?_ _)); exact BK151.out) hb); have n2_ := Aside0.mk (below_step (by repeat (first | (with_reducible first | exact HB.out | apply below_alloc | apply pw_below_drewN | apply below_drew1 | refine below_set ?_ GE150.out | refine below_set ?_ GE151.out) | exact HB.out)) hb); clear BK150; clear BK151; clear HB; have BK150 := n0_; have BK151 := n1_; have HB := n2_; clear n0_ n1_ n2_; (try clear hb); (try clear hb2); (try clear hk); (try clear hi)))
          go_ret2
          exact ⟨by first | rfl | (simp [errW_none, errW_some] <;> rfl) | (simp [*, errW_none, errW_some] <;> rfl), by repeat (first | (with_reducible first | exact HB.out | apply below_alloc | apply pw_below_drewN | apply below_drew1 | refine below_set ?_ GE150.out | refine below_set ?_ GE151.out) | exact HB.out)⟩
        · replace c19 := Bool.eq_false_iff.mpr c19
          subst c19
          have H1 : (some (false, 5)) = some (r1, r2) := by rw [if_neg (show ¬ (false = true) by decide)] at H; exact H
          clear H
          have H := H1
          clear H1
          simp only [Option.some.injEq, Prod.mk.injEq] at H
          obtain ⟨rfl, rfl⟩ := H
          have hnb27 := NB150_151.out
          have hnc27 := NB151_150.out
          have hcz28_0 : wc.cell? ⟨gb150, 0, none⟩ = some (.string a0_0) := (blk_cell BK150.out 0).trans rfl
          have hcz28_1 : wc.cell? ⟨gb150, 1, none⟩ = some (.string a0_1) := (blk_cell BK150.out 1).trans rfl
          have hfz28_0 := blk_frozen BK150.out 0
          have hfz28_1 := blk_frozen BK150.out 1
          go_wp2_with (first | ((with_reducible refine gate_callee (f := 18) rfl ?_); refine goesL_ (some 17) rfl rfl Try.func18 (by kernel_rfl) rfl #[.agg #[.string a0_0, .string a0_1]] rfl (by (try simp only [List.map_toArray, List.map_cons, List.map_nil]); first | done | rfl | (simp only [List.length_drop, List.length_take]; rfl)) ?_; (with_reducible refine (impl_Sequence_isStar.calls a0_0 a0_1 false _ A18.out).mono ?_); rintro e w29 ⟨rfl, hb⟩; refine ⟨_, rfl, ?_⟩; have n0_ := Aside0.mk (blk_below (g := gb150) (o := .cells #[.string a0_0, .string a0_1] 27 (0, 0)) (by (with_reducible repeat (first | refine blk_drewN ?_ _ | refine blk_drew ?_ | refine blk_alloc ?_ _)); exact BK150.out) hb); have n1_ := Aside0.mk (blk_below (g := gb151) (o := .cells #[.string a1_0, .string a1_1] 27 (0, 0)) (by (with_reducible repeat (first | refine blk_drewN ?_ _ | refine blk_drew ?_ | refine blk_alloc ?_ _)); exact BK151.out) hb); have n2_ := Aside0.mk (below_step (by repeat (first | (with_reducible first | exact HB.out | apply below_alloc | apply pw_below_drewN | apply below_drew1 | refine below_set ?_ GE150.out | refine below_set ?_ GE151.out) | exact HB.out)) hb); clear BK150; clear BK151; clear HB; have BK150 := n0_; have BK151 := n1_; have HB := n2_; clear n0_ n1_ n2_; (try clear hb); (try clear hb2); (try clear hk); (try clear hi)))
          go_ret2
          exact ⟨by first | rfl | (simp [errW_none, errW_some] <;> rfl) | (simp [*, errW_none, errW_some] <;> rfl), by repeat (first | (with_reducible first | exact HB.out | apply below_alloc | apply pw_below_drewN | apply below_drew1 | refine below_set ?_ GE150.out | refine below_set ?_ GE151.out) | exact HB.out)⟩

end Go.Proofs.Ythljodbopmcgeaa.Q
end
section
-- By wip/hyb/hyb.py of this session, over the kit's print.py
namespace Go.Proofs.Ythljodbopmcgeaa.Q
open Go.Proofs.YthljodbopmcgeaaW.Ext
open Go.RowKit Go.Proofs.YthljodbopmcgeaaW.PrintWords Go.Proofs.YthljodbopmcgeaaW.PrintLast Go.Proofs.YthljodbopmcgeaaW.PrintMore
attribute [local go_sem] max2_int min2_int max_two min_two max_three min_three max_four min_four   -- for this text's walks alone
set_option linter.unusedVariables false
set_option linter.unusedSimpArgs false

/-! ### laws_FnExactIsPointOf: function 3 -/
def laws_FnExactIsPointOf.f (k : Nat) (a0_0 : ByteArray) (a0_1 : ByteArray) (a1_0 : ByteArray) (a1_1 : ByteArray) : Option (Bool) := (laws_szSequence.f a0_0 a0_1 1048576).bind fun t158 => (if t158 < 0 then (some true) else ((laws_szSequence.f a1_0 a1_1 t158).bind fun t159 => (if t159 < 0 then (some true) else ((laws_toSequence.f a0_0 a0_1).bind fun bt160 => ((laws_toSequence.f a1_0 a1_1).bind fun bt162 => ((spec_IsPointOf.f k bt160.1 bt160.2 bt162.1 bt162.2).bind fun bt164 => ((laws_toSequence.f a0_0 a0_1).bind fun bt166 => ((laws_toSequence.f a1_0 a1_1).bind fun bt168 => ((impl_IsPointOf.f k bt166.1 bt166.2 bt168.1 bt168.2).bind fun bt170 => (if (bt170.1 != bt164.1) = true then (some false) else (if bt170.2 = bt164.2 then (some true) else (some false))))))))))))
theorem laws_FnExactIsPointOf.mono : ∀ a0 a1 a2 a3 k, LeO (laws_FnExactIsPointOf.f k a0 a1 a2 a3) (laws_FnExactIsPointOf.f (k + 1) a0 a1 a2 a3) := by
  intro a0 a1 a2 a3 k
  unfold laws_FnExactIsPointOf.f
  repeat' first
      | (with_reducible exact impl_IsPointOf.mono _ _ _ _ _)
      | (with_reducible exact spec_IsPointOf.mono _ _ _ _ _)
      | (with_reducible exact LeO.refl _)
      | (with_reducible exact LeO.none _)
      | (with_reducible refine LeO.ite ?_ ?_)
      | (with_reducible refine LeO.bind ?_ (fun _ => ?_))
      | exact impl_IsPointOf.mono _ _ _ _ _
      | exact spec_IsPointOf.mono _ _ _ _ _
      | exact LeO.none _
      | refine LeO.ite ?_ ?_
      | refine LeO.bind ?_ (fun _ => ?_)
def laws_FnExactIsPointOf.T8 : Bool × List (List Nat × List Nat) := (true, [([], []), ([0], [0]), ([], []), ([2, 1], [2]), ([1, 3, 3], [1, 3]), ([4], [4]), ([5], [5]), ([5], [5]), ([6, 4, 0, 1, 2, 3, 4, 5, 6], [6]), ([7, 8, 0, 1, 2, 3, 4, 5, 6, 7, 8], [7])])
def laws_FnExactIsPointOf.B8 : List Nat := [0, 1, 0, 7, 15, 31, 63, 63, 127, 511]
theorem laws_FnExactIsPointOf.tab8 : rtab .any (opsOf Try.f3 8) = laws_FnExactIsPointOf.T8 := by kernel_rfl
theorem laws_FnExactIsPointOf.bits8 : waitsOk laws_FnExactIsPointOf.T8.2 laws_FnExactIsPointOf.B8 = true := by kernel_rfl
def laws_FnExactIsPointOf.T9 : Bool × List (List Nat × List Nat) := (true, [([], []), ([0], [0]), ([], []), ([2, 1], [2]), ([1, 3, 3], [1, 3]), ([4], [4]), ([5], [5]), ([5], [5]), ([6, 4, 0, 1, 2, 3, 4, 5, 6], [6]), ([7, 8, 0, 1, 2, 3, 4, 5, 6, 7, 8], [7])])
def laws_FnExactIsPointOf.B9 : List Nat := [0, 1, 0, 7, 15, 31, 63, 63, 127, 511]
theorem laws_FnExactIsPointOf.tab9 : rtab .any (opsOf Try.f3 9) = laws_FnExactIsPointOf.T9 := by kernel_rfl
theorem laws_FnExactIsPointOf.bits9 : waitsOk laws_FnExactIsPointOf.T9.2 laws_FnExactIsPointOf.B9 = true := by kernel_rfl
set_option maxHeartbeats 8000000 in
set_option maxRecDepth 100000 in
theorem laws_FnExactIsPointOf.calls (k : Nat) (a0_0 : ByteArray) (a0_1 : ByteArray) (a1_0 : ByteArray) (a1_1 : ByteArray) (r_ : Bool) (w : World) (h : laws_FnExactIsPointOf.f k a0_0 a0_1 a1_0 a1_1 = some true) :
    Calls Try.prog 3 #[.agg #[.string a0_0, .string a0_1], .agg #[.string a1_0, .string a1_1]] w fun e w' => e = .returned (.bool true) ∧ Below w.heap.size w w' := by
  have hu23 := Try.underlying23
  have HB := Aside0.mk (Below.refl w.heap.size w)
  have H : ((laws_szSequence.f a0_0 a0_1 1048576).bind fun t158 => (if t158 < 0 then (some true) else ((laws_szSequence.f a1_0 a1_1 t158).bind fun t159 => (if t159 < 0 then (some true) else ((laws_toSequence.f a0_0 a0_1).bind fun bt160 => ((laws_toSequence.f a1_0 a1_1).bind fun bt162 => ((spec_IsPointOf.f k bt160.1 bt160.2 bt162.1 bt162.2).bind fun bt164 => ((laws_toSequence.f a0_0 a0_1).bind fun bt166 => ((laws_toSequence.f a1_0 a1_1).bind fun bt168 => ((impl_IsPointOf.f k bt166.1 bt166.2 bt168.1 bt168.2).bind fun bt170 => (if (bt170.1 != bt164.1) = true then (some false) else (if bt170.2 = bt164.2 then (some true) else (some false))))))))))))) = some true := h
  clear h
  replace H := Option.bind_eq_some_iff.mp H
  obtain ⟨t158, A30, H⟩ := H
  replace H : (if t158 < 0 then (some true) else ((laws_szSequence.f a1_0 a1_1 t158).bind fun t159 => (if t159 < 0 then (some true) else ((laws_toSequence.f a0_0 a0_1).bind fun bt160 => ((laws_toSequence.f a1_0 a1_1).bind fun bt162 => ((spec_IsPointOf.f k bt160.1 bt160.2 bt162.1 bt162.2).bind fun bt164 => ((laws_toSequence.f a0_0 a0_1).bind fun bt166 => ((laws_toSequence.f a1_0 a1_1).bind fun bt168 => ((impl_IsPointOf.f k bt166.1 bt166.2 bt168.1 bt168.2).bind fun bt170 => (if (bt170.1 != bt164.1) = true then (some false) else (if bt170.2 = bt164.2 then (some true) else (some false)))))))))))) = some true := H
  have A3 := Aside0.mk A30
  clear A30
  by_cases c4 : t158 < 0
  · rw [if_pos c4] at H
    have c4b0 : decide (t158 < 0) = true := decide_eq_true c4
    clear c4
    clear H
    go_enter Try.func3, Try.ntmps3
    go_wp2_with (first | ((with_reducible refine gate_dst (N := 2) rfl ?_); refine box_event ?hg (N := 2) ?hd (cs := #[.string a0_0, .string a0_1]) (t := 23) ?hr ?_; (case hd => rfl); (case hg => rfl); (case hr => first | (go_simp; done) | (go_simp; rfl)); intro gb156 hg w5 hbox hb; have n0_ := Aside0.mk (below_step (by repeat (first | (with_reducible first | exact HB.out | apply below_alloc | apply pw_below_drewN | apply below_drew1) | exact HB.out)) hb); have n1_ := Aside0.mk (hbox); have n2_ := Aside0.mk ((by rw [hg]; exact (below_size (by repeat (first | (with_reducible first | exact HB.out | apply below_alloc | apply pw_below_drewN | apply below_drew1) | exact HB.out))) : w.heap.size ≤ gb156)); have n3_ := Aside0.mk ((by rw [hg]; exact (below_size (by repeat (first | (with_reducible first | exact HB.out | apply below_alloc | apply pw_below_drewN | apply below_drew1) | exact HB.out))) : w.heap.size ≤ gb156)); clear HB; have HB := n0_; have BK156 := n1_; have GW156 := n2_; have GE156 := n3_; clear n0_ n1_ n2_ n3_; clear hb hbox hg) | ((with_reducible refine gate_dst (N := 3) rfl ?_); refine box_event ?hg (N := 3) ?hd (cs := #[.string a1_0, .string a1_1]) (t := 23) ?hr ?_; (case hd => rfl); (case hg => rfl); (case hr => first | (go_simp; done) | (go_simp; rfl)); intro gb157 hg w6 hbox hb; have n0_ := Aside0.mk (blk_below (g := gb156) (o := .cells #[.string a0_0, .string a0_1] 23 (0, 0)) (by (with_reducible repeat (first | refine blk_drewN ?_ _ | refine blk_drew ?_ | refine blk_alloc ?_ _)); exact BK156.out) hb); have n1_ := Aside0.mk (below_step (by repeat (first | (with_reducible first | exact HB.out | apply below_alloc | apply pw_below_drewN | apply below_drew1 | refine below_set ?_ GE156.out) | exact HB.out)) hb); have n2_ := Aside0.mk (hbox); have n3_ := Aside0.mk ((by rw [hg]; exact (below_size (by repeat (first | (with_reducible first | exact HB.out | apply below_alloc | apply pw_below_drewN | apply below_drew1 | refine below_set ?_ GE156.out) | exact HB.out))) : w.heap.size ≤ gb157)); have n4_ := Aside0.mk ((by rw [hg]; exact (below_size (by repeat (first | (with_reducible first | exact HB.out | apply below_alloc | apply pw_below_drewN | apply below_drew1 | refine below_set ?_ GE156.out) | exact HB.out))) : w.heap.size ≤ gb157)); have n5_ := Aside0.mk ((by rw [hg]; exact Nat.ne_of_lt (blk_lt (g := gb156) (o := .cells #[.string a0_0, .string a0_1] 23 (0, 0)) (by (with_reducible repeat (first | refine blk_drewN ?_ _ | refine blk_drew ?_ | refine blk_alloc ?_ _)); exact BK156.out)) : gb156 ≠ gb157)); have n6_ := Aside0.mk ((by rw [hg]; exact Nat.ne_of_gt (blk_lt (g := gb156) (o := .cells #[.string a0_0, .string a0_1] 23 (0, 0)) (by (with_reducible repeat (first | refine blk_drewN ?_ _ | refine blk_drew ?_ | refine blk_alloc ?_ _)); exact BK156.out)) : gb157 ≠ gb156)); clear BK156; clear HB; have BK156 := n0_; have HB := n1_; have BK157 := n2_; have GW157 := n3_; have GE157 := n4_; have NB156_157 := n5_; have NB157_156 := n6_; clear n0_ n1_ n2_ n3_ n4_ n5_ n6_; clear hb hbox hg; have hnb7 := NB156_157.out; have hnc7 := NB157_156.out; have hcz8_0 : w6.cell? ⟨gb156, 0, none⟩ = some (.string a0_0) := (blk_cell BK156.out 0).trans rfl; have hcz8_1 : w6.cell? ⟨gb156, 1, none⟩ = some (.string a0_1) := (blk_cell BK156.out 1).trans rfl; have hfz8_0 := blk_frozen BK156.out 0; have hfz8_1 := blk_frozen BK156.out 1) | ((with_reducible refine gate_callee (f := 5) rfl ?_); refine goesL_ (some 12) rfl rfl Try.func5 (by kernel_rfl) rfl #[.agg #[.string a0_0, .string a0_1], .int .i64 1048576] rfl (by (try simp only [List.map_toArray, List.map_cons, List.map_nil]); first | done | rfl | (simp only [List.length_drop, List.length_take]; rfl)) ?_; (with_reducible refine (laws_szSequence.calls a0_0 a0_1 1048576 t158 _ A3.out).mono ?_); rintro e w9 ⟨rfl, hb⟩; refine ⟨_, rfl, ?_⟩; have n0_ := Aside0.mk (blk_below (g := gb156) (o := .cells #[.string a0_0, .string a0_1] 23 (0, 0)) (by (with_reducible repeat (first | refine blk_drewN ?_ _ | refine blk_drew ?_ | refine blk_alloc ?_ _)); exact BK156.out) hb); have n1_ := Aside0.mk (blk_below (g := gb157) (o := .cells #[.string a1_0, .string a1_1] 23 (0, 0)) (by (with_reducible repeat (first | refine blk_drewN ?_ _ | refine blk_drew ?_ | refine blk_alloc ?_ _)); exact BK157.out) hb); have n2_ := Aside0.mk (below_step (by repeat (first | (with_reducible first | exact HB.out | apply below_alloc | apply pw_below_drewN | apply below_drew1 | refine below_set ?_ GE156.out | refine below_set ?_ GE157.out) | exact HB.out)) hb); clear BK156; clear BK157; clear HB; have BK156 := n0_; have BK157 := n1_; have HB := n2_; clear n0_ n1_ n2_; (try clear hb); (try clear hb2); (try clear hk); (try clear hi)))
    go_ret
    exact ⟨by first | rfl | (simp [errW_none, errW_some] <;> rfl) | (simp [*, errW_none, errW_some] <;> rfl), by repeat (first | (with_reducible first | exact HB.out | apply below_alloc | apply pw_below_drewN | apply below_drew1 | refine below_set ?_ GE156.out | refine below_set ?_ GE157.out) | exact HB.out)⟩
  · rw [if_neg c4] at H
    have c4b0 : decide (t158 < 0) = false := decide_eq_false c4
    clear c4
    replace H := Option.bind_eq_some_iff.mp H
    obtain ⟨t159, A100, H⟩ := H
    replace H : (if t159 < 0 then (some true) else ((laws_toSequence.f a0_0 a0_1).bind fun bt160 => ((laws_toSequence.f a1_0 a1_1).bind fun bt162 => ((spec_IsPointOf.f k bt160.1 bt160.2 bt162.1 bt162.2).bind fun bt164 => ((laws_toSequence.f a0_0 a0_1).bind fun bt166 => ((laws_toSequence.f a1_0 a1_1).bind fun bt168 => ((impl_IsPointOf.f k bt166.1 bt166.2 bt168.1 bt168.2).bind fun bt170 => (if (bt170.1 != bt164.1) = true then (some false) else (if bt170.2 = bt164.2 then (some true) else (some false)))))))))) = some true := H
    have A10 := Aside0.mk A100
    clear A100
    by_cases c11 : t159 < 0
    · rw [if_pos c11] at H
      have c11b0 : decide (t159 < 0) = true := decide_eq_true c11
      clear c11
      clear H
      go_enter Try.func3, Try.ntmps3
      go_wp2_with (first | ((with_reducible refine gate_dst (N := 2) rfl ?_); refine box_event ?hg (N := 2) ?hd (cs := #[.string a0_0, .string a0_1]) (t := 23) ?hr ?_; (case hd => rfl); (case hg => rfl); (case hr => first | (go_simp; done) | (go_simp; rfl)); intro gb156 hg w12 hbox hb; have n0_ := Aside0.mk (below_step (by repeat (first | (with_reducible first | exact HB.out | apply below_alloc | apply pw_below_drewN | apply below_drew1) | exact HB.out)) hb); have n1_ := Aside0.mk (hbox); have n2_ := Aside0.mk ((by rw [hg]; exact (below_size (by repeat (first | (with_reducible first | exact HB.out | apply below_alloc | apply pw_below_drewN | apply below_drew1) | exact HB.out))) : w.heap.size ≤ gb156)); have n3_ := Aside0.mk ((by rw [hg]; exact (below_size (by repeat (first | (with_reducible first | exact HB.out | apply below_alloc | apply pw_below_drewN | apply below_drew1) | exact HB.out))) : w.heap.size ≤ gb156)); clear HB; have HB := n0_; have BK156 := n1_; have GW156 := n2_; have GE156 := n3_; clear n0_ n1_ n2_ n3_; clear hb hbox hg) | ((with_reducible refine gate_dst (N := 3) rfl ?_); refine box_event ?hg (N := 3) ?hd (cs := #[.string a1_0, .string a1_1]) (t := 23) ?hr ?_; (case hd => rfl); (case hg => rfl); (case hr => first | (go_simp; done) | (go_simp; rfl)); intro gb157 hg w13 hbox hb; have n0_ := Aside0.mk (blk_below (g := gb156) (o := .cells #[.string a0_0, .string a0_1] 23 (0, 0)) (by (with_reducible repeat (first | refine blk_drewN ?_ _ | refine blk_drew ?_ | refine blk_alloc ?_ _)); exact BK156.out) hb); have n1_ := Aside0.mk (below_step (by repeat (first | (with_reducible first | exact HB.out | apply below_alloc | apply pw_below_drewN | apply below_drew1 | refine below_set ?_ GE156.out) | exact HB.out)) hb); have n2_ := Aside0.mk (hbox); have n3_ := Aside0.mk ((by rw [hg]; exact (below_size (by repeat (first | (with_reducible first | exact HB.out | apply below_alloc | apply pw_below_drewN | apply below_drew1 | refine below_set ?_ GE156.out) | exact HB.out))) : w.heap.size ≤ gb157)); have n4_ := Aside0.mk ((by rw [hg]; exact (below_size (by repeat (first | (with_reducible first | exact HB.out | apply below_alloc | apply pw_below_drewN | apply below_drew1 | refine below_set ?_ GE156.out) | exact HB.out))) : w.heap.size ≤ gb157)); have n5_ := Aside0.mk ((by rw [hg]; exact Nat.ne_of_lt (blk_lt (g := gb156) (o := .cells #[.string a0_0, .string a0_1] 23 (0, 0)) (by (with_reducible repeat (first | refine blk_drewN ?_ _ | refine blk_drew ?_ | refine blk_alloc ?_ _)); exact BK156.out)) : gb156 ≠ gb157)); have n6_ := Aside0.mk ((by rw [hg]; exact Nat.ne_of_gt (blk_lt (g := gb156) (o := .cells #[.string a0_0, .string a0_1] 23 (0, 0)) (by (with_reducible repeat (first | refine blk_drewN ?_ _ | refine blk_drew ?_ | refine blk_alloc ?_ _)); exact BK156.out)) : gb157 ≠ gb156)); clear BK156; clear HB; have BK156 := n0_; have HB := n1_; have BK157 := n2_; have GW157 := n3_; have GE157 := n4_; have NB156_157 := n5_; have NB157_156 := n6_; clear n0_ n1_ n2_ n3_ n4_ n5_ n6_; clear hb hbox hg; have hnb14 := NB156_157.out; have hnc14 := NB157_156.out; have hcz15_0 : w13.cell? ⟨gb156, 0, none⟩ = some (.string a0_0) := (blk_cell BK156.out 0).trans rfl; have hcz15_1 : w13.cell? ⟨gb156, 1, none⟩ = some (.string a0_1) := (blk_cell BK156.out 1).trans rfl; have hfz15_0 := blk_frozen BK156.out 0; have hfz15_1 := blk_frozen BK156.out 1) | ((with_reducible refine gate_callee (f := 5) rfl ?_); refine goesL_ (some 12) rfl rfl Try.func5 (by kernel_rfl) rfl #[.agg #[.string a0_0, .string a0_1], .int .i64 1048576] rfl (by (try simp only [List.map_toArray, List.map_cons, List.map_nil]); first | done | rfl | (simp only [List.length_drop, List.length_take]; rfl)) ?_; (with_reducible refine (laws_szSequence.calls a0_0 a0_1 1048576 t158 _ A3.out).mono ?_); rintro e w16 ⟨rfl, hb⟩; refine ⟨_, rfl, ?_⟩; have n0_ := Aside0.mk (blk_below (g := gb156) (o := .cells #[.string a0_0, .string a0_1] 23 (0, 0)) (by (with_reducible repeat (first | refine blk_drewN ?_ _ | refine blk_drew ?_ | refine blk_alloc ?_ _)); exact BK156.out) hb); have n1_ := Aside0.mk (blk_below (g := gb157) (o := .cells #[.string a1_0, .string a1_1] 23 (0, 0)) (by (with_reducible repeat (first | refine blk_drewN ?_ _ | refine blk_drew ?_ | refine blk_alloc ?_ _)); exact BK157.out) hb); have n2_ := Aside0.mk (below_step (by repeat (first | (with_reducible first | exact HB.out | apply below_alloc | apply pw_below_drewN | apply below_drew1 | refine below_set ?_ GE156.out | refine below_set ?_ GE157.out) | exact HB.out)) hb); clear BK156; clear BK157; clear HB; have BK156 := n0_; have BK157 := n1_; have HB := n2_; clear n0_ n1_ n2_; (try clear hb); (try clear hb2); (try clear hk); (try clear hi); have hcz17_0 : w16.cell? ⟨gb157, 0, none⟩ = some (.string a1_0) := (blk_cell BK157.out 0).trans rfl; have hcz17_1 : w16.cell? ⟨gb157, 1, none⟩ = some (.string a1_1) := (blk_cell BK157.out 1).trans rfl; have hfz17_0 := blk_frozen BK157.out 0; have hfz17_1 := blk_frozen BK157.out 1) | ((with_reducible refine gate_callee (f := 5) rfl ?_); refine goesL_ (some 17) rfl rfl Try.func5 (by kernel_rfl) rfl #[.agg #[.string a1_0, .string a1_1], .int .i64 t158] rfl (by (try simp only [List.map_toArray, List.map_cons, List.map_nil]); first | done | rfl | (simp only [List.length_drop, List.length_take]; rfl)) ?_; (with_reducible refine (laws_szSequence.calls a1_0 a1_1 t158 t159 _ A10.out).mono ?_); rintro e w18 ⟨rfl, hb⟩; refine ⟨_, rfl, ?_⟩; have n0_ := Aside0.mk (blk_below (g := gb156) (o := .cells #[.string a0_0, .string a0_1] 23 (0, 0)) (by (with_reducible repeat (first | refine blk_drewN ?_ _ | refine blk_drew ?_ | refine blk_alloc ?_ _)); exact BK156.out) hb); have n1_ := Aside0.mk (blk_below (g := gb157) (o := .cells #[.string a1_0, .string a1_1] 23 (0, 0)) (by (with_reducible repeat (first | refine blk_drewN ?_ _ | refine blk_drew ?_ | refine blk_alloc ?_ _)); exact BK157.out) hb); have n2_ := Aside0.mk (below_step (by repeat (first | (with_reducible first | exact HB.out | apply below_alloc | apply pw_below_drewN | apply below_drew1 | refine below_set ?_ GE156.out | refine below_set ?_ GE157.out) | exact HB.out)) hb); clear BK156; clear BK157; clear HB; have BK156 := n0_; have BK157 := n1_; have HB := n2_; clear n0_ n1_ n2_; (try clear hb); (try clear hb2); (try clear hk); (try clear hi)))
      go_ret
      exact ⟨by first | rfl | (simp [errW_none, errW_some] <;> rfl) | (simp [*, errW_none, errW_some] <;> rfl), by repeat (first | (with_reducible first | exact HB.out | apply below_alloc | apply pw_below_drewN | apply below_drew1 | refine below_set ?_ GE156.out | refine below_set ?_ GE157.out) | exact HB.out)⟩
    · rw [if_neg c11] at H
      have c11b0 : decide (t159 < 0) = false := decide_eq_false c11
      clear c11
      replace H := Option.bind_eq_some_iff.mp H
      obtain ⟨⟨t160, t161⟩, A190, H⟩ := H
      replace H : ((laws_toSequence.f a1_0 a1_1).bind fun bt162 => ((spec_IsPointOf.f k t160 t161 bt162.1 bt162.2).bind fun bt164 => ((laws_toSequence.f a0_0 a0_1).bind fun bt166 => ((laws_toSequence.f a1_0 a1_1).bind fun bt168 => ((impl_IsPointOf.f k bt166.1 bt166.2 bt168.1 bt168.2).bind fun bt170 => (if (bt170.1 != bt164.1) = true then (some false) else (if bt170.2 = bt164.2 then (some true) else (some false)))))))) = some true := H
      have A19 := Aside0.mk A190
      clear A190
      replace H := Option.bind_eq_some_iff.mp H
      obtain ⟨⟨t162, t163⟩, A200, H⟩ := H
      replace H : ((spec_IsPointOf.f k t160 t161 t162 t163).bind fun bt164 => ((laws_toSequence.f a0_0 a0_1).bind fun bt166 => ((laws_toSequence.f a1_0 a1_1).bind fun bt168 => ((impl_IsPointOf.f k bt166.1 bt166.2 bt168.1 bt168.2).bind fun bt170 => (if (bt170.1 != bt164.1) = true then (some false) else (if bt170.2 = bt164.2 then (some true) else (some false))))))) = some true := H
      have A20 := Aside0.mk A200
      clear A200
      replace H := Option.bind_eq_some_iff.mp H
      obtain ⟨⟨t164, t165⟩, A210, H⟩ := H
      replace H : ((laws_toSequence.f a0_0 a0_1).bind fun bt166 => ((laws_toSequence.f a1_0 a1_1).bind fun bt168 => ((impl_IsPointOf.f k bt166.1 bt166.2 bt168.1 bt168.2).bind fun bt170 => (if (bt170.1 != t164) = true then (some false) else (if bt170.2 = t165 then (some true) else (some false)))))) = some true := H
      have A21 := Aside0.mk A210
      clear A210
      replace H := Option.bind_eq_some_iff.mp H
      obtain ⟨⟨t166, t167⟩, A220, H⟩ := H
      replace H : ((laws_toSequence.f a1_0 a1_1).bind fun bt168 => ((impl_IsPointOf.f k t166 t167 bt168.1 bt168.2).bind fun bt170 => (if (bt170.1 != t164) = true then (some false) else (if bt170.2 = t165 then (some true) else (some false))))) = some true := H
      have A22 := Aside0.mk A220
      clear A220
      replace H := Option.bind_eq_some_iff.mp H
      obtain ⟨⟨t168, t169⟩, A230, H⟩ := H
      replace H : ((impl_IsPointOf.f k t166 t167 t168 t169).bind fun bt170 => (if (bt170.1 != t164) = true then (some false) else (if bt170.2 = t165 then (some true) else (some false)))) = some true := H
      have A23 := Aside0.mk A230
      clear A230
      replace H := Option.bind_eq_some_iff.mp H
      obtain ⟨⟨t170, t171⟩, A240, H⟩ := H
      replace H : (if (t170 != t164) = true then (some false) else (if t171 = t165 then (some true) else (some false))) = some true := H
      have A24 := Aside0.mk A240
      clear A240
      by_cases c25 : (t170 != t164) = true
      · rw [if_pos c25] at H
        have c25b0 : (t170 != t164) = true := c25
        (try (have c25b1 : decide (t170 = t164) = false := by simpa using c25))
        (try (have c25b2 : (t170 == t164) = false := by simpa using c25))
        (try (have c25b3 : ¬ (t170 = t164) := by simpa using c25))
        clear c25
        exact absurd H (by simp)
      · rw [if_neg c25] at H
        have c25b0 : (t170 != t164) = false := by simpa using c25
        (try (have c25b1 : decide (t170 = t164) = true := by simpa using c25))
        (try (have c25b2 : (t170 == t164) = true := by simpa using c25))
        clear c25
        by_cases c26 : t171 = t165
        · rw [if_pos c26] at H
          have c26b0 : (t171 == t165) = true := beq_iff_eq.mpr c26
          have c26b1 : (t171 != t165) = false := bne_eq_false_iff_eq.mpr c26
          clear c26
          clear H
          go_enter Try.func3, Try.ntmps3
          try go_wp2_with (first | ((with_reducible refine gate_dst (N := 2) rfl ?_); refine box_event ?hg (N := 2) ?hd (cs := #[.string a0_0, .string a0_1]) (t := 23) ?hr ?_; (case hd => rfl); (case hg => rfl); (case hr => first | (go_simp; done) | (go_simp; rfl)); intro gb156 hg w27 hbox hb; have n0_ := Aside0.mk (below_step (by repeat (first | (with_reducible first | exact HB.out | apply below_alloc | apply pw_below_drewN | apply below_drew1) | exact HB.out)) hb); have n1_ := Aside0.mk (hbox); have n2_ := Aside0.mk ((by rw [hg]; exact (below_size (by repeat (first | (with_reducible first | exact HB.out | apply below_alloc | apply pw_below_drewN | apply below_drew1) | exact HB.out))) : w.heap.size ≤ gb156)); have n3_ := Aside0.mk ((by rw [hg]; exact (below_size (by repeat (first | (with_reducible first | exact HB.out | apply below_alloc | apply pw_below_drewN | apply below_drew1) | exact HB.out))) : w.heap.size ≤ gb156)); clear HB; have HB := n0_; have BK156 := n1_; have GW156 := n2_; have GE156 := n3_; clear n0_ n1_ n2_ n3_; clear hb hbox hg) | ((with_reducible refine gate_dst (N := 3) rfl ?_); refine box_event ?hg (N := 3) ?hd (cs := #[.string a1_0, .string a1_1]) (t := 23) ?hr ?_; (case hd => rfl); (case hg => rfl); (case hr => first | (go_simp; done) | (go_simp; rfl)); intro gb157 hg w28 hbox hb; have n0_ := Aside0.mk (blk_below (g := gb156) (o := .cells #[.string a0_0, .string a0_1] 23 (0, 0)) (by (with_reducible repeat (first | refine blk_drewN ?_ _ | refine blk_drew ?_ | refine blk_alloc ?_ _)); exact BK156.out) hb); have n1_ := Aside0.mk (below_step (by repeat (first | (with_reducible first | exact HB.out | apply below_alloc | apply pw_below_drewN | apply below_drew1 | refine below_set ?_ GE156.out) | exact HB.out)) hb); have n2_ := Aside0.mk (hbox); have n3_ := Aside0.mk ((by rw [hg]; exact (below_size (by repeat (first | (with_reducible first | exact HB.out | apply below_alloc | apply pw_below_drewN | apply below_drew1 | refine below_set ?_ GE156.out) | exact HB.out))) : w.heap.size ≤ gb157)); have n4_ := Aside0.mk ((by rw [hg]; exact (below_size (by repeat (first | (with_reducible first | exact HB.out | apply below_alloc | apply pw_below_drewN | apply below_drew1 | refine below_set ?_ GE156.out) | exact HB.out))) : w.heap.size ≤ gb157)); have n5_ := Aside0.mk ((by rw [hg]; exact Nat.ne_of_lt (blk_lt (g := gb156) (o := .cells #[.string a0_0, .string a0_1] 23 (0, 0)) (by (with_reducible repeat (first | refine blk_drewN ?_ _ | refine blk_drew ?_ | refine blk_alloc ?_ _)); exact BK156.out)) : gb156 ≠ gb157)); have n6_ := Aside0.mk ((by rw [hg]; exact Nat.ne_of_gt (blk_lt (g := gb156) (o := .cells #[.string a0_0, .string a0_1] 23 (0, 0)) (by (with_reducible repeat (first | refine blk_drewN ?_ _ | refine blk_drew ?_ | refine blk_alloc ?_ _)); exact BK156.out)) : gb157 ≠ gb156)); clear BK156; clear HB; have BK156 := n0_; have HB := n1_; have BK157 := n2_; have GW157 := n3_; have GE157 := n4_; have NB156_157 := n5_; have NB157_156 := n6_; clear n0_ n1_ n2_ n3_ n4_ n5_ n6_; clear hb hbox hg; have hnb29 := NB156_157.out; have hnc29 := NB157_156.out; have hcz30_0 : w28.cell? ⟨gb156, 0, none⟩ = some (.string a0_0) := (blk_cell BK156.out 0).trans rfl; have hcz30_1 : w28.cell? ⟨gb156, 1, none⟩ = some (.string a0_1) := (blk_cell BK156.out 1).trans rfl; have hfz30_0 := blk_frozen BK156.out 0; have hfz30_1 := blk_frozen BK156.out 1) | ((with_reducible refine gate_callee (f := 5) rfl ?_); refine goesL_ (some 12) rfl rfl Try.func5 (by kernel_rfl) rfl #[.agg #[.string a0_0, .string a0_1], .int .i64 1048576] rfl (by (try simp only [List.map_toArray, List.map_cons, List.map_nil]); first | done | rfl | (simp only [List.length_drop, List.length_take]; rfl)) ?_; (with_reducible refine (laws_szSequence.calls a0_0 a0_1 1048576 t158 _ A3.out).mono ?_); rintro e w31 ⟨rfl, hb⟩; refine ⟨_, rfl, ?_⟩; have n0_ := Aside0.mk (blk_below (g := gb156) (o := .cells #[.string a0_0, .string a0_1] 23 (0, 0)) (by (with_reducible repeat (first | refine blk_drewN ?_ _ | refine blk_drew ?_ | refine blk_alloc ?_ _)); exact BK156.out) hb); have n1_ := Aside0.mk (blk_below (g := gb157) (o := .cells #[.string a1_0, .string a1_1] 23 (0, 0)) (by (with_reducible repeat (first | refine blk_drewN ?_ _ | refine blk_drew ?_ | refine blk_alloc ?_ _)); exact BK157.out) hb); have n2_ := Aside0.mk (below_step (by repeat (first | (with_reducible first | exact HB.out | apply below_alloc | apply pw_below_drewN | apply below_drew1 | refine below_set ?_ GE156.out | refine below_set ?_ GE157.out) | exact HB.out)) hb); clear BK156; clear BK157; clear HB; have BK156 := n0_; have BK157 := n1_; have HB := n2_; clear n0_ n1_ n2_; (try clear hb); (try clear hb2); (try clear hk); (try clear hi); have hcz32_0 : w31.cell? ⟨gb157, 0, none⟩ = some (.string a1_0) := (blk_cell BK157.out 0).trans rfl; have hcz32_1 : w31.cell? ⟨gb157, 1, none⟩ = some (.string a1_1) := (blk_cell BK157.out 1).trans rfl; have hfz32_0 := blk_frozen BK157.out 0; have hfz32_1 := blk_frozen BK157.out 1) | ((with_reducible refine gate_callee (f := 5) rfl ?_); refine goesL_ (some 17) rfl rfl Try.func5 (by kernel_rfl) rfl #[.agg #[.string a1_0, .string a1_1], .int .i64 t158] rfl (by (try simp only [List.map_toArray, List.map_cons, List.map_nil]); first | done | rfl | (simp only [List.length_drop, List.length_take]; rfl)) ?_; (with_reducible refine (laws_szSequence.calls a1_0 a1_1 t158 t159 _ A10.out).mono ?_); rintro e w33 ⟨rfl, hb⟩; refine ⟨_, rfl, ?_⟩; have n0_ := Aside0.mk (blk_below (g := gb156) (o := .cells #[.string a0_0, .string a0_1] 23 (0, 0)) (by (with_reducible repeat (first | refine blk_drewN ?_ _ | refine blk_drew ?_ | refine blk_alloc ?_ _)); exact BK156.out) hb); have n1_ := Aside0.mk (blk_below (g := gb157) (o := .cells #[.string a1_0, .string a1_1] 23 (0, 0)) (by (with_reducible repeat (first | refine blk_drewN ?_ _ | refine blk_drew ?_ | refine blk_alloc ?_ _)); exact BK157.out) hb); have n2_ := Aside0.mk (below_step (by repeat (first | (with_reducible first | exact HB.out | apply below_alloc | apply pw_below_drewN | apply below_drew1 | refine below_set ?_ GE156.out | refine below_set ?_ GE157.out) | exact HB.out)) hb); clear BK156; clear BK157; clear HB; have BK156 := n0_; have BK157 := n1_; have HB := n2_; clear n0_ n1_ n2_; (try clear hb); (try clear hb2); (try clear hk); (try clear hi)))
          have n0_ := Aside0.mk (blk_drew BK156.out)
          have n1_ := Aside0.mk (blk_drew BK157.out)
          have n2_ := Aside0.mk (below_drew1 HB.out)
          clear BK156
          clear BK157
          clear HB
          have BK156 := n0_
          have BK157 := n1_
          have HB := n2_
          clear n0_ n1_ n2_
          refine start_ (n := 10) (S := fun w' => w'.cell? ⟨gb156, 0, none⟩ = some (.string a0_0) ∧ w'.cell? ⟨gb156, 1, none⟩ = some (.string a0_1) ∧ w'.cell? ⟨gb157, 0, none⟩ = some (.string a1_0) ∧ w'.cell? ⟨gb157, 1, none⟩ = some (.string a1_1)) (ds := []) #[false, false, false, false, false, false, false, false, false, false] (by kernel_rfl) rfl rfl ⟨(blk_cell BK156.out 0).trans rfl, (blk_cell BK156.out 1).trans rfl, (blk_cell BK157.out 0).trans rfl, (blk_cell BK157.out 1).trans rfl⟩ (fun hHeld => ?_); refine with_tabW laws_FnExactIsPointOf.tab8 laws_FnExactIsPointOf.bits8 (fun HT_ HW_ => ?_)
          generalize w33.drew = w34 at BK156 BK157 HB hHeld ⊢
          refine take_ (i := 0) (N := some 21) (v := ?_) (a' := ?_) #[true, false, false, false, false, false, false, false, false, false] rfl rfl (take_ofW HT_.out HW_.out (by kernel_rfl)) (fun _ _ _ h => h) (Or.inl ⟨by rfl, ?_⟩) hHeld ?_ ?_
          rotate_left
          · rintro w' ⟨s0, s1, s2, s3⟩
            go_simp
            with_reducible rfl
          rotate_left
          · simp only [Act.put, List.setIfInBounds_toArray, List.set_cons_zero, List.set_cons_succ, i64_w, i32_w]
            rfl
          refine take_ (i := 2) (N := some 23) (v := ?_) (a' := ?_) #[true, false, true, false, false, false, false, false, false, false] rfl rfl (take_ofW HT_.out HW_.out (by kernel_rfl)) (fun _ _ _ h => h) (Or.inl ⟨by rfl, ?_⟩) hHeld ?_ ?_
          rotate_left
          · rintro w' ⟨s0, s1, s2, s3⟩
            go_simp
            with_reducible rfl
          rotate_left
          · simp only [Act.put, List.setIfInBounds_toArray, List.set_cons_zero, List.set_cons_succ, i64_w, i32_w]
            rfl
          refine one_ (i := 1) (N := some 22) #[true, true, true, false, false, false, false, false, false, false] rfl rfl (one_of HT_.out (by kernel_rfl)) (by decide) (fun K hK => ?_)
          refine goes_ Try.func7 (by kernel_rfl) rfl #[.agg #[.string a0_0, .string a0_1]] (by rfl) rfl rfl (by (try simp only [List.map_toArray, List.map_cons, List.map_nil]); first | done | rfl | (simp only [List.length_drop, List.length_take]; rfl)) ?_
          with_reducible refine (laws_toSequence.calls a0_0 a0_1 t160 t161 _ A19.out).mono ?_
          rintro e w35 ⟨rfl, hb⟩
          refine ⟨_, rfl, ?_⟩
          have n0_ := Aside0.mk (blk_below (g := gb156) (o := .cells #[.string a0_0, .string a0_1] 23 (0, 0)) (by (with_reducible repeat (first | refine blk_drewN ?_ _ | refine blk_drew ?_ | refine blk_alloc ?_ _)); exact BK156.out) hb)
          have n1_ := Aside0.mk (blk_below (g := gb157) (o := .cells #[.string a1_0, .string a1_1] 23 (0, 0)) (by (with_reducible repeat (first | refine blk_drewN ?_ _ | refine blk_drew ?_ | refine blk_alloc ?_ _)); exact BK157.out) hb)
          have n2_ := Aside0.mk (below_step (by repeat (first | (with_reducible first | exact HB.out | apply below_alloc | apply pw_below_drewN | apply below_drew1 | refine below_set ?_ GE156.out | refine below_set ?_ GE157.out) | exact HB.out)) hb)
          clear BK156
          clear BK157
          clear HB
          have BK156 := n0_
          have BK157 := n1_
          have HB := n2_
          clear n0_ n1_ n2_
          (try clear hb)
          (try clear hb2)
          (try clear hk)
          (try clear hi)
          refine hK.out _ _ ⟨(blk_cell BK156.out 0).trans rfl, (blk_cell BK156.out 1).trans rfl, (blk_cell BK157.out 0).trans rfl, (blk_cell BK157.out 1).trans rfl⟩ (fun hHeld => ?_)
          clear hK K
          refine norm_ (a' := ?_) ?_ ?_
          rotate_left
          · show Act.put _ (some 22) _ = _
            simp only [Act.put, List.setIfInBounds_toArray, List.set_cons_zero, List.set_cons_succ, i64_w, i32_w]
            rfl
          refine one_ (i := 3) (N := some 24) #[true, true, true, true, false, false, false, false, false, false] rfl rfl (one_of HT_.out (by kernel_rfl)) (by decide) (fun K hK => ?_)
          refine goes_ Try.func7 (by kernel_rfl) rfl #[.agg #[.string a1_0, .string a1_1]] (by rfl) rfl rfl (by (try simp only [List.map_toArray, List.map_cons, List.map_nil]); first | done | rfl | (simp only [List.length_drop, List.length_take]; rfl)) ?_
          with_reducible refine (laws_toSequence.calls a1_0 a1_1 t162 t163 _ A20.out).mono ?_
          rintro e w36 ⟨rfl, hb⟩
          refine ⟨_, rfl, ?_⟩
          have n0_ := Aside0.mk (blk_below (g := gb156) (o := .cells #[.string a0_0, .string a0_1] 23 (0, 0)) (by (with_reducible repeat (first | refine blk_drewN ?_ _ | refine blk_drew ?_ | refine blk_alloc ?_ _)); exact BK156.out) hb)
          have n1_ := Aside0.mk (blk_below (g := gb157) (o := .cells #[.string a1_0, .string a1_1] 23 (0, 0)) (by (with_reducible repeat (first | refine blk_drewN ?_ _ | refine blk_drew ?_ | refine blk_alloc ?_ _)); exact BK157.out) hb)
          have n2_ := Aside0.mk (below_step (by repeat (first | (with_reducible first | exact HB.out | apply below_alloc | apply pw_below_drewN | apply below_drew1 | refine below_set ?_ GE156.out | refine below_set ?_ GE157.out) | exact HB.out)) hb)
          clear BK156
          clear BK157
          clear HB
          have BK156 := n0_
          have BK157 := n1_
          have HB := n2_
          clear n0_ n1_ n2_
          (try clear hb)
          (try clear hb2)
          (try clear hk)
          (try clear hi)
          refine hK.out _ _ ⟨(blk_cell BK156.out 0).trans rfl, (blk_cell BK156.out 1).trans rfl, (blk_cell BK157.out 0).trans rfl, (blk_cell BK157.out 1).trans rfl⟩ (fun hHeld => ?_)
          clear hK K
          refine norm_ (a' := ?_) ?_ ?_
          rotate_left
          · show Act.put _ (some 24) _ = _
            simp only [Act.put, List.setIfInBounds_toArray, List.set_cons_zero, List.set_cons_succ, i64_w, i32_w]
            rfl
          refine one_ (i := 4) (N := some 25) #[true, true, true, true, true, false, false, false, false, false] rfl rfl (one_of HT_.out (by kernel_rfl)) (by decide) (fun K hK => ?_)
          refine goes_ Try.func6 (by kernel_rfl) rfl #[.agg #[.string t160, .string t161], .agg #[.string t162, .string t163]] (by rfl) rfl rfl (by (try simp only [List.map_toArray, List.map_cons, List.map_nil]); first | done | rfl | (simp only [List.length_drop, List.length_take]; rfl)) ?_
          with_reducible refine (spec_IsPointOf.calls k t160 t161 t162 t163 t164 t165 _ A21.out).mono ?_
          rintro e w37 ⟨rfl, hb⟩
          refine ⟨_, rfl, ?_⟩
          have n0_ := Aside0.mk (blk_below (g := gb156) (o := .cells #[.string a0_0, .string a0_1] 23 (0, 0)) (by (with_reducible repeat (first | refine blk_drewN ?_ _ | refine blk_drew ?_ | refine blk_alloc ?_ _)); exact BK156.out) hb)
          have n1_ := Aside0.mk (blk_below (g := gb157) (o := .cells #[.string a1_0, .string a1_1] 23 (0, 0)) (by (with_reducible repeat (first | refine blk_drewN ?_ _ | refine blk_drew ?_ | refine blk_alloc ?_ _)); exact BK157.out) hb)
          have n2_ := Aside0.mk (below_step (by repeat (first | (with_reducible first | exact HB.out | apply below_alloc | apply pw_below_drewN | apply below_drew1 | refine below_set ?_ GE156.out | refine below_set ?_ GE157.out) | exact HB.out)) hb)
          clear BK156
          clear BK157
          clear HB
          have BK156 := n0_
          have BK157 := n1_
          have HB := n2_
          clear n0_ n1_ n2_
          (try clear hb)
          (try clear hb2)
          (try clear hk)
          (try clear hi)
          refine hK.out _ _ ⟨(blk_cell BK156.out 0).trans rfl, (blk_cell BK156.out 1).trans rfl, (blk_cell BK157.out 0).trans rfl, (blk_cell BK157.out 1).trans rfl⟩ (fun hHeld => ?_)
          clear hK K
          refine norm_ (a' := ?_) ?_ ?_
          rotate_left
          · show Act.put _ (some 25) _ = _
            simp only [Act.put, List.setIfInBounds_toArray, List.set_cons_zero, List.set_cons_succ, i64_w, i32_w]
            rfl
          refine pure_ (i := 5) (N := some 20) (v := ?_) (a' := ?_) #[true, true, true, true, true, true, false, false, false, false] rfl rfl (any_of HT_.out (by kernel_rfl)) (fun _ _ _ h => h) (Or.inl ⟨by rfl, ?_⟩) ?_ ?_
          rotate_left
          · intro w'
            go_simp
            with_reducible rfl
          rotate_left
          · simp only [Act.put, List.setIfInBounds_toArray, List.set_cons_zero, List.set_cons_succ, i64_w, i32_w]
            rfl
          refine pure_ (i := 6) (N := some 26) (v := ?_) (a' := ?_) #[true, true, true, true, true, true, true, false, false, false] rfl rfl (any_of HT_.out (by kernel_rfl)) (fun _ _ _ h => h) (Or.inl ⟨by rfl, ?_⟩) ?_ ?_
          rotate_left
          · intro w'
            go_simp
            with_reducible rfl
          rotate_left
          · simp only [Act.put, List.setIfInBounds_toArray, List.set_cons_zero, List.set_cons_succ, i64_w, i32_w]
            rfl
          refine pure_ (i := 7) (N := some 27) (v := ?_) (a' := ?_) #[true, true, true, true, true, true, true, true, false, false] rfl rfl (any_of HT_.out (by kernel_rfl)) (fun _ _ _ h => h) (Or.inl ⟨by rfl, ?_⟩) ?_ ?_
          rotate_left
          · intro w'
            go_simp
            with_reducible rfl
          rotate_left
          · simp only [Act.put, List.setIfInBounds_toArray, List.set_cons_zero, List.set_cons_succ, i64_w, i32_w]
            rfl
          refine pure_ (i := 8) (N := some 6) (v := ?_) (a' := ?_) #[true, true, true, true, true, true, true, true, true, false] rfl rfl (any_of HT_.out (by kernel_rfl)) (fun _ _ _ h => h) (Or.inl ⟨by rfl, ?_⟩) ?_ ?_
          rotate_left
          · intro w'
            go_simp
            with_reducible rfl
          rotate_left
          · simp only [Act.put, List.setIfInBounds_toArray, List.set_cons_zero, List.set_cons_succ, i64_w, i32_w]
            rfl
          refine pure_ (i := 9) (N := some 7) (v := ?_) (a' := ?_) #[true, true, true, true, true, true, true, true, true, true] rfl rfl (any_of HT_.out (by kernel_rfl)) (fun _ _ _ h => h) (Or.inl ⟨by rfl, ?_⟩) ?_ ?_
          rotate_left
          · intro w'
            go_simp
            with_reducible rfl
          rotate_left
          · simp only [Act.put, List.setIfInBounds_toArray, List.set_cons_zero, List.set_cons_succ, i64_w, i32_w]
            rfl
          refine done_ (done_of HT_.out (by kernel_rfl)) ?_
          try go_wp2
          have n0_ := Aside0.mk (blk_drew BK156.out)
          have n1_ := Aside0.mk (blk_drew BK157.out)
          have n2_ := Aside0.mk (below_drew1 HB.out)
          clear BK156
          clear BK157
          clear HB
          have BK156 := n0_
          have BK157 := n1_
          have HB := n2_
          clear n0_ n1_ n2_
          refine start_ (n := 10) (S := fun w' => w'.cell? ⟨gb156, 0, none⟩ = some (.string a0_0) ∧ w'.cell? ⟨gb156, 1, none⟩ = some (.string a0_1) ∧ w'.cell? ⟨gb157, 0, none⟩ = some (.string a1_0) ∧ w'.cell? ⟨gb157, 1, none⟩ = some (.string a1_1)) (ds := []) #[false, false, false, false, false, false, false, false, false, false] (by kernel_rfl) rfl rfl ⟨(blk_cell BK156.out 0).trans rfl, (blk_cell BK156.out 1).trans rfl, (blk_cell BK157.out 0).trans rfl, (blk_cell BK157.out 1).trans rfl⟩ (fun hHeld => ?_); refine with_tabW laws_FnExactIsPointOf.tab9 laws_FnExactIsPointOf.bits9 (fun HT_ HW_ => ?_)
          generalize w37.drew = w38 at BK156 BK157 HB hHeld ⊢
          refine take_ (i := 0) (N := some 29) (v := ?_) (a' := ?_) #[true, false, false, false, false, false, false, false, false, false] rfl rfl (take_ofW HT_.out HW_.out (by kernel_rfl)) (fun _ _ _ h => h) (Or.inl ⟨by rfl, ?_⟩) hHeld ?_ ?_
          rotate_left
          · rintro w' ⟨s0, s1, s2, s3⟩
            go_simp
            with_reducible rfl
          rotate_left
          · simp only [Act.put, List.setIfInBounds_toArray, List.set_cons_zero, List.set_cons_succ, i64_w, i32_w]
            rfl
          refine take_ (i := 2) (N := some 31) (v := ?_) (a' := ?_) #[true, false, true, false, false, false, false, false, false, false] rfl rfl (take_ofW HT_.out HW_.out (by kernel_rfl)) (fun _ _ _ h => h) (Or.inl ⟨by rfl, ?_⟩) hHeld ?_ ?_
          rotate_left
          · rintro w' ⟨s0, s1, s2, s3⟩
            go_simp
            with_reducible rfl
          rotate_left
          · simp only [Act.put, List.setIfInBounds_toArray, List.set_cons_zero, List.set_cons_succ, i64_w, i32_w]
            rfl
          refine one_ (i := 1) (N := some 30) #[true, true, true, false, false, false, false, false, false, false] rfl rfl (one_of HT_.out (by kernel_rfl)) (by decide) (fun K hK => ?_)
          refine goes_ Try.func7 (by kernel_rfl) rfl #[.agg #[.string a0_0, .string a0_1]] (by rfl) rfl rfl (by (try simp only [List.map_toArray, List.map_cons, List.map_nil]); first | done | rfl | (simp only [List.length_drop, List.length_take]; rfl)) ?_
          with_reducible refine (laws_toSequence.calls a0_0 a0_1 t166 t167 _ A22.out).mono ?_
          rintro e w39 ⟨rfl, hb⟩
          refine ⟨_, rfl, ?_⟩
          have n0_ := Aside0.mk (blk_below (g := gb156) (o := .cells #[.string a0_0, .string a0_1] 23 (0, 0)) (by (with_reducible repeat (first | refine blk_drewN ?_ _ | refine blk_drew ?_ | refine blk_alloc ?_ _)); exact BK156.out) hb)
          have n1_ := Aside0.mk (blk_below (g := gb157) (o := .cells #[.string a1_0, .string a1_1] 23 (0, 0)) (by (with_reducible repeat (first | refine blk_drewN ?_ _ | refine blk_drew ?_ | refine blk_alloc ?_ _)); exact BK157.out) hb)
          have n2_ := Aside0.mk (below_step (by repeat (first | (with_reducible first | exact HB.out | apply below_alloc | apply pw_below_drewN | apply below_drew1 | refine below_set ?_ GE156.out | refine below_set ?_ GE157.out) | exact HB.out)) hb)
          clear BK156
          clear BK157
          clear HB
          have BK156 := n0_
          have BK157 := n1_
          have HB := n2_
          clear n0_ n1_ n2_
          (try clear hb)
          (try clear hb2)
          (try clear hk)
          (try clear hi)
          refine hK.out _ _ ⟨(blk_cell BK156.out 0).trans rfl, (blk_cell BK156.out 1).trans rfl, (blk_cell BK157.out 0).trans rfl, (blk_cell BK157.out 1).trans rfl⟩ (fun hHeld => ?_)
          clear hK K
          refine norm_ (a' := ?_) ?_ ?_
          rotate_left
          · show Act.put _ (some 30) _ = _
            simp only [Act.put, List.setIfInBounds_toArray, List.set_cons_zero, List.set_cons_succ, i64_w, i32_w]
            rfl
          refine one_ (i := 3) (N := some 32) #[true, true, true, true, false, false, false, false, false, false] rfl rfl (one_of HT_.out (by kernel_rfl)) (by decide) (fun K hK => ?_)
          refine goes_ Try.func7 (by kernel_rfl) rfl #[.agg #[.string a1_0, .string a1_1]] (by rfl) rfl rfl (by (try simp only [List.map_toArray, List.map_cons, List.map_nil]); first | done | rfl | (simp only [List.length_drop, List.length_take]; rfl)) ?_
          with_reducible refine (laws_toSequence.calls a1_0 a1_1 t168 t169 _ A23.out).mono ?_
          rintro e w40 ⟨rfl, hb⟩
          refine ⟨_, rfl, ?_⟩
          have n0_ := Aside0.mk (blk_below (g := gb156) (o := .cells #[.string a0_0, .string a0_1] 23 (0, 0)) (by (with_reducible repeat (first | refine blk_drewN ?_ _ | refine blk_drew ?_ | refine blk_alloc ?_ _)); exact BK156.out) hb)
          have n1_ := Aside0.mk (blk_below (g := gb157) (o := .cells #[.string a1_0, .string a1_1] 23 (0, 0)) (by (with_reducible repeat (first | refine blk_drewN ?_ _ | refine blk_drew ?_ | refine blk_alloc ?_ _)); exact BK157.out) hb)
          have n2_ := Aside0.mk (below_step (by repeat (first | (with_reducible first | exact HB.out | apply below_alloc | apply pw_below_drewN | apply below_drew1 | refine below_set ?_ GE156.out | refine below_set ?_ GE157.out) | exact HB.out)) hb)
          clear BK156
          clear BK157
          clear HB
          have BK156 := n0_
          have BK157 := n1_
          have HB := n2_
          clear n0_ n1_ n2_
          (try clear hb)
          (try clear hb2)
          (try clear hk)
          (try clear hi)
          refine hK.out _ _ ⟨(blk_cell BK156.out 0).trans rfl, (blk_cell BK156.out 1).trans rfl, (blk_cell BK157.out 0).trans rfl, (blk_cell BK157.out 1).trans rfl⟩ (fun hHeld => ?_)
          clear hK K
          refine norm_ (a' := ?_) ?_ ?_
          rotate_left
          · show Act.put _ (some 32) _ = _
            simp only [Act.put, List.setIfInBounds_toArray, List.set_cons_zero, List.set_cons_succ, i64_w, i32_w]
            rfl
          refine one_ (i := 4) (N := some 33) #[true, true, true, true, true, false, false, false, false, false] rfl rfl (one_of HT_.out (by kernel_rfl)) (by decide) (fun K hK => ?_)
          refine goes_ Try.func8 (by kernel_rfl) rfl #[.agg #[.string t166, .string t167], .agg #[.string t168, .string t169]] (by rfl) rfl rfl (by (try simp only [List.map_toArray, List.map_cons, List.map_nil]); first | done | rfl | (simp only [List.length_drop, List.length_take]; rfl)) ?_
          with_reducible refine (impl_IsPointOf.calls k t166 t167 t168 t169 t170 t171 _ A24.out).mono ?_
          rintro e w41 ⟨rfl, hb⟩
          refine ⟨_, rfl, ?_⟩
          have n0_ := Aside0.mk (blk_below (g := gb156) (o := .cells #[.string a0_0, .string a0_1] 23 (0, 0)) (by (with_reducible repeat (first | refine blk_drewN ?_ _ | refine blk_drew ?_ | refine blk_alloc ?_ _)); exact BK156.out) hb)
          have n1_ := Aside0.mk (blk_below (g := gb157) (o := .cells #[.string a1_0, .string a1_1] 23 (0, 0)) (by (with_reducible repeat (first | refine blk_drewN ?_ _ | refine blk_drew ?_ | refine blk_alloc ?_ _)); exact BK157.out) hb)
          have n2_ := Aside0.mk (below_step (by repeat (first | (with_reducible first | exact HB.out | apply below_alloc | apply pw_below_drewN | apply below_drew1 | refine below_set ?_ GE156.out | refine below_set ?_ GE157.out) | exact HB.out)) hb)
          clear BK156
          clear BK157
          clear HB
          have BK156 := n0_
          have BK157 := n1_
          have HB := n2_
          clear n0_ n1_ n2_
          (try clear hb)
          (try clear hb2)
          (try clear hk)
          (try clear hi)
          refine hK.out _ _ ⟨(blk_cell BK156.out 0).trans rfl, (blk_cell BK156.out 1).trans rfl, (blk_cell BK157.out 0).trans rfl, (blk_cell BK157.out 1).trans rfl⟩ (fun hHeld => ?_)
          clear hK K
          refine norm_ (a' := ?_) ?_ ?_
          rotate_left
          · show Act.put _ (some 33) _ = _
            simp only [Act.put, List.setIfInBounds_toArray, List.set_cons_zero, List.set_cons_succ, i64_w, i32_w]
            rfl
          refine pure_ (i := 5) (N := some 28) (v := ?_) (a' := ?_) #[true, true, true, true, true, true, false, false, false, false] rfl rfl (any_of HT_.out (by kernel_rfl)) (fun _ _ _ h => h) (Or.inl ⟨by rfl, ?_⟩) ?_ ?_
          rotate_left
          · intro w'
            go_simp
            with_reducible rfl
          rotate_left
          · simp only [Act.put, List.setIfInBounds_toArray, List.set_cons_zero, List.set_cons_succ, i64_w, i32_w]
            rfl
          refine pure_ (i := 6) (N := some 34) (v := ?_) (a' := ?_) #[true, true, true, true, true, true, true, false, false, false] rfl rfl (any_of HT_.out (by kernel_rfl)) (fun _ _ _ h => h) (Or.inl ⟨by rfl, ?_⟩) ?_ ?_
          rotate_left
          · intro w'
            go_simp
            with_reducible rfl
          rotate_left
          · simp only [Act.put, List.setIfInBounds_toArray, List.set_cons_zero, List.set_cons_succ, i64_w, i32_w]
            rfl
          refine pure_ (i := 7) (N := some 35) (v := ?_) (a' := ?_) #[true, true, true, true, true, true, true, true, false, false] rfl rfl (any_of HT_.out (by kernel_rfl)) (fun _ _ _ h => h) (Or.inl ⟨by rfl, ?_⟩) ?_ ?_
          rotate_left
          · intro w'
            go_simp
            with_reducible rfl
          rotate_left
          · simp only [Act.put, List.setIfInBounds_toArray, List.set_cons_zero, List.set_cons_succ, i64_w, i32_w]
            rfl
          refine pure_ (i := 8) (N := some 8) (v := ?_) (a' := ?_) #[true, true, true, true, true, true, true, true, true, false] rfl rfl (any_of HT_.out (by kernel_rfl)) (fun _ _ _ h => h) (Or.inl ⟨by rfl, ?_⟩) ?_ ?_
          rotate_left
          · intro w'
            go_simp
            with_reducible rfl
          rotate_left
          · simp only [Act.put, List.setIfInBounds_toArray, List.set_cons_zero, List.set_cons_succ, i64_w, i32_w]
            rfl
          refine pure_ (i := 9) (N := some 9) (v := ?_) (a' := ?_) #[true, true, true, true, true, true, true, true, true, true] rfl rfl (any_of HT_.out (by kernel_rfl)) (fun _ _ _ h => h) (Or.inl ⟨by rfl, ?_⟩) ?_ ?_
          rotate_left
          · intro w'
            go_simp
            with_reducible rfl
          rotate_left
          · simp only [Act.put, List.setIfInBounds_toArray, List.set_cons_zero, List.set_cons_succ, i64_w, i32_w]
            rfl
          refine done_ (done_of HT_.out (by kernel_rfl)) ?_
          try go_wp2
          go_ret
          exact ⟨by first | rfl | (simp [errW_none, errW_some] <;> rfl) | (simp [*, errW_none, errW_some] <;> rfl), by repeat (first | (with_reducible first | exact HB.out | apply below_alloc | apply pw_below_drewN | apply below_drew1 | refine below_set ?_ GE156.out | refine below_set ?_ GE157.out) | exact HB.out)⟩
        · rw [if_neg c26] at H
          have c26b0 : (t171 == t165) = false := beq_eq_false_iff_ne.mpr c26
          have c26b1 : (t171 != t165) = true := bne_iff_ne.mpr c26
          exact absurd H (by simp)

end Go.Proofs.Ythljodbopmcgeaa.Q
end
section
/- What the printed functions on letters and sequences answer: letters, the shortest word, the one way to tell a sequence. -/
namespace Go.Proofs.Ythljodbopmcgeaa.Q
open Go.RowKit Go.Proofs.YthljodbopmcgeaaW.PrintWords Go.Proofs.YthljodbopmcgeaaW.PrintLast Go.Proofs.YthljodbopmcgeaaW.Ext
set_option linter.unusedVariables false
set_option linter.unusedSimpArgs false

theorem wrS {x : Int} (h0 : -9223372036854775808 ≤ x) (h1 : x ≤ 9223372036854775807) : wrap64 x = x := by unfold wrap64; omega
/-- Are all bytes letters. -/
def lettersB (s : ByteArray) : Bool := (bytesOf s).all isLetterN
theorem get_bytesOf (s : ByteArray) (i : Nat) (hi : i < (bytesOf s).length) : (bytesOf s)[i] = bt s (i : Int) := by
  rw [← rd_bytesOf]
  simp [rd, hi]
theorem ev_spec_letters (s : ByteArray) (hs : s.size ≤ 1048576) : Ev (fun k => spec_l01Letters.f k s) (lettersB s) := by
  unfold spec_l01Letters.f lettersB
  have key : ∀ d i : Nat, i + d = s.size → Ev (fun k => spec_l01Letters.l0 k s (i : Int)) (((bytesOf s).drop i).all isLetterN) := by
    intro d
    induction d with
    | zero =>
      intro i h
      refine Ev.step (f := fun _ => some true) (fun k => by rw [spec_l01Letters.l0, if_neg (by omega)]) ?_
      rw [List.drop_of_length_le (by rw [bytesOf_length]; omega)]
      exact Ev.now _
    | succ d ih =>
      intro i h
      have hi : i < (bytesOf s).length := by rw [bytesOf_length]; omega
      refine Ev.step (f := fun k => if isLetterN (bt s (i : Int)) = true then spec_l01Letters.l0 k s ((i + 1 : Nat) : Int) else some false) (fun k => ?_) ?_
      · rw [spec_l01Letters.l0, if_pos (by omega), if_pos (by omega), wrS (x := (i : Int) + 1) (by omega) (by omega)]
        rw [show ((i : Int) + 1) = ((i + 1 : Nat) : Int) by omega]
        unfold isLetterN
        by_cases h1 : bt s (i : Int) = 48
        · simp [h1]
        · by_cases h2 : bt s (i : Int) = 49
          · simp [h2]
          · by_cases h3 : bt s (i : Int) = 42
            · simp [h3]
            · simp [h1, h2, h3]
      · rw [List.drop_eq_getElem_cons hi, List.all_cons, get_bytesOf s i hi]
        cases hl : isLetterN (bt s (i : Int)) with
        | true => simpa using ih (i + 1) (by omega)
        | false => simpa using Ev.now false
  simpa using key s.size 0 (by omega)
theorem impl_letters (s : ByteArray) (hs : s.size ≤ 1048576 + 1048576) : impl_areLetters.f s = some (lettersB s) := by
  unfold impl_areLetters.f lettersB
  rw [if_pos (by omega)]
theorem letters_append (a b : ByteArray) : lettersB (a ++ b) = (lettersB a && lettersB b) := by
  unfold lettersB bytesOf
  rw [← List.all_append, ← List.map_append]
  simp
/-! ### the shortest word -/
def perP (s : ByteArray) (m : Nat) : Prop := s.size % m = 0 ∧ ∀ i : Nat, m ≤ i → i < s.size → bt s (i : Int) = bt s ((i - m : Nat) : Int)
theorem leastS {P : Nat → Prop} : ∀ n, 1 ≤ n → P n → ∃ M, 1 ≤ M ∧ M ≤ n ∧ P M ∧ ∀ j, 1 ≤ j → j < M → ¬ P j := by
  intro n
  induction n using Nat.strongRecOn with
  | _ n ih =>
    intro h1 hn
    by_cases h : ∃ j, 1 ≤ j ∧ j < n ∧ P j
    · obtain ⟨j, a, b, c⟩ := h
      obtain ⟨M, m1, m2, m3, m4⟩ := ih j b a c
      exact ⟨M, m1, by omega, m3, m4⟩
    · exact ⟨n, h1, Nat.le_refl _, hn, fun j a b c => h ⟨j, a, b, c⟩⟩
theorem perP_least (s : ByteArray) (h : 1 ≤ s.size) : ∃ M, 1 ≤ M ∧ M ≤ s.size ∧ perP s M ∧ ∀ j, 1 ≤ j → j < M → ¬ perP s j :=
  leastS s.size h ⟨Nat.mod_self _, fun i h1 h2 => by omega⟩
section
variable {s x : ByteArray} {r : ByteArray × ByteArray}
theorem in_false (hs : s.size ≤ 1048576) {c : Nat} (h1 : 1 ≤ c) (hc : c < s.size) (hr : Ev (fun k => spec_l01Canonical.l0 k x s (s.size : Int) ((c + 1 : Nat) : Int)) r) :
    ∀ d i : Nat, i + d = s.size → Ev (fun k => spec_l01Canonical.l1 k x s (s.size : Int) (c : Int) false (i : Int)) r := by
  intro d
  induction d with
  | zero =>
    intro i h
    refine Ev.step (f := fun k => spec_l01Canonical.l0 k x s (s.size : Int) ((c + 1 : Nat) : Int)) (fun k => ?_) hr
    rw [spec_l01Canonical.l1, if_neg (by omega), if_neg (by decide), wrS (x := (c : Int) + 1) (by omega) (by omega)]
    rw [show (c : Int) + 1 = ((c + 1 : Nat) : Int) by omega]
  | succ d ih =>
    intro i h
    refine Ev.step (f := fun k => spec_l01Canonical.l1 k x s (s.size : Int) (c : Int) false ((i + 1 : Nat) : Int)) (fun k => ?_) (ih (i + 1) (by omega))
    rw [spec_l01Canonical.l1, if_pos (by omega), if_neg (by decide), wrS (x := (i : Int) + 1) (by omega) (by omega)]
    rw [show (i : Int) + 1 = ((i + 1 : Nat) : Int) by omega]
theorem in_step (hs : s.size ≤ 1048576) {c i : Nat} (h1 : 1 ≤ c) (hi : i < s.size) (hc : c ≤ i) (k : Nat) :
    spec_l01Canonical.l1 (k + 1) x s (s.size : Int) (c : Int) true (i : Int) = spec_l01Canonical.l1 k x s (s.size : Int) (c : Int) (bt s (i : Int) == bt s ((i - c : Nat) : Int)) ((i + 1 : Nat) : Int) := by
  rw [spec_l01Canonical.l1, if_pos (by omega), if_pos rfl, if_pos (by omega), if_pos (by omega), wrS (x := (i : Int) - (c : Int)) (by omega) (by omega), if_pos (by omega), if_pos (by omega), wrS (x := (i : Int) + 1) (by omega) (by omega)]
  rw [show (i : Int) + 1 = ((i + 1 : Nat) : Int) by omega, show (i : Int) - (c : Int) = ((i - c : Nat) : Int) by omega]
theorem in_all (hs : s.size ≤ 1048576) {c : Nat} (h1 : 1 ≤ c) (hc : c ≤ s.size) (hp : ∀ i : Nat, c ≤ i → i < s.size → bt s (i : Int) = bt s ((i - c : Nat) : Int)) (hr : Ev (fun k => spec_l01Canonical.j2 k x (s.extract 0 c)) r) :
    ∀ d i : Nat, i + d = s.size → c ≤ i → Ev (fun k => spec_l01Canonical.l1 k x s (s.size : Int) (c : Int) true (i : Int)) r := by
  intro d
  induction d with
  | zero =>
    intro i h _
    refine Ev.step (f := fun k => spec_l01Canonical.j2 k x (s.extract 0 c)) (fun k => ?_) hr
    rw [spec_l01Canonical.l1, if_neg (by omega), if_pos rfl, if_pos (by omega), if_pos (by omega), Int.toNat_natCast]
  | succ d ih =>
    intro i h hci
    refine Ev.step (f := fun k => spec_l01Canonical.l1 k x s (s.size : Int) (c : Int) true ((i + 1 : Nat) : Int)) (fun k => ?_) (ih (i + 1) (by omega) (by omega))
    rw [in_step hs h1 (by omega) hci, hp i hci (by omega)]
    simp
theorem in_some (hs : s.size ≤ 1048576) {c : Nat} (h1 : 1 ≤ c) (hc : c < s.size) (hr : Ev (fun k => spec_l01Canonical.l0 k x s (s.size : Int) ((c + 1 : Nat) : Int)) r) :
    ∀ d i : Nat, i + d = s.size → c ≤ i → (∃ t, i ≤ t ∧ t < s.size ∧ bt s (t : Int) ≠ bt s ((t - c : Nat) : Int)) → Ev (fun k => spec_l01Canonical.l1 k x s (s.size : Int) (c : Int) true (i : Int)) r := by
  intro d
  induction d with
  | zero =>
    intro i h _ ht
    obtain ⟨t, t1, t2, _⟩ := ht
    omega
  | succ d ih =>
    intro i h hci ht
    obtain ⟨t, t1, t2, t3⟩ := ht
    by_cases e : bt s (i : Int) = bt s ((i - c : Nat) : Int)
    · refine Ev.step (f := fun k => spec_l01Canonical.l1 k x s (s.size : Int) (c : Int) true ((i + 1 : Nat) : Int)) (fun k => ?_) (ih (i + 1) (by omega) (by omega) ⟨t, ?_, t2, t3⟩)
      · rw [in_step hs h1 (by omega) hci, e]
        simp
      · rcases Nat.lt_or_ge i t with h' | h'
        · exact h'
        · have : t = i := by omega
          subst this
          exact absurd e t3
    · refine Ev.step (f := fun k => spec_l01Canonical.l1 k x s (s.size : Int) (c : Int) false ((i + 1 : Nat) : Int)) (fun k => ?_) (in_false hs h1 hc hr d (i + 1) (by omega))
      rw [in_step hs h1 (by omega) hci, beq_eq_false_iff_ne.2 e]
theorem not_perP {c : Nat} (h : ¬ perP s c) (hd : s.size % c = 0) : ∃ t, c ≤ t ∧ t < s.size ∧ bt s (t : Int) ≠ bt s ((t - c : Nat) : Int) := by
  by_cases g : ∃ t, c ≤ t ∧ t < s.size ∧ bt s (t : Int) ≠ bt s ((t - c : Nat) : Int)
  · exact g
  · exfalso
    refine h ⟨hd, fun i h1 h2 => ?_⟩
    by_cases e : bt s (i : Int) = bt s ((i - c : Nat) : Int)
    · exact e
    · exact absurd ⟨i, h1, h2, e⟩ g
theorem tmod_nat (a b : Nat) : Int.tmod (a : Int) (b : Int) = ((a % b : Nat) : Int) := by
  rw [Int.tmod_eq_emod_of_nonneg (by omega)]
  omega
theorem out_root (hs : s.size ≤ 1048576) {m : Nat} (m1 : 1 ≤ m) (m2 : m ≤ s.size) (hp : perP s m) (hl : ∀ j, 1 ≤ j → j < m → ¬ perP s j) (hr : Ev (fun k => spec_l01Canonical.j2 k x (s.extract 0 m)) r) :
    ∀ d c : Nat, c + d = m → 1 ≤ c → Ev (fun k => spec_l01Canonical.l0 k x s (s.size : Int) (c : Int)) r := by
  intro d
  induction d with
  | zero =>
    intro c h h1
    obtain rfl : c = m := by omega
    refine Ev.step (f := fun k => spec_l01Canonical.l1 k x s (s.size : Int) (c : Int) true (c : Int)) (fun k => ?_) (in_all hs h1 m2 hp.2 hr (s.size - c) c (by omega) (Nat.le_refl _))
    rw [spec_l01Canonical.l0, if_pos (by omega), if_neg (by omega), tmod_nat, hp.1, if_pos (by omega)]
  | succ d ih =>
    intro c h h1
    have next := ih (c + 1) (by omega) (by omega)
    by_cases hd : s.size % c = 0
    · refine Ev.step (f := fun k => spec_l01Canonical.l1 k x s (s.size : Int) (c : Int) true (c : Int)) (fun k => ?_) (in_some hs h1 (by omega) next (s.size - c) c (by omega) (Nat.le_refl _) (not_perP (hl c h1 (by omega)) hd))
      rw [spec_l01Canonical.l0, if_pos (by omega), if_neg (by omega), tmod_nat, hd, if_pos (by omega)]
    · refine Ev.step (f := fun k => spec_l01Canonical.l0 k x s (s.size : Int) ((c + 1 : Nat) : Int)) (fun k => ?_) next
      rw [spec_l01Canonical.l0, if_pos (by omega), if_neg (by omega), tmod_nat, if_neg (by omega), wrS (x := (c : Int) + 1) (by omega) (by omega)]
      rw [show (c : Int) + 1 = ((c + 1 : Nat) : Int) by omega]
end
/-! ### the same, as the program asks it: by repeating -/
theorem rep_get (l : List UInt8) (hl : 0 < l.length) : ∀ c i, i < c * l.length → (Lib.repeatL l c)[i]? = l[i % l.length]? := by
  intro c
  induction c with
  | zero => intro i h; omega
  | succ c ih =>
    intro i h
    show (l ++ Lib.repeatL l c)[i]? = _
    rw [Nat.succ_mul] at h
    by_cases hi : i < l.length
    · rw [List.getElem?_append_left hi, Nat.mod_eq_of_lt hi]
    · rw [List.getElem?_append_right (by omega), ih (i - l.length) (by omega), ← Nat.mod_eq_sub_mod (by omega)]
theorem bt_eq (s t : ByteArray) (i j : Nat) (hi : i < s.size) (hj : j < t.size) : bt s (i : Int) = bt t (j : Int) ↔ s.data.toList[i]? = t.data.toList[j]? := by
  have hi' : i < s.data.toList.length := by rw [← Lib.size_eq]; exact hi
  have hj' : j < t.data.toList.length := by rw [← Lib.size_eq]; exact hj
  rw [List.getElem?_eq_getElem hi', List.getElem?_eq_getElem hj']
  unfold bt
  rw [Int.toNat_natCast, Int.toNat_natCast, dif_pos hi, dif_pos hj]
  have e1 : s[i] = s.data.toList[i] := by simp [ByteArray.getElem_eq_getElem_data]
  have e2 : t[j] = t.data.toList[j] := by simp [ByteArray.getElem_eq_getElem_data]
  rw [e1, e2]
  constructor
  · intro h
    have : s.data.toList[i].toNat = t.data.toList[j].toNat := by omega
    rw [UInt8.toNat_inj.1 this]
  · intro h
    rw [Option.some.inj h]
theorem per_mod {s : ByteArray} {c : Nat} (h1 : 1 ≤ c) (hc : c ≤ s.size) : (∀ i : Nat, c ≤ i → i < s.size → bt s (i : Int) = bt s ((i - c : Nat) : Int)) ↔ (∀ i : Nat, i < s.size → bt s (i : Int) = bt s ((i % c : Nat) : Int)) := by
  constructor
  · intro h i
    induction i using Nat.strongRecOn with
    | _ i ih =>
      intro hi
      by_cases hci : c ≤ i
      · rw [h i hci hi, ih (i - c) (by omega) (by omega), ← Nat.mod_eq_sub_mod hci]
      · rw [Nat.mod_eq_of_lt (by omega)]
  · intro h i hci hi
    rw [h i hi, h (i - c) (by omega), ← Nat.mod_eq_sub_mod hci]
theorem rep_iff {s : ByteArray} {c : Nat} (h1 : 1 ≤ c) (hc : c ≤ s.size) (hd : s.size % c = 0) :
    (Go.Proofs.Ythljodbopmcgeaa.Rep.val (s.extract 0 c) ((s.size / c : Nat) : Int)).toList = s.toList ↔ ∀ i : Nat, c ≤ i → i < s.size → bt s (i : Int) = bt s ((i - c : Nat) : Int) := by
  rw [per_mod h1 hc, Lib.toList_data, Lib.toList_data]
  unfold Go.Proofs.Ythljodbopmcgeaa.Rep.val
  rw [Int.toNat_natCast, Lib.extract_data]
  simp only [List.drop_zero, Nat.sub_zero]
  have hL : s.data.toList.length = s.size := (Lib.size_eq s).symm
  have hl : (s.data.toList.take c).length = c := by rw [List.length_take, hL]; omega
  have hn : s.size / c * c = s.size := Nat.div_mul_cancel (Nat.dvd_of_mod_eq_zero hd)
  have hlen : (Lib.repeatL (s.data.toList.take c) (s.size / c)).length = s.size := by rw [Lib.repeatL_length, hl, hn]
  have get : ∀ i, i < s.size → (Lib.repeatL (s.data.toList.take c) (s.size / c))[i]? = s.data.toList[i % c]? := by
    intro i hi
    rw [rep_get _ (by omega) _ _ (by rw [hl, hn]; exact hi), hl, List.getElem?_take, if_pos (Nat.mod_lt _ (by omega))]
  constructor
  · intro h i hi
    have hm : i % c < s.size := Nat.lt_of_lt_of_le (Nat.mod_lt _ (by omega)) hc
    rw [bt_eq s s i (i % c) hi hm, ← get i hi, h]
  · intro h
    refine List.ext_getElem? fun i => ?_
    by_cases hi : i < s.size
    · have hm : i % c < s.size := Nat.lt_of_lt_of_le (Nat.mod_lt _ (by omega)) hc
      have := (bt_eq s s i (i % c) hi hm).1 (h i hi)
      rw [this]
      exact get i hi
    · rw [List.getElem?_eq_none (by show _ ≤ _; simp only [hlen]; omega), List.getElem?_eq_none (by omega)]
theorem ev_impl_root {s : ByteArray} (hs : s.size ≤ 8192) {m : Nat} (m1 : 1 ≤ m) (m2 : m ≤ s.size) (hp : perP s m) (hl : ∀ j, 1 ≤ j → j < m → ¬ perP s j) :
    Ev (fun k => impl_root.f k s) (s.extract 0 m) := by
  unfold impl_root.f
  have key : ∀ d c : Nat, c + d = m → 1 ≤ c → Ev (fun k => impl_root.l0 k s (c : Int)) (s.extract 0 m) := by
    intro d
    have ev : ∀ c : Nat, 1 ≤ c → c ≤ s.size → s.size % c = 0 → ∀ k, impl_root.l0 (k + 1) s (c : Int) = if (Go.Proofs.Ythljodbopmcgeaa.Rep.val (s.extract 0 c) ((s.size / c : Nat) : Int)).toList = s.toList then some (s.extract 0 c) else impl_root.l0 k s ((c + 1 : Nat) : Int) := by
      intro c h1 hc hd k
      have hq : s.size / c * c = s.size := Nat.div_mul_cancel (Nat.dvd_of_mod_eq_zero hd)
      have hq2 : s.size / c ≤ s.size := Nat.div_le_self _ _
      have hx : (s.extract 0 c).size = c := by simp; omega
      rw [impl_root.l0, if_neg (by omega), if_pos (by omega), if_pos (by omega), if_pos (by omega)]
      unfold strings_Repeat.f
      rw [show ((s.size : Nat) : Int) / (c : Int) = ((s.size / c : Nat) : Int) from (Int.natCast_ediv _ _).symm]
      generalize s.size / c = q at *
      rw [wrS (x := (q : Int)) (by omega) (by omega), Int.toNat_natCast, Int.toNat_natCast, if_pos ⟨by omega, by omega, by rw [hx, Nat.mul_comm, hq]; omega⟩]
      rw [wrS (x := (c : Int) + 1) (by omega) (by omega), show (c : Int) + 1 = ((c + 1 : Nat) : Int) by omega]
      rfl
    induction d with
    | zero =>
      intro c h h1
      obtain rfl : c = m := by omega
      refine Ev.step (f := fun k => some (s.extract 0 c)) (fun k => ?_) (Ev.now _)
      rw [ev c h1 m2 hp.1, if_pos ((rep_iff h1 m2 hp.1).2 hp.2)]
    | succ d ih =>
      intro c h h1
      have next := ih (c + 1) (by omega) (by omega)
      refine Ev.step (f := fun k => impl_root.l0 k s ((c + 1 : Nat) : Int)) (fun k => ?_) next
      by_cases hd : s.size % c = 0
      · rw [ev c h1 (by omega) hd, if_neg (fun e => hl c h1 (by omega) ⟨hd, (rep_iff h1 (by omega) hd).1 e⟩)]
      · rw [impl_root.l0, if_neg (by omega), if_neg (by omega), wrS (x := (c : Int) + 1) (by omega) (by omega)]
        rw [show (c : Int) + 1 = ((c + 1 : Nat) : Int) by omega]
  exact key (m - 1) 1 (by omega) (by omega)
/-! ### letters of Pre taken into Per -/
def rotB : Nat → ByteArray → ByteArray → ByteArray × ByteArray
  | 0, x, y => (x, y)
  | n + 1, x, y => if bt x (n : Int) = bt y ((y.size - 1 : Nat) : Int) then rotB n (x.extract 0 n) (y.extract (y.size - 1) y.size ++ y.extract 0 (y.size - 1)) else (x, y)
theorem rot_size (y : ByteArray) (h : 1 ≤ y.size) : (y.extract (y.size - 1) y.size ++ y.extract 0 (y.size - 1)).size = y.size := by
  simp <;> omega
theorem rotB_size : ∀ n x y, x.size = n → 1 ≤ y.size → (rotB n x y).1.size ≤ n ∧ (rotB n x y).2.size = y.size := by
  intro n
  induction n with
  | zero => intro x y hx hy; simp [rotB, hx]
  | succ n ih =>
    intro x y hx hy
    unfold rotB
    split
    · have := ih (x.extract 0 n) (y.extract (y.size - 1) y.size ++ y.extract 0 (y.size - 1)) (by simp; omega) (by rw [rot_size y hy]; exact hy)
      rw [rot_size y hy] at this
      omega
    · simp [hx]
theorem nil_iff (x : ByteArray) : x.toList = ([] : List UInt8) ↔ x.size = 0 := by
  rw [Lib.toList_data, Lib.size_eq]
  exact List.length_eq_zero_iff.symm
theorem ev_spec_rot : ∀ n x y, x.size = n → n ≤ 64 → 1 ≤ y.size → y.size ≤ 64 → Ev (fun k => spec_l01Canonical.l2 k x y) (rotB n x y) := by
  intro n
  induction n with
  | zero =>
    intro x y hx _ _ _
    exact Ev.step (f := fun _ => some (x, y)) (fun k => by rw [spec_l01Canonical.l2, if_neg (by omega)]) (Ev.now _)
  | succ n ih =>
    intro x y hx hn hy hy64
    refine Ev.step (f := fun k => if bt x (n : Int) = bt y ((y.size - 1 : Nat) : Int) then spec_l01Canonical.l2 k (x.extract 0 n) (y.extract (y.size - 1) y.size ++ y.extract 0 (y.size - 1)) else some (x, y)) (fun k => ?_) ?_
    · have e := rot_size y hy
      rw [ByteArray.size_append] at e
      rw [spec_l01Canonical.l2, if_pos (by omega), wrS (x := (x.size : Int) - 1) (by omega) (by omega), wrS (x := (y.size : Int) - 1) (by omega) (by omega), show (x.size : Int) - 1 = (n : Int) by omega, show (y.size : Int) - 1 = ((y.size - 1 : Nat) : Int) by omega]
      rw [if_pos (by omega), if_pos (by omega), if_pos (by omega), if_pos (by omega), if_pos (show ((y.size - 1 : Nat) : Int) ≤ (y.size : Int) by omega), Int.toNat_natCast, Int.toNat_natCast, if_pos (show (y.extract (y.size - 1) y.size).size + (y.extract 0 (y.size - 1)).size ≤ 9223372036854775807 by omega), if_pos (show (n : Int) ≤ (x.size : Int) by omega)]
    · unfold rotB
      by_cases h : bt x (n : Int) = bt y ((y.size - 1 : Nat) : Int)
      · simp only [if_pos h]
        exact ih _ _ (by simp; omega) (by omega) (by rw [rot_size y hy]; exact hy) (by rw [rot_size y hy]; exact hy64)
      · simp only [if_neg h]
        exact Ev.now _
theorem ev_impl_rot : ∀ n x y, x.size = n → n ≤ 64 → 1 ≤ y.size → y.size ≤ 64 → Ev (fun k => impl_sequence.l0 k x y) (rotB n x y) := by
  intro n
  induction n with
  | zero =>
    intro x y hx _ _ _
    exact Ev.step (f := fun _ => some (x, y)) (fun k => by rw [impl_sequence.l0, if_pos ((nil_iff x).2 hx)]) (Ev.now _)
  | succ n ih =>
    intro x y hx hn hy hy64
    refine Ev.step (f := fun k => if bt x (n : Int) = bt y ((y.size - 1 : Nat) : Int) then impl_sequence.l0 k (x.extract 0 n) (y.extract (y.size - 1) y.size ++ y.extract 0 (y.size - 1)) else some (x, y)) (fun k => ?_) ?_
    · have e := rot_size y hy
      rw [ByteArray.size_append] at e
      rw [impl_sequence.l0, if_neg (fun z => by have := (nil_iff x).1 z; omega), wrS (x := (x.size : Int) - 1) (by omega) (by omega), wrS (x := (y.size : Int) - 1) (by omega) (by omega), show (x.size : Int) - 1 = (n : Int) by omega, show (y.size : Int) - 1 = ((y.size - 1 : Nat) : Int) by omega]
      rw [if_pos (by omega), if_pos (by omega), if_pos (by omega), if_pos (by omega), if_pos (show (n : Int) ≤ (x.size : Int) by omega), if_pos (show ((y.size - 1 : Nat) : Int) ≤ (y.size : Int) by omega), Int.toNat_natCast, Int.toNat_natCast, if_pos (show (y.extract (y.size - 1) y.size).size + (y.extract 0 (y.size - 1)).size ≤ 9223372036854775807 by omega)]
    · unfold rotB
      by_cases h : bt x (n : Int) = bt y ((y.size - 1 : Nat) : Int)
      · simp only [if_pos h]
        exact ih _ _ (by simp; omega) (by omega) (by rw [rot_size y hy]; exact hy) (by rw [rot_size y hy]; exact hy64)
      · simp only [if_neg h]
        exact Ev.now _
/-- Both tell a sequence in the same way. -/
theorem both_canon (x y : ByteArray) (hy : 1 ≤ y.size) (h64 : x.size + y.size ≤ 64) :
    ∃ c : ByteArray × ByteArray, Ev (fun k => spec_l01Canonical.f k x y) c ∧ Ev (fun k => impl_sequence.f k x y) c ∧ c.1.size ≤ x.size ∧ 1 ≤ c.2.size ∧ c.2.size ≤ y.size := by
  obtain ⟨m, m1, m2, hp, hl⟩ := perP_least y hy
  have hz : (y.extract 0 m).size = m := by simp; omega
  have sz := rotB_size x.size x (y.extract 0 m) rfl (by omega)
  refine ⟨rotB x.size x (y.extract 0 m), ?_, ?_, sz.1, by omega, by omega⟩
  · unfold spec_l01Canonical.f
    have hr : Ev (fun k => spec_l01Canonical.j2 k x (y.extract 0 m)) (rotB x.size x (y.extract 0 m)) :=
      Ev.step (f := fun k => spec_l01Canonical.l2 k x (y.extract 0 m)) (fun k => by rw [spec_l01Canonical.j2]) (ev_spec_rot x.size x (y.extract 0 m) rfl (by omega) (by omega) (by omega))
    exact out_root (by omega) m1 m2 hp hl hr (m - 1) 1 (by omega) (by omega)
  · unfold impl_sequence.f
    refine Ev.bind (ev_impl_root (by omega) m1 m2 hp hl) ?_
    exact ev_impl_rot x.size x (y.extract 0 m) rfl (by omega) (by omega) (by omega)
end Go.Proofs.Ythljodbopmcgeaa.Q
end
section
/- Whether two words are a sequence; a letter of a sequence; rho: both ways to ask answer alike. -/
namespace Go.Proofs.Ythljodbopmcgeaa.Q
open Go.RowKit Go.Proofs.YthljodbopmcgeaaW.PrintWords Go.Proofs.YthljodbopmcgeaaW.PrintLast Go.Proofs.YthljodbopmcgeaaW.Ext
set_option linter.unusedVariables false
set_option linter.unusedSimpArgs false

theorem sz_some (a b : ByteArray) (n : Int) (h0 : 0 ≤ n) (h1 : n ≤ 1048576) (ha : a.size ≤ maxLen) (hb : b.size ≤ maxLen) :
    ∃ z, laws_szSequence.f a b n = some z ∧ (z < 0 ∨ (0 ≤ z ∧ z ≤ n ∧ (a.size : Int) + (b.size : Int) ≤ n)) := by
  unfold maxLen at ha hb
  unfold laws_szSequence.f
  rw [wrS (x := n - (a.size : Int)) (by omega) (by omega)]
  by_cases c : n - (a.size : Int) < 0
  · exact ⟨-1, by rw [if_pos c], by omega⟩
  · rw [if_neg c, wrS (x := n - (a.size : Int) - (b.size : Int)) (by omega) (by omega)]
    by_cases d : n - (a.size : Int) - (b.size : Int) < 0
    · exact ⟨-1, by rw [if_pos d], by omega⟩
    · exact ⟨_, by rw [if_neg d], by omega⟩
theorem given_val (a b : ByteArray) (h : a.size + b.size ≤ 4194304) : impl_areGiven.f a b = some (decide (1 ≤ b.size ∧ a.size + b.size ≤ 64)) := by
  unfold impl_areGiven.f
  by_cases hb : b.size = 0
  · rw [if_pos ((nil_iff b).2 hb)]
    simp [hb]
  · rw [if_neg (fun z => hb ((nil_iff b).1 z)), wrS (by omega) (by omega)]
    congr 1
    rw [decide_eq_decide]
    omega
theorem both_seq (a b : ByteArray) (h : a.size + b.size ≤ 1048576) : ∃ r : Bool, Ev (fun k => spec_l01Seq.f k a b) r ∧ Ev (fun k => impl_IsSequence.f k a b) r ∧
    (r = true → lettersB a = true ∧ lettersB b = true ∧ 1 ≤ b.size ∧ a.size + b.size ≤ 64) := by
  have la := ev_spec_letters a (by omega)
  have lb := ev_spec_letters b (by omega)
  have li : impl_areLetters.f (a ++ b) = some (lettersB a && lettersB b) := by rw [impl_letters _ (by rw [ByteArray.size_append]; omega), letters_append]
  have himpl : ∀ k, impl_IsSequence.f k a b = if (lettersB a && lettersB b) = true then (if 1 ≤ b.size ∧ a.size + b.size ≤ 64 then (impl_sequence.f k a b).bind fun c => some (c.1.toList == a.toList && (c.2.toList == b.toList)) else some false) else some false := by
    intro k
    unfold impl_IsSequence.f
    rw [if_pos (by omega), li, Option.bind_some, given_val a b (by omega), Option.bind_some]
    simp only [decide_eq_true_eq]
  have hspec : ∀ r, Ev (fun k => if lettersB b = true then (if b.size = 0 then some false else if a.size + b.size ≤ 64 then (spec_l01Canonical.f k a b).bind fun c => some (c.1.toList == a.toList && (c.2.toList == b.toList)) else some false) else some false) r → lettersB a = true → Ev (fun k => spec_l01Seq.f k a b) r := by
    intro r hr h1
    unfold spec_l01Seq.f
    refine Ev.bind la ?_
    simp only [h1, if_true]
    refine Ev.bind lb ?_
    refine Ev.congr (fun k => ?_) hr
    by_cases hb : b.size = 0
    · rw [if_pos ((nil_iff b).2 hb), if_pos hb]
    · rw [if_neg (fun z => hb ((nil_iff b).1 z)), if_neg hb, wrS (by omega) (by omega)]
      by_cases h64 : a.size + b.size ≤ 64
      · rw [if_neg (show ¬ (a.size : Int) + (b.size : Int) > 64 by omega), if_pos h64]
      · rw [if_pos (show (a.size : Int) + (b.size : Int) > 64 by omega), if_neg h64]
  cases h1 : lettersB a with
  | false =>
    refine ⟨false, ?_, ?_, by simp⟩
    · unfold spec_l01Seq.f
      refine Ev.bind la ?_
      simp only [h1, Bool.false_eq_true, if_false]
      exact Ev.now _
    · exact Ev.congr (fun k => by rw [himpl k, h1, Bool.false_and, if_neg (by decide)]) (Ev.now false)
  | true =>
    cases h2 : lettersB b with
    | false =>
      refine ⟨false, hspec _ ?_ h1, ?_, by simp⟩
      · simp only [h2, Bool.false_eq_true, if_false]
        exact Ev.now _
      · exact Ev.congr (fun k => by rw [himpl k, h1, h2, if_neg (by decide)]) (Ev.now false)
    | true =>
      by_cases hb : 1 ≤ b.size ∧ a.size + b.size ≤ 64
      · obtain ⟨c, c1, c2, _⟩ := both_canon a b hb.1 hb.2
        refine ⟨c.1.toList == a.toList && (c.2.toList == b.toList), hspec _ ?_ h1, ?_, fun _ => ⟨rfl, rfl, hb⟩⟩
        · simp only [h2, if_true, if_neg (show ¬ b.size = 0 by omega), if_pos hb.2]
          exact Ev.bind c1 (Ev.now _)
        · refine Ev.congr (f := fun k => (impl_sequence.f k a b).bind fun c => some (c.1.toList == a.toList && (c.2.toList == b.toList))) (fun k => by rw [himpl k, h1, h2, if_pos (by decide), if_pos hb]) ?_
          exact Ev.bind c2 (Ev.now _)
      · refine ⟨false, hspec _ ?_ h1, ?_, by simp⟩
        · simp only [h2, if_true]
          by_cases hz : b.size = 0
          · simp only [if_pos hz]; exact Ev.now _
          · simp only [if_neg hz, if_neg (show ¬ a.size + b.size ≤ 64 by omega)]; exact Ev.now _
        · exact Ev.congr (fun k => by rw [himpl k, h1, h2, if_pos (by decide), if_neg hb]) (Ev.now false)
/-- A letter, by its number. -/
def atV (a b : ByteArray) (k : Nat) : Int := if k < a.size then bt a (k : Int) else bt b (((k - a.size) % b.size : Nat) : Int)
theorem at_val (a b : ByteArray) (k : Nat) (hb : 1 ≤ b.size) (ha : a.size ≤ 64) (hk : k ≤ 1000000000) : spec_l01At.f a b (k : Int) = some (atV a b k) := by
  unfold spec_l01At.f atV
  by_cases h : k < a.size
  · rw [if_pos (by omega), if_pos (by omega), if_pos h]
  · have hm := Nat.mod_lt (k - a.size) (show 0 < b.size by omega)
    rw [if_neg (by omega), if_neg (by omega), wrS (by omega) (by omega), show (k : Int) - (a.size : Int) = ((k - a.size : Nat) : Int) by omega, tmod_nat]
    generalize (k - a.size) % b.size = m at *
    rw [if_pos (by omega), if_pos (by omega), if_neg h]
theorem at_val' (a b : ByteArray) (k : Nat) (hb : 1 ≤ b.size) (ha : a.size ≤ 64) (hk : k ≤ 1000000000) : impl_Sequence_at.f a b (k : Int) = some (atV a b k) := at_val a b k hb ha hk
theorem bt_letter {s : ByteArray} (h : lettersB s = true) (i : Nat) (hi : i < s.size) : bt s (i : Int) = 48 ∨ bt s (i : Int) = 49 ∨ bt s (i : Int) = 42 := by
  have hl : i < (bytesOf s).length := by rw [bytesOf_length]; exact hi
  have := List.all_eq_true.1 h _ (List.getElem_mem hl)
  rw [get_bytesOf s i hl] at this
  unfold isLetterN at this
  simpa using this
theorem at_letter {a b : ByteArray} (ha : lettersB a = true) (hb : lettersB b = true) (h1 : 1 ≤ b.size) (k : Nat) : atV a b k = 48 ∨ atV a b k = 49 ∨ atV a b k = 42 := by
  unfold atV
  split
  · rename_i h; exact bt_letter ha k h
  · exact bt_letter hb _ (Nat.mod_lt _ (by omega))
/-- What the laws ask first: how long the words are. -/
theorem sz_frame {a b : ByteArray} (ha : a.size ≤ maxLen) (hb : b.size ≤ maxLen) {g : Nat → Option Bool} (h : a.size + b.size ≤ 1048576 → Ev g true) :
    Ev (fun k => (laws_szSequence.f a b 1048576).bind fun t => if t < 0 then some true else g k) true := by
  obtain ⟨z, hz, h1⟩ := sz_some a b 1048576 (by omega) (by omega) ha hb
  rw [hz]
  simp only [Option.bind_some]
  by_cases hn : z < 0
  · simp only [if_pos hn]; exact Ev.now _
  · simp only [if_neg hn]; exact h (by omega)
end Go.Proofs.Ythljodbopmcgeaa.Q
end
section
/- Star-periodic sequences: both ways to ask answer alike (the part of SeqRho that points need). -/
namespace Go.Proofs.Ythljodbopmcgeaa.Q
open Go.RowKit Go.Proofs.YthljodbopmcgeaaW.PrintWords Go.Proofs.YthljodbopmcgeaaW.PrintLast Go.Proofs.YthljodbopmcgeaaW.Ext
set_option linter.unusedVariables false
set_option linter.unusedSimpArgs false

/-! ### star-periodic -/
theorem star_none (a b : ByteArray) (hb : 1 ≤ b.size) (h64 : b.size ≤ 64) (h : ∀ i : Nat, i < b.size - 1 → bt b (i : Int) ≠ 42) : ∀ d i, i + d = b.size - 1 → Ev (fun k => spec_l02Star.l0 k (b.size : Int) (i : Int) a b) true := by
  intro d
  induction d with
  | zero =>
    intro i hi
    exact Ev.step (f := fun _ => some true) (fun k => by rw [spec_l02Star.l0, wrS (x := (b.size : Int) - 1) (by omega) (by omega), if_neg (by omega)]) (Ev.now _)
  | succ d ih =>
    intro i hi
    refine Ev.step (f := fun k => spec_l02Star.l0 k (b.size : Int) ((i + 1 : Nat) : Int) a b) (fun k => ?_) (ih (i + 1) (by omega))
    rw [spec_l02Star.l0, wrS (x := (b.size : Int) - 1) (by omega) (by omega), if_pos (by omega), if_pos (by omega), if_pos (by omega), if_neg (h i (by omega)), wrS (x := (i : Int) + 1) (by omega) (by omega)]
    rfl
theorem star_some (a b : ByteArray) (hb : 1 ≤ b.size) (h64 : b.size ≤ 64) : ∀ d i, i + d = b.size - 1 → (∃ t : Nat, i ≤ t ∧ t < b.size - 1 ∧ bt b (t : Int) = 42) → Ev (fun k => spec_l02Star.l0 k (b.size : Int) (i : Int) a b) false := by
  intro d
  induction d with
  | zero =>
    intro i hi ht
    obtain ⟨t, t1, t2, _⟩ := ht
    omega
  | succ d ih =>
    intro i hi ht
    by_cases e : bt b (i : Int) = 42
    · refine Ev.step (f := fun _ => some false) (fun k => ?_) (Ev.now _)
      rw [spec_l02Star.l0, wrS (x := (b.size : Int) - 1) (by omega) (by omega), if_pos (by omega), if_pos (by omega), if_pos (by omega), if_pos e]
    · obtain ⟨t, t1, t2, t3⟩ := ht
      refine Ev.step (f := fun k => spec_l02Star.l0 k (b.size : Int) ((i + 1 : Nat) : Int) a b) (fun k => ?_) (ih (i + 1) (by omega) ⟨t, ?_, t2, t3⟩)
      · rw [spec_l02Star.l0, wrS (x := (b.size : Int) - 1) (by omega) (by omega), if_pos (by omega), if_pos (by omega), if_pos (by omega), if_neg e, wrS (x := (i : Int) + 1) (by omega) (by omega)]
        rfl
      · rcases Nat.lt_or_ge i t with g | g
        · exact g
        · have : t = i := by omega
          subst this
          exact absurd t3 e
theorem bt_star (b : ByteArray) (i : Nat) (hi : i < b.size) : bt b (i : Int) = 42 ↔ b.data.toList[i]? = some 42 := by
  have hi' : i < b.data.toList.length := by rw [← Lib.size_eq]; exact hi
  rw [List.getElem?_eq_getElem hi']
  unfold bt
  rw [Int.toNat_natCast, dif_pos hi]
  have e1 : b[i] = b.data.toList[i] := by simp [ByteArray.getElem_eq_getElem_data]
  rw [e1]
  constructor
  · intro h
    have : b.data.toList[i].toNat = (42 : UInt8).toNat := by
      show _ = 42
      omega
    rw [UInt8.toNat_inj.1 this]
  · intro h
    rw [Option.some.inj h]
    rfl
/-- What 'strings.IndexByte(Per, '*') == len(Per)-1' asks. -/
theorem index_last (b : ByteArray) (hb : 1 ≤ b.size) : Lib.indexByte b.data.toList 42 = ((b.size - 1 : Nat) : Int) ↔ (bt b ((b.size - 1 : Nat) : Int) = 42 ∧ ∀ i : Nat, i < b.size - 1 → bt b (i : Int) ≠ 42) := by
  constructor
  · intro h
    obtain ⟨h1, h2⟩ := Lib.indexByte_some h
    exact ⟨(bt_star b _ (by omega)).2 h1, fun i hi e => h2 i hi ((bt_star b i (by omega)).1 e)⟩
  · rintro ⟨h1, h2⟩
    have g := Lib.indexByte_ge b.data.toList 42
    have k1 := (bt_star b (b.size - 1) (by omega)).1 h1
    by_cases e : Lib.indexByte b.data.toList 42 = -1
    · exact absurd k1 (Lib.indexByte_none e (b.size - 1))
    · obtain ⟨o, ho⟩ := Int.eq_ofNat_of_zero_le (show 0 ≤ Lib.indexByte b.data.toList 42 by omega)
      obtain ⟨o1, o2⟩ := Lib.indexByte_some ho
      rw [ho]
      rcases Nat.lt_trichotomy o (b.size - 1) with z | z | z
      · exact absurd ((bt_star b o (by omega)).2 o1) (h2 o z)
      · rw [z]
      · exact absurd k1 (o2 _ z)
theorem both_star (a b : ByteArray) (hb : 1 ≤ b.size) (h64 : a.size + b.size ≤ 64) : ∃ r : Bool, Ev (fun k => spec_l02Star.f k a b) r ∧ impl_Sequence_isStar.f a b = some r ∧
    (r = true → a.size = 0 ∧ bt b ((b.size - 1 : Nat) : Int) = 42 ∧ ∀ i : Nat, i < b.size - 1 → bt b (i : Int) ≠ 42) := by
  have jt : Ev (fun k => spec_l02Star.j0 k (b.size : Int) true a b) false := Ev.step (f := fun _ => some false) (fun k => by rw [spec_l02Star.j0, if_pos rfl]) (Ev.now _)
  have jf : ∀ r, Ev (fun k => spec_l02Star.l0 k (b.size : Int) 0 a b) r → Ev (fun k => spec_l02Star.j0 k (b.size : Int) false a b) r := fun r h => Ev.step (f := fun k => spec_l02Star.l0 k (b.size : Int) 0 a b) (fun k => by rw [spec_l02Star.j0, if_neg (by decide)]) h
  have ix : strings_IndexByte.f b 42 = some (Lib.indexByte b.data.toList 42) := by
    unfold strings_IndexByte.f
    rw [if_pos (by omega)]
    rfl
  by_cases ha : a.size = 0
  · have hs : ∀ r, Ev (fun k => if bt b ((b.size - 1 : Nat) : Int) = 42 then (if (b.size : Int) > 1 then spec_l02Star.j0 k (b.size : Int) (bt b 0 != 49) a b else spec_l02Star.j0 k (b.size : Int) false a b) else spec_l02Star.j0 k (b.size : Int) true a b) r → Ev (fun k => spec_l02Star.f k a b) r := by
      intro r h
      refine Ev.congr (fun k => ?_) h
      unfold spec_l02Star.f
      rw [if_pos ((nil_iff a).2 ha), wrS (x := (b.size : Int) - 1) (by omega) (by omega), show (b.size : Int) - 1 = ((b.size - 1 : Nat) : Int) by omega, if_pos (by omega), if_pos (by omega)]
      by_cases h1 : (b.size : Int) > 1
      · rw [if_pos h1, if_pos h1, if_pos (show 0 < (b.size : Int) by omega)]
      · rw [if_neg h1, if_neg h1]
    have hi : impl_Sequence_isStar.f a b = if Lib.indexByte b.data.toList 42 = ((b.size - 1 : Nat) : Int) then (if (b.size : Int) = 1 then some true else some (bt b 0 == 49)) else some false := by
      unfold impl_Sequence_isStar.f
      rw [if_pos ((nil_iff a).2 ha), ix, Option.bind_some, wrS (x := (b.size : Int) - 1) (by omega) (by omega), show (b.size : Int) - 1 = ((b.size - 1 : Nat) : Int) by omega, if_pos (show 0 < (b.size : Int) by omega)]
    by_cases hl : bt b ((b.size - 1 : Nat) : Int) = 42
    · by_cases hn : ∀ i : Nat, i < b.size - 1 → bt b (i : Int) ≠ 42
      · have hidx := (index_last b hb).2 ⟨hl, hn⟩
        rw [if_pos hidx] at hi
        have lp := star_none a b hb (by omega) hn (b.size - 1) 0 (by omega)
        by_cases h1 : b.size = 1
        · refine ⟨true, hs _ ?_, by rw [hi, if_pos (by omega)], fun _ => ⟨ha, hl, hn⟩⟩
          simp only [if_pos hl, if_neg (show ¬ (b.size : Int) > 1 by omega)]
          exact jf _ lp
        · refine ⟨bt b 0 == 49, hs _ ?_, by rw [hi, if_neg (by omega)], fun _ => ⟨ha, hl, hn⟩⟩
          simp only [if_pos hl, if_pos (show (b.size : Int) > 1 by omega)]
          by_cases h0 : bt b 0 = 49
          · have e1 : (bt b 0 != 49) = false := bne_eq_false_iff_eq.2 h0
            have e2 : (bt b 0 == 49) = true := beq_iff_eq.2 h0
            simp only [e1, e2]
            exact jf _ lp
          · have e1 : (bt b 0 != 49) = true := bne_iff_ne.2 h0
            have e2 : (bt b 0 == 49) = false := beq_eq_false_iff_ne.2 h0
            simp only [e1, e2]
            exact jt
      · have hidx : ¬ Lib.indexByte b.data.toList 42 = ((b.size - 1 : Nat) : Int) := fun e => hn ((index_last b hb).1 e).2
        rw [if_neg hidx] at hi
        refine ⟨false, hs _ ?_, hi, by simp⟩
        have ht : ∃ t : Nat, 0 ≤ t ∧ t < b.size - 1 ∧ bt b (t : Int) = 42 := by
          by_cases g : ∃ t : Nat, 0 ≤ t ∧ t < b.size - 1 ∧ bt b (t : Int) = 42
          · exact g
          · exact absurd (fun i hi e => g ⟨i, by omega, hi, e⟩) hn
        have lp := star_some a b hb (by omega) (b.size - 1) 0 (by omega) ht
        obtain ⟨t, _, t2, _⟩ := ht
        simp only [if_pos hl, if_pos (show (b.size : Int) > 1 by omega)]
        cases e : (bt b 0 != 49)
        · exact jf _ lp
        · exact jt
    · have hidx : ¬ Lib.indexByte b.data.toList 42 = ((b.size - 1 : Nat) : Int) := fun e => hl ((index_last b hb).1 e).1
      rw [if_neg hidx] at hi
      refine ⟨false, hs _ ?_, hi, by simp⟩
      simp only [if_neg hl]
      exact jt
  · refine ⟨false, ?_, ?_, by simp⟩
    · unfold spec_l02Star.f
      simp only [if_neg (fun z => ha ((nil_iff a).1 z))]
      exact jt
    · unfold impl_Sequence_isStar.f
      rw [if_neg (fun z => ha ((nil_iff a).1 z))]
end Go.Proofs.Ythljodbopmcgeaa.Q
end
section
/- Whether a sequence is a point of another one; the shifted sequence: both ways to ask answer alike. -/
namespace Go.Proofs.Ythljodbopmcgeaa.Q
open Go.RowKit Go.Proofs.YthljodbopmcgeaaW.PrintWords Go.Proofs.YthljodbopmcgeaaW.PrintLast Go.Proofs.YthljodbopmcgeaaW.Ext
set_option linter.unusedVariables false
set_option linter.unusedSimpArgs false

theorem shift_val (x y : ByteArray) (hy : 1 ≤ y.size) (h : x.size + y.size ≤ 64) : ∃ v : ByteArray × ByteArray, spec_l01Shift.f x y = some v ∧ v.1.size + v.2.size ≤ 64 ∧ 1 ≤ v.2.size := by
  unfold spec_l01Shift.f
  by_cases hz : x.size = 0
  · have e : (y.extract 1 y.size ++ y.extract 0 1).size = y.size := by
      simp
      omega
    have e2 := e
    rw [ByteArray.size_append] at e2
    rw [if_pos ((nil_iff x).2 hz), if_pos (by omega), if_pos (by omega), if_pos (by omega)]
    exact ⟨_, rfl, by show (⟨#[]⟩ : ByteArray).size + _ ≤ 64; rw [e]; show 0 + y.size ≤ 64; omega, by show 1 ≤ _; rw [e]; exact hy⟩
  · rw [if_neg (fun z => hz ((nil_iff x).1 z)), if_pos (by omega)]
    refine ⟨_, rfl, ?_, hy⟩
    show (x.extract 1 x.size).size + y.size ≤ 64
    have : (x.extract 1 x.size).size ≤ x.size := by simp
    omega
theorem shift_val' {x y : ByteArray} {v : ByteArray × ByteArray} (h : spec_l01Shift.f x y = some v) : impl_Sequence_shift.f x y = some v := h
theorem both_point (p q a b : ByteArray) (hb : 1 ≤ b.size) (h64 : a.size + b.size ≤ 64) : ∃ r : Bool, Ev (fun k => spec_l06Point.f k p q a b) r ∧ Ev (fun k => impl_Sequence_isPoint.f k p q a b) r := by
  have key : ∀ (d i : Nat) (x y : ByteArray), i + d = a.size + b.size → 1 ≤ y.size → x.size + y.size ≤ 64 →
      ∃ r : Bool, Ev (fun k => spec_l06Point.l0 k (i : Int) p q a b x y) r ∧ Ev (fun k => impl_Sequence_isPoint.l0 k ((a.size : Int) + (b.size : Int)) (i : Int) p q x y) r := by
    intro d
    induction d with
    | zero =>
      intro i x y h _ _
      exact ⟨true, Ev.step (f := fun _ => some true) (fun k => by rw [spec_l06Point.l0, wrS (x := (a.size : Int) + (b.size : Int)) (by omega) (by omega), if_neg (by omega)]) (Ev.now _), Ev.step (f := fun _ => some true) (fun k => by rw [impl_Sequence_isPoint.l0, if_neg (by omega)]) (Ev.now _)⟩
    | succ d ih =>
      intro i x y h hy hxy
      obtain ⟨v, v1, v2, v3⟩ := shift_val x y hy hxy
      obtain ⟨r, r1, r2⟩ := ih (i + 1) v.1 v.2 (by omega) v3 v2
      have ea := at_val x y 0 hy (by omega) (by omega)
      have ea' := at_val' x y 0 hy (by omega) (by omega)
      have es : ∀ k, spec_l06Point.l0 (k + 1) (i : Int) p q a b x y = if atV x y 0 = 42 then (if (!(v.1.toList == p.toList) || (!(v.2.toList == q.toList))) = true then some false else spec_l06Point.l0 k ((i + 1 : Nat) : Int) p q a b v.1 v.2) else spec_l06Point.l0 k ((i + 1 : Nat) : Int) p q a b v.1 v.2 := by
        intro k
        rw [spec_l06Point.l0, wrS (x := (a.size : Int) + (b.size : Int)) (by omega) (by omega), if_pos (by omega), v1, Option.bind_some, show (0 : Int) = ((0 : Nat) : Int) from rfl, ea, Option.bind_some, wrS (x := (i : Int) + 1) (by omega) (by omega)]
        rfl
      have ei : ∀ k, impl_Sequence_isPoint.l0 (k + 1) ((a.size : Int) + (b.size : Int)) (i : Int) p q x y = if atV x y 0 = 42 then (if (!(v.1.toList == p.toList) || (!(v.2.toList == q.toList))) = true then some false else impl_Sequence_isPoint.l0 k ((a.size : Int) + (b.size : Int)) ((i + 1 : Nat) : Int) p q v.1 v.2) else impl_Sequence_isPoint.l0 k ((a.size : Int) + (b.size : Int)) ((i + 1 : Nat) : Int) p q v.1 v.2 := by
        intro k
        rw [impl_Sequence_isPoint.l0, if_pos (by omega), shift_val' v1, Option.bind_some, show (0 : Int) = ((0 : Nat) : Int) from rfl, ea', Option.bind_some, wrS (x := (i : Int) + 1) (by omega) (by omega)]
        rfl
      by_cases h1 : atV x y 0 = 42
      · by_cases h2 : (!(v.1.toList == p.toList) || (!(v.2.toList == q.toList))) = true
        · exact ⟨false, Ev.step (f := fun _ => some false) (fun k => by rw [es k, if_pos h1, if_pos h2]) (Ev.now _), Ev.step (f := fun _ => some false) (fun k => by rw [ei k, if_pos h1, if_pos h2]) (Ev.now _)⟩
        · exact ⟨r, Ev.step (fun k => by rw [es k, if_pos h1, if_neg h2]) r1, Ev.step (fun k => by rw [ei k, if_pos h1, if_neg h2]) r2⟩
      · exact ⟨r, Ev.step (fun k => by rw [es k, if_neg h1]) r1, Ev.step (fun k => by rw [ei k, if_neg h1]) r2⟩
  obtain ⟨r, r1, r2⟩ := key (a.size + b.size) 0 a b (by omega) hb h64
  refine ⟨r, r1, ?_⟩
  unfold impl_Sequence_isPoint.f
  rw [wrS (by omega) (by omega)]
  exact r2
end Go.Proofs.Ythljodbopmcgeaa.Q
end
section
/- HYPS: no string is longer than Go's longest. The pure statement of FnExactIsPointOf. -/
namespace Go.Proofs.Ythljodbopmcgeaa.Q
open Go.RowKit Go.Proofs.YthljodbopmcgeaaW.PrintWords Go.Proofs.YthljodbopmcgeaaW.PrintLast Go.Proofs.YthljodbopmcgeaaW.Ext
set_option linter.unusedVariables false
set_option linter.unusedSimpArgs false

theorem pure_FnExactIsPointOf (a b c d : ByteArray) (ha : a.size ≤ maxLen) (hb : b.size ≤ maxLen) (hc : c.size ≤ maxLen) (hd : d.size ≤ maxLen) : ∃ k, laws_FnExactIsPointOf.f k a b c d = some true := by
  refine Ev.rounds (g := fun k => laws_FnExactIsPointOf.f k a b c d) ?_
  unfold laws_FnExactIsPointOf.f
  simp only [laws_toSequence.f, Option.bind_some]
  obtain ⟨z, hz, z1⟩ := sz_some a b 1048576 (by omega) (by omega) ha hb
  rw [hz]
  simp only [Option.bind_some]
  by_cases hz0 : z < 0
  · simp only [if_pos hz0]; exact Ev.now _
  obtain ⟨y, hy, y1⟩ := sz_some c d z (by omega) (by omega) hc hd
  simp only [if_neg hz0, hy, Option.bind_some]
  by_cases hy0 : y < 0
  · simp only [if_pos hy0]; exact Ev.now _
  simp only [if_neg hy0]
  obtain ⟨r, hs, hi, hr⟩ := both_seq a b (by omega)
  obtain ⟨s, gs, gi, gr⟩ := both_seq c d (by omega)
  have fin : ∀ v : Bool × Int, Ev (fun k => spec_IsPointOf.f k a b c d) v → Ev (fun k => impl_IsPointOf.f k a b c d) v → Ev (fun k => (spec_IsPointOf.f k a b c d).bind fun bt262 => ((impl_IsPointOf.f k a b c d).bind fun bt268 => (if (bt268.1 != bt262.1) = true then (some false) else (if bt268.2 = bt262.2 then (some true) else (some false))))) true := by
    intro v h1 h2
    refine Ev.bind h1 (Ev.bind h2 ?_)
    simp
    exact Ev.now _
  have js : Ev (fun k => spec_IsPointOf.j0 k true a b c d) (false, 1) := Ev.step (f := fun _ => some (false, 1)) (fun k => by rw [spec_IsPointOf.j0, if_pos rfl]) (Ev.now _)
  have ji : Ev (fun k => impl_IsPointOf.j0 k true a b c d) (false, 1) := Ev.step (f := fun _ => some (false, 1)) (fun k => by rw [impl_IsPointOf.j0, if_pos rfl]) (Ev.now _)
  cases r with
  | false =>
    refine fin (false, 1) ?_ ?_
    · unfold spec_IsPointOf.f
      refine Ev.bind hs ?_
      simp only [Bool.false_eq_true, if_false]
      exact js
    · unfold impl_IsPointOf.f
      refine Ev.bind hi ?_
      simp only [Bool.false_eq_true, if_false]
      exact ji
  | true =>
    obtain ⟨_, _, l3, l4⟩ := hr rfl
    cases s with
    | false =>
      refine fin (false, 1) ?_ ?_
      · unfold spec_IsPointOf.f
        refine Ev.bind hs ?_
        simp only [if_true]
        exact Ev.bind gs js
      · unfold impl_IsPointOf.f
        refine Ev.bind hi ?_
        simp only [if_true]
        exact Ev.bind gi ji
    | true =>
      obtain ⟨_, _, m3, m4⟩ := gr rfl
      obtain ⟨q, q1, q2, _⟩ := both_star a b l3 l4
      obtain ⟨t, t1, t2⟩ := both_point a b c d m3 m4
      refine fin (if q = true then (t, 0) else (false, 5)) ?_ ?_
      · unfold spec_IsPointOf.f
        refine Ev.bind hs ?_
        simp only [if_true]
        refine Ev.bind gs ?_
        refine Ev.step (f := fun k => (spec_l02Star.f k a b).bind fun t123 => (if t123 = true then ((spec_l06Point.f k a b c d).bind fun t124 => (some (t124, 0))) else (some (false, 5)))) (fun k => by rw [spec_IsPointOf.j0, if_neg (by decide)]) ?_
        refine Ev.bind q1 ?_
        cases q
        · exact Ev.now _
        · exact Ev.bind t1 (Ev.now _)
      · unfold impl_IsPointOf.f
        refine Ev.bind hi ?_
        simp only [if_true]
        refine Ev.bind gi ?_
        refine Ev.step (f := fun k => if q = true then ((impl_Sequence_isPoint.f k a b c d).bind fun t124 => (some (t124, 0))) else (some (false, 5))) (fun k => by rw [impl_IsPointOf.j0, if_neg (by decide), q2, Option.bind_some]) ?_
        cases q
        · exact Ev.now _
        · exact Ev.bind t2 (Ev.now _)
end Go.Proofs.Ythljodbopmcgeaa.Q
end
