/- Joined texts: Qx30, Qx31, Qx32, Qx33, AngMath, AngCore, LawAngles, LawSizesAL, SortMath, AngCmp, AngLeaf, AngAsc, PureFnExactPolygonOf -/
import Derived.Test.YtjfdbjdilldfoaaPkFnExactPolygonOf0
import Derived.Test.YtjfdbjdilldfoaaPkFnExactPolygonOf2
import Derived.Test.YtjfdbjdilldfoaaPkFnExactPolygonOf1
section
-- By wip/hyb/hyb.py of this session, over the kit's print.py
namespace Go.Proofs.Ytjfdbjdilldfoaa.Q
open Go.Proofs.YtjfdbjdilldfoaaW.Ext
open Go.RowKit Go.Proofs.YtjfdbjdilldfoaaW.PrintWords Go.Proofs.YtjfdbjdilldfoaaW.PrintLast Go.Proofs.YtjfdbjdilldfoaaW.PrintMore
attribute [local go_sem] max2_int min2_int max_two min_two max_three min_three max_four min_four   -- for this text's walks alone
set_option linter.unusedVariables false
set_option linter.unusedSimpArgs false

/-! ### laws_markAngleS: function 10 -/
def laws_markAngleS.l0 : Nat → List (S36) → Int → Int → Option (Int × (List (S36)))
  | 0, _, _, _ => none
  | k + 1, x0, x1, x5 => if x5 < (x0.length : Int) then (if 0 ≤ x5 then ((some (x0.set (x5 : Int).toNat (⟨x1, (rd_T36 x0 x5).f1⟩ : S36) : List (S36))).bind fun y250 => (laws_markAngleS.l0 k (y250.set (x5 : Int).toNat (⟨(rd_T36 y250 x5).f0, wrap64 (x1 + 1)⟩ : S36)) (wrap64 ((wrap64 (x1 + 1)) + 1)) (wrap64 (x5 + 1)))) else (none)) else (some (x1, x0))
def laws_markAngleS.f (k : Nat) (l0 : List (S36)) (a1 : Int) : Option (Int × (List (S36))) := laws_markAngleS.l0 k l0 a1 0
theorem laws_markAngleS.mono_l : ∀ k, (∀ y0 y1 y2, LeO (laws_markAngleS.l0 k y0 y1 y2) (laws_markAngleS.l0 (k + 1) y0 y1 y2))
  | 0 => fun _ _ _ r h => by simp [laws_markAngleS.l0] at h
  | k + 1 => by
    have ih0 := laws_markAngleS.mono_l k
    · intro y0 y1 y2
      unfold laws_markAngleS.l0
      repeat' first
      | (with_reducible exact ih0 _ _ _)
      | (with_reducible exact LeO.refl _)
      | (with_reducible exact LeO.none _)
      | (with_reducible refine LeO.ite ?_ ?_)
      | (with_reducible refine LeO.bind ?_ (fun _ => ?_))
      | exact ih0 _ _ _
      | exact LeO.none _
      | refine LeO.ite ?_ ?_
      | refine LeO.bind ?_ (fun _ => ?_)
theorem laws_markAngleS.mono : ∀ a0 a1 k, LeO (laws_markAngleS.f k a0 a1) (laws_markAngleS.f (k + 1) a0 a1) := by
  intro a0 a1 k
  have ih0 := laws_markAngleS.mono_l k
  unfold laws_markAngleS.f
  repeat' first
      | (with_reducible exact ih0 _ _ _)
      | (with_reducible exact LeO.refl _)
      | (with_reducible exact LeO.none _)
      | (with_reducible refine LeO.ite ?_ ?_)
      | (with_reducible refine LeO.bind ?_ (fun _ => ?_))
      | exact ih0 _ _ _
      | exact LeO.none _
      | refine LeO.ite ?_ ?_
      | refine LeO.bind ?_ (fun _ => ?_)
set_option maxHeartbeats 8000000 in
set_option maxRecDepth 100000 in
theorem laws_markAngleS.calls (k : Nat) (P0_ : Nat → Prop) (u9000_ : Value) (l0 : List (S36)) (a1 : Int) (r1 : Int) (r2 : List (S36)) (w0 w : World) (hB : Below w0.heap.size w0 w) (ho0 : Kd.R k36 36 w w0.heap.size P0_ u9000_ l0) (h : laws_markAngleS.f k l0 a1 = some (r1, r2)) :
    Calls Try.prog 10 #[u9000_, .int .i64 a1] w fun e w' => e = .returned (.int .i64 r1) ∧ Kd.R k36 36 w' w0.heap.size (fun k_ => (P0_ k_ ∨ w.heap.size ≤ k_)) u9000_ r2 ∧ Below w0.heap.size w0 w' ∧ Kept w w' (fun k_ => P0_ k_) := by
  have HO0 := Aside0.mk (show Kd.R k36 36 w w0.heap.size (fun k_ => (P0_ k_ ∨ w.heap.size ≤ k_)) u9000_ l0 from Kd.R_mono ho0 (fun k_ hk => (.inl hk)))
  have HK := Aside0.mk (Kept.refl w (fun k_ => P0_ k_))
  have HW0 := Aside0.mk hB.size
  have HB := Aside0.mk hB
  clear hB
  have H : (laws_markAngleS.l0 k l0 a1 0) = some (r1, r2) := h
  clear h
  have H' := Aside0.mk H
  clear H
  go_enter Try.func10, Try.ntmps10
  go_wp2
  go_loopg [1, 5] k (fun kq v1 v5 w' => ∃ (x0_1 : List (S36)) (x1_1 : Int) (x5_1 : Int), v1 = .int .i64 x1_1 ∧ v5 = .int .i64 x5_1 ∧ Aside0 (laws_markAngleS.l0 kq x0_1 x1_1 x5_1 = some (r1, r2)) ∧ Aside0 (kq ≤ k) ∧ Aside0 (Kd.R k36 36 w' w0.heap.size (fun k_ => (P0_ k_ ∨ w.heap.size ≤ k_)) u9000_ x0_1) ∧ Aside0 (Kept w w' (fun k_ => P0_ k_)) ∧ Aside0 (Below w0.heap.size w0 w'))
  case atStart => exact ⟨(l0), (a1), (0), (by first | rfl | (simp; done) | (simp [*]; done)), (by first | rfl | (simp; done) | (simp [*]; done)), H', ⟨Nat.le_refl _⟩, ⟨by (with_reducible repeat (first | apply Kd.R_alloc | apply Kd.R_drewN | apply Kd.R_drew)); exact HO0.out⟩, ⟨by repeat (first | (with_reducible first | exact HK.out | apply Kept.alloc | apply Kept.drewN | apply Kept.drew) | exact HK.out)⟩, ⟨by repeat (first | (with_reducible first | exact HB.out | apply below_alloc | apply pw_below_drewN | apply below_drew1) | exact HB.out)⟩⟩
  case round =>
    clear H'
    try clear c1
    try clear p2
    obtain ⟨x0_1, x1_1, x5_1, rfl, rfl, HA, HK1, HO_0, HK, HB⟩ := hrel
    cases gk with
    | zero => exact absurd HA.out (by simp [laws_markAngleS.l0])
    | succ k1 =>
      have H := HA.out
      clear HA
      simp only [laws_markAngleS.l0] at H
      by_cases c3 : x5_1 < (x0_1.length : Int)
      · rw [if_pos c3] at H
        have c3b0 : decide (x5_1 < (x0_1.length : Int)) = true := decide_eq_true c3
        clear c3
        by_cases c4 : 0 ≤ x5_1
        · rw [if_pos c4] at H
          have c4b0 : decide (0 ≤ x5_1) = true := decide_eq_true c4
          clear c4
          obtain ⟨y250, hy250⟩ : ∃ y_ : List (S36), y_ = (x0_1.set (x5_1 : Int).toNat (⟨x1_1, (rd_T36 x0_1 x5_1).f1⟩ : S36)) := ⟨_, rfl⟩
          replace H : (laws_markAngleS.l0 k1 (y250.set (x5_1 : Int).toNat (⟨(rd_T36 y250 x5_1).f0, wrap64 (x1_1 + 1)⟩ : S36)) (wrap64 ((wrap64 (x1_1 + 1)) + 1)) (wrap64 (x5_1 + 1))) = some (r1, r2) := by first | (rw [hy250]; with_reducible exact H) | (have H2_ := (Option.bind_some _ _).symm.trans H; rw [hy250]; with_reducible exact H2_) | (have H2_ := (Option.bind_some _ _).symm.trans H; with_reducible exact H2_) | with_reducible exact H | (rw [hy250]; exact H) | exact H
          have Ny250 := Aside0.mk hy250
          clear hy250
          obtain ⟨y251, hy251⟩ : ∃ y_ : List (S36), y_ = (y250.set (x5_1 : Int).toNat (⟨(rd_T36 y250 x5_1).f0, wrap64 (x1_1 + 1)⟩ : S36)) := ⟨_, rfl⟩
          replace H : (laws_markAngleS.l0 k1 y251 (wrap64 ((wrap64 (x1_1 + 1)) + 1)) (wrap64 (x5_1 + 1))) = some (r1, r2) := by first | (rw [hy251]; with_reducible exact H) | (have H2_ := (Option.bind_some _ _).symm.trans H; rw [hy251]; with_reducible exact H2_) | (have H2_ := (Option.bind_some _ _).symm.trans H; with_reducible exact H2_) | with_reducible exact H | (rw [hy251]; exact H) | exact H
          have Ny251 := Aside0.mk hy251
          clear hy251
          have H' := Aside0.mk H
          clear H
          obtain ⟨Ao7, co7, eo7⟩ := Kd.R_slice HO_0.out
          subst eo7
          have p5 : 0 ≤ (x5_1 : Int) := of_decide_eq_true (by first | (with_reducible assumption) | assumption)
          have q5 : (x5_1 : Int) < ((x0_1.length : Int) : Int) := of_decide_eq_true (by first | (with_reducible assumption) | assumption)
          obtain ⟨go5, co5, eo5, gb5, gl5, cl5, HG5⟩ := Kd.R_form HO_0.out (by omega)
          (first | cases eo5 | (injection eo5 with ea_ en_ ec_; (first | subst ea_ | (injection ea_ with ea_; subst ea_)); subst ec_; clear en_))
          have GB5 := Aside0.mk gb5
          have GG5 := Aside0.mk HG5
          clear gb5 gl5 HG5
          have HMgo5 := Aside0.mk (show (P0_ go5 ∨ w.heap.size ≤ go5) from (HO_0.out.1 _ rfl))
          obtain ⟨ce5, hcl5, hM5, hcc5, hfr5⟩ := Kd.R_elem HO_0.out z36 (x5_1 : Int) p5 q5
          obtain rfl := k36_openM hM5
          have hx5_0 : wr.cell? ⟨go5, (x5_1 : Int).toNat * 2, none⟩ = some (.int .i64 ((rd_T36 x0_1 x5_1).f0)) := hcc5 0 _ rfl
          have hx5_1 : wr.cell? ⟨go5, (x5_1 : Int).toNat * 2 + 1, none⟩ = some (.int .i64 ((rd_T36 x0_1 x5_1).f1)) := hcc5 1 _ rfl
          have hf5_0 : wr.frozen? ⟨go5, (x5_1 : Int).toNat * 2, none⟩ = false := hfr5 0
          have hf5_1 : wr.frozen? ⟨go5, (x5_1 : Int).toNat * 2 + 1, none⟩ = false := hfr5 1
          clear hcl5 hcc5 hfr5 hM5
          replace p5 := eq_true p5
          replace q5 := eq_true q5
          have HX8 := Aside0.mk (show Kd.R k36 36 wr w0.heap.size (fun k_ => (P0_ k_ ∨ w.heap.size ≤ k_)) (.slice (some ⟨go5, 0, none⟩) x0_1.length co7) x0_1 from (by (with_reducible repeat (first | apply Kd.R_alloc | apply Kd.R_drewN | apply Kd.R_drew)); exact HO_0.out))
          obtain ⟨ce8, hcl8, hM8, hcc8, hfr8⟩ := Kd.R_elem HX8.out z36 (x5_1 : Int) (of_decide_eq_true (by first | (with_reducible assumption) | assumption)) (by have h_ : (x5_1 : Int) < ((x0_1.length : Int) : Int) := of_decide_eq_true (by first | (with_reducible assumption) | assumption); first | exact h_ | (have e_ := (Kd.R_reads' HO_0.out).1; omega) | simpa using h_)
          obtain rfl := k36_openM hM8
          have HP8 := Kd.R_seg HX8.out (x5_1 : Int) (of_decide_eq_true (by first | (with_reducible assumption) | assumption)) (by have h_ : (x5_1 : Int) < ((x0_1.length : Int) : Int) := of_decide_eq_true (by first | (with_reducible assumption) | assumption); first | exact h_ | (have e_ := (Kd.R_reads' HO_0.out).1; omega) | simpa using h_) (seg := [.int .i64 x1_1]) (j := 0) hcl8 hcc8 (show 1 ≤ 2 from by decide) (x' := (⟨x1_1, (rd_T36 x0_1 x5_1).f1⟩ : S36)) (k36_mkM _ _ _ (⟨x1_1, (rd_T36 x0_1 x5_1).f1⟩ : S36) ) (fun _ hk => hk)
          have hx8_0 := hcc8 0 _ rfl
          (try simp only [show (k36).sz = 2 from rfl, Nat.mul_one, Nat.add_zero] at hx8_0)
          have hf8_0 := hfr8 0
          (try simp only [show (k36).sz = 2 from rfl, Nat.mul_one, Nat.add_zero] at hf8_0)
          clear hcl8 hcc8 hfr8 hM8
          go_wp2_with (first | ((with_reducible refine gate_store (t := 2) (p := 16) rfl ?_); refine store_event (t := 2) (p := 16) (v := ?vo_w9) (w1 := (wr.setCell ⟨go5, (x5_1 : Int).toNat * 2, none⟩ (.int .i64 x1_1))) ?hg ?ho ?hn ?hr ?_; (case ho => rfl); (case hg => rfl); (case hn => rfl); (case hr => first | (go_simp; done) | (go_simp; rfl)); intro w9 hw; have hg : wr.grownBy w9 (some go5) := (by rw [hw]; exact HP8.2); have hp_ : Kd.R k36 36 w9 w0.heap.size (fun k_ => (P0_ k_ ∨ w.heap.size ≤ k_)) (.slice (some ⟨go5, 0, none⟩) x0_1.length co7) y250 := (by rw [hw, Ny250.out]; exact HP8.1); clear HP8; have n0_ := Aside0.mk (hp_); have n1_ := Aside0.mk ((by rw [hw]; exact below_set (HB.out) GB5.out : Below w0.heap.size w0 w9)); have n2_ := Aside0.mk (Kept.of_grown (S := (fun k_ => P0_ k_)) hg (by repeat (first | (with_reducible first | exact HK.out | apply Kept.alloc | apply Kept.drewN | apply Kept.drew) | exact HK.out)) (fun k_ e_ => (HO_0.out.1 k_ e_))); clear HO_0; clear HB; clear HK; have HO_0 := n0_; have HB := n1_; have HK := n2_; clear n0_ n1_ n2_; clear hg hw hp_; have p6 : 0 ≤ (x5_1 : Int) := of_decide_eq_true (by first | (with_reducible assumption) | assumption); have q6 : (x5_1 : Int) < ((x0_1.length : Int) : Int) := of_decide_eq_true (by first | (with_reducible assumption) | assumption); obtain ⟨ce6, hcl6, hM6, hcc6, hfr6⟩ := Kd.R_elem HO_0.out z36 (x5_1 : Int) p6 q6; obtain rfl := k36_openM hM6; have hx6_0 : w9.cell? ⟨go5, (x5_1 : Int).toNat * 2, none⟩ = some (.int .i64 ((rd_T36 y250 x5_1).f0)) := hcc6 0 _ rfl; have hx6_1 : w9.cell? ⟨go5, (x5_1 : Int).toNat * 2 + 1, none⟩ = some (.int .i64 ((rd_T36 y250 x5_1).f1)) := hcc6 1 _ rfl; have hf6_0 : w9.frozen? ⟨go5, (x5_1 : Int).toNat * 2, none⟩ = false := hfr6 0; have hf6_1 : w9.frozen? ⟨go5, (x5_1 : Int).toNat * 2 + 1, none⟩ = false := hfr6 1; clear hcl6 hcc6 hfr6 hM6; replace p6 := eq_true p6; replace q6 := eq_true q6; have HX10 := Aside0.mk (show Kd.R k36 36 w9 w0.heap.size (fun k_ => (P0_ k_ ∨ w.heap.size ≤ k_)) (.slice (some ⟨go5, 0, none⟩) x0_1.length co7) y250 from (by (with_reducible repeat (first | apply Kd.R_alloc | apply Kd.R_drewN | apply Kd.R_drew)); exact HO_0.out)); obtain ⟨ce10, hcl10, hM10, hcc10, hfr10⟩ := Kd.R_elem HX10.out z36 (x5_1 : Int) (of_decide_eq_true (by first | (with_reducible assumption) | assumption)) (by have h_ : (x5_1 : Int) < ((x0_1.length : Int) : Int) := of_decide_eq_true (by first | (with_reducible assumption) | assumption); first | exact h_ | (have e_ := (Kd.R_reads' HO_0.out).1; omega) | simpa using h_); obtain rfl := k36_openM hM10; have HP10 := Kd.R_seg HX10.out (x5_1 : Int) (of_decide_eq_true (by first | (with_reducible assumption) | assumption)) (by have h_ : (x5_1 : Int) < ((x0_1.length : Int) : Int) := of_decide_eq_true (by first | (with_reducible assumption) | assumption); first | exact h_ | (have e_ := (Kd.R_reads' HO_0.out).1; omega) | simpa using h_) (seg := [.int .i64 (wrap64 (x1_1 + 1))]) (j := 1) hcl10 hcc10 (show 2 ≤ 2 from by decide) (x' := (⟨(rd_T36 y250 x5_1).f0, wrap64 (x1_1 + 1)⟩ : S36)) (k36_mkM _ _ _ (⟨(rd_T36 y250 x5_1).f0, wrap64 (x1_1 + 1)⟩ : S36) ) (fun _ hk => hk); have hx10_1 := hcc10 1 _ rfl; (try simp only [show (k36).sz = 2 from rfl, Nat.mul_one, Nat.add_zero] at hx10_1); have hf10_1 := hfr10 1; (try simp only [show (k36).sz = 2 from rfl, Nat.mul_one, Nat.add_zero] at hf10_1); clear hcl10 hcc10 hfr10 hM10) | ((with_reducible refine gate_store (t := 2) (p := 23) rfl ?_); refine store_event (t := 2) (p := 23) (v := ?vo_w11) (w1 := (w9.setCell ⟨go5, (x5_1 : Int).toNat * 2 + 1, none⟩ (.int .i64 (wrap64 (x1_1 + 1))))) ?hg ?ho ?hn ?hr ?_; (case ho => rfl); (case hg => rfl); (case hn => rfl); (case hr => first | (go_simp; done) | (go_simp; rfl)); intro w11 hw; have hg : w9.grownBy w11 (some go5) := (by rw [hw]; exact HP10.2); have hp_ : Kd.R k36 36 w11 w0.heap.size (fun k_ => (P0_ k_ ∨ w.heap.size ≤ k_)) (.slice (some ⟨go5, 0, none⟩) x0_1.length co7) y251 := (by rw [hw, Ny251.out]; exact HP10.1); clear HP10; have n0_ := Aside0.mk (hp_); have n1_ := Aside0.mk ((by rw [hw]; exact below_set (HB.out) GB5.out : Below w0.heap.size w0 w11)); have n2_ := Aside0.mk (Kept.of_grown (S := (fun k_ => P0_ k_)) hg (by repeat (first | (with_reducible first | exact HK.out | apply Kept.alloc | apply Kept.drewN | apply Kept.drew) | exact HK.out)) (fun k_ e_ => (HO_0.out.1 k_ e_))); clear HO_0; clear HB; clear HK; have HO_0 := n0_; have HB := n1_; have HK := n2_; clear n0_ n1_ n2_; clear hg hw hp_))
          go_roundg k1
          case measure => have := HK1.out; omega
          case rel => exact ⟨(y251), (wrap64 ((wrap64 (x1_1 + 1)) + 1)), (wrap64 (x5_1 + 1)), (by first | rfl | (simp; done) | (simp [*]; done)), (by first | rfl | (simp; done) | (simp [*]; done)), H', ⟨by have := HK1.out; omega⟩, ⟨by (with_reducible repeat (first | apply Kd.R_alloc | apply Kd.R_drewN | apply Kd.R_drew)); exact HO_0.out⟩, ⟨by repeat (first | (with_reducible first | exact HK.out | apply Kept.alloc | apply Kept.drewN | apply Kept.drew) | exact HK.out)⟩, ⟨by repeat (first | (with_reducible first | exact HB.out | apply below_alloc | apply pw_below_drewN | apply below_drew1) | exact HB.out)⟩⟩
        · rw [if_neg c4] at H
          exact absurd H (by simp)
      · rw [if_neg c3] at H
        have c3b0 : decide (x5_1 < (x0_1.length : Int)) = false := decide_eq_false c3
        clear c3
        simp only [Option.some.injEq, Prod.mk.injEq] at H
        obtain ⟨rfl, rfl⟩ := H
        obtain ⟨Ao12, co12, eo12⟩ := Kd.R_slice HO_0.out
        subst eo12
        go_wp2
        go_ret
        exact ⟨by first | rfl | (simp [errW_none, errW_some] <;> rfl) | (simp [*, errW_none, errW_some] <;> rfl), by (with_reducible repeat (first | apply Kd.R_alloc | apply Kd.R_drewN | apply Kd.R_drew)); exact HO_0.out, by repeat (first | (with_reducible first | exact HB.out | apply below_alloc | apply pw_below_drewN | apply below_drew1) | exact HB.out), by repeat (first | (with_reducible first | exact HK.out | apply Kept.alloc | apply Kept.drewN | apply Kept.drew) | exact HK.out)⟩

end Go.Proofs.Ytjfdbjdilldfoaa.Q
end
section
-- By wip/hyb/hyb.py of this session, over the kit's print.py
namespace Go.Proofs.Ytjfdbjdilldfoaa.Q
open Go.Proofs.YtjfdbjdilldfoaaW.Ext
open Go.RowKit Go.Proofs.YtjfdbjdilldfoaaW.PrintWords Go.Proofs.YtjfdbjdilldfoaaW.PrintLast Go.Proofs.YtjfdbjdilldfoaaW.PrintMore
attribute [local go_sem] max2_int min2_int max_two min_two max_three min_three max_four min_four   -- for this text's walks alone
set_option linter.unusedVariables false
set_option linter.unusedSimpArgs false

/-! ### laws_markLeafS: function 11 -/
section
section
open Go.Shelf Go.Lib
theorem own_set {w : World} {base g cap i : Nat} {xs : List S46} (y : S46) (h : Own46 w base (.slice (some ⟨g, 0, none⟩) xs.length cap) xs) (hi : i < xs.length) :
    Own46 (w.setCells g (i * 4) (enc46 y)) base (.slice (some ⟨g, 0, none⟩) xs.length cap) (xs.set i y) := by
  obtain ⟨hl, ⟨e, _⟩ | ⟨g', cap', cur, e, hb, hh, hnc, hcm, hcs, ht⟩⟩ := h
  · cases e
  · injection e with e1 e2 e3
    injection e1 with e1
    injection e1 with e1
    subst e1 e3
    have hy4 : (enc46 y).length = 4 := rfl
    obtain ⟨c1, hc1, hs1, hl1⟩ := setCells_blk (enc46 y) (i * 4) w cur hh (by omega)
    refine ⟨by rw [lenF], .inr ⟨g, cap, c1, by rw [List.length_set], hb, hc1, by rw [List.length_set]; exact hnc, hcm, by omega, ?_⟩⟩
    have hsx : xs.set i y = xs.take i ++ y :: xs.drop (i + 1) := by rw [List.set_eq_take_append_cons_drop, if_pos hi]
    have hfx : (xs.set i y).flatMap enc46 = (xs.flatMap enc46).take (i * 4) ++ enc46 y ++ (xs.flatMap enc46).drop ((i + 1) * 4) := by
      rw [hsx, (flatTD xs i).1, (flatTD xs (i + 1)).2, List.flatMap_append, List.flatMap_cons, List.append_assoc]
    have hcl : cur.toList.length = cap * 4 := by simpa using hcs
    rw [List.length_set, hfx, hl1, List.take_append, List.take_append]
    have k1 : (cur.toList.take (i * 4)).length = i * 4 := by rw [List.length_take, hcl]; omega
    have k2 : (cur.toList.take (i * 4) ++ enc46 y).length = (i + 1) * 4 := by rw [List.length_append, k1, hy4]; omega
    rw [k1, k2, List.take_take, Nat.min_eq_right (by omega), List.take_of_length_le (l := enc46 y) (by rw [hy4]; omega), hy4, show i * 4 + 4 = (i + 1) * 4 by omega]
    have kA : (xs.flatMap enc46).take (i * 4) = cur.toList.take (i * 4) := by rw [← ht, List.take_take, Nat.min_eq_left (by omega)]
    have kB : (xs.flatMap enc46).drop ((i + 1) * 4) = (cur.toList.drop ((i + 1) * 4)).take (xs.length * 4 - (i + 1) * 4) := by rw [← ht, List.drop_take]
    rw [kA, kB]
def markL (c : Int) : List S46 → List S46
  | [] => []
  | _ :: xs => ⟨⟨c, c + 1⟩, ⟨c + 2, c + 3⟩⟩ :: markL (c + 4) xs
theorem markL_length : ∀ (l : List S46) (c : Int), (markL c l).length = l.length
  | [], _ => rfl
  | x :: xs, c => by rw [markL, List.length_cons, markL_length xs, List.length_cons]
theorem markL_snoc (x : S46) : ∀ (l : List S46) (c : Int), markL c (l ++ [x]) = markL c l ++ [⟨⟨c + 4 * l.length, c + 4 * l.length + 1⟩, ⟨c + 4 * l.length + 2, c + 4 * l.length + 3⟩⟩]
  | [], c => by simp [markL]
  | y :: ys, c => by
    rw [List.cons_append, markL, markL_snoc x ys (c + 4), markL, List.cons_append, List.length_cons]
    simp only [show c + 4 + 4 * (ys.length : Int) = c + 4 * ((ys.length + 1 : Nat) : Int) by omega]
theorem mark_step (l : List S46) (c : Int) {i : Nat} (hi : i < l.length) : (markL c (l.take i) ++ l.drop i).set i ⟨⟨c + 4 * i, c + 4 * i + 1⟩, ⟨c + 4 * i + 2, c + 4 * i + 3⟩⟩ = markL c (l.take (i + 1)) ++ l.drop (i + 1) := by
  have hm : (markL c (l.take i)).length = i := by rw [markL_length, List.length_take]; omega
  rw [List.take_succ_eq_append_getElem hi, markL_snoc, List.length_take, Nat.min_eq_left (by omega), List.set_append, if_neg (by omega), hm, Nat.sub_self, List.drop_eq_getElem_cons hi, List.set_cons_zero, List.append_assoc]
  rfl
def laws_markLeafS.f (l0 : List S46) (a1 : Int) : Option (Int × List S46) := if l0.length ≤ 1048576 ∧ 0 ≤ a1 ∧ a1 ≤ 1099511627776 then some (a1 + 4 * l0.length, markL a1 l0) else none
set_option maxHeartbeats 8000000 in
set_option maxRecDepth 100000 in
theorem laws_markLeafS.calls (P0_ : Nat → Prop) (u9000_ : Value) (l0 : List (S46)) (a1 : Int) (r1 : Int) (r2 : List (S46)) (w0 w : World) (hB : Below w0.heap.size w0 w) (ho0 : Kd.R k46 46 w w0.heap.size P0_ u9000_ l0) (h : laws_markLeafS.f l0 a1 = some (r1, r2)) :
    Calls Try.prog 11 #[u9000_, .int .i64 a1] w fun e w' => e = .returned (.int .i64 r1) ∧ Kd.R k46 46 w' w0.heap.size (fun k_ => (P0_ k_ ∨ w.heap.size ≤ k_)) u9000_ r2 ∧ Below w0.heap.size w0 w' ∧ Kept w w' (fun k_ => P0_ k_) := by
  unfold laws_markLeafS.f at h
  split at h
  case isFalse => cases h
  rename_i hc
  obtain ⟨hlen, ha0, ha1⟩ := hc
  injection h with h
  injection h with e1 e2
  subst e1 e2
  obtain ⟨hown, h0⟩ := own_of_R ho0
  have HB0 := Aside0.mk hB
  have H0 := Aside0.mk h0
  have hown' := hown
  obtain ⟨hl, ⟨rfl, hn0⟩ | ⟨g, cap, cur, rfl, hb, hh, hnc, hcm, hcs, ht⟩⟩ := hown'
  · obtain rfl : l0 = [] := List.length_eq_zero_iff.1 hn0
    have HR := Aside0.mk (Kd.R_mono ho0 (fun k_ hk => Or.inl (b := w.heap.size ≤ k_) hk))
    have hz : a1 + 4 * (([] : List S46).length : Int) = a1 := by simp
    clear hB ho0 hown h0 hl hn0 hz
    go_enter Try.func11, Try.ntmps11
    go_wp2
    go_loopg [1, 5] 0 (fun gg s1 s5 wr => s1 = .int .i64 a1 ∧ s5 = .int .i64 0 ∧ wr = w)
    case atStart => exact ⟨rfl, rfl, rfl⟩
    case round =>
      obtain ⟨rfl, rfl, rfl⟩ := hrel
      go_wp2
      go_ret
      exact ⟨by simp, HR.out, HB0.out, Kept.refl _ _⟩
  · have HO := Aside0.mk hown
    have hcm9 : cap ≤ 9223372036854775807 := by unfold maxLen at hcm; omega
    have HG := Aside0.mk (h0 g rfl)
    have HBG := Aside0.mk hb
    have hgw : g < w.heap.size := (Array.getElem?_eq_some_iff.1 hh).1
    clear hB ho0 hown h0 hl hh ht hb
    go_enter Try.func11, Try.ntmps11
    go_wp2
    go_loopg [1, 5] l0.length (fun gg s1 s5 wr => ∃ i : Nat, s1 = .int .i64 (a1 + 4 * (i : Int)) ∧ s5 = .int .i64 i ∧ i ≤ l0.length ∧ l0.length - i ≤ gg ∧ Aside0 (Own46 wr w0.heap.size (.slice (some ⟨g, 0, none⟩) l0.length cap) (markL a1 (l0.take i) ++ l0.drop i)) ∧ Aside0 (w.grownBy wr (some g)))
    case atStart => exact ⟨0, by simp, rfl, Nat.zero_le _, by omega, HO, ⟨⟨rfl, rfl, rfl, Nat.le_refl _, fun _ _ _ => rfl⟩⟩⟩
    case round =>
      clear HO
      obtain ⟨i, rfl, rfl, hi, hgg, HO, HGR⟩ := hrel
      by_cases hlt : i < l0.length
      · have hltz : (i : Int) < (l0.length : Int) := by omega
        obtain ⟨_, ⟨e, _⟩ | ⟨g', cap', cur', e, _, hh', _, _, hcs', _⟩⟩ := HO.out
        · cases e
        · injection e with e1 e2 e3
          injection e1 with e1
          injection e1 with e1
          subst e1 e3
          have hz : ∀ c, c < 4 → ∃ v, wr.cell? ⟨g, i * 4 + c, none⟩ = some v := fun c hc => ⟨cur'[i * 4 + c]'(by omega), (blk_cell hh' _).trans (Array.getElem?_eq_getElem _)⟩
          obtain ⟨v0, c0⟩ := hz 0 (by decide)
          obtain ⟨v1, c1⟩ := hz 1 (by decide)
          obtain ⟨v2, c2⟩ := hz 2 (by decide)
          obtain ⟨v3, c3⟩ := hz 3 (by decide)
          rw [Nat.add_zero] at c0
          have f0 := blk_frozen hh' (i * 4)
          have f1 := blk_frozen hh' (i * 4 + 1)
          have f2 := blk_frozen hh' (i * 4 + 2)
          have f3 := blk_frozen hh' (i * 4 + 3)
          clear hz hh' hcs' e2
          rename_i hjunk
          clear hjunk
          have hxl : (markL a1 (l0.take i) ++ l0.drop i).length = l0.length := by rw [List.length_append, markL_length, List.length_take, List.length_drop]; omega
          have hs : Own46 (wr.setCells g (i * 4) (enc46 ⟨⟨a1 + 4 * i, a1 + 4 * i + 1⟩, ⟨a1 + 4 * i + 2, a1 + 4 * i + 3⟩⟩)) w0.heap.size (.slice (some ⟨g, 0, none⟩) l0.length cap) (markL a1 (l0.take (i + 1)) ++ l0.drop (i + 1)) := by
            have := own_set (i := i) (cap := cap) ⟨⟨a1 + 4 * i, a1 + 4 * i + 1⟩, ⟨a1 + 4 * i + 2, a1 + 4 * i + 3⟩⟩ (by rw [hxl]; exact HO.out) (by omega)
            rw [mark_step l0 a1 hlt, hxl] at this
            exact this
          have hg2 := grown_setCells (enc46 ⟨⟨a1 + 4 * i, a1 + 4 * i + 1⟩, ⟨a1 + 4 * i + 2, a1 + 4 * i + 3⟩⟩) (i * 4) w wr HGR.out
          have HS := Aside0.mk hs
          have HG2 := Aside0.mk hg2
          have q2 : a1 + 4 * (i : Int) + 1 + 1 = a1 + 4 * (i : Int) + 2 := by omega
          have q3 : a1 + 4 * (i : Int) + 1 + 1 + 1 = a1 + 4 * (i : Int) + 3 := by omega
          have Q2 := Aside0.mk q2
          have Q3 := Aside0.mk q3
          clear hs hg2 hxl q2 q3
          go_wp2
          go_roundg (l0.length - (i + 1))
          case measure => omega
          case rel => exact ⟨i + 1, by rw [show a1 + 4 * (i : Int) + 1 + 1 + 1 + 1 = a1 + 4 * ((i + 1 : Nat) : Int) by omega], by go_num, by omega, Nat.le_refl _, ⟨by rw [Q3.out, Q2.out]; exact HS.out⟩, ⟨by rw [Q3.out, Q2.out]; exact HG2.out⟩⟩
      · obtain rfl : i = l0.length := by omega
        have hltz : ¬ (l0.length : Int) < (l0.length : Int) := by omega
        have hR := R_of_own (ok := fun k_ => (P0_ k_ ∨ w.heap.size ≤ k_)) HO.out (fun k hk => .inl (H0.out k hk))
        rw [List.take_length, List.drop_length, List.append_nil] at hR
        have HR := Aside0.mk hR
        have HBF := Aside0.mk (show Below w0.heap.size w0 wr from HB0.out.trans ⟨HGR.out.os, HGR.out.tape, HGR.out.output, HGR.out.size, fun k hk => HGR.out.block k (Nat.lt_of_lt_of_le hk HB0.out.size) (fun e => by have e2 := Option.some.inj e; have := HBG.out; omega)⟩)
        have HKF := Aside0.mk (show Kept w wr (fun k_ => P0_ k_) from ⟨HGR.out.size, fun k hk hn => HGR.out.block k hk (fun e => hn (by rw [Option.some.inj e]; exact HG.out))⟩)
        clear hR
        go_wp2
        go_ret
        exact ⟨rfl, HR.out, HBF.out, HKF.out⟩
end
end

end Go.Proofs.Ytjfdbjdilldfoaa.Q
end
section
-- By wip/hyb/hyb.py of this session, over the kit's print.py
namespace Go.Proofs.Ytjfdbjdilldfoaa.Q
open Go.Proofs.YtjfdbjdilldfoaaW.Ext
open Go.RowKit Go.Proofs.YtjfdbjdilldfoaaW.PrintWords Go.Proofs.YtjfdbjdilldfoaaW.PrintLast Go.Proofs.YtjfdbjdilldfoaaW.PrintMore
attribute [local go_sem] max2_int min2_int max_two min_two max_three min_three max_four min_four   -- for this text's walks alone
set_option linter.unusedVariables false
set_option linter.unusedSimpArgs false

/-! ### laws_heldLeafS: function 12 -/
def laws_heldLeafS.l0 : Nat → List (S46) → Int → Int → Option (Int)
  | 0, _, _, _ => none
  | k + 1, x0, x1, x5 => if x5 < (x0.length : Int) then (if 0 ≤ x5 then (if ((rd_T46 x0 x5).f0.f0) = x1 then (if ((rd_T46 x0 x5).f0.f1) = (wrap64 (x1 + 1)) then (if ((rd_T46 x0 x5).f1.f0) = (wrap64 ((wrap64 (x1 + 1)) + 1)) then (if ((rd_T46 x0 x5).f1.f1) = (wrap64 ((wrap64 ((wrap64 (x1 + 1)) + 1)) + 1)) then (laws_heldLeafS.l0 k x0 (wrap64 ((wrap64 ((wrap64 ((wrap64 (x1 + 1)) + 1)) + 1)) + 1)) (wrap64 (x5 + 1))) else (some (-1))) else (some (-1))) else (some (-1))) else (some (-1))) else (none)) else (some x1)
def laws_heldLeafS.f (k : Nat) (l0 : List (S46)) (a1 : Int) : Option (Int) := laws_heldLeafS.l0 k l0 a1 0
theorem laws_heldLeafS.mono_l : ∀ k, (∀ y0 y1 y2, LeO (laws_heldLeafS.l0 k y0 y1 y2) (laws_heldLeafS.l0 (k + 1) y0 y1 y2))
  | 0 => fun _ _ _ r h => by simp [laws_heldLeafS.l0] at h
  | k + 1 => by
    have ih0 := laws_heldLeafS.mono_l k
    · intro y0 y1 y2
      unfold laws_heldLeafS.l0
      repeat' first
      | (with_reducible exact ih0 _ _ _)
      | (with_reducible exact LeO.refl _)
      | (with_reducible exact LeO.none _)
      | (with_reducible refine LeO.ite ?_ ?_)
      | (with_reducible refine LeO.bind ?_ (fun _ => ?_))
      | exact ih0 _ _ _
      | exact LeO.none _
      | refine LeO.ite ?_ ?_
      | refine LeO.bind ?_ (fun _ => ?_)
theorem laws_heldLeafS.mono : ∀ a0 a1 k, LeO (laws_heldLeafS.f k a0 a1) (laws_heldLeafS.f (k + 1) a0 a1) := by
  intro a0 a1 k
  have ih0 := laws_heldLeafS.mono_l k
  unfold laws_heldLeafS.f
  repeat' first
      | (with_reducible exact ih0 _ _ _)
      | (with_reducible exact LeO.refl _)
      | (with_reducible exact LeO.none _)
      | (with_reducible refine LeO.ite ?_ ?_)
      | (with_reducible refine LeO.bind ?_ (fun _ => ?_))
      | exact ih0 _ _ _
      | exact LeO.none _
      | refine LeO.ite ?_ ?_
      | refine LeO.bind ?_ (fun _ => ?_)
set_option maxHeartbeats 8000000 in
set_option maxRecDepth 100000 in
theorem laws_heldLeafS.calls (k : Nat) (A0 : Option Addr) (c0 : Nat) (l0 : List (S46)) (a1 : Int) (r : Int) (w : World) (hr0 : Kd.C k46 w A0 l0.length l0) (hc0 : l0.length ≤ c0) (h : laws_heldLeafS.f k l0 a1 = some r) :
    Calls Try.prog 12 #[.slice A0 l0.length c0, .int .i64 a1] w fun e w' => e = .returned (.int .i64 r) ∧ Drawn0 w w' := by
  have HR0 := Aside0.mk hr0
  have HC0 := Aside0.mk hc0
  clear hr0 hc0
  have H : (laws_heldLeafS.l0 k l0 a1 0) = some r := h
  clear h
  have H' := Aside0.mk H
  clear H
  go_enter Try.func12, Try.ntmps12
  go_wp2
  go_loopg [1, 5] k (fun kq v1 v5 w' => ∃ (x1_1 : Int) (x5_1 : Int), v1 = .int .i64 x1_1 ∧ v5 = .int .i64 x5_1 ∧ Aside0 (laws_heldLeafS.l0 kq l0 x1_1 x5_1 = some r) ∧ Aside0 (kq ≤ k) ∧ Drawn0 w w')
  case atStart => exact ⟨(a1), (0), (by first | rfl | (simp; done) | (simp [*]; done)), (by first | rfl | (simp; done) | (simp [*]; done)), H', ⟨Nat.le_refl _⟩, by repeat (first | exact Drawn0.refl _ | apply Drawn0.step)⟩
  case round =>
    clear H'
    try clear c1
    try clear p2
    obtain ⟨x1_1, x5_1, rfl, rfl, HA, HK1, ⟨m1, rfl⟩⟩ := hrel
    cases gk with
    | zero => exact absurd HA.out (by simp [laws_heldLeafS.l0])
    | succ k1 =>
      have H := HA.out
      clear HA
      simp only [laws_heldLeafS.l0] at H
      by_cases c3 : x5_1 < (l0.length : Int)
      · rw [if_pos c3] at H
        have c3b0 : decide (x5_1 < (l0.length : Int)) = true := decide_eq_true c3
        clear c3
        by_cases c4 : 0 ≤ x5_1
        · rw [if_pos c4] at H
          have c4b0 : decide (0 ≤ x5_1) = true := decide_eq_true c4
          clear c4
          by_cases c5 : ((rd_T46 l0 x5_1).f0.f0) = x1_1
          · rw [if_pos c5] at H
            have c5b0 : (((rd_T46 l0 x5_1).f0.f0) == x1_1) = true := beq_iff_eq.mpr c5
            have c5b1 : (((rd_T46 l0 x5_1).f0.f0) != x1_1) = false := bne_eq_false_iff_eq.mpr c5
            clear c5
            by_cases c6 : ((rd_T46 l0 x5_1).f0.f1) = (wrap64 (x1_1 + 1))
            · rw [if_pos c6] at H
              have c6b0 : (((rd_T46 l0 x5_1).f0.f1) == (wrap64 (x1_1 + 1))) = true := beq_iff_eq.mpr c6
              have c6b1 : (((rd_T46 l0 x5_1).f0.f1) != (wrap64 (x1_1 + 1))) = false := bne_eq_false_iff_eq.mpr c6
              clear c6
              by_cases c7 : ((rd_T46 l0 x5_1).f1.f0) = (wrap64 ((wrap64 (x1_1 + 1)) + 1))
              · rw [if_pos c7] at H
                have c7b0 : (((rd_T46 l0 x5_1).f1.f0) == (wrap64 ((wrap64 (x1_1 + 1)) + 1))) = true := beq_iff_eq.mpr c7
                have c7b1 : (((rd_T46 l0 x5_1).f1.f0) != (wrap64 ((wrap64 (x1_1 + 1)) + 1))) = false := bne_eq_false_iff_eq.mpr c7
                clear c7
                by_cases c8 : ((rd_T46 l0 x5_1).f1.f1) = (wrap64 ((wrap64 ((wrap64 (x1_1 + 1)) + 1)) + 1))
                · rw [if_pos c8] at H
                  have c8b0 : (((rd_T46 l0 x5_1).f1.f1) == (wrap64 ((wrap64 ((wrap64 (x1_1 + 1)) + 1)) + 1))) = true := beq_iff_eq.mpr c8
                  have c8b1 : (((rd_T46 l0 x5_1).f1.f1) != (wrap64 ((wrap64 ((wrap64 (x1_1 + 1)) + 1)) + 1))) = false := bne_eq_false_iff_eq.mpr c8
                  clear c8
                  have H' := Aside0.mk H
                  clear H
                  have p252 : 0 ≤ (x5_1 : Int) := of_decide_eq_true (by first | (with_reducible assumption) | assumption)
                  have q252 : x5_1 < (l0.length : Int) := of_decide_eq_true (by first | (with_reducible assumption) | assumption)
                  obtain ⟨ad252, e252, hx252_0, hx252_1, hx252_2, hx252_3⟩ := at_T46 HR0.out x5_1 p252 q252
                  cases e252
                  replace p252 := eq_true p252
                  replace q252 := eq_true q252
                  have p253 : 0 ≤ (x5_1 : Int) := of_decide_eq_true (by first | (with_reducible assumption) | assumption)
                  have q253 : x5_1 < (l0.length : Int) := of_decide_eq_true (by first | (with_reducible assumption) | assumption)
                  obtain ⟨ad253, e253, hx253_0, hx253_1, hx253_2, hx253_3⟩ := at_T46 HR0.out x5_1 p253 q253
                  obtain rfl : ad252 = ad253 := (by injection e253)
                  replace p253 := eq_true p253
                  replace q253 := eq_true q253
                  have p254 : 0 ≤ (x5_1 : Int) := of_decide_eq_true (by first | (with_reducible assumption) | assumption)
                  have q254 : x5_1 < (l0.length : Int) := of_decide_eq_true (by first | (with_reducible assumption) | assumption)
                  obtain ⟨ad254, e254, hx254_0, hx254_1, hx254_2, hx254_3⟩ := at_T46 HR0.out x5_1 p254 q254
                  obtain rfl : ad252 = ad254 := (by injection e254)
                  replace p254 := eq_true p254
                  replace q254 := eq_true q254
                  have p255 : 0 ≤ (x5_1 : Int) := of_decide_eq_true (by first | (with_reducible assumption) | assumption)
                  have q255 : x5_1 < (l0.length : Int) := of_decide_eq_true (by first | (with_reducible assumption) | assumption)
                  obtain ⟨ad255, e255, hx255_0, hx255_1, hx255_2, hx255_3⟩ := at_T46 HR0.out x5_1 p255 q255
                  obtain rfl : ad252 = ad255 := (by injection e255)
                  replace p255 := eq_true p255
                  replace q255 := eq_true q255
                  go_wp2
                  go_roundg k1
                  case measure => have := HK1.out; omega
                  case rel => exact ⟨(wrap64 ((wrap64 ((wrap64 ((wrap64 (x1_1 + 1)) + 1)) + 1)) + 1)), (wrap64 (x5_1 + 1)), (by first | rfl | (simp; done) | (simp [*]; done)), (by first | rfl | (simp; done) | (simp [*]; done)), H', ⟨by have := HK1.out; omega⟩, by repeat (first | exact Drawn0.refl _ | apply Drawn0.step)⟩
                · rw [if_neg c8] at H
                  have c8b0 : (((rd_T46 l0 x5_1).f1.f1) == (wrap64 ((wrap64 ((wrap64 (x1_1 + 1)) + 1)) + 1))) = false := beq_eq_false_iff_ne.mpr c8
                  have c8b1 : (((rd_T46 l0 x5_1).f1.f1) != (wrap64 ((wrap64 ((wrap64 (x1_1 + 1)) + 1)) + 1))) = true := bne_iff_ne.mpr c8
                  obtain rfl := Option.some.inj H
                  have p252 : 0 ≤ (x5_1 : Int) := of_decide_eq_true (by first | (with_reducible assumption) | assumption)
                  have q252 : x5_1 < (l0.length : Int) := of_decide_eq_true (by first | (with_reducible assumption) | assumption)
                  obtain ⟨ad252, e252, hx252_0, hx252_1, hx252_2, hx252_3⟩ := at_T46 HR0.out x5_1 p252 q252
                  cases e252
                  replace p252 := eq_true p252
                  replace q252 := eq_true q252
                  have p253 : 0 ≤ (x5_1 : Int) := of_decide_eq_true (by first | (with_reducible assumption) | assumption)
                  have q253 : x5_1 < (l0.length : Int) := of_decide_eq_true (by first | (with_reducible assumption) | assumption)
                  obtain ⟨ad253, e253, hx253_0, hx253_1, hx253_2, hx253_3⟩ := at_T46 HR0.out x5_1 p253 q253
                  obtain rfl : ad252 = ad253 := (by injection e253)
                  replace p253 := eq_true p253
                  replace q253 := eq_true q253
                  have p254 : 0 ≤ (x5_1 : Int) := of_decide_eq_true (by first | (with_reducible assumption) | assumption)
                  have q254 : x5_1 < (l0.length : Int) := of_decide_eq_true (by first | (with_reducible assumption) | assumption)
                  obtain ⟨ad254, e254, hx254_0, hx254_1, hx254_2, hx254_3⟩ := at_T46 HR0.out x5_1 p254 q254
                  obtain rfl : ad252 = ad254 := (by injection e254)
                  replace p254 := eq_true p254
                  replace q254 := eq_true q254
                  have p255 : 0 ≤ (x5_1 : Int) := of_decide_eq_true (by first | (with_reducible assumption) | assumption)
                  have q255 : x5_1 < (l0.length : Int) := of_decide_eq_true (by first | (with_reducible assumption) | assumption)
                  obtain ⟨ad255, e255, hx255_0, hx255_1, hx255_2, hx255_3⟩ := at_T46 HR0.out x5_1 p255 q255
                  obtain rfl : ad252 = ad255 := (by injection e255)
                  replace p255 := eq_true p255
                  replace q255 := eq_true q255
                  go_wp2
                  go_ret
                  exact ⟨by first | rfl | (simp; done) | (simp [*]; done), by repeat (first | exact Drawn0.refl _ | apply Drawn0.step)⟩
              · rw [if_neg c7] at H
                have c7b0 : (((rd_T46 l0 x5_1).f1.f0) == (wrap64 ((wrap64 (x1_1 + 1)) + 1))) = false := beq_eq_false_iff_ne.mpr c7
                have c7b1 : (((rd_T46 l0 x5_1).f1.f0) != (wrap64 ((wrap64 (x1_1 + 1)) + 1))) = true := bne_iff_ne.mpr c7
                obtain rfl := Option.some.inj H
                have p252 : 0 ≤ (x5_1 : Int) := of_decide_eq_true (by first | (with_reducible assumption) | assumption)
                have q252 : x5_1 < (l0.length : Int) := of_decide_eq_true (by first | (with_reducible assumption) | assumption)
                obtain ⟨ad252, e252, hx252_0, hx252_1, hx252_2, hx252_3⟩ := at_T46 HR0.out x5_1 p252 q252
                cases e252
                replace p252 := eq_true p252
                replace q252 := eq_true q252
                have p253 : 0 ≤ (x5_1 : Int) := of_decide_eq_true (by first | (with_reducible assumption) | assumption)
                have q253 : x5_1 < (l0.length : Int) := of_decide_eq_true (by first | (with_reducible assumption) | assumption)
                obtain ⟨ad253, e253, hx253_0, hx253_1, hx253_2, hx253_3⟩ := at_T46 HR0.out x5_1 p253 q253
                obtain rfl : ad252 = ad253 := (by injection e253)
                replace p253 := eq_true p253
                replace q253 := eq_true q253
                have p254 : 0 ≤ (x5_1 : Int) := of_decide_eq_true (by first | (with_reducible assumption) | assumption)
                have q254 : x5_1 < (l0.length : Int) := of_decide_eq_true (by first | (with_reducible assumption) | assumption)
                obtain ⟨ad254, e254, hx254_0, hx254_1, hx254_2, hx254_3⟩ := at_T46 HR0.out x5_1 p254 q254
                obtain rfl : ad252 = ad254 := (by injection e254)
                replace p254 := eq_true p254
                replace q254 := eq_true q254
                go_wp2
                go_ret
                exact ⟨by first | rfl | (simp; done) | (simp [*]; done), by repeat (first | exact Drawn0.refl _ | apply Drawn0.step)⟩
            · rw [if_neg c6] at H
              have c6b0 : (((rd_T46 l0 x5_1).f0.f1) == (wrap64 (x1_1 + 1))) = false := beq_eq_false_iff_ne.mpr c6
              have c6b1 : (((rd_T46 l0 x5_1).f0.f1) != (wrap64 (x1_1 + 1))) = true := bne_iff_ne.mpr c6
              obtain rfl := Option.some.inj H
              have p252 : 0 ≤ (x5_1 : Int) := of_decide_eq_true (by first | (with_reducible assumption) | assumption)
              have q252 : x5_1 < (l0.length : Int) := of_decide_eq_true (by first | (with_reducible assumption) | assumption)
              obtain ⟨ad252, e252, hx252_0, hx252_1, hx252_2, hx252_3⟩ := at_T46 HR0.out x5_1 p252 q252
              cases e252
              replace p252 := eq_true p252
              replace q252 := eq_true q252
              have p253 : 0 ≤ (x5_1 : Int) := of_decide_eq_true (by first | (with_reducible assumption) | assumption)
              have q253 : x5_1 < (l0.length : Int) := of_decide_eq_true (by first | (with_reducible assumption) | assumption)
              obtain ⟨ad253, e253, hx253_0, hx253_1, hx253_2, hx253_3⟩ := at_T46 HR0.out x5_1 p253 q253
              obtain rfl : ad252 = ad253 := (by injection e253)
              replace p253 := eq_true p253
              replace q253 := eq_true q253
              go_wp2
              go_ret
              exact ⟨by first | rfl | (simp; done) | (simp [*]; done), by repeat (first | exact Drawn0.refl _ | apply Drawn0.step)⟩
          · rw [if_neg c5] at H
            have c5b0 : (((rd_T46 l0 x5_1).f0.f0) == x1_1) = false := beq_eq_false_iff_ne.mpr c5
            have c5b1 : (((rd_T46 l0 x5_1).f0.f0) != x1_1) = true := bne_iff_ne.mpr c5
            obtain rfl := Option.some.inj H
            have p252 : 0 ≤ (x5_1 : Int) := of_decide_eq_true (by first | (with_reducible assumption) | assumption)
            have q252 : x5_1 < (l0.length : Int) := of_decide_eq_true (by first | (with_reducible assumption) | assumption)
            obtain ⟨ad252, e252, hx252_0, hx252_1, hx252_2, hx252_3⟩ := at_T46 HR0.out x5_1 p252 q252
            cases e252
            replace p252 := eq_true p252
            replace q252 := eq_true q252
            go_wp2
            go_ret
            exact ⟨by first | rfl | (simp; done) | (simp [*]; done), by repeat (first | exact Drawn0.refl _ | apply Drawn0.step)⟩
        · rw [if_neg c4] at H
          exact absurd H (by simp)
      · rw [if_neg c3] at H
        have c3b0 : decide (x5_1 < (l0.length : Int)) = false := decide_eq_false c3
        clear c3
        obtain rfl := Option.some.inj H
        go_wp2
        go_ret
        exact ⟨by first | rfl | (simp; done) | (simp [*]; done), by repeat (first | exact Drawn0.refl _ | apply Drawn0.step)⟩

end Go.Proofs.Ytjfdbjdilldfoaa.Q
end
section
-- By wip/hyb/hyb.py of this session, over the kit's print.py
namespace Go.Proofs.Ytjfdbjdilldfoaa.Q
open Go.Proofs.YtjfdbjdilldfoaaW.Ext
open Go.RowKit Go.Proofs.YtjfdbjdilldfoaaW.PrintWords Go.Proofs.YtjfdbjdilldfoaaW.PrintLast Go.Proofs.YtjfdbjdilldfoaaW.PrintMore
attribute [local go_sem] max2_int min2_int max_two min_two max_three min_three max_four min_four   -- for this text's walks alone
set_option linter.unusedVariables false
set_option linter.unusedSimpArgs false

/-! ### laws_FnExactPolygonOf: function 3 -/
mutual
def laws_FnExactPolygonOf.j0 : Nat → List (S40) → List (S46) → Int → List (S36) → List (S46) → Int → Bool → Option (Bool)
  | 0, _, _, _, _, _, _, _ => none
  | k + 1, x0, x4, x5, x6, x7, x8, x40 => if x40 = true then (some false) else ((laws_toAngleS.f k x0).bind fun t272 => ((laws_eqAngleS.f k x6 t272).bind fun t275 => (if t275 = true then ((laws_markAngleS.f k x6 1).bind fun bt276 => (if bt276.1 < 0 then (laws_FnExactPolygonOf.j1 k x0 x4 x5 x7 true) else ((laws_eqLeafS.f k x7 x4).bind fun t278 => (if t278 = true then (laws_FnExactPolygonOf.j1 k x0 x4 x5 x7 (x8 != x5)) else (laws_FnExactPolygonOf.j1 k x0 x4 x5 x7 true))))) else (some false))))
def laws_FnExactPolygonOf.j1 : Nat → List (S40) → List (S46) → Int → List (S46) → Bool → Option (Bool)
  | 0, _, _, _, _, _ => none
  | k + 1, x0, x4, x5, x7, x61 => if x61 = true then (some false) else ((laws_markLeafS.f x7 1).bind fun bt279 => ((laws_heldLeafS.f k bt279.2 1).bind fun t281 => (if t281 < 0 then (some false) else (if t281 = bt279.1 then ((laws_toAngleS.f k x0).bind fun t282 => ((impl_PolygonOf.f k t282).bind fun bt285 => ((laws_eqLeafS.f k bt285.1 x4).bind fun t289 => (if t289 = true then (laws_FnExactPolygonOf.j2 k bt279.2 bt279.1 (bt285.2 != x5)) else (laws_FnExactPolygonOf.j2 k bt279.2 bt279.1 true))))) else (some false)))))
def laws_FnExactPolygonOf.j2 : Nat → List (S46) → Int → Bool → Option (Bool)
  | 0, _, _, _ => none
  | k + 1, x7, x10, x87 => if x87 = true then (some false) else ((laws_heldLeafS.f k x7 1).bind fun t290 => (if t290 < 0 then (some false) else (if t290 = x10 then (some true) else (some false))))
end
def laws_FnExactPolygonOf.f (k : Nat) (l0 : List (S40)) : Option (Bool) := (laws_szAngleS.f l0 1048576).bind fun t256 => (if t256 < 0 then (some true) else ((laws_toAngleS.f k l0).bind fun t257 => ((spec_PolygonOf.f k t257).bind fun bt260 => ((laws_toAngleS.f k l0).bind fun t264 => ((impl_PolygonOf.f k t264).bind fun bt267 => ((laws_eqLeafS.f k bt267.1 bt260.1).bind fun t271 => (if t271 = true then (laws_FnExactPolygonOf.j0 k l0 bt260.1 bt260.2 t264 bt267.1 bt267.2 (bt267.2 != bt260.2)) else (laws_FnExactPolygonOf.j0 k l0 bt260.1 bt260.2 t264 bt267.1 bt267.2 true))))))))
theorem laws_FnExactPolygonOf.mono_l : ∀ k, (∀ y0 y1 y2 y3 y4 y5 y6, LeO (laws_FnExactPolygonOf.j0 k y0 y1 y2 y3 y4 y5 y6) (laws_FnExactPolygonOf.j0 (k + 1) y0 y1 y2 y3 y4 y5 y6)) ∧ (∀ y0 y1 y2 y3 y4, LeO (laws_FnExactPolygonOf.j1 k y0 y1 y2 y3 y4) (laws_FnExactPolygonOf.j1 (k + 1) y0 y1 y2 y3 y4)) ∧ (∀ y0 y1 y2, LeO (laws_FnExactPolygonOf.j2 k y0 y1 y2) (laws_FnExactPolygonOf.j2 (k + 1) y0 y1 y2))
  | 0 => ⟨fun _ _ _ _ _ _ _ r h => by simp [laws_FnExactPolygonOf.j0] at h, fun _ _ _ _ _ r h => by simp [laws_FnExactPolygonOf.j1] at h, fun _ _ _ r h => by simp [laws_FnExactPolygonOf.j2] at h⟩
  | k + 1 => by
    obtain ⟨ih0, ih1, ih2⟩ := laws_FnExactPolygonOf.mono_l k
    refine ⟨?_, ?_, ?_⟩
    · intro y0 y1 y2 y3 y4 y5 y6
      unfold laws_FnExactPolygonOf.j0
      repeat' first
      | (with_reducible exact ih0 _ _ _ _ _ _ _)
      | (with_reducible exact ih1 _ _ _ _ _)
      | (with_reducible exact ih2 _ _ _)
      | (with_reducible exact impl_PolygonOf.mono _ _)
      | (with_reducible exact laws_eqAngleS.mono _ _ _)
      | (with_reducible exact laws_eqLeafS.mono _ _ _)
      | (with_reducible exact laws_heldLeafS.mono _ _ _)
      | (with_reducible exact laws_markAngleS.mono _ _ _)
      | (with_reducible exact laws_toAngleS.mono _ _)
      | (with_reducible exact spec_PolygonOf.mono _ _)
      | (with_reducible exact LeO.refl _)
      | (with_reducible exact LeO.none _)
      | (with_reducible refine LeO.ite ?_ ?_)
      | (with_reducible refine LeO.bind ?_ (fun _ => ?_))
      | exact ih0 _ _ _ _ _ _ _
      | exact ih1 _ _ _ _ _
      | exact ih2 _ _ _
      | exact impl_PolygonOf.mono _ _
      | exact laws_eqAngleS.mono _ _ _
      | exact laws_eqLeafS.mono _ _ _
      | exact laws_heldLeafS.mono _ _ _
      | exact laws_markAngleS.mono _ _ _
      | exact laws_toAngleS.mono _ _
      | exact spec_PolygonOf.mono _ _
      | exact LeO.none _
      | refine LeO.ite ?_ ?_
      | refine LeO.bind ?_ (fun _ => ?_)
    · intro y0 y1 y2 y3 y4
      unfold laws_FnExactPolygonOf.j1
      repeat' first
      | (with_reducible exact ih0 _ _ _ _ _ _ _)
      | (with_reducible exact ih1 _ _ _ _ _)
      | (with_reducible exact ih2 _ _ _)
      | (with_reducible exact impl_PolygonOf.mono _ _)
      | (with_reducible exact laws_eqAngleS.mono _ _ _)
      | (with_reducible exact laws_eqLeafS.mono _ _ _)
      | (with_reducible exact laws_heldLeafS.mono _ _ _)
      | (with_reducible exact laws_markAngleS.mono _ _ _)
      | (with_reducible exact laws_toAngleS.mono _ _)
      | (with_reducible exact spec_PolygonOf.mono _ _)
      | (with_reducible exact LeO.refl _)
      | (with_reducible exact LeO.none _)
      | (with_reducible refine LeO.ite ?_ ?_)
      | (with_reducible refine LeO.bind ?_ (fun _ => ?_))
      | exact ih0 _ _ _ _ _ _ _
      | exact ih1 _ _ _ _ _
      | exact ih2 _ _ _
      | exact impl_PolygonOf.mono _ _
      | exact laws_eqAngleS.mono _ _ _
      | exact laws_eqLeafS.mono _ _ _
      | exact laws_heldLeafS.mono _ _ _
      | exact laws_markAngleS.mono _ _ _
      | exact laws_toAngleS.mono _ _
      | exact spec_PolygonOf.mono _ _
      | exact LeO.none _
      | refine LeO.ite ?_ ?_
      | refine LeO.bind ?_ (fun _ => ?_)
    · intro y0 y1 y2
      unfold laws_FnExactPolygonOf.j2
      repeat' first
      | (with_reducible exact ih0 _ _ _ _ _ _ _)
      | (with_reducible exact ih1 _ _ _ _ _)
      | (with_reducible exact ih2 _ _ _)
      | (with_reducible exact impl_PolygonOf.mono _ _)
      | (with_reducible exact laws_eqAngleS.mono _ _ _)
      | (with_reducible exact laws_eqLeafS.mono _ _ _)
      | (with_reducible exact laws_heldLeafS.mono _ _ _)
      | (with_reducible exact laws_markAngleS.mono _ _ _)
      | (with_reducible exact laws_toAngleS.mono _ _)
      | (with_reducible exact spec_PolygonOf.mono _ _)
      | (with_reducible exact LeO.refl _)
      | (with_reducible exact LeO.none _)
      | (with_reducible refine LeO.ite ?_ ?_)
      | (with_reducible refine LeO.bind ?_ (fun _ => ?_))
      | exact ih0 _ _ _ _ _ _ _
      | exact ih1 _ _ _ _ _
      | exact ih2 _ _ _
      | exact impl_PolygonOf.mono _ _
      | exact laws_eqAngleS.mono _ _ _
      | exact laws_eqLeafS.mono _ _ _
      | exact laws_heldLeafS.mono _ _ _
      | exact laws_markAngleS.mono _ _ _
      | exact laws_toAngleS.mono _ _
      | exact spec_PolygonOf.mono _ _
      | exact LeO.none _
      | refine LeO.ite ?_ ?_
      | refine LeO.bind ?_ (fun _ => ?_)
theorem laws_FnExactPolygonOf.mono : ∀ a0 k, LeO (laws_FnExactPolygonOf.f k a0) (laws_FnExactPolygonOf.f (k + 1) a0) := by
  intro a0 k
  obtain ⟨ih0, ih1, ih2⟩ := laws_FnExactPolygonOf.mono_l k
  unfold laws_FnExactPolygonOf.f
  repeat' first
      | (with_reducible exact ih0 _ _ _ _ _ _ _)
      | (with_reducible exact ih1 _ _ _ _ _)
      | (with_reducible exact ih2 _ _ _)
      | (with_reducible exact impl_PolygonOf.mono _ _)
      | (with_reducible exact laws_eqAngleS.mono _ _ _)
      | (with_reducible exact laws_eqLeafS.mono _ _ _)
      | (with_reducible exact laws_heldLeafS.mono _ _ _)
      | (with_reducible exact laws_markAngleS.mono _ _ _)
      | (with_reducible exact laws_toAngleS.mono _ _)
      | (with_reducible exact spec_PolygonOf.mono _ _)
      | (with_reducible exact LeO.refl _)
      | (with_reducible exact LeO.none _)
      | (with_reducible refine LeO.ite ?_ ?_)
      | (with_reducible refine LeO.bind ?_ (fun _ => ?_))
      | exact ih0 _ _ _ _ _ _ _
      | exact ih1 _ _ _ _ _
      | exact ih2 _ _ _
      | exact impl_PolygonOf.mono _ _
      | exact laws_eqAngleS.mono _ _ _
      | exact laws_eqLeafS.mono _ _ _
      | exact laws_heldLeafS.mono _ _ _
      | exact laws_markAngleS.mono _ _ _
      | exact laws_toAngleS.mono _ _
      | exact spec_PolygonOf.mono _ _
      | exact LeO.none _
      | refine LeO.ite ?_ ?_
      | refine LeO.bind ?_ (fun _ => ?_)
set_option maxHeartbeats 8000000 in
set_option maxRecDepth 100000 in
theorem laws_FnExactPolygonOf.calls (k : Nat) (A0 : Option Addr) (c0 : Nat) (l0 : List (S40)) (r_ : Bool) (w : World) (hr0 : Kd.C k40 w A0 l0.length l0) (hc0 : l0.length ≤ c0) (h : laws_FnExactPolygonOf.f k l0 = some true) :
    Calls Try.prog 3 #[.slice A0 l0.length c0] w fun e w' => e = .returned (.bool true) ∧ Below w.heap.size w w' := by
  have HR0 := Aside0.mk hr0
  have HC0 := Aside0.mk hc0
  clear hr0 hc0
  have HB := Aside0.mk (Below.refl w.heap.size w)
  have H : ((laws_szAngleS.f l0 1048576).bind fun t256 => (if t256 < 0 then (some true) else ((laws_toAngleS.f k l0).bind fun t257 => ((spec_PolygonOf.f k t257).bind fun bt260 => ((laws_toAngleS.f k l0).bind fun t264 => ((impl_PolygonOf.f k t264).bind fun bt267 => ((laws_eqLeafS.f k bt267.1 bt260.1).bind fun t271 => (if t271 = true then (laws_FnExactPolygonOf.j0 k l0 bt260.1 bt260.2 t264 bt267.1 bt267.2 (bt267.2 != bt260.2)) else (laws_FnExactPolygonOf.j0 k l0 bt260.1 bt260.2 t264 bt267.1 bt267.2 true))))))))) = some true := h
  clear h
  replace H := Option.bind_eq_some_iff.mp H
  obtain ⟨t256, A20, H⟩ := H
  replace H : (if t256 < 0 then (some true) else ((laws_toAngleS.f k l0).bind fun t257 => ((spec_PolygonOf.f k t257).bind fun bt260 => ((laws_toAngleS.f k l0).bind fun t264 => ((impl_PolygonOf.f k t264).bind fun bt267 => ((laws_eqLeafS.f k bt267.1 bt260.1).bind fun t271 => (if t271 = true then (laws_FnExactPolygonOf.j0 k l0 bt260.1 bt260.2 t264 bt267.1 bt267.2 (bt267.2 != bt260.2)) else (laws_FnExactPolygonOf.j0 k l0 bt260.1 bt260.2 t264 bt267.1 bt267.2 true)))))))) = some true := H
  have A2 := Aside0.mk A20
  clear A20
  by_cases c3 : t256 < 0
  · rw [if_pos c3] at H
    have c3b0 : decide (t256 < 0) = true := decide_eq_true c3
    clear c3
    clear H
    go_enter Try.func3, Try.ntmps3
    go_wp2_with (first | ((with_reducible refine gate_callee (f := 4) rfl ?_); refine goesL_ (some 16) rfl rfl Try.func4 (by kernel_rfl) rfl #[.slice A0 l0.length c0, .int .i64 1048576] rfl (by (try simp only [List.map_toArray, List.map_cons, List.map_nil]); first | done | rfl | (simp only [List.length_drop, List.length_take]; rfl)) ?_; (with_reducible refine (laws_szAngleS.calls _ _ l0 1048576 t256 _ ?side1 ?side2 A2.out).mono ?_); (case side1 => repeat (first | exact HR0.out | (with_reducible refine Kd.C_alloc ?_ _) | (with_reducible refine Kd.C_drewN ?_ _) | (with_reducible refine Kd.C_drew ?_))); (case side2 => exact HC0.out); rintro e w' ⟨rfl, ⟨nd, rfl⟩⟩; refine ⟨_, rfl, ?_⟩))
    go_ret
    exact ⟨by first | rfl | (simp [errW_none, errW_some] <;> rfl) | (simp [*, errW_none, errW_some] <;> rfl), by repeat (first | (with_reducible first | exact HB.out | apply below_alloc | apply pw_below_drewN | apply below_drew1) | exact HB.out)⟩
  · rw [if_neg c3] at H
    have c3b0 : decide (t256 < 0) = false := decide_eq_false c3
    clear c3
    replace H := Option.bind_eq_some_iff.mp H
    obtain ⟨t257, A40, H⟩ := H
    replace H : ((spec_PolygonOf.f k t257).bind fun bt260 => ((laws_toAngleS.f k l0).bind fun t264 => ((impl_PolygonOf.f k t264).bind fun bt267 => ((laws_eqLeafS.f k bt267.1 bt260.1).bind fun t271 => (if t271 = true then (laws_FnExactPolygonOf.j0 k l0 bt260.1 bt260.2 t264 bt267.1 bt267.2 (bt267.2 != bt260.2)) else (laws_FnExactPolygonOf.j0 k l0 bt260.1 bt260.2 t264 bt267.1 bt267.2 true)))))) = some true := H
    have A4 := Aside0.mk A40
    clear A40
    replace H := Option.bind_eq_some_iff.mp H
    obtain ⟨⟨t260, t261⟩, A50, H⟩ := H
    replace H : ((laws_toAngleS.f k l0).bind fun t264 => ((impl_PolygonOf.f k t264).bind fun bt267 => ((laws_eqLeafS.f k bt267.1 t260).bind fun t271 => (if t271 = true then (laws_FnExactPolygonOf.j0 k l0 t260 t261 t264 bt267.1 bt267.2 (bt267.2 != t261)) else (laws_FnExactPolygonOf.j0 k l0 t260 t261 t264 bt267.1 bt267.2 true))))) = some true := H
    have A5 := Aside0.mk A50
    clear A50
    replace H := Option.bind_eq_some_iff.mp H
    obtain ⟨t264, A60, H⟩ := H
    replace H : ((impl_PolygonOf.f k t264).bind fun bt267 => ((laws_eqLeafS.f k bt267.1 t260).bind fun t271 => (if t271 = true then (laws_FnExactPolygonOf.j0 k l0 t260 t261 t264 bt267.1 bt267.2 (bt267.2 != t261)) else (laws_FnExactPolygonOf.j0 k l0 t260 t261 t264 bt267.1 bt267.2 true)))) = some true := H
    have A6 := Aside0.mk A60
    clear A60
    replace H := Option.bind_eq_some_iff.mp H
    obtain ⟨⟨t267, t268⟩, A70, H⟩ := H
    replace H : ((laws_eqLeafS.f k t267 t260).bind fun t271 => (if t271 = true then (laws_FnExactPolygonOf.j0 k l0 t260 t261 t264 t267 t268 (t268 != t261)) else (laws_FnExactPolygonOf.j0 k l0 t260 t261 t264 t267 t268 true))) = some true := H
    have A7 := Aside0.mk A70
    clear A70
    have HC8 := Aside0.mk H
    clear H
    go_enter Try.func3, Try.ntmps3
    go_upto_region 8 with (first | ((with_reducible refine gate_callee (f := 4) rfl ?_); refine goesL_ (some 16) rfl rfl Try.func4 (by kernel_rfl) rfl #[.slice A0 l0.length c0, .int .i64 1048576] rfl (by (try simp only [List.map_toArray, List.map_cons, List.map_nil]); first | done | rfl | (simp only [List.length_drop, List.length_take]; rfl)) ?_; (with_reducible refine (laws_szAngleS.calls _ _ l0 1048576 t256 _ ?side1 ?side2 A2.out).mono ?_); (case side1 => repeat (first | exact HR0.out | (with_reducible refine Kd.C_alloc ?_ _) | (with_reducible refine Kd.C_drewN ?_ _) | (with_reducible refine Kd.C_drew ?_))); (case side2 => exact HC0.out); rintro e w' ⟨rfl, ⟨nd, rfl⟩⟩; refine ⟨_, rfl, ?_⟩) | ((with_reducible refine gate_callee (f := 6) rfl ?_); refine goesL_ (some 21) rfl rfl Try.func6 (by kernel_rfl) rfl #[.slice A0 l0.length c0] rfl (by (try simp only [List.map_toArray, List.map_cons, List.map_nil]); first | done | rfl | (simp only [List.length_drop, List.length_take]; rfl)) ?_; (with_reducible refine (laws_toAngleS.calls k _ _ l0 t257 _ ?side1 ?side2 A4.out).mono ?_); (case side1 => repeat (first | exact HR0.out | (with_reducible refine Kd.C_alloc ?_ _) | (with_reducible refine Kd.C_drewN ?_ _) | (with_reducible refine Kd.C_drew ?_))); (case side2 => exact HC0.out); rintro e w9 ⟨v258, rfl, ho0, hb⟩; refine ⟨_, rfl, ?_⟩; have n0_ := Aside0.mk (Kd.R_lower ho0 (below_size (by repeat (first | (with_reducible first | exact HB.out | apply below_alloc | apply pw_below_drewN | apply below_drew1) | exact HB.out)))); have n1_ := Aside0.mk (below_step (by repeat (first | (with_reducible first | exact HB.out | apply below_alloc | apply pw_below_drewN | apply below_drew1) | exact HB.out)) hb); clear HB; have HO259 := n0_; have HB := n1_; clear n0_ n1_; (try clear hb); (try clear hb2); (try clear hk); (try clear hi); (try clear ho0); obtain ⟨Ao10, co10, eo10⟩ := Kd.R_slice HO259.out; subst eo10) | ((with_reducible refine gate_callee (f := 5) rfl ?_); refine goesL_ (some 22) rfl rfl Try.func5 (by kernel_rfl) rfl #[.slice Ao10 t257.length co10] rfl (by (try simp only [List.map_toArray, List.map_cons, List.map_nil]); first | done | rfl | (simp only [List.length_drop, List.length_take]; rfl)) ?_; (with_reducible refine (spec_PolygonOf.calls k _ _ t257 t260 t261 _ ?side1 ?side2 A5.out).mono ?_); (case side1 => repeat (first | exact (Kd.R_reads' HO259.out).2.2 | (with_reducible refine Kd.C_alloc ?_ _) | (with_reducible refine Kd.C_drewN ?_ _) | (with_reducible refine Kd.C_drew ?_))); (case side2 => exact (Kd.R_reads' HO259.out).2.1); rintro e w11 ⟨v262, rfl, ho0, hb⟩; refine ⟨_, rfl, ?_⟩; have n0_ := Aside0.mk (Kd.R_below (by (with_reducible repeat (first | apply Kd.R_alloc | apply Kd.R_drewN | apply Kd.R_drew)); exact HO259.out) hb); have n1_ := Aside0.mk (Kd.R_lower ho0 (below_size (by repeat (first | (with_reducible first | exact HB.out | apply below_alloc | apply pw_below_drewN | apply below_drew1) | exact HB.out)))); have n2_ := Aside0.mk (below_step (by repeat (first | (with_reducible first | exact HB.out | apply below_alloc | apply pw_below_drewN | apply below_drew1) | exact HB.out)) hb); clear HO259; clear HB; have HO259 := n0_; have HO263 := n1_; have HB := n2_; clear n0_ n1_ n2_; (try clear hb); (try clear hb2); (try clear hk); (try clear hi); (try clear ho0)) | ((with_reducible refine gate_callee (f := 6) rfl ?_); refine goesL_ (some 26) rfl rfl Try.func6 (by kernel_rfl) rfl #[.slice A0 l0.length c0] rfl (by (try simp only [List.map_toArray, List.map_cons, List.map_nil]); first | done | rfl | (simp only [List.length_drop, List.length_take]; rfl)) ?_; (with_reducible refine (laws_toAngleS.calls k _ _ l0 t264 _ ?side1 ?side2 A6.out).mono ?_); (case side1 => repeat (first | exact (Kd.C_below HR0.out HB.out) | (with_reducible refine Kd.C_alloc ?_ _) | (with_reducible refine Kd.C_drewN ?_ _) | (with_reducible refine Kd.C_drew ?_))); (case side2 => exact HC0.out); rintro e w12 ⟨v265, rfl, ho0, hb⟩; refine ⟨_, rfl, ?_⟩; have n0_ := Aside0.mk (Kd.R_elder' (by (with_reducible repeat (first | apply Kd.R_alloc | apply Kd.R_drewN | apply Kd.R_drew)); exact HO259.out) (Kd.R_base ho0) hb); have n1_ := Aside0.mk (Kd.R_below (by (with_reducible repeat (first | apply Kd.R_alloc | apply Kd.R_drewN | apply Kd.R_drew)); exact HO263.out) hb); have n2_ := Aside0.mk (Kd.R_lower (Kd.R_new' ho0 (Kd.R_lt (by (with_reducible repeat (first | apply Kd.R_alloc | apply Kd.R_drewN | apply Kd.R_drew)); exact HO259.out))) (below_size (by repeat (first | (with_reducible first | exact HB.out | apply below_alloc | apply pw_below_drewN | apply below_drew1) | exact HB.out)))); have n3_ := Aside0.mk (below_step (by repeat (first | (with_reducible first | exact HB.out | apply below_alloc | apply pw_below_drewN | apply below_drew1) | exact HB.out)) hb); clear HO259; clear HO263; clear HB; have HO259 := n0_; have HO263 := n1_; have HO266 := n2_; have HB := n3_; clear n0_ n1_ n2_ n3_; (try clear hb); (try clear hb2); (try clear hk); (try clear hi); (try clear ho0); obtain ⟨Ao13, co13, eo13⟩ := Kd.R_slice HO266.out; subst eo13) | ((with_reducible refine gate_callee (f := 7) rfl ?_); refine goesL_ (some 29) rfl rfl Try.func7 (by kernel_rfl) rfl #[.slice Ao13 t264.length co13] rfl (by (try simp only [List.map_toArray, List.map_cons, List.map_nil]); first | done | rfl | (simp only [List.length_drop, List.length_take]; rfl)) ?_; (with_reducible refine (impl_PolygonOf.calls k _ _ t264 t267 t268 _ ?side1 ?side2 A7.out).mono ?_); (case side1 => repeat (first | exact (Kd.R_reads' HO266.out).2.2 | (with_reducible refine Kd.C_alloc ?_ _) | (with_reducible refine Kd.C_drewN ?_ _) | (with_reducible refine Kd.C_drew ?_))); (case side2 => exact (Kd.R_reads' HO266.out).2.1); rintro e w14 ⟨v269, rfl, ho0, hb⟩; refine ⟨_, rfl, ?_⟩; have n0_ := Aside0.mk (Kd.R_below (by (with_reducible repeat (first | apply Kd.R_alloc | apply Kd.R_drewN | apply Kd.R_drew)); exact HO259.out) hb); have n1_ := Aside0.mk (Kd.R_elder' (by (with_reducible repeat (first | apply Kd.R_alloc | apply Kd.R_drewN | apply Kd.R_drew)); exact HO263.out) (Kd.R_base ho0) hb); have n2_ := Aside0.mk (Kd.R_below (by (with_reducible repeat (first | apply Kd.R_alloc | apply Kd.R_drewN | apply Kd.R_drew)); exact HO266.out) hb); have n3_ := Aside0.mk (Kd.R_lower (Kd.R_new' ho0 (Kd.R_lt (by (with_reducible repeat (first | apply Kd.R_alloc | apply Kd.R_drewN | apply Kd.R_drew)); exact HO263.out))) (below_size (by repeat (first | (with_reducible first | exact HB.out | apply below_alloc | apply pw_below_drewN | apply below_drew1) | exact HB.out)))); have n4_ := Aside0.mk (below_step (by repeat (first | (with_reducible first | exact HB.out | apply below_alloc | apply pw_below_drewN | apply below_drew1) | exact HB.out)) hb); clear HO259; clear HO263; clear HO266; clear HB; have HO259 := n0_; have HO263 := n1_; have HO266 := n2_; have HO270 := n3_; have HB := n4_; clear n0_ n1_ n2_ n3_ n4_; (try clear hb); (try clear hb2); (try clear hk); (try clear hi); (try clear ho0)))
    (try simp only [Act.put, List.setIfInBounds_toArray, List.set_cons_zero, List.set_cons_succ])
    go_cut [40] (fun v40 wc => ∃ (kq : Nat) (x40_7 : Bool), v40 = .bool x40_7 ∧ Aside0 (laws_FnExactPolygonOf.j0 kq l0 t260 t261 t264 t267 t268 x40_7 = some true) ∧ Aside0 (kq ≤ k) ∧ Aside0 (Kd.R k46 46 wc w.heap.size (fun k_ => some k_ ≠ (v269 : Value).ownBlock) v262 t260) ∧ Aside0 (Kd.R k36 36 wc w.heap.size (fun _ => True) (.slice Ao13 t264.length co13) t264) ∧ Aside0 (Kd.R k46 46 wc w.heap.size (fun k_ => some k_ ≠ (v262 : Value).ownBlock) v269 t267) ∧ Aside0 (Below w.heap.size w wc))
    case first =>
      have H := HC8.out
      clear HC8
      replace H := Option.bind_eq_some_iff.mp H
      obtain ⟨t271, A150, H⟩ := H
      replace H : (if t271 = true then (laws_FnExactPolygonOf.j0 k l0 t260 t261 t264 t267 t268 (t268 != t261)) else (laws_FnExactPolygonOf.j0 k l0 t260 t261 t264 t267 t268 true)) = some true := H
      have A15 := Aside0.mk A150
      clear A150
      by_cases c16 : t271 = true
      · subst c16
        have H1 : (laws_FnExactPolygonOf.j0 k l0 t260 t261 t264 t267 t268 (t268 != t261)) = some true := by first | (rw [if_pos rfl] at H; exact H) | rfl
        clear H
        have H := H1
        clear H1
        have H' := Aside0.mk H
        clear H
        obtain ⟨Ao17, co17, eo17⟩ := Kd.R_slice HO270.out
        subst eo17
        obtain ⟨Ao18, co18, eo18⟩ := Kd.R_slice HO263.out
        subst eo18
        go_wp2_with (first | ((with_reducible refine gate_callee (f := 8) rfl ?_); refine goesL_ (some 34) rfl rfl Try.func8 (by kernel_rfl) rfl #[.slice Ao17 t267.length co17, .slice Ao18 t260.length co18] rfl (by (try simp only [List.map_toArray, List.map_cons, List.map_nil]); first | done | rfl | (simp only [List.length_drop, List.length_take]; rfl)) ?_; (with_reducible refine (laws_eqLeafS.calls k _ _ t267 _ _ t260 true _ ?side1 ?side2 ?side3 ?side4 A15.out).mono ?_); (case side1 => repeat (first | exact (Kd.R_reads' HO270.out).2.2 | (with_reducible refine Kd.C_alloc ?_ _) | (with_reducible refine Kd.C_drewN ?_ _) | (with_reducible refine Kd.C_drew ?_))); (case side2 => exact (Kd.R_reads' HO270.out).2.1); (case side3 => repeat (first | exact (Kd.R_reads' HO263.out).2.2 | (with_reducible refine Kd.C_alloc ?_ _) | (with_reducible refine Kd.C_drewN ?_ _) | (with_reducible refine Kd.C_drew ?_))); (case side4 => exact (Kd.R_reads' HO263.out).2.1); rintro e w19 ⟨rfl, hb⟩; refine ⟨_, rfl, ?_⟩; have n0_ := Aside0.mk (Kd.R_below (by (with_reducible repeat (first | apply Kd.R_alloc | apply Kd.R_drewN | apply Kd.R_drew)); exact HO259.out) hb); have n1_ := Aside0.mk (Kd.R_below (by (with_reducible repeat (first | apply Kd.R_alloc | apply Kd.R_drewN | apply Kd.R_drew)); exact HO263.out) hb); have n2_ := Aside0.mk (Kd.R_below (by (with_reducible repeat (first | apply Kd.R_alloc | apply Kd.R_drewN | apply Kd.R_drew)); exact HO266.out) hb); have n3_ := Aside0.mk (Kd.R_below (by (with_reducible repeat (first | apply Kd.R_alloc | apply Kd.R_drewN | apply Kd.R_drew)); exact HO270.out) hb); have n4_ := Aside0.mk (below_step (by repeat (first | (with_reducible first | exact HB.out | apply below_alloc | apply pw_below_drewN | apply below_drew1) | exact HB.out)) hb); clear HO259; clear HO263; clear HO266; clear HO270; clear HB; have HO259 := n0_; have HO263 := n1_; have HO266 := n2_; have HO270 := n3_; have HB := n4_; clear n0_ n1_ n2_ n3_ n4_; (try clear hb); (try clear hb2); (try clear hk); (try clear hi)))
        go_meet
        case rel => exact ⟨_, ((t268 != t261)), (by first | rfl | (simp; done) | (simp [*]; done)), H', ⟨by first | omega | exact Nat.le_refl _⟩, ⟨by (with_reducible repeat (first | apply Kd.R_alloc | apply Kd.R_drewN | apply Kd.R_drew)); exact Kd.R_mono HO263.out (fun _ hk => hk.2)⟩, ⟨by (with_reducible repeat (first | apply Kd.R_alloc | apply Kd.R_drewN | apply Kd.R_drew)); exact Kd.R_mono HO266.out (fun _ hk => trivial)⟩, ⟨by (with_reducible repeat (first | apply Kd.R_alloc | apply Kd.R_drewN | apply Kd.R_drew)); exact Kd.R_mono HO270.out (fun _ hk => hk.2)⟩, ⟨by repeat (first | (with_reducible first | exact HB.out | apply below_alloc | apply pw_below_drewN | apply below_drew1) | exact HB.out)⟩⟩
      · replace c16 := Bool.eq_false_iff.mpr c16
        subst c16
        have H1 : (laws_FnExactPolygonOf.j0 k l0 t260 t261 t264 t267 t268 true) = some true := by first | (rw [if_neg (show ¬ (false = true) by decide)] at H; exact H) | rfl
        clear H
        have H := H1
        clear H1
        have H' := Aside0.mk H
        clear H
        obtain ⟨Ao20, co20, eo20⟩ := Kd.R_slice HO270.out
        subst eo20
        obtain ⟨Ao21, co21, eo21⟩ := Kd.R_slice HO263.out
        subst eo21
        go_wp2_with (first | ((with_reducible refine gate_callee (f := 8) rfl ?_); refine goesL_ (some 34) rfl rfl Try.func8 (by kernel_rfl) rfl #[.slice Ao20 t267.length co20, .slice Ao21 t260.length co21] rfl (by (try simp only [List.map_toArray, List.map_cons, List.map_nil]); first | done | rfl | (simp only [List.length_drop, List.length_take]; rfl)) ?_; (with_reducible refine (laws_eqLeafS.calls k _ _ t267 _ _ t260 false _ ?side1 ?side2 ?side3 ?side4 A15.out).mono ?_); (case side1 => repeat (first | exact (Kd.R_reads' HO270.out).2.2 | (with_reducible refine Kd.C_alloc ?_ _) | (with_reducible refine Kd.C_drewN ?_ _) | (with_reducible refine Kd.C_drew ?_))); (case side2 => exact (Kd.R_reads' HO270.out).2.1); (case side3 => repeat (first | exact (Kd.R_reads' HO263.out).2.2 | (with_reducible refine Kd.C_alloc ?_ _) | (with_reducible refine Kd.C_drewN ?_ _) | (with_reducible refine Kd.C_drew ?_))); (case side4 => exact (Kd.R_reads' HO263.out).2.1); rintro e w22 ⟨rfl, hb⟩; refine ⟨_, rfl, ?_⟩; have n0_ := Aside0.mk (Kd.R_below (by (with_reducible repeat (first | apply Kd.R_alloc | apply Kd.R_drewN | apply Kd.R_drew)); exact HO259.out) hb); have n1_ := Aside0.mk (Kd.R_below (by (with_reducible repeat (first | apply Kd.R_alloc | apply Kd.R_drewN | apply Kd.R_drew)); exact HO263.out) hb); have n2_ := Aside0.mk (Kd.R_below (by (with_reducible repeat (first | apply Kd.R_alloc | apply Kd.R_drewN | apply Kd.R_drew)); exact HO266.out) hb); have n3_ := Aside0.mk (Kd.R_below (by (with_reducible repeat (first | apply Kd.R_alloc | apply Kd.R_drewN | apply Kd.R_drew)); exact HO270.out) hb); have n4_ := Aside0.mk (below_step (by repeat (first | (with_reducible first | exact HB.out | apply below_alloc | apply pw_below_drewN | apply below_drew1) | exact HB.out)) hb); clear HO259; clear HO263; clear HO266; clear HO270; clear HB; have HO259 := n0_; have HO263 := n1_; have HO266 := n2_; have HO270 := n3_; have HB := n4_; clear n0_ n1_ n2_ n3_ n4_; (try clear hb); (try clear hb2); (try clear hk); (try clear hi)))
        go_meet
        case rel => exact ⟨_, (true), (by first | rfl | (simp; done) | (simp [*]; done)), H', ⟨by first | omega | exact Nat.le_refl _⟩, ⟨by (with_reducible repeat (first | apply Kd.R_alloc | apply Kd.R_drewN | apply Kd.R_drew)); exact Kd.R_mono HO263.out (fun _ hk => hk.2)⟩, ⟨by (with_reducible repeat (first | apply Kd.R_alloc | apply Kd.R_drewN | apply Kd.R_drew)); exact Kd.R_mono HO266.out (fun _ hk => trivial)⟩, ⟨by (with_reducible repeat (first | apply Kd.R_alloc | apply Kd.R_drewN | apply Kd.R_drew)); exact Kd.R_mono HO270.out (fun _ hk => hk.2)⟩, ⟨by repeat (first | (with_reducible first | exact HB.out | apply below_alloc | apply pw_below_drewN | apply below_drew1) | exact HB.out)⟩⟩
    case rest =>
      clear HC8
      try clear c1
      try clear p2
      try clear c3
      try clear c3b0
      try clear c4
      try clear c5
      try clear c6
      try clear c7
      try clear c8
      try clear c16
      obtain ⟨kq, x40_7, rfl, HA, HJ7, HO_4, HO_6, HO_7, HB⟩ := hcut
      cases kq with
      | zero => exact absurd HA.out (by simp [laws_FnExactPolygonOf.j0])
      | succ kj7 =>
        have H := HA.out
        clear HA
        simp only [laws_FnExactPolygonOf.j0] at H
        by_cases c23 : x40_7 = true
        · subst c23
          have H1 : (some false) = some true := by first | (rw [if_pos rfl] at H; exact H) | rfl
          clear H
          have H := H1
          clear H1
          exact absurd H (by simp)
        · replace c23 := Bool.eq_false_iff.mpr c23
          subst c23
          have H1 : ((laws_toAngleS.f kj7 l0).bind fun t272 => ((laws_eqAngleS.f kj7 t264 t272).bind fun t275 => (if t275 = true then ((laws_markAngleS.f kj7 t264 1).bind fun bt276 => (if bt276.1 < 0 then (laws_FnExactPolygonOf.j1 kj7 l0 t260 t261 t267 true) else ((laws_eqLeafS.f kj7 t267 t260).bind fun t278 => (if t278 = true then (laws_FnExactPolygonOf.j1 kj7 l0 t260 t261 t267 (t268 != t261)) else (laws_FnExactPolygonOf.j1 kj7 l0 t260 t261 t267 true))))) else (some false)))) = some true := by first | (rw [if_neg (show ¬ (false = true) by decide)] at H; exact H) | rfl
          clear H
          have H := H1
          clear H1
          replace H := Option.bind_eq_some_iff.mp H
          obtain ⟨t272, A240, H⟩ := H
          replace H : ((laws_eqAngleS.f kj7 t264 t272).bind fun t275 => (if t275 = true then ((laws_markAngleS.f kj7 t264 1).bind fun bt276 => (if bt276.1 < 0 then (laws_FnExactPolygonOf.j1 kj7 l0 t260 t261 t267 true) else ((laws_eqLeafS.f kj7 t267 t260).bind fun t278 => (if t278 = true then (laws_FnExactPolygonOf.j1 kj7 l0 t260 t261 t267 (t268 != t261)) else (laws_FnExactPolygonOf.j1 kj7 l0 t260 t261 t267 true))))) else (some false))) = some true := H
          have A24 := Aside0.mk A240
          clear A240
          replace H := Option.bind_eq_some_iff.mp H
          obtain ⟨t275, A250, H⟩ := H
          replace H : (if t275 = true then ((laws_markAngleS.f kj7 t264 1).bind fun bt276 => (if bt276.1 < 0 then (laws_FnExactPolygonOf.j1 kj7 l0 t260 t261 t267 true) else ((laws_eqLeafS.f kj7 t267 t260).bind fun t278 => (if t278 = true then (laws_FnExactPolygonOf.j1 kj7 l0 t260 t261 t267 (t268 != t261)) else (laws_FnExactPolygonOf.j1 kj7 l0 t260 t261 t267 true))))) else (some false)) = some true := H
          have A25 := Aside0.mk A250
          clear A250
          by_cases c26 : t275 = true
          · subst c26
            have H1 : ((laws_markAngleS.f kj7 t264 1).bind fun bt276 => (if bt276.1 < 0 then (laws_FnExactPolygonOf.j1 kj7 l0 t260 t261 t267 true) else ((laws_eqLeafS.f kj7 t267 t260).bind fun t278 => (if t278 = true then (laws_FnExactPolygonOf.j1 kj7 l0 t260 t261 t267 (t268 != t261)) else (laws_FnExactPolygonOf.j1 kj7 l0 t260 t261 t267 true))))) = some true := by first | (rw [if_pos rfl] at H; exact H) | rfl
            clear H
            have H := H1
            clear H1
            replace H := Option.bind_eq_some_iff.mp H
            obtain ⟨⟨t276, t277⟩, A270, H⟩ := H
            replace H : (if t276 < 0 then (laws_FnExactPolygonOf.j1 kj7 l0 t260 t261 t267 true) else ((laws_eqLeafS.f kj7 t267 t260).bind fun t278 => (if t278 = true then (laws_FnExactPolygonOf.j1 kj7 l0 t260 t261 t267 (t268 != t261)) else (laws_FnExactPolygonOf.j1 kj7 l0 t260 t261 t267 true)))) = some true := H
            have A27 := Aside0.mk A270
            clear A270
            have HC28 := Aside0.mk H
            clear H
            go_upto_region 14 with (first | ((with_reducible refine gate_callee (f := 6) rfl ?_); refine goesL_ (some 43) rfl rfl Try.func6 (by kernel_rfl) rfl #[.slice A0 l0.length c0] rfl (by (try simp only [List.map_toArray, List.map_cons, List.map_nil]); first | done | rfl | (simp only [List.length_drop, List.length_take]; rfl)) ?_; (with_reducible refine (laws_toAngleS.calls kj7 _ _ l0 t272 _ ?side1 ?side2 A24.out).mono ?_); (case side1 => repeat (first | exact (Kd.C_below HR0.out HB.out) | (with_reducible refine Kd.C_alloc ?_ _) | (with_reducible refine Kd.C_drewN ?_ _) | (with_reducible refine Kd.C_drew ?_))); (case side2 => exact HC0.out); rintro e w29 ⟨v273, rfl, ho0, hb⟩; refine ⟨_, rfl, ?_⟩; have n0_ := Aside0.mk (Kd.R_below (by (with_reducible repeat (first | apply Kd.R_alloc | apply Kd.R_drewN | apply Kd.R_drew)); exact HO_4.out) hb); have n1_ := Aside0.mk (Kd.R_elder' (by (with_reducible repeat (first | apply Kd.R_alloc | apply Kd.R_drewN | apply Kd.R_drew)); exact HO_6.out) (Kd.R_base ho0) hb); have n2_ := Aside0.mk (Kd.R_below (by (with_reducible repeat (first | apply Kd.R_alloc | apply Kd.R_drewN | apply Kd.R_drew)); exact HO_7.out) hb); have n3_ := Aside0.mk (Kd.R_lower (Kd.R_new' ho0 (Kd.R_lt (by (with_reducible repeat (first | apply Kd.R_alloc | apply Kd.R_drewN | apply Kd.R_drew)); exact HO_6.out))) (below_size (by repeat (first | (with_reducible first | exact HB.out | apply below_alloc | apply pw_below_drewN | apply below_drew1) | exact HB.out)))); have n4_ := Aside0.mk (below_step (by repeat (first | (with_reducible first | exact HB.out | apply below_alloc | apply pw_below_drewN | apply below_drew1) | exact HB.out)) hb); clear HO_4; clear HO_6; clear HO_7; clear HB; have HO_4 := n0_; have HO_6 := n1_; have HO_7 := n2_; have HO274 := n3_; have HB := n4_; clear n0_ n1_ n2_ n3_ n4_; (try clear hb); (try clear hb2); (try clear hk); (try clear hi); (try clear ho0); obtain ⟨Ao30, co30, eo30⟩ := Kd.R_slice HO274.out; subst eo30) | ((with_reducible refine gate_callee (f := 9) rfl ?_); refine goesL_ (some 44) rfl rfl Try.func9 (by kernel_rfl) rfl #[.slice Ao13 t264.length co13, .slice Ao30 t272.length co30] rfl (by (try simp only [List.map_toArray, List.map_cons, List.map_nil]); first | done | rfl | (simp only [List.length_drop, List.length_take]; rfl)) ?_; (with_reducible refine (laws_eqAngleS.calls kj7 _ _ t264 _ _ t272 true _ ?side1 ?side2 ?side3 ?side4 A25.out).mono ?_); (case side1 => repeat (first | exact (Kd.R_reads' HO_6.out).2.2 | (with_reducible refine Kd.C_alloc ?_ _) | (with_reducible refine Kd.C_drewN ?_ _) | (with_reducible refine Kd.C_drew ?_))); (case side2 => exact (Kd.R_reads' HO_6.out).2.1); (case side3 => repeat (first | exact (Kd.R_reads' HO274.out).2.2 | (with_reducible refine Kd.C_alloc ?_ _) | (with_reducible refine Kd.C_drewN ?_ _) | (with_reducible refine Kd.C_drew ?_))); (case side4 => exact (Kd.R_reads' HO274.out).2.1); rintro e w31 ⟨rfl, hb⟩; refine ⟨_, rfl, ?_⟩; have n0_ := Aside0.mk (Kd.R_below (by (with_reducible repeat (first | apply Kd.R_alloc | apply Kd.R_drewN | apply Kd.R_drew)); exact HO_4.out) hb); have n1_ := Aside0.mk (Kd.R_below (by (with_reducible repeat (first | apply Kd.R_alloc | apply Kd.R_drewN | apply Kd.R_drew)); exact HO_6.out) hb); have n2_ := Aside0.mk (Kd.R_below (by (with_reducible repeat (first | apply Kd.R_alloc | apply Kd.R_drewN | apply Kd.R_drew)); exact HO_7.out) hb); have n3_ := Aside0.mk (Kd.R_below (by (with_reducible repeat (first | apply Kd.R_alloc | apply Kd.R_drewN | apply Kd.R_drew)); exact HO274.out) hb); have n4_ := Aside0.mk (below_step (by repeat (first | (with_reducible first | exact HB.out | apply below_alloc | apply pw_below_drewN | apply below_drew1) | exact HB.out)) hb); clear HO_4; clear HO_6; clear HO_7; clear HO274; clear HB; have HO_4 := n0_; have HO_6 := n1_; have HO_7 := n2_; have HO274 := n3_; have HB := n4_; clear n0_ n1_ n2_ n3_ n4_; (try clear hb); (try clear hb2); (try clear hk); (try clear hi)) | ((with_reducible refine gate_callee (f := 10) rfl ?_); refine goesL_ (some 48) rfl rfl Try.func10 (by kernel_rfl) rfl #[.slice Ao13 t264.length co13, .int .i64 1] rfl (by (try simp only [List.map_toArray, List.map_cons, List.map_nil]); first | done | rfl | (simp only [List.length_drop, List.length_take]; rfl)) ?_; (with_reducible refine (laws_markAngleS.calls kj7 (fun k_ => some k_ = (.slice Ao13 t264.length co13 : Value).ownBlock) (.slice Ao13 t264.length co13) t264 1 t276 t277 w _ ?side1 ?side2 A27.out).mono ?_); (case side1 => repeat (first | (with_reducible first | exact HB.out | apply below_alloc | apply pw_below_drewN | apply below_drew1) | exact HB.out)); (case side2 => exact Kd.R_tight rfl HO_6.out); rintro e w32 ⟨rfl, hy0, hb, hkp⟩; refine ⟨_, rfl, ?_⟩; have n0_ := Aside0.mk (Kd.R_mono (ok' := fun k_ => some k_ ≠ (v269 : Value).ownBlock) (Kd.R_keptB ((Kd.R_apart' HO_4.out (Kd.R_typed HO_6.out) (by decide))) hkp (fun k_ hk_ hs_ => (hk_.2) hs_)) (fun k_ hk_ => hk_.1.1)); have n1_ := Aside0.mk (Kd.R_reok rfl hy0 (fun k_ e_ => HO_6.out.1 k_ e_)); have n2_ := Aside0.mk (Kd.R_mono (ok' := fun k_ => some k_ ≠ (v262 : Value).ownBlock) (Kd.R_keptB ((Kd.R_apart' HO_7.out (Kd.R_typed HO_6.out) (by decide))) hkp (fun k_ hk_ hs_ => (hk_.2) hs_)) (fun k_ hk_ => hk_.1.1)); have n3_ := Aside0.mk (Kd.R_mono (ok' := fun k_ => some k_ ≠ (.slice Ao13 t264.length co13 : Value).ownBlock) (Kd.R_keptB (HO274.out) hkp (fun k_ hk_ hs_ => (hk_.2) hs_)) (fun k_ hk_ => hk_.1.2)); have n4_ := Aside0.mk (hb); clear HO_4; clear HO_6; clear HO_7; clear HO274; clear HB; have HO_4 := n0_; have HO_6 := n1_; have HO_7 := n2_; have HO274 := n3_; have HB := n4_; clear n0_ n1_ n2_ n3_ n4_; (try clear hb); (try clear hkp); (try clear hy0)))
            (try simp only [Act.put, List.setIfInBounds_toArray, List.set_cons_zero, List.set_cons_succ])
            go_cut [61] (fun v61 wc => ∃ (kq : Nat) (x61_27 : Bool), v61 = .bool x61_27 ∧ Aside0 (laws_FnExactPolygonOf.j1 kq l0 t260 t261 t267 x61_27 = some true) ∧ Aside0 (kq ≤ kj7) ∧ Aside0 (Kd.R k46 46 wc w.heap.size (fun k_ => some k_ ≠ (v269 : Value).ownBlock) v262 t260) ∧ Aside0 (Kd.R k46 46 wc w.heap.size (fun k_ => some k_ ≠ (v262 : Value).ownBlock) v269 t267) ∧ Aside0 (Below w.heap.size w wc))
            case first =>
              have H := HC28.out
              clear HC28
              by_cases c33 : t276 < 0
              · rw [if_pos c33] at H
                have c33b0 : decide (t276 < 0) = true := decide_eq_true c33
                clear c33
                (first | rw [c33b0] | (simp only [i64_w, i32_w]; rw [c33b0]) | skip)
                have H' := Aside0.mk H
                clear H
                go_wp2
                go_meet
                case rel => exact ⟨_, (true), (by first | rfl | (simp; done) | (simp [*]; done)), H', ⟨by have := HJ7.out; first | omega | exact Nat.le_refl _⟩, ⟨by (with_reducible repeat (first | apply Kd.R_alloc | apply Kd.R_drewN | apply Kd.R_drew)); exact HO_4.out⟩, ⟨by (with_reducible repeat (first | apply Kd.R_alloc | apply Kd.R_drewN | apply Kd.R_drew)); exact HO_7.out⟩, ⟨by repeat (first | (with_reducible first | exact HB.out | apply below_alloc | apply pw_below_drewN | apply below_drew1) | exact HB.out)⟩⟩
              · rw [if_neg c33] at H
                have c33b0 : decide (t276 < 0) = false := decide_eq_false c33
                clear c33
                (first | rw [c33b0] | (simp only [i64_w, i32_w]; rw [c33b0]) | skip)
                replace H := Option.bind_eq_some_iff.mp H
                obtain ⟨t278, A340, H⟩ := H
                replace H : (if t278 = true then (laws_FnExactPolygonOf.j1 kj7 l0 t260 t261 t267 (t268 != t261)) else (laws_FnExactPolygonOf.j1 kj7 l0 t260 t261 t267 true)) = some true := H
                have A34 := Aside0.mk A340
                clear A340
                by_cases c35 : t278 = true
                · subst c35
                  have H1 : (laws_FnExactPolygonOf.j1 kj7 l0 t260 t261 t267 (t268 != t261)) = some true := by first | (rw [if_pos rfl] at H; exact H) | rfl
                  clear H
                  have H := H1
                  clear H1
                  have H' := Aside0.mk H
                  clear H
                  obtain ⟨Ao36, co36, eo36⟩ := Kd.R_slice HO_7.out
                  subst eo36
                  obtain ⟨Ao37, co37, eo37⟩ := Kd.R_slice HO_4.out
                  subst eo37
                  go_wp2_with (first | (go_at_call 8; (with_reducible refine (laws_eqLeafS.calls kj7 _ _ t267 _ _ t260 true _ ?side1 ?side2 ?side3 ?side4 A34.out).mono ?_); (case side1 => repeat (first | exact (Kd.R_reads' HO_7.out).2.2 | (with_reducible refine Kd.C_alloc ?_ _) | (with_reducible refine Kd.C_drewN ?_ _) | (with_reducible refine Kd.C_drew ?_))); (case side2 => exact (Kd.R_reads' HO_7.out).2.1); (case side3 => repeat (first | exact (Kd.R_reads' HO_4.out).2.2 | (with_reducible refine Kd.C_alloc ?_ _) | (with_reducible refine Kd.C_drewN ?_ _) | (with_reducible refine Kd.C_drew ?_))); (case side4 => exact (Kd.R_reads' HO_4.out).2.1); rintro e w38 ⟨rfl, hb⟩; have n0_ := Aside0.mk (Kd.R_below (by (with_reducible repeat (first | apply Kd.R_alloc | apply Kd.R_drewN | apply Kd.R_drew)); exact HO_4.out) hb); have n1_ := Aside0.mk (Kd.R_below (by (with_reducible repeat (first | apply Kd.R_alloc | apply Kd.R_drewN | apply Kd.R_drew)); exact HO_6.out) hb); have n2_ := Aside0.mk (Kd.R_below (by (with_reducible repeat (first | apply Kd.R_alloc | apply Kd.R_drewN | apply Kd.R_drew)); exact HO_7.out) hb); have n3_ := Aside0.mk (Kd.R_below (by (with_reducible repeat (first | apply Kd.R_alloc | apply Kd.R_drewN | apply Kd.R_drew)); exact HO274.out) hb); have n4_ := Aside0.mk (below_step (by repeat (first | (with_reducible first | exact HB.out | apply below_alloc | apply pw_below_drewN | apply below_drew1) | exact HB.out)) hb); clear HO_4; clear HO_6; clear HO_7; clear HO274; clear HB; have HO_4 := n0_; have HO_6 := n1_; have HO_7 := n2_; have HO274 := n3_; have HB := n4_; clear n0_ n1_ n2_ n3_ n4_; (try clear hb); (try clear hb2); (try clear hk); (try clear hi)))
                  go_meet
                  case rel => exact ⟨_, ((t268 != t261)), (by first | rfl | (simp; done) | (simp [*]; done)), H', ⟨by have := HJ7.out; first | omega | exact Nat.le_refl _⟩, ⟨by (with_reducible repeat (first | apply Kd.R_alloc | apply Kd.R_drewN | apply Kd.R_drew)); exact HO_4.out⟩, ⟨by (with_reducible repeat (first | apply Kd.R_alloc | apply Kd.R_drewN | apply Kd.R_drew)); exact HO_7.out⟩, ⟨by repeat (first | (with_reducible first | exact HB.out | apply below_alloc | apply pw_below_drewN | apply below_drew1) | exact HB.out)⟩⟩
                · replace c35 := Bool.eq_false_iff.mpr c35
                  subst c35
                  have H1 : (laws_FnExactPolygonOf.j1 kj7 l0 t260 t261 t267 true) = some true := by first | (rw [if_neg (show ¬ (false = true) by decide)] at H; exact H) | rfl
                  clear H
                  have H := H1
                  clear H1
                  have H' := Aside0.mk H
                  clear H
                  obtain ⟨Ao39, co39, eo39⟩ := Kd.R_slice HO_7.out
                  subst eo39
                  obtain ⟨Ao40, co40, eo40⟩ := Kd.R_slice HO_4.out
                  subst eo40
                  go_wp2_with (first | (go_at_call 8; (with_reducible refine (laws_eqLeafS.calls kj7 _ _ t267 _ _ t260 false _ ?side1 ?side2 ?side3 ?side4 A34.out).mono ?_); (case side1 => repeat (first | exact (Kd.R_reads' HO_7.out).2.2 | (with_reducible refine Kd.C_alloc ?_ _) | (with_reducible refine Kd.C_drewN ?_ _) | (with_reducible refine Kd.C_drew ?_))); (case side2 => exact (Kd.R_reads' HO_7.out).2.1); (case side3 => repeat (first | exact (Kd.R_reads' HO_4.out).2.2 | (with_reducible refine Kd.C_alloc ?_ _) | (with_reducible refine Kd.C_drewN ?_ _) | (with_reducible refine Kd.C_drew ?_))); (case side4 => exact (Kd.R_reads' HO_4.out).2.1); rintro e w41 ⟨rfl, hb⟩; have n0_ := Aside0.mk (Kd.R_below (by (with_reducible repeat (first | apply Kd.R_alloc | apply Kd.R_drewN | apply Kd.R_drew)); exact HO_4.out) hb); have n1_ := Aside0.mk (Kd.R_below (by (with_reducible repeat (first | apply Kd.R_alloc | apply Kd.R_drewN | apply Kd.R_drew)); exact HO_6.out) hb); have n2_ := Aside0.mk (Kd.R_below (by (with_reducible repeat (first | apply Kd.R_alloc | apply Kd.R_drewN | apply Kd.R_drew)); exact HO_7.out) hb); have n3_ := Aside0.mk (Kd.R_below (by (with_reducible repeat (first | apply Kd.R_alloc | apply Kd.R_drewN | apply Kd.R_drew)); exact HO274.out) hb); have n4_ := Aside0.mk (below_step (by repeat (first | (with_reducible first | exact HB.out | apply below_alloc | apply pw_below_drewN | apply below_drew1) | exact HB.out)) hb); clear HO_4; clear HO_6; clear HO_7; clear HO274; clear HB; have HO_4 := n0_; have HO_6 := n1_; have HO_7 := n2_; have HO274 := n3_; have HB := n4_; clear n0_ n1_ n2_ n3_ n4_; (try clear hb); (try clear hb2); (try clear hk); (try clear hi)))
                  go_meet
                  case rel => exact ⟨_, (true), (by first | rfl | (simp; done) | (simp [*]; done)), H', ⟨by have := HJ7.out; first | omega | exact Nat.le_refl _⟩, ⟨by (with_reducible repeat (first | apply Kd.R_alloc | apply Kd.R_drewN | apply Kd.R_drew)); exact HO_4.out⟩, ⟨by (with_reducible repeat (first | apply Kd.R_alloc | apply Kd.R_drewN | apply Kd.R_drew)); exact HO_7.out⟩, ⟨by repeat (first | (with_reducible first | exact HB.out | apply below_alloc | apply pw_below_drewN | apply below_drew1) | exact HB.out)⟩⟩
            case rest =>
              clear HC28
              try clear c1
              try clear c2
              try clear p2
              try clear c3
              try clear c3b0
              try clear c4
              try clear c5
              try clear c6
              try clear c7
              try clear c8
              try clear c9
              try clear c10
              try clear c16
              try clear c23
              try clear c26
              try clear c33
              try clear c33b0
              try clear c35
              try clear p2
              obtain ⟨kq, x61_27, rfl, HA, HJ27, HO_4, HO_7, HB⟩ := hcut
              cases kq with
              | zero => exact absurd HA.out (by simp [laws_FnExactPolygonOf.j1])
              | succ kj27 =>
                have H := HA.out
                clear HA
                simp only [laws_FnExactPolygonOf.j1] at H
                by_cases c42 : x61_27 = true
                · subst c42
                  have H1 : (some false) = some true := by first | (rw [if_pos rfl] at H; exact H) | rfl
                  clear H
                  have H := H1
                  clear H1
                  exact absurd H (by simp)
                · replace c42 := Bool.eq_false_iff.mpr c42
                  subst c42
                  have H1 : ((laws_markLeafS.f t267 1).bind fun bt279 => ((laws_heldLeafS.f kj27 bt279.2 1).bind fun t281 => (if t281 < 0 then (some false) else (if t281 = bt279.1 then ((laws_toAngleS.f kj27 l0).bind fun t282 => ((impl_PolygonOf.f kj27 t282).bind fun bt285 => ((laws_eqLeafS.f kj27 bt285.1 t260).bind fun t289 => (if t289 = true then (laws_FnExactPolygonOf.j2 kj27 bt279.2 bt279.1 (bt285.2 != t261)) else (laws_FnExactPolygonOf.j2 kj27 bt279.2 bt279.1 true))))) else (some false))))) = some true := by first | (rw [if_neg (show ¬ (false = true) by decide)] at H; exact H) | rfl
                  clear H
                  have H := H1
                  clear H1
                  replace H := Option.bind_eq_some_iff.mp H
                  obtain ⟨⟨t279, t280⟩, A430, H⟩ := H
                  replace H : ((laws_heldLeafS.f kj27 t280 1).bind fun t281 => (if t281 < 0 then (some false) else (if t281 = t279 then ((laws_toAngleS.f kj27 l0).bind fun t282 => ((impl_PolygonOf.f kj27 t282).bind fun bt285 => ((laws_eqLeafS.f kj27 bt285.1 t260).bind fun t289 => (if t289 = true then (laws_FnExactPolygonOf.j2 kj27 t280 t279 (bt285.2 != t261)) else (laws_FnExactPolygonOf.j2 kj27 t280 t279 true))))) else (some false)))) = some true := H
                  have A43 := Aside0.mk A430
                  clear A430
                  replace H := Option.bind_eq_some_iff.mp H
                  obtain ⟨t281, A440, H⟩ := H
                  replace H : (if t281 < 0 then (some false) else (if t281 = t279 then ((laws_toAngleS.f kj27 l0).bind fun t282 => ((impl_PolygonOf.f kj27 t282).bind fun bt285 => ((laws_eqLeafS.f kj27 bt285.1 t260).bind fun t289 => (if t289 = true then (laws_FnExactPolygonOf.j2 kj27 t280 t279 (bt285.2 != t261)) else (laws_FnExactPolygonOf.j2 kj27 t280 t279 true))))) else (some false))) = some true := H
                  have A44 := Aside0.mk A440
                  clear A440
                  by_cases c45 : t281 < 0
                  · rw [if_pos c45] at H
                    have c45b0 : decide (t281 < 0) = true := decide_eq_true c45
                    clear c45
                    exact absurd H (by simp)
                  · rw [if_neg c45] at H
                    have c45b0 : decide (t281 < 0) = false := decide_eq_false c45
                    clear c45
                    by_cases c46 : t281 = t279
                    · rw [if_pos c46] at H
                      have c46b0 : (t281 == t279) = true := beq_iff_eq.mpr c46
                      have c46b1 : (t281 != t279) = false := bne_eq_false_iff_eq.mpr c46
                      clear c46
                      replace H := Option.bind_eq_some_iff.mp H
                      obtain ⟨t282, A470, H⟩ := H
                      replace H : ((impl_PolygonOf.f kj27 t282).bind fun bt285 => ((laws_eqLeafS.f kj27 bt285.1 t260).bind fun t289 => (if t289 = true then (laws_FnExactPolygonOf.j2 kj27 t280 t279 (bt285.2 != t261)) else (laws_FnExactPolygonOf.j2 kj27 t280 t279 true)))) = some true := H
                      have A47 := Aside0.mk A470
                      clear A470
                      replace H := Option.bind_eq_some_iff.mp H
                      obtain ⟨⟨t285, t286⟩, A480, H⟩ := H
                      replace H : ((laws_eqLeafS.f kj27 t285 t260).bind fun t289 => (if t289 = true then (laws_FnExactPolygonOf.j2 kj27 t280 t279 (t286 != t261)) else (laws_FnExactPolygonOf.j2 kj27 t280 t279 true))) = some true := H
                      have A48 := Aside0.mk A480
                      clear A480
                      have HC49 := Aside0.mk H
                      clear H
                      obtain ⟨Ao50, co50, eo50⟩ := Kd.R_slice HO_7.out
                      subst eo50
                      go_upto_region 25 with (first | ((with_reducible refine gate_callee (f := 11) rfl ?_); refine goesL_ (some 64) rfl rfl Try.func11 (by kernel_rfl) rfl #[.slice Ao50 t267.length co50, .int .i64 1] rfl (by (try simp only [List.map_toArray, List.map_cons, List.map_nil]); first | done | rfl | (simp only [List.length_drop, List.length_take]; rfl)) ?_; (with_reducible refine (laws_markLeafS.calls (fun k_ => some k_ = (.slice Ao50 t267.length co50 : Value).ownBlock) (.slice Ao50 t267.length co50) t267 1 t279 t280 w _ ?side1 ?side2 A43.out).mono ?_); (case side1 => repeat (first | (with_reducible first | exact HB.out | apply below_alloc | apply pw_below_drewN | apply below_drew1) | exact HB.out)); (case side2 => exact Kd.R_tight rfl HO_7.out); rintro e w51 ⟨rfl, hy0, hb, hkp⟩; refine ⟨_, rfl, ?_⟩; have n0_ := Aside0.mk (Kd.R_mono (ok' := fun k_ => some k_ ≠ (.slice Ao50 t267.length co50 : Value).ownBlock) (Kd.R_keptB (HO_4.out) hkp (fun k_ hk_ hs_ => (hk_) hs_)) (fun k_ hk_ => hk_.1)); have n1_ := Aside0.mk (Kd.R_reok rfl hy0 (fun k_ e_ => HO_7.out.1 k_ e_)); have n2_ := Aside0.mk (hb); clear HO_4; clear HO_7; clear HB; have HO_4 := n0_; have HO_7 := n1_; have HB := n2_; clear n0_ n1_ n2_; (try clear hb); (try clear hkp); (try clear hy0)) | ((with_reducible refine gate_callee (f := 12) rfl ?_); refine goesL_ (some 67) rfl rfl Try.func12 (by kernel_rfl) rfl #[.slice Ao50 t280.length co50, .int .i64 1] rfl (by (try simp only [List.map_toArray, List.map_cons, List.map_nil]); first | done | (rw [show t280.length = t267.length from (Kd.R_reads' HO_7.out).1.symm] <;> rfl) | rfl | (simp only [List.length_drop, List.length_take]; rfl)) ?_; (with_reducible refine (laws_heldLeafS.calls kj27 _ _ t280 1 t281 _ ?side1 ?side2 A44.out).mono ?_); (case side1 => repeat (first | exact (Kd.R_reads' HO_7.out).2.2 | (with_reducible refine Kd.C_alloc ?_ _) | (with_reducible refine Kd.C_drewN ?_ _) | (with_reducible refine Kd.C_drew ?_))); (case side2 => rw [show t280.length = t267.length from (Kd.R_reads' HO_7.out).1.symm]; exact (Kd.R_reads' HO_7.out).2.1); rintro e w' ⟨rfl, ⟨nd, rfl⟩⟩; refine ⟨_, rfl, ?_⟩) | ((with_reducible refine gate_callee (f := 6) rfl ?_); refine goesL_ (some 75) rfl rfl Try.func6 (by kernel_rfl) rfl #[.slice A0 l0.length c0] rfl (by (try simp only [List.map_toArray, List.map_cons, List.map_nil]); first | done | rfl | (simp only [List.length_drop, List.length_take]; rfl)) ?_; (with_reducible refine (laws_toAngleS.calls kj27 _ _ l0 t282 _ ?side1 ?side2 A47.out).mono ?_); (case side1 => repeat (first | exact (Kd.C_below HR0.out (by repeat (first | (with_reducible first | exact HB.out | apply below_alloc | apply pw_below_drewN | apply below_drew1) | exact HB.out))) | (with_reducible refine Kd.C_alloc ?_ _) | (with_reducible refine Kd.C_drewN ?_ _) | (with_reducible refine Kd.C_drew ?_))); (case side2 => exact HC0.out); rintro e w52 ⟨v283, rfl, ho0, hb⟩; refine ⟨_, rfl, ?_⟩; have n0_ := Aside0.mk (Kd.R_below (by (with_reducible repeat (first | apply Kd.R_alloc | apply Kd.R_drewN | apply Kd.R_drew)); exact HO_4.out) hb); have n1_ := Aside0.mk (Kd.R_below (by (with_reducible repeat (first | apply Kd.R_alloc | apply Kd.R_drewN | apply Kd.R_drew)); exact HO_7.out) hb); have n2_ := Aside0.mk (Kd.R_lower ho0 (below_size (by repeat (first | (with_reducible first | exact HB.out | apply below_alloc | apply pw_below_drewN | apply below_drew1) | exact HB.out)))); have n3_ := Aside0.mk (below_step (by repeat (first | (with_reducible first | exact HB.out | apply below_alloc | apply pw_below_drewN | apply below_drew1) | exact HB.out)) hb); clear HO_4; clear HO_7; clear HB; have HO_4 := n0_; have HO_7 := n1_; have HO284 := n2_; have HB := n3_; clear n0_ n1_ n2_ n3_; (try clear hb); (try clear hb2); (try clear hk); (try clear hi); (try clear ho0); obtain ⟨Ao53, co53, eo53⟩ := Kd.R_slice HO284.out; subst eo53) | ((with_reducible refine gate_callee (f := 7) rfl ?_); refine goesL_ (some 76) rfl rfl Try.func7 (by kernel_rfl) rfl #[.slice Ao53 t282.length co53] rfl (by (try simp only [List.map_toArray, List.map_cons, List.map_nil]); first | done | rfl | (simp only [List.length_drop, List.length_take]; rfl)) ?_; (with_reducible refine (impl_PolygonOf.calls kj27 _ _ t282 t285 t286 _ ?side1 ?side2 A48.out).mono ?_); (case side1 => repeat (first | exact (Kd.R_reads' HO284.out).2.2 | (with_reducible refine Kd.C_alloc ?_ _) | (with_reducible refine Kd.C_drewN ?_ _) | (with_reducible refine Kd.C_drew ?_))); (case side2 => exact (Kd.R_reads' HO284.out).2.1); rintro e w54 ⟨v287, rfl, ho0, hb⟩; refine ⟨_, rfl, ?_⟩; have n0_ := Aside0.mk (Kd.R_elder' (by (with_reducible repeat (first | apply Kd.R_alloc | apply Kd.R_drewN | apply Kd.R_drew)); exact HO_4.out) (Kd.R_base ho0) hb); have n1_ := Aside0.mk (Kd.R_elder' (by (with_reducible repeat (first | apply Kd.R_alloc | apply Kd.R_drewN | apply Kd.R_drew)); exact HO_7.out) (Kd.R_base ho0) hb); have n2_ := Aside0.mk (Kd.R_below (by (with_reducible repeat (first | apply Kd.R_alloc | apply Kd.R_drewN | apply Kd.R_drew)); exact HO284.out) hb); have n3_ := Aside0.mk (Kd.R_lower (Kd.R_new' (Kd.R_new' ho0 (Kd.R_lt (by (with_reducible repeat (first | apply Kd.R_alloc | apply Kd.R_drewN | apply Kd.R_drew)); exact HO_4.out))) (Kd.R_lt (by (with_reducible repeat (first | apply Kd.R_alloc | apply Kd.R_drewN | apply Kd.R_drew)); exact HO_7.out))) (below_size (by repeat (first | (with_reducible first | exact HB.out | apply below_alloc | apply pw_below_drewN | apply below_drew1) | exact HB.out)))); have n4_ := Aside0.mk (below_step (by repeat (first | (with_reducible first | exact HB.out | apply below_alloc | apply pw_below_drewN | apply below_drew1) | exact HB.out)) hb); clear HO_4; clear HO_7; clear HO284; clear HB; have HO_4 := n0_; have HO_7 := n1_; have HO284 := n2_; have HO288 := n3_; have HB := n4_; clear n0_ n1_ n2_ n3_ n4_; (try clear hb); (try clear hb2); (try clear hk); (try clear hi); (try clear ho0)))
                      (try simp only [Act.put, List.setIfInBounds_toArray, List.set_cons_zero, List.set_cons_succ])
                      go_cut [87] (fun v87 wc => ∃ (kq : Nat) (x87_48 : Bool), v87 = .bool x87_48 ∧ Aside0 (laws_FnExactPolygonOf.j2 kq t280 t279 x87_48 = some true) ∧ Aside0 (kq ≤ kj27) ∧ Aside0 (Kd.R k46 46 wc w.heap.size (fun _ => True) (.slice Ao50 t267.length co50) t280) ∧ Aside0 (Below w.heap.size w wc))
                      case first =>
                        have H := HC49.out
                        clear HC49
                        replace H := Option.bind_eq_some_iff.mp H
                        obtain ⟨t289, A550, H⟩ := H
                        replace H : (if t289 = true then (laws_FnExactPolygonOf.j2 kj27 t280 t279 (t286 != t261)) else (laws_FnExactPolygonOf.j2 kj27 t280 t279 true)) = some true := H
                        have A55 := Aside0.mk A550
                        clear A550
                        by_cases c56 : t289 = true
                        · subst c56
                          have H1 : (laws_FnExactPolygonOf.j2 kj27 t280 t279 (t286 != t261)) = some true := by first | (rw [if_pos rfl] at H; exact H) | rfl
                          clear H
                          have H := H1
                          clear H1
                          have H' := Aside0.mk H
                          clear H
                          obtain ⟨Ao57, co57, eo57⟩ := Kd.R_slice HO288.out
                          subst eo57
                          obtain ⟨Ao58, co58, eo58⟩ := Kd.R_slice HO_4.out
                          subst eo58
                          go_wp2_with (first | ((with_reducible refine gate_callee (f := 8) rfl ?_); refine goesL_ (some 81) rfl rfl Try.func8 (by kernel_rfl) rfl #[.slice Ao57 t285.length co57, .slice Ao58 t260.length co58] rfl (by (try simp only [List.map_toArray, List.map_cons, List.map_nil]); first | done | rfl | (simp only [List.length_drop, List.length_take]; rfl)) ?_; (with_reducible refine (laws_eqLeafS.calls kj27 _ _ t285 _ _ t260 true _ ?side1 ?side2 ?side3 ?side4 A55.out).mono ?_); (case side1 => repeat (first | exact (Kd.R_reads' HO288.out).2.2 | (with_reducible refine Kd.C_alloc ?_ _) | (with_reducible refine Kd.C_drewN ?_ _) | (with_reducible refine Kd.C_drew ?_))); (case side2 => exact (Kd.R_reads' HO288.out).2.1); (case side3 => repeat (first | exact (Kd.R_reads' HO_4.out).2.2 | (with_reducible refine Kd.C_alloc ?_ _) | (with_reducible refine Kd.C_drewN ?_ _) | (with_reducible refine Kd.C_drew ?_))); (case side4 => exact (Kd.R_reads' HO_4.out).2.1); rintro e w59 ⟨rfl, hb⟩; refine ⟨_, rfl, ?_⟩; have n0_ := Aside0.mk (Kd.R_below (by (with_reducible repeat (first | apply Kd.R_alloc | apply Kd.R_drewN | apply Kd.R_drew)); exact HO_4.out) hb); have n1_ := Aside0.mk (Kd.R_below (by (with_reducible repeat (first | apply Kd.R_alloc | apply Kd.R_drewN | apply Kd.R_drew)); exact HO_7.out) hb); have n2_ := Aside0.mk (Kd.R_below (by (with_reducible repeat (first | apply Kd.R_alloc | apply Kd.R_drewN | apply Kd.R_drew)); exact HO284.out) hb); have n3_ := Aside0.mk (Kd.R_below (by (with_reducible repeat (first | apply Kd.R_alloc | apply Kd.R_drewN | apply Kd.R_drew)); exact HO288.out) hb); have n4_ := Aside0.mk (below_step (by repeat (first | (with_reducible first | exact HB.out | apply below_alloc | apply pw_below_drewN | apply below_drew1) | exact HB.out)) hb); clear HO_4; clear HO_7; clear HO284; clear HO288; clear HB; have HO_4 := n0_; have HO_7 := n1_; have HO284 := n2_; have HO288 := n3_; have HB := n4_; clear n0_ n1_ n2_ n3_ n4_; (try clear hb); (try clear hb2); (try clear hk); (try clear hi)))
                          go_meet
                          case rel => exact ⟨_, ((t286 != t261)), (by first | rfl | (simp; done) | (simp [*]; done)), H', ⟨by have := HJ7.out; have := HJ27.out; first | omega | exact Nat.le_refl _⟩, ⟨by (with_reducible repeat (first | apply Kd.R_alloc | apply Kd.R_drewN | apply Kd.R_drew)); exact Kd.R_mono HO_7.out (fun _ hk => trivial)⟩, ⟨by repeat (first | (with_reducible first | exact HB.out | apply below_alloc | apply pw_below_drewN | apply below_drew1) | exact HB.out)⟩⟩
                        · replace c56 := Bool.eq_false_iff.mpr c56
                          subst c56
                          have H1 : (laws_FnExactPolygonOf.j2 kj27 t280 t279 true) = some true := by first | (rw [if_neg (show ¬ (false = true) by decide)] at H; exact H) | rfl
                          clear H
                          have H := H1
                          clear H1
                          have H' := Aside0.mk H
                          clear H
                          obtain ⟨Ao60, co60, eo60⟩ := Kd.R_slice HO288.out
                          subst eo60
                          obtain ⟨Ao61, co61, eo61⟩ := Kd.R_slice HO_4.out
                          subst eo61
                          go_wp2_with (first | ((with_reducible refine gate_callee (f := 8) rfl ?_); refine goesL_ (some 81) rfl rfl Try.func8 (by kernel_rfl) rfl #[.slice Ao60 t285.length co60, .slice Ao61 t260.length co61] rfl (by (try simp only [List.map_toArray, List.map_cons, List.map_nil]); first | done | rfl | (simp only [List.length_drop, List.length_take]; rfl)) ?_; (with_reducible refine (laws_eqLeafS.calls kj27 _ _ t285 _ _ t260 false _ ?side1 ?side2 ?side3 ?side4 A55.out).mono ?_); (case side1 => repeat (first | exact (Kd.R_reads' HO288.out).2.2 | (with_reducible refine Kd.C_alloc ?_ _) | (with_reducible refine Kd.C_drewN ?_ _) | (with_reducible refine Kd.C_drew ?_))); (case side2 => exact (Kd.R_reads' HO288.out).2.1); (case side3 => repeat (first | exact (Kd.R_reads' HO_4.out).2.2 | (with_reducible refine Kd.C_alloc ?_ _) | (with_reducible refine Kd.C_drewN ?_ _) | (with_reducible refine Kd.C_drew ?_))); (case side4 => exact (Kd.R_reads' HO_4.out).2.1); rintro e w62 ⟨rfl, hb⟩; refine ⟨_, rfl, ?_⟩; have n0_ := Aside0.mk (Kd.R_below (by (with_reducible repeat (first | apply Kd.R_alloc | apply Kd.R_drewN | apply Kd.R_drew)); exact HO_4.out) hb); have n1_ := Aside0.mk (Kd.R_below (by (with_reducible repeat (first | apply Kd.R_alloc | apply Kd.R_drewN | apply Kd.R_drew)); exact HO_7.out) hb); have n2_ := Aside0.mk (Kd.R_below (by (with_reducible repeat (first | apply Kd.R_alloc | apply Kd.R_drewN | apply Kd.R_drew)); exact HO284.out) hb); have n3_ := Aside0.mk (Kd.R_below (by (with_reducible repeat (first | apply Kd.R_alloc | apply Kd.R_drewN | apply Kd.R_drew)); exact HO288.out) hb); have n4_ := Aside0.mk (below_step (by repeat (first | (with_reducible first | exact HB.out | apply below_alloc | apply pw_below_drewN | apply below_drew1) | exact HB.out)) hb); clear HO_4; clear HO_7; clear HO284; clear HO288; clear HB; have HO_4 := n0_; have HO_7 := n1_; have HO284 := n2_; have HO288 := n3_; have HB := n4_; clear n0_ n1_ n2_ n3_ n4_; (try clear hb); (try clear hb2); (try clear hk); (try clear hi)))
                          go_meet
                          case rel => exact ⟨_, (true), (by first | rfl | (simp; done) | (simp [*]; done)), H', ⟨by have := HJ7.out; have := HJ27.out; first | omega | exact Nat.le_refl _⟩, ⟨by (with_reducible repeat (first | apply Kd.R_alloc | apply Kd.R_drewN | apply Kd.R_drew)); exact Kd.R_mono HO_7.out (fun _ hk => trivial)⟩, ⟨by repeat (first | (with_reducible first | exact HB.out | apply below_alloc | apply pw_below_drewN | apply below_drew1) | exact HB.out)⟩⟩
                      case rest =>
                        clear HC49
                        try clear c1
                        try clear c2
                        try clear p2
                        try clear c3
                        try clear c3b0
                        try clear c4
                        try clear c5
                        try clear c6
                        try clear c7
                        try clear c8
                        try clear c9
                        try clear c10
                        try clear c11
                        try clear c12
                        try clear c16
                        try clear c23
                        try clear c26
                        try clear c33
                        try clear c33b0
                        try clear c35
                        try clear c42
                        try clear c45
                        try clear c45b0
                        try clear c46
                        try clear c46b0
                        try clear c46b1
                        try clear c56
                        try clear p2
                        obtain ⟨kq, x87_48, rfl, HA, HJ48, HO_7, HB⟩ := hcut
                        have hl7_48 := (Kd.R_reads' HO_7.out).1
                        rw [hl7_48] at HO_7
                        (try simp only [hl7_48])
                        cases kq with
                        | zero => exact absurd HA.out (by simp [laws_FnExactPolygonOf.j2])
                        | succ kj48 =>
                          have H := HA.out
                          clear HA
                          simp only [laws_FnExactPolygonOf.j2] at H
                          by_cases c63 : x87_48 = true
                          · subst c63
                            have H1 : (some false) = some true := by first | (rw [if_pos rfl] at H; exact H) | rfl
                            clear H
                            have H := H1
                            clear H1
                            exact absurd H (by simp)
                          · replace c63 := Bool.eq_false_iff.mpr c63
                            subst c63
                            have H1 : ((laws_heldLeafS.f kj48 t280 1).bind fun t290 => (if t290 < 0 then (some false) else (if t290 = t279 then (some true) else (some false)))) = some true := by first | (rw [if_neg (show ¬ (false = true) by decide)] at H; exact H) | rfl
                            clear H
                            have H := H1
                            clear H1
                            replace H := Option.bind_eq_some_iff.mp H
                            obtain ⟨t290, A640, H⟩ := H
                            replace H : (if t290 < 0 then (some false) else (if t290 = t279 then (some true) else (some false))) = some true := H
                            have A64 := Aside0.mk A640
                            clear A640
                            by_cases c65 : t290 < 0
                            · rw [if_pos c65] at H
                              have c65b0 : decide (t290 < 0) = true := decide_eq_true c65
                              clear c65
                              exact absurd H (by simp)
                            · rw [if_neg c65] at H
                              have c65b0 : decide (t290 < 0) = false := decide_eq_false c65
                              clear c65
                              by_cases c66 : t290 = t279
                              · rw [if_pos c66] at H
                                have c66b0 : (t290 == t279) = true := beq_iff_eq.mpr c66
                                have c66b1 : (t290 != t279) = false := bne_eq_false_iff_eq.mpr c66
                                clear c66
                                clear H
                                go_wp2_with (first | ((with_reducible refine gate_callee (f := 12) rfl ?_); refine goesL_ (some 90) rfl rfl Try.func12 (by kernel_rfl) rfl #[.slice Ao50 t280.length co50, .int .i64 1] rfl (by (try simp only [List.map_toArray, List.map_cons, List.map_nil]); first | done | rfl | (simp only [List.length_drop, List.length_take]; rfl)) ?_; (with_reducible refine (laws_heldLeafS.calls kj48 _ _ t280 1 t290 _ ?side1 ?side2 A64.out).mono ?_); (case side1 => repeat (first | exact (Kd.R_reads' HO_7.out).2.2 | (with_reducible refine Kd.C_alloc ?_ _) | (with_reducible refine Kd.C_drewN ?_ _) | (with_reducible refine Kd.C_drew ?_))); (case side2 => exact (Kd.R_reads' HO_7.out).2.1); rintro e w' ⟨rfl, ⟨nd, rfl⟩⟩; refine ⟨_, rfl, ?_⟩))
                                go_ret
                                exact ⟨by first | rfl | (simp [errW_none, errW_some] <;> rfl) | (simp [*, errW_none, errW_some] <;> rfl), by repeat (first | (with_reducible first | exact HB.out | apply below_alloc | apply pw_below_drewN | apply below_drew1) | exact HB.out)⟩
                              · rw [if_neg c66] at H
                                have c66b0 : (t290 == t279) = false := beq_eq_false_iff_ne.mpr c66
                                have c66b1 : (t290 != t279) = true := bne_iff_ne.mpr c66
                                exact absurd H (by simp)
                    · rw [if_neg c46] at H
                      have c46b0 : (t281 == t279) = false := beq_eq_false_iff_ne.mpr c46
                      have c46b1 : (t281 != t279) = true := bne_iff_ne.mpr c46
                      exact absurd H (by simp)
          · replace c26 := Bool.eq_false_iff.mpr c26
            subst c26
            have H1 : (some false) = some true := by first | (rw [if_neg (show ¬ (false = true) by decide)] at H; exact H) | rfl
            clear H
            have H := H1
            clear H1
            exact absurd H (by simp)

-- NOT PRINTED: function 35 (impl_Angle_35)

end Go.Proofs.Ytjfdbjdilldfoaa.Q
end
section
/- Angles as fractions in lowest terms: plain arithmetic, no program. -/
namespace Go.Proofs.Ytjfdbjdilldfoaa.Ang
/-- A part of a turn, without whole turns, in lowest terms. -/
def ang (n d : Int) : Int × Int := ((n % d) / Int.gcd (n % d) d, d / Int.gcd (n % d) d)
/-- Is it an angle. -/
def isA (n d : Int) : Bool := decide (1 ≤ d ∧ d ≤ 8191 ∧ 0 ≤ n ∧ n ≤ d - 1 ∧ Int.gcd n d = 1)
/-- Is it an angle but for the bound on its Den. -/
def wide (n d : Int) : Prop := 1 ≤ d ∧ 0 ≤ n ∧ n < d ∧ Int.gcd n d = 1

theorem isA_iff {n d : Int} : isA n d = true ↔ 1 ≤ d ∧ d ≤ 8191 ∧ 0 ≤ n ∧ n ≤ d - 1 ∧ Int.gcd n d = 1 := by simp [isA]
theorem isA_wide {n d : Int} (h : isA n d = true) : wide n d := by
  obtain ⟨a, b, c, e, f⟩ := isA_iff.1 h
  exact ⟨a, c, by omega, f⟩

theorem gcd_pos {n d : Int} (hd : 0 < d) : (0 : Int) < (Int.gcd n d : Int) := by
  have := Int.gcd_pos_iff.2 (show n ≠ 0 ∨ d ≠ 0 from .inr (by omega))
  omega
theorem gcd_le {n d : Int} (hd : 0 < d) : (Int.gcd n d : Int) ≤ d := by
  exact Int.le_of_dvd hd (Int.gcd_dvd_right _ _)

theorem ang_den_pos {n d : Int} (hd : 0 < d) : 0 < (ang n d).2 := by
  have h1 := gcd_pos (n := n % d) hd
  have h2 := gcd_le (n := n % d) hd
  exact Int.ediv_pos_of_pos_of_dvd hd (by omega) (Int.gcd_dvd_right _ _)

theorem ang_den_le {n d : Int} (hd : 0 < d) : (ang n d).2 ≤ d := Int.ediv_le_self _ (by omega)

/-- The two parts, times the divisor. -/
theorem ang_mul {n d : Int} (hd : 0 < d) : ∃ g : Int, 0 < g ∧ (ang n d).1 * g = n % d ∧ (ang n d).2 * g = d := by
  refine ⟨Int.gcd (n % d) d, gcd_pos hd, ?_, ?_⟩
  · exact Int.ediv_mul_cancel (Int.gcd_dvd_left _ _)
  · exact Int.ediv_mul_cancel (Int.gcd_dvd_right _ _)

theorem ang_wide {n d : Int} (hd : 0 < d) : wide (ang n d).1 (ang n d).2 := by
  obtain ⟨g, hg, h1, h2⟩ := ang_mul (n := n) hd
  have hn := Int.emod_nonneg n (show d ≠ 0 by omega)
  have hl := Int.emod_lt_of_pos n hd
  have hp := ang_den_pos (n := n) hd
  have hn0 : 0 ≤ (ang n d).1 := by
    unfold ang
    exact Int.ediv_nonneg hn (by omega)
  refine ⟨by omega, hn0, ?_, ?_⟩
  · have : (ang n d).1 * g < (ang n d).2 * g := by omega
    exact (Int.mul_lt_mul_right hg).1 this
  · unfold ang
    have hg2 := gcd_pos (n := n % d) hd
    rw [Int.gcd_ediv (Int.gcd_dvd_left _ _) (Int.gcd_dvd_right _ _), Int.natAbs_natCast]
    exact Nat.div_self (by omega)

/-- What is in lowest terms is told as it is. -/
theorem ang_self {n d : Int} (h : wide n d) : ang n d = (n, d) := by
  obtain ⟨h1, h2, h3, h4⟩ := h
  unfold ang
  rw [Int.emod_eq_of_lt h2 h3, h4]
  simp

/-- What two have in common falls away. -/
theorem ang_scale {g n d : Int} (hg : 0 < g) (hd : 0 < d) : ang (g * n) (g * d) = ang n d := by
  unfold ang
  rw [Int.mul_emod_mul_of_pos _ _ hg, Int.gcd_mul_left]
  have hgg := gcd_pos (n := n % d) hd
  have e : ((g.natAbs * Int.gcd (n % d) d : Nat) : Int) = g * (Int.gcd (n % d) d : Int) := by
    rw [Int.natCast_mul, Int.natAbs_of_nonneg (by omega)]
  rw [e, Int.mul_ediv_mul_of_pos _ _ hg, Int.mul_ediv_mul_of_pos _ _ hg]

theorem ang_emod {n d : Int} : ang (n % d) d = ang n d := by
  unfold ang
  rw [Int.emod_emod_of_dvd _ (Int.dvd_refl d)]

theorem ang_congr {n m d : Int} (h : n % d = m % d) : ang n d = ang m d := by
  unfold ang
  rw [h]

/-- Two in lowest terms of one size are one. -/
theorem wide_eq {a b c d : Int} (h : wide a b) (k : wide c d) (e : a * d = c * b) : a = c ∧ b = d := by
  have h1 := ang_self h
  have h2 := ang_self k
  have e1 : ang (d * a) (d * b) = (a, b) := by rw [ang_scale (by have := k.1; omega) (by have := h.1; omega), h1]
  have e2 : ang (b * c) (b * d) = (c, d) := by rw [ang_scale (by have := h.1; omega) (by have := k.1; omega), h2]
  rw [show d * a = b * c by rw [Int.mul_comm, e, Int.mul_comm], show d * b = b * d from Int.mul_comm _ _, e2] at e1
  simp only [Prod.mk.injEq] at e1
  exact ⟨e1.1.symm, e1.2.symm⟩

/-- Back from an angle forward: the angle that is lacking. -/
theorem ang_neg {n d : Int} (hd : 0 < d) : ang (-(ang n d).1) (ang n d).2 = ang (-n) d := by
  obtain ⟨g, hg, h1, h2⟩ := ang_mul (n := n) hd
  rw [← ang_scale hg (ang_den_pos hd)]
  have e1 : g * -(ang n d).1 = -(n % d) := by rw [← h1]; grind
  have e2 : g * (ang n d).2 = d := by rw [Int.mul_comm]; exact h2
  rw [e1, e2]
  apply ang_congr
  have := Int.emod_add_mul_ediv n d
  have e3 : -(n % d) = -n + d * (n / d) := by omega
  rw [e3, Int.add_mul_emod_self_left]

/-- Is the first less. -/
def lt (a b : Int × Int) : Prop := a.1 * b.2 < b.1 * a.2
instance (a b : Int × Int) : Decidable (lt a b) := by unfold lt; exact inferInstance

theorem lt_irrefl (a : Int × Int) : ¬ lt a a := by unfold lt; omega
theorem lt_asymm {a b : Int × Int} (h : lt a b) : ¬ lt b a := by unfold lt at *; omega
theorem lt_trans {a b c : Int × Int} (ha : 0 < a.2) (hb : 0 < b.2) (hc : 0 < c.2) (h : lt a b) (k : lt b c) : lt a c := by
  unfold lt at *
  have h1 : a.1 * b.2 * c.2 < b.1 * a.2 * c.2 := (Int.mul_lt_mul_right hc).2 h
  have h2 : b.1 * c.2 * a.2 < c.1 * b.2 * a.2 := (Int.mul_lt_mul_right ha).2 k
  have h3 : a.1 * c.2 * b.2 < c.1 * a.2 * b.2 := by
    have e1 : a.1 * c.2 * b.2 = a.1 * b.2 * c.2 := by grind
    have e2 : b.1 * a.2 * c.2 = b.1 * c.2 * a.2 := by grind
    have e3 : c.1 * a.2 * b.2 = c.1 * b.2 * a.2 := by grind
    omega
  exact (Int.mul_lt_mul_right hb).1 h3
theorem lt_or {a b : Int × Int} (ha : wide a.1 a.2) (hb : wide b.1 b.2) (h : a ≠ b) : lt a b ∨ lt b a := by
  unfold lt
  by_cases e : a.1 * b.2 = b.1 * a.2
  · obtain ⟨e1, e2⟩ := wide_eq ha hb e
    exact absurd (Prod.ext e1 e2) h
  · omega

/-- The angle from a forward to b. -/
def fwd (a b : Int × Int) : Int × Int := ang (b.1 * a.2 - a.1 * b.2) (b.2 * a.2)

/-- How far it is forward, in parts of the turn. -/
theorem fwd_val {a b : Int × Int} (ha : wide a.1 a.2) (hb : wide b.1 b.2) :
    (b.1 * a.2 - a.1 * b.2) % (b.2 * a.2) = b.1 * a.2 - a.1 * b.2 + (if lt b a then b.2 * a.2 else 0) := by
  obtain ⟨a1, a2, a3, _⟩ := ha
  obtain ⟨b1, b2, b3, _⟩ := hb
  have p1 : b.1 * a.2 < b.2 * a.2 := (Int.mul_lt_mul_right (by omega)).2 b3
  have p2 : a.1 * b.2 < b.2 * a.2 := by rw [Int.mul_comm b.2]; exact (Int.mul_lt_mul_right (by omega)).2 a3
  have p3 : 0 ≤ b.1 * a.2 := Int.mul_nonneg b2 (by omega)
  have p4 : 0 ≤ a.1 * b.2 := Int.mul_nonneg a2 (by omega)
  by_cases h : lt b a
  · rw [if_pos h]
    unfold lt at h
    rw [← Int.add_emod_right, Int.emod_eq_of_lt (by omega) (by omega)]
  · rw [if_neg h]
    unfold lt at h
    rw [Int.emod_eq_of_lt (by omega) (by omega)]
    omega

/-- Of two that differ from a and from each other, the one behind the other in the arc. -/
theorem fwd_lt {a b c : Int × Int} (ha : wide a.1 a.2) (hb : wide b.1 b.2) (hc : wide c.1 c.2) :
    lt (fwd a b) (fwd a c) ↔ (if lt b a then (if lt c a then lt b c else False) else (if lt c a then True else lt b c)) := by
  have A := ha.1; have B := hb.1; have C := hc.1
  have hba : 0 < b.2 * a.2 := Int.mul_pos (by omega) (by omega)
  have hca : 0 < c.2 * a.2 := Int.mul_pos (by omega) (by omega)
  obtain ⟨g, hg, g1, g2⟩ := ang_mul (n := b.1 * a.2 - a.1 * b.2) hba
  obtain ⟨h, hh, h1, h2⟩ := ang_mul (n := c.1 * a.2 - a.1 * c.2) hca
  rw [fwd_val ha hb] at g1
  rw [fwd_val ha hc] at h1
  have key : lt (fwd a b) (fwd a c) ↔ (b.1 * a.2 - a.1 * b.2 + (if lt b a then b.2 * a.2 else 0)) * (c.2 * a.2) < (c.1 * a.2 - a.1 * c.2 + (if lt c a then c.2 * a.2 else 0)) * (b.2 * a.2) := by
    have e0 : (fwd a b).1 * g = _ := g1
    have e1 : (fwd a b).2 * g = b.2 * a.2 := g2
    have e3 : (fwd a c).1 * h = _ := h1
    have e2 : (fwd a c).2 * h = c.2 * a.2 := h2
    rw [← e0, ← e3, ← e1, ← e2]
    unfold lt
    have f1 : (fwd a b).1 * g * ((fwd a c).2 * h) = (fwd a b).1 * (fwd a c).2 * (g * h) := by grind
    have f2 : (fwd a c).1 * h * ((fwd a b).2 * g) = (fwd a c).1 * (fwd a b).2 * (g * h) := by grind
    rw [f1, f2]
    exact (Int.mul_lt_mul_right (Int.mul_pos hg hh)).symm
  rw [key]
  have fac : ∀ (x y : Int), (b.1 * a.2 - a.1 * b.2 + x * (b.2 * a.2)) * (c.2 * a.2) < (c.1 * a.2 - a.1 * c.2 + y * (c.2 * a.2)) * (b.2 * a.2) ↔ b.1 * c.2 + x * (b.2 * c.2) < c.1 * b.2 + y * (b.2 * c.2) := by
    intro x y
    have f1 : (b.1 * a.2 - a.1 * b.2 + x * (b.2 * a.2)) * (c.2 * a.2) = (b.1 * c.2 + x * (b.2 * c.2)) * (a.2 * a.2) - a.1 * b.2 * (c.2 * a.2) := by grind
    have f2 : (c.1 * a.2 - a.1 * c.2 + y * (c.2 * a.2)) * (b.2 * a.2) = (c.1 * b.2 + y * (b.2 * c.2)) * (a.2 * a.2) - a.1 * b.2 * (c.2 * a.2) := by grind
    rw [f1, f2]
    have hp : 0 < a.2 * a.2 := Int.mul_pos (by omega) (by omega)
    have z := Int.mul_lt_mul_right (b := b.1 * c.2 + x * (b.2 * c.2)) (c := c.1 * b.2 + y * (b.2 * c.2)) hp
    omega
  have bc : 0 < b.2 * c.2 := Int.mul_pos (by omega) (by omega)
  have q1 : b.1 * c.2 < b.2 * c.2 := (Int.mul_lt_mul_right (by omega)).2 hb.2.2.1
  have q2 : c.1 * b.2 < b.2 * c.2 := by rw [Int.mul_comm b.2]; exact (Int.mul_lt_mul_right (by omega)).2 hc.2.2.1
  have q3 : 0 ≤ b.1 * c.2 := Int.mul_nonneg hb.2.1 (by omega)
  have q4 : 0 ≤ c.1 * b.2 := Int.mul_nonneg hc.2.1 (by omega)
  have ee : ∀ (p : Prop) [Decidable p] (z : Int), (if p then z else 0) = (if p then 1 else 0) * z := by
    intro p _ z
    split <;> simp
  rw [ee (lt b a), ee (lt c a), fac]
  by_cases u : lt b a <;> by_cases v : lt c a <;> simp only [u, v, if_true, if_false, iff_true, iff_false] <;> (try unfold lt) <;> omega

/-- Is x in the arc from a to b (as the document's reference has it). -/
def within (x a b : Int × Int) : Bool := if lt a b then decide (lt a x) && decide (lt x b) else decide (lt a x) || decide (lt x b)

/-- The cyclic order by what is forward, and by arcs. -/
theorem order_within {a b c : Int × Int} (ha : wide a.1 a.2) (hb : wide b.1 b.2) (hc : wide c.1 c.2) (hab : a ≠ b) (hbc : b ≠ c) (hac : a ≠ c) :
    decide (lt (fwd a b) (fwd a c)) = within b a c := by
  have h := fwd_lt ha hb hc
  have t1 := lt_or ha hb hab
  have t2 := lt_or hb hc hbc
  have t3 := lt_or ha hc hac
  have s1 : ¬ (lt a b ∧ lt b a) := fun z => lt_asymm z.1 z.2
  have s2 : ¬ (lt b c ∧ lt c b) := fun z => lt_asymm z.1 z.2
  have s3 : ¬ (lt a c ∧ lt c a) := fun z => lt_asymm z.1 z.2
  unfold within
  by_cases u : lt a b <;> by_cases v : lt b a <;> by_cases p : lt b c <;> by_cases q : lt c b <;> by_cases m : lt a c <;> by_cases n : lt c a <;> simp_all

theorem order_within_ne {a b c : Int × Int} (ha : wide a.1 a.2) (hb : wide b.1 b.2) (hc : wide c.1 c.2) (hac : a ≠ c) (h : within b a c = true) : a ≠ b ∧ b ≠ c := by
  unfold within at h
  have t3 := lt_or ha hc hac
  constructor
  · rintro rfl
    have := lt_irrefl a
    by_cases u : lt a c
    · simp [u, this] at h
    · simp [u, this] at h
  · rintro rfl
    have := lt_irrefl b
    by_cases u : lt a b
    · simp [u, this] at h
    · simp [u, this] at h

/-! A number that all dens divide: sizes as whole numbers. -/
theorem exists_mult : ∀ n : Nat, ∃ L : Int, 0 < L ∧ ∀ d : Int, 1 ≤ d → d ≤ n → d ∣ L
  | 0 => ⟨1, by omega, fun d h1 h2 => by omega⟩
  | n + 1 => by
    obtain ⟨L, hL, h⟩ := exists_mult n
    refine ⟨L * (n + 1 : Nat), Int.mul_pos hL (by omega), fun d h1 h2 => ?_⟩
    by_cases e : d = (n + 1 : Nat)
    · subst e
      exact Int.dvd_mul_left _ _
    · exact Int.dvd_trans (h d h1 (by omega)) (Int.dvd_mul_right _ _)
def denMax : Nat := 1152921504606846976
noncomputable def bigL : Int := Classical.choose (exists_mult denMax)
theorem bigL_pos : 0 < bigL := (Classical.choose_spec (exists_mult denMax)).1
theorem bigL_dvd {d : Int} (h1 : 1 ≤ d) (h2 : d ≤ denMax) : d ∣ bigL := (Classical.choose_spec (exists_mult denMax)).2 d h1 h2
/-- The size of an angle, as a whole number. -/
noncomputable def key (a : Int × Int) : Int := a.1 * (bigL / a.2)
theorem lt_key {a b : Int × Int} (ha : 1 ≤ a.2) (ha' : a.2 ≤ denMax) (hb : 1 ≤ b.2) (hb' : b.2 ≤ denMax) : lt a b ↔ key a < key b := by
  have h1 : bigL / a.2 * a.2 = bigL := Int.ediv_mul_cancel (bigL_dvd ha ha')
  have h2 : bigL / b.2 * b.2 = bigL := Int.ediv_mul_cancel (bigL_dvd hb hb')
  have hp : 0 < a.2 * b.2 := Int.mul_pos (by omega) (by omega)
  have z := Int.mul_lt_mul_right (b := key a) (c := key b) hp
  have e1 : key a * (a.2 * b.2) = (a.1 * b.2) * bigL := by unfold key; rw [← h1]; grind
  have e2 : key b * (a.2 * b.2) = (b.1 * a.2) * bigL := by unfold key; rw [← h2]; grind
  rw [e1, e2, Int.mul_lt_mul_right bigL_pos] at z
  exact z
theorem key_inj {a b : Int × Int} (ha : wide a.1 a.2) (ha' : a.2 ≤ denMax) (hb : wide b.1 b.2) (hb' : b.2 ≤ denMax) : key a = key b ↔ a = b := by
  constructor
  · intro h
    by_cases e : a = b
    · exact e
    · rcases lt_or ha hb e with z | z
      · rw [lt_key ha.1 ha' hb.1 hb'] at z; omega
      · rw [lt_key hb.1 hb' ha.1 ha'] at z; omega
  · rintro rfl; rfl

/-- Two leaves cross, asked from either one: in whole numbers. -/
theorem cross_int (P Q R S : Int) (h : P < Q) (k : R < S) :
    (((if P = R ∨ R = Q ∨ P = Q then (0:Int) else if (if P < Q then decide (P < R) && decide (R < Q) else decide (P < R) || decide (R < Q)) = true then 1 else -1) * (if P = S ∨ S = Q ∨ P = Q then (0:Int) else if (if P < Q then decide (P < S) && decide (S < Q) else decide (P < S) || decide (S < Q)) = true then 1 else -1)) == -1)
      = (if P = R ∨ P = S ∨ Q = R ∨ Q = S then false else ((if R < S then decide (R < P) && decide (P < S) else decide (R < P) || decide (P < S)) != (if R < S then decide (R < Q) && decide (Q < S) else decide (R < Q) || decide (Q < S)))) := by
  rcases Int.lt_trichotomy P R with a | a | a <;> rcases Int.lt_trichotomy P S with b | b | b <;> rcases Int.lt_trichotomy Q R with c | c | c <;> rcases Int.lt_trichotomy Q S with d | d | d <;> first | omega | (simp [h, k, a, b, c, d, Int.lt_asymm a, Int.lt_asymm b, Int.lt_asymm c, Int.lt_asymm d, Int.ne_of_lt]; done) | (simp_all; omega) | grind
end Go.Proofs.Ytjfdbjdilldfoaa.Ang
end
section
/- What the printed functions on one angle answer: from some number of rounds on, the plain values of AngMath. -/
namespace Go.Proofs.Ytjfdbjdilldfoaa.Q
open Go.RowKit Go.Proofs.YtjfdbjdilldfoaaW.PrintWords Go.Proofs.YtjfdbjdilldfoaaW.PrintLast Go.Proofs.YtjfdbjdilldfoaaW.Ext Go.Proofs.Ytjfdbjdilldfoaa.Ang
set_option linter.unusedVariables false

/-- A whole number that fits. -/
theorem wrap_in {x : Int} (h0 : -9223372036854775808 ≤ x) (h1 : x ≤ 9223372036854775807) : wrap64 x = x := by unfold wrap64; omega

theorem ev_if {α : Type} {c : Prop} [Decidable c] {f g : Nat → Option α} {r : α} (h1 : c → Ev f r) (h2 : ¬ c → Ev g r) : Ev (fun k => if c then f k else g k) r := by
  by_cases h : c
  · simp only [if_pos h]; exact h1 h
  · simp only [if_neg h]; exact h2 h

theorem ev_impl_divisor : ∀ (n m : Nat), Ev (fun k => impl_divisor.f k (m : Int) (n : Int)) ((Nat.gcd m n : Nat) : Int) := by
  intro n
  induction n using Nat.strongRecOn with
  | _ n ih =>
    intro m
    refine Ev.step (f := fun k => if (n : Int) = 0 then (some (m : Int)) else impl_divisor.f k (n : Int) (Int.tmod (m : Int) (n : Int))) (fun k => rfl) ?_
    refine ev_if (fun h => ?_) (fun h => ?_)
    · have : n = 0 := by omega
      subst this
      rw [Nat.gcd_zero_right]
      exact Ev.now _
    · have hn : 0 < n := by omega
      have e : Int.tmod (m : Int) (n : Int) = ((m % n : Nat) : Int) := by
        rw [Int.tmod_eq_emod_of_nonneg (by omega)]
        omega
      rw [e]
      have := ih (m % n) (Nat.mod_lt _ hn) n
      rw [show Nat.gcd m n = Nat.gcd n (m % n) by rw [Nat.gcd_comm m n, Nat.gcd_rec n m, Nat.gcd_comm]]
      exact this

theorem ev_spec_divisor : ∀ (n m : Nat), Ev (fun k => spec_l01Divisor.f k (m : Int) (n : Int)) ((Nat.gcd m n : Nat) : Int) := by
  intro n
  induction n using Nat.strongRecOn with
  | _ n ih =>
    intro m
    refine Ev.step (f := fun k => if (n : Int) > 0 then (if (n : Int) = 0 then none else spec_l01Divisor.f k (n : Int) (Int.tmod (m : Int) (n : Int))) else some (m : Int)) (fun k => rfl) ?_
    refine ev_if (fun h => ?_) (fun h => ?_)
    · have hn : 0 < n := by omega
      have e : Int.tmod (m : Int) (n : Int) = ((m % n : Nat) : Int) := by
        rw [Int.tmod_eq_emod_of_nonneg (by omega)]
        omega
      simp only [if_neg (show ¬ (n : Int) = 0 by omega)]
      rw [e]
      have := ih (m % n) (Nat.mod_lt _ hn) n
      rw [show Nat.gcd m n = Nat.gcd n (m % n) by rw [Nat.gcd_comm m n, Nat.gcd_rec n m, Nat.gcd_comm]]
      exact this
    · have : n = 0 := by omega
      subst this
      rw [Nat.gcd_zero_right]
      exact Ev.now _

theorem ev_impl_gcd {a b : Int} (ha : 0 ≤ a) (hb : 0 ≤ b) : Ev (fun k => impl_divisor.f k a b) (Int.gcd a b : Int) := by
  obtain ⟨m, rfl⟩ := Int.eq_ofNat_of_zero_le ha
  obtain ⟨n, rfl⟩ := Int.eq_ofNat_of_zero_le hb
  exact ev_impl_divisor n m
theorem ev_spec_gcd {a b : Int} (ha : 0 ≤ a) (hb : 0 ≤ b) : Ev (fun k => spec_l01Divisor.f k a b) (Int.gcd a b : Int) := by
  obtain ⟨m, rfl⟩ := Int.eq_ofNat_of_zero_le ha
  obtain ⟨n, rfl⟩ := Int.eq_ofNat_of_zero_le hb
  exact ev_spec_divisor n m

theorem ev_impl_IsAngle (n d : Int) : Ev (fun k => impl_IsAngle.f k n d) (isA n d) := by
  unfold impl_IsAngle.f impl_within.f isA
  by_cases h1 : 1 ≤ d
  · by_cases h2 : d ≤ 8191
    · simp only [if_pos h1, decide_eq_true h2, Option.bind_some, if_true]
      rw [wrap_in (show -9223372036854775808 ≤ d - 1 by omega) (by omega)]
      by_cases h3 : 0 ≤ n
      · by_cases h4 : n ≤ d - 1
        · simp only [if_pos h3, decide_eq_true h4, Option.bind_some, if_true]
          refine Ev.bind (ev_impl_gcd (by omega) (by omega)) ?_
          have e : ((Int.gcd d n : Int) == 1) = decide (1 ≤ d ∧ d ≤ 8191 ∧ 0 ≤ n ∧ n ≤ d - 1 ∧ Int.gcd n d = 1) := by
            rw [Int.gcd_comm d n, Bool.eq_iff_iff]
            simp [h1, h2, h3, h4]
            omega
          simp only [e]
          exact Ev.now _
        · simp only [if_pos h3, decide_eq_false h4, Option.bind_some]
          simp [h4]
          exact Ev.now _
      · simp only [if_neg h3, Option.bind_some]
        simp [h3]
        exact Ev.now _
    · simp only [if_pos h1, decide_eq_false h2, Option.bind_some]
      simp [h2]
      exact Ev.now _
  · simp only [if_neg h1, Option.bind_some]
    simp [h1]
    exact Ev.now _

theorem ev_spec_Is (n d : Int) : Ev (fun k => spec_l01Is.f k n d) (isA n d) := by
  unfold spec_l01Is.f spec_l01In.f isA
  by_cases h1 : 1 ≤ d
  · by_cases h2 : d ≤ 8191
    · simp only [ge_iff_le, if_pos h1, decide_eq_true h2, Option.bind_some, if_true]
      rw [wrap_in (show -9223372036854775808 ≤ d - 1 by omega) (by omega)]
      by_cases h3 : 0 ≤ n
      · by_cases h4 : n ≤ d - 1
        · simp only [if_pos h3, decide_eq_true h4, Option.bind_some, if_true]
          refine Ev.bind (ev_spec_gcd (by omega) (by omega)) ?_
          have e : ((Int.gcd n d : Int) == 1) = decide (1 ≤ d ∧ d ≤ 8191 ∧ 0 ≤ n ∧ n ≤ d - 1 ∧ Int.gcd n d = 1) := by
            rw [Bool.eq_iff_iff]
            simp [h1, h2, h3, h4]
            omega
          simp only [e]
          exact Ev.now _
        · simp only [if_pos h3, decide_eq_false h4, Option.bind_some]
          simp [h4]
          exact Ev.now _
      · simp only [if_neg h3, Option.bind_some]
        simp [h3]
        exact Ev.now _
    · simp only [ge_iff_le, if_pos h1, decide_eq_false h2, Option.bind_some]
      simp [h2]
      exact Ev.now _
  · simp only [ge_iff_le, if_neg h1, Option.bind_some]
    simp [h1]
    exact Ev.now _

/-- All of a list are angles. -/
def allA (l : List S36) : Bool := l.all fun x => isA x.f0 x.f1
theorem ev_allM (l : List S36) : Ev (fun k => allM (fun x : S36 => impl_IsAngle.f k x.f0 x.f1) l) (allA l) := by
  induction l with
  | nil => exact Ev.now _
  | cons x xs ih =>
    unfold allM
    refine Ev.bind (ev_impl_IsAngle x.f0 x.f1) ?_
    unfold allA
    rw [List.all_cons]
    cases isA x.f0 x.f1 with
    | true => simpa [allA] using ih
    | false => simpa using Ev.now false
theorem ev_anglesCode (l : List S36) : Ev (fun k => impl_anglesCode.f k l) (if allA l = true then 0 else 1) := by
  unfold impl_anglesCode.f
  exact Ev.bind (ev_allM l) (Ev.now _)

theorem eqAngle_same (a b : Int) : laws_eqAngle.f a b a b = some true := by simp [laws_eqAngle.f]
end Go.Proofs.Ytjfdbjdilldfoaa.Q
end
section
/- What the laws ask of lists of angles: equal lists, marks laid and found again. -/
namespace Go.Proofs.Ytjfdbjdilldfoaa.Q
open Go.RowKit Go.Proofs.YtjfdbjdilldfoaaW.PrintWords Go.Proofs.YtjfdbjdilldfoaaW.PrintLast Go.Proofs.YtjfdbjdilldfoaaW.Ext Go.Proofs.Ytjfdbjdilldfoaa.Ang
set_option linter.unusedVariables false

theorem rd_at (pre rest : List S36) (x : S36) : rd_T36 (pre ++ x :: rest) (pre.length : Int) = x := by simp [rd_T36]
theorem set_at {α : Type} (pre rest : List α) (x y : α) : (pre ++ x :: rest).set pre.length y = pre ++ y :: rest := by simp
theorem ev_eqAngleS (l : List S36) (hl : l.length ≤ 1099511627776) : Ev (fun k => laws_eqAngleS.f k l l) true := by
  unfold laws_eqAngleS.f
  simp only [if_true]
  have key : ∀ (rest pre : List S36), (pre ++ rest).length ≤ 1099511627776 → Ev (fun k => laws_eqAngleS.l0 k (pre ++ rest) (pre ++ rest) (pre.length : Int)) true := by
    intro rest
    induction rest with
    | nil =>
      intro pre _
      exact Ev.step (f := fun _ => some true) (fun k => by simp [laws_eqAngleS.l0]) (Ev.now _)
    | cons x xs ih =>
      intro pre hp
      have hlen : (pre.length : Int) < ((pre ++ x :: xs).length : Int) := by simp <;> omega
      have hp2 : (pre.length : Int) ≤ 1099511627776 := by simp at hp; omega
      refine Ev.step (f := fun k => laws_eqAngleS.l0 k (pre ++ x :: xs) (pre ++ x :: xs) ((pre ++ [x]).length : Int)) (fun k => ?_) ?_
      · rw [laws_eqAngleS.l0, if_pos hlen, if_pos (by omega), if_pos hlen, rd_at, eqAngle_same]
        simp only [Option.bind_some, if_true]
        rw [wrap_in (by omega) (by omega)]
        simp
      · have := ih (pre ++ [x]) (by simpa using hp)
        simpa using this
  simpa using key l [] (by simpa using hl)
/-- The marks c, c + 1, .. on a list of angles. -/
def markedA : Int → List S36 → List S36
  | _, [] => []
  | c, _ :: xs => ⟨c, c + 1⟩ :: markedA (c + 2) xs
theorem markedA_length : ∀ (l : List S36) (c : Int), (markedA c l).length = l.length
  | [], _ => rfl
  | _ :: xs, c => by simp [markedA, markedA_length xs]
theorem ev_markAngleS (l : List S36) (hl : l.length ≤ 1099511627776) : Ev (fun k => laws_markAngleS.f k l 1) (1 + 2 * (l.length : Int), markedA 1 l) := by
  unfold laws_markAngleS.f
  have key : ∀ (rest pre : List S36) (c : Int), 0 ≤ c → c ≤ 1 + 2 * (pre.length : Int) → (pre ++ rest).length ≤ 1099511627776 →
      Ev (fun k => laws_markAngleS.l0 k (pre ++ rest) c (pre.length : Int)) (c + 2 * (rest.length : Int), pre ++ markedA c rest) := by
    intro rest
    induction rest with
    | nil =>
      intro pre c _ _ _
      exact Ev.step (f := fun _ => some (c + 2 * (([] : List S36).length : Int), pre ++ markedA c [])) (fun k => by simp [laws_markAngleS.l0, markedA]) (Ev.now _)
    | cons x xs ih =>
      intro pre c h0 h1 hp
      have hlen : (pre.length : Int) < ((pre ++ x :: xs).length : Int) := by simp <;> omega
      have hp2 : (pre.length : Int) ≤ 1099511627776 := by simp at hp; omega
      refine Ev.step (f := fun k => laws_markAngleS.l0 k ((pre ++ [⟨c, c + 1⟩]) ++ xs) (c + 2) ((pre ++ [(⟨c, c + 1⟩ : S36)]).length : Int)) (fun k => ?_) ?_
      · rw [laws_markAngleS.l0, if_pos hlen, if_pos (by omega), wrap_in (x := c + 1) (by omega) (by omega), wrap_in (x := c + 1 + 1) (by omega) (by omega), wrap_in (x := (pre.length : Int) + 1) (by omega) (by omega)]
        simp only [Option.bind_some, Int.toNat_natCast, rd_at, set_at]
        rw [show c + 1 + 1 = c + 2 by omega]
        simp
      · have := ih (pre ++ [⟨c, c + 1⟩]) (c + 2) (by omega) (by simp; omega) (by simpa using hp)
        have e : c + 2 + 2 * (xs.length : Int) = c + 2 * ((x :: xs).length : Int) := by simp; omega
        rw [e] at this
        simpa [markedA] using this
  simpa using key l [] 1 (by omega) (by simp) (by simpa using hl)
end Go.Proofs.Ytjfdbjdilldfoaa.Q
end
section
/- What the laws ask of lists of angles that came in: their sizes, and copies of them. -/
namespace Go.Proofs.Ytjfdbjdilldfoaa.Q
open Go.RowKit Go.Proofs.YtjfdbjdilldfoaaW.PrintWords Go.Proofs.YtjfdbjdilldfoaaW.PrintLast Go.Proofs.YtjfdbjdilldfoaaW.Ext Go.Proofs.Ytjfdbjdilldfoaa.Ang
set_option linter.unusedVariables false
set_option linter.unusedSimpArgs false

theorem rdA_at (pre rest : List S36) (x : S36) : rd_T36 (pre ++ x :: rest) (pre.length : Int) = x := by simp [rd_T36]
theorem rdLA_at (pre rest : List S40) (x : S40) : rd_T40 (pre ++ x :: rest) (pre.length : Int) = x := by simp [rd_T40]
theorem setA_at {α : Type} (pre rest : List α) (x y : α) : (pre ++ x :: rest).set pre.length y = pre ++ y :: rest := by simp
theorem ev_eqAngles (l : List S36) (hl : l.length ≤ 1099511627776) : Ev (fun k => laws_eqAngleS.f k l l) true := by
  unfold laws_eqAngleS.f
  simp only [if_true]
  have key : ∀ (rest pre : List S36), (pre ++ rest).length ≤ 1099511627776 → Ev (fun k => laws_eqAngleS.l0 k (pre ++ rest) (pre ++ rest) (pre.length : Int)) true := by
    intro rest
    induction rest with
    | nil =>
      intro pre _
      exact Ev.step (f := fun _ => some true) (fun k => by simp [laws_eqAngleS.l0]) (Ev.now _)
    | cons x xs ih =>
      intro pre hp
      have hlen : (pre.length : Int) < ((pre ++ x :: xs).length : Int) := by simp <;> omega
      have hp2 : (pre.length : Int) ≤ 1099511627776 := by simp at hp; omega
      refine Ev.step (f := fun k => laws_eqAngleS.l0 k (pre ++ x :: xs) (pre ++ x :: xs) ((pre ++ [x]).length : Int)) (fun k => ?_) ?_
      · rw [laws_eqAngleS.l0, if_pos hlen, if_pos (by omega), if_pos hlen, rdA_at, eqAngle_same]
        simp only [Option.bind_some, if_true]
        rw [wrap_in (by omega) (by omega)]
        simp
      · have := ih (pre ++ [x]) (by simpa using hp)
        simpa using this
  simpa using key l [] (by simpa using hl)
/-- The same angles, as the program has them. -/
def cpA (l : List S40) : List S36 := l.map fun x => ⟨x.f0, x.f1⟩
theorem cpA_length (l : List S40) : (cpA l).length = l.length := by simp [cpA]
theorem ev_toAngles (l : List S40) (hl : l.length ≤ 1048576) : Ev (fun k => laws_toAngleS.f k l) (cpA l) := by
  unfold laws_toAngleS.f
  simp only [Int.toNat_natCast]
  simp only [if_pos (show (0 : Int) ≤ (l.length : Int) by omega), if_pos (show l.length ≤ 8796093022208 by omega), if_pos (show l.length ≤ 17592186044416 by omega)]
  have key : ∀ (rest pre : List S40), (pre ++ rest).length ≤ 1048576 →
      Ev (fun k => laws_toAngleS.l0 k (pre ++ rest) (cpA pre ++ List.replicate rest.length z36) (pre.length : Int)) (cpA (pre ++ rest)) := by
    intro rest
    induction rest with
    | nil =>
      intro pre _
      exact Ev.step (f := fun _ => some (cpA (pre ++ []))) (fun k => by simp [laws_toAngleS.l0, cpA]) (Ev.now _)
    | cons x xs ih =>
      intro pre hp
      have hlen : (pre.length : Int) < ((pre ++ x :: xs).length : Int) := by simp <;> omega
      have hp2 : (pre.length : Int) ≤ 1048576 := by simp at hp; omega
      refine Ev.step (f := fun k => laws_toAngleS.l0 k ((pre ++ [x]) ++ xs) (cpA (pre ++ [x]) ++ List.replicate xs.length z36) ((pre ++ [x]).length : Int)) (fun k => ?_) ?_
      · have hl2 : (pre.length : Int) < ((cpA pre ++ List.replicate (x :: xs).length z36).length : Int) := by simp [cpA] <;> omega
        rw [laws_toAngleS.l0, if_pos hlen, if_pos (by omega), rdLA_at]
        simp only [laws_toAngle.f, Option.bind_some]
        rw [if_pos hl2, wrap_in (by omega) (by omega)]
        have e : (cpA pre ++ List.replicate (x :: xs).length z36).set pre.length ⟨x.f0, x.f1⟩ = cpA (pre ++ [x]) ++ List.replicate xs.length z36 := by
          have h := setA_at (cpA pre) (List.replicate xs.length z36) z36 (⟨x.f0, x.f1⟩ : S36)
          rw [cpA_length] at h
          rw [List.length_cons, List.replicate_succ, h]
          simp [cpA]
        rw [Int.toNat_natCast, e]
        simp
      · have := ih (pre ++ [x]) (by simpa using hp)
        simpa using this
  simpa [cpA] using key l [] (by simpa using hl)
theorem szA_frame {l : List S40} {g : Nat → Option Bool} (hm : l.length ≤ 9223372036854775807) (h : l.length ≤ 1048576 → Ev g true) :
    Ev (fun k => (laws_szAngleS.f l 1048576).bind fun t => if t < 0 then some true else g k) true := by
  unfold laws_szAngleS.f
  rw [wrap_in (by omega) (by omega)]
  by_cases hl : (1048576 : Int) - (l.length : Int) < 0
  · rw [if_pos hl]
    simp
    exact Ev.now _
  · rw [if_neg hl]
    simp only [Option.bind_some, if_neg hl]
    exact h (by omega)
end Go.Proofs.Ytjfdbjdilldfoaa.Q
end
section
/- Plain lists: putting in one by one without doubles is sorting and striking doubles. No program in sight. -/
namespace Go.Proofs.Ytjfdbjdilldfoaa.SortMath
set_option linter.unusedSectionVars false
variable {α : Type} [DecidableEq α]
/-- Puts one in, where it is not yet. -/
def insD (lt : α → α → Bool) (a : α) : List α → List α
  | [] => [a]
  | x :: xs => if lt x a = true then x :: insD lt a xs else if x = a then x :: xs else a :: x :: xs
/-- Strikes what equals its neighbour. -/
def compactL : List α → List α
  | [] => []
  | x :: xs => match compactL xs with
    | [] => [x]
    | y :: ys => if x = y then y :: ys else x :: y :: ys
theorem mem_insD (lt : α → α → Bool) (a z : α) : ∀ l, z ∈ insD lt a l ↔ z = a ∨ z ∈ l
  | [] => by simp [insD]
  | x :: xs => by
    unfold insD
    split
    · rw [List.mem_cons, mem_insD lt a z xs, List.mem_cons]
      constructor
      · rintro (h | h | h)
        · exact Or.inr (Or.inl h)
        · exact Or.inl h
        · exact Or.inr (Or.inr h)
      · rintro (h | h | h)
        · exact Or.inr (Or.inl h)
        · exact Or.inl h
        · exact Or.inr (Or.inr h)
    · split
      · rename_i h
        subst h
        simp
      · simp
structure Strict (lt : α → α → Bool) : Prop where
  irr : ∀ x, lt x x = false
  trans : ∀ x y z, lt x y = true → lt y z = true → lt x z = true
  total : ∀ x y, lt x y = false → lt y x = false → x = y
variable {lt : α → α → Bool}
theorem insD_strict (S : Strict lt) (a : α) : ∀ l, l.Pairwise (fun x y => lt x y = true) → (insD lt a l).Pairwise (fun x y => lt x y = true)
  | [], _ => by simp [insD]
  | x :: xs, h => by
    obtain ⟨h1, h2⟩ := List.pairwise_cons.1 h
    unfold insD
    split
    · rename_i hx
      refine List.pairwise_cons.2 ⟨fun z hz => ?_, insD_strict S a xs h2⟩
      rcases (mem_insD lt a z xs).1 hz with rfl | hz
      · exact hx
      · exact h1 z hz
    · rename_i hx
      split
      · exact h
      · rename_i hn
        have hax : lt a x = true := by
          cases ha : lt a x with
          | true => rfl
          | false => exact absurd (S.total x a (by simpa using hx) ha) hn
        refine List.pairwise_cons.2 ⟨fun z hz => ?_, h⟩
        rcases List.mem_cons.1 hz with rfl | hz
        · exact hax
        · exact S.trans _ _ _ hax (h1 z hz)
theorem fold_insD (S : Strict lt) : ∀ (l acc : List α), acc.Pairwise (fun x y => lt x y = true) →
    (l.foldl (fun o a => insD lt a o) acc).Pairwise (fun x y => lt x y = true) ∧ ∀ z, z ∈ l.foldl (fun o a => insD lt a o) acc ↔ z ∈ acc ∨ z ∈ l
  | [], acc, h => ⟨h, fun z => by simp⟩
  | a :: l, acc, h => by
    obtain ⟨h1, h2⟩ := fold_insD S l (insD lt a acc) (insD_strict S a acc h)
    refine ⟨h1, fun z => ?_⟩
    rw [List.foldl_cons, h2 z, mem_insD, List.mem_cons]
    constructor
    · rintro ((h | h) | h)
      · exact Or.inr (Or.inl h)
      · exact Or.inl h
      · exact Or.inr (Or.inr h)
    · rintro (h | h | h)
      · exact Or.inl (Or.inr h)
      · exact Or.inl (Or.inl h)
      · exact Or.inr h
theorem mem_compactL (z : α) : ∀ l : List α, z ∈ compactL l ↔ z ∈ l
  | [] => by simp [compactL]
  | x :: xs => by
    have ih := mem_compactL z xs
    unfold compactL
    rw [List.mem_cons, ← ih]
    split
    · rename_i h
      simp [h]
    · rename_i y ys h
      rw [h]
      split
      · rename_i hx
        subst hx
        simp
      · simp
theorem compactL_strict (S : Strict lt) : ∀ l : List α, l.Pairwise (fun x y => lt y x = false) → (compactL l).Pairwise (fun x y => lt x y = true)
  | [], _ => by simp [compactL]
  | x :: xs, h => by
    obtain ⟨h1, h2⟩ := List.pairwise_cons.1 h
    have ih := compactL_strict S xs h2
    have hm := fun z => mem_compactL z xs
    unfold compactL
    split
    · simp
    · rename_i y ys hc
      rw [hc] at ih hm
      split
      · exact ih
      · rename_i hn
        have hxy : lt x y = true := by
          cases ha : lt x y with
          | true => rfl
          | false => exact absurd (S.total x y ha (h1 y ((hm y).1 List.mem_cons_self))) hn
        refine List.pairwise_cons.2 ⟨fun z hz => ?_, ih⟩
        rcases List.mem_cons.1 hz with rfl | hz
        · exact hxy
        · exact S.trans _ _ _ hxy ((List.pairwise_cons.1 ih).1 z hz)
theorem strict_unique (S : Strict lt) : ∀ l1 l2 : List α, l1.Pairwise (fun x y => lt x y = true) → l2.Pairwise (fun x y => lt x y = true) → (∀ z, z ∈ l1 ↔ z ∈ l2) → l1 = l2
  | [], [], _, _, _ => rfl
  | [], y :: ys, _, _, h => by have := (h y).2 List.mem_cons_self; cases this
  | x :: xs, [], _, _, h => by have := (h x).1 List.mem_cons_self; cases this
  | x :: xs, y :: ys, h1, h2, h => by
    obtain ⟨p1, q1⟩ := List.pairwise_cons.1 h1
    obtain ⟨p2, q2⟩ := List.pairwise_cons.1 h2
    have hxy : x = y := by
      rcases List.mem_cons.1 ((h x).1 List.mem_cons_self) with e | hx
      · exact e
      · rcases List.mem_cons.1 ((h y).2 List.mem_cons_self) with e | hy
        · exact e.symm
        · have := S.trans _ _ _ (p2 x hx) (p1 y hy)
          rw [S.irr] at this
          cases this
    subst hxy
    refine congrArg (x :: ·) (strict_unique S xs ys q1 q2 fun z => ⟨fun hz => ?_, fun hz => ?_⟩)
    · rcases List.mem_cons.1 ((h z).1 (List.mem_cons_of_mem _ hz)) with rfl | h'
      · have := p1 z hz
        rw [S.irr] at this
        cases this
      · exact h'
    · rcases List.mem_cons.1 ((h z).2 (List.mem_cons_of_mem _ hz)) with rfl | h'
      · have := p2 z hz
        rw [S.irr] at this
        cases this
      · exact h'
/-- Both roads end at one list. -/
theorem sorted_both (S : Strict lt) (l : List α) : l.foldl (fun o a => insD lt a o) [] = compactL (l.mergeSort fun x y => !(lt y x)) := by
  obtain ⟨h1, h2⟩ := fold_insD S l [] List.Pairwise.nil
  have hs : (l.mergeSort fun x y => !(lt y x)).Pairwise (fun x y => lt y x = false) := by
    have := List.pairwise_mergeSort (le := fun x y => !(lt y x)) (fun a b c hab hbc => by
      simp only [Bool.not_eq_true'] at hab hbc ⊢
      cases hca : lt c a with
      | false => rfl
      | true =>
        exfalso
        by_cases hcb : lt c b = true
        · rw [hcb] at hbc; cases hbc
        · have e : b = c := S.total b c (by
            cases hb : lt b c with
            | false => rfl
            | true =>
              have := S.trans _ _ _ hb hca
              rw [hab] at this
              cases this) (by simpa using hcb)
          subst e
          rw [hab] at hca
          cases hca) (fun a b => by
      cases hba : lt b a with
      | false => simp
      | true =>
        cases hab : lt a b with
        | false => simp
        | true =>
          have := S.trans _ _ _ hba hab
          rw [S.irr] at this
          cases this) l
    exact this.imp (fun h => by simpa using h)
  refine strict_unique S _ _ h1 (compactL_strict S _ hs) fun z => ?_
  rw [h2, mem_compactL, List.mem_mergeSort]
  simp
end Go.Proofs.Ytjfdbjdilldfoaa.SortMath
end
section
/- Comparing angles, cyclic orders and arcs: the printed functions' plain values. -/
namespace Go.Proofs.Ytjfdbjdilldfoaa.Q
open Go.RowKit Go.Proofs.YtjfdbjdilldfoaaW.PrintWords Go.Proofs.YtjfdbjdilldfoaaW.PrintLast Go.Proofs.YtjfdbjdilldfoaaW.Ext Go.Proofs.Ytjfdbjdilldfoaa.Ang
set_option linter.unusedVariables false

/-- What is small enough for products: Nums and Dens below 2^31. -/
def small (n d : Int) : Prop := 0 ≤ n ∧ n ≤ 2147483648 ∧ 1 ≤ d ∧ d ≤ 2147483648
theorem isA_small {n d : Int} (h : isA n d = true) : small n d := by
  obtain ⟨a, b, c, e, _⟩ := isA_iff.1 h
  exact ⟨by omega, by omega, by omega, by omega⟩
theorem mul_in {x y : Int} (h0 : 0 ≤ x) (h1 : x ≤ 2147483648) (h2 : 0 ≤ y) (h3 : y ≤ 2147483648) : 0 ≤ x * y ∧ x * y ≤ 4611686018427387904 := by
  have a : 0 ≤ x * y := Int.mul_nonneg h0 h2
  have b : x * y ≤ 2147483648 * y := Int.mul_le_mul_of_nonneg_right h1 h2
  omega
theorem less_val {a b c d : Int} (h : small a b) (k : small c d) : spec_l01Less.f a b c d = some (decide (lt (a, b) (c, d))) := by
  obtain ⟨h1, h2, h3, h4⟩ := h
  obtain ⟨k1, k2, k3, k4⟩ := k
  have p := mul_in h1 h2 (show 0 ≤ d by omega) k4
  have q := mul_in k1 k2 (show 0 ≤ b by omega) h4
  unfold spec_l01Less.f lt
  rw [wrap_in (by omega) (by omega), wrap_in (by omega) (by omega)]
/-- -1, 0 or 1. -/
def cmpA (a b : Int × Int) : Int := if lt a b then -1 else if lt b a then 1 else 0
theorem compare_val {a b c d : Int} (h : small a b) (k : small c d) : impl_Angle_compare.f a b c d = some (cmpA (a, b) (c, d)) := by
  obtain ⟨h1, h2, h3, h4⟩ := h
  obtain ⟨k1, k2, k3, k4⟩ := k
  have p := mul_in h1 h2 (show 0 ≤ d by omega) k4
  have q := mul_in k1 k2 (show 0 ≤ b by omega) h4
  unfold impl_Angle_compare.f cmp_Compare_int64.f cmp_isNaN_int64.f cmpA lt
  rw [wrap_in (by omega) (by omega), wrap_in (by omega) (by omega)]
  simp
  by_cases e1 : a * d < c * b
  · simp [e1]
  · by_cases e2 : c * b < a * d
    · simp [e1, e2]
    · simp [e1, e2]
theorem cmpA_neg {a b : Int × Int} : cmpA a b < 0 ↔ lt a b := by
  unfold cmpA
  by_cases h : lt a b
  · simp [h]
  · by_cases k : lt b a <;> simp [h, k]
theorem cmpA_pos {a b : Int × Int} : cmpA a b > 0 ↔ lt b a := by
  unfold cmpA
  by_cases h : lt a b
  · have := lt_asymm h
    simp [h, this]
  · by_cases k : lt b a <;> simp [h, k]
theorem eq_pair {a b c d : Int} : (a == c && (b == d)) = decide ((a, b) = (c, d)) := by
  rw [Bool.eq_iff_iff]; simp
end Go.Proofs.Ytjfdbjdilldfoaa.Q
end
section
/- Leaves of two angles: the printed functions' plain values. -/
namespace Go.Proofs.Ytjfdbjdilldfoaa.Q
open Go.RowKit Go.Proofs.YtjfdbjdilldfoaaW.PrintWords Go.Proofs.YtjfdbjdilldfoaaW.PrintLast Go.Proofs.YtjfdbjdilldfoaaW.Ext Go.Proofs.Ytjfdbjdilldfoaa.Ang
set_option linter.unusedVariables false

/-- The leaf that joins two angles. -/
def leafV (a b : Int × Int) : Int × Int × Int × Int := if lt b a then (b.1, b.2, a.1, a.2) else (a.1, a.2, b.1, b.2)
theorem spec_leaf_val {a b c d : Int} (h : small a b) (k : small c d) : spec_l03Of.f a b c d = some (leafV (a, b) (c, d)) := by
  unfold spec_l03Of.f leafV
  rw [less_val k h]
  by_cases z : lt (c, d) (a, b) <;> simp [z]
theorem impl_leaf_val {a b c d : Int} (h : small a b) (k : small c d) : impl_leaf.f a b c d = some (leafV (a, b) (c, d)) := by
  unfold impl_leaf.f leafV
  rw [compare_val h k]
  simp only [Option.bind_some, cmpA_pos]
  by_cases z : lt (c, d) (a, b) <;> simp [z]
end Go.Proofs.Ytjfdbjdilldfoaa.Q
end
section
/- Whether a list of angles ascends: both sides' plain value. -/
namespace Go.Proofs.Ytjfdbjdilldfoaa.Q
open Go.RowKit Go.Proofs.YtjfdbjdilldfoaaW.PrintWords Go.Proofs.YtjfdbjdilldfoaaW.PrintLast Go.Proofs.YtjfdbjdilldfoaaW.Ext Go.Proofs.Ytjfdbjdilldfoaa.Ang
set_option linter.unusedVariables false
set_option linter.unusedSimpArgs false

abbrev SA := S36
/-- The angle at a place of a list. -/
def X (l : List SA) (j : Nat) : Int × Int := ((rd_T36 l (j : Int)).f0, (rd_T36 l (j : Int)).f1)
/-- Does a list ascend from place i on. -/
def ascV (l : List SA) : Nat → Nat → Bool
  | 0, _ => true
  | d + 1, i => if lt (X l (i - 1)) (X l i) then ascV l d (i + 1) else false
instance (a b : Int × Int) : Decidable (lt a b) := by unfold lt; infer_instance
theorem ascV_lt (l : List SA) : ∀ d i, ascV l d i = true → ∀ j, i ≤ j → j < i + d → lt (X l (j - 1)) (X l j) := by
  intro d
  induction d with
  | zero => intro i _ j h1 h2; omega
  | succ d ih =>
    intro i h j h1 h2
    unfold ascV at h
    split at h
    · rename_i hlt
      by_cases z : j = i
      · subst z; exact hlt
      · exact ih (i + 1) h j (by omega) (by omega)
    · cases h
/-- All of a list are angles. -/
theorem allA_X {l : List SA} (h : allA l = true) {j : Nat} (hj : j < l.length) : isA (X l j).1 (X l j).2 = true := by
  have := List.all_eq_true.1 h l[j] (List.getElem_mem hj)
  simpa [X, rd_T36, hj] using this
theorem ev_impl_asc (l : List SA) (hl : l.length ≤ 1000) (h : allA l = true) : Ev (fun k => impl_areAscending.f k l) (ascV l (l.length - 1) 1) := by
  unfold impl_areAscending.f
  have key : ∀ d i, i + d = l.length → 1 ≤ i → Ev (fun k => impl_areAscending.l0 k l (i : Int)) (ascV l d i) := by
    intro d
    induction d with
    | zero =>
      intro i h1 _
      exact Ev.step (f := fun _ => some true) (fun k => by rw [impl_areAscending.l0, if_neg (by omega)]) (Ev.now _)
    | succ d ih =>
      intro i h1 h2
      have a1 := isA_small (allA_X h (j := i - 1) (by omega))
      have a2 := isA_small (allA_X h (j := i) (by omega))
      unfold ascV
      refine Ev.step (f := fun k => if lt (X l (i - 1)) (X l i) then impl_areAscending.l0 k l ((i + 1 : Nat) : Int) else some false) (fun k => ?_) ?_
      · rw [impl_areAscending.l0, if_pos (by omega), wrap_in (x := (i : Int) - 1) (by omega) (by omega), if_pos (by omega), if_pos (by omega), if_pos (by omega), show (i : Int) - 1 = ((i - 1 : Nat) : Int) by omega]
        have e : impl_Angle_compare.f (rd_T36 l ((i - 1 : Nat) : Int)).f0 (rd_T36 l ((i - 1 : Nat) : Int)).f1 (rd_T36 l (i : Int)).f0 (rd_T36 l (i : Int)).f1 = some (cmpA (X l (i - 1)) (X l i)) := compare_val a1 a2
        rw [e, Option.bind_some, wrap_in (x := (i : Int) + 1) (by omega) (by omega), show (i : Int) + 1 = ((i + 1 : Nat) : Int) by omega]
        have c := @cmpA_neg (X l (i - 1)) (X l i)
        by_cases z : lt (X l (i - 1)) (X l i)
        · have := c.2 z
          rw [if_neg (by omega), if_pos z]
        · have : ¬ cmpA (X l (i - 1)) (X l i) < 0 := fun q => z (c.1 q)
          rw [if_pos (by omega), if_neg z]
      · by_cases z : lt (X l (i - 1)) (X l i)
        · simp only [if_pos z]; exact ih (i + 1) (by omega) (by omega)
        · simp only [if_neg z]; exact Ev.now _
  by_cases h0 : l.length = 0
  · rw [h0]
    exact Ev.step (f := fun _ => some true) (fun k => by rw [impl_areAscending.l0, if_neg (by omega)]) (Ev.now _)
  · exact key (l.length - 1) 1 (by omega) (by omega)
theorem ev_spec_asc (l : List SA) (hl : l.length ≤ 1000) (h : allA l = true) : Ev (fun k => spec_l03Ascending.f k l) (ascV l (l.length - 1) 1) := by
  unfold spec_l03Ascending.f
  have key : ∀ d i, i + d = l.length → 1 ≤ i → Ev (fun k => spec_l03Ascending.l0 k l (i : Int)) (ascV l d i) := by
    intro d
    induction d with
    | zero =>
      intro i h1 _
      exact Ev.step (f := fun _ => some true) (fun k => by rw [spec_l03Ascending.l0, if_neg (by omega)]) (Ev.now _)
    | succ d ih =>
      intro i h1 h2
      have a1 := isA_small (allA_X h (j := i - 1) (by omega))
      have a2 := isA_small (allA_X h (j := i) (by omega))
      unfold ascV
      refine Ev.step (f := fun k => if lt (X l (i - 1)) (X l i) then spec_l03Ascending.l0 k l ((i + 1 : Nat) : Int) else some false) (fun k => ?_) ?_
      · rw [spec_l03Ascending.l0, if_pos (by omega), wrap_in (x := (i : Int) - 1) (by omega) (by omega), if_pos (by omega), if_pos (by omega), if_pos (by omega), show (i : Int) - 1 = ((i - 1 : Nat) : Int) by omega]
        have e := less_val a1 a2
        unfold X at e
        rw [e, Option.bind_some, wrap_in (x := (i : Int) + 1) (by omega) (by omega), show (i : Int) + 1 = ((i + 1 : Nat) : Int) by omega]
        simp only [decide_eq_true_eq]
        rfl
      · by_cases z : lt (X l (i - 1)) (X l i)
        · simp only [if_pos z]; exact ih (i + 1) (by omega) (by omega)
        · simp only [if_neg z]; exact Ev.now _
  by_cases h0 : l.length = 0
  · rw [h0]
    exact Ev.step (f := fun _ => some true) (fun k => by rw [spec_l03Ascending.l0, if_neg (by omega)]) (Ev.now _)
  · exact key (l.length - 1) 1 (by omega) (by omega)
end Go.Proofs.Ytjfdbjdilldfoaa.Q
end
section
/- HYPS: no list is longer than Go's longest. The pure statement of FnExactPolygonOf: both tell the same polygon, or give the same error. -/
namespace Go.Proofs.Ytjfdbjdilldfoaa.Q
open Go.RowKit Go.Proofs.YtjfdbjdilldfoaaW.PrintWords Go.Proofs.YtjfdbjdilldfoaaW.PrintLast Go.Proofs.YtjfdbjdilldfoaaW.Ext Go.Proofs.Ytjfdbjdilldfoaa.Ang Go.Proofs.Ytjfdbjdilldfoaa.SortMath
set_option linter.unusedVariables false
set_option linter.unusedSimpArgs false

abbrev SL := S46
def pA (x : SA) : Int × Int := (x.f0, x.f1)
def okL (x : SL) : Prop := isA x.f0.f0 x.f0.f1 = true ∧ isA x.f1.f0 x.f1.f1 = true
/-- The leaves of two angles. -/
abbrev LF := { x : SL // okL x }
def uL (l : List LF) : List SL := l.map (·.1)
theorem uL_length (l : List LF) : (uL l).length = l.length := by simp [uL]
theorem uL_append (a b : List LF) : uL (a ++ b) = uL a ++ uL b := by simp [uL]
def ltL (x y : LF) : Bool := if pA x.1.f0 = pA y.1.f0 then decide (lt (pA x.1.f1) (pA y.1.f1)) else decide (lt (pA x.1.f0) (pA y.1.f0))
instance : DecidableEq LF := fun a b => decidable_of_iff (pA a.1.f0 = pA b.1.f0 ∧ pA a.1.f1 = pA b.1.f1) (by
  constructor
  · rintro ⟨h1, h2⟩
    have e1 := congrArg Prod.fst h1
    have e2 := congrArg Prod.snd h1
    have e3 := congrArg Prod.fst h2
    have e4 := congrArg Prod.snd h2
    obtain ⟨⟨⟨a0, a1⟩, ⟨a2, a3⟩⟩, ha⟩ := a
    obtain ⟨⟨⟨b0, b1⟩, ⟨b2, b3⟩⟩, hb⟩ := b
    simp only [pA] at e1 e2 e3 e4
    subst e1 e2 e3 e4
    rfl
  · rintro rfl
    exact ⟨rfl, rfl⟩)
theorem wideA {x : SA} (h : isA x.f0 x.f1 = true) : wide (pA x).1 (pA x).2 := isA_wide h
theorem eqL {a b : LF} (h1 : pA a.1.f0 = pA b.1.f0) (h2 : pA a.1.f1 = pA b.1.f1) : a = b := by
  have e1 := congrArg Prod.fst h1
  have e2 := congrArg Prod.snd h1
  have e3 := congrArg Prod.fst h2
  have e4 := congrArg Prod.snd h2
  obtain ⟨⟨⟨a0, a1⟩, ⟨a2, a3⟩⟩, ha⟩ := a
  obtain ⟨⟨⟨b0, b1⟩, ⟨b2, b3⟩⟩, hb⟩ := b
  simp only [pA] at e1 e2 e3 e4
  subst e1 e2 e3 e4
  rfl
theorem ltL_iff (x y : LF) : ltL x y = true ↔ lt (pA x.1.f0) (pA y.1.f0) ∨ (pA x.1.f0 = pA y.1.f0 ∧ lt (pA x.1.f1) (pA y.1.f1)) := by
  unfold ltL
  by_cases h : pA x.1.f0 = pA y.1.f0
  · rw [if_pos h]
    simp only [decide_eq_true_eq]
    constructor
    · exact fun hl => .inr ⟨h, hl⟩
    · rintro (hl | ⟨_, hl⟩)
      · rw [h] at hl; exact absurd hl (lt_irrefl _)
      · exact hl
  · rw [if_neg h]
    simp only [decide_eq_true_eq]
    constructor
    · exact fun hl => .inl hl
    · rintro (hl | ⟨he, _⟩)
      · exact hl
      · exact absurd he h
theorem strictL : Strict ltL where
  irr x := by
    cases h : ltL x x with
    | false => rfl
    | true =>
      rcases (ltL_iff x x).1 h with h | ⟨_, h⟩
      · exact absurd h (lt_irrefl _)
      · exact absurd h (lt_irrefl _)
  trans x y z h1 h2 := by
    have px := wideA x.2.1
    have py := wideA y.2.1
    have pz := wideA z.2.1
    have qx := wideA x.2.2
    have qy := wideA y.2.2
    have qz := wideA z.2.2
    have tr : ∀ {a b c : Int × Int}, wide a.1 a.2 → wide b.1 b.2 → wide c.1 c.2 → lt a b → lt b c → lt a c := fun ha hb hc => lt_trans (by have := ha.1; omega) (by have := hb.1; omega) (by have := hc.1; omega)
    rw [ltL_iff] at *
    rcases h1 with h1 | ⟨e1, h1⟩ <;> rcases h2 with h2 | ⟨e2, h2⟩
    · exact .inl (tr px py pz h1 h2)
    · exact .inl (by rw [← e2]; exact h1)
    · exact .inl (by rw [e1]; exact h2)
    · exact .inr ⟨e1.trans e2, tr qx qy qz h1 h2⟩
  total x y h1 h2 := by
    have n1 : ¬ ltL x y = true := by rw [h1]; decide
    have n2 : ¬ ltL y x = true := by rw [h2]; decide
    rw [ltL_iff] at n1 n2
    by_cases e : pA x.1.f0 = pA y.1.f0
    · by_cases e2 : pA x.1.f1 = pA y.1.f1
      · exact eqL e e2
      · rcases lt_or (wideA x.2.2) (wideA y.2.2) e2 with h | h
        · exact absurd (.inr ⟨e, h⟩) n1
        · exact absurd (.inr ⟨e.symm, h⟩) n2
    · rcases lt_or (wideA x.2.1) (wideA y.2.1) e with h | h
      · exact absurd (.inl h) n1
      · exact absurd (.inl h) n2
theorem angV_cmp {x y : SA} (hx : isA x.f0 x.f1 = true) (hy : isA y.f0 y.f1 = true) : angV x.f0 x.f1 y.f0 y.f1 = cmpA (pA x) (pA y) := by
  have h1 := angV_f x.f0 x.f1 y.f0 y.f1
  rw [compare_val (isA_small hx) (isA_small hy)] at h1
  exact (Option.some.inj h1).symm
theorem cmpA_zero {x y : SA} (hx : isA x.f0 x.f1 = true) (hy : isA y.f0 y.f1 = true) : cmpA (pA x) (pA y) = 0 ↔ pA x = pA y := by
  constructor
  · intro h
    by_cases e : pA x = pA y
    · exact e
    · rcases lt_or (wideA hx) (wideA hy) e with h1 | h1
      · have := cmpA_neg.2 h1; omega
      · have := cmpA_pos.2 h1; omega
  · intro h
    unfold cmpA
    rw [h, if_neg (lt_irrefl _), if_neg (lt_irrefl _)]
theorem cmpV_neg (x t : LF) : cmpV x.1 t.1 < 0 ↔ ltL x t = true := by
  unfold cmpV ltL
  rw [angV_cmp x.2.1 t.2.1, angV_cmp x.2.2 t.2.2]
  by_cases e : pA x.1.f0 = pA t.1.f0
  · rw [if_pos ((cmpA_zero x.2.1 t.2.1).2 e), if_pos e, cmpA_neg]
    simp
  · rw [if_neg (fun h => e ((cmpA_zero x.2.1 t.2.1).1 h)), if_neg e, cmpA_neg]
    simp
theorem cmpV_zero (x t : LF) : cmpV x.1 t.1 = 0 ↔ x = t := by
  unfold cmpV
  rw [angV_cmp x.2.1 t.2.1, angV_cmp x.2.2 t.2.2]
  constructor
  · intro h
    split at h
    · rename_i h1
      exact eqL ((cmpA_zero x.2.1 t.2.1).1 h1) ((cmpA_zero x.2.2 t.2.2).1 h)
    · rename_i h1
      exact absurd h h1
  · rintro rfl
    rw [if_pos ((cmpA_zero x.2.1 x.2.1).2 rfl)]
    exact (cmpA_zero x.2.2 x.2.2).2 rfl
theorem insP_val (t : LF) : ∀ l : List LF, insP t.1 (uL l) = uL (insD ltL t l)
  | [] => rfl
  | x :: xs => by
    have ih := insP_val t xs
    show insP t.1 (x.1 :: uL xs) = _
    unfold insP insD
    by_cases h1 : ltL x t = true
    · rw [if_pos ((cmpV_neg x t).2 h1), if_pos h1, ih]; rfl
    · rw [if_neg (fun h => h1 ((cmpV_neg x t).1 h)), if_neg h1]
      by_cases h2 : x = t
      · rw [if_pos ((cmpV_zero x t).2 h2), if_pos h2]; rfl
      · rw [if_neg (fun h => h2 ((cmpV_zero x t).1 h)), if_neg h2]; rfl
theorem mono_val (t : LF) (l : List LF) (h : l.Pairwise fun x y => ltL x y = true) : monoP (uL l) t.1 := by
  unfold monoP uL
  rw [List.pairwise_map]
  refine h.imp fun {x y} hxy hlt => ?_
  rw [cmpV_neg] at hlt ⊢
  exact strictL.trans _ _ _ hxy hlt
theorem put_val (t : LF) (l : List LF) (h : l.Pairwise fun x y => ltL x y = true) (hl : l.length ≤ 1048575) : impl_put.f (uL l) t.1.f0.f0 t.1.f0.f1 t.1.f1.f0 t.1.f1.f1 = some (uL (insD ltL t l)) := by
  unfold impl_put.f
  rw [if_pos ⟨by rw [uL_length]; exact hl, mono_val t l h⟩]
  exact congrArg some (insP_val t l)
theorem lessL (x y : LF) : spec_l03Less.f x.1.f0.f0 x.1.f0.f1 x.1.f1.f0 x.1.f1.f1 y.1.f0.f0 y.1.f0.f1 y.1.f1.f0 y.1.f1.f1 = some (ltL x y) := by
  unfold spec_l03Less.f ltL
  rw [less_val (isA_small x.2.1) (isA_small y.2.1), less_val (isA_small x.2.2) (isA_small y.2.2)]
  have e : (!(x.1.f0.f0 == y.1.f0.f0) || (!(x.1.f0.f1 == y.1.f0.f1))) = !decide (pA x.1.f0 = pA y.1.f0) := by
    rw [Bool.eq_iff_iff]
    simp [pA, Prod.ext_iff]
    try (by_cases h : x.1.f0.f0 = y.1.f0.f0 <;> simp [h])
  rw [e]
  by_cases h : pA x.1.f0 = pA y.1.f0
  · simp [h]; rfl
  · simp [h]; rfl
theorem rdL (pre : List LF) (x : LF) (rest : List LF) : rd_T46 (uL (pre ++ x :: rest)) (pre.length : Int) = x.1 := by simp [rd_T46, uL]
theorem putL (pre rest : List LF) : (uL (pre ++ rest)).drop ((pre.length : Int)).toNat = uL rest ∧ (uL (pre ++ rest)).take ((pre.length : Int)).toNat = uL pre := by
  rw [uL_append, Int.toNat_natCast]
  constructor
  · rw [List.drop_append_of_le_length (by rw [uL_length]; omega), List.drop_of_length_le (by rw [uL_length]; omega), List.nil_append]
  · rw [List.take_append_of_le_length (by rw [uL_length]; omega), List.take_of_length_le (by rw [uL_length]; omega)]
theorem ev_insL (a : LF) : ∀ (rest pre : List LF), (pre ++ rest).length ≤ 1048576 → Ev (fun k => spec_l03Insert.l0 k (uL (pre ++ rest)) (pre.length : Int) a.1.f0.f0 a.1.f0.f1 a.1.f1.f0 a.1.f1.f1) (uL (pre ++ insD ltL a rest))
  | [], pre, h => by
    obtain ⟨e1, e2⟩ := putL pre []
    refine Ev.step (f := fun _ => some (uL (pre ++ insD ltL a []))) (fun k => ?_) (Ev.now _)
    have hl : (uL (pre ++ [])).length = pre.length := by rw [uL_length]; simp
    have hp : pre.length ≤ 1048576 := by simpa using h
    rw [spec_l03Insert.l0, if_neg (by omega)]
    simp only [Option.bind_some, e1, e2]
    rw [if_pos (by omega), if_pos (by omega)]
    simp [uL, insD]
    all_goals omega
  | x :: rest, pre, h => by
    obtain ⟨e1, e2⟩ := putL pre (x :: rest)
    have hl : (uL (pre ++ x :: rest)).length = pre.length + (rest.length + 1) := by rw [uL_length]; simp
    have hp : pre.length + (rest.length + 1) ≤ 1048576 := by simpa using h
    have ih := ev_insL a rest (pre ++ [x]) (by simpa using h)
    refine Ev.step (f := fun k => if ltL x a = true then spec_l03Insert.l0 k (uL (pre ++ x :: rest)) ((pre.length : Int) + 1) a.1.f0.f0 a.1.f0.f1 a.1.f1.f0 a.1.f1.f1 else if x = a then some (uL (pre ++ x :: rest)) else some (uL (pre ++ a :: x :: rest))) (fun k => ?_) ?_
    · rw [spec_l03Insert.l0, if_pos (by omega), if_pos (by omega), rdL, lessL, Option.bind_some]
      split
      · rw [wrap_in (by omega) (by omega)]
      · have e : ((x.1.f0.f0 == a.1.f0.f0 && (x.1.f0.f1 == a.1.f0.f1)) && ((x.1.f1.f0 == a.1.f1.f0) && (x.1.f1.f1 == a.1.f1.f1))) = decide (x = a) := by
          rw [Bool.eq_iff_iff]
          simp only [Bool.and_eq_true, beq_iff_eq, decide_eq_true_eq]
          exact ⟨fun h => eqL (Prod.ext h.1.1 h.1.2) (Prod.ext h.2.1 h.2.2), fun h => by rw [h]; exact ⟨⟨rfl, rfl⟩, rfl, rfl⟩⟩
        rw [e]
        simp only [decide_eq_true_eq]
        split
        · rfl
        · simp only [Option.bind_some, e1, e2]
          rw [if_pos (by omega)]
          simp [uL]
          all_goals omega
    · unfold insD
      by_cases h1 : ltL x a = true
      · simp only [if_pos h1]
        simpa using ih
      · simp only [if_neg h1]
        by_cases h2 : x = a
        · simp only [if_pos h2]; exact Ev.now _
        · simp only [if_neg h2]; exact Ev.now _
theorem insD_len (a : LF) : ∀ l : List LF, (insD ltL a l).length ≤ l.length + 1
  | [] => by simp [insD]
  | x :: xs => by
    have := insD_len a xs
    unfold insD
    split
    · simpa using this
    · split <;> simp
def leafLF (p q : SA) (hp : isA p.f0 p.f1 = true) (hq : isA q.f0 q.f1 = true) : LF := if lt (pA q) (pA p) then ⟨⟨q, p⟩, hq, hp⟩ else ⟨⟨p, q⟩, hp, hq⟩
theorem leafV_LF (p q : SA) (hp : isA p.f0 p.f1 = true) (hq : isA q.f0 q.f1 = true) : leafV (p.f0, p.f1) (q.f0, q.f1) = ((leafLF p q hp hq).1.f0.f0, (leafLF p q hp hq).1.f0.f1, (leafLF p q hp hq).1.f1.f0, (leafLF p q hp hq).1.f1.f1) := by
  unfold leafV leafLF
  by_cases h : lt (q.f0, q.f1) (p.f0, p.f1)
  · rw [if_pos h, if_pos (show lt (pA q) (pA p) from h)]
  · rw [if_neg h, if_neg (show ¬ lt (pA q) (pA p) from h)]
theorem both_loop (L : List SA) (h : allA L = true) (h2 : 2 ≤ L.length) (hl : L.length ≤ 200) : ∀ d (j : Nat) (acc : List LF), j + d = L.length → acc.Pairwise (fun x y => ltL x y = true) → acc.length ≤ j →
    ∃ r : List SL, r.length ≤ 200 ∧ Ev (fun k => spec_l03Polygon.l0 k L (uL acc) (j : Int)) r ∧ Ev (fun k => impl_polygon.l0 k L (uL acc) L (L.length : Int) (j : Int)) r := by
  intro d
  induction d with
  | zero =>
    intro j acc hj _ ha
    refine ⟨uL acc, by rw [uL_length]; omega, ?_, ?_⟩
    · exact Ev.step (f := fun _ => some (uL acc)) (fun k => by rw [spec_l03Polygon.l0, if_neg (by omega)]) (Ev.now _)
    · exact Ev.step (f := fun _ => some (uL acc)) (fun k => by rw [impl_polygon.l0, if_neg (by omega)]) (Ev.now _)
  | succ d ih =>
    intro j acc hj hacc ha
    have hjl : j < L.length := by omega
    have hm : (j + 1) % L.length < L.length := Nat.mod_lt _ (by omega)
    have ht : Int.tmod (wrap64 ((j : Int) + 1)) (L.length : Int) = (((j + 1) % L.length : Nat) : Int) := by
      rw [wrap_in (by omega) (by omega), show (j : Int) + 1 = ((j + 1 : Nat) : Int) by omega]
      exact (Int.ofNat_tmod _ _).symm
    have hp : isA (rd_T36 L (j : Int)).f0 (rd_T36 L (j : Int)).f1 = true := allA_X h hjl
    have hq : isA (rd_T36 L (((j + 1) % L.length : Nat) : Int)).f0 (rd_T36 L (((j + 1) % L.length : Nat) : Int)).f1 = true := allA_X h hm
    generalize hP : rd_T36 L (j : Int) = p at hp
    generalize hQ : rd_T36 L (((j + 1) % L.length : Nat) : Int) = q at hq
    have hs := insD_strict strictL (leafLF p q hp hq) acc hacc
    have hn := insD_len (leafLF p q hp hq) acc
    obtain ⟨r, r0, r1, r2⟩ := ih (j + 1) (insD ltL (leafLF p q hp hq) acc) (by omega) hs (by omega)
    refine ⟨r, r0, ?_, ?_⟩
    · refine Ev.step (f := fun k => (spec_l03Insert.f k (uL acc) (leafLF p q hp hq).1.f0.f0 (leafLF p q hp hq).1.f0.f1 (leafLF p q hp hq).1.f1.f0 (leafLF p q hp hq).1.f1.f1).bind fun t => spec_l03Polygon.l0 k L t ((j + 1 : Nat) : Int)) (fun k => ?_) ?_
      · rw [spec_l03Polygon.l0, if_pos (by omega), if_pos (by omega), if_neg (by omega), ht, if_pos (by omega), if_pos (by omega), hP, hQ, spec_leaf_val (isA_small hp) (isA_small hq), leafV_LF p q hp hq, wrap_in (by omega) (by omega)]
        rfl
      · refine Ev.bind (a := uL (insD ltL (leafLF p q hp hq) acc)) ?_ r1
        unfold spec_l03Insert.f
        exact ev_insL (leafLF p q hp hq) acc [] (by simp; omega)
    · refine Ev.step (f := fun k => impl_polygon.l0 k L (uL (insD ltL (leafLF p q hp hq) acc)) L (L.length : Int) ((j + 1 : Nat) : Int)) (fun k => ?_) r2
      rw [impl_polygon.l0, if_pos (by omega), if_pos (by omega), if_pos (by omega), if_neg (by omega), ht, if_pos (by omega), if_pos (by omega), hP, hQ, impl_leaf_val (isA_small hp) (isA_small hq), leafV_LF p q hp hq, wrap_in (by omega) (by omega)]
      have hv := put_val (leafLF p q hp hq) acc hacc (by omega)
      simp only [Option.bind_some]
      rw [hv]
      rfl
theorem spec_codes (L : List SA) (hl : L.length ≤ 1048576) {r : List SL × Int} (hr : allA L = true → Ev (fun k => if (L.length : Int) < 2 then some (([] : List SL), (2 : Int)) else if (L.length : Int) > 200 then some ([], 2) else (spec_l03Ascending.f k L).bind fun t => if t = true then (spec_l03Polygon.f k L).bind fun u => some (u, 0) else some ([], 2)) r) (he : allA L = false → r = ([], 1)) : Ev (fun k => spec_PolygonOf.f k L) r := by
  unfold spec_PolygonOf.f
  have key : ∀ (rest pre : List SA), pre ++ rest = L → (allA rest = true → Ev (fun k => if (L.length : Int) < 2 then some (([] : List SL), (2 : Int)) else if (L.length : Int) > 200 then some ([], 2) else (spec_l03Ascending.f k L).bind fun t => if t = true then (spec_l03Polygon.f k L).bind fun u => some (u, 0) else some ([], 2)) r) → (allA rest = false → r = ([], 1)) → Ev (fun k => spec_PolygonOf.l0 k L (pre.length : Int)) r := by
    intro rest
    induction rest with
    | nil =>
      intro pre hL h1 h2
      refine Ev.step (fun k => ?_) (h1 rfl)
      rw [spec_PolygonOf.l0, if_neg (by rw [← hL]; simp)]
    | cons x rest ih =>
      intro pre hL h1 h2
      have hlen : pre.length < L.length := by rw [← hL]; simp
      have hrd : rd_T36 L (pre.length : Int) = x := by rw [← hL]; exact rd_at pre rest x
      refine Ev.step (f := fun k => (spec_l01Is.f k x.f0 x.f1).bind fun t => if t = true then spec_PolygonOf.l0 k L ((pre ++ [x]).length : Int) else some ([], 1)) (fun k => ?_) ?_
      · rw [spec_PolygonOf.l0, if_pos (by omega), if_pos (by omega), hrd, wrap_in (by omega) (by omega)]
        simp
      · refine Ev.bind (ev_spec_Is _ _) ?_
        cases hx : isA x.f0 x.f1 with
        | false =>
          rw [h2 (by unfold allA; rw [List.all_cons, hx]; rfl)]
          exact Ev.now _
        | true =>
          simp only [if_true]
          have e : allA (x :: rest) = allA rest := by unfold allA; rw [List.all_cons, hx, Bool.true_and]
          exact ih (pre ++ [x]) (by rw [← hL]; simp) (fun hh => h1 (by rw [e]; exact hh)) (fun hh => h2 (by rw [e]; exact hh))
  exact key L [] rfl hr he
theorem within_val (n : Int) : impl_within.f n 2 200 = some (decide (2 ≤ n ∧ n ≤ 200)) := by
  unfold impl_within.f
  by_cases z : (2 : Int) ≤ n <;> simp [z]
/-- What both give. -/
theorem both_poly (L : List SA) (hl : L.length ≤ 1048576) : ∃ r : List SL × Int, r.1.length ≤ 1048576 ∧ Ev (fun k => spec_PolygonOf.f k L) r ∧ Ev (fun k => impl_PolygonOf.f k L) r := by
  have hcode := ev_anglesCode L
  cases hA : allA L with
  | false =>
    refine ⟨([], 1), by simp, spec_codes L hl (fun h => by rw [hA] at h; cases h) (fun _ => rfl), ?_⟩
    unfold impl_PolygonOf.f
    refine Ev.bind hcode ?_
    rw [hA]
    simp
    exact Ev.now _
  | true =>
    have fin : ∀ r : List SL × Int, r.1.length ≤ 1048576 → Ev (fun k => if (L.length : Int) < 2 then some (([] : List SL), (2 : Int)) else if (L.length : Int) > 200 then some ([], 2) else (spec_l03Ascending.f k L).bind fun t => if t = true then (spec_l03Polygon.f k L).bind fun u => some (u, 0) else some ([], 2)) r →
        Ev (fun k => (impl_within.f (L.length : Int) 2 200).bind fun t => if t = true then (impl_areAscending.f k L).bind fun t => if t = true then (impl_polygon.f k L).bind fun u => some (u, 0) else some ([], 2) else some ([], 2)) r → ∃ r : List SL × Int, r.1.length ≤ 1048576 ∧ Ev (fun k => spec_PolygonOf.f k L) r ∧ Ev (fun k => impl_PolygonOf.f k L) r := fun r r0 a b => by
      refine ⟨r, r0, spec_codes L hl (fun _ => a) (fun h => by rw [hA] at h; cases h), ?_⟩
      unfold impl_PolygonOf.f
      refine Ev.bind hcode ?_
      rw [hA]
      simp only [if_true, impl_Angle_19.f, Option.bind_some]
      exact b
    by_cases g1 : (L.length : Int) < 2
    · refine fin ([], 2) (by simp) ?_ ?_
      · simp only [if_pos g1]; exact Ev.now _
      · rw [within_val, decide_eq_false (by omega)]; exact Ev.now _
    · by_cases g2 : (L.length : Int) > 200
      · refine fin ([], 2) (by simp) ?_ ?_
        · simp only [if_neg g1, if_pos g2]; exact Ev.now _
        · rw [within_val, decide_eq_false (by omega)]; exact Ev.now _
      · have hs := ev_spec_asc L (by omega) hA
        have hi := ev_impl_asc L (by omega) hA
        have hw : decide (2 ≤ (L.length : Int) ∧ (L.length : Int) ≤ 200) = true := decide_eq_true (by omega)
        cases hasc : ascV L (L.length - 1) 1 with
        | false =>
          rw [hasc] at hs hi
          refine fin ([], 2) (by simp) ?_ ?_
          · simp only [if_neg g1, if_neg g2]; exact Ev.bind hs (Ev.now _)
          · rw [within_val, hw]; simp only [Option.bind_some, if_true]; exact Ev.bind hi (Ev.now _)
        | true =>
          rw [hasc] at hs hi
          obtain ⟨r, r0, r1, r2⟩ := both_loop L hA (by omega) (by omega) L.length 0 [] (by omega) List.Pairwise.nil (by simp)
          refine fin (r, 0) (by show r.length ≤ _; omega) ?_ ?_
          · simp only [if_neg g1, if_neg g2]
            refine Ev.bind hs ?_
            simp only [if_true]
            refine Ev.bind (a := r) ?_ (Ev.now _)
            unfold spec_l03Polygon.f
            exact r1
          · rw [within_val, hw]; simp only [Option.bind_some, if_true]
            refine Ev.bind hi ?_
            simp only [if_true]
            refine Ev.bind (a := r) ?_ (Ev.now _)
            unfold impl_polygon.f
            exact r2
theorem rdLL (pre rest : List SL) (x : SL) : rd_T46 (pre ++ x :: rest) (pre.length : Int) = x := by simp [rd_T46]
theorem ev_eqLeaves (l : List SL) (hl : l.length ≤ 1099511627776) : Ev (fun k => laws_eqLeafS.f k l l) true := by
  unfold laws_eqLeafS.f
  simp only [if_true]
  have key : ∀ (rest pre : List SL), (pre ++ rest).length ≤ 1099511627776 → Ev (fun k => laws_eqLeafS.l0 k (pre ++ rest) (pre ++ rest) (pre.length : Int)) true := by
    intro rest
    induction rest with
    | nil =>
      intro pre _
      exact Ev.step (f := fun _ => some true) (fun k => by simp [laws_eqLeafS.l0]) (Ev.now _)
    | cons x xs ih =>
      intro pre hp
      have hlen : (pre.length : Int) < ((pre ++ x :: xs).length : Int) := by simp <;> omega
      have hp2 : (pre.length : Int) ≤ 1099511627776 := by simp at hp; omega
      refine Ev.step (f := fun k => laws_eqLeafS.l0 k (pre ++ x :: xs) (pre ++ x :: xs) ((pre ++ [x]).length : Int)) (fun k => ?_) ?_
      · rw [laws_eqLeafS.l0, if_pos hlen, if_pos (by omega), if_pos hlen, rdLL]
        unfold laws_eqLeaf.f
        rw [eqAngle_same, eqAngle_same]
        simp only [Option.bind_some, if_true]
        rw [wrap_in (by omega) (by omega)]
        simp
      · have := ih (pre ++ [x]) (by simpa using hp)
        simpa using this
  simpa using key l [] (by simpa using hl)
theorem ev_heldL (l : List SL) (hl : l.length ≤ 1048576) : Ev (fun k => laws_heldLeafS.f k (markL 1 l) 1) (1 + 4 * (l.length : Int)) := by
  unfold laws_heldLeafS.f
  have key : ∀ (rest pre : List SL) (c : Int), 0 ≤ c → c + 4 * (rest.length : Int) ≤ 1099511627776 → pre.length + rest.length ≤ 1048576 → Ev (fun k => laws_heldLeafS.l0 k (pre ++ markL c rest) c (pre.length : Int)) (c + 4 * (rest.length : Int)) := by
    intro rest
    induction rest with
    | nil =>
      intro pre c h0 h1 h2
      exact Ev.step (f := fun _ => some (c + 4 * (([] : List SL).length : Int))) (fun k => by simp [laws_heldLeafS.l0, markL]) (Ev.now _)
    | cons x xs ih =>
      intro pre c h0 h1 h2
      rw [List.length_cons] at h1 h2
      have hlen : (pre.length : Int) < ((pre ++ markL c (x :: xs)).length : Int) := by rw [List.length_append, markL_length]; simp; omega
      have hrd : rd_T46 (pre ++ markL c (x :: xs)) (pre.length : Int) = ⟨⟨c, c + 1⟩, ⟨c + 2, c + 3⟩⟩ := rdLL pre (markL (c + 4) xs) _
      refine Ev.step (f := fun k => laws_heldLeafS.l0 k ((pre ++ [⟨⟨c, c + 1⟩, ⟨c + 2, c + 3⟩⟩]) ++ markL (c + 4) xs) (c + 4) ((pre ++ [(⟨⟨c, c + 1⟩, ⟨c + 2, c + 3⟩⟩ : SL)]).length : Int)) (fun k => ?_) ?_
      · rw [laws_heldLeafS.l0, if_pos hlen, if_pos (by omega), hrd]
        have w1 : wrap64 (c + 1) = c + 1 := wrap_in (by omega) (by omega)
        have w2 : wrap64 (c + 1 + 1) = c + 2 := by rw [wrap_in (by omega) (by omega)]; omega
        have w3 : wrap64 (c + 2 + 1) = c + 3 := by rw [wrap_in (by omega) (by omega)]; omega
        have w4 : wrap64 (c + 3 + 1) = c + 4 := by rw [wrap_in (by omega) (by omega)]; omega
        have w5 : wrap64 ((pre.length : Int) + 1) = ((pre ++ [(⟨⟨c, c + 1⟩, ⟨c + 2, c + 3⟩⟩ : SL)]).length : Int) := by rw [wrap_in (by omega) (by omega)]; simp
        simp only [w1, w2, w3, w4, w5, if_true]
        rw [markL, List.append_assoc]
        rfl
      · have := ih (pre ++ [⟨⟨c, c + 1⟩, ⟨c + 2, c + 3⟩⟩]) (c + 4) (by omega) (by omega) (by simp; omega)
        rw [show c + 4 * (((x :: xs).length : Nat) : Int) = c + 4 + 4 * (xs.length : Int) by rw [List.length_cons]; omega]
        exact this
  exact key l [] 1 (by omega) (by omega) (by simpa using hl)
theorem markL_val (l : List SL) (hl : l.length ≤ 1048576) : laws_markLeafS.f l 1 = some (1 + 4 * (l.length : Int), markL 1 l) := by
  unfold laws_markLeafS.f
  rw [if_pos ⟨hl, by omega, by omega⟩]
theorem pure_FnExactPolygonOf (l : List S40) (hm : l.length ≤ 9223372036854775807) : ∃ k, laws_FnExactPolygonOf.f k l = some true := by
  refine Ev.rounds (g := fun k => laws_FnExactPolygonOf.f k l) ?_
  unfold laws_FnExactPolygonOf.f
  refine szA_frame hm (fun hn => ?_)
  have hc := ev_toAngles l hn
  have hL : (cpA l).length ≤ 1048576 := by rw [cpA_length]; exact hn
  generalize cpA l = L at hc hL
  obtain ⟨r, hr, h1, h2⟩ := both_poly L hL
  refine Ev.bind hc (Ev.bind h1 (Ev.bind hc (Ev.bind h2 (Ev.bind (ev_eqLeaves r.1 (by omega)) ?_))))
  simp only [if_true, bne_self_eq_false]
  refine Ev.step (f := fun k => (laws_toAngleS.f k l).bind fun t => (laws_eqAngleS.f k L t).bind fun t => if t = true then (laws_markAngleS.f k L 1).bind fun b => if b.1 < 0 then laws_FnExactPolygonOf.j1 k l r.1 r.2 r.1 true else (laws_eqLeafS.f k r.1 r.1).bind fun t => if t = true then laws_FnExactPolygonOf.j1 k l r.1 r.2 r.1 (r.2 != r.2) else laws_FnExactPolygonOf.j1 k l r.1 r.2 r.1 true else some false) (fun k => by rw [laws_FnExactPolygonOf.j0, if_neg (by simp)]) ?_
  refine Ev.bind hc (Ev.bind (ev_eqAngleS L (by omega)) ?_)
  simp only [if_true]
  refine Ev.bind (ev_markAngleS L (by omega)) ?_
  simp only [if_neg (show ¬ (1 + 2 * (L.length : Int) < 0) by omega)]
  refine Ev.bind (ev_eqLeaves r.1 (by omega)) ?_
  simp only [if_true, bne_self_eq_false]
  refine Ev.step (f := fun k => (laws_heldLeafS.f k (markL 1 r.1) 1).bind fun t => if t < 0 then some false else if t = 1 + 4 * (r.1.length : Int) then (laws_toAngleS.f k l).bind fun t => (impl_PolygonOf.f k t).bind fun y => (laws_eqLeafS.f k y.1 r.1).bind fun t => if t = true then laws_FnExactPolygonOf.j2 k (markL 1 r.1) (1 + 4 * (r.1.length : Int)) (y.2 != r.2) else laws_FnExactPolygonOf.j2 k (markL 1 r.1) (1 + 4 * (r.1.length : Int)) true else some false) (fun k => by rw [laws_FnExactPolygonOf.j1, if_neg (by simp), markL_val r.1 hr]; rfl) ?_
  refine Ev.bind (ev_heldL r.1 hr) ?_
  simp only [if_neg (show ¬ (1 + 4 * (r.1.length : Int) < 0) by omega), if_true]
  refine Ev.bind hc (Ev.bind h2 (Ev.bind (ev_eqLeaves r.1 (by omega)) ?_))
  simp only [if_true, bne_self_eq_false]
  refine Ev.step (f := fun k => (laws_heldLeafS.f k (markL 1 r.1) 1).bind fun t => if t < 0 then some false else if t = 1 + 4 * (r.1.length : Int) then some true else some false) (fun k => by rw [laws_FnExactPolygonOf.j2, if_neg (by simp)]) ?_
  refine Ev.bind (ev_heldL r.1 hr) ?_
  simp only [if_neg (show ¬ (1 + 4 * (r.1.length : Int) < 0) by omega), if_true]
  exact Ev.now _
end Go.Proofs.Ytjfdbjdilldfoaa.Q
end
