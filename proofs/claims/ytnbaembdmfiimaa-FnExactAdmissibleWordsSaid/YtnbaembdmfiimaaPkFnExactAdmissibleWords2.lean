/- Joined texts: Qx22, Qx33, SeqAddr, SeqWords, SeqWords2, LawStrs, PureFnExactAdmissibleWords -/
import Derived.Test.YtnbaembdmfiimaaPkFnExactAdmissibleWords0
import Derived.Test.YtnbaembdmfiimaaPkFnExactAdmissibleWords1
section
-- By wip/hyb/hyb.py of this session, over the kit's print.py
namespace Go.Proofs.Ytnbaembdmfiimaa.Q
open Go.Proofs.YtnbaembdmfiimaaW.Ext
open Go.RowKit Go.Proofs.YtnbaembdmfiimaaW.PrintWords Go.Proofs.YtnbaembdmfiimaaW.PrintLast Go.Proofs.YtnbaembdmfiimaaW.PrintMore
attribute [local go_sem] max2_int min2_int max_two min_two max_three min_three max_four min_four   -- for this text's walks alone
set_option linter.unusedVariables false
set_option linter.unusedSimpArgs false

/-! ### spec_SequenceOfAddress: function 10 -/
def spec_SequenceOfAddress.l0 : Nat → List Int → List Int → Int → Option (ByteArray × ByteArray × Int)
  | 0, _, _, _ => none
  | k + 1, x0, x4, x5 => if x5 < (wrap64 ((x0.length : Int) - 1)) then (if 0 ≤ x5 then (if x5 < (x0.length : Int) then ((spec_l02Repeated.f k x4 (rd x0 x5)).bind fun t221 => (if 0 ≤ (wrap64 ((t221.length : Int) - 1)) then (if (wrap64 ((t221.length : Int) - 1)) < (t221.length : Int) then (spec_SequenceOfAddress.l0 k x0 (t221.set ((wrap64 ((t221.length : Int) - 1)) : Int).toNat ((97 - (rd t221 (wrap64 ((t221.length : Int) - 1)))) % 256)) (wrap64 (x5 + 1))) else (none)) else (none))) else (none)) else (none)) else (if (x0.length : Int) > 1 then (if 0 ≤ (wrap64 ((x0.length : Int) - 1)) then (if (wrap64 ((x0.length : Int) - 1)) < (x0.length : Int) then ((spec_l02Repeated.f k x4 (rd x0 (wrap64 ((x0.length : Int) - 1)))).bind fun t227 => (if 0 ≤ (wrap64 ((t227.length : Int) - 1)) then (if (wrap64 ((t227.length : Int) - 1)) < (t227.length : Int) then (some ((⟨#[]⟩ : ByteArray), strOfNums (t227.set ((wrap64 ((t227.length : Int) - 1)) : Int).toNat 42), 0)) else (none)) else (none))) else (none)) else (none)) else (if 0 ≤ (wrap64 ((x4.length : Int) - 1)) then (if (wrap64 ((x4.length : Int) - 1)) < (x4.length : Int) then (some ((⟨#[]⟩ : ByteArray), strOfNums (x4.set ((wrap64 ((x4.length : Int) - 1)) : Int).toNat 42), 0)) else (none)) else (none)))
def spec_SequenceOfAddress.f (k : Nat) (l0 : List Int) : Option (ByteArray × ByteArray × Int) := (spec_l02Address.f k l0).bind fun t216 => (if t216 = true then (spec_SequenceOfAddress.l0 k l0 (([49] : List Int)) 1) else (some ((⟨#[]⟩ : ByteArray), (⟨#[]⟩ : ByteArray), 2)))
theorem spec_SequenceOfAddress.mono_l : ∀ k, (∀ y0 y1 y2, LeO (spec_SequenceOfAddress.l0 k y0 y1 y2) (spec_SequenceOfAddress.l0 (k + 1) y0 y1 y2))
  | 0 => fun _ _ _ r h => by simp [spec_SequenceOfAddress.l0] at h
  | k + 1 => by
    have ih0 := spec_SequenceOfAddress.mono_l k
    · intro y0 y1 y2
      unfold spec_SequenceOfAddress.l0
      repeat' first
      | (with_reducible exact ih0 _ _ _)
      | (with_reducible exact spec_l02Address.mono _ _)
      | (with_reducible exact spec_l02Repeated.mono _ _ _)
      | (with_reducible exact LeO.refl _)
      | (with_reducible exact LeO.none _)
      | (with_reducible refine LeO.ite ?_ ?_)
      | (with_reducible refine LeO.bind ?_ (fun _ => ?_))
      | exact ih0 _ _ _
      | exact spec_l02Address.mono _ _
      | exact spec_l02Repeated.mono _ _ _
      | exact LeO.none _
      | refine LeO.ite ?_ ?_
      | refine LeO.bind ?_ (fun _ => ?_)
theorem spec_SequenceOfAddress.mono : ∀ a0 k, LeO (spec_SequenceOfAddress.f k a0) (spec_SequenceOfAddress.f (k + 1) a0) := by
  intro a0 k
  have ih0 := spec_SequenceOfAddress.mono_l k
  unfold spec_SequenceOfAddress.f
  repeat' first
      | (with_reducible exact ih0 _ _ _)
      | (with_reducible exact spec_l02Address.mono _ _)
      | (with_reducible exact spec_l02Repeated.mono _ _ _)
      | (with_reducible exact LeO.refl _)
      | (with_reducible exact LeO.none _)
      | (with_reducible refine LeO.ite ?_ ?_)
      | (with_reducible refine LeO.bind ?_ (fun _ => ?_))
      | exact ih0 _ _ _
      | exact spec_l02Address.mono _ _
      | exact spec_l02Repeated.mono _ _ _
      | exact LeO.none _
      | refine LeO.ite ?_ ?_
      | refine LeO.bind ?_ (fun _ => ?_)
set_option maxHeartbeats 8000000 in
set_option maxRecDepth 100000 in
theorem spec_SequenceOfAddress.calls (k : Nat) (A0 : Option Addr) (c0 : Nat) (l0 : List Int) (r1 : ByteArray) (r2 : ByteArray) (r3 : Int) (w : World) (hr0 : Kd.C (Kd.int .i64) w A0 l0.length l0) (hc0 : l0.length ≤ c0) (h : spec_SequenceOfAddress.f k l0 = some (r1, r2, r3)) :
    Calls Try.prog 10 #[.slice A0 l0.length c0] w fun e w' => e = .returned (.tuple #[.agg #[.string r1, .string r2], .int .i64 r3]) ∧ Below w.heap.size w w' := by
  have hu30 := Try.underlying30
  have HR0 := Aside0.mk hr0
  have HC0 := Aside0.mk hc0
  clear hr0 hc0
  have HB := Aside0.mk (Below.refl w.heap.size w)
  have H : ((spec_l02Address.f k l0).bind fun t216 => (if t216 = true then (spec_SequenceOfAddress.l0 k l0 (([49] : List Int)) 1) else (some ((⟨#[]⟩ : ByteArray), (⟨#[]⟩ : ByteArray), 2)))) = some (r1, r2, r3) := h
  clear h
  replace H := Option.bind_eq_some_iff.mp H
  obtain ⟨t216, A20, H⟩ := H
  replace H : (if t216 = true then (spec_SequenceOfAddress.l0 k l0 (([49] : List Int)) 1) else (some ((⟨#[]⟩ : ByteArray), (⟨#[]⟩ : ByteArray), 2))) = some (r1, r2, r3) := H
  have A2 := Aside0.mk A20
  clear A20
  by_cases c3 : t216 = true
  · subst c3
    have H1 : (spec_SequenceOfAddress.l0 k l0 (([49] : List Int)) 1) = some (r1, r2, r3) := by rw [if_pos rfl] at H; exact H
    clear H
    have H := H1
    clear H1
    obtain ⟨y217, hy217⟩ : ∃ y_ : List Int, y_ = (([49] : List Int)) := ⟨_, rfl⟩
    replace H : (spec_SequenceOfAddress.l0 k l0 y217 1) = some (r1, r2, r3) := by first | (rw [hy217]; with_reducible exact H) | (have H2_ := (Option.bind_some _ _).symm.trans H; rw [hy217]; with_reducible exact H2_) | (have H2_ := (Option.bind_some _ _).symm.trans H; with_reducible exact H2_) | with_reducible exact H | (rw [hy217]; exact H) | exact H
    have Ny217 := Aside0.mk hy217
    clear hy217
    have H' := Aside0.mk H
    clear H
    go_enter Try.func10, Try.ntmps10
    go_wp2_with (first | ((with_reducible refine gate_dst (N := 2) rfl ?_); refine box_event ?hg (N := 2) ?hd (cs := #[.string (⟨#[]⟩ : ByteArray), .string (⟨#[]⟩ : ByteArray)]) (t := 30) ?hr ?_; (case hd => rfl); (case hg => rfl); (case hr => first | (go_simp; done) | (go_simp; rfl)); intro gb215 hg w4 hbox hb; have n0_ := Aside0.mk (below_step (by repeat (first | (with_reducible first | exact HB.out | apply below_alloc | apply pw_below_drewN | apply below_drew1) | exact HB.out)) hb); have n1_ := Aside0.mk (hbox); have n2_ := Aside0.mk ((by rw [hg]; exact (below_size (by repeat (first | (with_reducible first | exact HB.out | apply below_alloc | apply pw_below_drewN | apply below_drew1) | exact HB.out))) : w.heap.size ≤ gb215)); have n3_ := Aside0.mk ((by rw [hg]; exact (below_size (by repeat (first | (with_reducible first | exact HB.out | apply below_alloc | apply pw_below_drewN | apply below_drew1) | exact HB.out))) : w.heap.size ≤ gb215)); clear HB; have HB := n0_; have BK215 := n1_; have GW215 := n2_; have GE215 := n3_; clear n0_ n1_ n2_ n3_; clear hb hbox hg) | ((with_reducible refine gate_callee (f := 20) rfl ?_); refine goesL_ (some 8) rfl rfl Try.func20 (by kernel_rfl) rfl #[.slice A0 l0.length c0] rfl (by (try simp only [List.map_toArray, List.map_cons, List.map_nil]); first | done | rfl | (simp only [List.length_drop, List.length_take]; rfl)) ?_; (with_reducible refine (spec_l02Address.calls k _ _ l0 true _ ?side1 ?side2 A2.out).mono ?_); (case side1 => repeat (first | exact (Kd.C_below HR0.out HB.out) | (with_reducible refine Kd.C_alloc ?_ _) | (with_reducible refine Kd.C_drewN ?_ _) | (with_reducible refine Kd.C_drew ?_))); (case side2 => exact HC0.out); rintro e w' ⟨rfl, ⟨nd, rfl⟩⟩; refine ⟨_, rfl, ?_⟩) | ((with_reducible refine gate_dst (N := 11) rfl ?_); refine Kd.R_lit (Kd.int .u8) _ 5 ?hg (N := 11) ?hd (xs := ([49] : List Int)) (inner := [.int .u8 49]) (ok := fun _ => True) (okp := fun _ => True) ?hr ?hp (fun _ hk => hk) trivial (Below.refl _ _) (Nat.le_refl _) (by simp) ?_; (case hd => rfl); (case hg => rfl); (case hr => first | (go_simp; done) | (go_simp; rfl)); (case hp => exact (Reps.one (show Kd.M (Kd.int .u8) _ _ _ 49 [.int .u8 49] from rfl) (Reps.none _ _))); intro v218 w5 ho6 hb hg_ hnew_; clear hg_ hnew_; (first | rw [← Ny217.out] at ho6 | (simp only [Int.reduceToNat] at ho6; rw [← Ny217.out] at ho6)); have n0_ := Aside0.mk (Kd.R_lower ho6 (below_size (by repeat (first | (with_reducible first | exact HB.out | apply below_alloc | apply pw_below_drewN | apply below_drew1 | refine below_set ?_ GE215.out) | exact HB.out)))); have n1_ := Aside0.mk (blk_below (g := gb215) (o := .cells #[.string (⟨#[]⟩ : ByteArray), .string (⟨#[]⟩ : ByteArray)] 30 (0, 0)) (by (with_reducible repeat (first | refine blk_drewN ?_ _ | refine blk_drew ?_ | refine blk_alloc ?_ _)); exact BK215.out) hb); have n2_ := Aside0.mk (below_step (by repeat (first | (with_reducible first | exact HB.out | apply below_alloc | apply pw_below_drewN | apply below_drew1 | refine below_set ?_ GE215.out) | exact HB.out)) hb); clear BK215; clear HB; have HO219 := n0_; have BK215 := n1_; have HB := n2_; clear n0_ n1_ n2_; clear hb ho6))
    go_loopg [4, 5] k (fun kq v4 v5 w' => ∃ (x4_1 : List Int) (x5_1 : Int), v5 = .int .i64 x5_1 ∧ Aside0 (spec_SequenceOfAddress.l0 kq l0 x4_1 x5_1 = some (r1, r2, r3)) ∧ Aside0 (kq ≤ k) ∧ Aside0 (Kd.R (Kd.int .u8) 5 w' w.heap.size (fun _ => True) v4 x4_1) ∧ Aside0 (w'.heap[gb215]? = some (.cells #[.string (⟨#[]⟩ : ByteArray), .string (⟨#[]⟩ : ByteArray)] 30 (0, 0))) ∧ Aside0 (Below w.heap.size w w'))
    case atStart => exact ⟨(y217), (1), (by first | rfl | (simp; done) | (simp [*]; done)), H', ⟨Nat.le_refl _⟩, ⟨by (with_reducible repeat (first | apply Kd.R_alloc | apply Kd.R_drewN | apply Kd.R_drew)); exact HO219.out⟩, ⟨by (with_reducible repeat (first | refine blk_drewN ?_ _ | refine blk_drew ?_ | refine blk_alloc ?_ _)); exact BK215.out⟩, ⟨by repeat (first | (with_reducible first | exact HB.out | apply below_alloc | apply pw_below_drewN | apply below_drew1 | refine below_set ?_ GE215.out) | exact HB.out)⟩⟩
    case round =>
      clear H'
      try clear c1
      try clear c2
      try clear p2
      try clear c3
      obtain ⟨x4_1, x5_1, rfl, HA, HK1, HO_4, BK215, HB⟩ := hrel
      cases gk with
      | zero => exact absurd HA.out (by simp [spec_SequenceOfAddress.l0])
      | succ k1 =>
        have H := HA.out
        clear HA
        simp only [spec_SequenceOfAddress.l0] at H
        by_cases c7 : x5_1 < (wrap64 ((l0.length : Int) - 1))
        · rw [if_pos c7] at H
          have c7b0 : decide (x5_1 < (wrap64 ((l0.length : Int) - 1))) = true := decide_eq_true c7
          clear c7
          by_cases c8 : 0 ≤ x5_1
          · rw [if_pos c8] at H
            have c8b0 : decide (0 ≤ x5_1) = true := decide_eq_true c8
            clear c8
            by_cases c9 : x5_1 < (l0.length : Int)
            · rw [if_pos c9] at H
              have c9b0 : decide (x5_1 < (l0.length : Int)) = true := decide_eq_true c9
              clear c9
              replace H := Option.bind_eq_some_iff.mp H
              obtain ⟨t221, A100, H⟩ := H
              replace H : (if 0 ≤ (wrap64 ((t221.length : Int) - 1)) then (if (wrap64 ((t221.length : Int) - 1)) < (t221.length : Int) then (spec_SequenceOfAddress.l0 k1 l0 (t221.set ((wrap64 ((t221.length : Int) - 1)) : Int).toNat ((97 - (rd t221 (wrap64 ((t221.length : Int) - 1)))) % 256)) (wrap64 (x5_1 + 1))) else (none)) else (none)) = some (r1, r2, r3) := H
              have A10 := Aside0.mk A100
              clear A100
              obtain ⟨ji11, hji11⟩ : ∃ j_ : Int, (wrap64 ((t221.length : Int) - 1)) = j_ := ⟨_, rfl⟩
              replace H : (if 0 ≤ (ji11) then (if (ji11) < (t221.length : Int) then (spec_SequenceOfAddress.l0 k1 l0 (t221.set ((ji11) : Int).toNat ((97 - (rd t221 (ji11))) % 256)) (wrap64 (x5_1 + 1))) else (none)) else (none)) = some (r1, r2, r3) := by first | (rw [hji11] at H; exact H) | (simp only [hji11] at H ⊢; exact H)
              (try rw [hji11] at A10)
              have hji11w : (IntKind.i64.wrap ((t221.length : Int) - 1)) = ji11 := (i64_w _).trans hji11
              by_cases c12 : 0 ≤ (ji11)
              · rw [if_pos c12] at H
                have c12b0 : decide (0 ≤ (ji11)) = true := decide_eq_true c12
                clear c12
                by_cases c13 : (ji11) < (t221.length : Int)
                · rw [if_pos c13] at H
                  have c13b0 : decide ((ji11) < (t221.length : Int)) = true := decide_eq_true c13
                  clear c13
                  obtain ⟨y225, hy225⟩ : ∃ y_ : List Int, y_ = (t221.set ((ji11) : Int).toNat ((97 - (rd t221 (ji11))) % 256)) := ⟨_, rfl⟩
                  replace H : (spec_SequenceOfAddress.l0 k1 l0 y225 (wrap64 (x5_1 + 1))) = some (r1, r2, r3) := by first | (rw [hy225]; with_reducible exact H) | (have H2_ := (Option.bind_some _ _).symm.trans H; rw [hy225]; with_reducible exact H2_) | (have H2_ := (Option.bind_some _ _).symm.trans H; with_reducible exact H2_) | with_reducible exact H | (rw [hy225]; exact H) | exact H
                  have Ny225 := Aside0.mk hy225
                  clear hy225
                  have H' := Aside0.mk H
                  clear H
                  have p220 : 0 ≤ (x5_1 : Int) := of_decide_eq_true (by first | (with_reducible assumption) | assumption)
                  have q220 : x5_1 < (l0.length : Int) := of_decide_eq_true (by first | (with_reducible assumption) | assumption)
                  obtain ⟨ad220, e220, hx220_0⟩ := Kd.at_int HR0.out x5_1 p220 q220
                  cases e220
                  replace hx220_0 := (HB.out.cell (World.block_lt_of_cell? w _ hx220_0)).trans hx220_0
                  replace p220 := eq_true p220
                  replace q220 := eq_true q220
                  obtain ⟨Ao15, co15, eo15⟩ := Kd.R_slice HO_4.out
                  subst eo15
                  go_wp2_with (first | ((with_reducible refine gate_callee (f := 21) rfl ?_); refine goesL_ (some 24) rfl rfl Try.func21 (by kernel_rfl) rfl #[.slice Ao15 x4_1.length co15, .int .i64 (rd l0 x5_1)] rfl (by (try simp only [List.map_toArray, List.map_cons, List.map_nil]); first | done | rfl | (simp only [List.length_drop, List.length_take]; rfl)) ?_; (with_reducible refine (spec_l02Repeated.calls k1 _ _ x4_1 (rd l0 x5_1) t221 _ ?side1 ?side2 A10.out).mono ?_); (case side1 => repeat (first | exact (Kd.R_reads' HO_4.out).2.2 | (with_reducible refine Kd.C_alloc ?_ _) | (with_reducible refine Kd.C_drewN ?_ _) | (with_reducible refine Kd.C_drew ?_))); (case side2 => exact (Kd.R_reads' HO_4.out).2.1); rintro e w16 ⟨v222, rfl, ho0, hb⟩; refine ⟨_, rfl, ?_⟩; have n0_ := Aside0.mk (Kd.R_elder' (by (with_reducible repeat (first | apply Kd.R_alloc | apply Kd.R_drewN | apply Kd.R_drew)); exact HO_4.out) (Kd.R_base ho0) hb); have n1_ := Aside0.mk (Kd.R_lower (Kd.R_new' ho0 (Kd.R_lt (by (with_reducible repeat (first | apply Kd.R_alloc | apply Kd.R_drewN | apply Kd.R_drew)); exact HO_4.out))) (below_size (by repeat (first | (with_reducible first | exact HB.out | apply below_alloc | apply pw_below_drewN | apply below_drew1 | refine below_set ?_ GE215.out) | exact HB.out)))); have n2_ := Aside0.mk (blk_below (g := gb215) (o := .cells #[.string (⟨#[]⟩ : ByteArray), .string (⟨#[]⟩ : ByteArray)] 30 (0, 0)) (by (with_reducible repeat (first | refine blk_drewN ?_ _ | refine blk_drew ?_ | refine blk_alloc ?_ _)); exact BK215.out) hb); have n3_ := Aside0.mk (below_step (by repeat (first | (with_reducible first | exact HB.out | apply below_alloc | apply pw_below_drewN | apply below_drew1 | refine below_set ?_ GE215.out) | exact HB.out)) hb); clear HO_4; clear BK215; clear HB; have HO_4 := n0_; have HO223 := n1_; have BK215 := n2_; have HB := n3_; clear n0_ n1_ n2_ n3_; (try clear hb); (try clear hb2); (try clear hk); (try clear hi); (try clear ho0); obtain ⟨Ao17, co17, eo17⟩ := Kd.R_slice HO223.out; subst eo17; have p224 : 0 ≤ ((ji11) : Int) := of_decide_eq_true (by first | (with_reducible assumption) | assumption); have q224 : (ji11) < (t221.length : Int) := of_decide_eq_true (by first | (with_reducible assumption) | assumption); obtain ⟨ad224, e224, hx224_0⟩ := Kd.at_int (Kd.R_reads' HO223.out).2.2 (ji11) p224 q224; cases e224; replace p224 := eq_true p224; replace q224 := eq_true q224; have p14 : 0 ≤ ((ji11) : Int) := of_decide_eq_true (by first | (with_reducible assumption) | assumption); have q14 : ((ji11) : Int) < ((t221.length : Int) : Int) := of_decide_eq_true (by first | (with_reducible assumption) | assumption); obtain ⟨go14, co14, eo14, gb14, gl14, cl14, HG14⟩ := Kd.R_form HO223.out (by omega); (first | cases eo14 | (injection eo14 with ea_ en_ ec_; (first | subst ea_ | (injection ea_ with ea_; subst ea_)); subst ec_; clear en_)); have GB14 := Aside0.mk gb14; have GG14 := Aside0.mk HG14; clear gb14 gl14 HG14; (first | simp only [add_plain] at hx224_0 | skip); obtain ⟨hx14_0, hf14_0⟩ := Kd.R_celln 0 HO223.out ((ji11) : Int) p14 q14; replace p14 := eq_true p14; replace q14 := eq_true q14; have n_ := Aside0.mk (Kd.R_mono (ok' := (fun k_ => some k_ ≠ (.slice Ao15 x4_1.length co15 : Value).ownBlock)) HO223.out (fun k_ hk => hk.2)); clear HO223; have HO223 := n_; clear n_; obtain ⟨hy18_, hz18_⟩ := Kd.R_celln 0 HO223.out ((ji11) : Int) (of_decide_eq_true (by first | (with_reducible assumption) | assumption)) (of_decide_eq_true (by first | (with_reducible assumption) | assumption)); have HP18 := Kd.R_putg HO223.out ((ji11) : Int) ((97 - (rd t221 (ji11))) % 256)) | ((with_reducible refine gate_store (t := 5) (p := 35) rfl ?_); refine store_event (t := 5) (p := 35) (v := ?vo_w19) (w1 := (w16.setCell ⟨go14, ((ji11) : Int).toNat, none⟩ (.int .u8 ((97 - (rd t221 (ji11))) % 256)))) ?hg ?ho ?hn ?hr ?_; (case ho => rfl); (case hg => rfl); (case hn => rfl); (case hr => first | (go_simp; done) | (go_simp; rfl)); intro w19 hw; have hg : w16.grownBy w19 (some go14) := (by rw [hw]; exact HP18.2); have hp_ : Kd.R (Kd.int .u8) 5 w19 w.heap.size (fun k_ => some k_ ≠ (.slice Ao15 x4_1.length co15 : Value).ownBlock) (.slice (some ⟨go14, 0, none⟩) t221.length co17) y225 := (by rw [hw, Ny225.out]; exact HP18.1); clear HP18; have n0_ := Aside0.mk (Kd.R_after (v := (.slice (some ⟨go14, 0, none⟩) t221.length co17)) (v1 := (.slice (some ⟨go14, 0, none⟩) t221.length co17)) (ok := (fun _ => True)) (by (with_reducible repeat (first | apply Kd.R_alloc | apply Kd.R_drewN | apply Kd.R_drew)); exact HO_4.out) hg (.inl rfl)); have n1_ := Aside0.mk (blk_grown (g := gb215) (o := .cells #[.string (⟨#[]⟩ : ByteArray), .string (⟨#[]⟩ : ByteArray)] 30 (0, 0)) (by (with_reducible repeat (first | refine blk_drewN ?_ _ | refine blk_drew ?_ | refine blk_alloc ?_ _)); exact BK215.out) hg (Kd.R_ne HO223.out BK215.out (by decide))); have n2_ := Aside0.mk (hp_); have n3_ := Aside0.mk ((by rw [hw]; exact below_set (HB.out) GB14.out : Below w.heap.size w w19)); clear HO_4; clear BK215; clear HO223; clear HB; have HO_4 := n0_; have BK215 := n1_; have HO223 := n2_; have HB := n3_; clear n0_ n1_ n2_ n3_; clear hg hw hp_))
                  go_roundg k1
                  case measure => have := HK1.out; omega
                  case rel => exact ⟨(y225), (wrap64 (x5_1 + 1)), (by first | rfl | (simp; done) | (simp [*]; done)), H', ⟨by have := HK1.out; omega⟩, ⟨by (with_reducible repeat (first | apply Kd.R_alloc | apply Kd.R_drewN | apply Kd.R_drew)); exact Kd.R_mono HO223.out (fun _ hk => trivial)⟩, ⟨by (with_reducible repeat (first | refine blk_drewN ?_ _ | refine blk_drew ?_ | refine blk_alloc ?_ _)); exact BK215.out⟩, ⟨by repeat (first | (with_reducible first | exact HB.out | apply below_alloc | apply pw_below_drewN | apply below_drew1 | refine below_set ?_ GE215.out) | exact HB.out)⟩⟩
                · rw [if_neg c13] at H
                  exact absurd H (by simp)
              · rw [if_neg c12] at H
                exact absurd H (by simp)
            · rw [if_neg c9] at H
              exact absurd H (by simp)
          · rw [if_neg c8] at H
            exact absurd H (by simp)
        · rw [if_neg c7] at H
          have c7b0 : decide (x5_1 < (wrap64 ((l0.length : Int) - 1))) = false := decide_eq_false c7
          clear c7
          by_cases c20 : (l0.length : Int) > 1
          · rw [if_pos c20] at H
            have c20b0 : decide (1 < (l0.length : Int)) = true := decide_eq_true c20
            have c20b1 : decide (1 < l0.length) = true := decide_eq_true (by omega)
            clear c20
            obtain ⟨ji21, hji21⟩ : ∃ j_ : Int, (wrap64 ((l0.length : Int) - 1)) = j_ := ⟨_, rfl⟩
            replace H : (if 0 ≤ (ji21) then (if (ji21) < (l0.length : Int) then ((spec_l02Repeated.f k1 x4_1 (rd l0 (ji21))).bind fun t227 => (if 0 ≤ (wrap64 ((t227.length : Int) - 1)) then (if (wrap64 ((t227.length : Int) - 1)) < (t227.length : Int) then (some ((⟨#[]⟩ : ByteArray), strOfNums (t227.set ((wrap64 ((t227.length : Int) - 1)) : Int).toNat 42), 0)) else (none)) else (none))) else (none)) else (none)) = some (r1, r2, r3) := by first | (rw [hji21] at H; exact H) | (simp only [hji21] at H ⊢; exact H)
            (try rw [hji21] at c7b0)
            have hji21w : (IntKind.i64.wrap ((l0.length : Int) - 1)) = ji21 := (i64_w _).trans hji21
            by_cases c22 : 0 ≤ (ji21)
            · rw [if_pos c22] at H
              have c22b0 : decide (0 ≤ (ji21)) = true := decide_eq_true c22
              clear c22
              by_cases c23 : (ji21) < (l0.length : Int)
              · rw [if_pos c23] at H
                have c23b0 : decide ((ji21) < (l0.length : Int)) = true := decide_eq_true c23
                clear c23
                replace H := Option.bind_eq_some_iff.mp H
                obtain ⟨t227, A240, H⟩ := H
                replace H : (if 0 ≤ (wrap64 ((t227.length : Int) - 1)) then (if (wrap64 ((t227.length : Int) - 1)) < (t227.length : Int) then (some ((⟨#[]⟩ : ByteArray), strOfNums (t227.set ((wrap64 ((t227.length : Int) - 1)) : Int).toNat 42), 0)) else (none)) else (none)) = some (r1, r2, r3) := H
                have A24 := Aside0.mk A240
                clear A240
                obtain ⟨ji25, hji25⟩ : ∃ j_ : Int, (wrap64 ((t227.length : Int) - 1)) = j_ := ⟨_, rfl⟩
                replace H : (if 0 ≤ (ji25) then (if (ji25) < (t227.length : Int) then (some ((⟨#[]⟩ : ByteArray), strOfNums (t227.set ((ji25) : Int).toNat 42), 0)) else (none)) else (none)) = some (r1, r2, r3) := by first | (rw [hji25] at H; exact H) | (simp only [hji25] at H ⊢; exact H)
                (try rw [hji25] at A24)
                have hji25w : (IntKind.i64.wrap ((t227.length : Int) - 1)) = ji25 := (i64_w _).trans hji25
                by_cases c26 : 0 ≤ (ji25)
                · rw [if_pos c26] at H
                  have c26b0 : decide (0 ≤ (ji25)) = true := decide_eq_true c26
                  clear c26
                  by_cases c27 : (ji25) < (t227.length : Int)
                  · rw [if_pos c27] at H
                    have c27b0 : decide ((ji25) < (t227.length : Int)) = true := decide_eq_true c27
                    clear c27
                    obtain ⟨y230, hy230⟩ : ∃ y_ : List Int, y_ = (t227.set ((ji25) : Int).toNat 42) := ⟨_, rfl⟩
                    replace H : (some ((⟨#[]⟩ : ByteArray), strOfNums y230, 0)) = some (r1, r2, r3) := by first | (rw [hy230]; with_reducible exact H) | (have H2_ := (Option.bind_some _ _).symm.trans H; rw [hy230]; with_reducible exact H2_) | (have H2_ := (Option.bind_some _ _).symm.trans H; with_reducible exact H2_) | with_reducible exact H | (rw [hy230]; exact H) | exact H
                    have Ny230 := Aside0.mk hy230
                    clear hy230
                    simp only [Option.some.injEq, Prod.mk.injEq] at H
                    obtain ⟨rfl, rfl, rfl⟩ := H
                    have p226 : 0 ≤ ((ji21) : Int) := of_decide_eq_true (by first | (with_reducible assumption) | assumption)
                    have q226 : (ji21) < (l0.length : Int) := of_decide_eq_true (by first | (with_reducible assumption) | assumption)
                    obtain ⟨ad226, e226, hx226_0⟩ := Kd.at_int HR0.out (ji21) p226 q226
                    cases e226
                    replace hx226_0 := (HB.out.cell (World.block_lt_of_cell? w _ hx226_0)).trans hx226_0
                    replace p226 := eq_true p226
                    replace q226 := eq_true q226
                    obtain ⟨Ao29, co29, eo29⟩ := Kd.R_slice HO_4.out
                    subst eo29
                    go_wp2_with (first | ((with_reducible refine gate_callee (f := 21) rfl ?_); refine goesL_ (some 46) rfl rfl Try.func21 (by kernel_rfl) rfl #[.slice Ao29 x4_1.length co29, .int .i64 (rd l0 (ji21))] rfl (by (try simp only [List.map_toArray, List.map_cons, List.map_nil]); first | done | (simp only [hji21]; rfl) | rfl | (simp only [List.length_drop, List.length_take]; rfl)) ?_; (with_reducible refine (spec_l02Repeated.calls k1 _ _ x4_1 (rd l0 (ji21)) t227 _ ?side1 ?side2 A24.out).mono ?_); (case side1 => repeat (first | exact (Kd.R_reads' HO_4.out).2.2 | (with_reducible refine Kd.C_alloc ?_ _) | (with_reducible refine Kd.C_drewN ?_ _) | (with_reducible refine Kd.C_drew ?_))); (case side2 => exact (Kd.R_reads' HO_4.out).2.1); rintro e w30 ⟨v228, rfl, ho0, hb⟩; refine ⟨_, rfl, ?_⟩; have n0_ := Aside0.mk (Kd.R_elder' (by (with_reducible repeat (first | apply Kd.R_alloc | apply Kd.R_drewN | apply Kd.R_drew)); exact HO_4.out) (Kd.R_base ho0) hb); have n1_ := Aside0.mk (Kd.R_lower (Kd.R_new' ho0 (Kd.R_lt (by (with_reducible repeat (first | apply Kd.R_alloc | apply Kd.R_drewN | apply Kd.R_drew)); exact HO_4.out))) (below_size (by repeat (first | (with_reducible first | exact HB.out | apply below_alloc | apply pw_below_drewN | apply below_drew1 | refine below_set ?_ GE215.out) | exact HB.out)))); have n2_ := Aside0.mk (blk_below (g := gb215) (o := .cells #[.string (⟨#[]⟩ : ByteArray), .string (⟨#[]⟩ : ByteArray)] 30 (0, 0)) (by (with_reducible repeat (first | refine blk_drewN ?_ _ | refine blk_drew ?_ | refine blk_alloc ?_ _)); exact BK215.out) hb); have n3_ := Aside0.mk (below_step (by repeat (first | (with_reducible first | exact HB.out | apply below_alloc | apply pw_below_drewN | apply below_drew1 | refine below_set ?_ GE215.out) | exact HB.out)) hb); clear HO_4; clear BK215; clear HB; have HO_4 := n0_; have HO229 := n1_; have BK215 := n2_; have HB := n3_; clear n0_ n1_ n2_ n3_; (try clear hb); (try clear hb2); (try clear hk); (try clear hi); (try clear ho0); obtain ⟨Ao31, co31, eo31⟩ := Kd.R_slice HO229.out; subst eo31; have p28 : 0 ≤ ((ji25) : Int) := of_decide_eq_true (by first | (with_reducible assumption) | assumption); have q28 : ((ji25) : Int) < ((t227.length : Int) : Int) := of_decide_eq_true (by first | (with_reducible assumption) | assumption); obtain ⟨go28, co28, eo28, gb28, gl28, cl28, HG28⟩ := Kd.R_form HO229.out (by omega); (first | cases eo28 | (injection eo28 with ea_ en_ ec_; (first | subst ea_ | (injection ea_ with ea_; subst ea_)); subst ec_; clear en_)); have GB28 := Aside0.mk gb28; have GG28 := Aside0.mk HG28; clear gb28 gl28 HG28; obtain ⟨hx28_0, hf28_0⟩ := Kd.R_celln 0 HO229.out ((ji25) : Int) p28 q28; replace p28 := eq_true p28; replace q28 := eq_true q28; have n_ := Aside0.mk (Kd.R_mono (ok' := (fun k_ => some k_ ≠ (.slice Ao29 x4_1.length co29 : Value).ownBlock)) HO229.out (fun k_ hk => hk.2)); clear HO229; have HO229 := n_; clear n_; obtain ⟨hy32_, hz32_⟩ := Kd.R_celln 0 HO229.out ((ji25) : Int) (of_decide_eq_true (by first | (with_reducible assumption) | assumption)) (of_decide_eq_true (by first | (with_reducible assumption) | assumption)); have HP32 := Kd.R_putg HO229.out ((ji25) : Int) 42) | ((with_reducible refine gate_store (t := 5) (p := 51) rfl ?_); refine store_event (t := 5) (p := 51) (v := ?vo_w33) (w1 := (w30.setCell ⟨go28, ((ji25) : Int).toNat, none⟩ (.int .u8 42))) ?hg ?ho ?hn ?hr ?_; (case ho => rfl); (case hg => rfl); (case hn => rfl); (case hr => first | (go_simp; done) | (go_simp; rfl)); intro w33 hw; have hg : w30.grownBy w33 (some go28) := (by rw [hw]; exact HP32.2); have hp_ : Kd.R (Kd.int .u8) 5 w33 w.heap.size (fun k_ => some k_ ≠ (.slice Ao29 x4_1.length co29 : Value).ownBlock) (.slice (some ⟨go28, 0, none⟩) t227.length co31) y230 := (by rw [hw, Ny230.out]; exact HP32.1); clear HP32; have n0_ := Aside0.mk (Kd.R_after (v := (.slice (some ⟨go28, 0, none⟩) t227.length co31)) (v1 := (.slice (some ⟨go28, 0, none⟩) t227.length co31)) (ok := (fun _ => True)) (by (with_reducible repeat (first | apply Kd.R_alloc | apply Kd.R_drewN | apply Kd.R_drew)); exact HO_4.out) hg (.inl rfl)); have n1_ := Aside0.mk (blk_grown (g := gb215) (o := .cells #[.string (⟨#[]⟩ : ByteArray), .string (⟨#[]⟩ : ByteArray)] 30 (0, 0)) (by (with_reducible repeat (first | refine blk_drewN ?_ _ | refine blk_drew ?_ | refine blk_alloc ?_ _)); exact BK215.out) hg (Kd.R_ne HO229.out BK215.out (by decide))); have n2_ := Aside0.mk (hp_); have n3_ := Aside0.mk ((by rw [hw]; exact below_set (HB.out) GB28.out : Below w.heap.size w w33)); clear HO_4; clear BK215; clear HO229; clear HB; have HO_4 := n0_; have BK215 := n1_; have HO229 := n2_; have HB := n3_; clear n0_ n1_ n2_ n3_; clear hg hw hp_; have hcv34 := own_string (P := Try.prog) Try.underlying39 Try.underlying5 Try.underlying9 (Kd.own_of_R HO229.out); have hcz35_0 : w33.cell? ⟨gb215, 0, none⟩ = some (.string (⟨#[]⟩ : ByteArray)) := (blk_cell BK215.out 0).trans rfl; have hcz35_1 : w33.cell? ⟨gb215, 1, none⟩ = some (.string (⟨#[]⟩ : ByteArray)) := (blk_cell BK215.out 1).trans rfl; have hfz35_0 := blk_frozen BK215.out 0; have hfz35_1 := blk_frozen BK215.out 1))
                    refine bodyPost_ret (results_ct rfl _ _ gb215 30 #[.string (⟨#[]⟩ : ByteArray), .string (strOfNums y230)] (0, 0) _ rfl (by (with_reducible repeat (first | refine blk_drewN ?_ _ | refine blk_drew ?_ | refine blk_alloc ?_ _)); refine blk_put (cs := #[.string (⟨#[]⟩ : ByteArray), .string (⟨#[]⟩ : ByteArray)]) ?_ 1 _ rfl; (with_reducible repeat (first | refine blk_drewN ?_ _ | refine blk_drew ?_ | refine blk_alloc ?_ _)); refine blk_put (cs := #[.string (⟨#[]⟩ : ByteArray), .string (⟨#[]⟩ : ByteArray)]) ?_ 0 _ rfl; (with_reducible repeat (first | refine blk_drewN ?_ _ | refine blk_drew ?_ | refine blk_alloc ?_ _)); exact BK215.out) Try.underlying30 rfl (by kernel_rfl)) rfl ?_
                    exact ⟨by first | rfl | (simp [errW_none, errW_some] <;> rfl) | (simp only [← hji21, ← hji25]; first | rfl | (simp [errW_none, errW_some] <;> rfl)) | (simp [*, errW_none, errW_some] <;> rfl), by repeat (first | (with_reducible first | exact HB.out | apply below_alloc | apply pw_below_drewN | apply below_drew1 | refine below_set ?_ GE215.out) | exact HB.out)⟩
                  · rw [if_neg c27] at H
                    exact absurd H (by simp)
                · rw [if_neg c26] at H
                  exact absurd H (by simp)
              · rw [if_neg c23] at H
                exact absurd H (by simp)
            · rw [if_neg c22] at H
              exact absurd H (by simp)
          · rw [if_neg c20] at H
            have c20b0 : decide (1 < (l0.length : Int)) = false := decide_eq_false c20
            have c20b1 : decide (1 < l0.length) = false := decide_eq_false (by omega)
            clear c20
            obtain ⟨ji36, hji36⟩ : ∃ j_ : Int, (wrap64 ((x4_1.length : Int) - 1)) = j_ := ⟨_, rfl⟩
            replace H : (if 0 ≤ (ji36) then (if (ji36) < (x4_1.length : Int) then (some ((⟨#[]⟩ : ByteArray), strOfNums (x4_1.set ((ji36) : Int).toNat 42), 0)) else (none)) else (none)) = some (r1, r2, r3) := by first | (rw [hji36] at H; exact H) | (simp only [hji36] at H ⊢; exact H)
            have hji36w : (IntKind.i64.wrap ((x4_1.length : Int) - 1)) = ji36 := (i64_w _).trans hji36
            by_cases c37 : 0 ≤ (ji36)
            · rw [if_pos c37] at H
              have c37b0 : decide (0 ≤ (ji36)) = true := decide_eq_true c37
              clear c37
              by_cases c38 : (ji36) < (x4_1.length : Int)
              · rw [if_pos c38] at H
                have c38b0 : decide ((ji36) < (x4_1.length : Int)) = true := decide_eq_true c38
                clear c38
                obtain ⟨y231, hy231⟩ : ∃ y_ : List Int, y_ = (x4_1.set ((ji36) : Int).toNat 42) := ⟨_, rfl⟩
                replace H : (some ((⟨#[]⟩ : ByteArray), strOfNums y231, 0)) = some (r1, r2, r3) := by first | (rw [hy231]; with_reducible exact H) | (have H2_ := (Option.bind_some _ _).symm.trans H; rw [hy231]; with_reducible exact H2_) | (have H2_ := (Option.bind_some _ _).symm.trans H; with_reducible exact H2_) | with_reducible exact H | (rw [hy231]; exact H) | exact H
                have Ny231 := Aside0.mk hy231
                clear hy231
                simp only [Option.some.injEq, Prod.mk.injEq] at H
                obtain ⟨rfl, rfl, rfl⟩ := H
                obtain ⟨Ao40, co40, eo40⟩ := Kd.R_slice HO_4.out
                subst eo40
                have p39 : 0 ≤ ((ji36) : Int) := of_decide_eq_true (by first | (with_reducible assumption) | assumption)
                have q39 : ((ji36) : Int) < ((x4_1.length : Int) : Int) := of_decide_eq_true (by first | (with_reducible assumption) | assumption)
                obtain ⟨go39, co39, eo39, gb39, gl39, cl39, HG39⟩ := Kd.R_form HO_4.out (by omega)
                (first | cases eo39 | (injection eo39 with ea_ en_ ec_; (first | subst ea_ | (injection ea_ with ea_; subst ea_)); subst ec_; clear en_))
                have GB39 := Aside0.mk gb39
                have GG39 := Aside0.mk HG39
                clear gb39 gl39 HG39
                obtain ⟨hx39_0, hf39_0⟩ := Kd.R_celln 0 HO_4.out ((ji36) : Int) p39 q39
                replace p39 := eq_true p39
                replace q39 := eq_true q39
                have HP41 := Kd.R_putg HO_4.out ((ji36) : Int) 42
                go_wp2_with (first | ((with_reducible refine gate_store (t := 5) (p := 51) rfl ?_); refine store_event (t := 5) (p := 51) (v := ?vo_w42) (w1 := (wr.setCell ⟨go39, ((ji36) : Int).toNat, none⟩ (.int .u8 42))) ?hg ?ho ?hn ?hr ?_; (case ho => rfl); (case hg => rfl); (case hn => rfl); (case hr => first | (go_simp; done) | (go_simp; rfl)); intro w42 hw; have hg : wr.grownBy w42 (some go39) := (by rw [hw]; exact HP41.2); have hp_ : Kd.R (Kd.int .u8) 5 w42 w.heap.size (fun _ => True) (.slice (some ⟨go39, 0, none⟩) x4_1.length co40) y231 := (by rw [hw, Ny231.out]; exact HP41.1); clear HP41; have n0_ := Aside0.mk (hp_); have n1_ := Aside0.mk (blk_grown (g := gb215) (o := .cells #[.string (⟨#[]⟩ : ByteArray), .string (⟨#[]⟩ : ByteArray)] 30 (0, 0)) (by (with_reducible repeat (first | refine blk_drewN ?_ _ | refine blk_drew ?_ | refine blk_alloc ?_ _)); exact BK215.out) hg (Kd.R_ne HO_4.out BK215.out (by decide))); have n2_ := Aside0.mk ((by rw [hw]; exact below_set (HB.out) GB39.out : Below w.heap.size w w42)); clear HO_4; clear BK215; clear HB; have HO_4 := n0_; have BK215 := n1_; have HB := n2_; clear n0_ n1_ n2_; clear hg hw hp_; have hcv43 := own_string (P := Try.prog) Try.underlying39 Try.underlying5 Try.underlying9 (Kd.own_of_R HO_4.out); have hcz44_0 : w42.cell? ⟨gb215, 0, none⟩ = some (.string (⟨#[]⟩ : ByteArray)) := (blk_cell BK215.out 0).trans rfl; have hcz44_1 : w42.cell? ⟨gb215, 1, none⟩ = some (.string (⟨#[]⟩ : ByteArray)) := (blk_cell BK215.out 1).trans rfl; have hfz44_0 := blk_frozen BK215.out 0; have hfz44_1 := blk_frozen BK215.out 1))
                refine bodyPost_ret (results_ct rfl _ _ gb215 30 #[.string (⟨#[]⟩ : ByteArray), .string (strOfNums y231)] (0, 0) _ rfl (by (with_reducible repeat (first | refine blk_drewN ?_ _ | refine blk_drew ?_ | refine blk_alloc ?_ _)); refine blk_put (cs := #[.string (⟨#[]⟩ : ByteArray), .string (⟨#[]⟩ : ByteArray)]) ?_ 1 _ rfl; (with_reducible repeat (first | refine blk_drewN ?_ _ | refine blk_drew ?_ | refine blk_alloc ?_ _)); refine blk_put (cs := #[.string (⟨#[]⟩ : ByteArray), .string (⟨#[]⟩ : ByteArray)]) ?_ 0 _ rfl; (with_reducible repeat (first | refine blk_drewN ?_ _ | refine blk_drew ?_ | refine blk_alloc ?_ _)); exact BK215.out) Try.underlying30 rfl (by kernel_rfl)) rfl ?_
                exact ⟨by first | rfl | (simp [errW_none, errW_some] <;> rfl) | (simp only [← hji36]; first | rfl | (simp [errW_none, errW_some] <;> rfl)) | (simp [*, errW_none, errW_some] <;> rfl), by repeat (first | (with_reducible first | exact HB.out | apply below_alloc | apply pw_below_drewN | apply below_drew1 | refine below_set ?_ GE215.out) | exact HB.out)⟩
              · rw [if_neg c38] at H
                exact absurd H (by simp)
            · rw [if_neg c37] at H
              exact absurd H (by simp)
  · replace c3 := Bool.eq_false_iff.mpr c3
    subst c3
    have H1 : (some ((⟨#[]⟩ : ByteArray), (⟨#[]⟩ : ByteArray), 2)) = some (r1, r2, r3) := by rw [if_neg (show ¬ (false = true) by decide)] at H; exact H
    clear H
    have H := H1
    clear H1
    simp only [Option.some.injEq, Prod.mk.injEq] at H
    obtain ⟨rfl, rfl, rfl⟩ := H
    go_enter Try.func10, Try.ntmps10
    go_wp2_with (first | ((with_reducible refine gate_dst (N := 2) rfl ?_); refine box_event ?hg (N := 2) ?hd (cs := #[.string (⟨#[]⟩ : ByteArray), .string (⟨#[]⟩ : ByteArray)]) (t := 30) ?hr ?_; (case hd => rfl); (case hg => rfl); (case hr => first | (go_simp; done) | (go_simp; rfl)); intro gb215 hg w45 hbox hb; have n0_ := Aside0.mk (below_step (by repeat (first | (with_reducible first | exact HB.out | apply below_alloc | apply pw_below_drewN | apply below_drew1) | exact HB.out)) hb); have n1_ := Aside0.mk (hbox); have n2_ := Aside0.mk ((by rw [hg]; exact (below_size (by repeat (first | (with_reducible first | exact HB.out | apply below_alloc | apply pw_below_drewN | apply below_drew1) | exact HB.out))) : w.heap.size ≤ gb215)); have n3_ := Aside0.mk ((by rw [hg]; exact (below_size (by repeat (first | (with_reducible first | exact HB.out | apply below_alloc | apply pw_below_drewN | apply below_drew1) | exact HB.out))) : w.heap.size ≤ gb215)); clear HB; have HB := n0_; have BK215 := n1_; have GW215 := n2_; have GE215 := n3_; clear n0_ n1_ n2_ n3_; clear hb hbox hg) | ((with_reducible refine gate_callee (f := 20) rfl ?_); refine goesL_ (some 8) rfl rfl Try.func20 (by kernel_rfl) rfl #[.slice A0 l0.length c0] rfl (by (try simp only [List.map_toArray, List.map_cons, List.map_nil]); first | done | rfl | (simp only [List.length_drop, List.length_take]; rfl)) ?_; (with_reducible refine (spec_l02Address.calls k _ _ l0 false _ ?side1 ?side2 A2.out).mono ?_); (case side1 => repeat (first | exact (Kd.C_below HR0.out HB.out) | (with_reducible refine Kd.C_alloc ?_ _) | (with_reducible refine Kd.C_drewN ?_ _) | (with_reducible refine Kd.C_drew ?_))); (case side2 => exact HC0.out); rintro e w' ⟨rfl, ⟨nd, rfl⟩⟩; refine ⟨_, rfl, ?_⟩; (try (rw [drewN_self w45]; generalize hq_ : World.drewN w45 _ = w45; have n0_ : Aside0 (w45.heap[gb215]? = some (.cells #[.string (⟨#[]⟩ : ByteArray), .string (⟨#[]⟩ : ByteArray)] 30 (0, 0))) := ⟨by rw [← hq_]; exact (by (with_reducible repeat (first | refine blk_drewN ?_ _ | refine blk_drew ?_ | refine blk_alloc ?_ _)); exact BK215.out)⟩; have n1_ : Aside0 (Below w.heap.size w w45) := ⟨by rw [← hq_]; exact (by repeat (first | (with_reducible first | exact HB.out | apply below_alloc | apply pw_below_drewN | apply below_drew1 | refine below_set ?_ GE215.out) | exact HB.out))⟩; clear BK215 HB hq_; have BK215 := n0_; have HB := n1_; clear n0_ n1_)); have hcz46_0 : w45.cell? ⟨gb215, 0, none⟩ = some (.string (⟨#[]⟩ : ByteArray)) := (blk_cell BK215.out 0).trans rfl; have hcz46_1 : w45.cell? ⟨gb215, 1, none⟩ = some (.string (⟨#[]⟩ : ByteArray)) := (blk_cell BK215.out 1).trans rfl; have hfz46_0 := blk_frozen BK215.out 0; have hfz46_1 := blk_frozen BK215.out 1))
    refine bodyPost_ret (results_ct rfl _ _ gb215 30 #[.string (⟨#[]⟩ : ByteArray), .string (⟨#[]⟩ : ByteArray)] (0, 0) _ rfl (by (with_reducible repeat (first | refine blk_drewN ?_ _ | refine blk_drew ?_ | refine blk_alloc ?_ _)); refine blk_put (cs := #[.string (⟨#[]⟩ : ByteArray), .string (⟨#[]⟩ : ByteArray)]) ?_ 1 _ rfl; (with_reducible repeat (first | refine blk_drewN ?_ _ | refine blk_drew ?_ | refine blk_alloc ?_ _)); refine blk_put (cs := #[.string (⟨#[]⟩ : ByteArray), .string (⟨#[]⟩ : ByteArray)]) ?_ 0 _ rfl; (with_reducible repeat (first | refine blk_drewN ?_ _ | refine blk_drew ?_ | refine blk_alloc ?_ _)); exact BK215.out) Try.underlying30 rfl (by kernel_rfl)) rfl ?_
    exact ⟨by first | rfl | (simp [errW_none, errW_some] <;> rfl) | (simp [*, errW_none, errW_some] <;> rfl), by repeat (first | (with_reducible first | exact HB.out | apply below_alloc | apply pw_below_drewN | apply below_drew1 | refine below_set ?_ GE215.out) | exact HB.out)⟩

end Go.Proofs.Ytnbaembdmfiimaa.Q
end
section
-- By wip/hyb/hyb.py of this session, over the kit's print.py
namespace Go.Proofs.Ytnbaembdmfiimaa.Q
open Go.Proofs.YtnbaembdmfiimaaW.Ext
open Go.RowKit Go.Proofs.YtnbaembdmfiimaaW.PrintWords Go.Proofs.YtnbaembdmfiimaaW.PrintLast Go.Proofs.YtnbaembdmfiimaaW.PrintMore
attribute [local go_sem] max2_int min2_int max_two min_two max_three min_three max_four min_four   -- for this text's walks alone
set_option linter.unusedVariables false
set_option linter.unusedSimpArgs false

/-! ### impl_SequenceOfAddress: function 12 -/
def impl_SequenceOfAddress.l0 : Nat → List Int → ByteArray → List Int → Int → Int → Option (ByteArray × ByteArray × Int)
  | 0, _, _, _, _, _ => none
  | k + 1, x0, x4, x13, x14, x15 => if x15 < x14 then (if 0 ≤ x15 then (if x15 < (x13.length : Int) then (if (x0.length : Int) = 1 then (impl_SequenceOfAddress.l0 k x0 x4 x13 x14 (wrap64 (x15 + 1))) else (if x15 = 0 then (impl_SequenceOfAddress.l0 k x0 (⟨#[49]⟩ : ByteArray) x13 x14 (wrap64 (x15 + 1))) else ((impl_repeated.f x4 (rd x13 x15)).bind fun bt250 => (if x15 = (wrap64 ((x0.length : Int) - 1)) then (if bt250.1.size + 1 ≤ 9223372036854775807 then (impl_SequenceOfAddress.l0 k x0 (bt250.1 ++ (⟨#[42]⟩ : ByteArray)) x13 x14 (wrap64 (x15 + 1))) else (none)) else (if bt250.2 = 48 then (if bt250.1.size + 1 ≤ 9223372036854775807 then (impl_SequenceOfAddress.l0 k x0 (bt250.1 ++ (⟨#[49]⟩ : ByteArray)) x13 x14 (wrap64 (x15 + 1))) else (none)) else (if bt250.1.size + 1 ≤ 9223372036854775807 then (impl_SequenceOfAddress.l0 k x0 (bt250.1 ++ (⟨#[48]⟩ : ByteArray)) x13 x14 (wrap64 (x15 + 1))) else (none))))))) else (none)) else (none)) else (some ((⟨#[]⟩ : ByteArray), x4, 0))
def impl_SequenceOfAddress.f (k : Nat) (l0 : List Int) : Option (ByteArray × ByteArray × Int) := (impl_isAddress.f k l0).bind fun t248 => (if t248 = true then (impl_SequenceOfAddress.l0 k l0 (⟨#[42]⟩ : ByteArray) l0 (l0.length : Int) 0) else (some ((⟨#[]⟩ : ByteArray), (⟨#[]⟩ : ByteArray), 2)))
theorem impl_SequenceOfAddress.mono_l : ∀ k, (∀ y0 y1 y2 y3 y4, LeO (impl_SequenceOfAddress.l0 k y0 y1 y2 y3 y4) (impl_SequenceOfAddress.l0 (k + 1) y0 y1 y2 y3 y4))
  | 0 => fun _ _ _ _ _ r h => by simp [impl_SequenceOfAddress.l0] at h
  | k + 1 => by
    have ih0 := impl_SequenceOfAddress.mono_l k
    · intro y0 y1 y2 y3 y4
      unfold impl_SequenceOfAddress.l0
      repeat' first
      | (with_reducible exact ih0 _ _ _ _ _)
      | (with_reducible exact impl_isAddress.mono _ _)
      | (with_reducible exact LeO.refl _)
      | (with_reducible exact LeO.none _)
      | (with_reducible refine LeO.ite ?_ ?_)
      | (with_reducible refine LeO.bind ?_ (fun _ => ?_))
      | exact ih0 _ _ _ _ _
      | exact impl_isAddress.mono _ _
      | exact LeO.none _
      | refine LeO.ite ?_ ?_
      | refine LeO.bind ?_ (fun _ => ?_)
theorem impl_SequenceOfAddress.mono : ∀ a0 k, LeO (impl_SequenceOfAddress.f k a0) (impl_SequenceOfAddress.f (k + 1) a0) := by
  intro a0 k
  have ih0 := impl_SequenceOfAddress.mono_l k
  unfold impl_SequenceOfAddress.f
  repeat' first
      | (with_reducible exact ih0 _ _ _ _ _)
      | (with_reducible exact impl_isAddress.mono _ _)
      | (with_reducible exact LeO.refl _)
      | (with_reducible exact LeO.none _)
      | (with_reducible refine LeO.ite ?_ ?_)
      | (with_reducible refine LeO.bind ?_ (fun _ => ?_))
      | exact ih0 _ _ _ _ _
      | exact impl_isAddress.mono _ _
      | exact LeO.none _
      | refine LeO.ite ?_ ?_
      | refine LeO.bind ?_ (fun _ => ?_)
set_option maxHeartbeats 8000000 in
set_option maxRecDepth 100000 in
theorem impl_SequenceOfAddress.calls (k : Nat) (A0 : Option Addr) (c0 : Nat) (l0 : List Int) (r1 : ByteArray) (r2 : ByteArray) (r3 : Int) (w : World) (hr0 : Kd.C (Kd.int .i64) w A0 l0.length l0) (hc0 : l0.length ≤ c0) (h : impl_SequenceOfAddress.f k l0 = some (r1, r2, r3)) :
    Calls Try.prog 12 #[.slice A0 l0.length c0] w fun e w' => e = .returned (.tuple #[.agg #[.string r1, .string r2], .int .i64 r3]) ∧ Below w.heap.size w w' := by
  have hu30 := Try.underlying30
  have HR0 := Aside0.mk hr0
  have HC0 := Aside0.mk hc0
  clear hr0 hc0
  have HB := Aside0.mk (Below.refl w.heap.size w)
  have H : ((impl_isAddress.f k l0).bind fun t248 => (if t248 = true then (impl_SequenceOfAddress.l0 k l0 (⟨#[42]⟩ : ByteArray) l0 (l0.length : Int) 0) else (some ((⟨#[]⟩ : ByteArray), (⟨#[]⟩ : ByteArray), 2)))) = some (r1, r2, r3) := h
  clear h
  replace H := Option.bind_eq_some_iff.mp H
  obtain ⟨t248, A20, H⟩ := H
  replace H : (if t248 = true then (impl_SequenceOfAddress.l0 k l0 (⟨#[42]⟩ : ByteArray) l0 (l0.length : Int) 0) else (some ((⟨#[]⟩ : ByteArray), (⟨#[]⟩ : ByteArray), 2))) = some (r1, r2, r3) := H
  have A2 := Aside0.mk A20
  clear A20
  by_cases c3 : t248 = true
  · subst c3
    have H1 : (impl_SequenceOfAddress.l0 k l0 (⟨#[42]⟩ : ByteArray) l0 (l0.length : Int) 0) = some (r1, r2, r3) := by rw [if_pos rfl] at H; exact H
    clear H
    have H := H1
    clear H1
    have H' := Aside0.mk H
    clear H
    go_enter Try.func12, Try.ntmps12
    go_wp2_with (first | ((with_reducible refine gate_dst (N := 2) rfl ?_); refine box_event ?hg (N := 2) ?hd (cs := #[.string (⟨#[]⟩ : ByteArray), .string (⟨#[]⟩ : ByteArray)]) (t := 30) ?hr ?_; (case hd => rfl); (case hg => rfl); (case hr => first | (go_simp; done) | (go_simp; rfl)); intro gb247 hg w4 hbox hb; have n0_ := Aside0.mk (below_step (by repeat (first | (with_reducible first | exact HB.out | apply below_alloc | apply pw_below_drewN | apply below_drew1) | exact HB.out)) hb); have n1_ := Aside0.mk (hbox); have n2_ := Aside0.mk ((by rw [hg]; exact (below_size (by repeat (first | (with_reducible first | exact HB.out | apply below_alloc | apply pw_below_drewN | apply below_drew1) | exact HB.out))) : w.heap.size ≤ gb247)); have n3_ := Aside0.mk ((by rw [hg]; exact (below_size (by repeat (first | (with_reducible first | exact HB.out | apply below_alloc | apply pw_below_drewN | apply below_drew1) | exact HB.out))) : w.heap.size ≤ gb247)); clear HB; have HB := n0_; have BK247 := n1_; have GW247 := n2_; have GE247 := n3_; clear n0_ n1_ n2_ n3_; clear hb hbox hg) | ((with_reducible refine gate_callee (f := 22) rfl ?_); refine goesL_ (some 10) rfl rfl Try.func22 (by kernel_rfl) rfl #[.slice A0 l0.length c0] rfl (by (try simp only [List.map_toArray, List.map_cons, List.map_nil]); first | done | rfl | (simp only [List.length_drop, List.length_take]; rfl)) ?_; (with_reducible refine (impl_isAddress.calls k _ _ l0 true _ ?side1 ?side2 A2.out).mono ?_); (case side1 => repeat (first | exact (Kd.C_below HR0.out HB.out) | (with_reducible refine Kd.C_alloc ?_ _) | (with_reducible refine Kd.C_drewN ?_ _) | (with_reducible refine Kd.C_drew ?_))); (case side2 => exact HC0.out); rintro e w' ⟨rfl, ⟨nd, rfl⟩⟩; refine ⟨_, rfl, ?_⟩))
    go_loopg [4, 15] k (fun kq v4 v15 w' => ∃ (x4_1 : ByteArray) (x15_1 : Int), v4 = .string x4_1 ∧ v15 = .int .i64 x15_1 ∧ Aside0 (impl_SequenceOfAddress.l0 kq l0 x4_1 l0 (l0.length : Int) x15_1 = some (r1, r2, r3)) ∧ Aside0 (kq ≤ k) ∧ Aside0 (w'.heap[gb247]? = some (.cells #[.string (⟨#[]⟩ : ByteArray), .string (⟨#[]⟩ : ByteArray)] 30 (0, 0))) ∧ Aside0 (Below w.heap.size w w'))
    case atStart => exact ⟨((⟨#[42]⟩ : ByteArray)), (0), (by first | rfl | (simp; done) | (simp [*]; done)), (by first | rfl | (simp; done) | (simp [*]; done)), H', ⟨Nat.le_refl _⟩, ⟨by (with_reducible repeat (first | refine blk_drewN ?_ _ | refine blk_drew ?_ | refine blk_alloc ?_ _)); exact BK247.out⟩, ⟨by repeat (first | (with_reducible first | exact HB.out | apply below_alloc | apply pw_below_drewN | apply below_drew1 | refine below_set ?_ GE247.out) | exact HB.out)⟩⟩
    case round =>
      clear H'
      try clear c1
      try clear c2
      try clear p2
      try clear c3
      obtain ⟨x4_1, x15_1, rfl, rfl, HA, HK1, BK247, HB⟩ := hrel
      cases gk with
      | zero => exact absurd HA.out (by simp [impl_SequenceOfAddress.l0])
      | succ k1 =>
        have H := HA.out
        clear HA
        simp only [impl_SequenceOfAddress.l0] at H
        by_cases c5 : x15_1 < (l0.length : Int)
        · rw [if_pos c5] at H
          have c5b0 : decide (x15_1 < (l0.length : Int)) = true := decide_eq_true c5
          clear c5
          by_cases c6 : 0 ≤ x15_1
          · rw [if_pos c6] at H
            have c6b0 : decide (0 ≤ x15_1) = true := decide_eq_true c6
            clear c6
            by_cases c7 : x15_1 < (l0.length : Int)
            · rw [if_pos c7] at H
              have c7b0 : decide (x15_1 < (l0.length : Int)) = true := decide_eq_true c7
              clear c7
              by_cases c8 : (l0.length : Int) = 1
              · rw [if_pos c8] at H
                have c8b0 : ((l0.length : Int) == 1) = true := beq_iff_eq.mpr c8
                have c8b1 : ((l0.length : Int) != 1) = false := bne_eq_false_iff_eq.mpr c8
                clear c8
                have H' := Aside0.mk H
                clear H
                have p249 : 0 ≤ (x15_1 : Int) := of_decide_eq_true (by first | (with_reducible assumption) | assumption)
                have q249 : x15_1 < (l0.length : Int) := of_decide_eq_true (by first | (with_reducible assumption) | assumption)
                obtain ⟨ad249, e249, hx249_0⟩ := Kd.at_int HR0.out x15_1 p249 q249
                cases e249
                replace hx249_0 := (HB.out.cell (World.block_lt_of_cell? w _ hx249_0)).trans hx249_0
                replace p249 := eq_true p249
                replace q249 := eq_true q249
                go_wp2
                go_roundg k1
                case measure => have := HK1.out; omega
                case rel => exact ⟨(x4_1), (wrap64 (x15_1 + 1)), (by first | rfl | (simp; done) | (simp [*]; done)), (by first | rfl | (simp; done) | (simp [*]; done)), H', ⟨by have := HK1.out; omega⟩, ⟨by (with_reducible repeat (first | refine blk_drewN ?_ _ | refine blk_drew ?_ | refine blk_alloc ?_ _)); exact BK247.out⟩, ⟨by repeat (first | (with_reducible first | exact HB.out | apply below_alloc | apply pw_below_drewN | apply below_drew1 | refine below_set ?_ GE247.out) | exact HB.out)⟩⟩
              · rw [if_neg c8] at H
                have c8b0 : ((l0.length : Int) == 1) = false := beq_eq_false_iff_ne.mpr c8
                have c8b1 : ((l0.length : Int) != 1) = true := bne_iff_ne.mpr c8
                by_cases c9 : x15_1 = 0
                · rw [if_pos c9] at H
                  have c9b0 : (x15_1 == 0) = true := beq_iff_eq.mpr c9
                  have c9b1 : (x15_1 != 0) = false := bne_eq_false_iff_eq.mpr c9
                  clear c9
                  have H' := Aside0.mk H
                  clear H
                  have p249 : 0 ≤ (x15_1 : Int) := of_decide_eq_true (by first | (with_reducible assumption) | assumption)
                  have q249 : x15_1 < (l0.length : Int) := of_decide_eq_true (by first | (with_reducible assumption) | assumption)
                  obtain ⟨ad249, e249, hx249_0⟩ := Kd.at_int HR0.out x15_1 p249 q249
                  cases e249
                  replace hx249_0 := (HB.out.cell (World.block_lt_of_cell? w _ hx249_0)).trans hx249_0
                  replace p249 := eq_true p249
                  replace q249 := eq_true q249
                  go_wp2
                  go_roundg k1
                  case measure => have := HK1.out; omega
                  case rel => exact ⟨((⟨#[49]⟩ : ByteArray)), (wrap64 (x15_1 + 1)), (by first | rfl | (simp; done) | (simp [*]; done)), (by first | rfl | (simp; done) | (simp [*]; done)), H', ⟨by have := HK1.out; omega⟩, ⟨by (with_reducible repeat (first | refine blk_drewN ?_ _ | refine blk_drew ?_ | refine blk_alloc ?_ _)); exact BK247.out⟩, ⟨by repeat (first | (with_reducible first | exact HB.out | apply below_alloc | apply pw_below_drewN | apply below_drew1 | refine below_set ?_ GE247.out) | exact HB.out)⟩⟩
                · rw [if_neg c9] at H
                  have c9b0 : (x15_1 == 0) = false := beq_eq_false_iff_ne.mpr c9
                  have c9b1 : (x15_1 != 0) = true := bne_iff_ne.mpr c9
                  replace H := Option.bind_eq_some_iff.mp H
                  obtain ⟨⟨t250, t251⟩, A100, H⟩ := H
                  replace H : (if x15_1 = (wrap64 ((l0.length : Int) - 1)) then (if t250.size + 1 ≤ 9223372036854775807 then (impl_SequenceOfAddress.l0 k1 l0 (t250 ++ (⟨#[42]⟩ : ByteArray)) l0 (l0.length : Int) (wrap64 (x15_1 + 1))) else (none)) else (if t251 = 48 then (if t250.size + 1 ≤ 9223372036854775807 then (impl_SequenceOfAddress.l0 k1 l0 (t250 ++ (⟨#[49]⟩ : ByteArray)) l0 (l0.length : Int) (wrap64 (x15_1 + 1))) else (none)) else (if t250.size + 1 ≤ 9223372036854775807 then (impl_SequenceOfAddress.l0 k1 l0 (t250 ++ (⟨#[48]⟩ : ByteArray)) l0 (l0.length : Int) (wrap64 (x15_1 + 1))) else (none)))) = some (r1, r2, r3) := H
                  have A10 := Aside0.mk A100
                  clear A100
                  by_cases c11 : x15_1 = (wrap64 ((l0.length : Int) - 1))
                  · rw [if_pos c11] at H
                    have c11b0 : (x15_1 == (wrap64 ((l0.length : Int) - 1))) = true := beq_iff_eq.mpr c11
                    have c11b1 : (x15_1 != (wrap64 ((l0.length : Int) - 1))) = false := bne_eq_false_iff_eq.mpr c11
                    clear c11
                    by_cases c12 : t250.size + 1 ≤ 9223372036854775807
                    · rw [if_pos c12] at H
                      have c12b0 := eq_true c12
                      have c12b1 : decide (t250.size + 1 ≤ 9223372036854775807) = true := decide_eq_true c12
                      try have c12b2 : (9223372036854775807 < t250.size + 1) = False := eq_false (Nat.not_lt.2 c12)
                      have H' := Aside0.mk H
                      clear H
                      have p249 : 0 ≤ (x15_1 : Int) := of_decide_eq_true (by first | (with_reducible assumption) | assumption)
                      have q249 : x15_1 < (l0.length : Int) := of_decide_eq_true (by first | (with_reducible assumption) | assumption)
                      obtain ⟨ad249, e249, hx249_0⟩ := Kd.at_int HR0.out x15_1 p249 q249
                      cases e249
                      replace hx249_0 := (HB.out.cell (World.block_lt_of_cell? w _ hx249_0)).trans hx249_0
                      replace p249 := eq_true p249
                      replace q249 := eq_true q249
                      go_wp2_with (first | ((with_reducible refine gate_callee (f := 23) rfl ?_); refine goesL_ (some 23) rfl rfl Try.func23 (by kernel_rfl) rfl #[.string x4_1, .int .i64 (rd l0 x15_1)] rfl (by (try simp only [List.map_toArray, List.map_cons, List.map_nil]); first | done | rfl | (simp only [List.length_drop, List.length_take]; rfl)) ?_; (with_reducible refine (impl_repeated.calls x4_1 (rd l0 x15_1) t250 t251 _ A10.out).mono ?_); rintro e w13 ⟨rfl, hb⟩; refine ⟨_, rfl, ?_⟩; have n0_ := Aside0.mk (blk_below (g := gb247) (o := .cells #[.string (⟨#[]⟩ : ByteArray), .string (⟨#[]⟩ : ByteArray)] 30 (0, 0)) (by (with_reducible repeat (first | refine blk_drewN ?_ _ | refine blk_drew ?_ | refine blk_alloc ?_ _)); exact BK247.out) hb); have n1_ := Aside0.mk (below_step (by repeat (first | (with_reducible first | exact HB.out | apply below_alloc | apply pw_below_drewN | apply below_drew1 | refine below_set ?_ GE247.out) | exact HB.out)) hb); clear BK247; clear HB; have BK247 := n0_; have HB := n1_; clear n0_ n1_; (try clear hb); (try clear hb2); (try clear hk); (try clear hi)))
                      go_roundg k1
                      case measure => have := HK1.out; omega
                      case rel => exact ⟨(t250 ++ (⟨#[42]⟩ : ByteArray)), (wrap64 (x15_1 + 1)), (by first | rfl | (simp; done) | (simp [*]; done)), (by first | rfl | (simp; done) | (simp [*]; done)), H', ⟨by have := HK1.out; omega⟩, ⟨by (with_reducible repeat (first | refine blk_drewN ?_ _ | refine blk_drew ?_ | refine blk_alloc ?_ _)); exact BK247.out⟩, ⟨by repeat (first | (with_reducible first | exact HB.out | apply below_alloc | apply pw_below_drewN | apply below_drew1 | refine below_set ?_ GE247.out) | exact HB.out)⟩⟩
                    · rw [if_neg c12] at H
                      exact absurd H (by simp)
                  · rw [if_neg c11] at H
                    have c11b0 : (x15_1 == (wrap64 ((l0.length : Int) - 1))) = false := beq_eq_false_iff_ne.mpr c11
                    have c11b1 : (x15_1 != (wrap64 ((l0.length : Int) - 1))) = true := bne_iff_ne.mpr c11
                    by_cases c14 : t251 = 48
                    · rw [if_pos c14] at H
                      have c14b0 : (t251 == 48) = true := beq_iff_eq.mpr c14
                      have c14b1 : (t251 != 48) = false := bne_eq_false_iff_eq.mpr c14
                      clear c14
                      by_cases c15 : t250.size + 1 ≤ 9223372036854775807
                      · rw [if_pos c15] at H
                        have c15b0 := eq_true c15
                        have c15b1 : decide (t250.size + 1 ≤ 9223372036854775807) = true := decide_eq_true c15
                        try have c15b2 : (9223372036854775807 < t250.size + 1) = False := eq_false (Nat.not_lt.2 c15)
                        have H' := Aside0.mk H
                        clear H
                        have p249 : 0 ≤ (x15_1 : Int) := of_decide_eq_true (by first | (with_reducible assumption) | assumption)
                        have q249 : x15_1 < (l0.length : Int) := of_decide_eq_true (by first | (with_reducible assumption) | assumption)
                        obtain ⟨ad249, e249, hx249_0⟩ := Kd.at_int HR0.out x15_1 p249 q249
                        cases e249
                        replace hx249_0 := (HB.out.cell (World.block_lt_of_cell? w _ hx249_0)).trans hx249_0
                        replace p249 := eq_true p249
                        replace q249 := eq_true q249
                        go_wp2_with (first | ((with_reducible refine gate_callee (f := 23) rfl ?_); refine goesL_ (some 23) rfl rfl Try.func23 (by kernel_rfl) rfl #[.string x4_1, .int .i64 (rd l0 x15_1)] rfl (by (try simp only [List.map_toArray, List.map_cons, List.map_nil]); first | done | rfl | (simp only [List.length_drop, List.length_take]; rfl)) ?_; (with_reducible refine (impl_repeated.calls x4_1 (rd l0 x15_1) t250 t251 _ A10.out).mono ?_); rintro e w16 ⟨rfl, hb⟩; refine ⟨_, rfl, ?_⟩; have n0_ := Aside0.mk (blk_below (g := gb247) (o := .cells #[.string (⟨#[]⟩ : ByteArray), .string (⟨#[]⟩ : ByteArray)] 30 (0, 0)) (by (with_reducible repeat (first | refine blk_drewN ?_ _ | refine blk_drew ?_ | refine blk_alloc ?_ _)); exact BK247.out) hb); have n1_ := Aside0.mk (below_step (by repeat (first | (with_reducible first | exact HB.out | apply below_alloc | apply pw_below_drewN | apply below_drew1 | refine below_set ?_ GE247.out) | exact HB.out)) hb); clear BK247; clear HB; have BK247 := n0_; have HB := n1_; clear n0_ n1_; (try clear hb); (try clear hb2); (try clear hk); (try clear hi)))
                        go_roundg k1
                        case measure => have := HK1.out; omega
                        case rel => exact ⟨(t250 ++ (⟨#[49]⟩ : ByteArray)), (wrap64 (x15_1 + 1)), (by first | rfl | (simp; done) | (simp [*]; done)), (by first | rfl | (simp; done) | (simp [*]; done)), H', ⟨by have := HK1.out; omega⟩, ⟨by (with_reducible repeat (first | refine blk_drewN ?_ _ | refine blk_drew ?_ | refine blk_alloc ?_ _)); exact BK247.out⟩, ⟨by repeat (first | (with_reducible first | exact HB.out | apply below_alloc | apply pw_below_drewN | apply below_drew1 | refine below_set ?_ GE247.out) | exact HB.out)⟩⟩
                      · rw [if_neg c15] at H
                        exact absurd H (by simp)
                    · rw [if_neg c14] at H
                      have c14b0 : (t251 == 48) = false := beq_eq_false_iff_ne.mpr c14
                      have c14b1 : (t251 != 48) = true := bne_iff_ne.mpr c14
                      by_cases c17 : t250.size + 1 ≤ 9223372036854775807
                      · rw [if_pos c17] at H
                        have c17b0 := eq_true c17
                        have c17b1 : decide (t250.size + 1 ≤ 9223372036854775807) = true := decide_eq_true c17
                        try have c17b2 : (9223372036854775807 < t250.size + 1) = False := eq_false (Nat.not_lt.2 c17)
                        have H' := Aside0.mk H
                        clear H
                        have p249 : 0 ≤ (x15_1 : Int) := of_decide_eq_true (by first | (with_reducible assumption) | assumption)
                        have q249 : x15_1 < (l0.length : Int) := of_decide_eq_true (by first | (with_reducible assumption) | assumption)
                        obtain ⟨ad249, e249, hx249_0⟩ := Kd.at_int HR0.out x15_1 p249 q249
                        cases e249
                        replace hx249_0 := (HB.out.cell (World.block_lt_of_cell? w _ hx249_0)).trans hx249_0
                        replace p249 := eq_true p249
                        replace q249 := eq_true q249
                        go_wp2_with (first | ((with_reducible refine gate_callee (f := 23) rfl ?_); refine goesL_ (some 23) rfl rfl Try.func23 (by kernel_rfl) rfl #[.string x4_1, .int .i64 (rd l0 x15_1)] rfl (by (try simp only [List.map_toArray, List.map_cons, List.map_nil]); first | done | rfl | (simp only [List.length_drop, List.length_take]; rfl)) ?_; (with_reducible refine (impl_repeated.calls x4_1 (rd l0 x15_1) t250 t251 _ A10.out).mono ?_); rintro e w18 ⟨rfl, hb⟩; refine ⟨_, rfl, ?_⟩; have n0_ := Aside0.mk (blk_below (g := gb247) (o := .cells #[.string (⟨#[]⟩ : ByteArray), .string (⟨#[]⟩ : ByteArray)] 30 (0, 0)) (by (with_reducible repeat (first | refine blk_drewN ?_ _ | refine blk_drew ?_ | refine blk_alloc ?_ _)); exact BK247.out) hb); have n1_ := Aside0.mk (below_step (by repeat (first | (with_reducible first | exact HB.out | apply below_alloc | apply pw_below_drewN | apply below_drew1 | refine below_set ?_ GE247.out) | exact HB.out)) hb); clear BK247; clear HB; have BK247 := n0_; have HB := n1_; clear n0_ n1_; (try clear hb); (try clear hb2); (try clear hk); (try clear hi)))
                        go_roundg k1
                        case measure => have := HK1.out; omega
                        case rel => exact ⟨(t250 ++ (⟨#[48]⟩ : ByteArray)), (wrap64 (x15_1 + 1)), (by first | rfl | (simp; done) | (simp [*]; done)), (by first | rfl | (simp; done) | (simp [*]; done)), H', ⟨by have := HK1.out; omega⟩, ⟨by (with_reducible repeat (first | refine blk_drewN ?_ _ | refine blk_drew ?_ | refine blk_alloc ?_ _)); exact BK247.out⟩, ⟨by repeat (first | (with_reducible first | exact HB.out | apply below_alloc | apply pw_below_drewN | apply below_drew1 | refine below_set ?_ GE247.out) | exact HB.out)⟩⟩
                      · rw [if_neg c17] at H
                        exact absurd H (by simp)
            · rw [if_neg c7] at H
              exact absurd H (by simp)
          · rw [if_neg c6] at H
            exact absurd H (by simp)
        · rw [if_neg c5] at H
          have c5b0 : decide (x15_1 < (l0.length : Int)) = false := decide_eq_false c5
          clear c5
          simp only [Option.some.injEq, Prod.mk.injEq] at H
          obtain ⟨rfl, rfl, rfl⟩ := H
          have hcz19_0 : wr.cell? ⟨gb247, 0, none⟩ = some (.string (⟨#[]⟩ : ByteArray)) := (blk_cell BK247.out 0).trans rfl
          have hcz19_1 : wr.cell? ⟨gb247, 1, none⟩ = some (.string (⟨#[]⟩ : ByteArray)) := (blk_cell BK247.out 1).trans rfl
          have hfz19_0 := blk_frozen BK247.out 0
          have hfz19_1 := blk_frozen BK247.out 1
          go_wp2
          refine bodyPost_ret (results_ct rfl _ _ gb247 30 #[.string (⟨#[]⟩ : ByteArray), .string x4_1] (0, 0) _ rfl (by (with_reducible repeat (first | refine blk_drewN ?_ _ | refine blk_drew ?_ | refine blk_alloc ?_ _)); refine blk_put (cs := #[.string (⟨#[]⟩ : ByteArray), .string (⟨#[]⟩ : ByteArray)]) ?_ 1 _ rfl; (with_reducible repeat (first | refine blk_drewN ?_ _ | refine blk_drew ?_ | refine blk_alloc ?_ _)); refine blk_put (cs := #[.string (⟨#[]⟩ : ByteArray), .string (⟨#[]⟩ : ByteArray)]) ?_ 0 _ rfl; (with_reducible repeat (first | refine blk_drewN ?_ _ | refine blk_drew ?_ | refine blk_alloc ?_ _)); exact BK247.out) Try.underlying30 rfl (by kernel_rfl)) rfl ?_
          exact ⟨by first | rfl | (simp [errW_none, errW_some] <;> rfl) | (simp [*, errW_none, errW_some] <;> rfl), by repeat (first | (with_reducible first | exact HB.out | apply below_alloc | apply pw_below_drewN | apply below_drew1 | refine below_set ?_ GE247.out) | exact HB.out)⟩
  · replace c3 := Bool.eq_false_iff.mpr c3
    subst c3
    have H1 : (some ((⟨#[]⟩ : ByteArray), (⟨#[]⟩ : ByteArray), 2)) = some (r1, r2, r3) := by rw [if_neg (show ¬ (false = true) by decide)] at H; exact H
    clear H
    have H := H1
    clear H1
    simp only [Option.some.injEq, Prod.mk.injEq] at H
    obtain ⟨rfl, rfl, rfl⟩ := H
    go_enter Try.func12, Try.ntmps12
    go_wp2_with (first | ((with_reducible refine gate_dst (N := 2) rfl ?_); refine box_event ?hg (N := 2) ?hd (cs := #[.string (⟨#[]⟩ : ByteArray), .string (⟨#[]⟩ : ByteArray)]) (t := 30) ?hr ?_; (case hd => rfl); (case hg => rfl); (case hr => first | (go_simp; done) | (go_simp; rfl)); intro gb247 hg w20 hbox hb; have n0_ := Aside0.mk (below_step (by repeat (first | (with_reducible first | exact HB.out | apply below_alloc | apply pw_below_drewN | apply below_drew1) | exact HB.out)) hb); have n1_ := Aside0.mk (hbox); have n2_ := Aside0.mk ((by rw [hg]; exact (below_size (by repeat (first | (with_reducible first | exact HB.out | apply below_alloc | apply pw_below_drewN | apply below_drew1) | exact HB.out))) : w.heap.size ≤ gb247)); have n3_ := Aside0.mk ((by rw [hg]; exact (below_size (by repeat (first | (with_reducible first | exact HB.out | apply below_alloc | apply pw_below_drewN | apply below_drew1) | exact HB.out))) : w.heap.size ≤ gb247)); clear HB; have HB := n0_; have BK247 := n1_; have GW247 := n2_; have GE247 := n3_; clear n0_ n1_ n2_ n3_; clear hb hbox hg) | ((with_reducible refine gate_callee (f := 22) rfl ?_); refine goesL_ (some 10) rfl rfl Try.func22 (by kernel_rfl) rfl #[.slice A0 l0.length c0] rfl (by (try simp only [List.map_toArray, List.map_cons, List.map_nil]); first | done | rfl | (simp only [List.length_drop, List.length_take]; rfl)) ?_; (with_reducible refine (impl_isAddress.calls k _ _ l0 false _ ?side1 ?side2 A2.out).mono ?_); (case side1 => repeat (first | exact (Kd.C_below HR0.out HB.out) | (with_reducible refine Kd.C_alloc ?_ _) | (with_reducible refine Kd.C_drewN ?_ _) | (with_reducible refine Kd.C_drew ?_))); (case side2 => exact HC0.out); rintro e w' ⟨rfl, ⟨nd, rfl⟩⟩; refine ⟨_, rfl, ?_⟩; (try (rw [drewN_self w20]; generalize hq_ : World.drewN w20 _ = w20; have n0_ : Aside0 (w20.heap[gb247]? = some (.cells #[.string (⟨#[]⟩ : ByteArray), .string (⟨#[]⟩ : ByteArray)] 30 (0, 0))) := ⟨by rw [← hq_]; exact (by (with_reducible repeat (first | refine blk_drewN ?_ _ | refine blk_drew ?_ | refine blk_alloc ?_ _)); exact BK247.out)⟩; have n1_ : Aside0 (Below w.heap.size w w20) := ⟨by rw [← hq_]; exact (by repeat (first | (with_reducible first | exact HB.out | apply below_alloc | apply pw_below_drewN | apply below_drew1 | refine below_set ?_ GE247.out) | exact HB.out))⟩; clear BK247 HB hq_; have BK247 := n0_; have HB := n1_; clear n0_ n1_)); have hcz21_0 : w20.cell? ⟨gb247, 0, none⟩ = some (.string (⟨#[]⟩ : ByteArray)) := (blk_cell BK247.out 0).trans rfl; have hcz21_1 : w20.cell? ⟨gb247, 1, none⟩ = some (.string (⟨#[]⟩ : ByteArray)) := (blk_cell BK247.out 1).trans rfl; have hfz21_0 := blk_frozen BK247.out 0; have hfz21_1 := blk_frozen BK247.out 1))
    refine bodyPost_ret (results_ct rfl _ _ gb247 30 #[.string (⟨#[]⟩ : ByteArray), .string (⟨#[]⟩ : ByteArray)] (0, 0) _ rfl (by (with_reducible repeat (first | refine blk_drewN ?_ _ | refine blk_drew ?_ | refine blk_alloc ?_ _)); refine blk_put (cs := #[.string (⟨#[]⟩ : ByteArray), .string (⟨#[]⟩ : ByteArray)]) ?_ 1 _ rfl; (with_reducible repeat (first | refine blk_drewN ?_ _ | refine blk_drew ?_ | refine blk_alloc ?_ _)); refine blk_put (cs := #[.string (⟨#[]⟩ : ByteArray), .string (⟨#[]⟩ : ByteArray)]) ?_ 0 _ rfl; (with_reducible repeat (first | refine blk_drewN ?_ _ | refine blk_drew ?_ | refine blk_alloc ?_ _)); exact BK247.out) Try.underlying30 rfl (by kernel_rfl)) rfl ?_
    exact ⟨by first | rfl | (simp [errW_none, errW_some] <;> rfl) | (simp [*, errW_none, errW_some] <;> rfl), by repeat (first | (with_reducible first | exact HB.out | apply below_alloc | apply pw_below_drewN | apply below_drew1 | refine below_set ?_ GE247.out) | exact HB.out)⟩

end Go.Proofs.Ytnbaembdmfiimaa.Q
end
section
/- The word of an address: both ways to build it give the same. -/
namespace Go.Proofs.Ytnbaembdmfiimaa.Q
open Go.RowKit Go.Proofs.YtnbaembdmfiimaaW.PrintWords Go.Proofs.YtnbaembdmfiimaaW.PrintLast Go.Proofs.YtnbaembdmfiimaaW.Ext
set_option linter.unusedVariables false
set_option linter.unusedSimpArgs false

theorem in_valA (n lo hi : Int) : impl_within.f n lo hi = some (decide (lo ≤ n ∧ n ≤ hi)) := by
  unfold impl_within.f
  by_cases h : lo ≤ n
  · rw [if_pos h]; congr 1; rw [decide_eq_decide]; omega
  · rw [if_neg h]; congr 1; symm; rw [decide_eq_false_iff_not]; omega
section
variable {l : List Int} (hl : l.length ≤ 1048576)
include hl
theorem addr_step_s {i : Nat} (h1 : 1 ≤ i) (hi : i < l.length) (k : Nat) : spec_l02Address.l0 (k + 1) l (i : Int) = if rd l (i : Int) ≤ rd l ((i - 1 : Nat) : Int) then some false else spec_l02Address.l0 k l ((i + 1 : Nat) : Int) := by
  rw [spec_l02Address.l0, if_pos (by omega), if_pos (by omega), wrS (x := (i : Int) - 1) (by omega) (by omega), if_pos (by omega), if_pos (by omega), wrS (x := (i : Int) + 1) (by omega) (by omega), show (i : Int) - 1 = ((i - 1 : Nat) : Int) by omega]
  rfl
theorem addr_step_i {i : Nat} (h1 : 1 ≤ i) (hi : i < l.length) (k : Nat) : impl_isAddress.l0 (k + 1) l (i : Int) = if rd l (i : Int) ≤ rd l ((i - 1 : Nat) : Int) then some false else impl_isAddress.l0 k l ((i + 1 : Nat) : Int) := by
  rw [impl_isAddress.l0, if_pos (by omega), if_pos (by omega), wrS (x := (i : Int) - 1) (by omega) (by omega), if_pos (by omega), if_pos (by omega), wrS (x := (i : Int) + 1) (by omega) (by omega), show (i : Int) - 1 = ((i - 1 : Nat) : Int) by omega]
  rfl
theorem addr_bad : ∀ d i : Nat, i + d = l.length → 1 ≤ i → (∃ t : Nat, i ≤ t ∧ t < l.length ∧ rd l (t : Int) ≤ rd l ((t - 1 : Nat) : Int)) →
    Ev (fun k => spec_l02Address.l0 k l (i : Int)) false ∧ Ev (fun k => impl_isAddress.l0 k l (i : Int)) false := by
  intro d
  induction d with
  | zero =>
    intro i h _ ht
    obtain ⟨t, t1, t2, _⟩ := ht
    omega
  | succ d ih =>
    intro i h h1 ht
    by_cases e : rd l (i : Int) ≤ rd l ((i - 1 : Nat) : Int)
    · exact ⟨Ev.step (f := fun _ => some false) (fun k => by rw [addr_step_s hl h1 (by omega), if_pos e]) (Ev.now _), Ev.step (f := fun _ => some false) (fun k => by rw [addr_step_i hl h1 (by omega), if_pos e]) (Ev.now _)⟩
    · obtain ⟨t, t1, t2, t3⟩ := ht
      have g : i + 1 ≤ t := by
        rcases Nat.lt_or_ge i t with g | g
        · exact g
        · have : t = i := by omega
          subst this
          exact absurd t3 e
      obtain ⟨a, b⟩ := ih (i + 1) (by omega) (by omega) ⟨t, g, t2, t3⟩
      exact ⟨Ev.step (f := fun k => spec_l02Address.l0 k l ((i + 1 : Nat) : Int)) (fun k => by rw [addr_step_s hl h1 (by omega), if_neg e]) a, Ev.step (f := fun k => impl_isAddress.l0 k l ((i + 1 : Nat) : Int)) (fun k => by rw [addr_step_i hl h1 (by omega), if_neg e]) b⟩
theorem addr_good : ∀ d i : Nat, i + d = l.length → 1 ≤ i → (∀ t : Nat, i ≤ t → t < l.length → rd l ((t - 1 : Nat) : Int) < rd l (t : Int)) →
    Ev (fun k => spec_l02Address.l0 k l (i : Int)) (decide (rd l ((l.length - 1 : Nat) : Int) ≤ 40)) ∧ Ev (fun k => impl_isAddress.l0 k l (i : Int)) true := by
  intro d
  induction d with
  | zero =>
    intro i h h1 _
    refine ⟨Ev.step (f := fun _ => some (decide (rd l ((l.length - 1 : Nat) : Int) ≤ 40))) (fun k => ?_) (Ev.now _), Ev.step (f := fun _ => some true) (fun k => by rw [impl_isAddress.l0, if_neg (by omega)]) (Ev.now _)⟩
    rw [spec_l02Address.l0, if_neg (by omega), wrS (x := (l.length : Int) - 1) (by omega) (by omega), if_pos (by omega), if_pos (by omega), show (l.length : Int) - 1 = ((l.length - 1 : Nat) : Int) by omega]
  | succ d ih =>
    intro i h h1 ht
    have e := ht i (Nat.le_refl _) (by omega)
    obtain ⟨a, b⟩ := ih (i + 1) (by omega) (by omega) (fun t t1 t2 => ht t (by omega) t2)
    exact ⟨Ev.step (f := fun k => spec_l02Address.l0 k l ((i + 1 : Nat) : Int)) (fun k => by rw [addr_step_s hl h1 (by omega), if_neg (by omega)]) a, Ev.step (f := fun k => impl_isAddress.l0 k l ((i + 1 : Nat) : Int)) (fun k => by rw [addr_step_i hl h1 (by omega), if_neg (by omega)]) b⟩
theorem both_addr : ∃ r : Bool, Ev (fun k => spec_l02Address.f k l) r ∧ Ev (fun k => impl_isAddress.f k l) r ∧
    (r = true → 1 ≤ l.length ∧ l.length ≤ 20 ∧ rd l 0 = 1 ∧ rd l ((l.length - 1 : Nat) : Int) ≤ 40 ∧ ∀ t : Nat, 1 ≤ t → t < l.length → rd l ((t - 1 : Nat) : Int) < rd l (t : Int)) := by
  have st : Ev (fun k => spec_l02Address.j0 k l true) false := Ev.step (f := fun _ => some false) (fun k => by rw [spec_l02Address.j0, if_pos rfl]) (Ev.now _)
  have it : Ev (fun k => impl_isAddress.j0 k l true) false := Ev.step (f := fun _ => some false) (fun k => by rw [impl_isAddress.j0, if_pos rfl]) (Ev.now _)
  have sf : ∀ r, Ev (fun k => spec_l02Address.l0 k l 1) r → Ev (fun k => spec_l02Address.j0 k l false) r := fun r h => Ev.step (f := fun k => spec_l02Address.l0 k l 1) (fun k => by rw [spec_l02Address.j0, if_neg (by decide)]) h
  have jf : ∀ r, Ev (fun k => impl_isAddress.l0 k l 1) r → Ev (fun k => impl_isAddress.j0 k l false) r := fun r h => Ev.step (f := fun k => impl_isAddress.l0 k l 1) (fun k => by rw [impl_isAddress.j0, if_neg (by decide)]) h
  by_cases hn : 1 ≤ l.length ∧ l.length ≤ 20
  · have hs : ∀ r, Ev (fun k => spec_l02Address.j0 k l (rd l 0 != 1)) r → Ev (fun k => spec_l02Address.f k l) r := by
      intro r h
      refine Ev.congr (fun k => ?_) h
      unfold spec_l02Address.f
      rw [if_neg (by omega), if_neg (by omega), if_pos (by omega)]
    have hi : ∀ r, Ev (fun k => if rd l 0 = 1 then impl_isAddress.j0 k l (decide (rd l ((l.length - 1 : Nat) : Int) > 40)) else impl_isAddress.j0 k l true) r → Ev (fun k => impl_isAddress.f k l) r := by
      intro r h
      refine Ev.congr (fun k => ?_) h
      unfold impl_isAddress.f impl_length_int64.f
      rw [Option.bind_some, in_valA, Option.bind_some, if_pos (decide_eq_true ⟨by omega, by omega⟩), if_pos (by omega), wrS (x := (l.length : Int) - 1) (by omega) (by omega), if_pos (show 0 ≤ (l.length : Int) - 1 by omega), if_pos (show (l.length : Int) - 1 < (l.length : Int) by omega), show (l.length : Int) - 1 = ((l.length - 1 : Nat) : Int) by omega]
    by_cases h0 : rd l 0 = 1
    · have e0 : (rd l 0 != 1) = false := bne_eq_false_iff_eq.2 h0
      rw [e0] at hs
      simp only [if_pos h0] at hi
      by_cases hm : ∀ t : Nat, 1 ≤ t → t < l.length → rd l ((t - 1 : Nat) : Int) < rd l (t : Int)
      · obtain ⟨g1, g2⟩ := addr_good hl (l.length - 1) 1 (by omega) (by omega) hm
        by_cases h40 : rd l ((l.length - 1 : Nat) : Int) ≤ 40
        · refine ⟨true, hs _ (sf _ ?_), hi _ ?_, fun _ => ⟨hn.1, hn.2, h0, h40, hm⟩⟩
          · rw [decide_eq_true h40] at g1; exact g1
          · rw [decide_eq_false (show ¬ rd l ((l.length - 1 : Nat) : Int) > 40 by omega)]
            exact jf _ g2
        · refine ⟨false, hs _ (sf _ ?_), hi _ ?_, by simp⟩
          · rw [decide_eq_false h40] at g1; exact g1
          · rw [decide_eq_true (show rd l ((l.length - 1 : Nat) : Int) > 40 by omega)]
            exact it
      · have hb : ∃ t : Nat, 1 ≤ t ∧ t < l.length ∧ rd l (t : Int) ≤ rd l ((t - 1 : Nat) : Int) := by
          by_cases g : ∃ t : Nat, 1 ≤ t ∧ t < l.length ∧ rd l (t : Int) ≤ rd l ((t - 1 : Nat) : Int)
          · exact g
          · exfalso
            refine hm fun t t1 t2 => ?_
            rcases Int.lt_or_le (rd l ((t - 1 : Nat) : Int)) (rd l (t : Int)) with z | z
            · exact z
            · exact absurd ⟨t, t1, t2, z⟩ g
        obtain ⟨g1, g2⟩ := addr_bad hl (l.length - 1) 1 (by omega) (by omega) hb
        refine ⟨false, hs _ (sf _ g1), hi _ ?_, by simp⟩
        cases decide (rd l ((l.length - 1 : Nat) : Int) > 40)
        · exact jf _ g2
        · exact it
    · have e0 : (rd l 0 != 1) = true := bne_iff_ne.2 h0
      rw [e0] at hs
      simp only [if_neg h0] at hi
      exact ⟨false, hs _ st, hi _ it, by simp⟩
  · refine ⟨false, ?_, ?_, by simp⟩
    · unfold spec_l02Address.f
      by_cases h1 : (l.length : Int) < 1
      · simp only [if_pos h1]; exact st
      · simp only [if_neg h1, if_pos (show (l.length : Int) > 20 by omega)]; exact st
    · unfold impl_isAddress.f impl_length_int64.f
      have e : decide (1 ≤ (l.length : Int) ∧ (l.length : Int) ≤ 20) = false := decide_eq_false (by omega)
      simp only [Option.bind_some, in_valA, e, Bool.false_eq_true, if_false]
      exact it
end
/-! ### repeating a word -/
theorem rd_get (L : List Int) (i : Nat) (hi : i < L.length) : rd L (i : Int) = L[i] := by simp [rd, hi]
def repI (W : List Int) (n : Nat) : List Int := (List.range n).map fun i => rd W ((i % W.length : Nat) : Int)
theorem repI_length (W : List Int) (n : Nat) : (repI W n).length = n := by simp [repI]
theorem ev_spec_repeated (W : List Int) (n : Nat) (hW : 1 ≤ W.length) (hW2 : W.length ≤ 1000) (hn : n ≤ 1000) : Ev (fun k => spec_l02Repeated.f k W (n : Int)) (repI W n) := by
  unfold spec_l02Repeated.f
  have key : ∀ d i : Nat, i + d = n → Ev (fun k => spec_l02Repeated.l0 k W (n : Int) (repI W i) (i : Int)) (repI W n) := by
    intro d
    induction d with
    | zero =>
      intro i h
      obtain rfl : i = n := by omega
      exact Ev.step (f := fun _ => some (repI W i)) (fun k => by rw [spec_l02Repeated.l0, if_neg (by omega)]) (Ev.now _)
    | succ d ih =>
      intro i h
      have hm := Nat.mod_lt i (show 0 < W.length by omega)
      refine Ev.step (f := fun k => spec_l02Repeated.l0 k W (n : Int) (repI W (i + 1)) ((i + 1 : Nat) : Int)) (fun k => ?_) (ih (i + 1) (by omega))
      rw [spec_l02Repeated.l0, if_pos (by omega), if_neg (by omega), tmod_nat]
      have e : repI W (i + 1) = repI W i ++ [rd W ((i % W.length : Nat) : Int)] := by simp [repI, List.range_succ]
      rw [e]
      generalize i % W.length = q at *
      rw [if_pos (by omega), if_pos (by omega), repI_length, if_pos (by omega), wrS (x := (i : Int) + 1) (by omega) (by omega)]
      rfl
  have := key n 0 (by omega)
  simpa [repI] using this
theorem bytes_ext {x : ByteArray} {L : List Int} (h : x.size = L.length) (g : ∀ i : Nat, i < x.size → bt x (i : Int) = rd L (i : Int)) : bytesOf x = L := by
  refine List.ext_getElem (by rw [bytesOf_length]; exact h) fun i h1 h2 => ?_
  rw [get_bytesOf x i h1, g i (by rw [h]; exact h2), rd_get L i h2]
theorem bt_bytes {x : ByteArray} {L : List Int} (h : bytesOf x = L) (i : Nat) (hi : i < x.size) : bt x (i : Int) = rd L (i : Int) := by
  have hl : i < (bytesOf x).length := by rw [bytesOf_length]; exact hi
  subst h
  rw [rd_get _ i hl, get_bytesOf x i hl]
theorem nums_bytes (x : ByteArray) : strOfNums (bytesOf x) = x := by
  apply ByteArray.ext
  apply Array.ext'
  rw [strOfNums_data]
  unfold bytesOf
  rw [List.map_map]
  conv => rhs; rw [← List.map_id x.data.toList]
  refine List.map_congr_left fun b _ => ?_
  simp
theorem bytes_append (x y : ByteArray) : bytesOf (x ++ y) = bytesOf x ++ bytesOf y := by simp [bytesOf]
theorem repeated_val (s : ByteArray) (n : Nat) (h1 : 1 ≤ s.size) (h2 : s.size ≤ 40) (n1 : 1 ≤ n) (n2 : n ≤ 40) :
    ∃ front : ByteArray, impl_repeated.f s (n : Int) = some (front, rd (repI (bytesOf s) n) ((n - 1 : Nat) : Int)) ∧ bytesOf front = (repI (bytesOf s) n).take (n - 1) := by
  obtain ⟨c, hc⟩ : ∃ c : Nat, n / s.size + 1 = c := ⟨_, rfl⟩
  have hq : n / s.size ≤ n := Nat.div_le_self _ _
  have hdm := Nat.div_add_mod n s.size
  have hml := Nat.mod_lt n (show 0 < s.size by omega)
  have hcn : n ≤ c * s.size := by
    rw [← hc, Nat.add_mul, Nat.one_mul, Nat.mul_comm]
    omega
  have hcs : c * s.size ≤ 41 * 40 := Nat.mul_le_mul (by omega) h2
  obtain ⟨all, hall⟩ : ∃ all, Go.Proofs.Ytnbaembdmfiimaa.Rep.val s (c : Int) = all := ⟨_, rfl⟩
  have hL : s.data.toList.length = s.size := (Lib.size_eq s).symm
  have hdat : all.data.toList = Lib.repeatL s.data.toList c := by rw [← hall]; unfold Go.Proofs.Ytnbaembdmfiimaa.Rep.val; simp
  have hsz : all.size = c * s.size := by rw [Lib.size_eq, hdat, Lib.repeatL_length, hL]
  have hget : ∀ i : Nat, i < n → bt all (i : Int) = rd (repI (bytesOf s) n) (i : Int) := by
    intro i hi
    have hm := Nat.mod_lt i (show 0 < s.size by omega)
    have e1 : bt all (i : Int) = bt s ((i % s.size : Nat) : Int) := by
      rw [bt_eq all s i (i % s.size) (by omega) hm, hdat, rep_get _ (by omega) _ _ (by rw [hL]; omega), hL]
    rw [e1, rd_get _ i (by rw [repI_length]; exact hi)]
    simp only [repI, List.getElem_map, List.getElem_range, bytesOf_length]
    exact bt_bytes rfl _ hm
  refine ⟨all.extract 0 (n - 1), ?_, ?_⟩
  · unfold impl_repeated.f strings_Repeat.f
    have ed : Int.tdiv (n : Int) (s.size : Int) = ((n / s.size : Nat) : Int) := by
      rw [Int.tdiv_eq_ediv_of_nonneg (by omega)]
      exact (Int.natCast_ediv _ _).symm
    rw [if_neg (by omega), ed]
    generalize n / s.size = q at *
    rw [wrS (x := (q : Int)) (by omega) (by omega), wrS (x := (q : Int) + 1) (by omega) (by omega), show (q : Int) + 1 = (c : Int) by omega, Int.toNat_natCast, if_pos ⟨by omega, by omega, by rw [Nat.mul_comm]; omega⟩, hall, Option.bind_some, wrS (x := (n : Int) - 1) (by omega) (by omega), show (n : Int) - 1 = ((n - 1 : Nat) : Int) by omega, if_pos (by omega), if_pos (by omega), if_pos (by omega), Int.toNat_natCast, hget (n - 1) (by omega)]
  · have hfs : (all.extract 0 (n - 1)).size = n - 1 := by simp; omega
    refine bytes_ext (by rw [hfs, List.length_take, repI_length]; omega) fun i hi => ?_
    rw [hfs] at hi
    have e : bt (all.extract 0 (n - 1)) (i : Int) = bt all (i : Int) := by
      rw [bt_eq _ all i i (by omega) (by omega), Lib.extract_data]
      simp only [List.drop_zero, Nat.sub_zero, List.getElem?_take, if_pos hi]
    rw [e, hget i (by omega), rd_get _ i (by rw [repI_length]; omega), rd_get _ i (by rw [List.length_take, repI_length]; omega), List.getElem_take]
theorem set_last (L : List Int) (n : Nat) (h : L.length = n) (h1 : 1 ≤ n) (x : Int) : L.set (n - 1) x = L.take (n - 1) ++ [x] := by
  rw [List.set_eq_take_append_cons_drop, if_pos (by omega), List.drop_of_length_le (by omega)]
theorem repI_two {W : List Int} {n : Nat} (hW : 1 ≤ W.length) (h : ∀ x ∈ W, x = 48 ∨ x = 49) : ∀ x ∈ repI W n, x = 48 ∨ x = 49 := by
  intro x hx
  unfold repI at hx
  obtain ⟨i, _, rfl⟩ := List.mem_map.1 hx
  have hm := Nat.mod_lt i (show 0 < W.length by omega)
  rw [rd_get W _ hm]
  exact h _ (List.getElem_mem hm)
/-- The two loops over an address. -/
theorem both_words {l : List Int} (l1 : 2 ≤ l.length) (l2 : l.length ≤ 20) (hb : ∀ t : Nat, 1 ≤ t → t < l.length → 1 ≤ rd l (t : Int) ∧ rd l (t : Int) ≤ 40) :
    ∀ (d i : Nat) (w : ByteArray), i + d = l.length - 1 → 1 ≤ i → 1 ≤ w.size → w.size ≤ 40 → (∀ x ∈ bytesOf w, x = 48 ∨ x = 49) →
      ∃ r : ByteArray, Ev (fun k => spec_SequenceOfAddress.l0 k l (bytesOf w) (i : Int)) ((⟨#[]⟩ : ByteArray), r, 0) ∧ Ev (fun k => impl_SequenceOfAddress.l0 k l w l (l.length : Int) (i : Int)) ((⟨#[]⟩ : ByteArray), r, 0) := by
  intro d
  induction d with
  | zero =>
    intro i w h h1 w1 w2 hw
    have hbi := hb i h1 (by omega)
    obtain ⟨n, hn⟩ := Int.eq_ofNat_of_zero_le (show 0 ≤ rd l (i : Int) by omega)
    obtain ⟨front, f1, f2⟩ := repeated_val w n w1 w2 (by omega) (by omega)
    have hs := ev_spec_repeated (bytesOf w) n (by rw [bytesOf_length]; exact w1) (by rw [bytesOf_length]; omega) (by omega)
    have hlen := repI_length (bytesOf w) n
    have hfs : front.size = n - 1 := by rw [← bytesOf_length, f2, List.length_take, hlen]; omega
    have hr : strOfNums ((repI (bytesOf w) n).set (n - 1) 42) = front ++ (⟨#[42]⟩ : ByteArray) := by
      rw [set_last _ n hlen (by omega), ← f2, ← nums_bytes (front ++ (⟨#[42]⟩ : ByteArray)), bytes_append]
      rfl
    refine ⟨front ++ (⟨#[42]⟩ : ByteArray), ?_, ?_⟩
    · refine Ev.step (f := fun k => (spec_l02Repeated.f k (bytesOf w) (n : Int)).bind fun t227 => if 0 ≤ (wrap64 ((t227.length : Int) - 1)) then (if (wrap64 ((t227.length : Int) - 1)) < (t227.length : Int) then (some ((⟨#[]⟩ : ByteArray), strOfNums (t227.set ((wrap64 ((t227.length : Int) - 1)) : Int).toNat 42), 0)) else (none)) else (none)) (fun k => ?_) (Ev.bind hs ?_)
      · rw [spec_SequenceOfAddress.l0, wrS (x := (l.length : Int) - 1) (by omega) (by omega), if_neg (by omega), if_pos (by omega), if_pos (by omega), if_pos (by omega), show (l.length : Int) - 1 = (i : Int) by omega, hn]
      · rw [hlen, wrS (x := (n : Int) - 1) (by omega) (by omega), if_pos (by omega), if_pos (by omega), show ((n : Int) - 1).toNat = n - 1 by omega, hr]
        exact Ev.now _
    · refine Ev.step (f := fun k => impl_SequenceOfAddress.l0 k l (front ++ (⟨#[42]⟩ : ByteArray)) l (l.length : Int) ((i + 1 : Nat) : Int)) (fun k => ?_) ?_
      · rw [impl_SequenceOfAddress.l0, if_pos (by omega), if_pos (by omega), if_pos (by omega), if_neg (by omega), if_neg (by omega), hn, f1, Option.bind_some, wrS (x := (l.length : Int) - 1) (by omega) (by omega), if_pos (by omega), if_pos (by simp only; omega), wrS (x := (i : Int) + 1) (by omega) (by omega)]
        rfl
      · exact Ev.step (f := fun _ => some ((⟨#[]⟩ : ByteArray), front ++ (⟨#[42]⟩ : ByteArray), 0)) (fun k => by rw [impl_SequenceOfAddress.l0, if_neg (by omega)]) (Ev.now _)
  | succ d ih =>
    intro i w h h1 w1 w2 hw
    have hbi := hb i h1 (by omega)
    obtain ⟨n, hn⟩ := Int.eq_ofNat_of_zero_le (show 0 ≤ rd l (i : Int) by omega)
    obtain ⟨front, f1, f2⟩ := repeated_val w n w1 w2 (by omega) (by omega)
    have hW : 1 ≤ (bytesOf w).length := by rw [bytesOf_length]; exact w1
    have hs := ev_spec_repeated (bytesOf w) n hW (by rw [bytesOf_length]; omega) (by omega)
    have hlen := repI_length (bytesOf w) n
    have two := repI_two (n := n) hW hw
    have hfs : front.size = n - 1 := by rw [← bytesOf_length, f2, List.length_take, hlen]; omega
    obtain ⟨x, hx⟩ : ∃ x, rd (repI (bytesOf w) n) ((n - 1 : Nat) : Int) = x := ⟨_, rfl⟩
    have hx2 : x = 48 ∨ x = 49 := by
      rw [← hx, rd_get _ (n - 1) (by rw [hlen]; omega)]
      exact two _ (List.getElem_mem _)
    obtain ⟨y, hy, hy2⟩ : ∃ y : ByteArray, y = (if x = 48 then (⟨#[49]⟩ : ByteArray) else ⟨#[48]⟩) ∧ bytesOf y = [(97 - x) % 256] := by
      refine ⟨_, rfl, ?_⟩
      rcases hx2 with rfl | rfl <;> rfl
    have hys : y.size = 1 := by rw [← bytesOf_length, hy2]; rfl
    have hr : (repI (bytesOf w) n).set (n - 1) ((97 - x) % 256) = bytesOf (front ++ y) := by
      rw [set_last _ n hlen (by omega), ← f2, bytes_append, hy2]
    have hws : (front ++ y).size = n := by rw [ByteArray.size_append, hfs, hys]; omega
    obtain ⟨r, r1, r2⟩ := ih (i + 1) (front ++ y) (by omega) (by omega) (by omega) (by omega) (by
      intro z hz
      rw [bytes_append, List.mem_append] at hz
      rcases hz with hz | hz
      · rw [f2] at hz
        exact two z (List.mem_of_mem_take hz)
      · rw [hy2] at hz
        obtain rfl := List.mem_singleton.1 hz
        rcases hx2 with rfl | rfl
        · right; rfl
        · left; rfl)
    refine ⟨r, ?_, ?_⟩
    · refine Ev.step (f := fun k => (spec_l02Repeated.f k (bytesOf w) (n : Int)).bind fun t221 => if 0 ≤ (wrap64 ((t221.length : Int) - 1)) then (if (wrap64 ((t221.length : Int) - 1)) < (t221.length : Int) then (spec_SequenceOfAddress.l0 k l (t221.set ((wrap64 ((t221.length : Int) - 1)) : Int).toNat ((97 - (rd t221 (wrap64 ((t221.length : Int) - 1)))) % 256)) ((i + 1 : Nat) : Int)) else (none)) else (none)) (fun k => ?_) (Ev.bind hs ?_)
      · rw [spec_SequenceOfAddress.l0, wrS (x := (l.length : Int) - 1) (by omega) (by omega), if_pos (by omega), if_pos (by omega), if_pos (by omega), hn, wrS (x := (i : Int) + 1) (by omega) (by omega)]
        rfl
      · rw [hlen, wrS (x := (n : Int) - 1) (by omega) (by omega)]
        simp only [if_pos (show 0 ≤ (n : Int) - 1 by omega), if_pos (show (n : Int) - 1 < (n : Int) by omega)]
        rw [show ((n : Int) - 1).toNat = n - 1 by omega, show (n : Int) - 1 = ((n - 1 : Nat) : Int) by omega, hx, hr]
        exact r1
    · refine Ev.step (f := fun k => impl_SequenceOfAddress.l0 k l (front ++ y) l (l.length : Int) ((i + 1 : Nat) : Int)) (fun k => ?_) r2
      rw [impl_SequenceOfAddress.l0, if_pos (by omega), if_pos (by omega), if_pos (by omega), if_neg (by omega), if_neg (by omega), hn, f1, Option.bind_some, wrS (x := (l.length : Int) - 1) (by omega) (by omega), if_neg (by omega), hx, wrS (x := (i : Int) + 1) (by omega) (by omega), hy]
      simp only [hfs, if_pos (show n - 1 + 1 ≤ 9223372036854775807 by omega)]
      by_cases z : x = 48
      · rw [if_pos z, if_pos z]; rfl
      · rw [if_neg z, if_neg z]; rfl
end Go.Proofs.Ytnbaembdmfiimaa.Q
end
section
/- All words of a length: counting and doubling give the same list. -/
namespace Go.Proofs.Ytnbaembdmfiimaa.Q
open Go.RowKit Go.Proofs.YtnbaembdmfiimaaW.PrintWords Go.Proofs.YtnbaembdmfiimaaW.PrintLast Go.Proofs.YtnbaembdmfiimaaW.PrintMore Go.Proofs.YtnbaembdmfiimaaW.Ext
set_option linter.unusedVariables false
set_option linter.unusedSimpArgs false

/-- The word with t digits, the number k. -/
def wordL : Nat → Nat → List Int
  | 0, _ => [49]
  | t + 1, k => wordL t (k / 2) ++ [48 + ((k % 2 : Nat) : Int)]
theorem wordL_length : ∀ t k, (wordL t k).length = t + 1 := by
  intro t
  induction t with
  | zero => intro k; rfl
  | succ t ih => intro k; simp [wordL, ih]
theorem wordL_two : ∀ t k, ∀ x ∈ wordL t k, x = 48 ∨ x = 49 := by
  intro t
  induction t with
  | zero => intro k x hx; right; simpa [wordL] using hx
  | succ t ih =>
    intro k x hx
    unfold wordL at hx
    rcases List.mem_append.1 hx with h | h
    · exact ih _ x h
    · obtain rfl := List.mem_singleton.1 h
      omega
theorem bit_val : ∀ k : Fin 256, ∀ j : Fin 8, (wrap64 (48 + (Go.bits .and .i64 (shr .i64 ((k.val : Nat) : Int) (IntKind.u64.wrap ((j.val : Nat) : Int))) 1))) % 256 = 48 + ((k.val / 2 ^ j.val % 2 : Nat) : Int) := by decide +kernel
theorem u64_small (j : Nat) (h : j ≤ 100) : IntKind.u64.wrap (j : Int) = (j : Int) := by simp [IntKind.wrap, IntKind.bits, IntKind.signed]; omega
def wordB (t k : Nat) : ByteArray := strOfNums (wordL t k)
theorem bytes_word (t k : Nat) : bytesOf (wordB t k) = wordL t k := by
  unfold wordB bytesOf
  rw [strOfNums_data, List.map_map]
  conv => rhs; rw [← List.map_id (wordL t k)]
  refine List.map_congr_left fun x hx => ?_
  rcases wordL_two t k x hx with rfl | rfl <;> rfl
theorem word_size (t k : Nat) : (wordB t k).size = t + 1 := by rw [← bytesOf_length, bytes_word, wordL_length]
theorem word_step (t k : Nat) : wordB (t + 1) (2 * k) = wordB t k ++ (⟨#[48]⟩ : ByteArray) ∧ wordB (t + 1) (2 * k + 1) = wordB t k ++ (⟨#[49]⟩ : ByteArray) := by
  constructor
  · rw [← nums_bytes (wordB t k ++ (⟨#[48]⟩ : ByteArray)), bytes_append, bytes_word]
    unfold wordB
    rw [wordL, show 2 * k / 2 = k by omega, show 2 * k % 2 = 0 by omega]
    rfl
  · rw [← nums_bytes (wordB t k ++ (⟨#[49]⟩ : ByteArray)), bytes_append, bytes_word]
    unfold wordB
    rw [wordL, show (2 * k + 1) / 2 = k by omega, show (2 * k + 1) % 2 = 1 by omega]
    rfl
def words (t : Nat) : List ByteArray := (List.range (2 ^ t)).map (wordB t)
theorem words_length (t : Nat) : (words t).length = 2 ^ t := by simp [words]
theorem words_get (t i : Nat) (h : i < 2 ^ t) : rdOf ByteArray.empty (words t) (i : Int) = wordB t i := by
  simp [rdOf, words, h]
/-- The words with one digit more, of the first m words. -/
theorem words_take (t m : Nat) (h : m < 2 ^ t) : (words (t + 1)).take (2 * (m + 1)) = (words (t + 1)).take (2 * m) ++ [wordB t m ++ (⟨#[48]⟩ : ByteArray), wordB t m ++ (⟨#[49]⟩ : ByteArray)] := by
  have h2 : 2 ^ (t + 1) = 2 ^ t * 2 := Nat.pow_succ 2 t
  have l1 : 2 * m < (words (t + 1)).length := by rw [words_length]; omega
  have l2 : 2 * m + 1 < (words (t + 1)).length := by rw [words_length]; omega
  rw [show 2 * (m + 1) = (2 * m + 1) + 1 by omega, List.take_succ_eq_append_getElem l2, List.take_succ_eq_append_getElem l1, ← (word_step t m).1, ← (word_step t m).2]
  simp [words]
/-! ### a word with its star -/
theorem both_word (t k : Nat) (ht : t ≤ 10) : ∃ r : Bool, Ev (fun n => spec_l02Good.f n (⟨#[]⟩ : ByteArray) (wordB t k ++ (⟨#[42]⟩ : ByteArray))) r ∧ Ev (fun n => impl_Sequence_isAdmissible.f n (⟨#[]⟩ : ByteArray) (wordB t k ++ (⟨#[42]⟩ : ByteArray))) r := by
  have hb : bytesOf (wordB t k ++ (⟨#[42]⟩ : ByteArray)) = wordL t k ++ [42] := by rw [bytes_append, bytes_word]; rfl
  have hs : (wordB t k ++ (⟨#[42]⟩ : ByteArray)).size = t + 2 := by rw [← bytesOf_length, hb, List.length_append, wordL_length]; rfl
  have hl := wordL_length t k
  refine both_good (by omega) (by rw [hs]; show 0 + (t + 2) ≤ 64; omega) rfl ?_ ?_
  · rw [hs, bt_bytes hb (t + 2 - 1) (by omega), rd_get _ (t + 2 - 1) (by rw [List.length_append, hl]; simp)]
    rw [List.getElem_append_right (by rw [hl]; omega)]
    simp [hl]
  · intro i hi
    rw [hs] at hi
    rw [bt_bytes hb i (by omega), rd_get _ i (by rw [List.length_append, hl]; simp; omega), List.getElem_append_left (by rw [hl]; omega)]
    rcases wordL_two t k _ (List.getElem_mem (l := wordL t k) (n := i) (by rw [hl]; omega)) with z | z <;> rw [z] <;> decide
end Go.Proofs.Ytnbaembdmfiimaa.Q
end
section
/- The admissible words of a length: both ways to list them give the same. -/
namespace Go.Proofs.Ytnbaembdmfiimaa.Q
open Go.RowKit Go.Proofs.YtnbaembdmfiimaaW.PrintWords Go.Proofs.YtnbaembdmfiimaaW.PrintLast Go.Proofs.YtnbaembdmfiimaaW.PrintMore Go.Proofs.YtnbaembdmfiimaaW.Ext
set_option linter.unusedVariables false
set_option linter.unusedSimpArgs false

theorem shl_val : ∀ t : Fin 9, shl .i64 1 (IntKind.u64.wrap ((t.val : Nat) : Int)) = ((2 ^ t.val : Nat) : Int) := by decide +kernel
theorem u64_pos : ∀ t : Fin 9, (0 : Int) ≤ IntKind.u64.wrap ((t.val : Nat) : Int) := by decide +kernel
theorem ev_bits {t kk : Nat} {n : Int} {out : List ByteArray} {r : List ByteArray × Int} (ht : t ≤ 8) (hk : kk < 256)
    (hr : Ev (fun k => spec_AdmissibleWords.l1 k n out (kk : Int) (wordL t kk) (-1)) r) :
    ∀ j, j ≤ t → Ev (fun k => spec_AdmissibleWords.l1 k n out (kk : Int) (wordL (t - j) (kk / 2 ^ j)) ((j : Int) - 1)) r := by
  intro j
  induction j with
  | zero => intro _; simpa using hr
  | succ j ih =>
    intro hj
    have hb := bit_val ⟨kk, hk⟩ ⟨j, by omega⟩
    have hu := u64_pos ⟨j, by omega⟩
    simp only at hb hu
    refine Ev.step (f := fun k => spec_AdmissibleWords.l1 k n out (kk : Int) (wordL (t - j) (kk / 2 ^ j)) ((j : Int) - 1)) (fun k => ?_) (ih (by omega))
    have hl := wordL_length (t - (j + 1)) (kk / 2 ^ (j + 1))
    rw [spec_AdmissibleWords.l1, show ((j + 1 : Nat) : Int) - 1 = (j : Int) by omega, if_pos (by omega), if_pos hu, if_pos (by rw [hl]; omega), hb, wrS (x := (j : Int) - 1) (by omega) (by omega)]
    have e : wordL (t - j) (kk / 2 ^ j) = wordL (t - (j + 1)) (kk / 2 ^ (j + 1)) ++ [48 + ((kk / 2 ^ j % 2 : Nat) : Int)] := by
      rw [show t - j = (t - (j + 1)) + 1 by omega, wordL, Nat.div_div_eq_div_mul, ← Nat.pow_succ]
    rw [e]
theorem both_filter {t : Nat} {n : Int} (ht : t ≤ 8) (hn : n = (t : Int) + 2) : ∀ (d kk : Nat) (out : List ByteArray), kk + d = 2 ^ t → out.length ≤ kk →
    ∃ r : List ByteArray, r.length ≤ 2 ^ t ∧ Ev (fun k => spec_AdmissibleWords.l0 k n out (kk : Int)) (r, 0) ∧ Ev (fun k => impl_AdmissibleWords.l2 k out (words t) ((2 ^ t : Nat) : Int) (kk : Int)) (r, 0) := by
  have h8 : 2 ^ t ≤ 256 := Nat.pow_le_pow_right (n := 2) (by omega) ht
  have hs := shl_val ⟨t, by omega⟩
  have hu := u64_pos ⟨t, by omega⟩
  simp only at hs hu
  have hw : wrap64 (n - 2) = (t : Int) := by rw [wrS (by omega) (by omega)]; omega
  intro d
  induction d with
  | zero =>
    intro kk out h hl
    refine ⟨out, by omega, ?_, ?_⟩
    · refine Ev.step (f := fun _ => some (out, 0)) (fun k => ?_) (Ev.now _)
      rw [spec_AdmissibleWords.l0, hw, if_pos hu, hs, if_neg (by omega)]
    · exact Ev.step (f := fun _ => some (out, 0)) (fun k => by rw [impl_AdmissibleWords.l2, if_neg (by omega)]) (Ev.now _)
  | succ d ih =>
    intro kk out h hl
    obtain ⟨q, q1, q2⟩ := both_word t kk (by omega)
    have sz := word_size t kk
    obtain ⟨r, r0, r1, r2⟩ := ih (kk + 1) (if q = true then out ++ [wordB t kk ++ (⟨#[42]⟩ : ByteArray)] else out) (by omega) (by split <;> (try simp) <;> omega)
    refine ⟨r, r0, ?_, ?_⟩
    · have hin : Ev (fun k => spec_AdmissibleWords.l1 k n out (kk : Int) (wordL t kk) (-1)) (r, 0) := by
        refine Ev.step (f := fun k => (spec_l02Good.f k (⟨#[]⟩ : ByteArray) (wordB t kk ++ (⟨#[42]⟩ : ByteArray))).bind fun t141 => if t141 = true then spec_AdmissibleWords.l0 k n (out ++ [wordB t kk ++ (⟨#[42]⟩ : ByteArray)]) ((kk + 1 : Nat) : Int) else spec_AdmissibleWords.l0 k n out ((kk + 1 : Nat) : Int)) (fun k => ?_) ?_
        · rw [spec_AdmissibleWords.l1, if_neg (by omega)]
          show (if (wordB t kk).size + 1 ≤ 9223372036854775807 then _ else _) = _
          rw [if_pos (by omega), if_pos (show out.length < 8796093022208 by omega), wrS (x := (kk : Int) + 1) (by omega) (by omega)]
          rfl
        · refine Ev.bind q1 ?_
          cases q
          · simpa using r1
          · simpa using r1
      have hb := ev_bits ht (show kk < 256 by omega) hin t (Nat.le_refl _)
      rw [Nat.sub_self, show wordL 0 (kk / 2 ^ t) = ([49] : List Int) from rfl] at hb
      refine Ev.step (f := fun k => spec_AdmissibleWords.l1 k n out (kk : Int) ([49] : List Int) ((t : Int) - 1)) (fun k => ?_) hb
      rw [spec_AdmissibleWords.l0, hw, if_pos hu, hs, if_pos (by omega), wrS (x := n - 3) (by omega) (by omega), show n - 3 = (t : Int) - 1 by omega]
    · refine Ev.step (f := fun k => (impl_Sequence_isAdmissible.f k (⟨#[]⟩ : ByteArray) (wordB t kk ++ (⟨#[42]⟩ : ByteArray))).bind fun t141 => if t141 = true then impl_AdmissibleWords.l2 k (out ++ [wordB t kk ++ (⟨#[42]⟩ : ByteArray)]) (words t) ((2 ^ t : Nat) : Int) ((kk + 1 : Nat) : Int) else impl_AdmissibleWords.l2 k out (words t) ((2 ^ t : Nat) : Int) ((kk + 1 : Nat) : Int)) (fun k => ?_) ?_
      · rw [impl_AdmissibleWords.l2, if_pos (by omega), if_pos (by omega), if_pos (by rw [words_length]; omega), words_get t kk (by omega), if_pos (by omega), if_pos (show out.length < 8796093022208 by omega), wrS (x := (kk : Int) + 1) (by omega) (by omega)]
        rfl
      · refine Ev.bind q2 ?_
        cases q
        · simpa using r2
        · simpa using r2
/-- The doubling of the list of words. -/
theorem ev_double {n : Int} {s i : Nat} {x16 : Int} {r : List ByteArray × Int} (hi : i ≤ 8) (hr : Ev (fun k => impl_AdmissibleWords.l0 k n (words (i + 1)) x16 ((i + 1 : Nat) : Int)) r) :
    ∀ d m : Nat, m + d = 2 ^ i → Ev (fun k => impl_AdmissibleWords.l1 k n ((words (i + 1)).take (2 * m)) x16 (i : Int) (words i) ((2 ^ i : Nat) : Int) (m : Int)) r := by
  have h8 : 2 ^ i ≤ 256 := Nat.pow_le_pow_right (n := 2) (by omega) hi
  intro d
  induction d with
  | zero =>
    intro m h
    refine Ev.step (f := fun k => impl_AdmissibleWords.l0 k n (words (i + 1)) x16 ((i + 1 : Nat) : Int)) (fun k => ?_) hr
    rw [impl_AdmissibleWords.l1, if_neg (by omega), wrS (x := (i : Int) + 1) (by omega) (by omega), List.take_of_length_le (by rw [words_length, Nat.pow_succ]; omega)]
    rfl
  | succ d ih =>
    intro m h
    have sz := word_size i m
    refine Ev.step (f := fun k => impl_AdmissibleWords.l1 k n ((words (i + 1)).take (2 * (m + 1))) x16 (i : Int) (words i) ((2 ^ i : Nat) : Int) ((m + 1 : Nat) : Int)) (fun k => ?_) (ih (m + 1) (by omega))
    have hl : ((words (i + 1)).take (2 * m)).length ≤ 2 * m := by simp; omega
    rw [impl_AdmissibleWords.l1, if_pos (by omega), if_pos (by omega), if_pos (by rw [words_length]; omega), words_get i m (by omega), if_pos (by omega), Option.bind_some, words_take i m (by omega)]
    rw [if_pos (by show _ + 2 < _; omega), wrS (x := (m : Int) + 1) (by omega) (by omega)]
    rfl
theorem ev_words {t : Nat} {n : Int} (ht : t ≤ 8) (hn : n = (t : Int) + 2) {r : List ByteArray × Int} (hr : Ev (fun k => impl_AdmissibleWords.l2 k ([] : List ByteArray) (words t) ((2 ^ t : Nat) : Int) 0) r) :
    ∀ d i : Nat, i + d = t → Ev (fun k => impl_AdmissibleWords.l0 k n (words i) (t : Int) (i : Int)) r := by
  intro d
  induction d with
  | zero =>
    intro i h
    obtain rfl : i = t := by omega
    refine Ev.step (f := fun k => impl_AdmissibleWords.j2 k (words i)) (fun k => ?_) (Ev.step (f := fun k => impl_AdmissibleWords.l2 k ([] : List ByteArray) (words i) ((2 ^ i : Nat) : Int) 0) (fun k => ?_) hr)
    · rw [impl_AdmissibleWords.l0, if_neg (by omega), if_neg (by omega)]
    · rw [impl_AdmissibleWords.j2, words_length]
  | succ d ih =>
    intro i h
    have hd := ev_double (s := 0) (n := n) (x16 := (t : Int)) (show i ≤ 8 by omega) (ih (i + 1) (by omega)) (2 ^ i) 0 (by omega)
    refine Ev.step (f := fun k => impl_AdmissibleWords.l1 k n ([] : List ByteArray) (t : Int) (i : Int) (words i) ((2 ^ i : Nat) : Int) 0) (fun k => ?_) hd
    rw [impl_AdmissibleWords.l0, if_pos (by omega), words_length]
end Go.Proofs.Ytnbaembdmfiimaa.Q
end
section
/- What the laws ask of lists of strings: equal lists, marks laid and found again. -/
namespace Go.Proofs.Ytnbaembdmfiimaa.Q
open Go.RowKit Go.Proofs.YtnbaembdmfiimaaW.PrintWords Go.Proofs.YtnbaembdmfiimaaW.PrintLast Go.Proofs.YtnbaembdmfiimaaW.Ext
set_option linter.unusedVariables false
set_option linter.unusedSimpArgs false

theorem text_some : ∀ c : Fin 1001, (laws_markText.f 8 ((c.val : Nat) : Int)).isSome = true := by decide +kernel
def txt (c : Nat) : ByteArray := (laws_markText.f 8 (c : Int)).getD ⟨#[]⟩
theorem ev_text (c : Nat) (hc : c ≤ 1000) : Ev (fun k => laws_markText.f k (c : Int)) (txt c) := by
  refine Ev.of (fun k => laws_markText.mono _ k) (k := 8) ?_
  have h := text_some ⟨c, by omega⟩
  obtain ⟨s, hs⟩ := Option.isSome_iff_exists.1 h
  show laws_markText.f 8 (c : Int) = some (txt c)
  unfold txt
  rw [hs]
  rfl
theorem rds_at (pre rest : List ByteArray) (x : ByteArray) : rdOf ByteArray.empty (pre ++ x :: rest) (pre.length : Int) = x := by simp [rdOf]
theorem sets_at {α : Type} (pre rest : List α) (x y : α) : (pre ++ x :: rest).set pre.length y = pre ++ y :: rest := by simp
theorem ev_eqStringS (l : List ByteArray) (hl : l.length ≤ 900) : Ev (fun k => laws_eqStringS.f k l l) true := by
  unfold laws_eqStringS.f
  simp only [if_true]
  have key : ∀ (rest pre : List ByteArray), (pre ++ rest).length ≤ 900 → Ev (fun k => laws_eqStringS.l0 k (pre ++ rest) (pre ++ rest) (pre.length : Int)) true := by
    intro rest
    induction rest with
    | nil =>
      intro pre _
      exact Ev.step (f := fun _ => some true) (fun k => by simp [laws_eqStringS.l0]) (Ev.now _)
    | cons x xs ih =>
      intro pre hp
      have hlen : (pre.length : Int) < ((pre ++ x :: xs).length : Int) := by simp <;> omega
      have hp2 : (pre.length : Int) ≤ 900 := by simp at hp; omega
      refine Ev.step (f := fun k => laws_eqStringS.l0 k (pre ++ x :: xs) (pre ++ x :: xs) ((pre ++ [x]).length : Int)) (fun k => ?_) ?_
      · rw [laws_eqStringS.l0, if_pos hlen, if_pos (by omega), if_pos hlen, rds_at, if_pos rfl, wrS (by omega) (by omega)]
        simp
      · have := ih (pre ++ [x]) (by simpa using hp)
        simpa using this
  simpa using key l [] (by simpa using hl)
def markedT : Nat → List ByteArray → List ByteArray
  | _, [] => []
  | c, _ :: xs => txt c :: markedT (c + 1) xs
theorem ev_markStringS (l : List ByteArray) (hl : l.length ≤ 900) : Ev (fun k => laws_markStringS.f k l 1) (1 + (l.length : Int), markedT 1 l) := by
  unfold laws_markStringS.f
  have key : ∀ (rest pre : List ByteArray) (c : Nat), c ≤ 1 + pre.length → (pre ++ rest).length ≤ 900 →
      Ev (fun k => laws_markStringS.l0 k (pre ++ rest) (c : Int) (pre.length : Int)) ((c : Int) + (rest.length : Int), pre ++ markedT c rest) := by
    intro rest
    induction rest with
    | nil =>
      intro pre c _ _
      exact Ev.step (f := fun _ => some ((c : Int) + (([] : List ByteArray).length : Int), pre ++ markedT c [])) (fun k => by simp [laws_markStringS.l0, markedT]) (Ev.now _)
    | cons x xs ih =>
      intro pre c h1 hp
      have hlen : (pre.length : Int) < ((pre ++ x :: xs).length : Int) := by simp <;> omega
      have hp2 : (pre.length : Int) ≤ 900 := by simp at hp; omega
      refine Ev.step (f := fun k => (laws_markText.f k (c : Int)).bind fun t => laws_markStringS.l0 k (pre ++ t :: xs) ((c + 1 : Nat) : Int) ((pre.length + 1 : Nat) : Int)) (fun k => ?_) ?_
      · rw [laws_markStringS.l0, if_pos hlen]
        simp only [if_pos (show 0 ≤ (pre.length : Int) by omega), Int.toNat_natCast, sets_at]
        rw [wrS (x := (c : Int) + 1) (by omega) (by omega), wrS (x := (pre.length : Int) + 1) (by omega) (by omega)]
        rfl
      · refine Ev.bind (ev_text c (by omega)) ?_
        have := ih (pre ++ [txt c]) (c + 1) (by simp; omega) (by simpa using hp)
        have e : ((c + 1 : Nat) : Int) + (xs.length : Int) = (c : Int) + ((x :: xs).length : Int) := by simp; omega
        rw [e] at this
        simpa [markedT] using this
  simpa using key l [] 1 (by simp) (by simpa using hl)
theorem ev_heldStringS (l : List ByteArray) (hl : l.length ≤ 900) : Ev (fun k => laws_heldStringS.f k (markedT 1 l) 1) (1 + (l.length : Int)) := by
  unfold laws_heldStringS.f
  have key : ∀ (rest pre : List ByteArray) (c : Nat), c ≤ 1 + pre.length → (pre ++ rest).length ≤ 900 →
      Ev (fun k => laws_heldStringS.l0 k (pre ++ markedT c rest) (c : Int) (pre.length : Int)) ((c : Int) + (rest.length : Int)) := by
    intro rest
    induction rest with
    | nil =>
      intro pre c _ _
      exact Ev.step (f := fun _ => some ((c : Int) + (([] : List ByteArray).length : Int))) (fun k => by simp [laws_heldStringS.l0, markedT]) (Ev.now _)
    | cons x xs ih =>
      intro pre c h1 hp
      unfold markedT
      have hlen : (pre.length : Int) < ((pre ++ txt c :: markedT (c + 1) xs).length : Int) := by simp <;> omega
      have hp2 : (pre.length : Int) ≤ 900 := by simp at hp; omega
      refine Ev.step (f := fun k => (laws_markText.f k (c : Int)).bind fun t => if (txt c).toList = t.toList then laws_heldStringS.l0 k (pre ++ txt c :: markedT (c + 1) xs) ((c + 1 : Nat) : Int) ((pre.length + 1 : Nat) : Int) else some (-1)) (fun k => ?_) ?_
      · rw [laws_heldStringS.l0, if_pos hlen, if_pos (by omega), rds_at, wrS (x := (c : Int) + 1) (by omega) (by omega), wrS (x := (pre.length : Int) + 1) (by omega) (by omega)]
        rfl
      · refine Ev.bind (ev_text c (by omega)) ?_
        simp only [if_true]
        have := ih (pre ++ [txt c]) (c + 1) (by simp; omega) (by simpa using hp)
        have e : ((c + 1 : Nat) : Int) + (xs.length : Int) = (c : Int) + ((x :: xs).length : Int) := by simp; omega
        rw [e] at this
        simpa using this
  simpa using key l [] 1 (by simp) (by simpa using hl)
end Go.Proofs.Ytnbaembdmfiimaa.Q
end
section
/- The pure statement of FnExactAdmissibleWords: both give the same words, or the same error. -/
namespace Go.Proofs.Ytnbaembdmfiimaa.Q
open Go.RowKit Go.Proofs.YtnbaembdmfiimaaW.PrintWords Go.Proofs.YtnbaembdmfiimaaW.PrintLast Go.Proofs.YtnbaembdmfiimaaW.PrintMore Go.Proofs.YtnbaembdmfiimaaW.Ext
set_option linter.unusedVariables false
set_option linter.unusedSimpArgs false
theorem in_valW (n lo hi : Int) : spec_l01In.f n lo hi = some (decide (lo ≤ n ∧ n ≤ hi)) := by
  unfold spec_l01In.f
  by_cases h : n ≥ lo
  · rw [if_pos h]; congr 1; rw [decide_eq_decide]; omega
  · rw [if_neg h]; congr 1; symm; rw [decide_eq_false_iff_not]; omega
theorem e42 : (⟨#[]⟩ : ByteArray) ++ (⟨#[42]⟩ : ByteArray) = ⟨#[42]⟩ := by
  rw [← nums_bytes ((⟨#[]⟩ : ByteArray) ++ (⟨#[42]⟩ : ByteArray)), bytes_append]
  rfl
theorem both_wordlist (n : Int) : ∃ r : List ByteArray × Int, r.1.length ≤ 900 ∧ Ev (fun k => spec_AdmissibleWords.f k n) r ∧ Ev (fun k => impl_AdmissibleWords.f k n) r := by
  by_cases h : 1 ≤ n ∧ n ≤ 10
  · have d := decide_eq_true h
    by_cases h1 : n = 1
    · subst h1
      refine ⟨([(⟨#[42]⟩ : ByteArray)], 0), by simp, ?_, ?_⟩
      · unfold spec_AdmissibleWords.f
        simp only [in_valW, d, Option.bind_some, if_true]
        exact Ev.now _
      · unfold impl_AdmissibleWords.f
        simp only [in_valA, d, Option.bind_some, if_true]
        have good : Ev (fun k => impl_Sequence_isAdmissible.f k (⟨#[]⟩ : ByteArray) (⟨#[42]⟩ : ByteArray)) true := by
          unfold impl_Sequence_isAdmissible.f
          exact Ev.step (f := fun k => impl_Sequence_isAdmissible.l0 k 1 1 (⟨#[]⟩ : ByteArray) (⟨#[42]⟩ : ByteArray)) (fun k => by
            show impl_Sequence_isAdmissible.l0 (k + 1) 1 0 _ _ = _
            rw [impl_Sequence_isAdmissible.l0, if_pos (by decide), if_neg (by decide), wrS (x := (0 : Int) + 1) (by decide) (by decide)]
            rfl) (Ev.step (f := fun _ => some true) (fun k => by rw [impl_Sequence_isAdmissible.l0, if_neg (by decide)]) (Ev.now _))
        refine Ev.step (f := fun k => impl_AdmissibleWords.j2 k [(⟨#[]⟩ : ByteArray)]) (fun k => by rw [impl_AdmissibleWords.l0, wrS (x := (1 : Int) - 2) (by omega) (by omega), if_neg (by omega), if_pos rfl]) ?_
        refine Ev.step (f := fun k => impl_AdmissibleWords.l2 k ([] : List ByteArray) [(⟨#[]⟩ : ByteArray)] 1 0) (fun k => by rw [impl_AdmissibleWords.j2]; rfl) ?_
        refine Ev.step (f := fun k => (impl_Sequence_isAdmissible.f k (⟨#[]⟩ : ByteArray) (⟨#[42]⟩ : ByteArray)).bind fun t173 => if t173 = true then impl_AdmissibleWords.l2 k [(⟨#[42]⟩ : ByteArray)] [(⟨#[]⟩ : ByteArray)] 1 1 else impl_AdmissibleWords.l2 k [] [(⟨#[]⟩ : ByteArray)] 1 1) (fun k => by
          rw [impl_AdmissibleWords.l2, if_pos (by decide), if_pos (by decide), if_pos (by decide), show rdOf ByteArray.empty [(⟨#[]⟩ : ByteArray)] 0 = ⟨#[]⟩ from rfl, show (⟨#[]⟩ : ByteArray) ++ (⟨#[42]⟩ : ByteArray) = ⟨#[42]⟩ from e42, if_pos (by decide), if_pos (by decide), wrS (x := (0 : Int) + 1) (by decide) (by decide)]
          rfl) ?_
        refine Ev.bind good ?_
        simp only [if_true]
        exact Ev.step (f := fun _ => some ([(⟨#[42]⟩ : ByteArray)], 0)) (fun k => by rw [impl_AdmissibleWords.l2, if_neg (by decide)]) (Ev.now _)
    · obtain ⟨t, ht⟩ : ∃ t : Nat, n = (t : Int) + 2 := ⟨(n - 2).toNat, by omega⟩
      have t8 : t ≤ 8 := by omega
      have h8 : 2 ^ t ≤ 256 := Nat.pow_le_pow_right (n := 2) (by omega) t8
      obtain ⟨r, r0, r1, r2⟩ := both_filter t8 ht (2 ^ t) 0 [] (by omega) (by simp)
      refine ⟨(r, 0), by show r.length ≤ 900; omega, ?_, ?_⟩
      · unfold spec_AdmissibleWords.f
        simp only [in_valW, d, Option.bind_some, if_true, if_neg h1]
        exact r1
      · unfold impl_AdmissibleWords.f
        simp only [in_valA, d, Option.bind_some, if_true]
        rw [wrS (x := n - 2) (by omega) (by omega), show n - 2 = (t : Int) by omega]
        have := ev_words t8 ht r2 t 0 (by omega)
        exact this
  · have d : decide (1 ≤ n ∧ n ≤ 10) = false := decide_eq_false h
    refine ⟨([], 2), by simp, ?_, ?_⟩
    · unfold spec_AdmissibleWords.f
      simp only [in_valW, d, Option.bind_some, Bool.false_eq_true, if_false]
      exact Ev.now _
    · unfold impl_AdmissibleWords.f
      simp only [in_valA, d, Option.bind_some, Bool.false_eq_true, if_false]
      exact Ev.now _
end Go.Proofs.Ytnbaembdmfiimaa.Q
namespace Go.Proofs.Ytnbaembdmfiimaa.Pure
open Go.RowKit Go.Proofs.Ytnbaembdmfiimaa.Q Go.Proofs.YtnbaembdmfiimaaW.PrintWords Go.Proofs.YtnbaembdmfiimaaW.PrintLast
theorem FnExactAdmissibleWords : laws_FnExactAdmissibleWords.Pure := by
  intro a _
  refine Ev.rounds (g := fun k => laws_FnExactAdmissibleWords.f k a) ?_
  obtain ⟨r, hr, h1, h2⟩ := both_wordlist a
  unfold laws_FnExactAdmissibleWords.f
  refine Ev.bind h1 (Ev.bind h2 (Ev.bind (ev_eqStringS r.1 hr) ?_))
  simp only [if_true]
  refine Ev.step (f := fun k => (laws_markStringS.f k r.1 1).bind fun x => (laws_heldStringS.f k x.2 1).bind fun t => if t < 0 then some false else if t = x.1 then (impl_AdmissibleWords.f k a).bind fun z => (laws_eqStringS.f k z.1 r.1).bind fun t => if t = true then laws_FnExactAdmissibleWords.j1 k x.2 x.1 (z.2 != r.2) else laws_FnExactAdmissibleWords.j1 k x.2 x.1 true else some false) (fun k => by simp [laws_FnExactAdmissibleWords.j0]) ?_
  refine Ev.bind (ev_markStringS r.1 hr) ?_
  refine Ev.bind (ev_heldStringS r.1 hr) ?_
  simp only [if_neg (show ¬ (1 + (r.1.length : Int) < 0) by omega), if_true]
  refine Ev.bind h2 (Ev.bind (ev_eqStringS r.1 hr) ?_)
  simp only [if_true]
  refine Ev.step (f := fun k => (laws_heldStringS.f k (markedT 1 r.1) 1).bind fun t => if t < 0 then some false else if t = 1 + (r.1.length : Int) then some true else some false) (fun k => by simp [laws_FnExactAdmissibleWords.j1]) ?_
  refine Ev.bind (ev_heldStringS r.1 hr) ?_
  simp only [if_neg (show ¬ (1 + (r.1.length : Int) < 0) by omega), if_true]
  exact Ev.now _
end Go.Proofs.Ytnbaembdmfiimaa.Pure
end
