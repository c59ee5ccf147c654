-- By wip/hyb/hyb.py of this session, over the kit's print.py
import Derived.Test.YtngffoffjiofbaaQx0
import Derived.Test.YtngffoffjiofbaaQx2
import Derived.Test.YtngffoffjiofbaaQx37
import Derived.Test.YtngffoffjiofbaaQx68
namespace Go.Proofs.Ytngffoffjiofbaa.Q
open Go.Proofs.YtngffoffjiofbaaW.Ext
open Go.RowKit Go.Proofs.YtngffoffjiofbaaW.PrintWords Go.Proofs.YtngffoffjiofbaaW.PrintLast Go.Proofs.YtngffoffjiofbaaW.PrintMore
attribute [local go_sem] max2_int min2_int max_two min_two max_three min_three max_four min_four   -- for this text's walks alone
set_option linter.unusedVariables false
set_option linter.unusedSimpArgs false

/-! ### impl_pairingOf: function 66 -/
section
mutual
def impl_pairingOf.l0 : Nat → Int → List (List Int) → Int → Option (List (List Int))
  | 0, _, _, _ => none
  | k + 1, n, x3, x37 => if x37 < n then (impl_pairingOf.l1 k n x3 x37 (wrap64 (x37 + 1))) else (some x3)
def impl_pairingOf.l1 : Nat → Int → List (List Int) → Int → Int → Option (List (List Int))
  | 0, _, _, _, _ => none
  | k + 1, n, x3, x10, x11 => if x11 < n then (if x3.length < 5864062014805 then (impl_pairingOf.l1 k n (x3 ++ [(([wrap64 (x10 + 1), wrap64 (x11 + 1)] : List Int))]) x10 (wrap64 (x11 + 1))) else (none)) else (impl_pairingOf.l0 k n x3 (wrap64 (x10 + 1)))
end
def impl_pairingOf.f (k : Nat) (a0_0 : Int) (a0_1 : Int) : Option (List S51 × List (List Int) × Int) := (impl_IsAngle.f k a0_0 a0_1).bind fun b => (if b = true then ((impl_Angle_orbit.f k a0_0 a0_1).bind fun t => (if t.2.2 = true then (if (t.1.length : Int) > 7 then (some (([] : List S51), ([] : List (List Int)), 2)) else ((impl_pairingOf.l0 k (t.1.length : Int) ([] : List (List Int)) 0).bind fun p => some (t.1, p, 0))) else (some (([] : List S51), ([] : List (List Int)), 2)))) else (some (([] : List S51), ([] : List (List Int)), 1)))
theorem impl_pairingOf.mono_l : ∀ k, (∀ y0 y1 y2, LeO (impl_pairingOf.l0 k y0 y1 y2) (impl_pairingOf.l0 (k + 1) y0 y1 y2)) ∧ (∀ y0 y1 y2 y3, LeO (impl_pairingOf.l1 k y0 y1 y2 y3) (impl_pairingOf.l1 (k + 1) y0 y1 y2 y3))
  | 0 => ⟨fun _ _ _ r h => by simp [impl_pairingOf.l0] at h, fun _ _ _ _ r h => by simp [impl_pairingOf.l1] at h⟩
  | k + 1 => by
    obtain ⟨ih0, ih1⟩ := impl_pairingOf.mono_l k
    refine ⟨?_, ?_⟩
    · intro y0 y1 y2
      unfold impl_pairingOf.l0
      repeat' first
      | (with_reducible exact ih0 _ _ _)
      | (with_reducible exact ih1 _ _ _ _)
      | (with_reducible exact LeO.refl _)
      | (with_reducible exact LeO.none _)
      | (with_reducible refine LeO.ite ?_ ?_)
    · intro y0 y1 y2 y3
      unfold impl_pairingOf.l1
      repeat' first
      | (with_reducible exact ih0 _ _ _)
      | (with_reducible exact ih1 _ _ _ _)
      | (with_reducible exact LeO.refl _)
      | (with_reducible exact LeO.none _)
      | (with_reducible refine LeO.ite ?_ ?_)
theorem impl_pairingOf.mono : ∀ a0 a1 k, LeO (impl_pairingOf.f k a0 a1) (impl_pairingOf.f (k + 1) a0 a1) := by
  intro a0 a1 k
  obtain ⟨ih0, ih1⟩ := impl_pairingOf.mono_l k
  unfold impl_pairingOf.f
  repeat' first
      | (with_reducible exact ih0 _ _ _)
      | (with_reducible exact impl_IsAngle.mono _ _ _)
      | (with_reducible exact impl_Angle_orbit.mono _ _ _)
      | (with_reducible exact LeO.refl _)
      | (with_reducible exact LeO.none _)
      | (with_reducible refine LeO.ite ?_ ?_)
      | (with_reducible refine LeO.bind ?_ (fun _ => ?_))
/-- An orbit and its pairs, in memory. -/
def PairOk (w : World) (orb : List S51) (ps : List (List Int)) (e : Ending) (w' : World) : Prop :=
  ∃ (g : Nat) (vo vp : Value), e = .returned (.tuple #[.pointer (some ⟨g, 0, none⟩), .int .i64 0]) ∧ w.heap.size ≤ g ∧ w'.heap[g]? = some (.cells #[vo, vp] 87 (0, 0)) ∧ Kd.R k51 51 w' w.heap.size (fun k_ => k_ ≠ g) vo orb ∧ Kd.S (Kd.slice 2 (Kd.int .i64)) 39 w' w.heap.size (fun k_ => k_ ≠ g) vp ps ∧ Below w.heap.size w w'
set_option maxHeartbeats 8000000 in
set_option maxRecDepth 100000 in
theorem impl_pairingOf.ok (k : Nat) (a0_0 : Int) (a0_1 : Int) (orb : List S51) (pre : Int) (ps : List (List Int)) (w : World) (A1 : Aside0 (impl_IsAngle.f k a0_0 a0_1 = some true)) (A2 : Aside0 (impl_Angle_orbit.f k a0_0 a0_1 = some (orb, pre, true))) (c7 : ¬ (orb.length : Int) > 7) (A3 : Aside0 (impl_pairingOf.l0 k (orb.length : Int) ([] : List (List Int)) 0 = some ps)) :
    Calls Try.prog 66 #[.agg #[.int .i64 a0_0, .int .i64 a0_1], .bool true] w (PairOk w orb ps) := by
  have hu51 := Try.underlying51
  have HB := Aside0.mk (Below.refl w.heap.size w)
  have c7b0 : decide ((orb.length : Int) > 7) = false := decide_eq_false c7
  have c7b1 : decide (7 < orb.length) = false := decide_eq_false (by omega)
  clear c7
  go_enter Try.func66, Try.ntmps66
  go_wp2_with (first
    | ((with_reducible refine gate_dst (N := 2) rfl ?_); refine box_event ?hg (N := 2) ?hd (cs := #[.int .i64 a0_0, .int .i64 a0_1]) (t := 51) ?hr ?_; (case hd => rfl); (case hg => rfl); (case hr => first | (go_simp; done) | (go_simp; rfl)); intro gb hg w1 hbox hb; have BK := Aside0.mk (hbox); have GE := wl hg HB; replace HB := bs HB hb; clear hb hbox hg; have ⟨a0, a1, b0, b1⟩ := q2f BK)
    | ((with_reducible refine gate_callee (f := 74) rfl ?_); refine goesL_ (some 13) rfl rfl Try.func74 (by kernel_rfl) rfl #[.agg #[.int .i64 a0_0, .int .i64 a0_1]] rfl (by (try simp only [List.map_toArray, List.map_cons, List.map_nil]); first | done | rfl | (simp only [List.length_drop, List.length_take]; rfl)) ?_; (with_reducible refine (impl_IsAngle.calls k a0_0 a0_1 true _ A1.out).mono ?_); rintro e w2 ⟨rfl, hb⟩; refine ⟨_, rfl, ?_⟩; replace BK := kb BK hb; replace HB := bs HB hb; clear hb; have ⟨a0, a1, b0, b1⟩ := q2f BK)
    | ((with_reducible refine gate_callee (f := 95) rfl ?_); refine goesL_ (some 17) rfl rfl Try.func95 (by kernel_rfl) rfl #[.agg #[.int .i64 a0_0, .int .i64 a0_1]] rfl (by (try simp only [List.map_toArray, List.map_cons, List.map_nil]); first | done | rfl | (simp only [List.length_drop, List.length_take]; rfl)) ?_; (with_reducible refine (impl_Angle_orbit.calls k a0_0 a0_1 orb pre true _ A2.out).mono ?_); rintro e w3 ⟨vo, rfl, ho, hb⟩; refine ⟨_, rfl, ?_⟩; have HO := Aside0.mk (Kd.R_lower ho (below_size (bb HB))); replace BK := kb BK hb; replace HB := bs HB hb; clear hb ho BK; obtain ⟨Ao, co, eo⟩ := Kd.R_slice HO.out; subst eo)
    | ((with_reducible refine gate_dst (N := 34) rfl ?_); refine box_event ?hg (N := 34) ?hd (cs := #[.slice Ao orb.length co, .slice none 0 0]) (t := 87) ?hr ?_; (case hd => rfl); (case hg => rfl); (case hr => first | (go_simp; done) | (go_simp; rfl)); intro gp hg w4 hbox hb; have BP := Aside0.mk (hbox); have GP := wl hg HB; have HR := Aside0.mk (Kd.R_below (rk HO) hb); replace HO := Aside0.mk (show Kd.R k51 51 _ w.heap.size (fun k_ => k_ ≠ gp) (.slice Ao orb.length co) orb from Kd.R_mono (Kd.R_types HR.out BP.out (by decide)) (fun _ h_ => h_.2)); replace HB := bs HB hb; clear hb hbox hg HR)
    | ((with_reducible refine gate_callee (f := 49) rfl ?_); refine goesL_ (some 36) rfl rfl Try.func49 (by kernel_rfl) rfl #[.slice Ao orb.length co] rfl (by (try simp only [List.map_toArray, List.map_cons, List.map_nil]); first | done | rfl | (simp only [List.length_drop, List.length_take]; rfl)) ?_; (with_reducible refine (impl_Angle_49.calls Ao co orb (orb.length : Int) _ (Kd.R_reads' (rk HO)).2.2 (Kd.R_reads' HO.out).2.1 rfl).mono ?_); rintro e w5 ⟨rfl, m_, rfl⟩; refine ⟨_, rfl, ?_⟩))
  go_loopg [37] k (fun kq v37 w' => ∃ (x3 : List (List Int)) (x37 : Int) (vp : Value), v37 = .int .i64 x37 ∧ Aside0 (impl_pairingOf.l0 kq (orb.length : Int) x3 x37 = some ps) ∧ Aside0 (kq ≤ k) ∧ Aside0 (w'.heap[gp]? = some (.cells #[.slice Ao orb.length co, vp] 87 (0, 0))) ∧ Aside0 (Kd.S (Kd.slice 2 (Kd.int .i64)) 39 w' w.heap.size (fun k_ => k_ ≠ gp) vp x3) ∧ Aside0 (Kd.R k51 51 w' w.heap.size (fun k_ => k_ ≠ gp) (.slice Ao orb.length co) orb) ∧ Aside0 (Below w.heap.size w w'))
  case atStart => exact ⟨[], 0, .slice none 0 0, (by first | rfl | (simp; done)), A3, ⟨Nat.le_refl _⟩, ⟨bk BP⟩, ⟨Kd.S_nil _ _ _ _ _⟩, ⟨rk HO⟩, ⟨bb HB⟩⟩
  case round =>
    obtain ⟨x3, x37, vp, rfl, HA, HK1, BP, HS, HO, HB⟩ := hrel
    cases gk with
    | zero => exact absurd HA.out (by simp [impl_pairingOf.l0])
    | succ k1 =>
      have H := HA.out
      clear HA
      simp only [impl_pairingOf.l0] at H
      by_cases c4 : x37 < (orb.length : Int)
      · rw [if_pos c4] at H
        have c4b0 : decide (x37 < (orb.length : Int)) = true := decide_eq_true c4
        clear c4
        have H' := Aside0.mk H
        clear H
        go_wp2
        go_loopg [11] k1 (fun kq v11 w' => ∃ (x3 : List (List Int)) (x11 : Int) (vp : Value), v11 = .int .i64 x11 ∧ Aside0 (impl_pairingOf.l1 kq (orb.length : Int) x3 x37 x11 = some ps) ∧ Aside0 (kq ≤ k1) ∧ Aside0 (w'.heap[gp]? = some (.cells #[.slice Ao orb.length co, vp] 87 (0, 0))) ∧ Aside0 (Kd.S (Kd.slice 2 (Kd.int .i64)) 39 w' w.heap.size (fun k_ => k_ ≠ gp) vp x3) ∧ Aside0 (Kd.R k51 51 w' w.heap.size (fun k_ => k_ ≠ gp) (.slice Ao orb.length co) orb) ∧ Aside0 (Below w.heap.size w w'))
        case atStart => exact ⟨x3, wrap64 (x37 + 1), vp, (by first | rfl | (simp; done)), H', ⟨Nat.le_refl _⟩, ⟨bk BP⟩, ⟨Kd.S_below HS.out (Below.refl _ _)⟩, ⟨rk HO⟩, ⟨bb HB⟩⟩
        case round =>
          clear H' HS BP HO HB
          obtain ⟨x3, x11, vp, rfl, HA, HK2, BP, HS, HO, HB⟩ := hrel
          cases gk with
          | zero => exact absurd HA.out (by simp [impl_pairingOf.l1])
          | succ k2 =>
            have H := HA.out
            clear HA
            simp only [impl_pairingOf.l1] at H
            by_cases c5 : x11 < (orb.length : Int)
            · rw [if_pos c5] at H
              have c5b0 : decide (x11 < (orb.length : Int)) = true := decide_eq_true c5
              clear c5
              by_cases c6 : x3.length < 5864062014805
              · rw [if_pos c6] at H
                have LM := Aside0.mk c6
                clear c6
                obtain ⟨row, hrow⟩ : ∃ y_ : List Int, y_ = ([wrap64 (x37 + 1), wrap64 (x11 + 1)] : List Int) := ⟨_, rfl⟩
                rw [← hrow] at H
                have NR := Aside0.mk hrow
                clear hrow
                obtain ⟨x3n, hx3n⟩ : ∃ y_ : List (List Int), y_ = x3 ++ [row] := ⟨_, rfl⟩
                rw [← hx3n] at H
                have NX := Aside0.mk hx3n
                clear hx3n
                have H' := Aside0.mk H
                clear H
                have ⟨a0, a1, b0, b1⟩ := q2f BP
                go_wp2_with (first
                  | ((with_reducible refine gate_callee (f := 49) rfl ?_); refine goesL_ (some 44) rfl rfl Try.func49 (by kernel_rfl) rfl #[.slice Ao orb.length co] rfl (by (try simp only [List.map_toArray, List.map_cons, List.map_nil]); first | done | rfl | (simp only [List.length_drop, List.length_take]; rfl)) ?_; (with_reducible refine (impl_Angle_49.calls Ao co orb (orb.length : Int) _ (Kd.R_reads' (rk HO)).2.2 (Kd.R_reads' HO.out).2.1 rfl).mono ?_); rintro e w5 ⟨rfl, m_, rfl⟩; refine ⟨_, rfl, ?_⟩)
                  | ((with_reducible refine gate_dst (N := 57) rfl ?_); refine Kd.R_lit (Kd.int .i64) _ 2 ?hg (N := 57) ?hd (xs := ([wrap64 (x37 + 1), wrap64 (x11 + 1)] : List Int)) (inner := [.int .i64 (wrap64 (x37 + 1)), .int .i64 (wrap64 (x11 + 1))]) (ok := fun _ => True) (okp := fun _ => True) ?hr ?hp (fun _ hk => hk) trivial (Below.refl _ _) (Nat.le_refl _) (by simp) ?_; (case hd => rfl); (case hg => rfl); (case hr => first | (go_simp; done) | (go_simp; rfl)); (case hp => exact (Reps.one (show Kd.M (Kd.int .i64) _ _ _ (wrap64 (x37 + 1)) [.int .i64 (wrap64 (x37 + 1))] from rfl) (Reps.one (show Kd.M (Kd.int .i64) _ _ _ (wrap64 (x11 + 1)) [.int .i64 (wrap64 (x11 + 1))] from rfl) (Reps.none _ _)))); intro vr w7 hr hb hg_ hnew_; clear hg_ hnew_; rw [← NR.out] at hr; have HR := Aside0.mk (Kd.R_lower (Kd.R_newB hr (g := gp) (bk BP)) (below_size (bb HB))); replace HS := Aside0.mk (Kd.S_elder' (sk HS) (Kd.R_base hr) hb); replace BP := kb BP hb; replace HO := ko HO hb; replace HB := bs HB hb; clear hb hr; obtain ⟨Ar, cr, er⟩ := Kd.R_slice HR.out; subst er)
                  | ((with_reducible refine gate_builtin (b := .append) (xs := #[.tmp 52, .tmp 58]) rfl ?_); at_builtin; refine Kd.S_append (Kd.slice 2 (Kd.int .i64)) (w0 := w) w.heap.size rfl (.tmp 52) (.tmp 58) 37 39 (.slice none 0 0) 24 rfl Try.underlying37 info39 rfl (by decide) (by omega) vp x3 row [.slice Ar row.length cr] (fun k_ => k_ ≠ gp) (fun k_ => some k_ = (.slice Ar row.length cr : Value).ownBlock) rfl rfl ?aP ?aK ?aF ?aO ?aB ?aS ?aL ?_; (case aP => exact Kd.M_row (Kd.R_tight rfl HR.out)); (case aK => exact (fun k_ hk_ => ⟨(HR.out.1 k_ hk_.symm).2, (Kd.R_apart' HR.out (Kd.S_typed HS.out) (by decide)).1 k_ hk_.symm |>.2⟩)); (case aB => exact bb HB); (case aF => exact (fun k_ hk_ => Nat.ne_of_gt (Nat.lt_of_lt_of_le (blk_lt (bk BP)) hk_))); (case aO => exact Kd.S_mono (sk HS) (fun k_ hk => ⟨hk.1, fun e_ => hk.2 e_⟩)); (case aS => exact below_size (bb HB)); (case aL => have := LM.out; omega); intro vp2 w9 hs hb hg hat; rw [← NX.out] at hs; have hne := Kd.S_away (g := gp) HS.out (fun _ h_ => h_.1); have BP2 := Aside0.mk ((hg.block gp (blk_lt (bk BP)) hne).trans (bk BP)); have HO2 := Aside0.mk (Kd.R_over' (rk HO) (Kd.S_typed (sk HS)) (by decide) hg); clear HR hat hg hne BP HS HO HB; have BP := BP2; have HO := HO2; have HS := Aside0.mk hs; have HB := Aside0.mk hb; clear BP2 HO2 hs hb; obtain ⟨A2, c2, e2⟩ := Kd.S_slice HS.out; subst e2; have ⟨a0, a1, b0, b1⟩ := q2f BP))
                go_roundg k2
                case measure => have := HK1.out; have := HK2.out; omega
                case rel => exact ⟨x3n, wrap64 (x11 + 1), _, (by first | rfl | (simp; done)), H', ⟨by have := HK1.out; have := HK2.out; omega⟩, ⟨blk_put BP.out 1 _ rfl⟩, ⟨Kd.S_far HS.out (fun _ h_ => h_) _⟩, ⟨Kd.R_far HO.out (fun _ h_ => h_) _⟩, ⟨bg HB GP⟩⟩
              · rw [if_neg c6] at H
                exact absurd H (by simp)
            · rw [if_neg c5] at H
              have c5b0 : decide (x11 < (orb.length : Int)) = false := decide_eq_false c5
              clear c5
              have H' := Aside0.mk H
              clear H
              go_wp2_with (first
                | ((with_reducible refine gate_callee (f := 49) rfl ?_); refine goesL_ (some 44) rfl rfl Try.func49 (by kernel_rfl) rfl #[.slice Ao orb.length co] rfl (by (try simp only [List.map_toArray, List.map_cons, List.map_nil]); first | done | rfl | (simp only [List.length_drop, List.length_take]; rfl)) ?_; (with_reducible refine (impl_Angle_49.calls Ao co orb (orb.length : Int) _ (Kd.R_reads' (rk HO)).2.2 (Kd.R_reads' HO.out).2.1 rfl).mono ?_); rintro e w5 ⟨rfl, m_, rfl⟩; refine ⟨_, rfl, ?_⟩))
              go_roundg k2
              case measure => have := HK1.out; have := HK2.out; omega
              case rel => exact ⟨x3, wrap64 (x37 + 1), vp, (by first | rfl | (simp; done)), H', ⟨by have := HK1.out; have := HK2.out; omega⟩, ⟨bk BP⟩, ⟨by (with_reducible repeat (first | apply Kd.S_alloc | apply Kd.S_drewN | apply Kd.S_drew)); exact HS.out⟩, ⟨rk HO⟩, ⟨bb HB⟩⟩
      · rw [if_neg c4] at H
        have c4b0 : decide (x37 < (orb.length : Int)) = false := decide_eq_false c4
        clear c4
        obtain rfl := Option.some.inj H
        go_wp2
        go_ret2
        exact ⟨gp, _, vp, rfl, GP.out, bk BP, rk HO, by (with_reducible repeat (first | apply Kd.S_alloc | apply Kd.S_drewN | apply Kd.S_drew)); exact HS.out, bb HB⟩
set_option maxHeartbeats 8000000 in
set_option maxRecDepth 100000 in
theorem impl_pairingOf.no1 (k : Nat) (a0_0 : Int) (a0_1 : Int) (w : World) (A1 : Aside0 (impl_IsAngle.f k a0_0 a0_1 = some false)) :
    Calls Try.prog 66 #[.agg #[.int .i64 a0_0, .int .i64 a0_1], .bool true] w fun e w' => e = .returned (.tuple #[.pointer none, .int .i64 1]) ∧ Below w.heap.size w w' := by
  have hu51 := Try.underlying51
  have HB := Aside0.mk (Below.refl w.heap.size w)
  go_enter Try.func66, Try.ntmps66
  go_wp2_with (first
    | ((with_reducible refine gate_dst (N := 2) rfl ?_); refine box_event ?hg (N := 2) ?hd (cs := #[.int .i64 a0_0, .int .i64 a0_1]) (t := 51) ?hr ?_; (case hd => rfl); (case hg => rfl); (case hr => first | (go_simp; done) | (go_simp; rfl)); intro gb hg w1 hbox hb; have BK := Aside0.mk (hbox); have GE := wl hg HB; replace HB := bs HB hb; clear hb hbox hg; have ⟨a0, a1, b0, b1⟩ := q2f BK)
    | ((with_reducible refine gate_callee (f := 74) rfl ?_); refine goesL_ (some 13) rfl rfl Try.func74 (by kernel_rfl) rfl #[.agg #[.int .i64 a0_0, .int .i64 a0_1]] rfl (by (try simp only [List.map_toArray, List.map_cons, List.map_nil]); first | done | rfl | (simp only [List.length_drop, List.length_take]; rfl)) ?_; (with_reducible refine (impl_IsAngle.calls k a0_0 a0_1 false _ A1.out).mono ?_); rintro e w2 ⟨rfl, hb⟩; refine ⟨_, rfl, ?_⟩; replace BK := kb BK hb; replace HB := bs HB hb; clear hb; have ⟨a0, a1, b0, b1⟩ := q2f BK))
  go_ret2
  exact ⟨rfl, bb HB⟩
set_option maxHeartbeats 8000000 in
set_option maxRecDepth 100000 in
theorem impl_pairingOf.no2 (k : Nat) (a0_0 : Int) (a0_1 : Int) (w : World) (orb : List S51) (pre : Int) (A1 : Aside0 (impl_IsAngle.f k a0_0 a0_1 = some true)) (A2 : Aside0 (impl_Angle_orbit.f k a0_0 a0_1 = some (orb, pre, false))) :
    Calls Try.prog 66 #[.agg #[.int .i64 a0_0, .int .i64 a0_1], .bool true] w fun e w' => e = .returned (.tuple #[.pointer none, .int .i64 2]) ∧ Below w.heap.size w w' := by
  have hu51 := Try.underlying51
  have HB := Aside0.mk (Below.refl w.heap.size w)
  go_enter Try.func66, Try.ntmps66
  go_wp2_with (first
    | ((with_reducible refine gate_dst (N := 2) rfl ?_); refine box_event ?hg (N := 2) ?hd (cs := #[.int .i64 a0_0, .int .i64 a0_1]) (t := 51) ?hr ?_; (case hd => rfl); (case hg => rfl); (case hr => first | (go_simp; done) | (go_simp; rfl)); intro gb hg w1 hbox hb; have BK := Aside0.mk (hbox); have GE := wl hg HB; replace HB := bs HB hb; clear hb hbox hg; have ⟨a0, a1, b0, b1⟩ := q2f BK)
    | ((with_reducible refine gate_callee (f := 74) rfl ?_); refine goesL_ (some 13) rfl rfl Try.func74 (by kernel_rfl) rfl #[.agg #[.int .i64 a0_0, .int .i64 a0_1]] rfl (by (try simp only [List.map_toArray, List.map_cons, List.map_nil]); first | done | rfl | (simp only [List.length_drop, List.length_take]; rfl)) ?_; (with_reducible refine (impl_IsAngle.calls k a0_0 a0_1 true _ A1.out).mono ?_); rintro e w2 ⟨rfl, hb⟩; refine ⟨_, rfl, ?_⟩; replace BK := kb BK hb; replace HB := bs HB hb; clear hb; have ⟨a0, a1, b0, b1⟩ := q2f BK)
    | ((with_reducible refine gate_callee (f := 95) rfl ?_); refine goesL_ (some 17) rfl rfl Try.func95 (by kernel_rfl) rfl #[.agg #[.int .i64 a0_0, .int .i64 a0_1]] rfl (by (try simp only [List.map_toArray, List.map_cons, List.map_nil]); first | done | rfl | (simp only [List.length_drop, List.length_take]; rfl)) ?_; (with_reducible refine (impl_Angle_orbit.calls k a0_0 a0_1 orb pre false _ A2.out).mono ?_); rintro e w3 ⟨vo, rfl, ho, hb⟩; refine ⟨_, rfl, ?_⟩; replace HB := bs HB hb; clear hb; obtain ⟨Ao, co, eo⟩ := Kd.R_slice ho; subst eo; clear ho))
  go_ret2
  exact ⟨rfl, bb HB⟩
set_option maxHeartbeats 8000000 in
set_option maxRecDepth 100000 in
theorem impl_pairingOf.no3 (k : Nat) (a0_0 : Int) (a0_1 : Int) (w : World) (orb : List S51) (pre : Int) (A1 : Aside0 (impl_IsAngle.f k a0_0 a0_1 = some true)) (A2 : Aside0 (impl_Angle_orbit.f k a0_0 a0_1 = some (orb, pre, true))) (c7 : (orb.length : Int) > 7) :
    Calls Try.prog 66 #[.agg #[.int .i64 a0_0, .int .i64 a0_1], .bool true] w fun e w' => e = .returned (.tuple #[.pointer none, .int .i64 2]) ∧ Below w.heap.size w w' := by
  have hu51 := Try.underlying51
  have HB := Aside0.mk (Below.refl w.heap.size w)
  have c7b0 : decide ((orb.length : Int) > 7) = true := decide_eq_true c7
  have c7b1 : decide (7 < orb.length) = true := decide_eq_true (by omega)
  clear c7
  go_enter Try.func66, Try.ntmps66
  go_wp2_with (first
    | ((with_reducible refine gate_dst (N := 2) rfl ?_); refine box_event ?hg (N := 2) ?hd (cs := #[.int .i64 a0_0, .int .i64 a0_1]) (t := 51) ?hr ?_; (case hd => rfl); (case hg => rfl); (case hr => first | (go_simp; done) | (go_simp; rfl)); intro gb hg w1 hbox hb; have BK := Aside0.mk (hbox); have GE := wl hg HB; replace HB := bs HB hb; clear hb hbox hg; have ⟨a0, a1, b0, b1⟩ := q2f BK)
    | ((with_reducible refine gate_callee (f := 74) rfl ?_); refine goesL_ (some 13) rfl rfl Try.func74 (by kernel_rfl) rfl #[.agg #[.int .i64 a0_0, .int .i64 a0_1]] rfl (by (try simp only [List.map_toArray, List.map_cons, List.map_nil]); first | done | rfl | (simp only [List.length_drop, List.length_take]; rfl)) ?_; (with_reducible refine (impl_IsAngle.calls k a0_0 a0_1 true _ A1.out).mono ?_); rintro e w2 ⟨rfl, hb⟩; refine ⟨_, rfl, ?_⟩; replace BK := kb BK hb; replace HB := bs HB hb; clear hb; have ⟨a0, a1, b0, b1⟩ := q2f BK)
    | ((with_reducible refine gate_callee (f := 95) rfl ?_); refine goesL_ (some 17) rfl rfl Try.func95 (by kernel_rfl) rfl #[.agg #[.int .i64 a0_0, .int .i64 a0_1]] rfl (by (try simp only [List.map_toArray, List.map_cons, List.map_nil]); first | done | rfl | (simp only [List.length_drop, List.length_take]; rfl)) ?_; (with_reducible refine (impl_Angle_orbit.calls k a0_0 a0_1 orb pre true _ A2.out).mono ?_); rintro e w3 ⟨vo, rfl, ho, hb⟩; refine ⟨_, rfl, ?_⟩; replace HB := bs HB hb; clear hb; obtain ⟨Ao, co, eo⟩ := Kd.R_slice ho; subst eo; clear ho))
  go_ret2
  exact ⟨rfl, bb HB⟩
/-- What pairingOf does where it has no pairs. -/
theorem impl_pairingOf.no (k : Nat) (a0_0 : Int) (a0_1 : Int) (orb : List S51) (ps : List (List Int)) (c : Int) (w : World) (hc : c ≠ 0) (h : impl_pairingOf.f k a0_0 a0_1 = some (orb, ps, c)) :
    Calls Try.prog 66 #[.agg #[.int .i64 a0_0, .int .i64 a0_1], .bool true] w fun e w' => e = .returned (.tuple #[.pointer none, .int .i64 c]) ∧ Below w.heap.size w w' := by
  unfold impl_pairingOf.f at h
  obtain ⟨b, h1, h⟩ := Option.bind_eq_some_iff.mp h
  cases b with
  | false =>
    simp only [Bool.false_eq_true, if_false, Option.some.injEq, Prod.mk.injEq] at h
    obtain ⟨rfl, rfl, rfl⟩ := h
    exact impl_pairingOf.no1 k a0_0 a0_1 w ⟨h1⟩
  | true =>
    simp only [if_true] at h
    obtain ⟨⟨o1, o2, o3⟩, h2, h⟩ := Option.bind_eq_some_iff.mp h
    cases o3 with
    | false =>
      simp only [Bool.false_eq_true, if_false, Option.some.injEq, Prod.mk.injEq] at h
      obtain ⟨rfl, rfl, rfl⟩ := h
      exact impl_pairingOf.no2 k a0_0 a0_1 w o1 o2 ⟨h1⟩ ⟨h2⟩
    | true =>
      simp only [if_true] at h
      by_cases c7 : (o1.length : Int) > 7
      · simp only [if_pos c7, Option.some.injEq, Prod.mk.injEq] at h
        obtain ⟨rfl, rfl, rfl⟩ := h
        exact impl_pairingOf.no3 k a0_0 a0_1 w o1 o2 ⟨h1⟩ ⟨h2⟩ c7
      · simp only [if_neg c7] at h
        obtain ⟨p, h3, h⟩ := Option.bind_eq_some_iff.mp h
        simp only [Option.some.injEq, Prod.mk.injEq] at h
        exact absurd h.2.2.symm hc
/-- What it does where it has. -/
theorem impl_pairingOf.yes (k : Nat) (a0_0 : Int) (a0_1 : Int) (orb : List S51) (ps : List (List Int)) (w : World) (h : impl_pairingOf.f k a0_0 a0_1 = some (orb, ps, 0)) :
    Calls Try.prog 66 #[.agg #[.int .i64 a0_0, .int .i64 a0_1], .bool true] w (PairOk w orb ps) := by
  unfold impl_pairingOf.f at h
  obtain ⟨b, h1, h⟩ := Option.bind_eq_some_iff.mp h
  cases b with
  | false => simp at h
  | true =>
    simp only [if_true] at h
    obtain ⟨⟨o1, o2, o3⟩, h2, h⟩ := Option.bind_eq_some_iff.mp h
    cases o3 with
    | false => simp at h
    | true =>
      simp only [if_true] at h
      by_cases c7 : (o1.length : Int) > 7
      · simp [if_pos c7] at h
      · simp only [if_neg c7] at h
        obtain ⟨p, h3, h⟩ := Option.bind_eq_some_iff.mp h
        simp only [Option.some.injEq, Prod.mk.injEq] at h
        obtain ⟨rfl, rfl, _⟩ := h
        exact impl_pairingOf.ok k a0_0 a0_1 o1 o2 p w ⟨h1⟩ ⟨h2⟩ c7 ⟨h3⟩
end

-- NOT PRINTED: function 67 (slices_DeleteFunc_int64_int64)

-- NOT PRINTED: function 29 (impl_SeparatedPairs)

end Go.Proofs.Ytngffoffjiofbaa.Q
