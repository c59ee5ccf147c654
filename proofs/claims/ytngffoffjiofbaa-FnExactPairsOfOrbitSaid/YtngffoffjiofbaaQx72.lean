-- By wip/hyb/hyb.py of this session, over the kit's print.py
import Derived.Test.YtngffoffjiofbaaQx0
import Derived.Test.YtngffoffjiofbaaQx69
namespace Go.Proofs.Ytngffoffjiofbaa.Q
open Go.Proofs.YtngffoffjiofbaaW.Ext
open Go.RowKit Go.Proofs.YtngffoffjiofbaaW.PrintWords Go.Proofs.YtngffoffjiofbaaW.PrintLast Go.Proofs.YtngffoffjiofbaaW.PrintMore
attribute [local go_sem] max2_int min2_int max_two min_two max_three min_three max_four min_four   -- for this text's walks alone
set_option linter.unusedVariables false
set_option linter.unusedSimpArgs false

/-! ### impl_PairsOfOrbit: function 32 -/
section
def impl_PairsOfOrbit.f (k : Nat) (a0_0 : Int) (a0_1 : Int) : Option ((List (List Int)) × Int) := (impl_pairingOf.f k a0_0 a0_1).bind fun t => (if t.2.2 = 0 then (some (t.2.1, 0)) else (some (([] : List (List Int)), t.2.2)))
theorem impl_PairsOfOrbit.mono : ∀ a0 a1 k, LeO (impl_PairsOfOrbit.f k a0 a1) (impl_PairsOfOrbit.f (k + 1) a0 a1) := by
  intro a0 a1 k
  unfold impl_PairsOfOrbit.f
  exact LeO.bind (impl_pairingOf.mono _ _ _) (fun _ => LeO.refl _)
set_option maxHeartbeats 8000000 in
set_option maxRecDepth 100000 in
theorem impl_PairsOfOrbit.calls (k : Nat) (a0_0 : Int) (a0_1 : Int) (r1 : List (List Int)) (r2 : Int) (w : World) (h : impl_PairsOfOrbit.f k a0_0 a0_1 = some (r1, r2)) :
    Calls Try.prog 32 #[.agg #[.int .i64 a0_0, .int .i64 a0_1]] w fun e w' => ∃ v0_ : Value, e = .returned (.tuple #[v0_, .int .i64 r2]) ∧ Kd.S (Kd.slice 2 (Kd.int .i64)) 39 w' w.heap.size (fun _ => True) v0_ r1 ∧ Below w.heap.size w w' := by
  have hu51 := Try.underlying51
  have HB := Aside0.mk (Below.refl w.heap.size w)
  unfold impl_PairsOfOrbit.f at h
  obtain ⟨⟨orb, ps, c⟩, h1, h⟩ := Option.bind_eq_some_iff.mp h
  by_cases hc : c = 0
  · subst hc
    simp only [if_true, Option.some.injEq, Prod.mk.injEq] at h
    obtain ⟨rfl, rfl⟩ := h
    have A1 := Aside0.mk h1
    clear h1
    go_enter Try.func32, Try.ntmps32
    go_wp2_with (first
    | ((with_reducible refine gate_dst (N := 1) rfl ?_); refine box_event ?hg (N := 1) ?hd (cs := #[.int .i64 a0_0, .int .i64 a0_1]) (t := 51) ?hr ?_; (case hd => rfl); (case hg => rfl); (case hr => first | (go_simp; done) | (go_simp; rfl)); intro gb hg w1 hbox hb; have BK := Aside0.mk (hbox); have GE := wl hg HB; replace HB := bs HB hb; clear hb hbox hg; have ⟨a0, a1, b0, b1⟩ := q2f BK)
    | ((with_reducible refine gate_callee (f := 66) rfl ?_); refine goesL_ (some 8) rfl rfl Try.func66 (by kernel_rfl) rfl #[.agg #[.int .i64 a0_0, .int .i64 a0_1], .bool true] rfl (by (try simp only [List.map_toArray, List.map_cons, List.map_nil]); first | done | rfl | (simp only [List.length_drop, List.length_take]; rfl)) ?_; (with_reducible refine (impl_pairingOf.yes k a0_0 a0_1 orb ps _ A1.out).mono ?_); rintro e w2 ⟨gp, vo, vp, rfl, hge, hbp, hr, hs, hb⟩; refine ⟨_, rfl, ?_⟩; have BP := Aside0.mk hbp; have HS := Aside0.mk (Kd.S_lower hs (below_size (bb HB))); replace HB := bs HB hb; clear BK hb hs hr hbp hge; have ⟨a0, a1, b0, b1⟩ := q2f BP))
    go_ret2
    exact ⟨_, rfl, Kd.S_mono (sk HS) (fun _ _ => trivial), bb HB⟩
  · simp only [if_neg hc, Option.some.injEq, Prod.mk.injEq] at h
    obtain ⟨rfl, rfl⟩ := h
    have A1 := Aside0.mk h1
    have HC := Aside0.mk hc
    have c3b0 : (c == 0) = false := beq_eq_false_iff_ne.mpr hc
    have c3b1 : (c != 0) = true := bne_iff_ne.mpr hc
    clear h1 hc
    go_enter Try.func32, Try.ntmps32
    go_wp2_with (first
    | ((with_reducible refine gate_dst (N := 1) rfl ?_); refine box_event ?hg (N := 1) ?hd (cs := #[.int .i64 a0_0, .int .i64 a0_1]) (t := 51) ?hr ?_; (case hd => rfl); (case hg => rfl); (case hr => first | (go_simp; done) | (go_simp; rfl)); intro gb hg w1 hbox hb; have BK := Aside0.mk (hbox); have GE := wl hg HB; replace HB := bs HB hb; clear hb hbox hg; have ⟨a0, a1, b0, b1⟩ := q2f BK)
    | ((with_reducible refine gate_callee (f := 66) rfl ?_); refine goesL_ (some 8) rfl rfl Try.func66 (by kernel_rfl) rfl #[.agg #[.int .i64 a0_0, .int .i64 a0_1], .bool true] rfl (by (try simp only [List.map_toArray, List.map_cons, List.map_nil]); first | done | rfl | (simp only [List.length_drop, List.length_take]; rfl)) ?_; (with_reducible refine (impl_pairingOf.no k a0_0 a0_1 orb ps c _ HC.out A1.out).mono ?_); rintro e w2 ⟨rfl, hb⟩; refine ⟨_, rfl, ?_⟩; replace HB := bs HB hb; clear hb BK))
    go_ret2
    exact ⟨_, rfl, Kd.S_nil _ _ _ _ _, bb HB⟩
end

end Go.Proofs.Ytngffoffjiofbaa.Q
