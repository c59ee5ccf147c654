-- By wip/hyb/hyb.py of this session, over the kit's print.py
import Derived.Test.YtngffoffjiofbaaQx0
import Derived.Test.YtngffoffjiofbaaQx2
import Derived.Test.YtngffoffjiofbaaQx58
import Derived.Test.YtngffoffjiofbaaQx60
import Derived.Test.YtngffoffjiofbaaQx70
import Derived.Test.YtngffoffjiofbaaQx71
import Derived.Test.YtngffoffjiofbaaQx72
namespace Go.Proofs.Ytngffoffjiofbaa.Q
open Go.Proofs.YtngffoffjiofbaaW.Ext
open Go.RowKit Go.Proofs.YtngffoffjiofbaaW.PrintWords Go.Proofs.YtngffoffjiofbaaW.PrintLast Go.Proofs.YtngffoffjiofbaaW.PrintMore
attribute [local go_sem] max2_int min2_int max_two min_two max_three min_three max_four min_four   -- for this text's walks alone
set_option linter.unusedVariables false
set_option linter.unusedSimpArgs false

/-! ### laws_FnExactPairsOfOrbit: function 7 -/
section
theorem laws_FnExactPairsOfOrbit.held_ (k : Nat) (A : Option Addr) (c : Nat) (l : List (List Int)) (n : Nat) (a r : Int) (w : World) (hn : n = l.length) (hC : Kd.C (Kd.slice 2 (Kd.int .i64)) w A l.length l) (hc : l.length ≤ c) (h : laws_heldInt64SS.f k l a = some r) :
    Calls Try.prog 30 #[.slice A n c, .int .i64 a] w fun e w' => e = .returned (.int .i64 r) ∧ Drawn0 w w' := by
  subst hn
  exact laws_heldInt64SS.calls k A c l a r w hC hc h
def laws_FnExactPairsOfOrbit.f (k : Nat) (a0_0 : Int) (a0_1 : Int) : Option Bool := (laws_toAngle.f a0_0 a0_1).bind fun t => ((spec_PairsOfOrbit.f k t.1 t.2).bind fun s => ((impl_PairsOfOrbit.f k t.1 t.2).bind fun g => ((laws_eqInt64SS.f k g.1 s.1).bind fun b => (if b = true then (if g.2 = s.2 then ((laws_markInt64SS.f k g.1 1).bind fun m => ((laws_heldInt64SS.f k m.2 1).bind fun q => (if q < 0 then (some false) else (if q = m.1 then (some true) else (some false))))) else (some false)) else (some false)))))
set_option maxHeartbeats 8000000 in
set_option maxRecDepth 100000 in
theorem laws_FnExactPairsOfOrbit.calls (k : Nat) (a0_0 : Int) (a0_1 : Int) (r_ : Bool) (w : World) (h : laws_FnExactPairsOfOrbit.f k a0_0 a0_1 = some true) :
    Calls Try.prog 7 #[.agg #[.int .i64 a0_0, .int .i64 a0_1]] w fun e w' => e = .returned (.bool true) ∧ Below w.heap.size w w' := by
  have hu48 := Try.underlying48
  have hu51 := Try.underlying51
  have HB := Aside0.mk (Below.refl w.heap.size w)
  unfold laws_FnExactPairsOfOrbit.f at h
  obtain ⟨⟨t1, t2⟩, h1, h⟩ := Option.bind_eq_some_iff.mp h
  obtain ⟨⟨s1, c⟩, h2, h⟩ := Option.bind_eq_some_iff.mp h
  obtain ⟨⟨g1, c2⟩, h3, h⟩ := Option.bind_eq_some_iff.mp h
  obtain ⟨b, h4, h⟩ := Option.bind_eq_some_iff.mp h
  cases b with
  | false => simp at h
  | true =>
    simp only [if_true] at h
    by_cases hc : c2 = c
    · subst hc
      simp only [if_true] at h
      obtain ⟨⟨m1, m2⟩, h5, h⟩ := Option.bind_eq_some_iff.mp h
      obtain ⟨q, h6, h⟩ := Option.bind_eq_some_iff.mp h
      by_cases hq : q < 0
      · simp [if_pos hq] at h
      · simp only [if_neg hq] at h
        by_cases hm : q = m1
        · subst hm
          clear h
          replace h1 : laws_toAngle.f a0_0 a0_1 = some (t1, t2) := h1
          replace h2 : spec_PairsOfOrbit.f k t1 t2 = some (s1, c2) := h2
          replace h3 : impl_PairsOfOrbit.f k t1 t2 = some (g1, c2) := h3
          replace h4 : laws_eqInt64SS.f k g1 s1 = some true := h4
          replace h6 : laws_heldInt64SS.f k m2 1 = some q := h6
          have A1 := Aside0.mk h1
          have A2 := Aside0.mk h2
          have A3 := Aside0.mk h3
          have A4 := Aside0.mk h4
          have A5 := Aside0.mk h5
          have A6 := Aside0.mk h6
          clear h1 h2 h3 h4 h5 h6
          have hqb : decide (q < 0) = false := decide_eq_false hq
          clear hq
          go_enter Try.func7, Try.ntmps7
          go_wp2_with (first
    | ((with_reducible refine gate_dst (N := 1) rfl ?_); refine box_event ?hg (N := 1) ?hd (cs := #[.int .i64 a0_0, .int .i64 a0_1]) (t := 48) ?hr ?_; (case hd => rfl); (case hg => rfl); (case hr => first | (go_simp; done) | (go_simp; rfl)); intro ga hg w1 hbox hb; have BK := Aside0.mk (hbox); have GE := wl hg HB; replace HB := bs HB hb; clear hb hbox hg; have ⟨a0, a1, b0, b1⟩ := q2f BK)
    | ((with_reducible refine gate_callee (f := 28) rfl ?_); refine goesL_ (some 13) rfl rfl Try.func28 (by kernel_rfl) rfl #[.agg #[.int .i64 a0_0, .int .i64 a0_1]] rfl (by (try simp only [List.map_toArray, List.map_cons, List.map_nil]); first | done | rfl | (simp only [List.length_drop, List.length_take]; rfl)) ?_; (with_reducible refine (laws_toAngle.calls a0_0 a0_1 t1 t2 _ A1.out).mono ?_); rintro e w_ ⟨rfl, hb⟩; refine ⟨_, rfl, ?_⟩; replace BK := kb BK hb; replace HB := bs HB hb; clear hb; have ⟨a0, a1, b0, b1⟩ := q2f BK)
    | ((with_reducible refine gate_callee (f := 31) rfl ?_); refine goesL_ (some 14) rfl rfl Try.func31 (by kernel_rfl) rfl #[.agg #[.int .i64 t1, .int .i64 t2]] rfl (by (try simp only [List.map_toArray, List.map_cons, List.map_nil]); first | done | rfl | (simp only [List.length_drop, List.length_take]; rfl)) ?_; (with_reducible refine (spec_PairsOfOrbit.calls k t1 t2 s1 c2 _ A2.out).mono ?_); rintro e w_ ⟨vs, rfl, hs, hb⟩; refine ⟨_, rfl, ?_⟩; replace BK := kb BK hb; obtain ⟨M, hM⟩ : ∃ m_, m_ = w_.heap.size := ⟨_, rfl⟩; have HM := Aside0.mk (show M ≤ w_.heap.size by rw [hM]; exact Nat.le_refl _); have HGM := Aside0.mk (show ga < M by rw [hM]; exact blk_lt BK.out); have HN := Aside0.mk (show Kd.N (Kd.slice 2 (Kd.int .i64)) 39 w_ w.heap.size (fun k_ => k_ < M) vs s1 by rw [hM]; exact Kd.N_mono (Kd.N_bound (Kd.N_lower (Kd.S_N hs) (below_size (bb HB)))) (fun _ h_ => h_.2)); replace HB := bs HB hb; clear hb hs hM; obtain ⟨As, cs, es⟩ := Kd.N_slice HN.out; subst es; have ⟨a0, a1, b0, b1⟩ := q2f BK)
    | ((with_reducible refine gate_callee (f := 28) rfl ?_); refine goesL_ (some 19) rfl rfl Try.func28 (by kernel_rfl) rfl #[.agg #[.int .i64 a0_0, .int .i64 a0_1]] rfl (by (try simp only [List.map_toArray, List.map_cons, List.map_nil]); first | done | rfl | (simp only [List.length_drop, List.length_take]; rfl)) ?_; (with_reducible refine (laws_toAngle.calls a0_0 a0_1 t1 t2 _ A1.out).mono ?_); rintro e w_ ⟨rfl, hb⟩; refine ⟨_, rfl, ?_⟩; replace BK := kb BK hb; replace HM := ml HM hb; replace HN := Aside0.mk (Kd.N_below (nk HN) hb); replace HB := bs HB hb; clear hb; have ⟨a0, a1, b0, b1⟩ := q2f BK)
    | ((with_reducible refine gate_callee (f := 28) rfl ?_); refine goesL_ (some 45) rfl rfl Try.func28 (by kernel_rfl) rfl #[.agg #[.int .i64 a0_0, .int .i64 a0_1]] rfl (by (try simp only [List.map_toArray, List.map_cons, List.map_nil]); first | done | rfl | (simp only [List.length_drop, List.length_take]; rfl)) ?_; (with_reducible refine (laws_toAngle.calls a0_0 a0_1 t1 t2 _ A1.out).mono ?_); rintro e w_ ⟨rfl, hb⟩; refine ⟨_, rfl, ?_⟩; replace BK := kb BK hb; replace HM := ml HM hb; replace HN := Aside0.mk (Kd.N_below (nk HN) hb); replace HS := Aside0.mk (Kd.S_below (sk HS) hb); replace HB := bs HB hb; clear hb; have ⟨a0, a1, b0, b1⟩ := q2f BK)
    | ((with_reducible refine gate_callee (f := 32) rfl ?_); refine goesL_ (some 20) rfl rfl Try.func32 (by kernel_rfl) rfl #[.agg #[.int .i64 t1, .int .i64 t2]] rfl (by (try simp only [List.map_toArray, List.map_cons, List.map_nil]); first | done | rfl | (simp only [List.length_drop, List.length_take]; rfl)) ?_; (with_reducible refine (impl_PairsOfOrbit.calls k t1 t2 g1 c2 _ A3.out).mono ?_); rintro e w_ ⟨vg, rfl, hs, hb⟩; refine ⟨_, rfl, ?_⟩; have HS := Aside0.mk (show Kd.S (Kd.slice 2 (Kd.int .i64)) 39 w_ w.heap.size (fun k_ => M ≤ k_) vg g1 from Kd.S_lower (Kd.S_mono (Kd.S_bound hs) (fun _ h_ => Nat.le_trans (mk_ HM) h_.2.1)) (below_size (bb HB))); replace BK := kb BK hb; replace HM := ml HM hb; replace HN := Aside0.mk (Kd.N_below (nk HN) hb); replace HB := bs HB hb; clear hb hs; obtain ⟨Ag, cg, eg⟩ := Kd.S_slice HS.out; subst eg; have ⟨a0, a1, b0, b1⟩ := q2f BK)
    | ((with_reducible refine gate_callee (f := 23) rfl ?_); refine goesL_ (some 25) rfl rfl Try.func23 (by kernel_rfl) rfl #[.slice Ag g1.length cg, .slice As s1.length cs] rfl (by (try simp only [List.map_toArray, List.map_cons, List.map_nil]); first | done | rfl | (simp only [List.length_drop, List.length_take]; rfl)) ?_; (with_reducible refine (laws_eqInt64SS.calls k Ag cg g1 As cs s1 true _ (Kd.S_reads' (sk HS)).2.2 (Kd.S_reads' HS.out).2.1 (Kd.N_reads' (nk HN)).2.2 (Kd.N_reads' HN.out).2.1 A4.out).mono ?_); rintro e w_ ⟨rfl, m_, rfl⟩; refine ⟨_, rfl, ?_⟩; skip)
    | ((with_reducible refine gate_callee (f := 24) rfl ?_); refine goesL_ (some 34) rfl rfl Try.func24 (by kernel_rfl) rfl #[.slice Ag g1.length cg, .int .i64 1] rfl (by (try simp only [List.map_toArray, List.map_cons, List.map_nil]); first | done | rfl | (simp only [List.length_drop, List.length_take]; rfl)) ?_; (with_reducible refine (laws_markInt64SS.calls k (fun k_ => M ≤ k_) _ g1 1 q m2 w _ (bb HB) (sk HS) A5.out).mono ?_); rintro e w_ ⟨rfl, hs, hb, hk⟩; refine ⟨_, rfl, ?_⟩; replace HS := Aside0.mk (show Kd.S (Kd.slice 2 (Kd.int .i64)) 39 w_ w.heap.size (fun k_ => M ≤ k_) (.slice Ag g1.length cg) m2 from Kd.S_mono hs (fun _ h_ => h_.elim id (fun h2_ => Nat.le_trans (mk_ HM) h2_))); replace BK := Aside0.mk (show w_.heap[ga]? = _ from (hk.2 ga (blk_lt (bk BK)) (Nat.not_le.2 HGM.out)).trans (bk BK)); replace HN := Aside0.mk (Kd.N_kept (nk HN) hk (fun _ h_ h2_ => absurd h_ (Nat.not_lt.2 h2_))); replace HM := Aside0.mk (Nat.le_trans (mk_ HM) hk.1); replace HB := Aside0.mk hb; clear hs hb hk; have hl_ := (Kd.S_reads' HS.out).1; have HL := Aside0.mk hl_; clear hl_; have ⟨a0, a1, b0, b1⟩ := q2f BK)
    | ((with_reducible refine gate_callee (f := 30) rfl ?_); refine goesL_ (some 37) rfl rfl Try.func30 (by kernel_rfl) rfl #[.slice Ag g1.length cg, .int .i64 1] rfl (by (try simp only [List.map_toArray, List.map_cons, List.map_nil]); first | done | rfl | (simp only [List.length_drop, List.length_take]; rfl)) ?_; (with_reducible refine (laws_FnExactPairsOfOrbit.held_ k Ag cg m2 g1.length 1 q _ HL.out (Kd.S_reads' (sk HS)).2.2 (Nat.le_trans (Nat.le_of_eq HL.out.symm) (Kd.S_reads' HS.out).2.1) A6.out).mono ?_); rintro e w_ ⟨rfl, m_, rfl⟩; refine ⟨_, rfl, ?_⟩; skip)
    | ((with_reducible refine gate_callee (f := 30) rfl ?_); refine goesL_ (some 60) rfl rfl Try.func30 (by kernel_rfl) rfl #[.slice Ag g1.length cg, .int .i64 1] rfl (by (try simp only [List.map_toArray, List.map_cons, List.map_nil]); first | done | rfl | (simp only [List.length_drop, List.length_take]; rfl)) ?_; (with_reducible refine (laws_FnExactPairsOfOrbit.held_ k Ag cg m2 g1.length 1 q _ HL.out (Kd.S_reads' (sk HS)).2.2 (Nat.le_trans (Nat.le_of_eq HL.out.symm) (Kd.S_reads' HS.out).2.1) A6.out).mono ?_); rintro e w_ ⟨rfl, m_, rfl⟩; refine ⟨_, rfl, ?_⟩; skip)
    | ((with_reducible refine gate_callee (f := 32) rfl ?_); refine goesL_ (some 46) rfl rfl Try.func32 (by kernel_rfl) rfl #[.agg #[.int .i64 t1, .int .i64 t2]] rfl (by (try simp only [List.map_toArray, List.map_cons, List.map_nil]); first | done | rfl | (simp only [List.length_drop, List.length_take]; rfl)) ?_; (with_reducible refine (impl_PairsOfOrbit.calls k t1 t2 g1 c2 _ A3.out).mono ?_); rintro e w_ ⟨vh, rfl, hs, hb⟩; refine ⟨_, rfl, ?_⟩; have HT := Aside0.mk (show Kd.S (Kd.slice 2 (Kd.int .i64)) 39 w_ w.heap.size (fun _ => True) vh g1 from Kd.S_lower hs (below_size (bb HB))); replace BK := kb BK hb; replace HN := Aside0.mk (Kd.N_below (nk HN) hb); replace HS := Aside0.mk (Kd.S_below (sk HS) hb); replace HB := bs HB hb; clear hb hs; obtain ⟨Ah, ch, eh⟩ := Kd.S_slice HT.out; subst eh; have ⟨a0, a1, b0, b1⟩ := q2f BK)
    | ((with_reducible refine gate_callee (f := 23) rfl ?_); refine goesL_ (some 51) rfl rfl Try.func23 (by kernel_rfl) rfl #[.slice Ah g1.length ch, .slice As s1.length cs] rfl (by (try simp only [List.map_toArray, List.map_cons, List.map_nil]); first | done | rfl | (simp only [List.length_drop, List.length_take]; rfl)) ?_; (with_reducible refine (laws_eqInt64SS.calls k Ah ch g1 As cs s1 true _ (Kd.S_reads' (sk HT)).2.2 (Kd.S_reads' HT.out).2.1 (Kd.N_reads' (nk HN)).2.2 (Kd.N_reads' HN.out).2.1 A4.out).mono ?_); rintro e w_ ⟨rfl, m_, rfl⟩; refine ⟨_, rfl, ?_⟩; skip))
          go_ret
          exact ⟨rfl, bb HB⟩
        · simp [if_neg hm] at h
    · simp [if_neg hc] at h
end

end Go.Proofs.Ytngffoffjiofbaa.Q
