/- Joined texts: MidGood, Qx55, Qx60, Qx62, Qx66, Qx68, Qx67, Qx41, Qx44, MidThree, Qx22, Qx50, Qx47, Qx48, Qx51, MidOrbit, DrawP, DrawT, Qx5 -/
import Derived.Test.YtmhpbilkocnlnaaPkFnMiddles25
import Derived.Test.YtmhpbilkocnlnaaPkFnMiddles22
import Derived.Test.YtmhpbilkocnlnaaPkFnMiddles24
import Derived.Test.YtmhpbilkocnlnaaPkFnMiddles23
section
namespace Go.Proofs.Ytmhpbilkocnlnaa.Q
open Go.RowKit Go.Proofs.YtmhpbilkocnlnaaW.PrintWords Go.Proofs.YtmhpbilkocnlnaaW.PrintLast Go.Proofs.YtmhpbilkocnlnaaW.Ext
set_option linter.unusedVariables false
set_option linter.unusedSimpArgs false
theorem rotl_bt (y : ByteArray) (hy : 1 ≤ y.size) (i : Nat) (hi : i < y.size) : bt (y.extract 1 y.size ++ y.extract 0 1) (i : Int) = bt y (((i + 1) % y.size : Nat) : Int) := by
  have h1 : (y.extract 1 y.size).size = y.size - 1 := by simp
  rw [bt_append, h1]
  by_cases h : i < y.size - 1
  · rw [if_pos h, bt_extract _ _ _ _ (by omega) (Nat.le_refl _), Nat.mod_eq_of_lt (by omega), Nat.add_comm]
  · have e : i + 1 = y.size := by omega
    rw [if_neg h, bt_extract _ _ _ _ (by omega) hy, e, Nat.mod_self, show 0 + (i - (y.size - 1)) = 0 by omega]
theorem rotl_size (y : ByteArray) (hy : 1 ≤ y.size) : (y.extract 1 y.size ++ y.extract 0 1).size = y.size := by
  rw [ByteArray.size_append, ByteArray.size_extract, ByteArray.size_extract]
  omega
theorem rotl_cyc (y : ByteArray) (hy : 1 ≤ y.size) (k : Nat) : cyc (y.extract 1 y.size ++ y.extract 0 1) k = cyc y (k + 1) := by
  unfold cyc
  rw [rotl_size y hy, rotl_bt y hy _ (Nat.mod_lt _ (by omega)), Nat.add_mod (k % y.size), Nat.mod_mod, ← Nat.add_mod]
theorem rotl_pr {y : ByteArray} (hy : 1 ≤ y.size) (h : Pr y) : Pr (y.extract 1 y.size ++ y.extract 0 1) := by
  intro m m1 m2 hp
  have hz := rotl_size y hy
  rw [hz] at m2
  have hf := (perP_fun m1 (by rw [hz]; omega)).1 hp
  rw [hz] at hf
  refine h m m1 m2 ((perP_fun m1 (by omega)).2 ⟨hf.1, fun k => ?_⟩)
  have hper : ∀ k, cyc y (k + y.size) = cyc y k := fun k => by unfold cyc; rw [Nat.add_mod_right]
  have := hf.2 (k + y.size - 1)
  rw [rotl_cyc y hy, rotl_cyc y hy, show k + y.size - 1 + m + 1 = k + m + y.size by omega, show k + y.size - 1 + 1 = k + y.size by omega, hper, hper] at this
  exact this
theorem atV_sh (s : PP) (hy : 1 ≤ s.2.size) (k : Nat) : atV (sh s).1 (sh s).2 k = atV s.1 s.2 (k + 1) := by
  unfold sh
  by_cases h : s.1.size = 0
  · rw [if_pos h, atV_cyc, atV_cyc, if_neg (by show ¬ k < 0; omega), if_neg (by omega)]
    show cyc _ (k - 0) = _
    rw [Nat.sub_zero, rotl_cyc s.2 hy, h, Nat.sub_zero]
  · rw [if_neg h, atV_cyc, atV_cyc]
    have hz : (s.1.extract 1 s.1.size).size = s.1.size - 1 := by simp
    show (if k < (s.1.extract 1 s.1.size).size then bt (s.1.extract 1 s.1.size) (k : Int) else cyc s.2 (k - (s.1.extract 1 s.1.size).size)) = _
    rw [hz]
    by_cases hk : k < s.1.size - 1
    · rw [if_pos hk, if_pos (by omega), bt_extract _ _ _ _ (by omega) (Nat.le_refl _), Nat.add_comm]
    · rw [if_neg hk, if_neg (by omega), show k + 1 - s.1.size = k - (s.1.size - 1) by omega]
theorem atV_shN : ∀ (j : Nat) (s : PP) (k : Nat), 1 ≤ s.2.size → atV (shN j s).1 (shN j s).2 k = atV s.1 s.2 (j + k)
  | 0, s, k, h => by rw [Nat.zero_add]; rfl
  | j + 1, s, k, h => by
    show atV (shN j (sh s)).1 (shN j (sh s)).2 k = _
    rw [atV_shN j (sh s) k (by rw [(sh_sizes s h).2]; exact h), atV_sh s h, show j + 1 + k = j + k + 1 by omega]
theorem sh_pr {s : PP} (hy : 1 ≤ s.2.size) (h : Pr s.2) : Pr (sh s).2 := by
  unfold sh
  split
  · exact rotl_pr hy h
  · exact h
theorem val_shN : ∀ (j : Nat) {s : PP}, Val s → Val (shN j s)
  | 0, s, h => h
  | j + 1, s, h => val_shN j (val_sh h)
theorem pr_shN : ∀ (j : Nat) {s : PP}, 1 ≤ s.2.size → Pr s.2 → Pr (shN j s).2
  | 0, s, _, h => h
  | j + 1, s, h1, h => pr_shN j (by rw [(sh_sizes s h1).2]; exact h1) (sh_pr h1 h)
theorem pt_at {v s : PP} (h1 : 1 ≤ s.2.size) (h : Pt v s) {k : Nat} (hk : atV s.1 s.2 k = 42) (j : Nat) : atV s.1 s.2 (k + 1 + j) = atV v.1 v.2 j := by
  have hs : star (shN k s) := by unfold star; rw [atV_shN k s 0 h1]; exact hk
  have e := h k hs
  rw [← shN_succ] at e
  rw [← atV_shN (k + 1) s j h1, e]
structure Base (v : PP) : Prop where
  val : Val v
  pr : Pr v.2
  pre : v.1.size = 0
  last : bt v.2 ((v.2.size - 1 : Nat) : Int) = 42
theorem Base.at_ {v : PP} (h : Base v) (j : Nat) : atV v.1 v.2 j = cyc v.2 j := by rw [atV_cyc, if_neg (by rw [h.pre]; omega), h.pre, Nat.sub_zero]
theorem at_pt {v s : PP} (hv : Base v) (hs : Val s) (hp : Pr s.2) (h : ∀ k, atV s.1 s.2 k = 42 → ∀ j, atV s.1 s.2 (k + 1 + j) = atV v.1 v.2 j) : Pt v s := by
  intro j hst
  have hj : atV s.1 s.2 j = 42 := by
    have := hst
    unfold star at this
    rwa [atV_shN j s 0 hs.one] at this
  rw [← shN_succ]
  have hv' := val_shN (j + 1) hs
  obtain ⟨e1, e2⟩ := canon_uniq hv'.one hv.val.one hv'.cn (pr_shN (j + 1) hs.one hp) hv.pr (fun k => by
    show atV (shN (j + 1) s).1 (shN (j + 1) s).2 k = _
    rw [atV_shN (j + 1) s k hs.one, h j hj k, hv.at_])
  refine Prod.ext (ext_bt (by rw [e1, hv.pre]) (fun i hi => by omega)) e2
theorem letters_of_bt {s : ByteArray} (h : ∀ i : Nat, i < s.size → bt s (i : Int) = 48 ∨ bt s (i : Int) = 49 ∨ bt s (i : Int) = 42) : lettersB s = true := by
  unfold lettersB
  rw [List.all_eq_true]
  intro x hx
  obtain ⟨i, hi, rfl⟩ := List.mem_iff_getElem.1 hx
  rw [get_bytesOf s i hi]
  rcases h i (by rw [bytesOf_length] at hi; exact hi) with e | e | e <;> rw [e] <;> rfl
def Good (v : PP) (r : ByteArray × ByteArray × Bool) : Prop := Val (r.1, r.2.1) ∧ Pr r.2.1 ∧ Pt v (r.1, r.2.1)
theorem tell_good {v : PP} (hv : Base v) {x y : ByteArray} (hy : 1 ≤ y.size) (h64 : x.size + y.size ≤ 4096) (hl : ∀ k, atV x y k = 48 ∨ atV x y k = 49 ∨ atV x y k = 42) (hp : ∀ k, atV x y k = 42 → ∀ j, atV x y (k + 1 + j) = atV v.1 v.2 j) (ht : (tell x y).2.2 = true) : Good v (tell x y) := by
  obtain ⟨c, c1, c2, c3, c4, c5, c6, c7, c8⟩ := both_canon3 x y hy h64
  unfold tell told at ht ⊢
  rw [canonC_of c1] at ht ⊢
  have hle : c.1.size + c.2.size ≤ 64 := by simpa using ht
  have hval : Val c := by
    refine ⟨letters_of_bt (fun i hi => ?_), letters_of_bt (fun i hi => ?_), c4, hle, c8⟩
    · have := hl i
      rw [← c6, atV_cyc, if_pos hi] at this
      exact this
    · have := hl (c.1.size + i)
      rw [← c6, atV_cyc, if_neg (by omega), show c.1.size + i - c.1.size = i by omega] at this
      unfold cyc at this
      rwa [Nat.mod_eq_of_lt hi] at this
  exact ⟨hval, c7, at_pt hv hval c7 (fun k hk j => by
    rw [c6] at hk ⊢
    exact hp k hk j)⟩
theorem bt_str (w : List Int) (hw : ∀ c ∈ w, c = 48 ∨ c = 49) (i : Nat) (hi : i < w.length) : bt (strOfNums w) (i : Int) = w[i] := by
  rw [bt_get, str_list, List.getElem?_map, List.getElem?_eq_getElem hi]
  rcases hw _ (List.getElem_mem hi) with e | e <;> rw [e] <;> rfl
theorem at_word (w : List Int) (hw : ∀ c ∈ w, c = 48 ∨ c = 49) (x y : ByteArray) (k : Nat) : (k < w.length ∧ (atV (strOfNums w ++ x) y k = 48 ∨ atV (strOfNums w ++ x) y k = 49)) ∨ (w.length ≤ k ∧ atV (strOfNums w ++ x) y k = atV x y (k - w.length)) := by
  have hs : (strOfNums w).size = w.length := str_size w
  by_cases h : k < w.length
  · refine .inl ⟨h, ?_⟩
    rw [atV_cyc, if_pos (by rw [ByteArray.size_append]; omega), bt_append, hs, if_pos h, bt_str w hw k h]
    exact hw _ (List.getElem_mem h)
  · refine .inr ⟨by omega, ?_⟩
    rw [atV_cyc, atV_cyc, ByteArray.size_append, hs]
    by_cases h2 : k - w.length < x.size
    · rw [if_pos (by omega), if_pos h2, bt_append, hs, if_neg h]
    · rw [if_neg (by omega), if_neg h2, show k - (w.length + x.size) = k - w.length - x.size by omega]
theorem word_good {v : PP} (hv : Base v) (w : List Int) (hw : ∀ c ∈ w, c = 48 ∨ c = 49) (hn : w.length ≤ 600) {s : PP} (hs : Val s) (hp : Pt v s) (ht : (tell (strOfNums w ++ s.1) s.2).2.2 = true) : Good v (tell (strOfNums w ++ s.1) s.2) := by
  have hz : (strOfNums w).size = w.length := str_size w
  refine tell_good hv hs.one (by rw [ByteArray.size_append]; have := hs.le; omega) (fun k => ?_) (fun k hk j => ?_) ht
  · rcases at_word w hw s.1 s.2 k with ⟨_, h | h⟩ | ⟨_, h⟩
    · exact .inl h
    · exact .inr (.inl h)
    · rw [h]; exact at_letter hs.a hs.b hs.one _
  · rcases at_word w hw s.1 s.2 k with ⟨_, h | h⟩ | ⟨h1, h⟩
    · rw [h] at hk; omega
    · rw [h] at hk; omega
    · rw [h] at hk
      rcases at_word w hw s.1 s.2 (k + 1 + j) with ⟨h2, _⟩ | ⟨_, h2⟩
      · omega
      · rw [h2, show k + 1 + j - w.length = k - w.length + 1 + j by omega]
        exact pt_at hs.one hp hk j
theorem round_good {v : PP} (hv : Base v) (w : List Int) (hw : ∀ c ∈ w, c = 48 ∨ c = 49) (hn : w.length ≤ 600) (m : Nat) (hm : m < w.length) (ht : (tell (strOfNums (w.take m)) (strOfNums (w.drop m))).2.2 = true) : Good v (tell (strOfNums (w.take m)) (strOfNums (w.drop m))) := by
  have h1 : (strOfNums (w.take m)).size = m := by rw [str_size, List.length_take]; omega
  have h2 : (strOfNums (w.drop m)).size = w.length - m := by rw [str_size, List.length_drop]
  have hno : ∀ k, atV (strOfNums (w.take m)) (strOfNums (w.drop m)) k = 48 ∨ atV (strOfNums (w.take m)) (strOfNums (w.drop m)) k = 49 := fun k => by
    rw [atV_cyc, h1]
    by_cases hk : k < m
    · rw [if_pos hk, bt_str _ (fun c hc => hw c (List.mem_of_mem_take hc)) k (by rw [List.length_take]; omega)]
      exact hw _ (List.mem_of_mem_take (List.getElem_mem _))
    · rw [if_neg hk]
      unfold cyc
      rw [h2]
      have hlt : (k - m) % (w.length - m) < (w.drop m).length := by rw [List.length_drop]; exact Nat.mod_lt _ (by omega)
      rw [bt_str _ (fun c hc => hw c (List.mem_of_mem_drop hc)) _ hlt]
      exact hw _ (List.mem_of_mem_drop (List.getElem_mem _))
  refine tell_good hv (by omega) (by omega) (fun k => (hno k).elim .inl (fun h => .inr (.inl h))) (fun k hk j => ?_) ht
  rcases hno k with h | h <;> (rw [h] at hk; omega)
theorem run_good {v : PP} (hv : Base v) (hpv : Pt v v) : ∀ d w qs (q : Tri), w.length + d = 601 → qs.length = w.length → (∀ c ∈ w, c = 48 ∨ c = 49) → q.Ok v → (runM v d w qs q).2.2 = true → Good v (runM v d w qs q) := by
  intro d
  induction d with
  | zero => intro w qs q _ _ _ _ h; cases h
  | succ d ih =>
    intro w qs q hd hq hw h
    rw [runM]
    by_cases hs : q.same.2.2 = true
    · rw [if_pos hs]
      obtain ⟨hV, hP⟩ : Val (q.same.1, q.same.2.1) ∧ Pt v (q.same.1, q.same.2.1) := by
        unfold Tri.same at hs ⊢
        split
        · exact ⟨h.v0, h.p0⟩
        · rename_i h1
          rw [if_neg h1] at hs
          split
          · exact ⟨h.v1, h.p1⟩
          · rename_i h2
            rw [if_neg h2] at hs
            cases hs
      exact word_good (s := (q.same.1, q.same.2.1)) hv w hw (by omega) hV hP
    · rw [if_neg hs]
      obtain ⟨d0, d1, d2⟩ := same_ne (Bool.eq_false_iff.2 hs)
      obtain ⟨_, lc⟩ := letters_val h hv.pre hv.last d0 d1 d2
      by_cases e0 : q.vote.2 = 0
      · rw [if_pos e0]; exact word_good hv w hw (by omega) h.v0 h.p0
      · rw [if_neg e0]
        by_cases e1 : q.vote.2 = 1
        · rw [if_pos e1]; exact word_good hv w hw (by omega) h.v1 h.p1
        · rw [if_neg e1]
          by_cases e2 : q.vote.2 = 2
          · rw [if_pos e2]; exact word_good hv w hw (by omega) h.v2 h.p2
          · rw [if_neg e2]
            have lc' : q.vote.1 = 48 ∨ q.vote.1 = 49 := by
              rcases lc with lc | lc
              · exact lc.2
              · omega
            by_cases hm : q ∈ qs
            · rw [if_pos hm]
              exact round_good hv w hw (by omega) _ (by have := List.idxOf_lt_length_of_mem hm; omega)
            · rw [if_neg hm]
              exact ih (w ++ [q.vote.1]) (qs ++ [q]) (q.mv v q.vote.1) (by simp; omega) (by simp; omega) (fun c hc => by
                rcases List.mem_append.1 hc with hc | hc
                · exact hw c hc
                · rw [List.mem_singleton.1 hc]; exact lc') (h.mv hv.val hpv _)
end Go.Proofs.Ytmhpbilkocnlnaa.Q
end
section
namespace Go.Proofs.Ytmhpbilkocnlnaa.Q
open Go.Proofs.YtmhpbilkocnlnaaW.Ext
open Go.RowKit Go.Proofs.YtmhpbilkocnlnaaW.PrintWords Go.Proofs.YtmhpbilkocnlnaaW.PrintLast Go.Proofs.YtmhpbilkocnlnaaW.PrintMore
attribute [local go_sem] max2_int min2_int max_two min_two max_three min_three max_four min_four   -- for this text's walks alone
set_option linter.unusedVariables false
set_option linter.unusedSimpArgs false
section
theorem three_row {w:World} {g:Nat} {t:TypeId} {a1_0 a1_1 a1_2 a1_3 a1_4 a1_5:ByteArray} (h:w.heap[g]? = some (.cells #[.string a1_0,.string a1_1,.string a1_2,.string a1_3,.string a1_4,.string a1_5] t (0,0))) :
  Kd.C k25 w (some ⟨g,0,none⟩) 3 ([⟨a1_0,a1_1⟩,⟨a1_2,a1_3⟩,⟨a1_4,a1_5⟩]:List S25):=by
 have c:=fun i=>blk_cell h i
 refine ⟨rfl,by decide,fun _=>⟨⟨g,0,none⟩,rfl,fun j p hp=>?_⟩⟩
 rcases j with _|_|_|j
 ·obtain rfl:=Option.some.inj hp
  refine ⟨_,rfl,k25_mk w _,fun i u hu=>?_⟩
  rcases i with _|_|i
  ·obtain rfl:=Option.some.inj hu;exact (c 0).trans rfl
  ·obtain rfl:=Option.some.inj hu;exact (c 1).trans rfl
  ·cases hu
 ·obtain rfl:=Option.some.inj hp
  refine ⟨_,rfl,k25_mk w _,fun i u hu=>?_⟩
  rcases i with _|_|i
  ·obtain rfl:=Option.some.inj hu;exact (c 2).trans rfl
  ·obtain rfl:=Option.some.inj hu;exact (c 3).trans rfl
  ·cases hu
 ·obtain rfl:=Option.some.inj hp
  refine ⟨_,rfl,k25_mk w _,fun i u hu=>?_⟩
  rcases i with _|_|i
  ·obtain rfl:=Option.some.inj hu;exact (c 4).trans rfl
  ·obtain rfl:=Option.some.inj hu;exact (c 5).trans rfl
  ·cases hu
 ·cases hp
def impl_differentCode.f (k:Nat) (a0_0 a0_1 a1_0 a1_1 a1_2 a1_3 a1_4 a1_5:ByteArray):Option Int :=
 (impl_starCode.f k a0_0 a0_1 [⟨a1_0,a1_1⟩,⟨a1_2,a1_3⟩,⟨a1_4,a1_5⟩]).bind fun c=>if c ≠ 0 then some c else (impl_three_twice.f k a1_0 a1_1 a1_2 a1_3 a1_4 a1_5).bind fun t=>some (if t.2.2 = true then 5 else 0)
theorem impl_differentCode.mono:∀ a0 a1 b0 b1 b2 b3 b4 b5 k,LeO (impl_differentCode.f k a0 a1 b0 b1 b2 b3 b4 b5) (impl_differentCode.f (k + 1) a0 a1 b0 b1 b2 b3 b4 b5):=by
 intro a0 a1 b0 b1 b2 b3 b4 b5 k
 unfold impl_differentCode.f
 refine LeO.bind (impl_starCode.mono _ _ _ k) (fun c=>?_)
 refine LeO.ite (LeO.refl _) ?_
 exact LeO.bind (impl_three_twice.mono _ _ _ _ _ _ k) (fun t=>LeO.refl _)
set_option maxHeartbeats 4000000 in
set_option maxRecDepth 100000 in
theorem impl_differentCode.calls (k:Nat) (a0_0 a0_1 a1_0 a1_1 a1_2 a1_3 a1_4 a1_5:ByteArray) (r:Int) (w:World) (h:impl_differentCode.f k a0_0 a0_1 a1_0 a1_1 a1_2 a1_3 a1_4 a1_5 = some r) :
  Calls Try.prog 31 #[.agg #[.string a0_0,.string a0_1],.agg #[.string a1_0,.string a1_1,.string a1_2,.string a1_3,.string a1_4,.string a1_5]] w fun e w'=>e = .returned (.int .i64 r) ∧ Below w.heap.size w w':=by
 unfold impl_differentCode.f at h
 obtain ⟨c,h0,h⟩:=Option.bind_eq_some_iff.1 h
 have CS:Aside0 (∀ W,Kd.C k25 W (some ⟨w.heap.size + 1,0,none⟩) 3 ([⟨a1_0,a1_1⟩,⟨a1_2,a1_3⟩,⟨a1_4,a1_5⟩]:List S25) → Calls Try.prog 26 #[.agg #[.string a0_0,.string a0_1],.slice (some ⟨w.heap.size + 1,0,none⟩) 3 3] W fun e w'=>e = .returned (.int .i64 c) ∧ Below W.heap.size W w'):=⟨fun W hr=>(impl_starCode.calls k a0_0 a0_1 (some ⟨w.heap.size + 1,0,none⟩) 3 [⟨a1_0,a1_1⟩,⟨a1_2,a1_3⟩,⟨a1_4,a1_5⟩] c W hr (Nat.le_refl 3) h0).mono fun e w' hh=>hh⟩
 have HE:=aM h
 clear h h0
 have hu27:=Try.underlying25
 have hu37:=Try.underlying51
 go_enter Try.func31,Try.ntmps31
 go_wp2
 have s1:(w.alloc (.cells #[.string a0_0,.string a0_1] 25)).heap.size = w.heap.size + 1:=by simp
 have BV:=aM (yD (yA (blk_new w (.cells #[.string a0_0,.string a0_1] 25)) (.cells #[.string a1_0,.string a1_1,.string a1_2,.string a1_3,.string a1_4,.string a1_5] 51)));have BP:=aM (yD (s1 ▸ blk_new (w.alloc (.cells #[.string a0_0,.string a0_1] 25)) (.cells #[.string a1_0,.string a1_1,.string a1_2,.string a1_3,.string a1_4,.string a1_5] 51)));have HB:=aM (zD (zA (zA (Below.refl w.heap.size w) (.cells #[.string a0_0,.string a0_1] 25)) (.cells #[.string a1_0,.string a1_1,.string a1_2,.string a1_3,.string a1_4,.string a1_5] 51)))
 clear s1
 refine start_ (n:=4) (S:=fun w'=>w'.cell? ⟨w.heap.size,0,none⟩ = some (.string a0_0) ∧ w'.cell? ⟨w.heap.size,1,none⟩ = some (.string a0_1)) (ds:=[]) #[fF,fF,fF,fF] (by kernel_rfl) rfl rfl ⟨(blk_cell BV.out 0).trans rfl,(blk_cell BV.out 1).trans rfl⟩ (fun hHeld=>?_)
 refine pure_ (i:=1) (N:=some 9) (v:=?_) (a':=?_) #[fF,tT,fF,fF] rfl rfl (by kernel_rfl) (fun _ _ _ h=>h) (Or.inl ⟨by rfl,?_⟩) ?_ ?_
 rotate_left
 ·intro w'
  go_simp
  with_reducible rfl
 rotate_left
 ·simp only [Act.put,sI,sZ,sS,i64_w,i32_w]
  rfl
 refine take_ (i:=0) (N:=some 8) (v:=?_) (a':=?_) #[tT,tT,fF,fF] rfl rfl (by kernel_rfl) (fun _ _ _ h=>h) (Or.inl ⟨by rfl,?_⟩) hHeld ?_ ?_
 rotate_left
 ·rintro w' ⟨s0,s1⟩
  go_simp
  with_reducible rfl
 rotate_left
 ·simp only [Act.put,sI,sZ,sS,i64_w,i32_w]
  rfl
 refine one_ (i:=2) (N:=some 10) #[tT,tT,tT,fF] rfl rfl (by kernel_rfl) (by decide) (fun K hK=>?_)
 refine goes_ Try.func26 (by kernel_rfl) rfl #[.agg #[.string a0_0,.string a0_1],.slice (some ⟨w.heap.size + 1,0,none⟩) 3 3] (by rfl) rfl rfl (by simp only [sM,sC,sN];rfl) ?_
 with_reducible refine (CS.out _ (three_row BP.out)).mono ?_
 rintro e wB ⟨rfl,hb⟩
 refine ⟨_,rfl,?_⟩
 have GV:=aM (blk_below BV.out hb);have GP:=aM (blk_below BP.out hb);have GB:=aM (HB.out.trans (hb.mono HB.out.size))
 clear hb BV BP HB
 have BV:=GV
 have BP:=GP
 have HB:=GB
 clear GV GP GB
 refine hK.out _ _ ⟨(blk_cell BV.out 0).trans rfl,(blk_cell BV.out 1).trans rfl⟩ (fun hHeld=>?_)
 clear hK K
 refine norm_ (a':=_) (by show Act.put _ _ _=_;simp only [Act.put,sI,sZ,sS,i64_w,i32_w];rfl) ?_
 refine pure_ (i:=3) (N:=some 5) (v:=?_) (a':=?_) #[tT,tT,tT,tT] rfl rfl (by kernel_rfl) (fun _ _ _ h=>h) (Or.inl ⟨by rfl,?_⟩) ?_ ?_
 rotate_left
 ·intro w'
  go_simp
  with_reducible rfl
 rotate_left
 ·simp only [Act.put,sI,sZ,sS,i64_w,i32_w]
  rfl
 refine done_ (by kernel_rfl) ?_
 have e:=HE.out
 by_cases hc:c = 0
 ·rw [if_neg (by simp [hc])] at e
  obtain ⟨⟨t1,t2,t3⟩,h1,e⟩:=Option.bind_eq_some_iff.1 e
  have CT:=aM (fun W=>(impl_three_twice.calls k a1_0 a1_1 a1_2 a1_3 a1_4 a1_5 t1 t2 t3 W h1).mono fun e w' (hh:e = .returned (.tuple #[.agg #[.string t1,.string t2],.bool t3]) ∧ Below W.heap.size W w')=>hh)
  have hr:=Option.some.inj e
  clear e h1 CS HE
  subst hc
  have G0:=(blk_cell BP.out 0).trans rfl
  have G1:=(blk_cell BP.out 1).trans rfl
  have G2:=(blk_cell BP.out 2).trans rfl
  have G3:=(blk_cell BP.out 3).trans rfl
  have G4:=(blk_cell BP.out 4).trans rfl
  have G5:=(blk_cell BP.out 5).trans rfl
  cases t3 with
  | false =>
   obtain rfl:(0:Int) = r:=by simpa using hr
   clear hr
   go_wp2_with (go_at_call 51;refine (CT.out _).mono ?_;rintro e wC ⟨rfl,hb⟩)
   have hB:=HB.out.trans (hb.mono HB.out.size)
   go_wp2
   go_ret
   exact ⟨rfl,zA hB _⟩
  | true =>
   obtain rfl:(5:Int) = r:=by simpa using hr
   clear hr
   go_wp2_with (go_at_call 51;refine (CT.out _).mono ?_;rintro e wC ⟨rfl,hb⟩)
   have hB:=HB.out.trans (hb.mono HB.out.size)
   go_wp2
   go_ret
   exact ⟨rfl,zA hB _⟩
 ·rw [if_pos hc] at e
  obtain rfl:=Option.some.inj e
  have b1:(c != 0) = true:=bne_iff_ne.mpr hc
  clear e
  go_wp2
  go_ret
  exact ⟨rfl,HB.out⟩
end
def impl_MiddleOf.f (k:Nat) (a0_0:ByteArray) (a0_1:ByteArray) (a1_0:ByteArray) (a1_1:ByteArray) (a2_0:ByteArray) (a2_1:ByteArray) (a3_0:ByteArray) (a3_1:ByteArray):Option (ByteArray × ByteArray × Int):=(impl_differentCode.f k a0_0 a0_1 a1_0 a1_1 a2_0 a2_1 a3_0 a3_1).bind fun t536=>(if t536 = 0 then ((impl_Sequence_middle.f k a0_0 a0_1 a1_0 a1_1 a2_0 a2_1 a3_0 a3_1).bind fun bt537=>(some (bt537.1,bt537.2.1,bt537.2.2))) else (some ((⟨#[]⟩:ByteArray),(⟨#[]⟩:ByteArray),t536)))
theorem impl_MiddleOf.mono:∀ a0 a1 a2 a3 a4 a5 a6 a7 k,LeO (impl_MiddleOf.f k a0 a1 a2 a3 a4 a5 a6 a7) (impl_MiddleOf.f (k + 1) a0 a1 a2 a3 a4 a5 a6 a7):=by
 intro a0 a1 a2 a3 a4 a5 a6 a7 k
 unfold impl_MiddleOf.f
 repeat' first
   | (with_reducible exact impl_Sequence_middle.mono _ _ _ _ _ _ _ _ _)
   | (with_reducible exact impl_differentCode.mono _ _ _ _ _ _ _ _ _)
   | (with_reducible exact LeO.refl _)
   | (with_reducible exact LeO.none _)
   | (with_reducible refine LeO.ite ?_ ?_)
   | (with_reducible refine LeO.bind ?_ (fun _=>?_))
   | exact impl_Sequence_middle.mono _ _ _ _ _ _ _ _ _
   | exact impl_differentCode.mono _ _ _ _ _ _ _ _ _
   | exact LeO.none _
   | refine LeO.ite ?_ ?_
   | refine LeO.bind ?_ (fun _=>?_)
set_option maxHeartbeats 8000000 in
set_option maxRecDepth 100000 in
theorem impl_MiddleOf.calls (k:Nat) (a0_0:ByteArray) (a0_1:ByteArray) (a1_0:ByteArray) (a1_1:ByteArray) (a2_0:ByteArray) (a2_1:ByteArray) (a3_0:ByteArray) (a3_1:ByteArray) (r1:ByteArray) (r2:ByteArray) (r3:Int) (w:World) (h:impl_MiddleOf.f k a0_0 a0_1 a1_0 a1_1 a2_0 a2_1 a3_0 a3_1 = some (r1,r2,r3)) :
  Calls Try.prog 13 #[.agg #[.string a0_0,.string a0_1],.agg #[.string a1_0,.string a1_1],.agg #[.string a2_0,.string a2_1],.agg #[.string a3_0,.string a3_1]] w fun e w'=>e = .returned (.tuple #[.agg #[.string r1,.string r2],.int .i64 r3]) ∧ Below w.heap.size w w':=by
 have hu25:=Try.underlying25
 have hu51:=Try.underlying51
 have HB:=aM (Below.refl w.heap.size w)
 have H:((impl_differentCode.f k a0_0 a0_1 a1_0 a1_1 a2_0 a2_1 a3_0 a3_1).bind fun t536=>(if t536 = 0 then ((impl_Sequence_middle.f k a0_0 a0_1 a1_0 a1_1 a2_0 a2_1 a3_0 a3_1).bind fun bt537=>(some (bt537.1,bt537.2.1,bt537.2.2))) else (some ((⟨#[]⟩:ByteArray),(⟨#[]⟩:ByteArray),t536)))) = some (r1,r2,r3):=h
 clear h
 replace H:=Option.bind_eq_some_iff.mp H
 obtain ⟨t536,A50,H⟩:=H
 replace H:(if t536 = 0 then ((impl_Sequence_middle.f k a0_0 a0_1 a1_0 a1_1 a2_0 a2_1 a3_0 a3_1).bind fun bt537=>(some (bt537.1,bt537.2.1,bt537.2.2))) else (some ((⟨#[]⟩:ByteArray),(⟨#[]⟩:ByteArray),t536))) = some (r1,r2,r3):=H;have A5:=aM A50
 clear A50
 by_cases c6:t536 = 0
 ·rw [if_pos c6] at H
  have c6b0:(t536 == 0) = true:=beq_iff_eq.mpr c6
  have c6b1:(t536 != 0) = false:=bne_eq_false_iff_eq.mpr c6
  clear c6
  replace H:=Option.bind_eq_some_iff.mp H
  obtain ⟨⟨t537,t538,t539⟩,A70,H⟩:=H
  replace H:(some (t537,t538,t539)) = some (r1,r2,r3):=H;have A7:=aM A70
  clear A70
  simp only [Option.some.injEq,Prod.mk.injEq] at H
  obtain ⟨rfl,rfl,rfl⟩:=H
  go_enter Try.func13,Try.ntmps13
  go_wp2_with (first|((with_reducible refine gate_dst (N:=4) rfl ?_);refine box_event rfl (N:=4) rfl (cs:=#[.string a0_0,.string a0_1]) (t:=25) (by first|(go_simp;done)|(go_simp;rfl)) ?_;intro gb530 hg w8 hbox hb;have BK530:=aM (hbox);have GW530:=wl hg HB;have GE530:=wl hg HB;replace HB:=bs HB hb;clear hb hbox hg)|((with_reducible refine gate_dst (N:=5) rfl ?_);refine box_event rfl (N:=5) rfl (cs:=#[.string a1_0,.string a1_1]) (t:=25) (by first|(go_simp;done)|(go_simp;rfl)) ?_;intro gb531 hg w9 hbox hb;have BK531:=aM (hbox);have GW531:=aM ((by rw [hg];exact (below_size (by first|exact bb HB|exact bg HB GE530)):w.heap.size ≤ gb531));have GE531:=aM ((by rw [hg];exact (below_size (by first|exact bb HB|exact bg HB GE530)):w.heap.size ≤ gb531));have NB530_531:=nl hg BK530;have NB531_530:=nr hg BK530;replace BK530:=kb BK530 hb;replace HB:=aM (below_step (by first|exact bb HB|exact bg HB GE530) hb);clear hb hbox hg)|((with_reducible refine gate_dst (N:=6) rfl ?_);refine box_event rfl (N:=6) rfl (cs:=#[.string a2_0,.string a2_1]) (t:=25) (by first|(go_simp;done)|(go_simp;rfl)) ?_;intro gb532 hg w10 hbox hb;have BK532:=aM (hbox);have GW532:=aM ((by rw [hg];exact (below_size (by first|exact bb HB|exact bg HB GE530|exact bg HB GE531)):w.heap.size ≤ gb532));have GE532:=aM ((by rw [hg];exact (below_size (by first|exact bb HB|exact bg HB GE530|exact bg HB GE531)):w.heap.size ≤ gb532));have NB530_532:=nl hg BK530;have NB532_530:=nr hg BK530;have NB531_532:=nl hg BK531;have NB532_531:=nr hg BK531;replace BK530:=kb BK530 hb;replace BK531:=kb BK531 hb;replace HB:=aM (below_step (by first|exact bb HB|exact bg HB GE530|exact bg HB GE531) hb);clear hb hbox hg)|((with_reducible refine gate_dst (N:=7) rfl ?_);refine box_event rfl (N:=7) rfl (cs:=#[.string a3_0,.string a3_1]) (t:=25) (by first|(go_simp;done)|(go_simp;rfl)) ?_;intro gb533 hg w11 hbox hb;have BK533:=aM (hbox);have GW533:=aM ((by rw [hg];exact (below_size (by first|exact bb HB|exact bg HB GE530|exact bg HB GE531|exact bg HB GE532)):w.heap.size ≤ gb533));have GE533:=aM ((by rw [hg];exact (below_size (by first|exact bb HB|exact bg HB GE530|exact bg HB GE531|exact bg HB GE532)):w.heap.size ≤ gb533));have NB530_533:=nl hg BK530;have NB533_530:=nr hg BK530;have NB531_533:=nl hg BK531;have NB533_531:=nr hg BK531;have NB532_533:=nl hg BK532;have NB533_532:=nr hg BK532;replace BK530:=kb BK530 hb;replace BK531:=kb BK531 hb;replace BK532:=kb BK532 hb;replace HB:=aM (below_step (by first|exact bb HB|exact bg HB GE530|exact bg HB GE531|exact bg HB GE532) hb);clear hb hbox hg)|((with_reducible refine gate_dst (N:=8) rfl ?_);refine box_event rfl (N:=8) rfl (cs:=#[.string ⟨#[]⟩,.string ⟨#[]⟩]) (t:=25) (by first|(go_simp;done)|(go_simp;rfl)) ?_;intro gb534 hg w12 hbox hb;have BK534:=aM (hbox);have GW534:=aM ((by rw [hg];exact (below_size (by first|exact bb HB|exact bg HB GE530|exact bg HB GE531|exact bg HB GE532|exact bg HB GE533)):w.heap.size ≤ gb534));have GE534:=aM ((by rw [hg];exact (below_size (by first|exact bb HB|exact bg HB GE530|exact bg HB GE531|exact bg HB GE532|exact bg HB GE533)):w.heap.size ≤ gb534));have NB530_534:=nl hg BK530;have NB534_530:=nr hg BK530;have NB531_534:=nl hg BK531;have NB534_531:=nr hg BK531;have NB532_534:=nl hg BK532;have NB534_532:=nr hg BK532;have NB533_534:=nl hg BK533;have NB534_533:=nr hg BK533;replace BK530:=kb BK530 hb;replace BK531:=kb BK531 hb;replace BK532:=kb BK532 hb;replace BK533:=kb BK533 hb;replace HB:=aM (below_step (by first|exact bb HB|exact bg HB GE530|exact bg HB GE531|exact bg HB GE532|exact bg HB GE533) hb);clear hb hbox hg;have hnb13:=NB531_530.out;have hnc13:=NB530_531.out;have hnb14:=NB531_532.out;have hnc14:=NB532_531.out;have hnb15:=NB531_533.out;have hnc15:=NB533_531.out;have hnb16:=NB531_534.out;have hnc16:=NB534_531.out;have⟨a0,a1,b0,b1⟩:=q2f BK531;have hnb18:=NB532_530.out;have hnc18:=NB530_532.out;have hnb19:=NB532_533.out;have hnc19:=NB533_532.out;have hnb20:=NB532_534.out;have hnc20:=NB534_532.out;have⟨a0,a1,b0,b1⟩:=q2f BK532;have hnb22:=NB533_530.out;have hnc22:=NB530_533.out;have hnb23:=NB533_534.out;have hnc23:=NB534_533.out;have⟨a0,a1,b0,b1⟩:=q2f BK533)|((with_reducible refine gate_dst (N:=10) rfl ?_);refine box_event rfl (N:=10) rfl (cs:=#[.string ⟨#[]⟩,.string ⟨#[]⟩,.string ⟨#[]⟩,.string ⟨#[]⟩,.string ⟨#[]⟩,.string ⟨#[]⟩]) (t:=51) (by first|(go_simp;done)|(go_simp;rfl)) ?_;intro gb535 hg w25 hbox hb;have BK535:=aM (hbox);have GW535:=aM ((by rw [hg];exact (below_size (by first|exact bb HB|exact bg HB GE530|exact bg HB GE531|exact bg HB GE532|exact bg HB GE533|exact bg HB GE534)):w.heap.size ≤ gb535));have GE535:=aM ((by rw [hg];exact (below_size (by first|exact bb HB|exact bg HB GE530|exact bg HB GE531|exact bg HB GE532|exact bg HB GE533|exact bg HB GE534)):w.heap.size ≤ gb535));have NB530_535:=nl hg BK530;have NB535_530:=nr hg BK530;have NB531_535:=nl hg BK531;have NB535_531:=nr hg BK531;have NB532_535:=nl hg BK532;have NB535_532:=nr hg BK532;have NB533_535:=nl hg BK533;have NB535_533:=nr hg BK533;have NB534_535:=nl hg BK534;have NB535_534:=nr hg BK534;replace BK530:=kb BK530 hb;replace BK531:=kb BK531 hb;replace BK532:=kb BK532 hb;replace BK533:=kb BK533 hb;replace BK534:=kb BK534 hb;replace HB:=aM (below_step (by first|exact bb HB|exact bg HB GE530|exact bg HB GE531|exact bg HB GE532|exact bg HB GE533|exact bg HB GE534) hb);clear hb hbox hg;have hnb26:=NB535_530.out;have hnc26:=NB530_535.out;have hnb27:=NB535_531.out;have hnc27:=NB531_535.out;have hnb28:=NB535_532.out;have hnc28:=NB532_535.out;have hnb29:=NB535_533.out;have hnc29:=NB533_535.out;have hnb30:=NB535_534.out;have hnc30:=NB534_535.out;have⟨a0,a1,a2,a3,a4,a5,b0,b1,b2,b3,b4,b5⟩:=q6f BK535;have hnb32:=NB530_534.out;have hnc32:=NB534_530.out;have⟨a0,a1,b0,b1⟩:=q2f BK530)|((with_reducible refine gate_callee (f:=31) rfl ?_);refine goesL_ (some 18) rfl rfl Try.func31 (by kernel_rfl) rfl #[.agg #[.string a0_0,.string a0_1],.agg #[.string a1_0,.string a1_1,.string a2_0,.string a2_1,.string a3_0,.string a3_1]] rfl (by (try simp only [sM,sC,sN]);first|done|rfl) ?_;(with_reducible refine (impl_differentCode.calls k a0_0 a0_1 a1_0 a1_1 a2_0 a2_1 a3_0 a3_1 t536 _ A5.out).mono ?_);rintro e w34 ⟨rfl,hb⟩;refine ⟨_,rfl,?_⟩;replace BK530:=kf BK530 NB530_535 hb;replace BK531:=kf BK531 NB531_535 hb;replace BK532:=kf BK532 NB532_535 hb;replace BK533:=kf BK533 NB533_535 hb;replace BK534:=kf BK534 NB534_535 hb;replace BK535:=aM (blk_below (g:=gb535) (o:=.cells #[.string a1_0,.string a1_1,.string a2_0,.string a2_1,.string a3_0,.string a3_1] 51 (0,0)) (by (with_reducible repeat (first|apply yN|apply yD|apply yA));refine blk_put (cs:=#[.string a1_0,.string a1_1,.string a2_0,.string a2_1,.string a3_0,.string ⟨#[]⟩]) ?_ 5 _ rfl;(with_reducible repeat (first|apply yN|apply yD|apply yA));refine blk_put (cs:=#[.string a1_0,.string a1_1,.string a2_0,.string a2_1,.string ⟨#[]⟩,.string ⟨#[]⟩]) ?_ 4 _ rfl;(with_reducible repeat (first|apply yN|apply yD|apply yA));refine blk_put (cs:=#[.string a1_0,.string a1_1,.string a2_0,.string ⟨#[]⟩,.string ⟨#[]⟩,.string ⟨#[]⟩]) ?_ 3 _ rfl;(with_reducible repeat (first|apply yN|apply yD|apply yA));refine blk_put (cs:=#[.string a1_0,.string a1_1,.string ⟨#[]⟩,.string ⟨#[]⟩,.string ⟨#[]⟩,.string ⟨#[]⟩]) ?_ 2 _ rfl;(with_reducible repeat (first|apply yN|apply yD|apply yA));refine blk_put (cs:=#[.string a1_0,.string ⟨#[]⟩,.string ⟨#[]⟩,.string ⟨#[]⟩,.string ⟨#[]⟩,.string ⟨#[]⟩]) ?_ 1 _ rfl;(with_reducible repeat (first|apply yN|apply yD|apply yA));refine blk_put (cs:=#[.string ⟨#[]⟩,.string ⟨#[]⟩,.string ⟨#[]⟩,.string ⟨#[]⟩,.string ⟨#[]⟩,.string ⟨#[]⟩]) ?_ 0 _ rfl;(with_reducible repeat (first|apply yN|apply yD|apply yA));exact BK535.out) hb);replace HB:=aM (below_step (by first|exact bb HB|exact bg HB GE530|exact bg HB GE531|exact bg HB GE532|exact bg HB GE533|exact bg HB GE534|exact bg HB GE535) hb);(try clear hb);have⟨a0,a1,b0,b1⟩:=q2f BK530;have⟨a0,a1,a2,a3,a4,a5,b0,b1,b2,b3,b4,b5⟩:=q6f BK535)|((with_reducible refine gate_callee (f:=32) rfl ?_);refine goesL_ (some 25) rfl rfl Try.func32 (by kernel_rfl) rfl #[.agg #[.string a0_0,.string a0_1],.agg #[.string a1_0,.string a1_1,.string a2_0,.string a2_1,.string a3_0,.string a3_1]] rfl (by (try simp only [sM,sC,sN]);first|done|rfl) ?_;(with_reducible refine (impl_Sequence_middle.calls k a0_0 a0_1 a1_0 a1_1 a2_0 a2_1 a3_0 a3_1 t537 t538 t539 _ A7.out).mono ?_);rintro e w37 ⟨rfl,hb⟩;refine ⟨_,rfl,?_⟩;replace BK530:=kb BK530 hb;replace BK531:=kb BK531 hb;replace BK532:=kb BK532 hb;replace BK533:=kb BK533 hb;replace BK534:=kb BK534 hb;replace BK535:=kb BK535 hb;replace HB:=aM (below_step (by first|exact bb HB|exact bg HB GE530|exact bg HB GE531|exact bg HB GE532|exact bg HB GE533|exact bg HB GE534|exact bg HB GE535) hb);(try clear hb);have⟨a0,a1,b0,b1⟩:=q2f BK534))
  refine bodyPost_ret (results_ct rfl _ _ gb534 25 #[.string t537,.string t538] (0,0) _ rfl (by (with_reducible repeat (first|apply yN|apply yD|apply yA));refine blk_put (cs:=#[.string t537,.string ⟨#[]⟩]) ?_ 1 _ rfl;(with_reducible repeat (first|apply yN|apply yD|apply yA));refine blk_put (cs:=#[.string ⟨#[]⟩,.string ⟨#[]⟩]) ?_ 0 _ rfl;(with_reducible repeat (first|apply yN|apply yD|apply yA));exact BK534.out) Try.underlying25 rfl (by kernel_rfl)) rfl ?_
  exact ⟨rfl,by first|exact bb HB|exact bg HB GE530|exact bg HB GE531|exact bg HB GE532|exact bg HB GE533|exact bg HB GE534|exact bg HB GE535⟩
 ·rw [if_neg c6] at H
  have c6b0:(t536 == 0) = false:=beq_eq_false_iff_ne.mpr c6
  have c6b1:(t536 != 0) = true:=bne_iff_ne.mpr c6
  simp only [Option.some.injEq,Prod.mk.injEq] at H
  obtain ⟨rfl,rfl,rfl⟩:=H
  go_enter Try.func13,Try.ntmps13
  go_wp2_with (first|((with_reducible refine gate_dst (N:=4) rfl ?_);refine box_event rfl (N:=4) rfl (cs:=#[.string a0_0,.string a0_1]) (t:=25) (by first|(go_simp;done)|(go_simp;rfl)) ?_;intro gb530 hg w39 hbox hb;have BK530:=aM (hbox);have GW530:=wl hg HB;have GE530:=wl hg HB;replace HB:=bs HB hb;clear hb hbox hg)|((with_reducible refine gate_dst (N:=5) rfl ?_);refine box_event rfl (N:=5) rfl (cs:=#[.string a1_0,.string a1_1]) (t:=25) (by first|(go_simp;done)|(go_simp;rfl)) ?_;intro gb531 hg w40 hbox hb;have BK531:=aM (hbox);have GW531:=aM ((by rw [hg];exact (below_size (by first|exact bb HB|exact bg HB GE530)):w.heap.size ≤ gb531));have GE531:=aM ((by rw [hg];exact (below_size (by first|exact bb HB|exact bg HB GE530)):w.heap.size ≤ gb531));have NB530_531:=nl hg BK530;have NB531_530:=nr hg BK530;replace BK530:=kb BK530 hb;replace HB:=aM (below_step (by first|exact bb HB|exact bg HB GE530) hb);clear hb hbox hg)|((with_reducible refine gate_dst (N:=6) rfl ?_);refine box_event rfl (N:=6) rfl (cs:=#[.string a2_0,.string a2_1]) (t:=25) (by first|(go_simp;done)|(go_simp;rfl)) ?_;intro gb532 hg w41 hbox hb;have BK532:=aM (hbox);have GW532:=aM ((by rw [hg];exact (below_size (by first|exact bb HB|exact bg HB GE530|exact bg HB GE531)):w.heap.size ≤ gb532));have GE532:=aM ((by rw [hg];exact (below_size (by first|exact bb HB|exact bg HB GE530|exact bg HB GE531)):w.heap.size ≤ gb532));have NB530_532:=nl hg BK530;have NB532_530:=nr hg BK530;have NB531_532:=nl hg BK531;have NB532_531:=nr hg BK531;replace BK530:=kb BK530 hb;replace BK531:=kb BK531 hb;replace HB:=aM (below_step (by first|exact bb HB|exact bg HB GE530|exact bg HB GE531) hb);clear hb hbox hg)|((with_reducible refine gate_dst (N:=7) rfl ?_);refine box_event rfl (N:=7) rfl (cs:=#[.string a3_0,.string a3_1]) (t:=25) (by first|(go_simp;done)|(go_simp;rfl)) ?_;intro gb533 hg w42 hbox hb;have BK533:=aM (hbox);have GW533:=aM ((by rw [hg];exact (below_size (by first|exact bb HB|exact bg HB GE530|exact bg HB GE531|exact bg HB GE532)):w.heap.size ≤ gb533));have GE533:=aM ((by rw [hg];exact (below_size (by first|exact bb HB|exact bg HB GE530|exact bg HB GE531|exact bg HB GE532)):w.heap.size ≤ gb533));have NB530_533:=nl hg BK530;have NB533_530:=nr hg BK530;have NB531_533:=nl hg BK531;have NB533_531:=nr hg BK531;have NB532_533:=nl hg BK532;have NB533_532:=nr hg BK532;replace BK530:=kb BK530 hb;replace BK531:=kb BK531 hb;replace BK532:=kb BK532 hb;replace HB:=aM (below_step (by first|exact bb HB|exact bg HB GE530|exact bg HB GE531|exact bg HB GE532) hb);clear hb hbox hg)|((with_reducible refine gate_dst (N:=8) rfl ?_);refine box_event rfl (N:=8) rfl (cs:=#[.string ⟨#[]⟩,.string ⟨#[]⟩]) (t:=25) (by first|(go_simp;done)|(go_simp;rfl)) ?_;intro gb534 hg w43 hbox hb;have BK534:=aM (hbox);have GW534:=aM ((by rw [hg];exact (below_size (by first|exact bb HB|exact bg HB GE530|exact bg HB GE531|exact bg HB GE532|exact bg HB GE533)):w.heap.size ≤ gb534));have GE534:=aM ((by rw [hg];exact (below_size (by first|exact bb HB|exact bg HB GE530|exact bg HB GE531|exact bg HB GE532|exact bg HB GE533)):w.heap.size ≤ gb534));have NB530_534:=nl hg BK530;have NB534_530:=nr hg BK530;have NB531_534:=nl hg BK531;have NB534_531:=nr hg BK531;have NB532_534:=nl hg BK532;have NB534_532:=nr hg BK532;have NB533_534:=nl hg BK533;have NB534_533:=nr hg BK533;replace BK530:=kb BK530 hb;replace BK531:=kb BK531 hb;replace BK532:=kb BK532 hb;replace BK533:=kb BK533 hb;replace HB:=aM (below_step (by first|exact bb HB|exact bg HB GE530|exact bg HB GE531|exact bg HB GE532|exact bg HB GE533) hb);clear hb hbox hg;have hnb44:=NB531_530.out;have hnc44:=NB530_531.out;have hnb45:=NB531_532.out;have hnc45:=NB532_531.out;have hnb46:=NB531_533.out;have hnc46:=NB533_531.out;have hnb47:=NB531_534.out;have hnc47:=NB534_531.out;have⟨a0,a1,b0,b1⟩:=q2f BK531;have hnb49:=NB532_530.out;have hnc49:=NB530_532.out;have hnb50:=NB532_533.out;have hnc50:=NB533_532.out;have hnb51:=NB532_534.out;have hnc51:=NB534_532.out;have⟨a0,a1,b0,b1⟩:=q2f BK532;have hnb53:=NB533_530.out;have hnc53:=NB530_533.out;have hnb54:=NB533_534.out;have hnc54:=NB534_533.out;have⟨a0,a1,b0,b1⟩:=q2f BK533)|((with_reducible refine gate_dst (N:=10) rfl ?_);refine box_event rfl (N:=10) rfl (cs:=#[.string ⟨#[]⟩,.string ⟨#[]⟩,.string ⟨#[]⟩,.string ⟨#[]⟩,.string ⟨#[]⟩,.string ⟨#[]⟩]) (t:=51) (by first|(go_simp;done)|(go_simp;rfl)) ?_;intro gb535 hg w56 hbox hb;have BK535:=aM (hbox);have GW535:=aM ((by rw [hg];exact (below_size (by first|exact bb HB|exact bg HB GE530|exact bg HB GE531|exact bg HB GE532|exact bg HB GE533|exact bg HB GE534)):w.heap.size ≤ gb535));have GE535:=aM ((by rw [hg];exact (below_size (by first|exact bb HB|exact bg HB GE530|exact bg HB GE531|exact bg HB GE532|exact bg HB GE533|exact bg HB GE534)):w.heap.size ≤ gb535));have NB530_535:=nl hg BK530;have NB535_530:=nr hg BK530;have NB531_535:=nl hg BK531;have NB535_531:=nr hg BK531;have NB532_535:=nl hg BK532;have NB535_532:=nr hg BK532;have NB533_535:=nl hg BK533;have NB535_533:=nr hg BK533;have NB534_535:=nl hg BK534;have NB535_534:=nr hg BK534;replace BK530:=kb BK530 hb;replace BK531:=kb BK531 hb;replace BK532:=kb BK532 hb;replace BK533:=kb BK533 hb;replace BK534:=kb BK534 hb;replace HB:=aM (below_step (by first|exact bb HB|exact bg HB GE530|exact bg HB GE531|exact bg HB GE532|exact bg HB GE533|exact bg HB GE534) hb);clear hb hbox hg;have hnb57:=NB535_530.out;have hnc57:=NB530_535.out;have hnb58:=NB535_531.out;have hnc58:=NB531_535.out;have hnb59:=NB535_532.out;have hnc59:=NB532_535.out;have hnb60:=NB535_533.out;have hnc60:=NB533_535.out;have hnb61:=NB535_534.out;have hnc61:=NB534_535.out;have⟨a0,a1,a2,a3,a4,a5,b0,b1,b2,b3,b4,b5⟩:=q6f BK535;have hnb63:=NB530_534.out;have hnc63:=NB534_530.out;have⟨a0,a1,b0,b1⟩:=q2f BK530)|((with_reducible refine gate_callee (f:=31) rfl ?_);refine goesL_ (some 18) rfl rfl Try.func31 (by kernel_rfl) rfl #[.agg #[.string a0_0,.string a0_1],.agg #[.string a1_0,.string a1_1,.string a2_0,.string a2_1,.string a3_0,.string a3_1]] rfl (by (try simp only [sM,sC,sN]);first|done|rfl) ?_;(with_reducible refine (impl_differentCode.calls k a0_0 a0_1 a1_0 a1_1 a2_0 a2_1 a3_0 a3_1 t536 _ A5.out).mono ?_);rintro e w65 ⟨rfl,hb⟩;refine ⟨_,rfl,?_⟩;replace BK530:=kf BK530 NB530_535 hb;replace BK531:=kf BK531 NB531_535 hb;replace BK532:=kf BK532 NB532_535 hb;replace BK533:=kf BK533 NB533_535 hb;replace BK534:=kf BK534 NB534_535 hb;replace BK535:=aM (blk_below (g:=gb535) (o:=.cells #[.string a1_0,.string a1_1,.string a2_0,.string a2_1,.string a3_0,.string a3_1] 51 (0,0)) (by (with_reducible repeat (first|apply yN|apply yD|apply yA));refine blk_put (cs:=#[.string a1_0,.string a1_1,.string a2_0,.string a2_1,.string a3_0,.string ⟨#[]⟩]) ?_ 5 _ rfl;(with_reducible repeat (first|apply yN|apply yD|apply yA));refine blk_put (cs:=#[.string a1_0,.string a1_1,.string a2_0,.string a2_1,.string ⟨#[]⟩,.string ⟨#[]⟩]) ?_ 4 _ rfl;(with_reducible repeat (first|apply yN|apply yD|apply yA));refine blk_put (cs:=#[.string a1_0,.string a1_1,.string a2_0,.string ⟨#[]⟩,.string ⟨#[]⟩,.string ⟨#[]⟩]) ?_ 3 _ rfl;(with_reducible repeat (first|apply yN|apply yD|apply yA));refine blk_put (cs:=#[.string a1_0,.string a1_1,.string ⟨#[]⟩,.string ⟨#[]⟩,.string ⟨#[]⟩,.string ⟨#[]⟩]) ?_ 2 _ rfl;(with_reducible repeat (first|apply yN|apply yD|apply yA));refine blk_put (cs:=#[.string a1_0,.string ⟨#[]⟩,.string ⟨#[]⟩,.string ⟨#[]⟩,.string ⟨#[]⟩,.string ⟨#[]⟩]) ?_ 1 _ rfl;(with_reducible repeat (first|apply yN|apply yD|apply yA));refine blk_put (cs:=#[.string ⟨#[]⟩,.string ⟨#[]⟩,.string ⟨#[]⟩,.string ⟨#[]⟩,.string ⟨#[]⟩,.string ⟨#[]⟩]) ?_ 0 _ rfl;(with_reducible repeat (first|apply yN|apply yD|apply yA));exact BK535.out) hb);replace HB:=aM (below_step (by first|exact bb HB|exact bg HB GE530|exact bg HB GE531|exact bg HB GE532|exact bg HB GE533|exact bg HB GE534|exact bg HB GE535) hb);(try clear hb);have⟨a0,a1,b0,b1⟩:=q2f BK534))
  refine bodyPost_ret (results_ct rfl _ _ gb534 25 #[.string ⟨#[]⟩,.string ⟨#[]⟩] (0,0) _ rfl (by (with_reducible repeat (first|apply yN|apply yD|apply yA));refine blk_put (cs:=#[.string ⟨#[]⟩,.string ⟨#[]⟩]) ?_ 1 _ rfl;(with_reducible repeat (first|apply yN|apply yD|apply yA));refine blk_put (cs:=#[.string ⟨#[]⟩,.string ⟨#[]⟩]) ?_ 0 _ rfl;(with_reducible repeat (first|apply yN|apply yD|apply yA));exact BK534.out) Try.underlying25 rfl (by kernel_rfl)) rfl ?_
  exact ⟨rfl,by first|exact bb HB|exact bg HB GE530|exact bg HB GE531|exact bg HB GE532|exact bg HB GE533|exact bg HB GE534|exact bg HB GE535⟩
def spec_l06Three.f (k:Nat) (a0_0:ByteArray) (a0_1:ByteArray) (a1_0:ByteArray) (a1_1:ByteArray) (a2_0:ByteArray) (a2_1:ByteArray) (a3_0:ByteArray) (a3_1:ByteArray):Option (Int):=(spec_l06Code.f k a0_0 a0_1 (([(⟨a1_0,a1_1⟩:S25),(⟨a2_0,a2_1⟩:S25),(⟨a3_0,a3_1⟩:S25)]:List (S25)))).bind fun t549=>((spec_l06Same.f k a1_0 a1_1 a2_0 a2_1 a3_0 a3_1).bind fun bt550=>(if t549 = 0 then (if bt550.2.2 = true then (some 5) else (some t549)) else (some t549)))
theorem spec_l06Three.mono:∀ a0 a1 a2 a3 a4 a5 a6 a7 k,LeO (spec_l06Three.f k a0 a1 a2 a3 a4 a5 a6 a7) (spec_l06Three.f (k + 1) a0 a1 a2 a3 a4 a5 a6 a7):=by
 intro a0 a1 a2 a3 a4 a5 a6 a7 k
 unfold spec_l06Three.f
 repeat' first
   | (with_reducible exact spec_l06Code.mono _ _ _ _)
   | (with_reducible exact spec_l06Same.mono _ _ _ _ _ _ _)
   | (with_reducible exact LeO.refl _)
   | (with_reducible exact LeO.none _)
   | (with_reducible refine LeO.ite ?_ ?_)
   | (with_reducible refine LeO.bind ?_ (fun _=>?_))
   | exact spec_l06Code.mono _ _ _ _
   | exact spec_l06Same.mono _ _ _ _ _ _ _
   | exact LeO.none _
   | refine LeO.ite ?_ ?_
   | refine LeO.bind ?_ (fun _=>?_)
set_option maxHeartbeats 8000000 in
set_option maxRecDepth 100000 in
theorem spec_l06Three.calls (k:Nat) (a0_0:ByteArray) (a0_1:ByteArray) (a1_0:ByteArray) (a1_1:ByteArray) (a2_0:ByteArray) (a2_1:ByteArray) (a3_0:ByteArray) (a3_1:ByteArray) (r:Int) (w:World) (h:spec_l06Three.f k a0_0 a0_1 a1_0 a1_1 a2_0 a2_1 a3_0 a3_1 = some r) :
  Calls Try.prog 33 #[.agg #[.string a0_0,.string a0_1],.agg #[.string a1_0,.string a1_1],.agg #[.string a2_0,.string a2_1],.agg #[.string a3_0,.string a3_1]] w fun e w'=>e = .returned (.int .i64 r) ∧ Below w.heap.size w w':=by
 have hu25:=Try.underlying25
 have hu50:=Try.underlying50
 have HB:=aM (Below.refl w.heap.size w)
 have H:((spec_l06Code.f k a0_0 a0_1 (([(⟨a1_0,a1_1⟩:S25),(⟨a2_0,a2_1⟩:S25),(⟨a3_0,a3_1⟩:S25)]:List (S25)))).bind fun t549=>((spec_l06Same.f k a1_0 a1_1 a2_0 a2_1 a3_0 a3_1).bind fun bt550=>(if t549 = 0 then (if bt550.2.2 = true then (some 5) else (some t549)) else (some t549)))) = some r:=h
 clear h
 obtain ⟨y546,hy546⟩:∃ y_:List (S25),y_ = (([(⟨a1_0,a1_1⟩:S25),(⟨a2_0,a2_1⟩:S25),(⟨a3_0,a3_1⟩:S25)]:List (S25))):=⟨_,rfl⟩
 replace H:((spec_l06Code.f k a0_0 a0_1 y546).bind fun t549=>((spec_l06Same.f k a1_0 a1_1 a2_0 a2_1 a3_0 a3_1).bind fun bt550=>(if t549 = 0 then (if bt550.2.2 = true then (some 5) else (some t549)) else (some t549)))) = some r:=by first|(rw [hy546];with_reducible exact H)|(have H2_:=(Option.bind_some _ _).symm.trans H;rw [hy546];with_reducible exact H2_)|(have H2_:=(Option.bind_some _ _).symm.trans H;with_reducible exact H2_)|with_reducible exact H|(rw [hy546];exact H)|exact H
 have Ny546:=aM hy546
 clear hy546
 replace H:=Option.bind_eq_some_iff.mp H
 obtain ⟨t549,A50,H⟩:=H
 replace H:((spec_l06Same.f k a1_0 a1_1 a2_0 a2_1 a3_0 a3_1).bind fun bt550=>(if t549 = 0 then (if bt550.2.2 = true then (some 5) else (some t549)) else (some t549))) = some r:=H;have A5:=aM A50
 clear A50
 replace H:=Option.bind_eq_some_iff.mp H
 obtain ⟨⟨t550,t551,t552⟩,A60,H⟩:=H
 replace H:(if t549 = 0 then (if t552 = true then (some 5) else (some t549)) else (some t549)) = some r:=H;have A6:=aM A60
 clear A60
 by_cases c7:t549 = 0
 ·rw [if_pos c7] at H
  have c7b0:(t549 == 0) = true:=beq_iff_eq.mpr c7
  have c7b1:(t549 != 0) = false:=bne_eq_false_iff_eq.mpr c7
  clear c7
  by_cases c8:t552 = true
  ·subst c8
   have H1:(some 5) = some r:=by rw [if_pos rfl] at H;exact H
   clear H
   have H:=H1
   clear H1
   obtain rfl:=Option.some.inj H
   go_enter Try.func33,Try.ntmps33
   go_wp2_with (first|((with_reducible refine gate_dst (N:=4) rfl ?_);refine box_event rfl (N:=4) rfl (cs:=#[.string a0_0,.string a0_1]) (t:=25) (by first|(go_simp;done)|(go_simp;rfl)) ?_;intro gb542 hg w9 hbox hb;have BK542:=aM (hbox);have GW542:=wl hg HB;have GE542:=wl hg HB;replace HB:=bs HB hb;clear hb hbox hg)|((with_reducible refine gate_dst (N:=5) rfl ?_);refine box_event rfl (N:=5) rfl (cs:=#[.string a1_0,.string a1_1]) (t:=25) (by first|(go_simp;done)|(go_simp;rfl)) ?_;intro gb543 hg w10 hbox hb;have BK543:=aM (hbox);have GW543:=wl hg HB;have GE543:=wl hg HB;have NB542_543:=nl hg BK542;have NB543_542:=nr hg BK542;replace BK542:=kb BK542 hb;replace HB:=bs HB hb;clear hb hbox hg)|((with_reducible refine gate_dst (N:=6) rfl ?_);refine box_event rfl (N:=6) rfl (cs:=#[.string a2_0,.string a2_1]) (t:=25) (by first|(go_simp;done)|(go_simp;rfl)) ?_;intro gb544 hg w11 hbox hb;have BK544:=aM (hbox);have GW544:=wl hg HB;have GE544:=wl hg HB;have NB542_544:=nl hg BK542;have NB544_542:=nr hg BK542;have NB543_544:=nl hg BK543;have NB544_543:=nr hg BK543;replace BK542:=kb BK542 hb;replace BK543:=kb BK543 hb;replace HB:=bs HB hb;clear hb hbox hg)|((with_reducible refine gate_dst (N:=7) rfl ?_);refine box_event rfl (N:=7) rfl (cs:=#[.string a3_0,.string a3_1]) (t:=25) (by first|(go_simp;done)|(go_simp;rfl)) ?_;intro gb545 hg w12 hbox hb;have BK545:=aM (hbox);have GW545:=wl hg HB;have GE545:=wl hg HB;have NB542_545:=nl hg BK542;have NB545_542:=nr hg BK542;have NB543_545:=nl hg BK543;have NB545_543:=nr hg BK543;have NB544_545:=nl hg BK544;have NB545_544:=nr hg BK544;replace BK542:=kb BK542 hb;replace BK543:=kb BK543 hb;replace BK544:=kb BK544 hb;replace HB:=bs HB hb;clear hb hbox hg;have hnb13:=NB542_543.out;have hnc13:=NB543_542.out;have hnb14:=NB542_544.out;have hnc14:=NB544_542.out;have hnb15:=NB542_545.out;have hnc15:=NB545_542.out;have⟨a0,a1,b0,b1⟩:=q2f BK542;have hnb17:=NB543_544.out;have hnc17:=NB544_543.out;have hnb18:=NB543_545.out;have hnc18:=NB545_543.out;have⟨a0,a1,b0,b1⟩:=q2f BK543;have hnb20:=NB544_545.out;have hnc20:=NB545_544.out;have⟨a0,a1,b0,b1⟩:=q2f BK544;have⟨a0,a1,b0,b1⟩:=q2f BK545)|((with_reducible refine gate_dst (N:=16) rfl ?_);refine Kd.R_lit k25 _ 25 ?hg (N:=16) ?hd (xs:=([(⟨a1_0,a1_1⟩:S25),(⟨a2_0,a2_1⟩:S25),(⟨a3_0,a3_1⟩:S25)]:List (S25))) (inner:=[.string a1_0,.string a1_1,.string a2_0,.string a2_1,.string a3_0,.string a3_1]) (ok:=fun _=>True) (okp:=fun _=>True) ?hr ?hp (fun _ hk=>hk) trivial (Below.refl _ _) (Nat.le_refl _) (by simp) ?_;(case hd=>rfl);(case hg=>rfl);(case hr=>first|(go_simp;done)|(go_simp;rfl));(case hp=>exact (Reps.c2 (show Kd.M k25 _ _ _ (⟨a1_0,a1_1⟩:S25) [.string a1_0,.string a1_1] from (k25_mkM _ _ _ (⟨a1_0,a1_1⟩:S25) )) (Reps.c2 (show Kd.M k25 _ _ _ (⟨a2_0,a2_1⟩:S25) [.string a2_0,.string a2_1] from (k25_mkM _ _ _ (⟨a2_0,a2_1⟩:S25) )) (Reps.c2 (show Kd.M k25 _ _ _ (⟨a3_0,a3_1⟩:S25) [.string a3_0,.string a3_1] from (k25_mkM _ _ _ (⟨a3_0,a3_1⟩:S25) )) (Reps.none _ _)))));intro v547 w23 ho24 hb hg_ hnew_;clear hg_ hnew_;(first|rw [← Ny546.out] at ho24|(simp only [Int.reduceToNat] at ho24;rw [← Ny546.out] at ho24));have HO548:=aM (Kd.R_lower (Kd.R_newB (Kd.R_newB (Kd.R_newB (Kd.R_newB ho24 (g:=gb542) (o:=.cells #[.string a0_0,.string a0_1] 25 (0,0)) (bk BK542)) (g:=gb543) (o:=.cells #[.string a1_0,.string a1_1] 25 (0,0)) (bk BK543)) (g:=gb544) (o:=.cells #[.string a2_0,.string a2_1] 25 (0,0)) (bk BK544)) (g:=gb545) (o:=.cells #[.string a3_0,.string a3_1] 25 (0,0)) (bk BK545)) (below_size (bb HB)));replace BK542:=kb BK542 hb;replace BK543:=kb BK543 hb;replace BK544:=kb BK544 hb;replace BK545:=kb BK545 hb;replace HB:=bs HB hb;clear hb ho24;obtain ⟨Ao25,co25,eo25⟩:=Kd.R_slice HO548.out;subst eo25)|((with_reducible refine gate_callee (f:=28) rfl ?_);refine goesL_ (some 17) rfl rfl Try.func28 (by kernel_rfl) rfl #[.agg #[.string a0_0,.string a0_1],.slice Ao25 y546.length co25] rfl (by (try simp only [sM,sC,sN]);first|done|rfl) ?_;(with_reducible refine (spec_l06Code.calls k a0_0 a0_1 _ _ y546 t549 _ ?side1 ?side2 A5.out).mono ?_);(case side1=>repeat (first|exact (Kd.R_reads' HO548.out).2.2|(with_reducible refine cA ?_ _)|(with_reducible refine cN ?_ _)|(with_reducible refine cD ?_)));(case side2=>exact (Kd.R_reads' HO548.out).2.1);rintro e w26 ⟨rfl,hb⟩;refine ⟨_,rfl,?_⟩;replace HO548:=ko HO548 hb;replace BK542:=kb BK542 hb;replace BK543:=kb BK543 hb;replace BK544:=kb BK544 hb;replace BK545:=kb BK545 hb;replace HB:=bs HB hb;(try clear hb);have⟨a0,a1,b0,b1⟩:=q2f BK543;have⟨a0,a1,b0,b1⟩:=q2f BK544;have⟨a0,a1,b0,b1⟩:=q2f BK545)|((with_reducible refine gate_callee (f:=55) rfl ?_);refine goesL_ (some 23) rfl rfl Try.func55 (by kernel_rfl) rfl #[.agg #[.string a1_0,.string a1_1,.string a2_0,.string a2_1,.string a3_0,.string a3_1]] rfl (by (try simp only [sM,sC,sN]);first|done|rfl) ?_;(with_reducible refine (spec_l06Same.calls k a1_0 a1_1 a2_0 a2_1 a3_0 a3_1 t550 t551 true _ A6.out).mono ?_);rintro e w30 ⟨rfl,hb⟩;refine ⟨_,rfl,?_⟩;replace HO548:=ko HO548 hb;replace BK542:=kb BK542 hb;replace BK543:=kb BK543 hb;replace BK544:=kb BK544 hb;replace BK545:=kb BK545 hb;replace HB:=bs HB hb;(try clear hb))|((with_reducible refine gate_dst (N:=10) rfl ?_);refine box_event rfl (N:=10) rfl (cs:=#[.string ⟨#[]⟩,.string ⟨#[]⟩]) (t:=25) (by first|(go_simp;done)|(go_simp;rfl)) ?_;intro gb553 hg w31 hbox hb;have BK553:=aM (hbox);have GW553:=wl hg HB;have GE553:=wl hg HB;have NB542_553:=nl hg BK542;have NB553_542:=nr hg BK542;have NB543_553:=nl hg BK543;have NB553_543:=nr hg BK543;have NB544_553:=nl hg BK544;have NB553_544:=nr hg BK544;have NB545_553:=nl hg BK545;have NB553_545:=nr hg BK545;replace HO548:=aM (Kd.R_below (Kd.R_elderB (rk HO548) gb553 (Nat.le_of_eq hg.symm)) hb);replace BK542:=kb BK542 hb;replace BK543:=kb BK543 hb;replace BK544:=kb BK544 hb;replace BK545:=kb BK545 hb;replace HB:=bs HB hb;clear hb hbox hg;have hnb32:=NB553_542.out;have hnc32:=NB542_553.out;have hnb33:=NB553_543.out;have hnc33:=NB543_553.out;have hnb34:=NB553_544.out;have hnc34:=NB544_553.out;have hnb35:=NB553_545.out;have hnc35:=NB545_553.out;have⟨a0,a1,b0,b1⟩:=q2f BK553))
   go_ret
   exact ⟨rfl,by first|exact bb HB|exact bg HB GE542|exact bg HB GE543|exact bg HB GE544|exact bg HB GE545|exact bg HB GE553⟩
  ·replace c8:=Bool.eq_false_iff.mpr c8
   subst c8
   have H1:(some t549) = some r:=by rw [if_neg (show ¬ (false = true) by decide)] at H;exact H
   clear H
   have H:=H1
   clear H1
   obtain rfl:=Option.some.inj H
   go_enter Try.func33,Try.ntmps33
   go_wp2_with (first|((with_reducible refine gate_dst (N:=4) rfl ?_);refine box_event rfl (N:=4) rfl (cs:=#[.string a0_0,.string a0_1]) (t:=25) (by first|(go_simp;done)|(go_simp;rfl)) ?_;intro gb542 hg w37 hbox hb;have BK542:=aM (hbox);have GW542:=wl hg HB;have GE542:=wl hg HB;replace HB:=bs HB hb;clear hb hbox hg)|((with_reducible refine gate_dst (N:=5) rfl ?_);refine box_event rfl (N:=5) rfl (cs:=#[.string a1_0,.string a1_1]) (t:=25) (by first|(go_simp;done)|(go_simp;rfl)) ?_;intro gb543 hg w38 hbox hb;have BK543:=aM (hbox);have GW543:=wl hg HB;have GE543:=wl hg HB;have NB542_543:=nl hg BK542;have NB543_542:=nr hg BK542;replace BK542:=kb BK542 hb;replace HB:=bs HB hb;clear hb hbox hg)|((with_reducible refine gate_dst (N:=6) rfl ?_);refine box_event rfl (N:=6) rfl (cs:=#[.string a2_0,.string a2_1]) (t:=25) (by first|(go_simp;done)|(go_simp;rfl)) ?_;intro gb544 hg w39 hbox hb;have BK544:=aM (hbox);have GW544:=wl hg HB;have GE544:=wl hg HB;have NB542_544:=nl hg BK542;have NB544_542:=nr hg BK542;have NB543_544:=nl hg BK543;have NB544_543:=nr hg BK543;replace BK542:=kb BK542 hb;replace BK543:=kb BK543 hb;replace HB:=bs HB hb;clear hb hbox hg)|((with_reducible refine gate_dst (N:=7) rfl ?_);refine box_event rfl (N:=7) rfl (cs:=#[.string a3_0,.string a3_1]) (t:=25) (by first|(go_simp;done)|(go_simp;rfl)) ?_;intro gb545 hg w40 hbox hb;have BK545:=aM (hbox);have GW545:=wl hg HB;have GE545:=wl hg HB;have NB542_545:=nl hg BK542;have NB545_542:=nr hg BK542;have NB543_545:=nl hg BK543;have NB545_543:=nr hg BK543;have NB544_545:=nl hg BK544;have NB545_544:=nr hg BK544;replace BK542:=kb BK542 hb;replace BK543:=kb BK543 hb;replace BK544:=kb BK544 hb;replace HB:=bs HB hb;clear hb hbox hg;have hnb41:=NB542_543.out;have hnc41:=NB543_542.out;have hnb42:=NB542_544.out;have hnc42:=NB544_542.out;have hnb43:=NB542_545.out;have hnc43:=NB545_542.out;have⟨a0,a1,b0,b1⟩:=q2f BK542;have hnb45:=NB543_544.out;have hnc45:=NB544_543.out;have hnb46:=NB543_545.out;have hnc46:=NB545_543.out;have⟨a0,a1,b0,b1⟩:=q2f BK543;have hnb48:=NB544_545.out;have hnc48:=NB545_544.out;have⟨a0,a1,b0,b1⟩:=q2f BK544;have⟨a0,a1,b0,b1⟩:=q2f BK545)|((with_reducible refine gate_dst (N:=16) rfl ?_);refine Kd.R_lit k25 _ 25 ?hg (N:=16) ?hd (xs:=([(⟨a1_0,a1_1⟩:S25),(⟨a2_0,a2_1⟩:S25),(⟨a3_0,a3_1⟩:S25)]:List (S25))) (inner:=[.string a1_0,.string a1_1,.string a2_0,.string a2_1,.string a3_0,.string a3_1]) (ok:=fun _=>True) (okp:=fun _=>True) ?hr ?hp (fun _ hk=>hk) trivial (Below.refl _ _) (Nat.le_refl _) (by simp) ?_;(case hd=>rfl);(case hg=>rfl);(case hr=>first|(go_simp;done)|(go_simp;rfl));(case hp=>exact (Reps.c2 (show Kd.M k25 _ _ _ (⟨a1_0,a1_1⟩:S25) [.string a1_0,.string a1_1] from (k25_mkM _ _ _ (⟨a1_0,a1_1⟩:S25) )) (Reps.c2 (show Kd.M k25 _ _ _ (⟨a2_0,a2_1⟩:S25) [.string a2_0,.string a2_1] from (k25_mkM _ _ _ (⟨a2_0,a2_1⟩:S25) )) (Reps.c2 (show Kd.M k25 _ _ _ (⟨a3_0,a3_1⟩:S25) [.string a3_0,.string a3_1] from (k25_mkM _ _ _ (⟨a3_0,a3_1⟩:S25) )) (Reps.none _ _)))));intro v547 w51 ho52 hb hg_ hnew_;clear hg_ hnew_;(first|rw [← Ny546.out] at ho52|(simp only [Int.reduceToNat] at ho52;rw [← Ny546.out] at ho52));have HO548:=aM (Kd.R_lower (Kd.R_newB (Kd.R_newB (Kd.R_newB (Kd.R_newB ho52 (g:=gb542) (o:=.cells #[.string a0_0,.string a0_1] 25 (0,0)) (bk BK542)) (g:=gb543) (o:=.cells #[.string a1_0,.string a1_1] 25 (0,0)) (bk BK543)) (g:=gb544) (o:=.cells #[.string a2_0,.string a2_1] 25 (0,0)) (bk BK544)) (g:=gb545) (o:=.cells #[.string a3_0,.string a3_1] 25 (0,0)) (bk BK545)) (below_size (bb HB)));replace BK542:=kb BK542 hb;replace BK543:=kb BK543 hb;replace BK544:=kb BK544 hb;replace BK545:=kb BK545 hb;replace HB:=bs HB hb;clear hb ho52;obtain ⟨Ao53,co53,eo53⟩:=Kd.R_slice HO548.out;subst eo53)|((with_reducible refine gate_callee (f:=28) rfl ?_);refine goesL_ (some 17) rfl rfl Try.func28 (by kernel_rfl) rfl #[.agg #[.string a0_0,.string a0_1],.slice Ao53 y546.length co53] rfl (by (try simp only [sM,sC,sN]);first|done|rfl) ?_;(with_reducible refine (spec_l06Code.calls k a0_0 a0_1 _ _ y546 t549 _ ?side1 ?side2 A5.out).mono ?_);(case side1=>repeat (first|exact (Kd.R_reads' HO548.out).2.2|(with_reducible refine cA ?_ _)|(with_reducible refine cN ?_ _)|(with_reducible refine cD ?_)));(case side2=>exact (Kd.R_reads' HO548.out).2.1);rintro e w54 ⟨rfl,hb⟩;refine ⟨_,rfl,?_⟩;replace HO548:=ko HO548 hb;replace BK542:=kb BK542 hb;replace BK543:=kb BK543 hb;replace BK544:=kb BK544 hb;replace BK545:=kb BK545 hb;replace HB:=bs HB hb;(try clear hb);have⟨a0,a1,b0,b1⟩:=q2f BK543;have⟨a0,a1,b0,b1⟩:=q2f BK544;have⟨a0,a1,b0,b1⟩:=q2f BK545)|((with_reducible refine gate_callee (f:=55) rfl ?_);refine goesL_ (some 23) rfl rfl Try.func55 (by kernel_rfl) rfl #[.agg #[.string a1_0,.string a1_1,.string a2_0,.string a2_1,.string a3_0,.string a3_1]] rfl (by (try simp only [sM,sC,sN]);first|done|rfl) ?_;(with_reducible refine (spec_l06Same.calls k a1_0 a1_1 a2_0 a2_1 a3_0 a3_1 t550 t551 false _ A6.out).mono ?_);rintro e w58 ⟨rfl,hb⟩;refine ⟨_,rfl,?_⟩;replace HO548:=ko HO548 hb;replace BK542:=kb BK542 hb;replace BK543:=kb BK543 hb;replace BK544:=kb BK544 hb;replace BK545:=kb BK545 hb;replace HB:=bs HB hb;(try clear hb))|((with_reducible refine gate_dst (N:=10) rfl ?_);refine box_event rfl (N:=10) rfl (cs:=#[.string ⟨#[]⟩,.string ⟨#[]⟩]) (t:=25) (by first|(go_simp;done)|(go_simp;rfl)) ?_;intro gb553 hg w59 hbox hb;have BK553:=aM (hbox);have GW553:=wl hg HB;have GE553:=wl hg HB;have NB542_553:=nl hg BK542;have NB553_542:=nr hg BK542;have NB543_553:=nl hg BK543;have NB553_543:=nr hg BK543;have NB544_553:=nl hg BK544;have NB553_544:=nr hg BK544;have NB545_553:=nl hg BK545;have NB553_545:=nr hg BK545;replace HO548:=aM (Kd.R_below (Kd.R_elderB (rk HO548) gb553 (Nat.le_of_eq hg.symm)) hb);replace BK542:=kb BK542 hb;replace BK543:=kb BK543 hb;replace BK544:=kb BK544 hb;replace BK545:=kb BK545 hb;replace HB:=bs HB hb;clear hb hbox hg;have hnb60:=NB553_542.out;have hnc60:=NB542_553.out;have hnb61:=NB553_543.out;have hnc61:=NB543_553.out;have hnb62:=NB553_544.out;have hnc62:=NB544_553.out;have hnb63:=NB553_545.out;have hnc63:=NB545_553.out;have⟨a0,a1,b0,b1⟩:=q2f BK553))
   go_ret
   exact ⟨rfl,by first|exact bb HB|exact bg HB GE542|exact bg HB GE543|exact bg HB GE544|exact bg HB GE545|exact bg HB GE553⟩
 ·rw [if_neg c7] at H
  have c7b0:(t549 == 0) = false:=beq_eq_false_iff_ne.mpr c7
  have c7b1:(t549 != 0) = true:=bne_iff_ne.mpr c7
  obtain rfl:=Option.some.inj H
  go_enter Try.func33,Try.ntmps33
  go_wp2_with (first|((with_reducible refine gate_dst (N:=4) rfl ?_);refine box_event rfl (N:=4) rfl (cs:=#[.string a0_0,.string a0_1]) (t:=25) (by first|(go_simp;done)|(go_simp;rfl)) ?_;intro gb542 hg w65 hbox hb;have BK542:=aM (hbox);have GW542:=wl hg HB;have GE542:=wl hg HB;replace HB:=bs HB hb;clear hb hbox hg)|((with_reducible refine gate_dst (N:=5) rfl ?_);refine box_event rfl (N:=5) rfl (cs:=#[.string a1_0,.string a1_1]) (t:=25) (by first|(go_simp;done)|(go_simp;rfl)) ?_;intro gb543 hg w66 hbox hb;have BK543:=aM (hbox);have GW543:=wl hg HB;have GE543:=wl hg HB;have NB542_543:=nl hg BK542;have NB543_542:=nr hg BK542;replace BK542:=kb BK542 hb;replace HB:=bs HB hb;clear hb hbox hg)|((with_reducible refine gate_dst (N:=6) rfl ?_);refine box_event rfl (N:=6) rfl (cs:=#[.string a2_0,.string a2_1]) (t:=25) (by first|(go_simp;done)|(go_simp;rfl)) ?_;intro gb544 hg w67 hbox hb;have BK544:=aM (hbox);have GW544:=wl hg HB;have GE544:=wl hg HB;have NB542_544:=nl hg BK542;have NB544_542:=nr hg BK542;have NB543_544:=nl hg BK543;have NB544_543:=nr hg BK543;replace BK542:=kb BK542 hb;replace BK543:=kb BK543 hb;replace HB:=bs HB hb;clear hb hbox hg)|((with_reducible refine gate_dst (N:=7) rfl ?_);refine box_event rfl (N:=7) rfl (cs:=#[.string a3_0,.string a3_1]) (t:=25) (by first|(go_simp;done)|(go_simp;rfl)) ?_;intro gb545 hg w68 hbox hb;have BK545:=aM (hbox);have GW545:=wl hg HB;have GE545:=wl hg HB;have NB542_545:=nl hg BK542;have NB545_542:=nr hg BK542;have NB543_545:=nl hg BK543;have NB545_543:=nr hg BK543;have NB544_545:=nl hg BK544;have NB545_544:=nr hg BK544;replace BK542:=kb BK542 hb;replace BK543:=kb BK543 hb;replace BK544:=kb BK544 hb;replace HB:=bs HB hb;clear hb hbox hg;have hnb69:=NB542_543.out;have hnc69:=NB543_542.out;have hnb70:=NB542_544.out;have hnc70:=NB544_542.out;have hnb71:=NB542_545.out;have hnc71:=NB545_542.out;have⟨a0,a1,b0,b1⟩:=q2f BK542;have hnb73:=NB543_544.out;have hnc73:=NB544_543.out;have hnb74:=NB543_545.out;have hnc74:=NB545_543.out;have⟨a0,a1,b0,b1⟩:=q2f BK543;have hnb76:=NB544_545.out;have hnc76:=NB545_544.out;have⟨a0,a1,b0,b1⟩:=q2f BK544;have⟨a0,a1,b0,b1⟩:=q2f BK545)|((with_reducible refine gate_dst (N:=16) rfl ?_);refine Kd.R_lit k25 _ 25 ?hg (N:=16) ?hd (xs:=([(⟨a1_0,a1_1⟩:S25),(⟨a2_0,a2_1⟩:S25),(⟨a3_0,a3_1⟩:S25)]:List (S25))) (inner:=[.string a1_0,.string a1_1,.string a2_0,.string a2_1,.string a3_0,.string a3_1]) (ok:=fun _=>True) (okp:=fun _=>True) ?hr ?hp (fun _ hk=>hk) trivial (Below.refl _ _) (Nat.le_refl _) (by simp) ?_;(case hd=>rfl);(case hg=>rfl);(case hr=>first|(go_simp;done)|(go_simp;rfl));(case hp=>exact (Reps.c2 (show Kd.M k25 _ _ _ (⟨a1_0,a1_1⟩:S25) [.string a1_0,.string a1_1] from (k25_mkM _ _ _ (⟨a1_0,a1_1⟩:S25) )) (Reps.c2 (show Kd.M k25 _ _ _ (⟨a2_0,a2_1⟩:S25) [.string a2_0,.string a2_1] from (k25_mkM _ _ _ (⟨a2_0,a2_1⟩:S25) )) (Reps.c2 (show Kd.M k25 _ _ _ (⟨a3_0,a3_1⟩:S25) [.string a3_0,.string a3_1] from (k25_mkM _ _ _ (⟨a3_0,a3_1⟩:S25) )) (Reps.none _ _)))));intro v547 w79 ho80 hb hg_ hnew_;clear hg_ hnew_;(first|rw [← Ny546.out] at ho80|(simp only [Int.reduceToNat] at ho80;rw [← Ny546.out] at ho80));have HO548:=aM (Kd.R_lower (Kd.R_newB (Kd.R_newB (Kd.R_newB (Kd.R_newB ho80 (g:=gb542) (o:=.cells #[.string a0_0,.string a0_1] 25 (0,0)) (bk BK542)) (g:=gb543) (o:=.cells #[.string a1_0,.string a1_1] 25 (0,0)) (bk BK543)) (g:=gb544) (o:=.cells #[.string a2_0,.string a2_1] 25 (0,0)) (bk BK544)) (g:=gb545) (o:=.cells #[.string a3_0,.string a3_1] 25 (0,0)) (bk BK545)) (below_size (bb HB)));replace BK542:=kb BK542 hb;replace BK543:=kb BK543 hb;replace BK544:=kb BK544 hb;replace BK545:=kb BK545 hb;replace HB:=bs HB hb;clear hb ho80;obtain ⟨Ao81,co81,eo81⟩:=Kd.R_slice HO548.out;subst eo81)|((with_reducible refine gate_callee (f:=28) rfl ?_);refine goesL_ (some 17) rfl rfl Try.func28 (by kernel_rfl) rfl #[.agg #[.string a0_0,.string a0_1],.slice Ao81 y546.length co81] rfl (by (try simp only [sM,sC,sN]);first|done|rfl) ?_;(with_reducible refine (spec_l06Code.calls k a0_0 a0_1 _ _ y546 t549 _ ?side1 ?side2 A5.out).mono ?_);(case side1=>repeat (first|exact (Kd.R_reads' HO548.out).2.2|(with_reducible refine cA ?_ _)|(with_reducible refine cN ?_ _)|(with_reducible refine cD ?_)));(case side2=>exact (Kd.R_reads' HO548.out).2.1);rintro e w82 ⟨rfl,hb⟩;refine ⟨_,rfl,?_⟩;replace HO548:=ko HO548 hb;replace BK542:=kb BK542 hb;replace BK543:=kb BK543 hb;replace BK544:=kb BK544 hb;replace BK545:=kb BK545 hb;replace HB:=bs HB hb;(try clear hb);have⟨a0,a1,b0,b1⟩:=q2f BK543;have⟨a0,a1,b0,b1⟩:=q2f BK544;have⟨a0,a1,b0,b1⟩:=q2f BK545)|((with_reducible refine gate_callee (f:=55) rfl ?_);refine goesL_ (some 23) rfl rfl Try.func55 (by kernel_rfl) rfl #[.agg #[.string a1_0,.string a1_1,.string a2_0,.string a2_1,.string a3_0,.string a3_1]] rfl (by (try simp only [sM,sC,sN]);first|done|rfl) ?_;(with_reducible refine (spec_l06Same.calls k a1_0 a1_1 a2_0 a2_1 a3_0 a3_1 t550 t551 t552 _ A6.out).mono ?_);rintro e w86 ⟨rfl,hb⟩;refine ⟨_,rfl,?_⟩;replace HO548:=ko HO548 hb;replace BK542:=kb BK542 hb;replace BK543:=kb BK543 hb;replace BK544:=kb BK544 hb;replace BK545:=kb BK545 hb;replace HB:=bs HB hb;(try clear hb))|((with_reducible refine gate_dst (N:=10) rfl ?_);refine box_event rfl (N:=10) rfl (cs:=#[.string ⟨#[]⟩,.string ⟨#[]⟩]) (t:=25) (by first|(go_simp;done)|(go_simp;rfl)) ?_;intro gb553 hg w87 hbox hb;have BK553:=aM (hbox);have GW553:=wl hg HB;have GE553:=wl hg HB;have NB542_553:=nl hg BK542;have NB553_542:=nr hg BK542;have NB543_553:=nl hg BK543;have NB553_543:=nr hg BK543;have NB544_553:=nl hg BK544;have NB553_544:=nr hg BK544;have NB545_553:=nl hg BK545;have NB553_545:=nr hg BK545;replace HO548:=aM (Kd.R_below (Kd.R_elderB (rk HO548) gb553 (Nat.le_of_eq hg.symm)) hb);replace BK542:=kb BK542 hb;replace BK543:=kb BK543 hb;replace BK544:=kb BK544 hb;replace BK545:=kb BK545 hb;replace HB:=bs HB hb;clear hb hbox hg;have hnb88:=NB553_542.out;have hnc88:=NB542_553.out;have hnb89:=NB553_543.out;have hnc89:=NB543_553.out;have hnb90:=NB553_544.out;have hnc90:=NB544_553.out;have hnb91:=NB553_545.out;have hnc91:=NB545_553.out;have⟨a0,a1,b0,b1⟩:=q2f BK553))
  go_ret
  exact ⟨rfl,by first|exact bb HB|exact bg HB GE542|exact bg HB GE543|exact bg HB GE544|exact bg HB GE545|exact bg HB GE553⟩
def spec_MiddleOf.f (k:Nat) (a0_0:ByteArray) (a0_1:ByteArray) (a1_0:ByteArray) (a1_1:ByteArray) (a2_0:ByteArray) (a2_1:ByteArray) (a3_0:ByteArray) (a3_1:ByteArray):Option (ByteArray × ByteArray × Int):=(spec_l06Three.f k a0_0 a0_1 a1_0 a1_1 a2_0 a2_1 a3_0 a3_1).bind fun t623=>(if t623 = 0 then ((spec_l06Middle.f k a0_0 a0_1 a1_0 a1_1 a2_0 a2_1 a3_0 a3_1).bind fun bt624=>(if bt624.2.2 = true then (some (bt624.1,bt624.2.1,0)) else (some ((⟨#[]⟩:ByteArray),(⟨#[]⟩:ByteArray),3)))) else (some ((⟨#[]⟩:ByteArray),(⟨#[]⟩:ByteArray),t623)))
theorem spec_MiddleOf.mono:∀ a0 a1 a2 a3 a4 a5 a6 a7 k,LeO (spec_MiddleOf.f k a0 a1 a2 a3 a4 a5 a6 a7) (spec_MiddleOf.f (k + 1) a0 a1 a2 a3 a4 a5 a6 a7):=by
 intro a0 a1 a2 a3 a4 a5 a6 a7 k
 unfold spec_MiddleOf.f
 repeat' first
   | (with_reducible exact spec_l06Middle.mono _ _ _ _ _ _ _ _ _)
   | (with_reducible exact spec_l06Three.mono _ _ _ _ _ _ _ _ _)
   | (with_reducible exact LeO.refl _)
   | (with_reducible exact LeO.none _)
   | (with_reducible refine LeO.ite ?_ ?_)
   | (with_reducible refine LeO.bind ?_ (fun _=>?_))
   | exact spec_l06Middle.mono _ _ _ _ _ _ _ _ _
   | exact spec_l06Three.mono _ _ _ _ _ _ _ _ _
   | exact LeO.none _
   | refine LeO.ite ?_ ?_
   | refine LeO.bind ?_ (fun _=>?_)
set_option maxHeartbeats 8000000 in
set_option maxRecDepth 100000 in
theorem spec_MiddleOf.calls (k:Nat) (a0_0:ByteArray) (a0_1:ByteArray) (a1_0:ByteArray) (a1_1:ByteArray) (a2_0:ByteArray) (a2_1:ByteArray) (a3_0:ByteArray) (a3_1:ByteArray) (r1:ByteArray) (r2:ByteArray) (r3:Int) (w:World) (h:spec_MiddleOf.f k a0_0 a0_1 a1_0 a1_1 a2_0 a2_1 a3_0 a3_1 = some (r1,r2,r3)) :
  Calls Try.prog 14 #[.agg #[.string a0_0,.string a0_1],.agg #[.string a1_0,.string a1_1],.agg #[.string a2_0,.string a2_1],.agg #[.string a3_0,.string a3_1]] w fun e w'=>e = .returned (.tuple #[.agg #[.string r1,.string r2],.int .i64 r3]) ∧ Below w.heap.size w w':=by
 have hu25:=Try.underlying25
 have hu50:=Try.underlying50
 have HB:=aM (Below.refl w.heap.size w)
 have H:((spec_l06Three.f k a0_0 a0_1 a1_0 a1_1 a2_0 a2_1 a3_0 a3_1).bind fun t623=>(if t623 = 0 then ((spec_l06Middle.f k a0_0 a0_1 a1_0 a1_1 a2_0 a2_1 a3_0 a3_1).bind fun bt624=>(if bt624.2.2 = true then (some (bt624.1,bt624.2.1,0)) else (some ((⟨#[]⟩:ByteArray),(⟨#[]⟩:ByteArray),3)))) else (some ((⟨#[]⟩:ByteArray),(⟨#[]⟩:ByteArray),t623)))) = some (r1,r2,r3):=h
 clear h
 replace H:=Option.bind_eq_some_iff.mp H
 obtain ⟨t623,A50,H⟩:=H
 replace H:(if t623 = 0 then ((spec_l06Middle.f k a0_0 a0_1 a1_0 a1_1 a2_0 a2_1 a3_0 a3_1).bind fun bt624=>(if bt624.2.2 = true then (some (bt624.1,bt624.2.1,0)) else (some ((⟨#[]⟩:ByteArray),(⟨#[]⟩:ByteArray),3)))) else (some ((⟨#[]⟩:ByteArray),(⟨#[]⟩:ByteArray),t623))) = some (r1,r2,r3):=H;have A5:=aM A50
 clear A50
 by_cases c6:t623 = 0
 ·rw [if_pos c6] at H
  have c6b0:(t623 == 0) = true:=beq_iff_eq.mpr c6
  have c6b1:(t623 != 0) = false:=bne_eq_false_iff_eq.mpr c6
  clear c6
  replace H:=Option.bind_eq_some_iff.mp H
  obtain ⟨⟨t624,t625,t626⟩,A70,H⟩:=H
  replace H:(if t626 = true then (some (t624,t625,0)) else (some ((⟨#[]⟩:ByteArray),(⟨#[]⟩:ByteArray),3))) = some (r1,r2,r3):=H;have A7:=aM A70
  clear A70
  by_cases c8:t626 = true
  ·subst c8
   have H1:(some (t624,t625,0)) = some (r1,r2,r3):=by rw [if_pos rfl] at H;exact H
   clear H
   have H:=H1
   clear H1
   simp only [Option.some.injEq,Prod.mk.injEq] at H
   obtain ⟨rfl,rfl,rfl⟩:=H
   go_enter Try.func14,Try.ntmps14
   go_wp2_with (first|((with_reducible refine gate_dst (N:=4) rfl ?_);refine box_event rfl (N:=4) rfl (cs:=#[.string a0_0,.string a0_1]) (t:=25) (by first|(go_simp;done)|(go_simp;rfl)) ?_;intro gb618 hg w9 hbox hb;have BK618:=aM (hbox);have GW618:=wl hg HB;have GE618:=wl hg HB;replace HB:=bs HB hb;clear hb hbox hg)|((with_reducible refine gate_dst (N:=5) rfl ?_);refine box_event rfl (N:=5) rfl (cs:=#[.string a1_0,.string a1_1]) (t:=25) (by first|(go_simp;done)|(go_simp;rfl)) ?_;intro gb619 hg w10 hbox hb;have BK619:=aM (hbox);have GW619:=wl hg HB;have GE619:=wl hg HB;have NB618_619:=nl hg BK618;have NB619_618:=nr hg BK618;replace BK618:=kb BK618 hb;replace HB:=bs HB hb;clear hb hbox hg)|((with_reducible refine gate_dst (N:=6) rfl ?_);refine box_event rfl (N:=6) rfl (cs:=#[.string a2_0,.string a2_1]) (t:=25) (by first|(go_simp;done)|(go_simp;rfl)) ?_;intro gb620 hg w11 hbox hb;have BK620:=aM (hbox);have GW620:=wl hg HB;have GE620:=wl hg HB;have NB618_620:=nl hg BK618;have NB620_618:=nr hg BK618;have NB619_620:=nl hg BK619;have NB620_619:=nr hg BK619;replace BK618:=kb BK618 hb;replace BK619:=kb BK619 hb;replace HB:=bs HB hb;clear hb hbox hg)|((with_reducible refine gate_dst (N:=7) rfl ?_);refine box_event rfl (N:=7) rfl (cs:=#[.string a3_0,.string a3_1]) (t:=25) (by first|(go_simp;done)|(go_simp;rfl)) ?_;intro gb621 hg w12 hbox hb;have BK621:=aM (hbox);have GW621:=wl hg HB;have GE621:=wl hg HB;have NB618_621:=nl hg BK618;have NB621_618:=nr hg BK618;have NB619_621:=nl hg BK619;have NB621_619:=nr hg BK619;have NB620_621:=nl hg BK620;have NB621_620:=nr hg BK620;replace BK618:=kb BK618 hb;replace BK619:=kb BK619 hb;replace BK620:=kb BK620 hb;replace HB:=bs HB hb;clear hb hbox hg)|((with_reducible refine gate_dst (N:=8) rfl ?_);refine box_event rfl (N:=8) rfl (cs:=#[.string ⟨#[]⟩,.string ⟨#[]⟩]) (t:=25) (by first|(go_simp;done)|(go_simp;rfl)) ?_;intro gb622 hg w13 hbox hb;have BK622:=aM (hbox);have GW622:=wl hg HB;have GE622:=wl hg HB;have NB618_622:=nl hg BK618;have NB622_618:=nr hg BK618;have NB619_622:=nl hg BK619;have NB622_619:=nr hg BK619;have NB620_622:=nl hg BK620;have NB622_620:=nr hg BK620;have NB621_622:=nl hg BK621;have NB622_621:=nr hg BK621;replace BK618:=kb BK618 hb;replace BK619:=kb BK619 hb;replace BK620:=kb BK620 hb;replace BK621:=kb BK621 hb;replace HB:=bs HB hb;clear hb hbox hg;have hnb14:=NB618_619.out;have hnc14:=NB619_618.out;have hnb15:=NB618_620.out;have hnc15:=NB620_618.out;have hnb16:=NB618_621.out;have hnc16:=NB621_618.out;have hnb17:=NB618_622.out;have hnc17:=NB622_618.out;have⟨a0,a1,b0,b1⟩:=q2f BK618;have hnb19:=NB619_620.out;have hnc19:=NB620_619.out;have hnb20:=NB619_621.out;have hnc20:=NB621_619.out;have hnb21:=NB619_622.out;have hnc21:=NB622_619.out;have⟨a0,a1,b0,b1⟩:=q2f BK619;have hnb23:=NB620_621.out;have hnc23:=NB621_620.out;have hnb24:=NB620_622.out;have hnc24:=NB622_620.out;have⟨a0,a1,b0,b1⟩:=q2f BK620;have hnb26:=NB621_622.out;have hnc26:=NB622_621.out;have⟨a0,a1,b0,b1⟩:=q2f BK621)|((with_reducible refine gate_callee (f:=33) rfl ?_);refine goesL_ (some 17) rfl rfl Try.func33 (by kernel_rfl) rfl #[.agg #[.string a0_0,.string a0_1],.agg #[.string a1_0,.string a1_1],.agg #[.string a2_0,.string a2_1],.agg #[.string a3_0,.string a3_1]] rfl (by (try simp only [sM,sC,sN]);first|done|rfl) ?_;(with_reducible refine (spec_l06Three.calls k a0_0 a0_1 a1_0 a1_1 a2_0 a2_1 a3_0 a3_1 t623 _ A5.out).mono ?_);rintro e w28 ⟨rfl,hb⟩;refine ⟨_,rfl,?_⟩;replace BK618:=kb BK618 hb;replace BK619:=kb BK619 hb;replace BK620:=kb BK620 hb;replace BK621:=kb BK621 hb;replace BK622:=kb BK622 hb;replace HB:=bs HB hb;(try clear hb);have⟨a0,a1,b0,b1⟩:=q2f BK618;have⟨a0,a1,b0,b1⟩:=q2f BK619;have⟨a0,a1,b0,b1⟩:=q2f BK620;have⟨a0,a1,b0,b1⟩:=q2f BK621)|((with_reducible refine gate_callee (f:=34) rfl ?_);refine goesL_ (some 28) rfl rfl Try.func34 (by kernel_rfl) rfl #[.agg #[.string a0_0,.string a0_1],.agg #[.string a1_0,.string a1_1,.string a2_0,.string a2_1,.string a3_0,.string a3_1]] rfl (by (try simp only [sM,sC,sN]);first|done|rfl) ?_;(with_reducible refine (spec_l06Middle.calls k a0_0 a0_1 a1_0 a1_1 a2_0 a2_1 a3_0 a3_1 t624 t625 true _ A7.out).mono ?_);rintro e w33 ⟨rfl,hb⟩;refine ⟨_,rfl,?_⟩;replace BK618:=kb BK618 hb;replace BK619:=kb BK619 hb;replace BK620:=kb BK620 hb;replace BK621:=kb BK621 hb;replace BK622:=kb BK622 hb;replace HB:=bs HB hb;(try clear hb))|((with_reducible refine gate_dst (N:=11) rfl ?_);refine box_event rfl (N:=11) rfl (cs:=#[.string ⟨#[]⟩,.string ⟨#[]⟩]) (t:=25) (by first|(go_simp;done)|(go_simp;rfl)) ?_;intro gb627 hg w34 hbox hb;have BK627:=aM (hbox);have GW627:=wl hg HB;have GE627:=wl hg HB;have NB618_627:=nl hg BK618;have NB627_618:=nr hg BK618;have NB619_627:=nl hg BK619;have NB627_619:=nr hg BK619;have NB620_627:=nl hg BK620;have NB627_620:=nr hg BK620;have NB621_627:=nl hg BK621;have NB627_621:=nr hg BK621;have NB622_627:=nl hg BK622;have NB627_622:=nr hg BK622;replace BK618:=kb BK618 hb;replace BK619:=kb BK619 hb;replace BK620:=kb BK620 hb;replace BK621:=kb BK621 hb;replace BK622:=kb BK622 hb;replace HB:=bs HB hb;clear hb hbox hg;have hnb35:=NB627_618.out;have hnc35:=NB618_627.out;have hnb36:=NB627_619.out;have hnc36:=NB619_627.out;have hnb37:=NB627_620.out;have hnc37:=NB620_627.out;have hnb38:=NB627_621.out;have hnc38:=NB621_627.out;have hnb39:=NB627_622.out;have hnc39:=NB622_627.out;have⟨a0,a1,b0,b1⟩:=q2f BK627;have⟨a0,a1,b0,b1⟩:=q2f BK622))
   refine bodyPost_ret (results_ct rfl _ _ gb622 25 #[.string t624,.string t625] (0,0) _ rfl (by (with_reducible repeat (first|apply yN|apply yD|apply yA));refine blk_put (cs:=#[.string t624,.string ⟨#[]⟩]) ?_ 1 _ rfl;(with_reducible repeat (first|apply yN|apply yD|apply yA));refine blk_put (cs:=#[.string ⟨#[]⟩,.string ⟨#[]⟩]) ?_ 0 _ rfl;(with_reducible repeat (first|apply yN|apply yD|apply yA));refine blk_far ?_ NB622_627.out _;(with_reducible repeat (first|apply yN|apply yD|apply yA));refine blk_far ?_ NB622_627.out _;(with_reducible repeat (first|apply yN|apply yD|apply yA));exact BK622.out) Try.underlying25 rfl (by kernel_rfl)) rfl ?_
   exact ⟨rfl,by repeat (first|(with_reducible first|exact HB.out|apply zA|apply zN|apply zD|refine zS ?_ GE618.out|refine zS ?_ GE619.out|refine zS ?_ GE620.out|refine zS ?_ GE621.out|refine zS ?_ GE622.out|refine zS ?_ GE627.out)|exact HB.out)⟩
  ·replace c8:=Bool.eq_false_iff.mpr c8
   subst c8
   have H1:(some ((⟨#[]⟩:ByteArray),(⟨#[]⟩:ByteArray),3)) = some (r1,r2,r3):=by rw [if_neg (show ¬ (false = true) by decide)] at H;exact H
   clear H
   have H:=H1
   clear H1
   simp only [Option.some.injEq,Prod.mk.injEq] at H
   obtain ⟨rfl,rfl,rfl⟩:=H
   go_enter Try.func14,Try.ntmps14
   go_wp2_with (first|((with_reducible refine gate_dst (N:=4) rfl ?_);refine box_event rfl (N:=4) rfl (cs:=#[.string a0_0,.string a0_1]) (t:=25) (by first|(go_simp;done)|(go_simp;rfl)) ?_;intro gb618 hg w42 hbox hb;have BK618:=aM (hbox);have GW618:=wl hg HB;have GE618:=wl hg HB;replace HB:=bs HB hb;clear hb hbox hg)|((with_reducible refine gate_dst (N:=5) rfl ?_);refine box_event rfl (N:=5) rfl (cs:=#[.string a1_0,.string a1_1]) (t:=25) (by first|(go_simp;done)|(go_simp;rfl)) ?_;intro gb619 hg w43 hbox hb;have BK619:=aM (hbox);have GW619:=wl hg HB;have GE619:=wl hg HB;have NB618_619:=nl hg BK618;have NB619_618:=nr hg BK618;replace BK618:=kb BK618 hb;replace HB:=bs HB hb;clear hb hbox hg)|((with_reducible refine gate_dst (N:=6) rfl ?_);refine box_event rfl (N:=6) rfl (cs:=#[.string a2_0,.string a2_1]) (t:=25) (by first|(go_simp;done)|(go_simp;rfl)) ?_;intro gb620 hg w44 hbox hb;have BK620:=aM (hbox);have GW620:=wl hg HB;have GE620:=wl hg HB;have NB618_620:=nl hg BK618;have NB620_618:=nr hg BK618;have NB619_620:=nl hg BK619;have NB620_619:=nr hg BK619;replace BK618:=kb BK618 hb;replace BK619:=kb BK619 hb;replace HB:=bs HB hb;clear hb hbox hg)|((with_reducible refine gate_dst (N:=7) rfl ?_);refine box_event rfl (N:=7) rfl (cs:=#[.string a3_0,.string a3_1]) (t:=25) (by first|(go_simp;done)|(go_simp;rfl)) ?_;intro gb621 hg w45 hbox hb;have BK621:=aM (hbox);have GW621:=wl hg HB;have GE621:=wl hg HB;have NB618_621:=nl hg BK618;have NB621_618:=nr hg BK618;have NB619_621:=nl hg BK619;have NB621_619:=nr hg BK619;have NB620_621:=nl hg BK620;have NB621_620:=nr hg BK620;replace BK618:=kb BK618 hb;replace BK619:=kb BK619 hb;replace BK620:=kb BK620 hb;replace HB:=bs HB hb;clear hb hbox hg)|((with_reducible refine gate_dst (N:=8) rfl ?_);refine box_event rfl (N:=8) rfl (cs:=#[.string ⟨#[]⟩,.string ⟨#[]⟩]) (t:=25) (by first|(go_simp;done)|(go_simp;rfl)) ?_;intro gb622 hg w46 hbox hb;have BK622:=aM (hbox);have GW622:=wl hg HB;have GE622:=wl hg HB;have NB618_622:=nl hg BK618;have NB622_618:=nr hg BK618;have NB619_622:=nl hg BK619;have NB622_619:=nr hg BK619;have NB620_622:=nl hg BK620;have NB622_620:=nr hg BK620;have NB621_622:=nl hg BK621;have NB622_621:=nr hg BK621;replace BK618:=kb BK618 hb;replace BK619:=kb BK619 hb;replace BK620:=kb BK620 hb;replace BK621:=kb BK621 hb;replace HB:=bs HB hb;clear hb hbox hg;have hnb47:=NB618_619.out;have hnc47:=NB619_618.out;have hnb48:=NB618_620.out;have hnc48:=NB620_618.out;have hnb49:=NB618_621.out;have hnc49:=NB621_618.out;have hnb50:=NB618_622.out;have hnc50:=NB622_618.out;have⟨a0,a1,b0,b1⟩:=q2f BK618;have hnb52:=NB619_620.out;have hnc52:=NB620_619.out;have hnb53:=NB619_621.out;have hnc53:=NB621_619.out;have hnb54:=NB619_622.out;have hnc54:=NB622_619.out;have⟨a0,a1,b0,b1⟩:=q2f BK619;have hnb56:=NB620_621.out;have hnc56:=NB621_620.out;have hnb57:=NB620_622.out;have hnc57:=NB622_620.out;have⟨a0,a1,b0,b1⟩:=q2f BK620;have hnb59:=NB621_622.out;have hnc59:=NB622_621.out;have⟨a0,a1,b0,b1⟩:=q2f BK621)|((with_reducible refine gate_callee (f:=33) rfl ?_);refine goesL_ (some 17) rfl rfl Try.func33 (by kernel_rfl) rfl #[.agg #[.string a0_0,.string a0_1],.agg #[.string a1_0,.string a1_1],.agg #[.string a2_0,.string a2_1],.agg #[.string a3_0,.string a3_1]] rfl (by (try simp only [sM,sC,sN]);first|done|rfl) ?_;(with_reducible refine (spec_l06Three.calls k a0_0 a0_1 a1_0 a1_1 a2_0 a2_1 a3_0 a3_1 t623 _ A5.out).mono ?_);rintro e w61 ⟨rfl,hb⟩;refine ⟨_,rfl,?_⟩;replace BK618:=kb BK618 hb;replace BK619:=kb BK619 hb;replace BK620:=kb BK620 hb;replace BK621:=kb BK621 hb;replace BK622:=kb BK622 hb;replace HB:=bs HB hb;(try clear hb);have⟨a0,a1,b0,b1⟩:=q2f BK618;have⟨a0,a1,b0,b1⟩:=q2f BK619;have⟨a0,a1,b0,b1⟩:=q2f BK620;have⟨a0,a1,b0,b1⟩:=q2f BK621)|((with_reducible refine gate_callee (f:=34) rfl ?_);refine goesL_ (some 28) rfl rfl Try.func34 (by kernel_rfl) rfl #[.agg #[.string a0_0,.string a0_1],.agg #[.string a1_0,.string a1_1,.string a2_0,.string a2_1,.string a3_0,.string a3_1]] rfl (by (try simp only [sM,sC,sN]);first|done|rfl) ?_;(with_reducible refine (spec_l06Middle.calls k a0_0 a0_1 a1_0 a1_1 a2_0 a2_1 a3_0 a3_1 t624 t625 false _ A7.out).mono ?_);rintro e w66 ⟨rfl,hb⟩;refine ⟨_,rfl,?_⟩;replace BK618:=kb BK618 hb;replace BK619:=kb BK619 hb;replace BK620:=kb BK620 hb;replace BK621:=kb BK621 hb;replace BK622:=kb BK622 hb;replace HB:=bs HB hb;(try clear hb))|((with_reducible refine gate_dst (N:=11) rfl ?_);refine box_event rfl (N:=11) rfl (cs:=#[.string ⟨#[]⟩,.string ⟨#[]⟩]) (t:=25) (by first|(go_simp;done)|(go_simp;rfl)) ?_;intro gb627 hg w67 hbox hb;have BK627:=aM (hbox);have GW627:=wl hg HB;have GE627:=wl hg HB;have NB618_627:=nl hg BK618;have NB627_618:=nr hg BK618;have NB619_627:=nl hg BK619;have NB627_619:=nr hg BK619;have NB620_627:=nl hg BK620;have NB627_620:=nr hg BK620;have NB621_627:=nl hg BK621;have NB627_621:=nr hg BK621;have NB622_627:=nl hg BK622;have NB627_622:=nr hg BK622;replace BK618:=kb BK618 hb;replace BK619:=kb BK619 hb;replace BK620:=kb BK620 hb;replace BK621:=kb BK621 hb;replace BK622:=kb BK622 hb;replace HB:=bs HB hb;clear hb hbox hg;have hnb68:=NB627_618.out;have hnc68:=NB618_627.out;have hnb69:=NB627_619.out;have hnc69:=NB619_627.out;have hnb70:=NB627_620.out;have hnc70:=NB620_627.out;have hnb71:=NB627_621.out;have hnc71:=NB621_627.out;have hnb72:=NB627_622.out;have hnc72:=NB622_627.out;have⟨a0,a1,b0,b1⟩:=q2f BK627;have⟨a0,a1,b0,b1⟩:=q2f BK622))
   refine bodyPost_ret (results_ct rfl _ _ gb622 25 #[.string ⟨#[]⟩,.string ⟨#[]⟩] (0,0) _ rfl (by (with_reducible repeat (first|apply yN|apply yD|apply yA));refine blk_put (cs:=#[.string ⟨#[]⟩,.string ⟨#[]⟩]) ?_ 1 _ rfl;(with_reducible repeat (first|apply yN|apply yD|apply yA));refine blk_put (cs:=#[.string ⟨#[]⟩,.string ⟨#[]⟩]) ?_ 0 _ rfl;(with_reducible repeat (first|apply yN|apply yD|apply yA));refine blk_far ?_ NB622_627.out _;(with_reducible repeat (first|apply yN|apply yD|apply yA));refine blk_far ?_ NB622_627.out _;(with_reducible repeat (first|apply yN|apply yD|apply yA));exact BK622.out) Try.underlying25 rfl (by kernel_rfl)) rfl ?_
   exact ⟨rfl,by repeat (first|(with_reducible first|exact HB.out|apply zA|apply zN|apply zD|refine zS ?_ GE618.out|refine zS ?_ GE619.out|refine zS ?_ GE620.out|refine zS ?_ GE621.out|refine zS ?_ GE622.out|refine zS ?_ GE627.out)|exact HB.out)⟩
 ·rw [if_neg c6] at H
  have c6b0:(t623 == 0) = false:=beq_eq_false_iff_ne.mpr c6
  have c6b1:(t623 != 0) = true:=bne_iff_ne.mpr c6
  simp only [Option.some.injEq,Prod.mk.injEq] at H
  obtain ⟨rfl,rfl,rfl⟩:=H
  go_enter Try.func14,Try.ntmps14
  go_wp2_with (first|((with_reducible refine gate_dst (N:=4) rfl ?_);refine box_event rfl (N:=4) rfl (cs:=#[.string a0_0,.string a0_1]) (t:=25) (by first|(go_simp;done)|(go_simp;rfl)) ?_;intro gb618 hg w75 hbox hb;have BK618:=aM (hbox);have GW618:=wl hg HB;have GE618:=wl hg HB;replace HB:=bs HB hb;clear hb hbox hg)|((with_reducible refine gate_dst (N:=5) rfl ?_);refine box_event rfl (N:=5) rfl (cs:=#[.string a1_0,.string a1_1]) (t:=25) (by first|(go_simp;done)|(go_simp;rfl)) ?_;intro gb619 hg w76 hbox hb;have BK619:=aM (hbox);have GW619:=wl hg HB;have GE619:=wl hg HB;have NB618_619:=nl hg BK618;have NB619_618:=nr hg BK618;replace BK618:=kb BK618 hb;replace HB:=bs HB hb;clear hb hbox hg)|((with_reducible refine gate_dst (N:=6) rfl ?_);refine box_event rfl (N:=6) rfl (cs:=#[.string a2_0,.string a2_1]) (t:=25) (by first|(go_simp;done)|(go_simp;rfl)) ?_;intro gb620 hg w77 hbox hb;have BK620:=aM (hbox);have GW620:=wl hg HB;have GE620:=wl hg HB;have NB618_620:=nl hg BK618;have NB620_618:=nr hg BK618;have NB619_620:=nl hg BK619;have NB620_619:=nr hg BK619;replace BK618:=kb BK618 hb;replace BK619:=kb BK619 hb;replace HB:=bs HB hb;clear hb hbox hg)|((with_reducible refine gate_dst (N:=7) rfl ?_);refine box_event rfl (N:=7) rfl (cs:=#[.string a3_0,.string a3_1]) (t:=25) (by first|(go_simp;done)|(go_simp;rfl)) ?_;intro gb621 hg w78 hbox hb;have BK621:=aM (hbox);have GW621:=wl hg HB;have GE621:=wl hg HB;have NB618_621:=nl hg BK618;have NB621_618:=nr hg BK618;have NB619_621:=nl hg BK619;have NB621_619:=nr hg BK619;have NB620_621:=nl hg BK620;have NB621_620:=nr hg BK620;replace BK618:=kb BK618 hb;replace BK619:=kb BK619 hb;replace BK620:=kb BK620 hb;replace HB:=bs HB hb;clear hb hbox hg)|((with_reducible refine gate_dst (N:=8) rfl ?_);refine box_event rfl (N:=8) rfl (cs:=#[.string ⟨#[]⟩,.string ⟨#[]⟩]) (t:=25) (by first|(go_simp;done)|(go_simp;rfl)) ?_;intro gb622 hg w79 hbox hb;have BK622:=aM (hbox);have GW622:=wl hg HB;have GE622:=wl hg HB;have NB618_622:=nl hg BK618;have NB622_618:=nr hg BK618;have NB619_622:=nl hg BK619;have NB622_619:=nr hg BK619;have NB620_622:=nl hg BK620;have NB622_620:=nr hg BK620;have NB621_622:=nl hg BK621;have NB622_621:=nr hg BK621;replace BK618:=kb BK618 hb;replace BK619:=kb BK619 hb;replace BK620:=kb BK620 hb;replace BK621:=kb BK621 hb;replace HB:=bs HB hb;clear hb hbox hg;have hnb80:=NB618_619.out;have hnc80:=NB619_618.out;have hnb81:=NB618_620.out;have hnc81:=NB620_618.out;have hnb82:=NB618_621.out;have hnc82:=NB621_618.out;have hnb83:=NB618_622.out;have hnc83:=NB622_618.out;have⟨a0,a1,b0,b1⟩:=q2f BK618;have hnb85:=NB619_620.out;have hnc85:=NB620_619.out;have hnb86:=NB619_621.out;have hnc86:=NB621_619.out;have hnb87:=NB619_622.out;have hnc87:=NB622_619.out;have⟨a0,a1,b0,b1⟩:=q2f BK619;have hnb89:=NB620_621.out;have hnc89:=NB621_620.out;have hnb90:=NB620_622.out;have hnc90:=NB622_620.out;have⟨a0,a1,b0,b1⟩:=q2f BK620;have hnb92:=NB621_622.out;have hnc92:=NB622_621.out;have⟨a0,a1,b0,b1⟩:=q2f BK621)|((with_reducible refine gate_callee (f:=33) rfl ?_);refine goesL_ (some 17) rfl rfl Try.func33 (by kernel_rfl) rfl #[.agg #[.string a0_0,.string a0_1],.agg #[.string a1_0,.string a1_1],.agg #[.string a2_0,.string a2_1],.agg #[.string a3_0,.string a3_1]] rfl (by (try simp only [sM,sC,sN]);first|done|rfl) ?_;(with_reducible refine (spec_l06Three.calls k a0_0 a0_1 a1_0 a1_1 a2_0 a2_1 a3_0 a3_1 t623 _ A5.out).mono ?_);rintro e w94 ⟨rfl,hb⟩;refine ⟨_,rfl,?_⟩;replace BK618:=kb BK618 hb;replace BK619:=kb BK619 hb;replace BK620:=kb BK620 hb;replace BK621:=kb BK621 hb;replace BK622:=kb BK622 hb;replace HB:=bs HB hb;(try clear hb);have⟨a0,a1,b0,b1⟩:=q2f BK622))
  refine bodyPost_ret (results_ct rfl _ _ gb622 25 #[.string ⟨#[]⟩,.string ⟨#[]⟩] (0,0) _ rfl (by (with_reducible repeat (first|apply yN|apply yD|apply yA));refine blk_put (cs:=#[.string ⟨#[]⟩,.string ⟨#[]⟩]) ?_ 1 _ rfl;(with_reducible repeat (first|apply yN|apply yD|apply yA));refine blk_put (cs:=#[.string ⟨#[]⟩,.string ⟨#[]⟩]) ?_ 0 _ rfl;(with_reducible repeat (first|apply yN|apply yD|apply yA));exact BK622.out) Try.underlying25 rfl (by kernel_rfl)) rfl ?_
  exact ⟨rfl,by first|exact bb HB|exact bg HB GE618|exact bg HB GE619|exact bg HB GE620|exact bg HB GE621|exact bg HB GE622⟩
end Go.Proofs.Ytmhpbilkocnlnaa.Q
end
section
namespace Go.Proofs.Ytmhpbilkocnlnaa.Q
open Go.Proofs.YtmhpbilkocnlnaaW.Ext
open Go.RowKit Go.Proofs.YtmhpbilkocnlnaaW.PrintWords Go.Proofs.YtmhpbilkocnlnaaW.PrintLast Go.Proofs.YtmhpbilkocnlnaaW.PrintMore
attribute [local go_sem] max2_int min2_int max_two min_two max_three min_three max_four min_four   -- for this text's walks alone
set_option linter.unusedVariables false
set_option linter.unusedSimpArgs false
attribute [local go_sem high] eqA25
def spec_IsBetween.f (k:Nat) (a0_0:ByteArray) (a0_1:ByteArray) (a1_0:ByteArray) (a1_1:ByteArray) (a2_0:ByteArray) (a2_1:ByteArray) (a3_0:ByteArray) (a3_1:ByteArray):Option (Bool × Int):=(spec_l06Three.f k a0_0 a0_1 a1_0 a1_1 a2_0 a2_1 a3_0 a3_1).bind fun t640=>(if t640 = 0 then ((spec_l06Middle.f k a0_0 a0_1 a1_0 a1_1 a2_0 a2_1 a3_0 a3_1).bind fun bt641=>(if bt641.2.2 = true then (some ((bt641.1.toList == a2_0.toList && (bt641.2.1.toList == a2_1.toList)),0)) else (some (false,3)))) else (some (false,t640)))
theorem spec_IsBetween.mono:∀ a0 a1 a2 a3 a4 a5 a6 a7 k,LeO (spec_IsBetween.f k a0 a1 a2 a3 a4 a5 a6 a7) (spec_IsBetween.f (k + 1) a0 a1 a2 a3 a4 a5 a6 a7):=by
 intro a0 a1 a2 a3 a4 a5 a6 a7 k
 unfold spec_IsBetween.f
 repeat' first
   | (with_reducible exact spec_l06Middle.mono _ _ _ _ _ _ _ _ _)
   | (with_reducible exact spec_l06Three.mono _ _ _ _ _ _ _ _ _)
   | (with_reducible exact LeO.refl _)
   | (with_reducible exact LeO.none _)
   | (with_reducible refine LeO.ite ?_ ?_)
   | (with_reducible refine LeO.bind ?_ (fun _=>?_))
   | exact spec_l06Middle.mono _ _ _ _ _ _ _ _ _
   | exact spec_l06Three.mono _ _ _ _ _ _ _ _ _
   | exact LeO.none _
   | refine LeO.ite ?_ ?_
   | refine LeO.bind ?_ (fun _=>?_)
set_option maxHeartbeats 8000000 in
set_option maxRecDepth 100000 in
theorem spec_IsBetween.calls (k:Nat) (a0_0:ByteArray) (a0_1:ByteArray) (a1_0:ByteArray) (a1_1:ByteArray) (a2_0:ByteArray) (a2_1:ByteArray) (a3_0:ByteArray) (a3_1:ByteArray) (r1:Bool) (r2:Int) (w:World) (h:spec_IsBetween.f k a0_0 a0_1 a1_0 a1_1 a2_0 a2_1 a3_0 a3_1 = some (r1,r2)) :
  Calls Try.prog 16 #[.agg #[.string a0_0,.string a0_1],.agg #[.string a1_0,.string a1_1],.agg #[.string a2_0,.string a2_1],.agg #[.string a3_0,.string a3_1]] w fun e w'=>e = .returned (.tuple #[.bool r1,.int .i64 r2]) ∧ Below w.heap.size w w':=by
 have hu25:=Try.underlying25
 have hu50:=Try.underlying50
 have HB:=aM (Below.refl w.heap.size w)
 have H:((spec_l06Three.f k a0_0 a0_1 a1_0 a1_1 a2_0 a2_1 a3_0 a3_1).bind fun t640=>(if t640 = 0 then ((spec_l06Middle.f k a0_0 a0_1 a1_0 a1_1 a2_0 a2_1 a3_0 a3_1).bind fun bt641=>(if bt641.2.2 = true then (some ((bt641.1.toList == a2_0.toList && (bt641.2.1.toList == a2_1.toList)),0)) else (some (false,3)))) else (some (false,t640)))) = some (r1,r2):=h
 clear h
 replace H:=Option.bind_eq_some_iff.mp H
 obtain ⟨t640,A50,H⟩:=H
 replace H:(if t640 = 0 then ((spec_l06Middle.f k a0_0 a0_1 a1_0 a1_1 a2_0 a2_1 a3_0 a3_1).bind fun bt641=>(if bt641.2.2 = true then (some ((bt641.1.toList == a2_0.toList && (bt641.2.1.toList == a2_1.toList)),0)) else (some (false,3)))) else (some (false,t640))) = some (r1,r2):=H;have A5:=aM A50
 clear A50
 by_cases c6:t640 = 0
 ·rw [if_pos c6] at H
  have c6b0:(t640 == 0) = true:=beq_iff_eq.mpr c6
  have c6b1:(t640 != 0) = false:=bne_eq_false_iff_eq.mpr c6
  clear c6
  replace H:=Option.bind_eq_some_iff.mp H
  obtain ⟨⟨t641,t642,t643⟩,A70,H⟩:=H
  replace H:(if t643 = true then (some ((t641.toList == a2_0.toList && (t642.toList == a2_1.toList)),0)) else (some (false,3))) = some (r1,r2):=H;have A7:=aM A70
  clear A70
  by_cases c8:t643 = true
  ·subst c8
   have H1:(some ((t641.toList == a2_0.toList && (t642.toList == a2_1.toList)),0)) = some (r1,r2):=by rw [if_pos rfl] at H;exact H
   clear H
   have H:=H1
   clear H1
   simp only [Option.some.injEq,Prod.mk.injEq] at H
   obtain ⟨rfl,rfl⟩:=H
   go_enter Try.func16,Try.ntmps16
   go_wp2_with (first|((with_reducible refine gate_dst (N:=4) rfl ?_);refine box_event rfl (N:=4) rfl (cs:=#[.string a0_0,.string a0_1]) (t:=25) (by first|(go_simp;done)|(go_simp;rfl)) ?_;intro gb636 hg w9 hbox hb;have BK636:=aM (hbox);have GW636:=wl hg HB;have GE636:=wl hg HB;replace HB:=bs HB hb;clear hb hbox hg)|((with_reducible refine gate_dst (N:=5) rfl ?_);refine box_event rfl (N:=5) rfl (cs:=#[.string a1_0,.string a1_1]) (t:=25) (by first|(go_simp;done)|(go_simp;rfl)) ?_;intro gb637 hg w10 hbox hb;have BK637:=aM (hbox);have GW637:=wl hg HB;have GE637:=wl hg HB;have NB636_637:=nl hg BK636;have NB637_636:=nr hg BK636;replace BK636:=kb BK636 hb;replace HB:=bs HB hb;clear hb hbox hg)|((with_reducible refine gate_dst (N:=6) rfl ?_);refine box_event rfl (N:=6) rfl (cs:=#[.string a2_0,.string a2_1]) (t:=25) (by first|(go_simp;done)|(go_simp;rfl)) ?_;intro gb638 hg w11 hbox hb;have BK638:=aM (hbox);have GW638:=wl hg HB;have GE638:=wl hg HB;have NB636_638:=nl hg BK636;have NB638_636:=nr hg BK636;have NB637_638:=nl hg BK637;have NB638_637:=nr hg BK637;replace BK636:=kb BK636 hb;replace BK637:=kb BK637 hb;replace HB:=bs HB hb;clear hb hbox hg)|((with_reducible refine gate_dst (N:=7) rfl ?_);refine box_event rfl (N:=7) rfl (cs:=#[.string a3_0,.string a3_1]) (t:=25) (by first|(go_simp;done)|(go_simp;rfl)) ?_;intro gb639 hg w12 hbox hb;have BK639:=aM (hbox);have GW639:=wl hg HB;have GE639:=wl hg HB;have NB636_639:=nl hg BK636;have NB639_636:=nr hg BK636;have NB637_639:=nl hg BK637;have NB639_637:=nr hg BK637;have NB638_639:=nl hg BK638;have NB639_638:=nr hg BK638;replace BK636:=kb BK636 hb;replace BK637:=kb BK637 hb;replace BK638:=kb BK638 hb;replace HB:=bs HB hb;clear hb hbox hg;have hnb13:=NB636_637.out;have hnc13:=NB637_636.out;have hnb14:=NB636_638.out;have hnc14:=NB638_636.out;have hnb15:=NB636_639.out;have hnc15:=NB639_636.out;have⟨a0,a1,b0,b1⟩:=q2f BK636;have hnb17:=NB637_638.out;have hnc17:=NB638_637.out;have hnb18:=NB637_639.out;have hnc18:=NB639_637.out;have⟨a0,a1,b0,b1⟩:=q2f BK637;have hnb20:=NB638_639.out;have hnc20:=NB639_638.out;have⟨a0,a1,b0,b1⟩:=q2f BK638;have⟨a0,a1,b0,b1⟩:=q2f BK639)|((with_reducible refine gate_callee (f:=33) rfl ?_);refine goesL_ (some 17) rfl rfl Try.func33 (by kernel_rfl) rfl #[.agg #[.string a0_0,.string a0_1],.agg #[.string a1_0,.string a1_1],.agg #[.string a2_0,.string a2_1],.agg #[.string a3_0,.string a3_1]] rfl (by (try simp only [sM,sC,sN]);first|done|rfl) ?_;(with_reducible refine (spec_l06Three.calls k a0_0 a0_1 a1_0 a1_1 a2_0 a2_1 a3_0 a3_1 t640 _ A5.out).mono ?_);rintro e w23 ⟨rfl,hb⟩;refine ⟨_,rfl,?_⟩;replace BK636:=kb BK636 hb;replace BK637:=kb BK637 hb;replace BK638:=kb BK638 hb;replace BK639:=kb BK639 hb;replace HB:=bs HB hb;(try clear hb);have⟨a0,a1,b0,b1⟩:=q2f BK636;have⟨a0,a1,b0,b1⟩:=q2f BK637;have⟨a0,a1,b0,b1⟩:=q2f BK638;have⟨a0,a1,b0,b1⟩:=q2f BK639)|((with_reducible refine gate_callee (f:=34) rfl ?_);refine goesL_ (some 27) rfl rfl Try.func34 (by kernel_rfl) rfl #[.agg #[.string a0_0,.string a0_1],.agg #[.string a1_0,.string a1_1,.string a2_0,.string a2_1,.string a3_0,.string a3_1]] rfl (by (try simp only [sM,sC,sN]);first|done|rfl) ?_;(with_reducible refine (spec_l06Middle.calls k a0_0 a0_1 a1_0 a1_1 a2_0 a2_1 a3_0 a3_1 t641 t642 true _ A7.out).mono ?_);rintro e w28 ⟨rfl,hb⟩;refine ⟨_,rfl,?_⟩;replace BK636:=kb BK636 hb;replace BK637:=kb BK637 hb;replace BK638:=kb BK638 hb;replace BK639:=kb BK639 hb;replace HB:=bs HB hb;(try clear hb))|((with_reducible refine gate_dst (N:=11) rfl ?_);refine box_event rfl (N:=11) rfl (cs:=#[.string ⟨#[]⟩,.string ⟨#[]⟩]) (t:=25) (by first|(go_simp;done)|(go_simp;rfl)) ?_;intro gb644 hg w29 hbox hb;have BK644:=aM (hbox);have GW644:=wl hg HB;have GE644:=wl hg HB;have NB636_644:=nl hg BK636;have NB644_636:=nr hg BK636;have NB637_644:=nl hg BK637;have NB644_637:=nr hg BK637;have NB638_644:=nl hg BK638;have NB644_638:=nr hg BK638;have NB639_644:=nl hg BK639;have NB644_639:=nr hg BK639;replace BK636:=kb BK636 hb;replace BK637:=kb BK637 hb;replace BK638:=kb BK638 hb;replace BK639:=kb BK639 hb;replace HB:=bs HB hb;clear hb hbox hg;have hnb30:=NB644_636.out;have hnc30:=NB636_644.out;have hnb31:=NB644_637.out;have hnc31:=NB637_644.out;have hnb32:=NB644_638.out;have hnc32:=NB638_644.out;have hnb33:=NB644_639.out;have hnc33:=NB639_644.out;have⟨a0,a1,b0,b1⟩:=q2f BK644;have⟨a0,a1,b0,b1⟩:=q2f BK638))
   go_ret2
   exact ⟨rfl,by first|exact bb HB|exact bg HB GE636|exact bg HB GE637|exact bg HB GE638|exact bg HB GE639|exact bg HB GE644⟩
  ·replace c8:=Bool.eq_false_iff.mpr c8
   subst c8
   have H1:(some (false,3)) = some (r1,r2):=by rw [if_neg (show ¬ (false = true) by decide)] at H;exact H
   clear H
   have H:=H1
   clear H1
   simp only [Option.some.injEq,Prod.mk.injEq] at H
   obtain ⟨rfl,rfl⟩:=H
   go_enter Try.func16,Try.ntmps16
   go_wp2_with (first|((with_reducible refine gate_dst (N:=4) rfl ?_);refine box_event rfl (N:=4) rfl (cs:=#[.string a0_0,.string a0_1]) (t:=25) (by first|(go_simp;done)|(go_simp;rfl)) ?_;intro gb636 hg w36 hbox hb;have BK636:=aM (hbox);have GW636:=wl hg HB;have GE636:=wl hg HB;replace HB:=bs HB hb;clear hb hbox hg)|((with_reducible refine gate_dst (N:=5) rfl ?_);refine box_event rfl (N:=5) rfl (cs:=#[.string a1_0,.string a1_1]) (t:=25) (by first|(go_simp;done)|(go_simp;rfl)) ?_;intro gb637 hg w37 hbox hb;have BK637:=aM (hbox);have GW637:=wl hg HB;have GE637:=wl hg HB;have NB636_637:=nl hg BK636;have NB637_636:=nr hg BK636;replace BK636:=kb BK636 hb;replace HB:=bs HB hb;clear hb hbox hg)|((with_reducible refine gate_dst (N:=6) rfl ?_);refine box_event rfl (N:=6) rfl (cs:=#[.string a2_0,.string a2_1]) (t:=25) (by first|(go_simp;done)|(go_simp;rfl)) ?_;intro gb638 hg w38 hbox hb;have BK638:=aM (hbox);have GW638:=wl hg HB;have GE638:=wl hg HB;have NB636_638:=nl hg BK636;have NB638_636:=nr hg BK636;have NB637_638:=nl hg BK637;have NB638_637:=nr hg BK637;replace BK636:=kb BK636 hb;replace BK637:=kb BK637 hb;replace HB:=bs HB hb;clear hb hbox hg)|((with_reducible refine gate_dst (N:=7) rfl ?_);refine box_event rfl (N:=7) rfl (cs:=#[.string a3_0,.string a3_1]) (t:=25) (by first|(go_simp;done)|(go_simp;rfl)) ?_;intro gb639 hg w39 hbox hb;have BK639:=aM (hbox);have GW639:=wl hg HB;have GE639:=wl hg HB;have NB636_639:=nl hg BK636;have NB639_636:=nr hg BK636;have NB637_639:=nl hg BK637;have NB639_637:=nr hg BK637;have NB638_639:=nl hg BK638;have NB639_638:=nr hg BK638;replace BK636:=kb BK636 hb;replace BK637:=kb BK637 hb;replace BK638:=kb BK638 hb;replace HB:=bs HB hb;clear hb hbox hg;have hnb40:=NB636_637.out;have hnc40:=NB637_636.out;have hnb41:=NB636_638.out;have hnc41:=NB638_636.out;have hnb42:=NB636_639.out;have hnc42:=NB639_636.out;have⟨a0,a1,b0,b1⟩:=q2f BK636;have hnb44:=NB637_638.out;have hnc44:=NB638_637.out;have hnb45:=NB637_639.out;have hnc45:=NB639_637.out;have⟨a0,a1,b0,b1⟩:=q2f BK637;have hnb47:=NB638_639.out;have hnc47:=NB639_638.out;have⟨a0,a1,b0,b1⟩:=q2f BK638;have⟨a0,a1,b0,b1⟩:=q2f BK639)|((with_reducible refine gate_callee (f:=33) rfl ?_);refine goesL_ (some 17) rfl rfl Try.func33 (by kernel_rfl) rfl #[.agg #[.string a0_0,.string a0_1],.agg #[.string a1_0,.string a1_1],.agg #[.string a2_0,.string a2_1],.agg #[.string a3_0,.string a3_1]] rfl (by (try simp only [sM,sC,sN]);first|done|rfl) ?_;(with_reducible refine (spec_l06Three.calls k a0_0 a0_1 a1_0 a1_1 a2_0 a2_1 a3_0 a3_1 t640 _ A5.out).mono ?_);rintro e w50 ⟨rfl,hb⟩;refine ⟨_,rfl,?_⟩;replace BK636:=kb BK636 hb;replace BK637:=kb BK637 hb;replace BK638:=kb BK638 hb;replace BK639:=kb BK639 hb;replace HB:=bs HB hb;(try clear hb);have⟨a0,a1,b0,b1⟩:=q2f BK636;have⟨a0,a1,b0,b1⟩:=q2f BK637;have⟨a0,a1,b0,b1⟩:=q2f BK638;have⟨a0,a1,b0,b1⟩:=q2f BK639)|((with_reducible refine gate_callee (f:=34) rfl ?_);refine goesL_ (some 27) rfl rfl Try.func34 (by kernel_rfl) rfl #[.agg #[.string a0_0,.string a0_1],.agg #[.string a1_0,.string a1_1,.string a2_0,.string a2_1,.string a3_0,.string a3_1]] rfl (by (try simp only [sM,sC,sN]);first|done|rfl) ?_;(with_reducible refine (spec_l06Middle.calls k a0_0 a0_1 a1_0 a1_1 a2_0 a2_1 a3_0 a3_1 t641 t642 false _ A7.out).mono ?_);rintro e w55 ⟨rfl,hb⟩;refine ⟨_,rfl,?_⟩;replace BK636:=kb BK636 hb;replace BK637:=kb BK637 hb;replace BK638:=kb BK638 hb;replace BK639:=kb BK639 hb;replace HB:=bs HB hb;(try clear hb))|((with_reducible refine gate_dst (N:=11) rfl ?_);refine box_event rfl (N:=11) rfl (cs:=#[.string ⟨#[]⟩,.string ⟨#[]⟩]) (t:=25) (by first|(go_simp;done)|(go_simp;rfl)) ?_;intro gb644 hg w56 hbox hb;have BK644:=aM (hbox);have GW644:=wl hg HB;have GE644:=wl hg HB;have NB636_644:=nl hg BK636;have NB644_636:=nr hg BK636;have NB637_644:=nl hg BK637;have NB644_637:=nr hg BK637;have NB638_644:=nl hg BK638;have NB644_638:=nr hg BK638;have NB639_644:=nl hg BK639;have NB644_639:=nr hg BK639;replace BK636:=kb BK636 hb;replace BK637:=kb BK637 hb;replace BK638:=kb BK638 hb;replace BK639:=kb BK639 hb;replace HB:=bs HB hb;clear hb hbox hg;have hnb57:=NB644_636.out;have hnc57:=NB636_644.out;have hnb58:=NB644_637.out;have hnc58:=NB637_644.out;have hnb59:=NB644_638.out;have hnc59:=NB638_644.out;have hnb60:=NB644_639.out;have hnc60:=NB639_644.out;have⟨a0,a1,b0,b1⟩:=q2f BK644))
   go_ret2
   exact ⟨rfl,by first|exact bb HB|exact bg HB GE636|exact bg HB GE637|exact bg HB GE638|exact bg HB GE639|exact bg HB GE644⟩
 ·rw [if_neg c6] at H
  have c6b0:(t640 == 0) = false:=beq_eq_false_iff_ne.mpr c6
  have c6b1:(t640 != 0) = true:=bne_iff_ne.mpr c6
  simp only [Option.some.injEq,Prod.mk.injEq] at H
  obtain ⟨rfl,rfl⟩:=H
  go_enter Try.func16,Try.ntmps16
  go_wp2_with (first|((with_reducible refine gate_dst (N:=4) rfl ?_);refine box_event rfl (N:=4) rfl (cs:=#[.string a0_0,.string a0_1]) (t:=25) (by first|(go_simp;done)|(go_simp;rfl)) ?_;intro gb636 hg w62 hbox hb;have BK636:=aM (hbox);have GW636:=wl hg HB;have GE636:=wl hg HB;replace HB:=bs HB hb;clear hb hbox hg)|((with_reducible refine gate_dst (N:=5) rfl ?_);refine box_event rfl (N:=5) rfl (cs:=#[.string a1_0,.string a1_1]) (t:=25) (by first|(go_simp;done)|(go_simp;rfl)) ?_;intro gb637 hg w63 hbox hb;have BK637:=aM (hbox);have GW637:=wl hg HB;have GE637:=wl hg HB;have NB636_637:=nl hg BK636;have NB637_636:=nr hg BK636;replace BK636:=kb BK636 hb;replace HB:=bs HB hb;clear hb hbox hg)|((with_reducible refine gate_dst (N:=6) rfl ?_);refine box_event rfl (N:=6) rfl (cs:=#[.string a2_0,.string a2_1]) (t:=25) (by first|(go_simp;done)|(go_simp;rfl)) ?_;intro gb638 hg w64 hbox hb;have BK638:=aM (hbox);have GW638:=wl hg HB;have GE638:=wl hg HB;have NB636_638:=nl hg BK636;have NB638_636:=nr hg BK636;have NB637_638:=nl hg BK637;have NB638_637:=nr hg BK637;replace BK636:=kb BK636 hb;replace BK637:=kb BK637 hb;replace HB:=bs HB hb;clear hb hbox hg)|((with_reducible refine gate_dst (N:=7) rfl ?_);refine box_event rfl (N:=7) rfl (cs:=#[.string a3_0,.string a3_1]) (t:=25) (by first|(go_simp;done)|(go_simp;rfl)) ?_;intro gb639 hg w65 hbox hb;have BK639:=aM (hbox);have GW639:=wl hg HB;have GE639:=wl hg HB;have NB636_639:=nl hg BK636;have NB639_636:=nr hg BK636;have NB637_639:=nl hg BK637;have NB639_637:=nr hg BK637;have NB638_639:=nl hg BK638;have NB639_638:=nr hg BK638;replace BK636:=kb BK636 hb;replace BK637:=kb BK637 hb;replace BK638:=kb BK638 hb;replace HB:=bs HB hb;clear hb hbox hg;have hnb66:=NB636_637.out;have hnc66:=NB637_636.out;have hnb67:=NB636_638.out;have hnc67:=NB638_636.out;have hnb68:=NB636_639.out;have hnc68:=NB639_636.out;have⟨a0,a1,b0,b1⟩:=q2f BK636;have hnb70:=NB637_638.out;have hnc70:=NB638_637.out;have hnb71:=NB637_639.out;have hnc71:=NB639_637.out;have⟨a0,a1,b0,b1⟩:=q2f BK637;have hnb73:=NB638_639.out;have hnc73:=NB639_638.out;have⟨a0,a1,b0,b1⟩:=q2f BK638;have⟨a0,a1,b0,b1⟩:=q2f BK639)|((with_reducible refine gate_callee (f:=33) rfl ?_);refine goesL_ (some 17) rfl rfl Try.func33 (by kernel_rfl) rfl #[.agg #[.string a0_0,.string a0_1],.agg #[.string a1_0,.string a1_1],.agg #[.string a2_0,.string a2_1],.agg #[.string a3_0,.string a3_1]] rfl (by (try simp only [sM,sC,sN]);first|done|rfl) ?_;(with_reducible refine (spec_l06Three.calls k a0_0 a0_1 a1_0 a1_1 a2_0 a2_1 a3_0 a3_1 t640 _ A5.out).mono ?_);rintro e w76 ⟨rfl,hb⟩;refine ⟨_,rfl,?_⟩;replace BK636:=kb BK636 hb;replace BK637:=kb BK637 hb;replace BK638:=kb BK638 hb;replace BK639:=kb BK639 hb;replace HB:=bs HB hb;(try clear hb)))
  go_ret2
  exact ⟨rfl,bb HB⟩
def impl_IsBetween.f (k:Nat) (a0_0:ByteArray) (a0_1:ByteArray) (a1_0:ByteArray) (a1_1:ByteArray) (a2_0:ByteArray) (a2_1:ByteArray) (a3_0:ByteArray) (a3_1:ByteArray):Option (Bool × Int):=(impl_MiddleOf.f k a0_0 a0_1 a1_0 a1_1 a2_0 a2_1 a3_0 a3_1).bind fun bt632=>(if bt632.2.2 = 0 then (some ((bt632.1.toList == a2_0.toList && (bt632.2.1.toList == a2_1.toList)),bt632.2.2)) else (some (false,bt632.2.2)))
theorem impl_IsBetween.mono:∀ a0 a1 a2 a3 a4 a5 a6 a7 k,LeO (impl_IsBetween.f k a0 a1 a2 a3 a4 a5 a6 a7) (impl_IsBetween.f (k + 1) a0 a1 a2 a3 a4 a5 a6 a7):=by
 intro a0 a1 a2 a3 a4 a5 a6 a7 k
 unfold impl_IsBetween.f
 repeat' first
   | (with_reducible exact impl_MiddleOf.mono _ _ _ _ _ _ _ _ _)
   | (with_reducible exact LeO.refl _)
   | (with_reducible exact LeO.none _)
   | (with_reducible refine LeO.ite ?_ ?_)
   | (with_reducible refine LeO.bind ?_ (fun _=>?_))
   | exact impl_MiddleOf.mono _ _ _ _ _ _ _ _ _
   | exact LeO.none _
   | refine LeO.ite ?_ ?_
   | refine LeO.bind ?_ (fun _=>?_)
set_option maxHeartbeats 8000000 in
set_option maxRecDepth 100000 in
theorem impl_IsBetween.calls (k:Nat) (a0_0:ByteArray) (a0_1:ByteArray) (a1_0:ByteArray) (a1_1:ByteArray) (a2_0:ByteArray) (a2_1:ByteArray) (a3_0:ByteArray) (a3_1:ByteArray) (r1:Bool) (r2:Int) (w:World) (h:impl_IsBetween.f k a0_0 a0_1 a1_0 a1_1 a2_0 a2_1 a3_0 a3_1 = some (r1,r2)) :
  Calls Try.prog 15 #[.agg #[.string a0_0,.string a0_1],.agg #[.string a1_0,.string a1_1],.agg #[.string a2_0,.string a2_1],.agg #[.string a3_0,.string a3_1]] w fun e w'=>e = .returned (.tuple #[.bool r1,.int .i64 r2]) ∧ Below w.heap.size w w':=by
 have hu25:=Try.underlying25
 have HB:=aM (Below.refl w.heap.size w)
 have H:((impl_MiddleOf.f k a0_0 a0_1 a1_0 a1_1 a2_0 a2_1 a3_0 a3_1).bind fun bt632=>(if bt632.2.2 = 0 then (some ((bt632.1.toList == a2_0.toList && (bt632.2.1.toList == a2_1.toList)),bt632.2.2)) else (some (false,bt632.2.2)))) = some (r1,r2):=h
 clear h
 replace H:=Option.bind_eq_some_iff.mp H
 obtain ⟨⟨t632,t633,t634⟩,A50,H⟩:=H
 replace H:(if t634 = 0 then (some ((t632.toList == a2_0.toList && (t633.toList == a2_1.toList)),t634)) else (some (false,t634))) = some (r1,r2):=H;have A5:=aM A50
 clear A50
 by_cases c6:t634 = 0
 ·rw [if_pos c6] at H
  have c6b0:(t634 == 0) = true:=beq_iff_eq.mpr c6
  have c6b1:(t634 != 0) = false:=bne_eq_false_iff_eq.mpr c6
  clear c6
  simp only [Option.some.injEq,Prod.mk.injEq] at H
  obtain ⟨rfl,rfl⟩:=H
  go_enter Try.func15,Try.ntmps15
  go_wp2_with (first|((with_reducible refine gate_dst (N:=4) rfl ?_);refine box_event rfl (N:=4) rfl (cs:=#[.string a0_0,.string a0_1]) (t:=25) (by first|(go_simp;done)|(go_simp;rfl)) ?_;intro gb628 hg w7 hbox hb;have BK628:=aM (hbox);have GW628:=wl hg HB;have GE628:=wl hg HB;replace HB:=bs HB hb;clear hb hbox hg)|((with_reducible refine gate_dst (N:=5) rfl ?_);refine box_event rfl (N:=5) rfl (cs:=#[.string a1_0,.string a1_1]) (t:=25) (by first|(go_simp;done)|(go_simp;rfl)) ?_;intro gb629 hg w8 hbox hb;have BK629:=aM (hbox);have GW629:=wl hg HB;have GE629:=wl hg HB;have NB628_629:=nl hg BK628;have NB629_628:=nr hg BK628;replace BK628:=kb BK628 hb;replace HB:=bs HB hb;clear hb hbox hg)|((with_reducible refine gate_dst (N:=6) rfl ?_);refine box_event rfl (N:=6) rfl (cs:=#[.string a2_0,.string a2_1]) (t:=25) (by first|(go_simp;done)|(go_simp;rfl)) ?_;intro gb630 hg w9 hbox hb;have BK630:=aM (hbox);have GW630:=wl hg HB;have GE630:=wl hg HB;have NB628_630:=nl hg BK628;have NB630_628:=nr hg BK628;have NB629_630:=nl hg BK629;have NB630_629:=nr hg BK629;replace BK628:=kb BK628 hb;replace BK629:=kb BK629 hb;replace HB:=bs HB hb;clear hb hbox hg)|((with_reducible refine gate_dst (N:=7) rfl ?_);refine box_event rfl (N:=7) rfl (cs:=#[.string a3_0,.string a3_1]) (t:=25) (by first|(go_simp;done)|(go_simp;rfl)) ?_;intro gb631 hg w10 hbox hb;have BK631:=aM (hbox);have GW631:=wl hg HB;have GE631:=wl hg HB;have NB628_631:=nl hg BK628;have NB631_628:=nr hg BK628;have NB629_631:=nl hg BK629;have NB631_629:=nr hg BK629;have NB630_631:=nl hg BK630;have NB631_630:=nr hg BK630;replace BK628:=kb BK628 hb;replace BK629:=kb BK629 hb;replace BK630:=kb BK630 hb;replace HB:=bs HB hb;clear hb hbox hg;have hnb11:=NB628_629.out;have hnc11:=NB629_628.out;have hnb12:=NB628_630.out;have hnc12:=NB630_628.out;have hnb13:=NB628_631.out;have hnc13:=NB631_628.out;have⟨a0,a1,b0,b1⟩:=q2f BK628;have hnb15:=NB629_630.out;have hnc15:=NB630_629.out;have hnb16:=NB629_631.out;have hnc16:=NB631_629.out;have⟨a0,a1,b0,b1⟩:=q2f BK629;have hnb18:=NB630_631.out;have hnc18:=NB631_630.out;have⟨a0,a1,b0,b1⟩:=q2f BK630;have⟨a0,a1,b0,b1⟩:=q2f BK631)|((with_reducible refine gate_callee (f:=13) rfl ?_);refine goesL_ (some 17) rfl rfl Try.func13 (by kernel_rfl) rfl #[.agg #[.string a0_0,.string a0_1],.agg #[.string a1_0,.string a1_1],.agg #[.string a2_0,.string a2_1],.agg #[.string a3_0,.string a3_1]] rfl (by (try simp only [sM,sC,sN]);first|done|rfl) ?_;(with_reducible refine (impl_MiddleOf.calls k a0_0 a0_1 a1_0 a1_1 a2_0 a2_1 a3_0 a3_1 t632 t633 t634 _ A5.out).mono ?_);rintro e w21 ⟨rfl,hb⟩;refine ⟨_,rfl,?_⟩;replace BK628:=kb BK628 hb;replace BK629:=kb BK629 hb;replace BK630:=kb BK630 hb;replace BK631:=kb BK631 hb;replace HB:=bs HB hb;(try clear hb))|((with_reducible refine gate_dst (N:=10) rfl ?_);refine box_event rfl (N:=10) rfl (cs:=#[.string ⟨#[]⟩,.string ⟨#[]⟩]) (t:=25) (by first|(go_simp;done)|(go_simp;rfl)) ?_;intro gb635 hg w22 hbox hb;have BK635:=aM (hbox);have GW635:=wl hg HB;have GE635:=wl hg HB;have NB628_635:=nl hg BK628;have NB635_628:=nr hg BK628;have NB629_635:=nl hg BK629;have NB635_629:=nr hg BK629;have NB630_635:=nl hg BK630;have NB635_630:=nr hg BK630;have NB631_635:=nl hg BK631;have NB635_631:=nr hg BK631;replace BK628:=kb BK628 hb;replace BK629:=kb BK629 hb;replace BK630:=kb BK630 hb;replace BK631:=kb BK631 hb;replace HB:=bs HB hb;clear hb hbox hg;have hnb23:=NB635_628.out;have hnc23:=NB628_635.out;have hnb24:=NB635_629.out;have hnc24:=NB629_635.out;have hnb25:=NB635_630.out;have hnc25:=NB630_635.out;have hnb26:=NB635_631.out;have hnc26:=NB631_635.out;have⟨a0,a1,b0,b1⟩:=q2f BK635;have⟨a0,a1,b0,b1⟩:=q2f BK630))
  go_ret2
  exact ⟨rfl,by first|exact bb HB|exact bg HB GE628|exact bg HB GE629|exact bg HB GE630|exact bg HB GE631|exact bg HB GE635⟩
 ·rw [if_neg c6] at H
  have c6b0:(t634 == 0) = false:=beq_eq_false_iff_ne.mpr c6
  have c6b1:(t634 != 0) = true:=bne_iff_ne.mpr c6
  simp only [Option.some.injEq,Prod.mk.injEq] at H
  obtain ⟨rfl,rfl⟩:=H
  go_enter Try.func15,Try.ntmps15
  go_wp2_with (first|((with_reducible refine gate_dst (N:=4) rfl ?_);refine box_event rfl (N:=4) rfl (cs:=#[.string a0_0,.string a0_1]) (t:=25) (by first|(go_simp;done)|(go_simp;rfl)) ?_;intro gb628 hg w29 hbox hb;have BK628:=aM (hbox);have GW628:=wl hg HB;have GE628:=wl hg HB;replace HB:=bs HB hb;clear hb hbox hg)|((with_reducible refine gate_dst (N:=5) rfl ?_);refine box_event rfl (N:=5) rfl (cs:=#[.string a1_0,.string a1_1]) (t:=25) (by first|(go_simp;done)|(go_simp;rfl)) ?_;intro gb629 hg w30 hbox hb;have BK629:=aM (hbox);have GW629:=wl hg HB;have GE629:=wl hg HB;have NB628_629:=nl hg BK628;have NB629_628:=nr hg BK628;replace BK628:=kb BK628 hb;replace HB:=bs HB hb;clear hb hbox hg)|((with_reducible refine gate_dst (N:=6) rfl ?_);refine box_event rfl (N:=6) rfl (cs:=#[.string a2_0,.string a2_1]) (t:=25) (by first|(go_simp;done)|(go_simp;rfl)) ?_;intro gb630 hg w31 hbox hb;have BK630:=aM (hbox);have GW630:=wl hg HB;have GE630:=wl hg HB;have NB628_630:=nl hg BK628;have NB630_628:=nr hg BK628;have NB629_630:=nl hg BK629;have NB630_629:=nr hg BK629;replace BK628:=kb BK628 hb;replace BK629:=kb BK629 hb;replace HB:=bs HB hb;clear hb hbox hg)|((with_reducible refine gate_dst (N:=7) rfl ?_);refine box_event rfl (N:=7) rfl (cs:=#[.string a3_0,.string a3_1]) (t:=25) (by first|(go_simp;done)|(go_simp;rfl)) ?_;intro gb631 hg w32 hbox hb;have BK631:=aM (hbox);have GW631:=wl hg HB;have GE631:=wl hg HB;have NB628_631:=nl hg BK628;have NB631_628:=nr hg BK628;have NB629_631:=nl hg BK629;have NB631_629:=nr hg BK629;have NB630_631:=nl hg BK630;have NB631_630:=nr hg BK630;replace BK628:=kb BK628 hb;replace BK629:=kb BK629 hb;replace BK630:=kb BK630 hb;replace HB:=bs HB hb;clear hb hbox hg;have hnb33:=NB628_629.out;have hnc33:=NB629_628.out;have hnb34:=NB628_630.out;have hnc34:=NB630_628.out;have hnb35:=NB628_631.out;have hnc35:=NB631_628.out;have⟨a0,a1,b0,b1⟩:=q2f BK628;have hnb37:=NB629_630.out;have hnc37:=NB630_629.out;have hnb38:=NB629_631.out;have hnc38:=NB631_629.out;have⟨a0,a1,b0,b1⟩:=q2f BK629;have hnb40:=NB630_631.out;have hnc40:=NB631_630.out;have⟨a0,a1,b0,b1⟩:=q2f BK630;have⟨a0,a1,b0,b1⟩:=q2f BK631)|((with_reducible refine gate_callee (f:=13) rfl ?_);refine goesL_ (some 17) rfl rfl Try.func13 (by kernel_rfl) rfl #[.agg #[.string a0_0,.string a0_1],.agg #[.string a1_0,.string a1_1],.agg #[.string a2_0,.string a2_1],.agg #[.string a3_0,.string a3_1]] rfl (by (try simp only [sM,sC,sN]);first|done|rfl) ?_;(with_reducible refine (impl_MiddleOf.calls k a0_0 a0_1 a1_0 a1_1 a2_0 a2_1 a3_0 a3_1 t632 t633 t634 _ A5.out).mono ?_);rintro e w43 ⟨rfl,hb⟩;refine ⟨_,rfl,?_⟩;replace BK628:=kb BK628 hb;replace BK629:=kb BK629 hb;replace BK630:=kb BK630 hb;replace BK631:=kb BK631 hb;replace HB:=bs HB hb;(try clear hb))|((with_reducible refine gate_dst (N:=10) rfl ?_);refine box_event rfl (N:=10) rfl (cs:=#[.string ⟨#[]⟩,.string ⟨#[]⟩]) (t:=25) (by first|(go_simp;done)|(go_simp;rfl)) ?_;intro gb635 hg w44 hbox hb;have BK635:=aM (hbox);have GW635:=wl hg HB;have GE635:=wl hg HB;have NB628_635:=nl hg BK628;have NB635_628:=nr hg BK628;have NB629_635:=nl hg BK629;have NB635_629:=nr hg BK629;have NB630_635:=nl hg BK630;have NB635_630:=nr hg BK630;have NB631_635:=nl hg BK631;have NB635_631:=nr hg BK631;replace BK628:=kb BK628 hb;replace BK629:=kb BK629 hb;replace BK630:=kb BK630 hb;replace BK631:=kb BK631 hb;replace HB:=bs HB hb;clear hb hbox hg;have hnb45:=NB635_628.out;have hnc45:=NB628_635.out;have hnb46:=NB635_629.out;have hnc46:=NB629_635.out;have hnb47:=NB635_630.out;have hnc47:=NB630_635.out;have hnb48:=NB635_631.out;have hnc48:=NB631_635.out;have⟨a0,a1,b0,b1⟩:=q2f BK635))
  go_ret2
  exact ⟨rfl,by first|exact bb HB|exact bg HB GE628|exact bg HB GE629|exact bg HB GE630|exact bg HB GE631|exact bg HB GE635⟩
end Go.Proofs.Ytmhpbilkocnlnaa.Q
end
section
namespace Go.Proofs.Ytmhpbilkocnlnaa.Q
open Go.Proofs.YtmhpbilkocnlnaaW.Ext
open Go.RowKit Go.Proofs.YtmhpbilkocnlnaaW.PrintWords Go.Proofs.YtmhpbilkocnlnaaW.PrintLast Go.Proofs.YtmhpbilkocnlnaaW.PrintMore
attribute [local go_sem] max2_int min2_int max_two min_two max_three min_three max_four min_four   -- for this text's walks alone
set_option linter.unusedVariables false
set_option linter.unusedSimpArgs false
def impl_IsPointOf.j0:Nat → Bool → ByteArray → ByteArray → ByteArray → ByteArray → Option (Bool × Int)
 | 0,_,_,_,_,_=>none
 | k + 1,x6,x434000,x434001,x435000,x435001=>if x6 = true then (some (false,1)) else ((impl_Sequence_isStar.f x434000 x434001).bind fun t437=>(if t437 = true then ((impl_Sequence_isPoint.f k x434000 x434001 x435000 x435001).bind fun t438=>(some (t438,0))) else (some (false,5))))
def impl_IsPointOf.f (k:Nat) (a0_0:ByteArray) (a0_1:ByteArray) (a1_0:ByteArray) (a1_1:ByteArray):Option (Bool × Int):=(impl_IsSequence.f k a0_0 a0_1).bind fun t435=>(if t435 = true then ((impl_IsSequence.f k a1_0 a1_1).bind fun t436=>(impl_IsPointOf.j0 k (!t436) a0_0 a0_1 a1_0 a1_1)) else (impl_IsPointOf.j0 k true a0_0 a0_1 a1_0 a1_1))
theorem impl_IsPointOf.mono_l:∀ k,(∀ y0 y1 y2 y3 y4,LeO (impl_IsPointOf.j0 k y0 y1 y2 y3 y4) (impl_IsPointOf.j0 (k + 1) y0 y1 y2 y3 y4))
 | 0=>fun _ _ _ _ _ r h=>by simp [impl_IsPointOf.j0] at h
 | k + 1=>by
  have ih0:=impl_IsPointOf.mono_l k
  ·intro y0 y1 y2 y3 y4
   unfold impl_IsPointOf.j0
   repeat' first
   | (with_reducible exact ih0 _ _ _ _ _)
   | (with_reducible exact impl_IsSequence.mono _ _ _)
   | (with_reducible exact impl_Sequence_isPoint.mono _ _ _ _ _)
   | (with_reducible exact LeO.refl _)
   | (with_reducible exact LeO.none _)
   | (with_reducible refine LeO.ite ?_ ?_)
   | (with_reducible refine LeO.bind ?_ (fun _=>?_))
   | exact ih0 _ _ _ _ _
   | exact impl_IsSequence.mono _ _ _
   | exact impl_Sequence_isPoint.mono _ _ _ _ _
   | exact LeO.none _
   | refine LeO.ite ?_ ?_
   | refine LeO.bind ?_ (fun _=>?_)
theorem impl_IsPointOf.mono:∀ a0 a1 a2 a3 k,LeO (impl_IsPointOf.f k a0 a1 a2 a3) (impl_IsPointOf.f (k + 1) a0 a1 a2 a3):=by
 intro a0 a1 a2 a3 k
 have ih0:=impl_IsPointOf.mono_l k
 unfold impl_IsPointOf.f
 repeat' first
   | (with_reducible exact ih0 _ _ _ _ _)
   | (with_reducible exact impl_IsSequence.mono _ _ _)
   | (with_reducible exact impl_Sequence_isPoint.mono _ _ _ _ _)
   | (with_reducible exact LeO.refl _)
   | (with_reducible exact LeO.none _)
   | (with_reducible refine LeO.ite ?_ ?_)
   | (with_reducible refine LeO.bind ?_ (fun _=>?_))
   | exact ih0 _ _ _ _ _
   | exact impl_IsSequence.mono _ _ _
   | exact impl_Sequence_isPoint.mono _ _ _ _ _
   | exact LeO.none _
   | refine LeO.ite ?_ ?_
   | refine LeO.bind ?_ (fun _=>?_)
set_option maxHeartbeats 8000000 in
set_option maxRecDepth 100000 in
theorem impl_IsPointOf.calls (k:Nat) (a0_0:ByteArray) (a0_1:ByteArray) (a1_0:ByteArray) (a1_1:ByteArray) (r1:Bool) (r2:Int) (w:World) (h:impl_IsPointOf.f k a0_0 a0_1 a1_0 a1_1 = some (r1,r2)) :
  Calls Try.prog 6 #[.agg #[.string a0_0,.string a0_1],.agg #[.string a1_0,.string a1_1]] w fun e w'=>e = .returned (.tuple #[.bool r1,.int .i64 r2]) ∧ Below w.heap.size w w':=by
 have hu25:=Try.underlying25
 have HB:=aM (Below.refl w.heap.size w)
 have H:((impl_IsSequence.f k a0_0 a0_1).bind fun t435=>(if t435 = true then ((impl_IsSequence.f k a1_0 a1_1).bind fun t436=>(impl_IsPointOf.j0 k (!t436) a0_0 a0_1 a1_0 a1_1)) else (impl_IsPointOf.j0 k true a0_0 a0_1 a1_0 a1_1))) = some (r1,r2):=h
 clear h
 have HC3:=aM H
 clear H
 go_enter Try.func6,Try.ntmps6
 go_upto_region 1 with (first|((with_reducible refine gate_dst (N:=2) rfl ?_);refine box_event rfl (N:=2) rfl (cs:=#[.string a0_0,.string a0_1]) (t:=25) (by first|(go_simp;done)|(go_simp;rfl)) ?_;intro gb433 hg w4 hbox hb;have BK433:=aM (hbox);have GW433:=wl hg HB;have GE433:=wl hg HB;replace HB:=bs HB hb;clear hb hbox hg)|((with_reducible refine gate_dst (N:=3) rfl ?_);refine box_event rfl (N:=3) rfl (cs:=#[.string a1_0,.string a1_1]) (t:=25) (by first|(go_simp;done)|(go_simp;rfl)) ?_;intro gb434 hg w5 hbox hb;have BK434:=aM (hbox);have GW434:=wl hg HB;have GE434:=wl hg HB;have NB433_434:=nl hg BK433;have NB434_433:=nr hg BK433;replace BK433:=kb BK433 hb;replace HB:=bs HB hb;clear hb hbox hg))
 (try simp only [Act.put,sI,sZ,sS])
 go_cut [6] (fun v6 wc=>∃ (kq:Nat) (x6_2:Bool),v6 = .bool x6_2 ∧ Aside0 (impl_IsPointOf.j0 kq x6_2 a0_0 a0_1 a1_0 a1_1 = some (r1,r2)) ∧ Aside0 (kq ≤ k) ∧ Aside0 (wc.heap[gb433]? = some (.cells #[.string a0_0,.string a0_1] 25 (0,0))) ∧ Aside0 (wc.heap[gb434]? = some (.cells #[.string a1_0,.string a1_1] 25 (0,0))) ∧ Aside0 (Below w.heap.size w wc))
 case first =>
  have H:=HC3.out
  clear HC3
  replace H:=Option.bind_eq_some_iff.mp H
  obtain ⟨t435,A60,H⟩:=H
  replace H:(if t435 = true then ((impl_IsSequence.f k a1_0 a1_1).bind fun t436=>(impl_IsPointOf.j0 k (!t436) a0_0 a0_1 a1_0 a1_1)) else (impl_IsPointOf.j0 k true a0_0 a0_1 a1_0 a1_1)) = some (r1,r2):=H;have A6:=aM A60
  clear A60
  by_cases c7:t435 = true
  ·subst c7
   have H1:((impl_IsSequence.f k a1_0 a1_1).bind fun t436=>(impl_IsPointOf.j0 k (!t436) a0_0 a0_1 a1_0 a1_1)) = some (r1,r2):=by rw [if_pos rfl] at H;exact H
   clear H
   have H:=H1
   clear H1
   replace H:=Option.bind_eq_some_iff.mp H
   obtain ⟨t436,A80,H⟩:=H
   replace H:(impl_IsPointOf.j0 k (!t436) a0_0 a0_1 a1_0 a1_1) = some (r1,r2):=H;have A8:=aM A80
   clear A80
   have H':=aM H
   clear H
   have hnb9:=NB433_434.out
   have hnc9:=NB434_433.out
   have⟨a0,a1,b0,b1⟩:=q2f BK433
   go_wp2_with (first|((with_reducible refine gate_callee (f:=20) rfl ?_);refine goesL_ (some 8) rfl rfl Try.func20 (by kernel_rfl) rfl #[.agg #[.string a0_0,.string a0_1]] rfl (by (try simp only [sM,sC,sN]);first|done|rfl) ?_;(with_reducible refine (impl_IsSequence.calls k a0_0 a0_1 true _ A6.out).mono ?_);rintro e w11 ⟨rfl,hb⟩;refine ⟨_,rfl,?_⟩;replace BK433:=kb BK433 hb;replace BK434:=kb BK434 hb;replace HB:=bs HB hb;(try clear hb);have⟨a0,a1,b0,b1⟩:=q2f BK434)|(go_at_call 20;(with_reducible refine (impl_IsSequence.calls k a1_0 a1_1 t436 _ A8.out).mono ?_);rintro e w13 ⟨rfl,hb⟩;replace BK433:=kb BK433 hb;replace BK434:=kb BK434 hb;replace HB:=bs HB hb;(try clear hb)))
   go_meet
   case rel=>exact ⟨_,(!t436),(by first|rfl|(simp;done)|(simp [*];done)),H',⟨by first|omega|exact Nat.le_refl _⟩,⟨bk BK433⟩,⟨bk BK434⟩,⟨bb HB⟩⟩
  ·replace c7:=Bool.eq_false_iff.mpr c7
   subst c7
   have H1:(impl_IsPointOf.j0 k true a0_0 a0_1 a1_0 a1_1) = some (r1,r2):=by rw [if_neg (show ¬ (false = true) by decide)] at H;exact H
   clear H
   have H:=H1
   clear H1
   have H':=aM H
   clear H
   have hnb14:=NB433_434.out
   have hnc14:=NB434_433.out
   have⟨a0,a1,b0,b1⟩:=q2f BK433
   go_wp2_with (first|((with_reducible refine gate_callee (f:=20) rfl ?_);refine goesL_ (some 8) rfl rfl Try.func20 (by kernel_rfl) rfl #[.agg #[.string a0_0,.string a0_1]] rfl (by (try simp only [sM,sC,sN]);first|done|rfl) ?_;(with_reducible refine (impl_IsSequence.calls k a0_0 a0_1 false _ A6.out).mono ?_);rintro e w16 ⟨rfl,hb⟩;refine ⟨_,rfl,?_⟩;replace BK433:=kb BK433 hb;replace BK434:=kb BK434 hb;replace HB:=bs HB hb;(try clear hb)))
   go_meet
   case rel=>exact ⟨_,(true),(by first|rfl|(simp;done)|(simp [*];done)),H',⟨by first|omega|exact Nat.le_refl _⟩,⟨bk BK433⟩,⟨bk BK434⟩,⟨bb HB⟩⟩
 case rest =>
  clear HC3
  try clear c1
  try clear c2
  try clear p2
  try clear c6
  try clear c7
  try clear c9
  try clear c14
  try clear hcz10_0
  try clear hcz10_1
  try clear hcz12_0
  try clear hcz12_1
  try clear hcz15_0
  try clear hcz15_1
  try clear hfz10_0
  try clear hfz10_1
  try clear hfz12_0
  try clear hfz12_1
  try clear hfz15_0
  try clear hfz15_1
  obtain ⟨kq,x6_2,rfl,HA,HJ2,BK433,BK434,HB⟩:=hcut
  cases kq with
  | zero=>exact absurd HA.out (by simp [impl_IsPointOf.j0])
  | succ kj2 =>
   have H:=HA.out
   clear HA
   simp only [impl_IsPointOf.j0] at H
   by_cases c17:x6_2 = true
   ·subst c17
    have H1:(some (false,1)) = some (r1,r2):=by rw [if_pos rfl] at H;exact H
    clear H
    have H:=H1
    clear H1
    simp only [Option.some.injEq,Prod.mk.injEq] at H
    obtain ⟨rfl,rfl⟩:=H
    go_wp2
    go_ret2
    exact ⟨rfl,bb HB⟩
   ·replace c17:=Bool.eq_false_iff.mpr c17
    subst c17
    have H1:((impl_Sequence_isStar.f a0_0 a0_1).bind fun t437=>(if t437 = true then ((impl_Sequence_isPoint.f kj2 a0_0 a0_1 a1_0 a1_1).bind fun t438=>(some (t438,0))) else (some (false,5)))) = some (r1,r2):=by rw [if_neg (show ¬ (false = true) by decide)] at H;exact H
    clear H
    have H:=H1
    clear H1
    replace H:=Option.bind_eq_some_iff.mp H
    obtain ⟨t437,A180,H⟩:=H
    replace H:(if t437 = true then ((impl_Sequence_isPoint.f kj2 a0_0 a0_1 a1_0 a1_1).bind fun t438=>(some (t438,0))) else (some (false,5))) = some (r1,r2):=H;have A18:=aM A180
    clear A180
    by_cases c19:t437 = true
    ·subst c19
     have H1:((impl_Sequence_isPoint.f kj2 a0_0 a0_1 a1_0 a1_1).bind fun t438=>(some (t438,0))) = some (r1,r2):=by rw [if_pos rfl] at H;exact H
     clear H
     have H:=H1
     clear H1
     replace H:=Option.bind_eq_some_iff.mp H
     obtain ⟨t438,A200,H⟩:=H
     replace H:(some (t438,0)) = some (r1,r2):=H;have A20:=aM A200
     clear A200
     simp only [Option.some.injEq,Prod.mk.injEq] at H
     obtain ⟨rfl,rfl⟩:=H
     have hnb21:=NB433_434.out
     have hnc21:=NB434_433.out
     have⟨a0,a1,b0,b1⟩:=q2f BK433
     go_wp2_with (first|((with_reducible refine gate_callee (f:=21) rfl ?_);refine goesL_ (some 17) rfl rfl Try.func21 (by kernel_rfl) rfl #[.agg #[.string a0_0,.string a0_1]] rfl (by (try simp only [sM,sC,sN]);first|done|rfl) ?_;(with_reducible refine (impl_Sequence_isStar.calls a0_0 a0_1 true _ A18.out).mono ?_);rintro e w23 ⟨rfl,hb⟩;refine ⟨_,rfl,?_⟩;replace BK433:=kb BK433 hb;replace BK434:=kb BK434 hb;replace HB:=bs HB hb;(try clear hb);have⟨a0,a1,b0,b1⟩:=q2f BK433;have⟨a0,a1,b0,b1⟩:=q2f BK434)|((with_reducible refine gate_callee (f:=22) rfl ?_);refine goesL_ (some 21) rfl rfl Try.func22 (by kernel_rfl) rfl #[.agg #[.string a0_0,.string a0_1],.agg #[.string a1_0,.string a1_1]] rfl (by (try simp only [sM,sC,sN]);first|done|rfl) ?_;(with_reducible refine (impl_Sequence_isPoint.calls kj2 a0_0 a0_1 a1_0 a1_1 t438 _ A20.out).mono ?_);rintro e w26 ⟨rfl,hb⟩;refine ⟨_,rfl,?_⟩;replace BK433:=kb BK433 hb;replace BK434:=kb BK434 hb;replace HB:=bs HB hb;(try clear hb)))
     go_ret2
     exact ⟨rfl,bb HB⟩
    ·replace c19:=Bool.eq_false_iff.mpr c19
     subst c19
     have H1:(some (false,5)) = some (r1,r2):=by rw [if_neg (show ¬ (false = true) by decide)] at H;exact H
     clear H
     have H:=H1
     clear H1
     simp only [Option.some.injEq,Prod.mk.injEq] at H
     obtain ⟨rfl,rfl⟩:=H
     have hnb27:=NB433_434.out
     have hnc27:=NB434_433.out
     have⟨a0,a1,b0,b1⟩:=q2f BK433
     go_wp2_with (first|((with_reducible refine gate_callee (f:=21) rfl ?_);refine goesL_ (some 17) rfl rfl Try.func21 (by kernel_rfl) rfl #[.agg #[.string a0_0,.string a0_1]] rfl (by (try simp only [sM,sC,sN]);first|done|rfl) ?_;(with_reducible refine (impl_Sequence_isStar.calls a0_0 a0_1 false _ A18.out).mono ?_);rintro e w29 ⟨rfl,hb⟩;refine ⟨_,rfl,?_⟩;replace BK433:=kb BK433 hb;replace BK434:=kb BK434 hb;replace HB:=bs HB hb;(try clear hb)))
     go_ret2
     exact ⟨rfl,bb HB⟩
def spec_IsPointOf.j0:Nat → Bool → ByteArray → ByteArray → ByteArray → ByteArray → Option (Bool × Int)
 | 0,_,_,_,_,_=>none
 | k + 1,x6,x448000,x448001,x449000,x449001=>if x6 = true then (some (false,1)) else ((spec_l02Star.f k x448000 x448001).bind fun t451=>(if t451 = true then ((spec_l06Point.f k x448000 x448001 x449000 x449001).bind fun t452=>(some (t452,0))) else (some (false,5))))
def spec_IsPointOf.f (k:Nat) (a0_0:ByteArray) (a0_1:ByteArray) (a1_0:ByteArray) (a1_1:ByteArray):Option (Bool × Int):=(spec_l01Seq.f k a0_0 a0_1).bind fun t449=>(if t449 = true then ((spec_l01Seq.f k a1_0 a1_1).bind fun t450=>(spec_IsPointOf.j0 k (!t450) a0_0 a0_1 a1_0 a1_1)) else (spec_IsPointOf.j0 k true a0_0 a0_1 a1_0 a1_1))
theorem spec_IsPointOf.mono_l:∀ k,(∀ y0 y1 y2 y3 y4,LeO (spec_IsPointOf.j0 k y0 y1 y2 y3 y4) (spec_IsPointOf.j0 (k + 1) y0 y1 y2 y3 y4))
 | 0=>fun _ _ _ _ _ r h=>by simp [spec_IsPointOf.j0] at h
 | k + 1=>by
  have ih0:=spec_IsPointOf.mono_l k
  ·intro y0 y1 y2 y3 y4
   unfold spec_IsPointOf.j0
   repeat' first
   | (with_reducible exact ih0 _ _ _ _ _)
   | (with_reducible exact spec_l01Seq.mono _ _ _)
   | (with_reducible exact spec_l02Star.mono _ _ _)
   | (with_reducible exact spec_l06Point.mono _ _ _ _ _)
   | (with_reducible exact LeO.refl _)
   | (with_reducible exact LeO.none _)
   | (with_reducible refine LeO.ite ?_ ?_)
   | (with_reducible refine LeO.bind ?_ (fun _=>?_))
   | exact ih0 _ _ _ _ _
   | exact spec_l01Seq.mono _ _ _
   | exact spec_l02Star.mono _ _ _
   | exact spec_l06Point.mono _ _ _ _ _
   | exact LeO.none _
   | refine LeO.ite ?_ ?_
   | refine LeO.bind ?_ (fun _=>?_)
theorem spec_IsPointOf.mono:∀ a0 a1 a2 a3 k,LeO (spec_IsPointOf.f k a0 a1 a2 a3) (spec_IsPointOf.f (k + 1) a0 a1 a2 a3):=by
 intro a0 a1 a2 a3 k
 have ih0:=spec_IsPointOf.mono_l k
 unfold spec_IsPointOf.f
 repeat' first
   | (with_reducible exact ih0 _ _ _ _ _)
   | (with_reducible exact spec_l01Seq.mono _ _ _)
   | (with_reducible exact spec_l02Star.mono _ _ _)
   | (with_reducible exact spec_l06Point.mono _ _ _ _ _)
   | (with_reducible exact LeO.refl _)
   | (with_reducible exact LeO.none _)
   | (with_reducible refine LeO.ite ?_ ?_)
   | (with_reducible refine LeO.bind ?_ (fun _=>?_))
   | exact ih0 _ _ _ _ _
   | exact spec_l01Seq.mono _ _ _
   | exact spec_l02Star.mono _ _ _
   | exact spec_l06Point.mono _ _ _ _ _
   | exact LeO.none _
   | refine LeO.ite ?_ ?_
   | refine LeO.bind ?_ (fun _=>?_)
set_option maxHeartbeats 8000000 in
set_option maxRecDepth 100000 in
theorem spec_IsPointOf.calls (k:Nat) (a0_0:ByteArray) (a0_1:ByteArray) (a1_0:ByteArray) (a1_1:ByteArray) (r1:Bool) (r2:Int) (w:World) (h:spec_IsPointOf.f k a0_0 a0_1 a1_0 a1_1 = some (r1,r2)) :
  Calls Try.prog 7 #[.agg #[.string a0_0,.string a0_1],.agg #[.string a1_0,.string a1_1]] w fun e w'=>e = .returned (.tuple #[.bool r1,.int .i64 r2]) ∧ Below w.heap.size w w':=by
 have hu25:=Try.underlying25
 have HB:=aM (Below.refl w.heap.size w)
 have H:((spec_l01Seq.f k a0_0 a0_1).bind fun t449=>(if t449 = true then ((spec_l01Seq.f k a1_0 a1_1).bind fun t450=>(spec_IsPointOf.j0 k (!t450) a0_0 a0_1 a1_0 a1_1)) else (spec_IsPointOf.j0 k true a0_0 a0_1 a1_0 a1_1))) = some (r1,r2):=h
 clear h
 have HC3:=aM H
 clear H
 go_enter Try.func7,Try.ntmps7
 go_upto_region 1 with (first|((with_reducible refine gate_dst (N:=2) rfl ?_);refine box_event rfl (N:=2) rfl (cs:=#[.string a0_0,.string a0_1]) (t:=25) (by first|(go_simp;done)|(go_simp;rfl)) ?_;intro gb447 hg w4 hbox hb;have BK447:=aM (hbox);have GW447:=wl hg HB;have GE447:=wl hg HB;replace HB:=bs HB hb;clear hb hbox hg)|((with_reducible refine gate_dst (N:=3) rfl ?_);refine box_event rfl (N:=3) rfl (cs:=#[.string a1_0,.string a1_1]) (t:=25) (by first|(go_simp;done)|(go_simp;rfl)) ?_;intro gb448 hg w5 hbox hb;have BK448:=aM (hbox);have GW448:=wl hg HB;have GE448:=wl hg HB;have NB447_448:=nl hg BK447;have NB448_447:=nr hg BK447;replace BK447:=kb BK447 hb;replace HB:=bs HB hb;clear hb hbox hg))
 (try simp only [Act.put,sI,sZ,sS])
 go_cut [6] (fun v6 wc=>∃ (kq:Nat) (x6_2:Bool),v6 = .bool x6_2 ∧ Aside0 (spec_IsPointOf.j0 kq x6_2 a0_0 a0_1 a1_0 a1_1 = some (r1,r2)) ∧ Aside0 (kq ≤ k) ∧ Aside0 (wc.heap[gb447]? = some (.cells #[.string a0_0,.string a0_1] 25 (0,0))) ∧ Aside0 (wc.heap[gb448]? = some (.cells #[.string a1_0,.string a1_1] 25 (0,0))) ∧ Aside0 (Below w.heap.size w wc))
 case first =>
  have H:=HC3.out
  clear HC3
  replace H:=Option.bind_eq_some_iff.mp H
  obtain ⟨t449,A60,H⟩:=H
  replace H:(if t449 = true then ((spec_l01Seq.f k a1_0 a1_1).bind fun t450=>(spec_IsPointOf.j0 k (!t450) a0_0 a0_1 a1_0 a1_1)) else (spec_IsPointOf.j0 k true a0_0 a0_1 a1_0 a1_1)) = some (r1,r2):=H;have A6:=aM A60
  clear A60
  by_cases c7:t449 = true
  ·subst c7
   have H1:((spec_l01Seq.f k a1_0 a1_1).bind fun t450=>(spec_IsPointOf.j0 k (!t450) a0_0 a0_1 a1_0 a1_1)) = some (r1,r2):=by rw [if_pos rfl] at H;exact H
   clear H
   have H:=H1
   clear H1
   replace H:=Option.bind_eq_some_iff.mp H
   obtain ⟨t450,A80,H⟩:=H
   replace H:(spec_IsPointOf.j0 k (!t450) a0_0 a0_1 a1_0 a1_1) = some (r1,r2):=H;have A8:=aM A80
   clear A80
   have H':=aM H
   clear H
   have hnb9:=NB447_448.out
   have hnc9:=NB448_447.out
   have⟨a0,a1,b0,b1⟩:=q2f BK447
   go_wp2_with (first|((with_reducible refine gate_callee (f:=23) rfl ?_);refine goesL_ (some 8) rfl rfl Try.func23 (by kernel_rfl) rfl #[.agg #[.string a0_0,.string a0_1]] rfl (by (try simp only [sM,sC,sN]);first|done|rfl) ?_;(with_reducible refine (spec_l01Seq.calls k a0_0 a0_1 true _ A6.out).mono ?_);rintro e w11 ⟨rfl,hb⟩;refine ⟨_,rfl,?_⟩;replace BK447:=kb BK447 hb;replace BK448:=kb BK448 hb;replace HB:=bs HB hb;(try clear hb);have⟨a0,a1,b0,b1⟩:=q2f BK448)|(go_at_call 23;(with_reducible refine (spec_l01Seq.calls k a1_0 a1_1 t450 _ A8.out).mono ?_);rintro e w13 ⟨rfl,hb⟩;replace BK447:=kb BK447 hb;replace BK448:=kb BK448 hb;replace HB:=bs HB hb;(try clear hb)))
   go_meet
   case rel=>exact ⟨_,(!t450),(by first|rfl|(simp;done)|(simp [*];done)),H',⟨by first|omega|exact Nat.le_refl _⟩,⟨bk BK447⟩,⟨bk BK448⟩,⟨bb HB⟩⟩
  ·replace c7:=Bool.eq_false_iff.mpr c7
   subst c7
   have H1:(spec_IsPointOf.j0 k true a0_0 a0_1 a1_0 a1_1) = some (r1,r2):=by rw [if_neg (show ¬ (false = true) by decide)] at H;exact H
   clear H
   have H:=H1
   clear H1
   have H':=aM H
   clear H
   have hnb14:=NB447_448.out
   have hnc14:=NB448_447.out
   have⟨a0,a1,b0,b1⟩:=q2f BK447
   go_wp2_with (first|((with_reducible refine gate_callee (f:=23) rfl ?_);refine goesL_ (some 8) rfl rfl Try.func23 (by kernel_rfl) rfl #[.agg #[.string a0_0,.string a0_1]] rfl (by (try simp only [sM,sC,sN]);first|done|rfl) ?_;(with_reducible refine (spec_l01Seq.calls k a0_0 a0_1 false _ A6.out).mono ?_);rintro e w16 ⟨rfl,hb⟩;refine ⟨_,rfl,?_⟩;replace BK447:=kb BK447 hb;replace BK448:=kb BK448 hb;replace HB:=bs HB hb;(try clear hb)))
   go_meet
   case rel=>exact ⟨_,(true),(by first|rfl|(simp;done)|(simp [*];done)),H',⟨by first|omega|exact Nat.le_refl _⟩,⟨bk BK447⟩,⟨bk BK448⟩,⟨bb HB⟩⟩
 case rest =>
  clear HC3
  try clear c1
  try clear c2
  try clear p2
  try clear c7
  try clear c9
  try clear c14
  try clear hcz10_0
  try clear hcz10_1
  try clear hcz12_0
  try clear hcz12_1
  try clear hcz15_0
  try clear hcz15_1
  try clear hfz10_0
  try clear hfz10_1
  try clear hfz12_0
  try clear hfz12_1
  try clear hfz15_0
  try clear hfz15_1
  obtain ⟨kq,x6_2,rfl,HA,HJ2,BK447,BK448,HB⟩:=hcut
  cases kq with
  | zero=>exact absurd HA.out (by simp [spec_IsPointOf.j0])
  | succ kj2 =>
   have H:=HA.out
   clear HA
   simp only [spec_IsPointOf.j0] at H
   by_cases c17:x6_2 = true
   ·subst c17
    have H1:(some (false,1)) = some (r1,r2):=by rw [if_pos rfl] at H;exact H
    clear H
    have H:=H1
    clear H1
    simp only [Option.some.injEq,Prod.mk.injEq] at H
    obtain ⟨rfl,rfl⟩:=H
    go_wp2
    go_ret2
    exact ⟨rfl,bb HB⟩
   ·replace c17:=Bool.eq_false_iff.mpr c17
    subst c17
    have H1:((spec_l02Star.f kj2 a0_0 a0_1).bind fun t451=>(if t451 = true then ((spec_l06Point.f kj2 a0_0 a0_1 a1_0 a1_1).bind fun t452=>(some (t452,0))) else (some (false,5)))) = some (r1,r2):=by rw [if_neg (show ¬ (false = true) by decide)] at H;exact H
    clear H
    have H:=H1
    clear H1
    replace H:=Option.bind_eq_some_iff.mp H
    obtain ⟨t451,A180,H⟩:=H
    replace H:(if t451 = true then ((spec_l06Point.f kj2 a0_0 a0_1 a1_0 a1_1).bind fun t452=>(some (t452,0))) else (some (false,5))) = some (r1,r2):=H;have A18:=aM A180
    clear A180
    by_cases c19:t451 = true
    ·subst c19
     have H1:((spec_l06Point.f kj2 a0_0 a0_1 a1_0 a1_1).bind fun t452=>(some (t452,0))) = some (r1,r2):=by rw [if_pos rfl] at H;exact H
     clear H
     have H:=H1
     clear H1
     replace H:=Option.bind_eq_some_iff.mp H
     obtain ⟨t452,A200,H⟩:=H
     replace H:(some (t452,0)) = some (r1,r2):=H;have A20:=aM A200
     clear A200
     simp only [Option.some.injEq,Prod.mk.injEq] at H
     obtain ⟨rfl,rfl⟩:=H
     have hnb21:=NB447_448.out
     have hnc21:=NB448_447.out
     have⟨a0,a1,b0,b1⟩:=q2f BK447
     go_wp2_with (first|((with_reducible refine gate_callee (f:=24) rfl ?_);refine goesL_ (some 17) rfl rfl Try.func24 (by kernel_rfl) rfl #[.agg #[.string a0_0,.string a0_1]] rfl (by (try simp only [sM,sC,sN]);first|done|rfl) ?_;(with_reducible refine (spec_l02Star.calls kj2 a0_0 a0_1 true _ A18.out).mono ?_);rintro e w23 ⟨rfl,hb⟩;refine ⟨_,rfl,?_⟩;replace BK447:=kb BK447 hb;replace BK448:=kb BK448 hb;replace HB:=bs HB hb;(try clear hb);have⟨a0,a1,b0,b1⟩:=q2f BK447;have⟨a0,a1,b0,b1⟩:=q2f BK448)|((with_reducible refine gate_callee (f:=25) rfl ?_);refine goesL_ (some 21) rfl rfl Try.func25 (by kernel_rfl) rfl #[.agg #[.string a0_0,.string a0_1],.agg #[.string a1_0,.string a1_1]] rfl (by (try simp only [sM,sC,sN]);first|done|rfl) ?_;(with_reducible refine (spec_l06Point.calls kj2 a0_0 a0_1 a1_0 a1_1 t452 _ A20.out).mono ?_);rintro e w26 ⟨rfl,hb⟩;refine ⟨_,rfl,?_⟩;replace BK447:=kb BK447 hb;replace BK448:=kb BK448 hb;replace HB:=bs HB hb;(try clear hb)))
     go_ret2
     exact ⟨rfl,bb HB⟩
    ·replace c19:=Bool.eq_false_iff.mpr c19
     subst c19
     have H1:(some (false,5)) = some (r1,r2):=by rw [if_neg (show ¬ (false = true) by decide)] at H;exact H
     clear H
     have H:=H1
     clear H1
     simp only [Option.some.injEq,Prod.mk.injEq] at H
     obtain ⟨rfl,rfl⟩:=H
     have hnb27:=NB447_448.out
     have hnc27:=NB448_447.out
     have⟨a0,a1,b0,b1⟩:=q2f BK447
     go_wp2_with (first|((with_reducible refine gate_callee (f:=24) rfl ?_);refine goesL_ (some 17) rfl rfl Try.func24 (by kernel_rfl) rfl #[.agg #[.string a0_0,.string a0_1]] rfl (by (try simp only [sM,sC,sN]);first|done|rfl) ?_;(with_reducible refine (spec_l02Star.calls kj2 a0_0 a0_1 false _ A18.out).mono ?_);rintro e w29 ⟨rfl,hb⟩;refine ⟨_,rfl,?_⟩;replace BK447:=kb BK447 hb;replace BK448:=kb BK448 hb;replace HB:=bs HB hb;(try clear hb)))
     go_ret2
     exact ⟨rfl,bb HB⟩
end Go.Proofs.Ytmhpbilkocnlnaa.Q
end
section
namespace Go.Proofs.Ytmhpbilkocnlnaa.Q
open Go.RowKit Go.Proofs.YtmhpbilkocnlnaaW.PrintWords Go.Proofs.YtmhpbilkocnlnaaW.PrintLast Go.Proofs.YtmhpbilkocnlnaaW.Ext
set_option linter.unusedVariables false
set_option linter.unusedSimpArgs false
structure Core (v : PP) : Prop where
  val : Val v
  pre : v.1.size = 0
  last : bt v.2 ((v.2.size - 1 : Nat) : Int) = 42
  self : Pt v v
  seq : Ev (fun k => spec_l01Seq.f k v.1 v.2) true
  star : Ev (fun k => spec_l02Star.f k v.1 v.2) true
structure PtOf (v s : PP) : Prop where
  val : Val s
  pt : Pt v s
  seq : Ev (fun k => spec_l01Seq.f k s.1 s.2) true
theorem seq_impl {s : PP} (hs : s.1.size + s.2.size ≤ 1048576) (h : Ev (fun k => spec_l01Seq.f k s.1 s.2) true) : Ev (fun k => impl_IsSequence.f k s.1 s.2) true := by
  obtain ⟨r, r1, r2, _⟩ := both_seq s.1 s.2 hs
  rwa [← Ev.one r1 h]
theorem seq_pr {s : PP} (hs : Val s) (h : Ev (fun k => spec_l01Seq.f k s.1 s.2) true) : Pr s.2 := by
  have h64 := hs.le
  obtain ⟨c, c1, _, c3, c4, c5, c6, c7, c8⟩ := both_canon3 s.1 s.2 hs.one (by omega)
  have : Ev (fun k => spec_l01Seq.f k s.1 s.2) (c.1.toList == s.1.toList && (c.2.toList == s.2.toList)) := by
    unfold spec_l01Seq.f
    refine Ev.bind (ev_spec_letters s.1 (by omega)) ?_
    simp only [hs.a, if_true]
    refine Ev.bind (ev_spec_letters s.2 (by omega)) ?_
    simp only [hs.b, if_true, if_neg (fun z => (show ¬ s.2.size = 0 by have := hs.one; omega) ((nil_iff s.2).1 z))]
    rw [wrS (by omega) (by omega)]
    simp only [if_neg (show ¬ (s.1.size : Int) + (s.2.size : Int) > 64 by omega)]
    exact Ev.bind c1 (Ev.now _)
  have e := (eqP c s).1 (Ev.one this h)
  rw [← e]
  exact c7
theorem seq_of {s : PP} (hs : Val s) (hp : Pr s.2) : Ev (fun k => spec_l01Seq.f k s.1 s.2) true := by
  have h64 := hs.le
  have c1 := (canon_self s.1 s.2 hs.one (by omega) hs.cn hp).1
  unfold spec_l01Seq.f
  refine Ev.bind (ev_spec_letters s.1 (by omega)) ?_
  simp only [hs.a, if_true]
  refine Ev.bind (ev_spec_letters s.2 (by omega)) ?_
  simp only [hs.b, if_true, if_neg (fun z => (show ¬ s.2.size = 0 by have := hs.one; omega) ((nil_iff s.2).1 z))]
  rw [wrS (by omega) (by omega)]
  simp only [if_neg (show ¬ (s.1.size : Int) + (s.2.size : Int) > 64 by omega)]
  refine Ev.bind c1 ?_
  rw [(eqP s s).2 rfl]
  exact Ev.now _
theorem pt_point {v s : PP} (h1 : 1 ≤ s.2.size) (h64 : s.1.size + s.2.size ≤ 64) (h : Pt v s) : Ev (fun k => spec_l06Point.f k v.1 v.2 s.1 s.2) true := by
  unfold spec_l06Point.f
  have key : ∀ (d i : Nat) (x : PP), i + d = s.1.size + s.2.size → 1 ≤ x.2.size → x.1.size + x.2.size ≤ 64 → Pt v x → Ev (fun k => spec_l06Point.l0 k (i : Int) v.1 v.2 s.1 s.2 x.1 x.2) true := by
    intro d
    induction d with
    | zero =>
      intro i x hi _ _ _
      exact Ev.step (f := fun _ => some true) (fun k => by rw [spec_l06Point.l0, wrS (x := (s.1.size : Int) + (s.2.size : Int)) (by omega) (by omega), if_neg (by omega)]) (Ev.now _)
    | succ d ih =>
      intro i x hi hy hxy hp
      have hs := sh_sizes x hy
      have ea := at_val x.1 x.2 0 hy (by omega) (by omega)
      have hk : atV x.1 x.2 0 = 42 → (!((sh x).1.toList == v.1.toList) || (!((sh x).2.toList == v.2.toList))) = false := fun e => by
        have e2 := (eqP (sh x) v).2 (hp 0 e)
        rw [Bool.and_eq_true] at e2
        rw [e2.1, e2.2]
        rfl
      refine Ev.step (f := fun k => spec_l06Point.l0 k ((i + 1 : Nat) : Int) v.1 v.2 s.1 s.2 (sh x).1 (sh x).2) (fun k => ?_) (ih (i + 1) (sh x) (by omega) (by omega) (by omega) hp.sh')
      rw [spec_l06Point.l0, wrS (x := (s.1.size : Int) + (s.2.size : Int)) (by omega) (by omega), if_pos (by omega), shift_eq x.1 x.2 hy hxy, Option.bind_some, show (0 : Int) = ((0 : Nat) : Int) from rfl, ea, Option.bind_some, wrS (x := (i : Int) + 1) (by omega) (by omega)]
      by_cases e : atV x.1 x.2 0 = 42
      · rw [if_pos e, if_neg (by rw [hk e]; decide)]
        rfl
      · rw [if_neg e]
        rfl
  exact key (s.1.size + s.2.size) 0 s (by omega) h1 h64 h
theorem Ev.all {α : Type} {p : Nat → α → Option Bool} : ∀ L : List α, (∀ x ∈ L, Ev (fun k => p k x) true) → Ev (fun k => allM (p k) L) true
  | [], _ => Ev.now true
  | x :: l, h => by
    refine Ev.bind (h x (List.mem_cons_self ..)) ?_
    simp only [if_true]
    exact Ev.all l (fun y hy => h y (List.mem_cons_of_mem _ hy))
theorem impl_pt {v s : PP} (hs : PtOf v s) : Ev (fun k => impl_Sequence_isPoint.f k v.1 v.2 s.1 s.2) true := by
  obtain ⟨r, r1, r2⟩ := both_point v.1 v.2 s.1 s.2 hs.val.one hs.val.le
  rwa [← Ev.one r1 (pt_point hs.val.one hs.val.le hs.pt)]
theorem Core.impl {v : PP} (h : Core v) : Ev (fun k => impl_IsSequence.f k v.1 v.2) true ∧ impl_Sequence_isStar.f v.1 v.2 = some true := by
  refine ⟨seq_impl (by have := h.val.le; omega) h.seq, ?_⟩
  obtain ⟨r, r1, r2, _⟩ := both_star v.1 v.2 h.val.one h.val.le
  rwa [← Ev.one r1 h.star]
theorem own_point {v s : PP} (hv : Core v) (hs : PtOf v s) : Ev (fun k => impl_IsPointOf.f k v.1 v.2 s.1 s.2) (true, 0) := by
  unfold impl_IsPointOf.f
  refine Ev.bind hv.impl.1 ?_
  simp only [if_true]
  refine Ev.bind (seq_impl (by have := hs.val.le; omega) hs.seq) ?_
  refine Ev.step (f := fun k => (impl_Sequence_isPoint.f k v.1 v.2 s.1 s.2).bind fun t => some (t, 0)) (fun k => ?_) (Ev.bind (impl_pt hs) (Ev.now _))
  rw [impl_IsPointOf.j0, if_neg (by decide), hv.impl.2, Option.bind_some, if_pos rfl]
theorem code_zero {v : PP} (hv : Core v) (L : List SP) (hL : ∀ x ∈ L, PtOf v (SP.pr x)) : Ev (fun k => impl_starCode.f k v.1 v.2 L) 0 := by
  unfold impl_starCode.f
  refine Ev.bind hv.impl.1 ?_
  simp only [if_true]
  refine Ev.bind (Ev.all L fun x hx => seq_impl (s := SP.pr x) (by have := (hL x hx).val.le; omega) (hL x hx).seq) ?_
  simp only [if_true, hv.impl.2, Option.bind_some]
  refine Ev.bind (Ev.all L fun x hx => impl_pt (hL x hx)) ?_
  exact Ev.now _
theorem diff_zero {v s t u : PP} (hv : Core v) (hs : PtOf v s) (ht : PtOf v t) (hu : PtOf v u) (hn : (Tri.same ⟨s, t, u⟩).2.2 = false) : Ev (fun k => impl_differentCode.f k v.1 v.2 s.1 s.2 t.1 t.2 u.1 u.2) 0 := by
  unfold impl_differentCode.f
  refine Ev.bind (code_zero hv [⟨s.1, s.2⟩, ⟨t.1, t.2⟩, ⟨u.1, u.2⟩] (fun x hx => by
    rcases List.mem_cons.1 hx with rfl | hx
    · exact hs
    rcases List.mem_cons.1 hx with rfl | hx
    · exact ht
    rcases List.mem_cons.1 hx with rfl | hx
    · exact hu
    cases hx)) ?_
  simp only [if_neg (show ¬ (0 : Int) ≠ 0 from fun z => z rfl)]
  refine Ev.bind (same_impl ⟨s, t, u⟩) ?_
  simp only [hn, Bool.false_eq_true, if_false]
  exact Ev.now _
noncomputable def midR (v s t u : PP) : ByteArray × ByteArray × Bool := runM v 601 [] [] ⟨s, t, u⟩
theorem mid_ev {v s t u : PP} (hv : Core v) (hs : PtOf v s) (ht : PtOf v t) (hu : PtOf v u) (hn : (Tri.same ⟨s, t, u⟩).2.2 = false) :
    Ev (fun k => spec_l06Middle.f k v.1 v.2 s.1 s.2 t.1 t.2 u.1 u.2) (midR v s t u) ∧ Ev (fun k => impl_MiddleOf.f k v.1 v.2 s.1 s.2 t.1 t.2 u.1 u.2) (handed (midR v s t u)) := by
  have ok : Tri.Ok v ⟨s, t, u⟩ := ⟨hs.val, ht.val, hu.val, hs.pt, ht.pt, hu.pt⟩
  have r1 := ev_run hv.val hv.self hv.pre hv.last 601 [] [] ⟨s, t, u⟩ (by simp) rfl ok
  obtain ⟨r, m1, m2⟩ := both_mid hv.val hv.self hv.pre hv.last 600 [] [] ⟨s, t, u⟩ (by simp) rfl ok (fun t ht => by cases ht)
  obtain rfl : r = midR v s t u := Ev.one m1 r1
  constructor
  · unfold spec_l06Middle.f
    exact m1
  · unfold impl_MiddleOf.f
    refine Ev.bind (diff_zero hv hs ht hu hn) ?_
    simp only [if_true]
    unfold impl_Sequence_middle.f
    exact Ev.bind m2 (Ev.now _)
theorem three_of (v s t u : PP) (hv : v.1.size + v.2.size ≤ 1048576) (hs : s.1.size + s.2.size ≤ 1048576) (ht : t.1.size + t.2.size ≤ 1048576) (hu : u.1.size + u.2.size ≤ 1048576) :
    (∃ d : Int, d ≠ 0 ∧ Ev (fun k => spec_l06Three.f k v.1 v.2 s.1 s.2 t.1 t.2 u.1 u.2) d ∧ Ev (fun k => impl_MiddleOf.f k v.1 v.2 s.1 s.2 t.1 t.2 u.1 u.2) (⟨#[]⟩, ⟨#[]⟩, d)) ∨
    (Ev (fun k => spec_l06Three.f k v.1 v.2 s.1 s.2 t.1 t.2 u.1 u.2) 0 ∧ Core v ∧ PtOf v s ∧ PtOf v t ∧ PtOf v u ∧ (Tri.same ⟨s, t, u⟩).2.2 = false) := by
  obtain ⟨c, c1, c2, c3⟩ := both_code v [⟨s.1, s.2⟩, ⟨t.1, t.2⟩, ⟨u.1, u.2⟩] (by simp) hv (fun x hx => by
    rcases List.mem_cons.1 hx with rfl | hx
    · exact hs
    rcases List.mem_cons.1 hx with rfl | hx
    · exact ht
    rcases List.mem_cons.1 hx with rfl | hx
    · exact hu
    cases hx)
  have sp := same_spec ⟨s, t, u⟩
  have im := same_impl ⟨s, t, u⟩
  by_cases h0 : c = 0
  · subst h0
    obtain ⟨hV, e1, e2, e3, ⟨e4, e5⟩, e6⟩ := c3 rfl
    have k0 := e6 ⟨s.1, s.2⟩ (by simp)
    have k1 := e6 ⟨t.1, t.2⟩ (by simp)
    have k2 := e6 ⟨u.1, u.2⟩ (by simp)
    cases h1 : (Tri.same ⟨s, t, u⟩).2.2 with
    | false =>
      refine Or.inr ⟨?_, ⟨hV, e1, e2, e3, e4, e5⟩, ⟨k0.1, k0.2.1, k0.2.2⟩, ⟨k1.1, k1.2.1, k1.2.2⟩, ⟨k2.1, k2.2.1, k2.2.2⟩, rfl⟩
      unfold spec_l06Three.f
      refine Ev.bind c1 (Ev.bind sp ?_)
      simp only [h1, if_true, Bool.false_eq_true, if_false]
      exact Ev.now _
    | true =>
      refine Or.inl ⟨5, by omega, ?_, ?_⟩
      · unfold spec_l06Three.f
        refine Ev.bind c1 (Ev.bind sp ?_)
        simp only [h1, if_true]
        exact Ev.now _
      · unfold impl_MiddleOf.f
        refine Ev.bind (a := 5) ?_ (by simp only [if_neg (show ¬ (5 : Int) = 0 by decide)]; exact Ev.now _)
        unfold impl_differentCode.f
        refine Ev.bind c2 ?_
        simp only [if_neg (show ¬ (0 : Int) ≠ 0 from fun z => z rfl)]
        refine Ev.bind im ?_
        simp only [h1, if_true]
        exact Ev.now _
  · refine Or.inl ⟨c, h0, ?_, ?_⟩
    · unfold spec_l06Three.f
      refine Ev.bind c1 (Ev.bind sp ?_)
      simp only [if_neg h0]
      exact Ev.now _
    · unfold impl_MiddleOf.f
      refine Ev.bind (a := c) ?_ (by simp only [if_neg h0]; exact Ev.now _)
      unfold impl_differentCode.f
      refine Ev.bind c2 ?_
      simp only [if_pos (show c ≠ 0 from h0)]
      exact Ev.now _
theorem same_false_sw {v s t u : PP} (h : (Tri.same ⟨s, t, u⟩).2.2 = false) : (Tri.same ⟨t, s, u⟩).2.2 = false ∧ (Tri.same ⟨u, t, s⟩).2.2 = false := by
  have e1 := same_sw01 ⟨s, t, u⟩
  have e2 := same_sw02 ⟨s, t, u⟩
  unfold sw01 at e1
  unfold sw02 at e2
  rw [e1, e2]
  exact ⟨h, h⟩
theorem mid_sw {v s t u : PP} (hv : Core v) (hs : PtOf v s) (ht : PtOf v t) (hu : PtOf v u) : midR v t s u = midR v s t u ∧ midR v u t s = midR v s t u := by
  have ok : Tri.Ok v ⟨s, t, u⟩ := ⟨hs.val, ht.val, hu.val, hs.pt, ht.pt, hu.pt⟩
  exact ⟨run_sw01 hv.val hv.self hv.pre hv.last 601 [] [] ⟨s, t, u⟩ ok, run_sw02 hv.val hv.self hv.pre hv.last 601 [] [] ⟨s, t, u⟩ ok⟩
theorem mid_law (v s t u : PP) (hv : v.1.size + v.2.size ≤ 1048576) (hs : s.1.size + s.2.size ≤ 1048576) (ht : t.1.size + t.2.size ≤ 1048576) (hu : u.1.size + u.2.size ≤ 1048576) :
    ∃ (a b : ByteArray) (c : Int) (y : Bool), Ev (fun k => impl_MiddleOf.f k v.1 v.2 s.1 s.2 t.1 t.2 u.1 u.2) (a, b, c) ∧ Ev (fun k => spec_MiddleOf.f k v.1 v.2 s.1 s.2 t.1 t.2 u.1 u.2) (a, b, c) ∧
      Ev (fun k => impl_IsBetween.f k v.1 v.2 s.1 s.2 t.1 t.2 u.1 u.2) (y, c) ∧ Ev (fun k => spec_IsBetween.f k v.1 v.2 s.1 s.2 t.1 t.2 u.1 u.2) (y, c) ∧
      ((c ≠ 0 ∧ a = ⟨#[]⟩ ∧ b = ⟨#[]⟩) ∨ (c = 0 ∧ Ev (fun k => impl_MiddleOf.f k v.1 v.2 t.1 t.2 s.1 s.2 u.1 u.2) (a, b, 0) ∧ Ev (fun k => impl_MiddleOf.f k v.1 v.2 u.1 u.2 t.1 t.2 s.1 s.2) (a, b, 0) ∧
        Ev (fun k => impl_IsPointOf.f k v.1 v.2 a b) (true, 0) ∧ y = (a.toList == t.1.toList && (b.toList == t.2.toList)))) := by
  rcases three_of v s t u hv hs ht hu with ⟨d, hd0, d1, d2⟩ | ⟨d1, hV, pS, pT, pU, hn⟩
  · refine ⟨⟨#[]⟩, ⟨#[]⟩, d, false, d2, ?_, ?_, ?_, Or.inl ⟨hd0, rfl, rfl⟩⟩
    · unfold spec_MiddleOf.f
      refine Ev.bind d1 ?_
      simp only [if_neg hd0]
      exact Ev.now _
    · unfold impl_IsBetween.f
      refine Ev.bind d2 ?_
      simp only [if_neg hd0]
      exact Ev.now _
    · unfold spec_IsBetween.f
      refine Ev.bind d1 ?_
      simp only [if_neg hd0]
      exact Ev.now _
  · obtain ⟨r1, r2⟩ := mid_ev hV pS pT pU hn
    obtain ⟨n1, n2⟩ := same_false_sw (v := v) hn
    obtain ⟨w1, w2⟩ := mid_sw hV pS pT pU
    have r3 := (mid_ev hV pT pS pU n1).2
    have r4 := (mid_ev hV pU pT pS n2).2
    rw [w1] at r3
    rw [w2] at r4
    have good : (midR v s t u).2.2 = true → Good v (midR v s t u) := run_good ⟨hV.val, seq_pr hV.val hV.seq, hV.pre, hV.last⟩ hV.self 601 [] [] ⟨s, t, u⟩ (by simp) rfl (fun c hc => by cases hc) ⟨pS.val, pT.val, pU.val, pS.pt, pT.pt, pU.pt⟩
    generalize midR v s t u = m at *
    obtain ⟨a, b, ok⟩ := m
    cases ok with
    | false =>
      refine ⟨⟨#[]⟩, ⟨#[]⟩, 3, false, r2, ?_, ?_, ?_, Or.inl ⟨by omega, rfl, rfl⟩⟩
      · unfold spec_MiddleOf.f
        refine Ev.bind d1 ?_
        simp only [if_true]
        refine Ev.bind r1 ?_
        exact Ev.now _
      · unfold impl_IsBetween.f
        refine Ev.bind r2 ?_
        exact Ev.now _
      · unfold spec_IsBetween.f
        refine Ev.bind d1 ?_
        simp only [if_true]
        refine Ev.bind r1 ?_
        exact Ev.now _
    | true =>
      obtain ⟨g1, g2, g3⟩ := good rfl
      refine ⟨a, b, 0, (a.toList == t.1.toList && (b.toList == t.2.toList)), r2, ?_, ?_, ?_, Or.inr ⟨rfl, r3, r4, own_point (s := (a, b)) hV ⟨g1, g3, seq_of g1 g2⟩, rfl⟩⟩
      · unfold spec_MiddleOf.f
        refine Ev.bind d1 ?_
        simp only [if_true]
        refine Ev.bind r1 ?_
        exact Ev.now _
      · unfold impl_IsBetween.f
        refine Ev.bind r2 ?_
        exact Ev.now _
      · unfold spec_IsBetween.f
        refine Ev.bind d1 ?_
        simp only [if_true]
        refine Ev.bind r1 ?_
        exact Ev.now _
end Go.Proofs.Ytmhpbilkocnlnaa.Q
end
section
namespace Go.Proofs.Ytmhpbilkocnlnaa.Q
open Go.Proofs.YtmhpbilkocnlnaaW.Ext
open Go.RowKit Go.Proofs.YtmhpbilkocnlnaaW.PrintWords Go.Proofs.YtmhpbilkocnlnaaW.PrintLast Go.Proofs.YtmhpbilkocnlnaaW.PrintMore
attribute [local go_sem] max2_int min2_int max_two min_two max_three min_three max_four min_four   -- for this text's walks alone
set_option linter.unusedVariables false
set_option linter.unusedSimpArgs false
def spec_l06Orbit.l0:Nat → List (S25) → Int → ByteArray → ByteArray → ByteArray → ByteArray → Option ((List (S25)))
 | 0,_,_,_,_,_,_=>none
 | k + 1,x3,x5,x337000,x337001,x341000,x341001=>if x5 < (x337001.size:Int) then (if x3.length < 4398046511104 then ((spec_l01Shift.f x341000 x341001).bind fun bt344=>(spec_l06Orbit.l0 k (x3 ++ [(⟨x341000,x341001⟩:S25)]) (wrap64 (x5 + 1)) x337000 x337001 bt344.1 bt344.2)) else (none)) else (some x3)
def spec_l06Orbit.f (k:Nat) (a0_0:ByteArray) (a0_1:ByteArray):Option ((List (S25))):=spec_l06Orbit.l0 k (([]:List (S25))) 0 a0_0 a0_1 a0_0 a0_1
theorem spec_l06Orbit.mono_l:∀ k,(∀ y0 y1 y2 y3 y4 y5,LeO (spec_l06Orbit.l0 k y0 y1 y2 y3 y4 y5) (spec_l06Orbit.l0 (k + 1) y0 y1 y2 y3 y4 y5))
 | 0=>fun _ _ _ _ _ _ r h=>by simp [spec_l06Orbit.l0] at h
 | k + 1=>by
  have ih0:=spec_l06Orbit.mono_l k
  ·intro y0 y1 y2 y3 y4 y5
   unfold spec_l06Orbit.l0
   repeat' first
   | (with_reducible exact ih0 _ _ _ _ _ _)
   | (with_reducible exact LeO.refl _)
   | (with_reducible exact LeO.none _)
   | (with_reducible refine LeO.ite ?_ ?_)
   | (with_reducible refine LeO.bind ?_ (fun _=>?_))
   | exact ih0 _ _ _ _ _ _
   | exact LeO.none _
   | refine LeO.ite ?_ ?_
   | refine LeO.bind ?_ (fun _=>?_)
theorem spec_l06Orbit.mono:∀ a0 a1 k,LeO (spec_l06Orbit.f k a0 a1) (spec_l06Orbit.f (k + 1) a0 a1):=by
 intro a0 a1 k
 have ih0:=spec_l06Orbit.mono_l k
 unfold spec_l06Orbit.f
 repeat' first
   | (with_reducible exact ih0 _ _ _ _ _ _)
   | (with_reducible exact LeO.refl _)
   | (with_reducible exact LeO.none _)
   | (with_reducible refine LeO.ite ?_ ?_)
   | (with_reducible refine LeO.bind ?_ (fun _=>?_))
   | exact ih0 _ _ _ _ _ _
   | exact LeO.none _
   | refine LeO.ite ?_ ?_
   | refine LeO.bind ?_ (fun _=>?_)
set_option maxHeartbeats 8000000 in
set_option maxRecDepth 100000 in
theorem spec_l06Orbit.calls (k:Nat) (a0_0:ByteArray) (a0_1:ByteArray) (r:List (S25)) (w:World) (h:spec_l06Orbit.f k a0_0 a0_1 = some r) :
  Calls Try.prog 29 #[.agg #[.string a0_0,.string a0_1]] w fun e w'=>∃ v0_:Value,e = .returned (v0_) ∧ Kd.R k25 25 w' w.heap.size (fun _=>True) v0_ r ∧ Below w.heap.size w w':=by
 have hu25:=Try.underlying25
 have HB:=aM (Below.refl w.heap.size w)
 have H:(spec_l06Orbit.l0 k (([]:List (S25))) 0 a0_0 a0_1 a0_0 a0_1) = some r:=h
 clear h
 obtain ⟨y337,hy337⟩:∃ y_:List (S25),y_ = (([]:List (S25))):=⟨_,rfl⟩
 replace H:(spec_l06Orbit.l0 k y337 0 a0_0 a0_1 a0_0 a0_1) = some r:=by first|(rw [hy337];with_reducible exact H)|(have H2_:=(Option.bind_some _ _).symm.trans H;rw [hy337];with_reducible exact H2_)|(have H2_:=(Option.bind_some _ _).symm.trans H;with_reducible exact H2_)|with_reducible exact H|(rw [hy337];exact H)|exact H
 have Ny337:=aM hy337
 clear hy337
 have H':=aM H
 clear H
 go_enter Try.func29,Try.ntmps29
 try go_wp2_with (first|((with_reducible refine gate_dst (N:=1) rfl ?_);refine box_event rfl (N:=1) rfl (cs:=#[.string a0_0,.string a0_1]) (t:=25) (by first|(go_simp;done)|(go_simp;rfl)) ?_;intro gb336 hg w2 hbox hb;have BK336:=aM (hbox);have GW336:=wl hg HB;have GE336:=wl hg HB;replace HB:=bs HB hb;clear hb hbox hg))
 replace BK336:=aM (yD BK336.out);replace HB:=aM (zD HB.out)
 refine start_ (n:=5) (S:=fun w'=>w'.cell? ⟨gb336,0,none⟩ = some (.string a0_0) ∧ w'.cell? ⟨gb336,1,none⟩ = some (.string a0_1)) (ds:=[]) #[fF,fF,fF,fF,fF] (by kernel_rfl) rfl rfl ⟨(blk_cell BK336.out 0).trans rfl,(blk_cell BK336.out 1).trans rfl⟩ (fun hHeld=>?_)
 generalize w2.drew = w3 at BK336 HB hHeld ⊢
 refine take_ (i:=1) (N:=some 7) (v:=?_) (a':=?_) #[fF,tT,fF,fF,fF] rfl rfl (by kernel_rfl) (fun _ _ _ h=>h) (Or.inl ⟨by rfl,?_⟩) hHeld ?_ ?_
 rotate_left
 ·rintro w' ⟨s0,s1⟩
  go_simp
  with_reducible rfl
 rotate_left
 ·simp only [Act.put,sI,sZ,sS,i64_w,i32_w]
  rfl
 refine join_ (σ:=Value × Nat) 2 #[true,true,true,false,false] (fun s_=>[(6,s_.1),(4,.pointer (some ⟨s_.2,0,none⟩))]) (fun s_ w'=>(w'.cell? ⟨gb336,0,none⟩ = some (.string a0_0) ∧ w'.cell? ⟨gb336,1,none⟩ = some (.string a0_1)) ∧ (Kd.R k25 25 w' w.heap.size (fun k_=>k_ ≠ gb336 ∧ k_ ≠ s_.2) s_.1 y337) ∧ (w'.heap[gb336]? = some (.cells #[.string a0_0,.string a0_1] 25 (0,0))) ∧ (w'.heap[s_.2]? = some (.cells #[.string ⟨#[]⟩,.string ⟨#[]⟩] 25 (0,0))) ∧ (w.heap.size ≤ s_.2) ∧ (w.heap.size ≤ s_.2) ∧ (gb336 ≠ s_.2) ∧ (s_.2 ≠ gb336) ∧ (Below w.heap.size w w')) ?_ ?_
 rotate_left
 ·intro hCont
  refine two_ (i:=0) (j:=2) (Ni:=some 6) (Nj:=some 4) #[true,true,false,false,false] #[false,true,true,false,false] rfl rfl rfl rfl (by kernel_rfl) (by decide) (by decide) (fun K hK=>?_) (fun K hK=>?_)
  ·skip
   refine Kd.R_lit_step k25 _ 25 ?hg (N:=6) ?hd (xs:=([]:List (S25))) (inner:=[]) (ok:=fun _=>True) (okp:=fun _=>True) ?hr ?hp (fun _ hk=>hk) trivial (Below.refl _ _) (Nat.le_refl _) (by simp) ?_;(case hd=>rfl);(case hg=>rfl);(case hr=>first|(go_simp;done)|(go_simp;rfl));(case hp=>exact (Reps.none _ _))
   intro v338 w4 ho5 hb hg_ hnew_
   clear hg_ hnew_
   (first|rw [← Ny337.out] at ho5|(simp only [Int.reduceToNat] at ho5;rw [← Ny337.out] at ho5))
   have HO339:=aM (Kd.R_lower (Kd.R_newB ho5 (g:=gb336) (o:=.cells #[.string a0_0,.string a0_1] 25 (0,0)) (bk BK336)) (below_size (bb HB)));replace BK336:=kb BK336 hb;replace HB:=bs HB hb
   clear hb ho5
   refine hK.out _ _ ⟨(blk_cell BK336.out 0).trans rfl,(blk_cell BK336.out 1).trans rfl⟩ (fun hHeld=>?_)
   clear hK K
   refine norm_ (a':=?_) ?_ ?_
   rotate_left
   ·show Act.put _ (some 6) _ = _
    simp only [Act.put,sI,sZ,sS,i64_w,i32_w]
    rfl
   refine one_ (i:=2) (N:=some 4) #[tT,tT,tT,fF,fF] rfl rfl (by kernel_rfl) (by decide) (fun K hK=>?_)
   refine box_step ?hg (N:=4) ?hd (cs:=#[.string ⟨#[]⟩,.string ⟨#[]⟩]) (t:=25) ?hr ?_;(case hd=>rfl);(case hg=>rfl);(case hr=>first|(go_simp;done)|(go_simp;rfl))
   intro gb340 hg w6 hbox hb
   have BK340:=aM (hbox);have GW340:=wl hg HB;have GE340:=wl hg HB;have NB336_340:=nl hg BK336;have NB340_336:=nr hg BK336;replace HO339:=aM (Kd.R_below (Kd.R_elderB (rk HO339) gb340 (Nat.le_of_eq hg.symm)) hb);replace BK336:=kb BK336 hb;replace HB:=bs HB hb
   clear hb hbox hg
   refine hK.out _ _ ⟨(blk_cell BK336.out 0).trans rfl,(blk_cell BK336.out 1).trans rfl⟩ (fun hHeld=>?_)
   clear hK K
   refine norm_ (a':=?_) ?_ ?_
   rotate_left
   ·show Act.put _ (some 4) _ = _
    simp only [Act.put,sI,sZ,sS,i64_w,i32_w]
    rfl
   exact norm_ (by simp only [putAll,Act.put,sI,sZ,sS]) (hCont (v338,gb340) _ ⟨hHeld,(by (with_reducible repeat (first|apply rA|apply rN|apply rD));exact Kd.R_mono HO339.out (fun _ hk=>⟨hk.1.2,hk.2⟩)),(bk BK336),(bk BK340),GW340.out,GE340.out,NB336_340.out,NB340_336.out,(bb HB)⟩)
  ·skip
   refine box_step ?hg (N:=4) ?hd (cs:=#[.string ⟨#[]⟩,.string ⟨#[]⟩]) (t:=25) ?hr ?_;(case hd=>rfl);(case hg=>rfl);(case hr=>first|(go_simp;done)|(go_simp;rfl))
   intro gb340 hg w4 hbox hb
   have BK340:=aM (hbox);have GW340:=wl hg HB;have GE340:=wl hg HB;have NB336_340:=nl hg BK336;have NB340_336:=nr hg BK336;replace BK336:=kb BK336 hb;replace HB:=bs HB hb
   clear hb hbox hg
   refine hK.out _ _ ⟨(blk_cell BK336.out 0).trans rfl,(blk_cell BK336.out 1).trans rfl⟩ (fun hHeld=>?_)
   clear hK K
   refine norm_ (a':=?_) ?_ ?_
   rotate_left
   ·show Act.put _ (some 4) _ = _
    simp only [Act.put,sI,sZ,sS,i64_w,i32_w]
    rfl
   refine one_ (i:=0) (N:=some 6) #[tT,tT,tT,fF,fF] rfl rfl (by kernel_rfl) (by decide) (fun K hK=>?_)
   refine Kd.R_lit_step k25 _ 25 ?hg (N:=6) ?hd (xs:=([]:List (S25))) (inner:=[]) (ok:=fun _=>True) (okp:=fun _=>True) ?hr ?hp (fun _ hk=>hk) trivial (Below.refl _ _) (Nat.le_refl _) (by simp) ?_;(case hd=>rfl);(case hg=>rfl);(case hr=>first|(go_simp;done)|(go_simp;rfl));(case hp=>exact (Reps.none _ _))
   intro v338 w5 ho6 hb hg_ hnew_
   clear hg_ hnew_
   (first|rw [← Ny337.out] at ho6|(simp only [Int.reduceToNat] at ho6;rw [← Ny337.out] at ho6))
   have HO339:=aM (Kd.R_lower (Kd.R_newB (Kd.R_newB ho6 (g:=gb336) (o:=.cells #[.string a0_0,.string a0_1] 25 (0,0)) (bk BK336)) (g:=gb340) (o:=.cells #[.string ⟨#[]⟩,.string ⟨#[]⟩] 25 (0,0)) (bk BK340)) (below_size (bb HB)));replace BK336:=kb BK336 hb;replace BK340:=kb BK340 hb;replace HB:=bs HB hb
   clear hb ho6
   refine hK.out _ _ ⟨(blk_cell BK336.out 0).trans rfl,(blk_cell BK336.out 1).trans rfl⟩ (fun hHeld=>?_)
   clear hK K
   refine norm_ (a':=?_) ?_ ?_
   rotate_left
   ·show Act.put _ (some 6) _ = _
    simp only [Act.put,sI,sZ,sS,i64_w,i32_w]
    rfl
   exact norm_ (by simp only [putAll,Act.put,sI,sZ,sS]) (hCont (v338,gb340) _ ⟨hHeld,(by (with_reducible repeat (first|apply rA|apply rN|apply rD));exact Kd.R_mono HO339.out (fun _ hk=>⟨hk.1.2,hk.2⟩)),(bk BK336),(bk BK340),GW340.out,GE340.out,NB336_340.out,NB340_336.out,(bb HB)⟩)
 rintro ⟨v338,gb340⟩ w7 ⟨hS_,h0_,h1_,h2_,h3_,h4_,h5_,h6_,h7_⟩
 have HO339:=aM h0_;have BK340:=aM h2_;have GW340:=aM h3_;have GE340:=aM h4_;have NB336_340:=aM h5_;have NB340_336:=aM h6_;replace BK336:=aM h1_;replace HB:=aM h7_
 clear h0_ h1_ h2_ h3_ h4_ h5_ h6_ h7_
 have hHeld:w7.cell? ⟨gb336,0,none⟩ = some (.string a0_0) ∧ w7.cell? ⟨gb336,1,none⟩ = some (.string a0_1):=hS_
 refine norm_ (a':=?_) ?_ ?_
 rotate_left
 ·simp only [putAll,Act.put,sI,sZ,sS]
  rfl
 refine pure_ (i:=3) (N:=some 3) (v:=?_) (a':=?_) #[tT,tT,tT,tT,fF] rfl rfl (by kernel_rfl) (fun _ _ _ h=>h) (Or.inl ⟨by rfl,?_⟩) ?_ ?_
 rotate_left
 ·intro w'
  go_simp
  with_reducible rfl
 rotate_left
 ·simp only [Act.put,sI,sZ,sS,i64_w,i32_w]
  rfl
 refine one_ (i:=4) (N:=none) #[tT,tT,tT,tT,tT] rfl rfl (by kernel_rfl) (by decide) (fun K hK=>?_)
 have hs8:w7.cell? ⟨gb340,0,none⟩ = some (.string ⟨#[]⟩):=(blk_cell BK340.out 0).trans rfl
 have hfs8:=blk_frozen BK340.out 0
 have hns8_0:=NB336_340.out
 have hms8_0:=NB340_336.out
 have hs9:w7.cell? ⟨gb340,1,none⟩ = some (.string ⟨#[]⟩):=(blk_cell BK340.out 1).trans rfl
 have hfs9:=blk_frozen BK340.out 1
 have hns9_0:=NB336_340.out
 have hms9_0:=NB340_336.out
 refine skip_ (w1:=?_) (by rfl) rfl ?_ ?_
 rotate_left
 ·go_simp
  rfl
 refine hK.out _ _ ⟨((cell_far (p:=⟨gb340,_,none⟩) NB336_340.out _).trans (((cell_far (p:=⟨gb340,_,none⟩) NB336_340.out _).trans (hHeld.1)))),((cell_far (p:=⟨gb340,_,none⟩) NB336_340.out _).trans (((cell_far (p:=⟨gb340,_,none⟩) NB336_340.out _).trans (hHeld.2))))⟩ (fun hHeld=>?_)
 clear hK K
 refine done_ (by kernel_rfl) ?_
 try go_wp2
 go_loopg [3,5] k (fun kq v3 v5 w'=>∃ (x3_1:List (S25)) (x5_1:Int) (x341000_1:ByteArray) (x341001_1:ByteArray),v5 = .int .i64 x5_1 ∧ Aside0 (spec_l06Orbit.l0 kq x3_1 x5_1 a0_0 a0_1 x341000_1 x341001_1 = some r) ∧ Aside0 (kq ≤ k) ∧ Aside0 (Kd.R k25 25 w' w.heap.size (fun k_=>k_ ≠ gb336 ∧ k_ ≠ gb340) v3 x3_1) ∧ Aside0 (w'.heap[gb336]? = some (.cells #[.string a0_0,.string a0_1] 25 (0,0))) ∧ Aside0 (w'.heap[gb340]? = some (.cells #[.string x341000_1,.string x341001_1] 25 (0,0))) ∧ Aside0 (Below w.heap.size w w'))
 case atStart=>exact ⟨(y337),(0),(a0_0),(a0_1),(by first|rfl|(simp;done)|(simp [*];done)),H',⟨Nat.le_refl _⟩,⟨by (with_reducible repeat (first|apply rA|apply rN|apply rD));exact Kd.R_mono (Kd.R_far (p:=⟨gb340,1,none⟩) (Kd.R_far (p:=⟨gb340,0,none⟩) (Kd.R_mono HO339.out (fun k_ hk=>(⟨hk,hk.2⟩:_ ∧ k_ ≠ gb340))) (fun _ hk=>hk.2) (.string a0_0)) (fun _ hk=>hk.2) (.string a0_1)) (fun _ hk=>⟨hk.1.1,hk.1.2⟩)⟩,⟨bf BK336 NB336_340⟩,⟨by (with_reducible repeat (first|apply yN|apply yD|apply yA));refine blk_put (cs:=#[.string a0_0,.string ⟨#[]⟩]) ?_ 1 _ rfl;(with_reducible repeat (first|apply yN|apply yD|apply yA));refine blk_put (cs:=#[.string ⟨#[]⟩,.string ⟨#[]⟩]) ?_ 0 _ rfl;(with_reducible repeat (first|apply yN|apply yD|apply yA));exact BK340.out⟩,⟨by first|exact bb HB|exact bg HB GE336|exact bg HB GE340⟩⟩
 case round =>
  clear H'
  try clear c2
  try clear p2
  obtain ⟨x3_1,x5_1,x341000_1,x341001_1,rfl,HA,HK1,HO_3,BK336,BK340,HB⟩:=hrel
  cases gk with
  | zero=>exact absurd HA.out (by simp [spec_l06Orbit.l0])
  | succ k1 =>
   have H:=HA.out
   clear HA
   simp only [spec_l06Orbit.l0] at H
   by_cases c10:x5_1 < (a0_1.size:Int)
   ·rw [if_pos c10] at H
    have c10b0:decide (x5_1 < (a0_1.size:Int)) = true:=decide_eq_true c10
    clear c10
    by_cases c11:x3_1.length < 4398046511104
    ·rw [if_pos c11] at H
     have LMc11:=aM c11
     clear c11
     obtain ⟨y341,hy341⟩:∃ y_:List (S25),y_ = (x3_1 ++ [(⟨x341000_1,x341001_1⟩:S25)]):=⟨_,rfl⟩
     replace H:((spec_l01Shift.f x341000_1 x341001_1).bind fun bt344=>(spec_l06Orbit.l0 k1 y341 (wrap64 (x5_1 + 1)) a0_0 a0_1 bt344.1 bt344.2)) = some r:=by first|(rw [hy341];with_reducible exact H)|(have H2_:=(Option.bind_some _ _).symm.trans H;rw [hy341];with_reducible exact H2_)|(have H2_:=(Option.bind_some _ _).symm.trans H;with_reducible exact H2_)|with_reducible exact H|(rw [hy341];exact H)|exact H
     have Ny341:=aM hy341
     clear hy341
     replace H:=Option.bind_eq_some_iff.mp H
     obtain ⟨⟨t344,t345⟩,A120,H⟩:=H
     replace H:(spec_l06Orbit.l0 k1 y341 (wrap64 (x5_1 + 1)) a0_0 a0_1 t344 t345) = some r:=H;have A12:=aM A120
     clear A120
     have H':=aM H
     clear H
     have hnb13:=NB336_340.out
     have hnc13:=NB340_336.out
     have⟨a0,a1,b0,b1⟩:=q2f BK336;have⟨a0,a1,b0,b1⟩:=q2f BK340
     go_wp2_with (first|((with_reducible refine gate_builtin (b:=.append) (xs:=#[.tmp 15,.tmp 17]) rfl ?_);at_builtin;refine Kd.R_append k25 (w0:=w) w.heap.size rfl (.tmp 15) (.tmp 17) 31 25 (.agg #[(.string ⟨#[]⟩),(.string ⟨#[]⟩)]) 32 rfl Try.underlying31 info25 rfl (by decide) (by omega) u3 x3_1 (⟨x341000_1,x341001_1⟩:S25) [.string x341000_1,.string x341001_1] (fun k_=>k_ ≠ gb336 ∧ k_ ≠ gb340) (fun _=>False) rfl rfl ?aP (fun _ hk=>hk.elim) ?aF ?aO ?aB ?aS ?aL ?_;(case aP=>exact k25_mkM _ _ _ (⟨x341000_1,x341001_1⟩:S25));(case aB=>exact (bb HB));(case aF=>exact (fun k_ hk=>⟨Kd.freshB (g:=gb336) (o:=.cells #[.string a0_0,.string a0_1] 25 (0,0)) (bk BK336) k_ hk,Kd.freshB (g:=gb340) (o:=.cells #[.string x341000_1,.string x341001_1] 25 (0,0)) (bk BK340) k_ hk⟩));(case aO=>exact (rk HO_3));(case aS=>exact (below_size (bb HB)));(case aL=>have:=LMc11.out;omega);intro v342 w16 ho hb hg hat;rw [← Ny341.out] at ho;have n0_:=aM (blk_grown (g:=gb336) (o:=.cells #[.string a0_0,.string a0_1] 25 (0,0)) (bk BK336) hg (Kd.R_away HO_3.out (fun _ hk=>hk.1)));have n1_:=aM (blk_grown (g:=gb340) (o:=.cells #[.string x341000_1,.string x341001_1] 25 (0,0)) (bk BK340) hg (Kd.R_away HO_3.out (fun _ hk=>hk.2)));have n2_:=aM (hb);have n3_:=aM (ho);clear BK336;clear BK340;clear HB;clear HO_3;have BK336:=n0_;have BK340:=n1_;have HB:=n2_;have HO343:=n3_;clear n0_ n1_ n2_ n3_;clear ho hb hg hat;have⟨a0,a1,b0,b1⟩:=q2f BK340)|((with_reducible refine gate_callee (f:=48) rfl ?_);refine goesL_ (some 20) rfl rfl Try.func48 (by kernel_rfl) rfl #[.agg #[.string x341000_1,.string x341001_1]] rfl (by (try simp only [sM,sC,sN]);first|done|rfl) ?_;(with_reducible refine (spec_l01Shift.calls x341000_1 x341001_1 t344 t345 _ A12.out).mono ?_);rintro e w18 ⟨rfl,hb⟩;refine ⟨_,rfl,?_⟩;replace HO343:=ko HO343 hb;replace BK336:=kb BK336 hb;replace BK340:=kb BK340 hb;replace HB:=bs HB hb;(try clear hb);have⟨a0,a1,b0,b1⟩:=q2f BK340))
     go_roundg k1
     case measure=>have:=HK1.out;omega
     case rel=>exact ⟨(y341),(wrap64 (x5_1 + 1)),(t344),(t345),(by first|rfl|(simp;done)|(simp [*];done)),H',⟨by have:=HK1.out;omega⟩,⟨by (with_reducible repeat (first|apply rA|apply rN|apply rD));exact Kd.R_mono (Kd.R_far (p:=⟨gb340,1,none⟩) (Kd.R_far (p:=⟨gb340,0,none⟩) (Kd.R_mono HO343.out (fun k_ hk=>(⟨hk,hk.2⟩:_ ∧ k_ ≠ gb340))) (fun _ hk=>hk.2) (.string t344)) (fun _ hk=>hk.2) (.string t345)) (fun _ hk=>⟨hk.1.1,hk.1.2⟩)⟩,⟨bf BK336 NB336_340⟩,⟨by (with_reducible repeat (first|apply yN|apply yD|apply yA));refine blk_put (cs:=#[.string t344,.string x341001_1]) ?_ 1 _ rfl;(with_reducible repeat (first|apply yN|apply yD|apply yA));refine blk_put (cs:=#[.string x341000_1,.string x341001_1]) ?_ 0 _ rfl;(with_reducible repeat (first|apply yN|apply yD|apply yA));exact BK340.out⟩,⟨by first|exact bb HB|exact bg HB GE336|exact bg HB GE340⟩⟩
    ·rw [if_neg c11] at H
     exact absurd H (by simp)
   ·rw [if_neg c10] at H
    have c10b0:decide (x5_1 < (a0_1.size:Int)) = false:=decide_eq_false c10
    clear c10
    obtain rfl:=Option.some.inj H
    have hnb20:=NB336_340.out
    have hnc20:=NB340_336.out
    have⟨a0,a1,b0,b1⟩:=q2f BK336
    go_wp2
    go_ret
    exact ⟨_,by first|rfl|(simp [errW_none,errW_some] <;> rfl)|(simp [*,errW_none,errW_some] <;> rfl),by (with_reducible repeat (first|apply rA|apply rN|apply rD));exact Kd.R_mono HO_3.out (fun _ hk=>trivial),bb HB⟩
def spec_OrbitPoints.f (k:Nat) (a0_0:ByteArray) (a0_1:ByteArray):Option ((List (S25)) × Int):=(spec_l06Code.f k a0_0 a0_1 ([]:List (S25))).bind fun t483=>(if t483 = 0 then ((spec_l06Orbit.f k a0_0 a0_1).bind fun t484=>(some (t484,0))) else (some (([]:List (S25)),t483)))
theorem spec_OrbitPoints.mono:∀ a0 a1 k,LeO (spec_OrbitPoints.f k a0 a1) (spec_OrbitPoints.f (k + 1) a0 a1):=by
 intro a0 a1 k
 unfold spec_OrbitPoints.f
 repeat' first
   | (with_reducible exact spec_l06Code.mono _ _ _ _)
   | (with_reducible exact spec_l06Orbit.mono _ _ _)
   | (with_reducible exact LeO.refl _)
   | (with_reducible exact LeO.none _)
   | (with_reducible refine LeO.ite ?_ ?_)
   | (with_reducible refine LeO.bind ?_ (fun _=>?_))
   | exact spec_l06Code.mono _ _ _ _
   | exact spec_l06Orbit.mono _ _ _
   | exact LeO.none _
   | refine LeO.ite ?_ ?_
   | refine LeO.bind ?_ (fun _=>?_)
set_option maxHeartbeats 8000000 in
set_option maxRecDepth 100000 in
theorem spec_OrbitPoints.calls (k:Nat) (a0_0:ByteArray) (a0_1:ByteArray) (r1:List (S25)) (r2:Int) (w:World) (h:spec_OrbitPoints.f k a0_0 a0_1 = some (r1,r2)) :
  Calls Try.prog 10 #[.agg #[.string a0_0,.string a0_1]] w fun e w'=>∃ v0_:Value,e = .returned (.tuple #[v0_,.int .i64 r2]) ∧ Kd.R k25 25 w' w.heap.size (fun _=>True) v0_ r1 ∧ Below w.heap.size w w':=by
 have hu25:=Try.underlying25
 have HB:=aM (Below.refl w.heap.size w)
 have H:((spec_l06Code.f k a0_0 a0_1 ([]:List (S25))).bind fun t483=>(if t483 = 0 then ((spec_l06Orbit.f k a0_0 a0_1).bind fun t484=>(some (t484,0))) else (some (([]:List (S25)),t483)))) = some (r1,r2):=h
 clear h
 replace H:=Option.bind_eq_some_iff.mp H
 obtain ⟨t483,A20,H⟩:=H
 replace H:(if t483 = 0 then ((spec_l06Orbit.f k a0_0 a0_1).bind fun t484=>(some (t484,0))) else (some (([]:List (S25)),t483))) = some (r1,r2):=H;have A2:=aM A20
 clear A20
 by_cases c3:t483 = 0
 ·rw [if_pos c3] at H
  have c3b0:(t483 == 0) = true:=beq_iff_eq.mpr c3
  have c3b1:(t483 != 0) = false:=bne_eq_false_iff_eq.mpr c3
  clear c3
  replace H:=Option.bind_eq_some_iff.mp H
  obtain ⟨t484,A40,H⟩:=H
  replace H:(some (t484,0)) = some (r1,r2):=H;have A4:=aM A40
  clear A40
  simp only [Option.some.injEq,Prod.mk.injEq] at H
  obtain ⟨rfl,rfl⟩:=H
  go_enter Try.func10,Try.ntmps10
  go_wp2_with (first|((with_reducible refine gate_dst (N:=1) rfl ?_);refine box_event rfl (N:=1) rfl (cs:=#[.string a0_0,.string a0_1]) (t:=25) (by first|(go_simp;done)|(go_simp;rfl)) ?_;intro gb482 hg w5 hbox hb;have BK482:=aM (hbox);have GW482:=wl hg HB;have GE482:=wl hg HB;replace HB:=bs HB hb;clear hb hbox hg;have⟨a0,a1,b0,b1⟩:=q2f BK482)|((with_reducible refine gate_callee (f:=28) rfl ?_);refine goesL_ (some 6) rfl rfl Try.func28 (by kernel_rfl) rfl #[.agg #[.string a0_0,.string a0_1],.slice none 0 0] rfl (by (try simp only [sM,sC,sN]);first|done|rfl) ?_;(refine (spec_l06Code.calls k a0_0 a0_1 _ _ ([]:List (S25)) t483 _ ?side1 ?side2 A2.out).mono ?_);(case side1=>exact Kd.C_nil _ _);(case side2=>exact Nat.le_refl _);rintro e w7 ⟨rfl,hb⟩;refine ⟨_,rfl,?_⟩;replace BK482:=kb BK482 hb;replace HB:=bs HB hb;(try clear hb);have⟨a0,a1,b0,b1⟩:=q2f BK482)|((with_reducible refine gate_callee (f:=29) rfl ?_);refine goesL_ (some 11) rfl rfl Try.func29 (by kernel_rfl) rfl #[.agg #[.string a0_0,.string a0_1]] rfl (by (try simp only [sM,sC,sN]);first|done|rfl) ?_;(with_reducible refine (spec_l06Orbit.calls k a0_0 a0_1 t484 _ A4.out).mono ?_);rintro e w9 ⟨v485,rfl,ho0,hb⟩;refine ⟨_,rfl,?_⟩;have HO486:=aM (Kd.R_lower (Kd.R_newB ho0 (g:=gb482) (o:=.cells #[.string a0_0,.string a0_1] 25 (0,0)) (bk BK482)) (below_size (bb HB)));replace BK482:=kb BK482 hb;replace HB:=bs HB hb;(try clear hb);(try clear ho0)))
  go_ret2
  exact ⟨_,by first|rfl|(simp [errW_none,errW_some] <;> rfl)|(simp [*,errW_none,errW_some] <;> rfl),by (with_reducible repeat (first|apply rA|apply rN|apply rD));exact Kd.R_mono HO486.out (fun _ hk=>trivial),bb HB⟩
 ·rw [if_neg c3] at H
  have c3b0:(t483 == 0) = false:=beq_eq_false_iff_ne.mpr c3
  have c3b1:(t483 != 0) = true:=bne_iff_ne.mpr c3
  simp only [Option.some.injEq,Prod.mk.injEq] at H
  obtain ⟨rfl,rfl⟩:=H
  go_enter Try.func10,Try.ntmps10
  go_wp2_with (first|((with_reducible refine gate_dst (N:=1) rfl ?_);refine box_event rfl (N:=1) rfl (cs:=#[.string a0_0,.string a0_1]) (t:=25) (by first|(go_simp;done)|(go_simp;rfl)) ?_;intro gb482 hg w10 hbox hb;have BK482:=aM (hbox);have GW482:=wl hg HB;have GE482:=wl hg HB;replace HB:=bs HB hb;clear hb hbox hg;have⟨a0,a1,b0,b1⟩:=q2f BK482)|((with_reducible refine gate_callee (f:=28) rfl ?_);refine goesL_ (some 6) rfl rfl Try.func28 (by kernel_rfl) rfl #[.agg #[.string a0_0,.string a0_1],.slice none 0 0] rfl (by (try simp only [sM,sC,sN]);first|done|rfl) ?_;(refine (spec_l06Code.calls k a0_0 a0_1 _ _ ([]:List (S25)) t483 _ ?side1 ?side2 A2.out).mono ?_);(case side1=>exact Kd.C_nil _ _);(case side2=>exact Nat.le_refl _);rintro e w12 ⟨rfl,hb⟩;refine ⟨_,rfl,?_⟩;replace BK482:=kb BK482 hb;replace HB:=bs HB hb;(try clear hb)))
  go_ret2
  exact ⟨_,by first|rfl|(simp [errW_none,errW_some] <;> rfl)|(simp [*,errW_none,errW_some] <;> rfl),by first|exact Kd.R_nil _ _ _ _ _|exact Kd.N_nil _ _ _ _ _|exact Kd.V_nil _ _ _ _ _|exact Kd.Q_nil _ _ _ _ _|exact Kd.S_nil _ _ _ _ _,bb HB⟩
def impl_Sequence_orbitPoints.l0:Nat → List (S25) → ByteArray → ByteArray → ByteArray → ByteArray → Option ((List (S25)))
 | 0,_,_,_,_,_=>none
 | k + 1,x3,x463000,x463001,x464000,x464001=>if (x3.length:Int) < (x463001.size:Int) then (if x3.length < 4398046511104 then ((impl_Sequence_shift.f x464000 x464001).bind fun bt468=>(impl_Sequence_orbitPoints.l0 k (x3 ++ [(⟨x464000,x464001⟩:S25)]) x463000 x463001 bt468.1 bt468.2)) else (none)) else (some x3)
def impl_Sequence_orbitPoints.f (k:Nat) (a0_0:ByteArray) (a0_1:ByteArray):Option ((List (S25))):=impl_Sequence_orbitPoints.l0 k ([]:List (S25)) a0_0 a0_1 a0_0 a0_1
theorem impl_Sequence_orbitPoints.mono_l:∀ k,(∀ y0 y1 y2 y3 y4,LeO (impl_Sequence_orbitPoints.l0 k y0 y1 y2 y3 y4) (impl_Sequence_orbitPoints.l0 (k + 1) y0 y1 y2 y3 y4))
 | 0=>fun _ _ _ _ _ r h=>by simp [impl_Sequence_orbitPoints.l0] at h
 | k + 1=>by
  have ih0:=impl_Sequence_orbitPoints.mono_l k
  ·intro y0 y1 y2 y3 y4
   unfold impl_Sequence_orbitPoints.l0
   repeat' first
   | (with_reducible exact ih0 _ _ _ _ _)
   | (with_reducible exact LeO.refl _)
   | (with_reducible exact LeO.none _)
   | (with_reducible refine LeO.ite ?_ ?_)
   | (with_reducible refine LeO.bind ?_ (fun _=>?_))
   | exact ih0 _ _ _ _ _
   | exact LeO.none _
   | refine LeO.ite ?_ ?_
   | refine LeO.bind ?_ (fun _=>?_)
theorem impl_Sequence_orbitPoints.mono:∀ a0 a1 k,LeO (impl_Sequence_orbitPoints.f k a0 a1) (impl_Sequence_orbitPoints.f (k + 1) a0 a1):=by
 intro a0 a1 k
 have ih0:=impl_Sequence_orbitPoints.mono_l k
 unfold impl_Sequence_orbitPoints.f
 repeat' first
   | (with_reducible exact ih0 _ _ _ _ _)
   | (with_reducible exact LeO.refl _)
   | (with_reducible exact LeO.none _)
   | (with_reducible refine LeO.ite ?_ ?_)
   | (with_reducible refine LeO.bind ?_ (fun _=>?_))
   | exact ih0 _ _ _ _ _
   | exact LeO.none _
   | refine LeO.ite ?_ ?_
   | refine LeO.bind ?_ (fun _=>?_)
set_option maxHeartbeats 8000000 in
set_option maxRecDepth 100000 in
theorem impl_Sequence_orbitPoints.calls (k:Nat) (a0_0:ByteArray) (a0_1:ByteArray) (r:List (S25)) (w:World) (h:impl_Sequence_orbitPoints.f k a0_0 a0_1 = some r) :
  Calls Try.prog 27 #[.agg #[.string a0_0,.string a0_1]] w fun e w'=>∃ v0_:Value,e = .returned (v0_) ∧ Kd.R k25 25 w' w.heap.size (fun _=>True) v0_ r ∧ Below w.heap.size w w':=by
 have hu25:=Try.underlying25
 have HB:=aM (Below.refl w.heap.size w)
 have H:(impl_Sequence_orbitPoints.l0 k ([]:List (S25)) a0_0 a0_1 a0_0 a0_1) = some r:=h
 clear h
 have H':=aM H
 clear H
 go_enter Try.func27,Try.ntmps27
 go_wp2_with (first|((with_reducible refine gate_dst (N:=1) rfl ?_);refine box_event rfl (N:=1) rfl (cs:=#[.string a0_0,.string a0_1]) (t:=25) (by first|(go_simp;done)|(go_simp;rfl)) ?_;intro gb462 hg w2 hbox hb;have BK462:=aM (hbox);have GW462:=wl hg HB;have GE462:=wl hg HB;replace HB:=bs HB hb;clear hb hbox hg;have⟨a0,a1,b0,b1⟩:=q2f BK462)|((with_reducible refine gate_dst (N:=4) rfl ?_);refine box_event rfl (N:=4) rfl (cs:=#[.string ⟨#[]⟩,.string ⟨#[]⟩]) (t:=25) (by first|(go_simp;done)|(go_simp;rfl)) ?_;intro gb463 hg w4 hbox hb;have BK463:=aM (hbox);have GW463:=wl hg HB;have GE463:=wl hg HB;have NB462_463:=nl hg BK462;have NB463_462:=nr hg BK462;replace BK462:=kb BK462 hb;replace HB:=bs HB hb;clear hb hbox hg;have hnb5:=NB463_462.out;have hnc5:=NB462_463.out;have⟨a0,a1,b0,b1⟩:=q2f BK463))
 go_loopg [3,4] k (fun kq v3 v4 w'=>∃ (x3_1:List (S25)) (x464000_1:ByteArray) (x464001_1:ByteArray) (gb463:Nat),v4 = .pointer (some ⟨gb463,0,none⟩) ∧ Aside0 (impl_Sequence_orbitPoints.l0 kq x3_1 a0_0 a0_1 x464000_1 x464001_1 = some r) ∧ Aside0 (kq ≤ k) ∧ Aside0 (Kd.R k25 25 w' w.heap.size (fun k_=>k_ ≠ gb462 ∧ k_ ≠ gb463) v3 x3_1) ∧ Aside0 (w'.heap[gb462]? = some (.cells #[.string a0_0,.string a0_1] 25 (0,0))) ∧ Aside0 (w'.heap[gb463]? = some (.cells #[.string x464000_1,.string x464001_1] 25 (0,0))) ∧ Aside0 (w.heap.size ≤ gb463) ∧ Aside0 (w.heap.size ≤ gb463) ∧ Aside0 (gb463 ≠ gb462) ∧ Aside0 (gb462 ≠ gb463) ∧ Aside0 (Below w.heap.size w w'))
 case atStart=>exact ⟨(([]:List (S25))),(a0_0),(a0_1),gb463,(by first|rfl|(simp;done)),H',⟨Nat.le_refl _⟩,⟨by first|exact Kd.R_nil _ _ _ _ _|exact Kd.N_nil _ _ _ _ _|exact Kd.V_nil _ _ _ _ _|exact Kd.Q_nil _ _ _ _ _|exact Kd.S_nil _ _ _ _ _⟩,⟨bf BK462 NB462_463⟩,⟨by (with_reducible repeat (first|apply yN|apply yD|apply yA));refine blk_put (cs:=#[.string a0_0,.string ⟨#[]⟩]) ?_ 1 _ rfl;(with_reducible repeat (first|apply yN|apply yD|apply yA));refine blk_put (cs:=#[.string ⟨#[]⟩,.string ⟨#[]⟩]) ?_ 0 _ rfl;(with_reducible repeat (first|apply yN|apply yD|apply yA));exact BK463.out⟩,⟨GW463.out⟩,⟨GE463.out⟩,⟨NB463_462.out⟩,⟨NB462_463.out⟩,⟨by first|exact bb HB|exact bg HB GE462|exact bg HB GE463⟩⟩
 case round =>
  clear H'
  try clear c2
  try clear p2
  try clear c5
  try clear hcz3_0
  try clear hcz3_1
  try clear hcz6_0
  try clear hcz6_1
  try clear hfz3_0
  try clear hfz3_1
  try clear hfz6_0
  try clear hfz6_1
  obtain ⟨x3_1,x464000_1,x464001_1,gb463,rfl,HA,HK1,HO_3,BK462,BK463,GW463,GE463,NB463_462,NB462_463,HB⟩:=hrel
  cases gk with
  | zero=>exact absurd HA.out (by simp [impl_Sequence_orbitPoints.l0])
  | succ k1 =>
   have H:=HA.out
   clear HA
   simp only [impl_Sequence_orbitPoints.l0] at H
   by_cases c7:(x3_1.length:Int) < (a0_1.size:Int)
   ·rw [if_pos c7] at H
    have c7b0:decide ((x3_1.length:Int) < (a0_1.size:Int)) = true:=decide_eq_true c7
    have c7b1:decide (x3_1.length < a0_1.size) = true:=decide_eq_true (Int.ofNat_lt.mp c7)
    clear c7
    by_cases c8:x3_1.length < 4398046511104
    ·rw [if_pos c8] at H
     have LMc8:=aM c8
     clear c8
     obtain ⟨y464,hy464⟩:∃ y_:List (S25),y_ = (x3_1 ++ [(⟨x464000_1,x464001_1⟩:S25)]):=⟨_,rfl⟩
     replace H:((impl_Sequence_shift.f x464000_1 x464001_1).bind fun bt468=>(impl_Sequence_orbitPoints.l0 k1 y464 a0_0 a0_1 bt468.1 bt468.2)) = some r:=by first|(rw [hy464];with_reducible exact H)|(have H2_:=(Option.bind_some _ _).symm.trans H;rw [hy464];with_reducible exact H2_)|(have H2_:=(Option.bind_some _ _).symm.trans H;with_reducible exact H2_)|with_reducible exact H|(rw [hy464];exact H)|exact H
     have Ny464:=aM hy464
     clear hy464
     replace H:=Option.bind_eq_some_iff.mp H
     obtain ⟨⟨t468,t469⟩,A90,H⟩:=H
     replace H:(impl_Sequence_orbitPoints.l0 k1 y464 a0_0 a0_1 t468 t469) = some r:=H;have A9:=aM A90
     clear A90
     have H':=aM H
     clear H
     obtain ⟨Ao10,co10,eo10⟩:=Kd.R_slice HO_3.out
     subst eo10
     have hnb11:=NB462_463.out
     have hnc11:=NB463_462.out
     have⟨a0,a1,b0,b1⟩:=q2f BK462;have⟨a0,a1,b0,b1⟩:=q2f BK463
     go_wp2_with (first|((with_reducible refine gate_builtin (b:=.append) (xs:=#[.tmp 14,.tmp 16]) rfl ?_);at_builtin;refine Kd.R_append k25 (w0:=w) w.heap.size rfl (.tmp 14) (.tmp 16) 31 25 (.agg #[(.string ⟨#[]⟩),(.string ⟨#[]⟩)]) 32 rfl Try.underlying31 info25 rfl (by decide) (by omega) (.slice Ao10 x3_1.length co10) x3_1 (⟨x464000_1,x464001_1⟩:S25) [.string x464000_1,.string x464001_1] (fun k_=>k_ ≠ gb462 ∧ k_ ≠ gb463) (fun _=>False) rfl rfl ?aP (fun _ hk=>hk.elim) ?aF ?aO ?aB ?aS ?aL ?_;(case aP=>exact k25_mkM _ _ _ (⟨x464000_1,x464001_1⟩:S25));(case aB=>exact (by first|exact bb HB|exact bg HB GE462|exact bg HB GE463));(case aF=>exact (fun k_ hk=>⟨Kd.freshB (g:=gb462) (o:=.cells #[.string a0_0,.string a0_1] 25 (0,0)) (bk BK462) k_ hk,Kd.freshB (g:=gb463) (o:=.cells #[.string x464000_1,.string x464001_1] 25 (0,0)) (bk BK463) k_ hk⟩));(case aO=>exact (rk HO_3));(case aS=>exact (below_size (by first|exact bb HB|exact bg HB GE462|exact bg HB GE463)));(case aL=>have:=LMc8.out;omega);intro v465 w14 ho hb hg hat;rw [← Ny464.out] at ho;have n0_:=aM (blk_grown (g:=gb462) (o:=.cells #[.string a0_0,.string a0_1] 25 (0,0)) (bk BK462) hg (Kd.R_away HO_3.out (fun _ hk=>hk.1)));have n1_:=aM (blk_grown (g:=gb463) (o:=.cells #[.string x464000_1,.string x464001_1] 25 (0,0)) (bk BK463) hg (Kd.R_away HO_3.out (fun _ hk=>hk.2)));have n2_:=aM (hb);have n3_:=aM (ho);clear BK462;clear BK463;clear HB;clear HO_3;have BK462:=n0_;have BK463:=n1_;have HB:=n2_;have HO466:=n3_;clear n0_ n1_ n2_ n3_;clear ho hb hg hat;have⟨a0,a1,b0,b1⟩:=q2f BK463)|((with_reducible refine gate_dst (N:=4) rfl ?_);refine box_event rfl (N:=4) rfl (cs:=#[.string ⟨#[]⟩,.string ⟨#[]⟩]) (t:=25) (by first|(go_simp;done)|(go_simp;rfl)) ?_;intro gb467 hg w16 hbox hb;have BK467:=aM (hbox);have GW467:=aM ((by rw [hg];exact (below_size (by first|exact bb HB|exact bg HB GE462|exact bg HB GE463)):w.heap.size ≤ gb467));have GE467:=aM ((by rw [hg];exact (below_size (by first|exact bb HB|exact bg HB GE462|exact bg HB GE463)):w.heap.size ≤ gb467));have NB462_467:=nl hg BK462;have NB467_462:=nr hg BK462;have NB463_467:=nl hg BK463;have NB467_463:=nr hg BK463;replace HO466:=aM (Kd.R_below (Kd.R_elderB (rk HO466) gb467 (Nat.le_of_eq hg.symm)) hb);replace BK462:=kb BK462 hb;replace BK463:=kb BK463 hb;replace HB:=aM (below_step (by first|exact bb HB|exact bg HB GE462|exact bg HB GE463) hb);clear hb hbox hg;have hnb17:=NB467_462.out;have hnc17:=NB462_467.out;have hnb18:=NB467_463.out;have hnc18:=NB463_467.out;have⟨a0,a1,b0,b1⟩:=q2f BK467)|((with_reducible refine gate_callee (f:=45) rfl ?_);refine goesL_ (some 13) rfl rfl Try.func45 (by kernel_rfl) rfl #[.agg #[.string x464000_1,.string x464001_1]] rfl (by (try simp only [sM,sC,sN]);first|done|rfl) ?_;(with_reducible refine (impl_Sequence_shift.calls x464000_1 x464001_1 t468 t469 _ A9.out).mono ?_);rintro e w20 ⟨rfl,hb⟩;refine ⟨_,rfl,?_⟩;replace HO466:=aM (Kd.R_below (by (with_reducible repeat (first|apply rA|apply rN|apply rD));exact (Kd.R_mono (Kd.R_far (p:=⟨gb467,1,none⟩) (Kd.R_far (p:=⟨gb467,0,none⟩) (Kd.R_mono HO466.out (fun k_ hk=>(⟨hk,hk.2⟩:_ ∧ k_ ≠ gb467))) (fun _ hk=>hk.2) (.string x464000_1)) (fun _ hk=>hk.2) (.string x464001_1)) (fun _ h_=>h_.1))) hb);replace BK462:=kf BK462 NB462_467 hb;replace BK463:=kf BK463 NB463_467 hb;replace BK467:=aM (blk_below (g:=gb467) (o:=.cells #[.string x464000_1,.string x464001_1] 25 (0,0)) (by (with_reducible repeat (first|apply yN|apply yD|apply yA));refine blk_put (cs:=#[.string x464000_1,.string ⟨#[]⟩]) ?_ 1 _ rfl;(with_reducible repeat (first|apply yN|apply yD|apply yA));refine blk_put (cs:=#[.string ⟨#[]⟩,.string ⟨#[]⟩]) ?_ 0 _ rfl;(with_reducible repeat (first|apply yN|apply yD|apply yA));exact BK467.out) hb);replace HB:=aM (below_step (by first|exact bb HB|exact bg HB GE462|exact bg HB GE463|exact bg HB GE467) hb);(try clear hb);have⟨a0,a1,b0,b1⟩:=q2f BK467))
     go_roundg k1
     case measure=>have:=HK1.out;omega
     case rel=>exact ⟨(y464),(t468),(t469),gb467,(by first|rfl|(simp;done)),H',⟨by have:=HK1.out;omega⟩,⟨by (with_reducible repeat (first|apply rA|apply rN|apply rD));exact Kd.R_mono (Kd.R_far (p:=⟨gb467,1,none⟩) (Kd.R_far (p:=⟨gb467,0,none⟩) (Kd.R_mono HO466.out (fun k_ hk=>(⟨hk,hk.2⟩:_ ∧ k_ ≠ gb467))) (fun _ hk=>hk.2) (.string t468)) (fun _ hk=>hk.2) (.string t469)) (fun _ hk=>⟨hk.1.1.1,hk.1.2⟩)⟩,⟨bf BK462 NB462_467⟩,⟨by (with_reducible repeat (first|apply yN|apply yD|apply yA));refine blk_put (cs:=#[.string t468,.string x464001_1]) ?_ 1 _ rfl;(with_reducible repeat (first|apply yN|apply yD|apply yA));refine blk_put (cs:=#[.string x464000_1,.string x464001_1]) ?_ 0 _ rfl;(with_reducible repeat (first|apply yN|apply yD|apply yA));exact BK467.out⟩,⟨GW467.out⟩,⟨GE467.out⟩,⟨NB467_462.out⟩,⟨NB462_467.out⟩,⟨by first|exact bb HB|exact bg HB GE462|exact bg HB GE463|exact bg HB GE467⟩⟩
    ·rw [if_neg c8] at H
     exact absurd H (by simp)
   ·rw [if_neg c7] at H
    have c7b0:decide ((x3_1.length:Int) < (a0_1.size:Int)) = false:=decide_eq_false c7
    have c7b1:decide (x3_1.length < a0_1.size) = false:=decide_eq_false (fun h=>c7 (Int.ofNat_lt.mpr h))
    clear c7
    obtain rfl:=Option.some.inj H
    obtain ⟨Ao22,co22,eo22⟩:=Kd.R_slice HO_3.out
    subst eo22
    have hnb23:=NB462_463.out
    have hnc23:=NB463_462.out
    have⟨a0,a1,b0,b1⟩:=q2f BK462
    go_wp2
    go_ret
    exact ⟨_,by first|rfl|(simp [errW_none,errW_some] <;> rfl)|(simp [*,errW_none,errW_some] <;> rfl),by (with_reducible repeat (first|apply rA|apply rN|apply rD));exact Kd.R_mono HO_3.out (fun _ hk=>trivial),bb HB⟩
def impl_OrbitPoints.f (k:Nat) (a0_0:ByteArray) (a0_1:ByteArray):Option ((List (S25)) × Int):=(impl_starCode.f k a0_0 a0_1 ([]:List (S25))).bind fun t471=>(if t471 = 0 then ((impl_Sequence_orbitPoints.f k a0_0 a0_1).bind fun t472=>(some (t472,0))) else (some (([]:List (S25)),t471)))
theorem impl_OrbitPoints.mono:∀ a0 a1 k,LeO (impl_OrbitPoints.f k a0 a1) (impl_OrbitPoints.f (k + 1) a0 a1):=by
 intro a0 a1 k
 unfold impl_OrbitPoints.f
 repeat' first
   | (with_reducible exact impl_Sequence_orbitPoints.mono _ _ _)
   | (with_reducible exact impl_starCode.mono _ _ _ _)
   | (with_reducible exact LeO.refl _)
   | (with_reducible exact LeO.none _)
   | (with_reducible refine LeO.ite ?_ ?_)
   | (with_reducible refine LeO.bind ?_ (fun _=>?_))
   | exact impl_Sequence_orbitPoints.mono _ _ _
   | exact impl_starCode.mono _ _ _ _
   | exact LeO.none _
   | refine LeO.ite ?_ ?_
   | refine LeO.bind ?_ (fun _=>?_)
set_option maxHeartbeats 8000000 in
set_option maxRecDepth 100000 in
theorem impl_OrbitPoints.calls (k:Nat) (a0_0:ByteArray) (a0_1:ByteArray) (r1:List (S25)) (r2:Int) (w:World) (h:impl_OrbitPoints.f k a0_0 a0_1 = some (r1,r2)) :
  Calls Try.prog 9 #[.agg #[.string a0_0,.string a0_1]] w fun e w'=>∃ v0_:Value,e = .returned (.tuple #[v0_,.int .i64 r2]) ∧ Kd.R k25 25 w' w.heap.size (fun _=>True) v0_ r1 ∧ Below w.heap.size w w':=by
 have hu25:=Try.underlying25
 have HB:=aM (Below.refl w.heap.size w)
 have H:((impl_starCode.f k a0_0 a0_1 ([]:List (S25))).bind fun t471=>(if t471 = 0 then ((impl_Sequence_orbitPoints.f k a0_0 a0_1).bind fun t472=>(some (t472,0))) else (some (([]:List (S25)),t471)))) = some (r1,r2):=h
 clear h
 replace H:=Option.bind_eq_some_iff.mp H
 obtain ⟨t471,A20,H⟩:=H
 replace H:(if t471 = 0 then ((impl_Sequence_orbitPoints.f k a0_0 a0_1).bind fun t472=>(some (t472,0))) else (some (([]:List (S25)),t471))) = some (r1,r2):=H;have A2:=aM A20
 clear A20
 by_cases c3:t471 = 0
 ·rw [if_pos c3] at H
  have c3b0:(t471 == 0) = true:=beq_iff_eq.mpr c3
  have c3b1:(t471 != 0) = false:=bne_eq_false_iff_eq.mpr c3
  clear c3
  replace H:=Option.bind_eq_some_iff.mp H
  obtain ⟨t472,A40,H⟩:=H
  replace H:(some (t472,0)) = some (r1,r2):=H;have A4:=aM A40
  clear A40
  simp only [Option.some.injEq,Prod.mk.injEq] at H
  obtain ⟨rfl,rfl⟩:=H
  go_enter Try.func9,Try.ntmps9
  go_wp2_with (first|((with_reducible refine gate_dst (N:=1) rfl ?_);refine box_event rfl (N:=1) rfl (cs:=#[.string a0_0,.string a0_1]) (t:=25) (by first|(go_simp;done)|(go_simp;rfl)) ?_;intro gb470 hg w5 hbox hb;have BK470:=aM (hbox);have GW470:=wl hg HB;have GE470:=wl hg HB;replace HB:=bs HB hb;clear hb hbox hg;have⟨a0,a1,b0,b1⟩:=q2f BK470)|((with_reducible refine gate_callee (f:=26) rfl ?_);refine goesL_ (some 6) rfl rfl Try.func26 (by kernel_rfl) rfl #[.agg #[.string a0_0,.string a0_1],.slice none 0 0] rfl (by (try simp only [sM,sC,sN]);first|done|rfl) ?_;(refine (impl_starCode.calls k a0_0 a0_1 _ _ ([]:List (S25)) t471 _ ?side1 ?side2 A2.out).mono ?_);(case side1=>exact Kd.C_nil _ _);(case side2=>exact Nat.le_refl _);rintro e w7 ⟨rfl,hb⟩;refine ⟨_,rfl,?_⟩;replace BK470:=kb BK470 hb;replace HB:=bs HB hb;(try clear hb);have⟨a0,a1,b0,b1⟩:=q2f BK470)|((with_reducible refine gate_callee (f:=27) rfl ?_);refine goesL_ (some 11) rfl rfl Try.func27 (by kernel_rfl) rfl #[.agg #[.string a0_0,.string a0_1]] rfl (by (try simp only [sM,sC,sN]);first|done|rfl) ?_;(with_reducible refine (impl_Sequence_orbitPoints.calls k a0_0 a0_1 t472 _ A4.out).mono ?_);rintro e w9 ⟨v473,rfl,ho0,hb⟩;refine ⟨_,rfl,?_⟩;have HO474:=aM (Kd.R_lower (Kd.R_newB ho0 (g:=gb470) (o:=.cells #[.string a0_0,.string a0_1] 25 (0,0)) (bk BK470)) (below_size (bb HB)));replace BK470:=kb BK470 hb;replace HB:=bs HB hb;(try clear hb);(try clear ho0)))
  go_ret2
  exact ⟨_,by first|rfl|(simp [errW_none,errW_some] <;> rfl)|(simp [*,errW_none,errW_some] <;> rfl),by (with_reducible repeat (first|apply rA|apply rN|apply rD));exact Kd.R_mono HO474.out (fun _ hk=>trivial),bb HB⟩
 ·rw [if_neg c3] at H
  have c3b0:(t471 == 0) = false:=beq_eq_false_iff_ne.mpr c3
  have c3b1:(t471 != 0) = true:=bne_iff_ne.mpr c3
  simp only [Option.some.injEq,Prod.mk.injEq] at H
  obtain ⟨rfl,rfl⟩:=H
  go_enter Try.func9,Try.ntmps9
  go_wp2_with (first|((with_reducible refine gate_dst (N:=1) rfl ?_);refine box_event rfl (N:=1) rfl (cs:=#[.string a0_0,.string a0_1]) (t:=25) (by first|(go_simp;done)|(go_simp;rfl)) ?_;intro gb470 hg w10 hbox hb;have BK470:=aM (hbox);have GW470:=wl hg HB;have GE470:=wl hg HB;replace HB:=bs HB hb;clear hb hbox hg;have⟨a0,a1,b0,b1⟩:=q2f BK470)|((with_reducible refine gate_callee (f:=26) rfl ?_);refine goesL_ (some 6) rfl rfl Try.func26 (by kernel_rfl) rfl #[.agg #[.string a0_0,.string a0_1],.slice none 0 0] rfl (by (try simp only [sM,sC,sN]);first|done|rfl) ?_;(refine (impl_starCode.calls k a0_0 a0_1 _ _ ([]:List (S25)) t471 _ ?side1 ?side2 A2.out).mono ?_);(case side1=>exact Kd.C_nil _ _);(case side2=>exact Nat.le_refl _);rintro e w12 ⟨rfl,hb⟩;refine ⟨_,rfl,?_⟩;replace BK470:=kb BK470 hb;replace HB:=bs HB hb;(try clear hb)))
  go_ret2
  exact ⟨_,by first|rfl|(simp [errW_none,errW_some] <;> rfl)|(simp [*,errW_none,errW_some] <;> rfl),by first|exact Kd.R_nil _ _ _ _ _|exact Kd.N_nil _ _ _ _ _|exact Kd.V_nil _ _ _ _ _|exact Kd.Q_nil _ _ _ _ _|exact Kd.S_nil _ _ _ _ _,bb HB⟩
end Go.Proofs.Ytmhpbilkocnlnaa.Q
end
section
namespace Go.Proofs.Ytmhpbilkocnlnaa.Q
open Go.Proofs.YtmhpbilkocnlnaaW.Ext
open Go.RowKit Go.Proofs.YtmhpbilkocnlnaaW.PrintWords Go.Proofs.YtmhpbilkocnlnaaW.PrintLast Go.Proofs.YtmhpbilkocnlnaaW.PrintMore
attribute [local go_sem] max2_int min2_int max_two min_two max_three min_three max_four min_four   -- for this text's walks alone
set_option linter.unusedVariables false
set_option linter.unusedSimpArgs false
attribute [local go_sem high] eqA25
def laws_words9.l0:Nat → List (S25) → List (S25) → Int → Option (Bool)
 | 0,_,_,_=>none
 | k + 1,x0,x1,x5=>if x5 < (x0.length:Int) then (if 0 ≤ x5 then (if x5 < (x1.length:Int) then (if (!((((rd_T25 x0 x5).f0).toList) == (((rd_T25 x1 x5).f0).toList)) || (!((((rd_T25 x0 x5).f1).toList) == (((rd_T25 x1 x5).f1).toList)))) = true then (some false) else (laws_words9.l0 k x0 x1 (wrap64 (x5 + 1)))) else (none)) else (none)) else (some true)
def laws_words9.f (k:Nat) (l0:List (S25)) (l1:List (S25)):Option (Bool):=if (l0.length:Int) = (l1.length:Int) then (laws_words9.l0 k l0 l1 0) else (some false)
theorem laws_words9.mono_l:∀ k,(∀ y0 y1 y2,LeO (laws_words9.l0 k y0 y1 y2) (laws_words9.l0 (k + 1) y0 y1 y2))
 | 0=>fun _ _ _ r h=>by simp [laws_words9.l0] at h
 | k + 1=>by
  have ih0:=laws_words9.mono_l k
  ·intro y0 y1 y2
   unfold laws_words9.l0
   repeat' first
   | (with_reducible exact ih0 _ _ _)
   | (with_reducible exact LeO.refl _)
   | (with_reducible exact LeO.none _)
   | (with_reducible refine LeO.ite ?_ ?_)
   | (with_reducible refine LeO.bind ?_ (fun _=>?_))
   | exact ih0 _ _ _
   | exact LeO.none _
   | refine LeO.ite ?_ ?_
   | refine LeO.bind ?_ (fun _=>?_)
theorem laws_words9.mono:∀ a0 a1 k,LeO (laws_words9.f k a0 a1) (laws_words9.f (k + 1) a0 a1):=by
 intro a0 a1 k
 have ih0:=laws_words9.mono_l k
 unfold laws_words9.f
 repeat' first
   | (with_reducible exact ih0 _ _ _)
   | (with_reducible exact LeO.refl _)
   | (with_reducible exact LeO.none _)
   | (with_reducible refine LeO.ite ?_ ?_)
   | (with_reducible refine LeO.bind ?_ (fun _=>?_))
   | exact ih0 _ _ _
   | exact LeO.none _
   | refine LeO.ite ?_ ?_
   | refine LeO.bind ?_ (fun _=>?_)
set_option maxHeartbeats 8000000 in
set_option maxRecDepth 100000 in
theorem laws_words9.calls (k:Nat) (A0:Option Addr) (c0:Nat) (l0:List (S25)) (A1:Option Addr) (c1:Nat) (l1:List (S25)) (r:Bool) (w:World) (hr0:Kd.C k25 w A0 l0.length l0) (hc0:l0.length ≤ c0) (hr1:Kd.C k25 w A1 l1.length l1) (hc1:l1.length ≤ c1) (h:laws_words9.f k l0 l1 = some r) :
  Calls Try.prog 11 #[.slice A0 l0.length c0,.slice A1 l1.length c1] w fun e w'=>e = .returned (.bool r) ∧ Drawn0 w w':=by
 have hu25:=Try.underlying25
 have HR0:=aM hr0;have HC0:=aM hc0
 clear hr0 hc0
 have HR1:=aM hr1;have HC1:=aM hc1
 clear hr1 hc1
 have H:(if (l0.length:Int) = (l1.length:Int) then (laws_words9.l0 k l0 l1 0) else (some false)) = some r:=h
 clear h
 by_cases c3:(l0.length:Int) = (l1.length:Int)
 ·rw [if_pos c3] at H
  have c3b0:((l0.length:Int) == (l1.length:Int)) = true:=beq_iff_eq.mpr c3
  have c3b1:((l0.length:Int) != (l1.length:Int)) = false:=bne_eq_false_iff_eq.mpr c3
  have c3b2:(l0.length == l1.length) = true:=by first|simpa using c3|(simp at c3 ⊢;omega)
  clear c3
  have H':=aM H
  clear H
  go_enter Try.func11,Try.ntmps11
  go_wp2
  repeat (go_quiet (fail);try go_wp2)
  go_loopg [5] k (fun kq v5 w'=>∃ (x5_1:Int),v5 = .int .i64 x5_1 ∧ Aside0 (laws_words9.l0 kq l0 l1 x5_1 = some r) ∧ Aside0 (kq ≤ k) ∧ Drawn0 w w')
  case atStart=>exact ⟨(0),(by first|rfl|(simp;done)|(simp [*];done)),H',⟨Nat.le_refl _⟩,by repeat (first|exact Drawn0.refl _|apply Drawn0.step)⟩
  case round =>
   clear H'
   try clear c1
   try clear p2
   try clear c3
   try clear c3b0
   try clear c3b1
   try clear c3b2
   obtain ⟨x5_1,rfl,HA,HK1,⟨m1,rfl⟩⟩:=hrel
   cases gk with
   | zero=>exact absurd HA.out (by simp [laws_words9.l0])
   | succ k1 =>
    have H:=HA.out
    clear HA
    simp only [laws_words9.l0] at H
    by_cases c4:x5_1 < (l0.length:Int)
    ·rw [if_pos c4] at H
     have c4b0:decide (x5_1 < (l0.length:Int)) = true:=decide_eq_true c4
     clear c4
     by_cases c5:0 ≤ x5_1
     ·rw [if_pos c5] at H
      have c5b0:decide (0 ≤ x5_1) = true:=decide_eq_true c5
      clear c5
      by_cases c6:x5_1 < (l1.length:Int)
      ·rw [if_pos c6] at H
       have c6b0:decide (x5_1 < (l1.length:Int)) = true:=decide_eq_true c6
       clear c6
       by_cases c7:(!((((rd_T25 l0 x5_1).f0).toList) == (((rd_T25 l1 x5_1).f0).toList)) || (!((((rd_T25 l0 x5_1).f1).toList) == (((rd_T25 l1 x5_1).f1).toList)))) = true
       ·rw [if_pos c7] at H
        have c7b0:(!((((rd_T25 l0 x5_1).f0).toList) == (((rd_T25 l1 x5_1).f0).toList)) || (!((((rd_T25 l0 x5_1).f1).toList) == (((rd_T25 l1 x5_1).f1).toList)))) = true:=c7
        clear c7
        obtain rfl:=Option.some.inj H
        have p487:0 ≤ (x5_1:Int):=of_decide_eq_true (by assumption)
        have q487:x5_1 < (l0.length:Int):=of_decide_eq_true (by assumption)
        obtain ⟨ad487,e487,hx487_0,hx487_1⟩:=at_T25 HR0.out x5_1 p487 q487
        cases e487
        replace p487:=eq_true p487;replace q487:=eq_true q487
        have p488:0 ≤ (x5_1:Int):=of_decide_eq_true (by assumption)
        have q488:x5_1 < (l1.length:Int):=of_decide_eq_true (by assumption)
        obtain ⟨ad488,e488,hx488_0,hx488_1⟩:=at_T25 HR1.out x5_1 p488 q488
        cases e488
        replace p488:=eq_true p488;replace q488:=eq_true q488
        go_wp2
        repeat (go_quiet (fail);try go_wp2)
        go_ret
        exact ⟨by first|rfl|(simp;done)|(simp [*];done),by repeat (first|exact Drawn0.refl _|apply Drawn0.step)⟩
       ·rw [if_neg c7] at H
        have c7b0:(!((((rd_T25 l0 x5_1).f0).toList) == (((rd_T25 l1 x5_1).f0).toList)) || (!((((rd_T25 l0 x5_1).f1).toList) == (((rd_T25 l1 x5_1).f1).toList)))) = false:=by simpa using c7
        clear c7
        have H':=aM H
        clear H
        have p487:0 ≤ (x5_1:Int):=of_decide_eq_true (by assumption)
        have q487:x5_1 < (l0.length:Int):=of_decide_eq_true (by assumption)
        obtain ⟨ad487,e487,hx487_0,hx487_1⟩:=at_T25 HR0.out x5_1 p487 q487
        cases e487
        replace p487:=eq_true p487;replace q487:=eq_true q487
        have p488:0 ≤ (x5_1:Int):=of_decide_eq_true (by assumption)
        have q488:x5_1 < (l1.length:Int):=of_decide_eq_true (by assumption)
        obtain ⟨ad488,e488,hx488_0,hx488_1⟩:=at_T25 HR1.out x5_1 p488 q488
        cases e488
        replace p488:=eq_true p488;replace q488:=eq_true q488
        go_wp2
        repeat (go_quiet (fail);try go_wp2)
        go_roundg k1
        case measure=>have:=HK1.out;omega
        case rel=>exact ⟨(wrap64 (x5_1 + 1)),(by first|rfl|(simp;done)|(simp [*];done)),H',⟨by have:=HK1.out;omega⟩,by repeat (first|exact Drawn0.refl _|apply Drawn0.step)⟩
      ·rw [if_neg c6] at H
       exact absurd H (by simp)
     ·rw [if_neg c5] at H
      exact absurd H (by simp)
    ·rw [if_neg c4] at H
     have c4b0:decide (x5_1 < (l0.length:Int)) = false:=decide_eq_false c4
     clear c4
     obtain rfl:=Option.some.inj H
     go_wp2
     repeat (go_quiet (fail);try go_wp2)
     go_ret
     exact ⟨by first|rfl|(simp;done)|(simp [*];done),by repeat (first|exact Drawn0.refl _|apply Drawn0.step)⟩
 ·rw [if_neg c3] at H
  have c3b0:((l0.length:Int) == (l1.length:Int)) = false:=beq_eq_false_iff_ne.mpr c3
  have c3b1:((l0.length:Int) != (l1.length:Int)) = true:=bne_iff_ne.mpr c3
  have c3b2:(l0.length == l1.length) = false:=by first|simpa using c3|(simp at c3 ⊢;omega)
  obtain rfl:=Option.some.inj H
  go_enter Try.func11,Try.ntmps11
  go_wp2
  repeat (go_quiet (fail);try go_wp2)
  go_ret
  exact ⟨by first|rfl|(simp;done)|(simp [*];done),by repeat (first|exact Drawn0.refl _|apply Drawn0.step)⟩
end Go.Proofs.Ytmhpbilkocnlnaa.Q
end
section
namespace Go.Proofs.Ytmhpbilkocnlnaa.Q
open Go.RowKit Go.Proofs.YtmhpbilkocnlnaaW.PrintWords Go.Proofs.YtmhpbilkocnlnaaW.PrintLast Go.Proofs.YtmhpbilkocnlnaaW.Ext
set_option linter.unusedVariables false
set_option linter.unusedSimpArgs false
theorem both_ispoint (v s : PP) (hv : v.1.size + v.2.size ≤ 1048576) (hz : s.1.size + s.2.size ≤ 1048576) :
    ∃ (b : Bool) (c : Int), Ev (fun k => spec_IsPointOf.f k v.1 v.2 s.1 s.2) (b, c) ∧ Ev (fun k => impl_IsPointOf.f k v.1 v.2 s.1 s.2) (b, c) := by
  obtain ⟨a, b⟩ := v
  obtain ⟨c, d⟩ := s
  obtain ⟨r, hs, hi, hr⟩ := both_seq a b hv
  obtain ⟨s, gs, gi, gr⟩ := both_seq c d hz
  have js : Ev (fun k => spec_IsPointOf.j0 k true a b c d) (false, 1) := Ev.step (f := fun _ => some (false, 1)) (fun k => by rw [spec_IsPointOf.j0, if_pos rfl]) (Ev.now _)
  have ji : Ev (fun k => impl_IsPointOf.j0 k true a b c d) (false, 1) := Ev.step (f := fun _ => some (false, 1)) (fun k => by rw [impl_IsPointOf.j0, if_pos rfl]) (Ev.now _)
  cases r with
  | false =>
    refine ⟨false, 1, ?_, ?_⟩
    · unfold spec_IsPointOf.f
      refine Ev.bind hs ?_
      simp only [Bool.false_eq_true, if_false]
      exact js
    · unfold impl_IsPointOf.f
      refine Ev.bind hi ?_
      simp only [Bool.false_eq_true, if_false]
      exact ji
  | true =>
    obtain ⟨_, _, l3, l4, _⟩ := hr rfl
    cases s with
    | false =>
      refine ⟨false, 1, ?_, ?_⟩
      · unfold spec_IsPointOf.f
        refine Ev.bind hs ?_
        simp only [if_true]
        exact Ev.bind gs js
      · unfold impl_IsPointOf.f
        refine Ev.bind hi ?_
        simp only [if_true]
        exact Ev.bind gi ji
    | true =>
      obtain ⟨_, _, m3, m4, _⟩ := gr rfl
      obtain ⟨q, q1, q2, _⟩ := both_star a b l3 l4
      obtain ⟨t, t1, t2⟩ := both_point a b c d m3 m4
      refine ⟨(if q = true then t else false), (if q = true then 0 else 5), ?_, ?_⟩
      · unfold spec_IsPointOf.f
        refine Ev.bind hs ?_
        simp only [if_true]
        refine Ev.bind gs ?_
        refine Ev.step (f := fun k => (spec_l02Star.f k a b).bind fun t123 => (if t123 = true then ((spec_l06Point.f k a b c d).bind fun t124 => (some (t124, 0))) else (some (false, 5)))) (fun k => by rw [spec_IsPointOf.j0, if_neg (by decide)]) ?_
        refine Ev.bind q1 ?_
        cases q
        · exact Ev.now _
        · exact Ev.bind t1 (Ev.now _)
      · unfold impl_IsPointOf.f
        refine Ev.bind hi ?_
        simp only [if_true]
        refine Ev.bind gi ?_
        refine Ev.step (f := fun k => if q = true then ((impl_Sequence_isPoint.f k a b c d).bind fun t124 => (some (t124, 0))) else (some (false, 5))) (fun k => by rw [impl_IsPointOf.j0, if_neg (by decide), q2, Option.bind_some]) ?_
        cases q
        · exact Ev.now _
        · exact Ev.bind t2 (Ev.now _)
theorem pt_shN {v : PP} : ∀ (j : Nat) {s : PP}, Pt v s → Pt v (shN j s)
  | 0, s, h => h
  | j + 1, s, h => pt_shN j h.sh'
theorem both_orbit (o : PP) (ho : Val o) : ∃ r : List SP, (1 ≤ r.length ∧ r.length ≤ 64) ∧ (∀ x ∈ r, ∃ i, SP.pr x = shN i o) ∧ Ev (fun k => spec_l06Orbit.f k o.1 o.2) r ∧ Ev (fun k => impl_Sequence_orbitPoints.f k o.1 o.2) r := by
  have h1 := ho.one
  have h64 := ho.le
  have key : ∀ (d i : Nat) (acc : List SP), i + d = o.2.size → acc.length = i → (∀ x ∈ acc, ∃ i, SP.pr x = shN i o) →
      ∃ r : List SP, (1 ≤ r.length ∧ r.length ≤ 64) ∧ (∀ x ∈ r, ∃ i, SP.pr x = shN i o) ∧ Ev (fun k => spec_l06Orbit.l0 k acc (i : Int) o.1 o.2 (shN i o).1 (shN i o).2) r ∧ Ev (fun k => impl_Sequence_orbitPoints.l0 k acc o.1 o.2 (shN i o).1 (shN i o).2) r := by
    intro d
    induction d with
    | zero =>
      intro i acc h hl ha
      exact ⟨acc, ⟨by omega, by omega⟩, ha, Ev.step (f := fun _ => some acc) (fun k => by rw [spec_l06Orbit.l0, if_neg (by omega)]) (Ev.now _), Ev.step (f := fun _ => some acc) (fun k => by rw [impl_Sequence_orbitPoints.l0, if_neg (by omega)]) (Ev.now _)⟩
    | succ d ih =>
      intro i acc h hl ha
      have hx := val_shN i ho
      obtain ⟨r, r0, r3, r1, r2⟩ := ih (i + 1) (acc ++ [⟨(shN i o).1, (shN i o).2⟩]) (by omega) (by simp; omega) (fun x hx => by
        rcases List.mem_append.1 hx with hx | hx
        · exact ha x hx
        · rw [List.mem_singleton.1 hx]; exact ⟨i, rfl⟩)
      have e := shift_eq (shN i o).1 (shN i o).2 hx.one hx.le
      rw [show ((shN i o).1, (shN i o).2) = shN i o from rfl, ← shN_succ] at e
      refine ⟨r, r0, r3, Ev.step (fun k => ?_) r1, Ev.step (fun k => ?_) r2⟩
      · rw [spec_l06Orbit.l0, if_pos (by omega), if_pos (by omega), e, Option.bind_some, wrS (x := (i : Int) + 1) (by omega) (by omega)]
        rfl
      · rw [impl_Sequence_orbitPoints.l0, if_pos (by omega), if_pos (by omega), shift_val' e, Option.bind_some]
  exact key o.2.size 0 [] (by omega) rfl (fun x hx => by cases hx)
theorem orbit_law (o : PP) (ho : o.1.size + o.2.size ≤ 1048576) : ∃ (L : List SP) (c : Int), L.length ≤ 64 ∧ Ev (fun k => spec_OrbitPoints.f k o.1 o.2) (L, c) ∧ Ev (fun k => impl_OrbitPoints.f k o.1 o.2) (L, c) ∧
    ∀ x ∈ L, Ev (fun k => impl_IsPointOf.f k o.1 o.2 x.f0 x.f1) (true, 0) := by
  obtain ⟨c, c1, c2, c3⟩ := both_code o [] (by simp) ho (fun x hx => by cases hx)
  by_cases h0 : c = 0
  · subst h0
    obtain ⟨hV, e1, e2, e3, ⟨e4, e5⟩, _⟩ := c3 rfl
    obtain ⟨r, r0, r1, r2, r3⟩ := both_orbit o hV
    replace r0 := r0.2
    refine ⟨r, 0, r0, ?_, ?_, fun x hx => ?_⟩
    · unfold spec_OrbitPoints.f
      refine Ev.bind c1 ?_
      simp only [if_true]
      exact Ev.bind r2 (Ev.now _)
    · unfold impl_OrbitPoints.f
      refine Ev.bind c2 ?_
      simp only [if_true]
      exact Ev.bind r3 (Ev.now _)
    · obtain ⟨i, hi⟩ := r1 x hx
      have hv := val_shN i hV
      have := own_point (s := SP.pr x) ⟨hV, e1, e2, e3, e4, e5⟩ (by rw [hi]; exact ⟨hv, pt_shN i e3, seq_of hv (pr_shN i hV.one (seq_pr hV e4))⟩)
      exact this
  · refine ⟨[], c, by simp, ?_, ?_, fun x hx => by cases hx⟩
    · unfold spec_OrbitPoints.f
      refine Ev.bind c1 ?_
      simp only [if_neg h0]
      exact Ev.now _
    · unfold impl_OrbitPoints.f
      refine Ev.bind c2 ?_
      simp only [if_neg h0]
      exact Ev.now _
theorem words9_self (L : List SP) (h : L.length ≤ 64) : Ev (fun k => laws_words9.f k L L) true := by
  unfold laws_words9.f
  simp only [if_true]
  have key : ∀ d i : Nat, i + d = L.length → Ev (fun k => laws_words9.l0 k L L (i : Int)) true := by
    intro d
    induction d with
    | zero =>
      intro i hi
      exact Ev.step (f := fun _ => some true) (fun k => by rw [laws_words9.l0, if_neg (by omega)]) (Ev.now _)
    | succ d ih =>
      intro i hi
      refine Ev.step (f := fun k => laws_words9.l0 k L L ((i + 1 : Nat) : Int)) (fun k => ?_) (ih (i + 1) (by omega))
      rw [laws_words9.l0, if_pos (by omega), if_pos (by omega), if_pos (by omega), if_neg (by simp), wrS (x := (i : Int) + 1) (by omega) (by omega)]
      rfl
  exact key L.length 0 (by omega)
end Go.Proofs.Ytmhpbilkocnlnaa.Q
end
section
namespace Go.Proofs.Ytmhpbilkocnlnaa.Q
open Go.Proofs.YtmhpbilkocnlnaaW.Ext Go.Proofs.Ytmhpbilkocnlnaa.Ang
open Go.RowKit Go.Proofs.YtmhpbilkocnlnaaW.PrintWords Go.Proofs.YtmhpbilkocnlnaaW.PrintLast Go.Proofs.YtmhpbilkocnlnaaW.PrintMore
attribute [local go_sem] max2_int min2_int max_two min_two max_three min_three max_four min_four
set_option linter.unusedVariables false
set_option linter.unusedSimpArgs false
section
variable {w0 w:World} {g:Nat} {c:List Int}
end
theorem orbE {p q:ByteArray} (hV:Val (p,q)) (w:World):Calls Try.prog 29 #[.agg #[.string p,.string q]] w fun e w'=>∃ A n L,e = .returned (.slice A L.length n) ∧ (1 ≤ L.length ∧ L.length ≤ 64) ∧ (∀ x ∈ L,1 ≤ x.f1.size ∧ x.f0.size + x.f1.size ≤ 64) ∧ Kd.R k25 25 w' w.heap.size (fun _=>True) (.slice A L.length n) L ∧ Below w.heap.size w w':=by
 obtain ⟨L,h1,h2,⟨K,hK⟩,_⟩:=both_orbit (p,q) hV
 refine (spec_l06Orbit.calls K p q L w (hK K (Nat.le_refl _))).mono ?_
 rintro e w' ⟨v,rfl,R,hb⟩
 obtain ⟨A,n,rfl⟩:=Kd.R_slice R
 refine ⟨A,n,L,rfl,h1,fun x hx=>?_,R,hb⟩
 obtain ⟨i,hi⟩:=h2 x hx
 have:=val_shN i hV
 rw [← hi] at this
 exact ⟨this.one,this.le⟩
theorem pickP {L:List S25} {W:World} {base n cap:Nat} {ok:Nat → Prop} {A:Option Addr} (R:Kd.R k25 25 W base ok (.slice A n cap) L) {v:Int} (h0:0 ≤ v) (h1:v < L.length) :
  ∃ ad x,A = some ad ∧ x ∈ L ∧ W.cell? (ad.add (v.toNat * 2)) = some (.string x.f0) ∧ W.cell? { block:=(ad.add (v.toNat * 2)).block,off:=(ad.add (v.toNat * 2)).off + 1 } = some (.string x.f1):=by
 obtain ⟨ad,e,hx,hy⟩:=at_T25 (Kd.R_reads' R).2.2 v h0 h1
 obtain ⟨j,rfl⟩:=Int.eq_ofNat_of_zero_le h0
 refine ⟨ad,_,e,?_,hx,hy⟩
 rw [rd_sp L j (by omega)]
 exact List.getElem_mem _
theorem kbS {w0 w W V:World} {g k:Nat} {c:List Int} {o:Obj} (S:St w0 w W g c) (hk:w.heap.size ≤ k) (h:W.heap[k]? = some o) (T:St w0 W V g c):V.heap[k]? = some o :=
 KeepBut.blk T.keep h (by have:=S.lt;omega) (by simp)
structure J14 (w0 w W : World) (g : Nat) (c : List Int) (k4 : Nat) (b : Nat → Bool) (A1 : Option Addr) (m1 : Nat) (x1 : Int) (P1 : Value) (s1 : ByteArray) (A2 : Option Addr) (m2 : Nat) (x2 : Int) (P2 : Value) (s2 p q : ByteArray) : Prop where
 S:St w0 w W g c
 k0:b 11 = false → W.heap[k4]? = some (.cells #[.string ⟨#[]⟩,.string ⟨#[]⟩] 25 (0,0))
 k1:b 11 = true → W.heap[k4]? = some (.cells #[.string p,.string q] 25 (0,0))
 R1:b 0 = true → b 11 = false → Kd.R Kd.string 9 W w.heap.size (fun _=>True) (.slice A1 4 m1) [(⟨#[]⟩:ByteArray),⟨#[48]⟩,⟨#[49]⟩,⟨#[49,48]⟩]
 R2:b 5 = true → b 11 = false → Kd.R Kd.string 9 W w.heap.size (fun _=>True) (.slice A2 4 m2) [(⟨#[48]⟩:ByteArray),⟨#[49]⟩,⟨#[48,49]⟩,⟨#[49,49,48]⟩]
 h1:b 2 = true → 0 ≤ x1 ∧ x1 < 4
 h2:b 7 = true → 0 ≤ x2 ∧ x2 < 4
 i1:b 3 = true → ∃ ad,A1 = some ad ∧ P1 = .pointer (some (ad.add x1.toNat))
 i2:b 8 = true → ∃ ad,A2 = some ad ∧ P2 = .pointer (some (ad.add x2.toNat))
 z1:b 4 = true → s1.size ≤ 2
 z2:b 9 = true → 1 ≤ s2.size ∧ s2.size ≤ 3
 zz:b 10 = true → p.size + q.size ≤ 5
section
variable {w0 w:World} {g:Nat} {c:List Int}
def dT14:Bool × List (List Nat × List Nat):=(true,[([],[]),([],[]),([1],[1]),([0,2],[0,2]),([3],[3]),([],[]),([],[]),([6,2],[6]),([5,7],[5,7]),([8],[8]),([4,9,7],[4,9]),([10,10,0,1,2,3,4,5,6,7,8,9,10],[10])])
theorem dtab14:rtab .any (opsOf Try.f19 14) = dT14:=by kernel_rfl
theorem dbits14:waitsOk dT14.2 [0,0,2,7,15,0,0,70,230,486,1023,2047] = true:=by kernel_rfl
set_option maxHeartbeats 16000000 in
set_option maxRecDepth 100000 in
theorem drawP (Hc:bytesL c) {p q:ByteArray} (hpq:p.size + q.size ≤ 1000) (S0:St w0 w w g c):Calls Try.prog 19 #[.pointer (some ⟨g,0,none⟩),.agg #[.string p,.string q]] w fun e w'=>∃ p' q',e = .returned (.agg #[.string p',.string q']) ∧ p'.size + q'.size ≤ 100 ∧ St w0 w w' g c:=by
 have hu25:=Try.underlying25
 have S:=aM S0
 clear S0
 go_enter Try.func19,Try.ntmps19
 go_upto_region 1 with (first
  | ((with_reducible refine gate_dst (N:=3) rfl ?_);refine box_event rfl (N:=3) rfl (cs:=#[.string p,.string q]) (t:=25) (by first|(go_simp;done)|(go_simp;rfl)) ?_;intro k3 hg w1 hbox hb;have G3:=geN S hg;replace S:=sb S hb;have BK3:=aM hbox;clear hb hbox hg)
  | ((with_reducible refine gate_dst (N:=4) rfl ?_);refine box_event rfl (N:=4) rfl (cs:=#[.string ⟨#[]⟩,.string ⟨#[]⟩]) (t:=25) (by first|(go_simp;done)|(go_simp;rfl)) ?_;intro k4 hg w1 hbox hb;have G4:=geN S hg;have N34:=neN BK3 hg;have N43:=neN' BK3 hg;have n1:=N34.h;have n2:=N43.h;replace S:=sb S hb;replace BK3:=bnB BK3 hb;have BK4:=aM hbox;have ⟨c0,c1,d0,d1⟩:=q2f BK3;clear hb hbox hg))
 (try simp only [Act.put,sI,sZ,sS])
 go_cut [21] (fun v21 wc=>∃ b,v21 = .bool b ∧ (b = false → Val (p,q)) ∧ Aside0 (wc.heap[k3]? = some (.cells #[.string p,.string q] 25 (0,0))) ∧ Aside0 (wc.heap[k4]? = some (.cells #[.string ⟨#[]⟩,.string ⟨#[]⟩] 25 (0,0))) ∧ Aside0 (St w0 w wc g c))
 case first =>
  obtain ⟨r,⟨K,hK⟩,_,hv⟩:=both_seq p q (by omega)
  cases r
  ·go_wp2_with ((with_reducible refine gate_callee (f:=23) rfl ?_);refine goesL_ (some 10) rfl rfl Try.func23 (by kernel_rfl) rfl #[.agg #[.string p,.string q]] rfl (by (try simp only [sM,sC,sN]);first|done|rfl) ?_;refine Calls.mono (spec_l01Seq.calls K p q false _ (hK K (Nat.le_refl _))) ?_;(try (case sS=>exact (st S).re));rintro e w4 ⟨rfl,hb⟩;refine ⟨_,rfl,?_⟩;replace BK3:=bnB BK3 hb;replace BK4:=bnB BK4 hb;replace S:=sb S hb;clear hb;have ⟨c0,c1,d0,d1⟩:=q2f BK3)
   go_meet
   case rel=>exact ⟨true,rfl,(fun h=>nomatch h),⟨bn BK3⟩,⟨bn BK4⟩,⟨st S⟩⟩
  have hV:Val (p,q):=val_of (hv rfl)
  obtain ⟨r,⟨K2,hK2⟩,_⟩:=both_star p q hV.one hV.le
  cases r
  ·go_wp2_with (first
    | ((with_reducible refine gate_callee (f:=23) rfl ?_);refine goesL_ (some 10) rfl rfl Try.func23 (by kernel_rfl) rfl #[.agg #[.string p,.string q]] rfl (by (try simp only [sM,sC,sN]);first|done|rfl) ?_;refine Calls.mono (spec_l01Seq.calls K p q true _ (hK K (Nat.le_refl _))) ?_;(try (case sS=>exact (st S).re));rintro e w4 ⟨rfl,hb⟩;refine ⟨_,rfl,?_⟩;replace BK3:=bnB BK3 hb;replace BK4:=bnB BK4 hb;replace S:=sb S hb;clear hb;have ⟨c0,c1,d0,d1⟩:=q2f BK3)
    | (go_at_call 24;refine Calls.mono (spec_l02Star.calls K2 p q false _ (hK2 K2 (Nat.le_refl _))) ?_;(try (case sS=>exact (st S).re));rintro e w4 ⟨rfl,hb⟩;replace BK3:=bnB BK3 hb;replace BK4:=bnB BK4 hb;replace S:=sb S hb;clear hb))
   go_meet
   case rel=>exact ⟨true,rfl,(fun h=>nomatch h),⟨bn BK3⟩,⟨bn BK4⟩,⟨st S⟩⟩
  ·go_wp2_with (first
    | ((with_reducible refine gate_callee (f:=23) rfl ?_);refine goesL_ (some 10) rfl rfl Try.func23 (by kernel_rfl) rfl #[.agg #[.string p,.string q]] rfl (by (try simp only [sM,sC,sN]);first|done|rfl) ?_;refine Calls.mono (spec_l01Seq.calls K p q true _ (hK K (Nat.le_refl _))) ?_;(try (case sS=>exact (st S).re));rintro e w4 ⟨rfl,hb⟩;refine ⟨_,rfl,?_⟩;replace BK3:=bnB BK3 hb;replace BK4:=bnB BK4 hb;replace S:=sb S hb;clear hb;have ⟨c0,c1,d0,d1⟩:=q2f BK3)
    | (go_at_call 24;refine Calls.mono (spec_l02Star.calls K2 p q true _ (hK2 K2 (Nat.le_refl _))) ?_;(try (case sS=>exact (st S).re));rintro e w4 ⟨rfl,hb⟩;replace BK3:=bnB BK3 hb;replace BK4:=bnB BK4 hb;replace S:=sb S hb;clear hb)
    | (go_at_call 35;refine Calls.mono (nextE w0 Hc 24 (by decide) ?sS) ?_;(try (case sS=>exact (st S).re));rintro e w4 ⟨v,rfl,v0,v1,T⟩;replace BK3:=bnS S BK3 T;replace BK4:=bnS S BK4 T;replace S:=sc S T;clear T))
   go_meet
   case rel=>exact ⟨_,rfl,fun _=>hV,⟨bn BK3⟩,⟨bn BK4⟩,⟨st S⟩⟩
 case rest =>
  clear S BK3 BK4 c0 c1 d0 d1
  obtain ⟨b,rfl,hV,BK3,BK4,S⟩:=hcut
  cases b
  rotate_left
  ·go_wp2_with ((with_reducible refine gate_callee (f:=36) rfl ?_);refine goesL_ (some 23) rfl rfl Try.func36 (by kernel_rfl) rfl #[.pointer (some ⟨g,0,none⟩)] rfl (by (try simp only [sM,sC,sN]);first|done|rfl) ?_;refine Calls.mono (drawW (w0:=w0) Hc ?sS) ?_;(try (case sS=>exact (st S).re));rintro e w4 ⟨a,b,rfl,hz,T⟩;refine ⟨_,rfl,?_⟩;replace BK4:=bnS S BK4 T;replace S:=sc S T;clear T;have ⟨a0,a1,e0,e1⟩:=q2f BK4)
   refine bodyPost_ret (results_cell_row rfl _ _ k4 25 #[.string a,.string b] (0,0) _ rfl (b2 BK4) Try.underlying25 rfl (by kernel_rfl)) rfl ?_
   exact ⟨_,_,rfl,(by omega),st S⟩
  have hV:=hV rfl
  have ⟨c0,c1,d0,d1⟩:=q2f BK3
  go_wp2_with (first
   | ((with_reducible refine gate_callee (f:=29) rfl ?_);refine goesL_ (some 25) rfl rfl Try.func29 (by kernel_rfl) rfl #[.agg #[.string p,.string q]] rfl (by (try simp only [sM,sC,sN]);first|done|rfl) ?_;refine Calls.mono (orbE hV _) ?_;(try (case sS=>exact (st S).re));rintro e w4 ⟨A,n,L,rfl,h1,hL,R0,hb⟩;refine ⟨_,rfl,?_⟩;have R:=aM (Kd.R_lower R0 (st S).keep.1);replace BK4:=bnB BK4 hb;replace S:=sb S hb;clear hb R0)
   | ((with_reducible refine gate_callee (f:=35) rfl ?_);refine goesL_ (some 30) rfl rfl Try.func35 (by kernel_rfl) rfl #[.pointer (some ⟨g,0,none⟩),.int .i64 (L.length:Int)] rfl (by (try simp only [sM,sC,sN]);first|done|rfl) ?_;refine Calls.mono (nextE w0 Hc (L.length:Int) (by omega) ?sS) ?_;(try (case sS=>exact (st S).re));rintro e w4 ⟨v,rfl,v0,v1,T⟩;refine ⟨_,rfl,?_⟩;replace BK4:=bnS S BK4 T;replace R:=roS S R T;replace S:=sc S T;clear T;obtain ⟨ad,x,rfl,hm,hx0,hx1⟩:=pickP R.out v0 (v1 (by omega));obtain ⟨hx2,hx3⟩:=hL x hm;have p1:(0 ≤ v) = True:=eq_true v0;have p2:(v < (L.length:Int)) = True:=eq_true (v1 (by omega));obtain ⟨f,r⟩:=x;dsimp only at hx0 hx1 hx2 hx3)
   | ((with_reducible refine gate_dst (N:=6) rfl ?_);refine box_event rfl (N:=6) rfl (cs:=#[.string ⟨#[]⟩,.string ⟨#[]⟩]) (t:=25) (by first|(go_simp;done)|(go_simp;rfl)) ?_;intro k6 hg w1 hbox hb;have G6:=geN S hg;have N46:=neN BK4 hg;have N64:=neN' BK4 hg;have n3:=N46.h;have n4:=N64.h;replace S:=sb S hb;replace BK4:=bnB BK4 hb;have BK6:=aM hbox;have ⟨a0,a1,e0,e1⟩:=q2f BK6;clear hb hbox hg)
   | ((with_reducible refine gate_callee (f:=35) rfl ?_);refine goesL_ (some 34) rfl rfl Try.func35 (by kernel_rfl) rfl #[.pointer (some ⟨g,0,none⟩),.int .i64 4] rfl (by (try simp only [sM,sC,sN]);first|done|rfl) ?_;refine Calls.mono (nextE w0 Hc 4 (by decide) ?sS) ?_;(try (case sS=>exact (st S).re));rintro e w4 ⟨v,rfl,v0,v1,T⟩;refine ⟨_,rfl,?_⟩;replace BK6:=bnS2 S BK6 T;replace BK4:=bnS S BK4 T;replace S:=sc S T;clear T v0 v1;have ⟨a0,a1,e0,e1⟩:=q2f BK4;have ⟨c0,c1,d0,d1⟩:=q2f BK6)
   | ((with_reducible refine gate_callee (f:=35) rfl ?_);refine goesL_ (some 38) rfl rfl Try.func35 (by kernel_rfl) rfl #[.pointer (some ⟨g,0,none⟩),.int .i64 3] rfl (by (try simp only [sM,sC,sN]);first|done|rfl) ?_;refine Calls.mono (nextE w0 Hc 3 (by decide) ?sS) ?_;(try (case sS=>exact (st S).re));rintro e w4 ⟨y,rfl,v0,v1,T⟩;refine ⟨_,rfl,?_⟩;replace BK6:=bnS S BK6 T;replace BK4:=bnS S BK4 T;replace S:=sc S T;clear T))
  ·clear p1 p2
   have hy:=v1 (by decide)
   have hw1:wrap64 (1 + y) = 1 + y:=wrS (by omega) (by omega)
   go_loopg [7,8] (1 + y).toNat (fun kq v1 v2 wc=>∃ (a:ByteArray) (k:Int),v1 = .string a ∧ v2 = .int .i64 k ∧ (kq:Int) = k ∧ a.size + kq ≤ 3 ∧ Aside0 (wc.heap[k4]? = some (.cells #[.string ⟨#[]⟩,.string ⟨#[]⟩] 25 (0,0))) ∧ Aside0 (wc.heap[k6]? = some (.cells #[.string f,.string r] 25 (0,0))) ∧ Aside0 (St w0 w wc g c))
   case atStart=>exact ⟨_,_,rfl,rfl,by omega,by show 0 + _ ≤ 3;omega,⟨bn BK4⟩,⟨bn BK6⟩,⟨st S⟩⟩
   case round =>
    clear S BK4 BK6 v0 v1
    obtain ⟨a,k,rfl,rfl,hk,hz,BK4,BK6,S⟩:=hrel
    by_cases ck:0 < k
    ·have d1:decide (0 < k) = true:=decide_eq_true ck
     go_wp2_with (first
      | ((with_reducible refine gate_dst (N:=45) rfl ?_);refine litS (w:=w) ?hg (N:=45) ?hd (st S).keep.1 [(⟨#[48]⟩:ByteArray),⟨#[49]⟩] ?hr (by decide) ?_;(case hd=>rfl);(case hg=>rfl);(case hr=>first|(go_simp;done)|(go_simp;rfl));intro A m w5 R hb;replace BK4:=bnB BK4 hb;replace BK6:=bnB BK6 hb;replace S:=sb S hb;clear hb)
      | ((with_reducible refine gate_callee (f:=35) rfl ?_);refine goesL_ (some 47) rfl rfl Try.func35 (by kernel_rfl) rfl #[.pointer (some ⟨g,0,none⟩),.int .i64 2] rfl (by (try simp only [sM,sC,sN]);first|done|rfl) ?_;refine Calls.mono (nextE w0 Hc 2 (by decide) ?sS) ?_;(try (case sS=>exact (st S).re));rintro e w4 ⟨x,rfl,v0,v1,T⟩;refine ⟨_,rfl,?_⟩;replace BK4:=bnS S BK4 T;replace BK6:=bnS S BK6 T;replace R:=roS S R T;replace S:=sc S T;clear T;obtain ⟨ad,s,rfl,hm,hx⟩:=pickS R.out v0 (v1 (by decide));have hs:=(by decide:∀ z ∈ [(⟨#[48]⟩:ByteArray),⟨#[49]⟩],z.size = 1) s hm;have p1:(0 ≤ x) = True:=eq_true v0;have p2:(x < 2) = True:=eq_true (v1 (by decide));have p3:(9223372036854775807 < a.size + s.size) = False:=eq_false (by omega);clear R hm))
     go_roundg (gk - 1)
     case measure=>omega
     case rel=>exact ⟨a ++ s,k - 1,rfl,by first|rfl|(rw [wrS (by omega) (by omega)]),by omega,by rw [ByteArray.size_append];omega,⟨bn BK4⟩,⟨bn BK6⟩,⟨st S⟩⟩
    ·have d1:decide (0 < k) = false:=decide_eq_false ck
     have ⟨c0,c1,d0,d1⟩:=q2f BK6
     have p3:(9223372036854775807 < a.size + f.size) = False:=eq_false (by omega)
     go_wp2_with ((with_reducible refine gate_callee (f:=40) rfl ?_);refine goesL_ (some 57) rfl rfl Try.func40 (by kernel_rfl) rfl #[.string (a ++ f),.string r] rfl (by (try simp only [sM,sC,sN]);first|done|rfl) ?_;refine Calls.mono (canonE (p:=a ++ f) (q:=r) (by omega) (by rw [ByteArray.size_append];omega) _) ?_;(try (case sS=>exact (st S).re));rintro e w4 ⟨p',q',rfl,hp,hb⟩;refine ⟨_,rfl,?_⟩;replace BK4:=bnB BK4 hb;replace S:=sb S hb;clear hb;have ⟨a0,a1,e0,e1⟩:=q2f BK4;rw [ByteArray.size_append] at hp)
     refine bodyPost_ret (results_cell_row rfl _ _ k4 25 #[.string p',.string q'] (0,0) _ rfl (b2 BK4) Try.underlying25 rfl (by kernel_rfl)) rfl ?_
     exact ⟨_,_,rfl,(by omega),st S⟩
  ·have BX:St w0 w w4.drew g c:=st S
   have K0:w4.drew.heap[k4]? = some (.cells #[.string ⟨#[]⟩,.string ⟨#[]⟩] 25 (0,0)):=bn BK4
   refine start_ (n:=12) (S:=fun _=>True) (ds:=[]) #[fF,fF,fF,fF,fF,fF,fF,fF,fF,fF,fF,fF] (by kernel_rfl) rfl rfl trivial (fun hHeld=>?_);refine with_tabW dtab14 dbits14 (fun HT_ HW_=>?_)
   generalize w4.drew = w5 at BX K0 hHeld ⊢
   refine pz 61 1 #[fF,tT,fF,fF,fF,fF,fF,fF,fF,fF,fF,fF] HT_ rfl rfl (by kernel_rfl) (fun _ _ _ h=>h) (by rfl) (by intro w';go_simp;with_reducible rfl) (by simp only [Act.put,sI,sZ,sS,i64_w,i32_w];rfl) ?_
   refine pz 66 6 #[fF,tT,fF,fF,fF,fF,tT,fF,fF,fF,fF,fF] HT_ rfl rfl (by kernel_rfl) (fun _ _ _ h=>h) (by rfl) (by intro w';go_simp;with_reducible rfl) (by simp only [Act.put,sI,sZ,sS,i64_w,i32_w];rfl) ?_
   refine inv_at [0,2,3,4,5,7,8,9,10,11] (fun a0 b a w'=>∃ A1 m1 x1 P1 s1 A2 m2 x2 P2 s2 p' q',a = putSel a0 b [(0,60,.slice A1 4 m1),(2,62,.int .i64 x1),(3,63,P1),(4,64,.string s1),(5,65,.slice A2 4 m2),(7,67,.int .i64 x2),(8,68,P2),(9,69,.string s2),(10,70,.agg #[.string p',.string q'])] ∧ J14 w0 w w' g c k4 b A1 m1 x1 P1 s1 A2 m2 x2 P2 s2 p' q') HT_.out HW_.out (by kernel_rfl) (by kernel_rfl) ?_ ?_ ?_
   ·exact ⟨none,0,0,.bool false,⟨#[]⟩,none,0,0,.bool false,⟨#[]⟩,⟨#[]⟩,⟨#[]⟩,by simp only [putSel,Bool.false_eq_true,if_false],⟨BX,fun _=>K0,(fun h=>absurd h (by decide)),(fun h=>absurd h (by decide)),(fun h=>absurd h (by decide)),(fun h=>absurd h (by decide)),(fun h=>absurd h (by decide)),(fun h=>absurd h (by decide)),(fun h=>absurd h (by decide)),(fun h=>absurd h (by decide)),(fun h=>absurd h (by decide)),(fun h=>absurd h (by decide))⟩⟩
   ·skip
    refine steps_cons ?_ ?_
    ·rintro b a w' ⟨A1,m1,x1,P1,s1,A2,m2,x2,P2,s2,p',q',ha,J⟩ hb_ hon hoff
     refine ⟨_,rfl,fun K hK=>?_⟩
     replace ha:=aM ha
     refine litS_step ?hg (N:=60) ?hd J.S.keep.1 [(⟨#[]⟩:ByteArray),⟨#[48]⟩,⟨#[49]⟩,⟨#[49,48]⟩] ?hr (by decide) ?_;(case hd=>rfl);(case hg=>rfl);(case hr=>first|(go_simp;done)|(go_simp;rfl))
     intro A m w6 R hb
     exact hK _ _ ⟨A,m,x1,P1,s1,A2,m2,x2,P2,s2,p',q',(by rw [ha.out];exact putSel_upk 0 hb_ rfl rfl rfl),⟨J.S.below hb,(fun h=>blk_below (J.k0 h) hb),(fun h=>absurd ((hoff 11 (by kernel_rfl)).symm.trans h) (by decide)),(fun _ _=>R),(fun h h'=>Kd.R_below (J.R2 h h') hb),J.h1,J.h2,(fun h=>absurd ((hoff 3 (by kernel_rfl)).symm.trans h) (by decide)),J.i2,J.z1,J.z2,J.zz⟩⟩
    refine steps_cons ?_ ?_
    ·rintro b a w' ⟨A1,m1,x1,P1,s1,A2,m2,x2,P2,s2,p',q',ha,J⟩ hb_ hon hoff
     refine ⟨_,rfl,fun K hK=>?_⟩
     replace ha:=aM ha
     have e61:a.tmps[61]? = some (.pointer (some ⟨g,0,none⟩)):=by rw [ha.out];exact (putSel_off rfl).trans rfl
     refine goes_ Try.func35 (by kernel_rfl) rfl #[.pointer (some ⟨g,0,none⟩),.int .i64 4] (by rfl) rfl rfl (by first|(simp only [sM,sC,sN,Act.eval,Array.getD_eq_getD_getElem?,Option.getD_some,e61];done)|(simp only [sM,sC,sN,Act.eval,Array.getD_eq_getD_getElem?,Option.getD_some,e61];rfl)) ?_
     refine Calls.mono (nextE w0 Hc 4 (by decide) J.S.re) ?_
     rintro e w6 ⟨x,rfl,v0,v1,T⟩
     exact ⟨_,rfl,hK _ _ ⟨A1,m1,x,P1,s1,A2,m2,x2,P2,s2,p',q',(by rw [ha.out];exact putSel_upk 1 hb_ rfl rfl rfl),⟨J.S.call T,(fun h=>kbS J.S G4.h (J.k0 h) T),(fun h=>absurd ((hoff 11 (by kernel_rfl)).symm.trans h) (by decide)),(fun h h'=>roD J.S (J.R1 h h') T),(fun h h'=>roD J.S (J.R2 h h') T),(fun _=>⟨v0,v1 (by decide)⟩),J.h2,(fun h=>absurd ((hoff 3 (by kernel_rfl)).symm.trans h) (by decide)),J.i2,J.z1,J.z2,J.zz⟩⟩⟩
    refine steps_cons ?_ ?_
    ·rintro b a w' ⟨A1,m1,x1,P1,s1,A2,m2,x2,P2,s2,p',q',ha,J⟩ hb_ hon hoff
     refine ⟨_,rfl,fun K hK=>?_⟩
     replace ha:=aM ha
     have e60:a.tmps[60]? = some (.slice A1 4 m1):=by rw [ha.out];exact putSel_on (e:=(0,60,.slice A1 4 m1)) 0 rfl rfl (hon 0 (by kernel_rfl)) rfl
     have e62:a.tmps[62]? = some (.int .i64 x1):=by rw [ha.out];exact putSel_on (e:=(2,62,.int .i64 x1)) 1 rfl rfl (hon 2 (by kernel_rfl)) rfl
     obtain ⟨x0,x3⟩:=J.h1 (hon 2 (by kernel_rfl))
     have p1:(0 ≤ x1) = True:=eq_true x0
     have p2:(x1 < 4) = True:=eq_true x3
     obtain ⟨ad,s,rfl,_,_⟩:=pickS (J.R1 (hon 0 (by kernel_rfl)) (hoff 11 (by kernel_rfl))) x0 x3
     refine value_ (w1:=w') (v:=.pointer (some (ad.add x1.toNat))) (by rfl) rfl ?_ ?_
     ·go_simp
      (try simp only [i64_w])
      try rfl
     exact hK _ _ ⟨some ad,m1,x1,.pointer (some (ad.add x1.toNat)),s1,A2,m2,x2,P2,s2,p',q',(by rw [ha.out];exact putSel_upk 2 hb_ rfl rfl rfl),⟨J.S,J.k0,(fun h=>absurd ((hoff 11 (by kernel_rfl)).symm.trans h) (by decide)),J.R1,J.R2,J.h1,J.h2,(fun _=>⟨_,rfl,rfl⟩),J.i2,J.z1,J.z2,J.zz⟩⟩
    refine steps_cons ?_ ?_
    ·rintro b a w' ⟨A1,m1,x1,P1,s1,A2,m2,x2,P2,s2,p',q',ha,J⟩ hb_ hon hoff
     refine ⟨_,rfl,fun K hK=>?_⟩
     replace ha:=aM ha
     obtain ⟨x0,x3⟩:=J.h1 (hon 2 (by kernel_rfl))
     obtain ⟨ad,rfl,rfl⟩:=J.i1 (hon 3 (by kernel_rfl))
     have e63:a.tmps[63]? = some (.pointer (some (ad.add x1.toNat))):=by rw [ha.out];exact putSel_on (e:=(3,63,.pointer (some (ad.add x1.toNat)))) 2 rfl rfl (hon 3 (by kernel_rfl)) rfl
     obtain ⟨ad',s,e1,hm,hx⟩:=pickS (J.R1 (hon 0 (by kernel_rfl)) (hoff 11 (by kernel_rfl))) x0 x3
     injection e1 with e1
     subst e1
     have hs:=(by decide:∀ z ∈ [(⟨#[]⟩:ByteArray),⟨#[48]⟩,⟨#[49]⟩,⟨#[49,48]⟩],z.size ≤ 2) s hm
     refine value_ (w1:=w') (v:=.string s) (by rfl) rfl ?_ ?_
     ·go_simp
      (try simp only [i64_w])
      try rfl
     exact hK _ _ ⟨some ad,m1,x1,.pointer (some (ad.add x1.toNat)),s,A2,m2,x2,P2,s2,p',q',(by rw [ha.out];exact putSel_upk 3 hb_ rfl rfl rfl),⟨J.S,J.k0,(fun h=>absurd ((hoff 11 (by kernel_rfl)).symm.trans h) (by decide)),J.R1,J.R2,J.h1,J.h2,J.i1,J.i2,(fun _=>hs),J.z2,J.zz⟩⟩
    refine steps_cons ?_ ?_
    ·rintro b a w' ⟨A1,m1,x1,P1,s1,A2,m2,x2,P2,s2,p',q',ha,J⟩ hb_ hon hoff
     refine ⟨_,rfl,fun K hK=>?_⟩
     replace ha:=aM ha
     refine litS_step ?hg (N:=65) ?hd J.S.keep.1 [(⟨#[48]⟩:ByteArray),⟨#[49]⟩,⟨#[48,49]⟩,⟨#[49,49,48]⟩] ?hr (by decide) ?_;(case hd=>rfl);(case hg=>rfl);(case hr=>first|(go_simp;done)|(go_simp;rfl))
     intro A m w6 R hb
     exact hK _ _ ⟨A1,m1,x1,P1,s1,A,m,x2,P2,s2,p',q',(by rw [ha.out];exact putSel_upk 4 hb_ rfl rfl rfl),⟨J.S.below hb,(fun h=>blk_below (J.k0 h) hb),(fun h=>absurd ((hoff 11 (by kernel_rfl)).symm.trans h) (by decide)),(fun h h'=>Kd.R_below (J.R1 h h') hb),(fun _ _=>R),J.h1,J.h2,J.i1,(fun h=>absurd ((hoff 8 (by kernel_rfl)).symm.trans h) (by decide)),J.z1,J.z2,J.zz⟩⟩
    refine steps_cons ?_ ?_
    ·rintro b a w' ⟨A1,m1,x1,P1,s1,A2,m2,x2,P2,s2,p',q',ha,J⟩ hb_ hon hoff
     refine ⟨_,rfl,fun K hK=>?_⟩
     replace ha:=aM ha
     have e66:a.tmps[66]? = some (.pointer (some ⟨g,0,none⟩)):=by rw [ha.out];exact (putSel_off rfl).trans rfl
     refine goes_ Try.func35 (by kernel_rfl) rfl #[.pointer (some ⟨g,0,none⟩),.int .i64 4] (by rfl) rfl rfl (by first|(simp only [sM,sC,sN,Act.eval,Array.getD_eq_getD_getElem?,Option.getD_some,e66];done)|(simp only [sM,sC,sN,Act.eval,Array.getD_eq_getD_getElem?,Option.getD_some,e66];rfl)) ?_
     refine Calls.mono (nextE w0 Hc 4 (by decide) J.S.re) ?_
     rintro e w6 ⟨x,rfl,v0,v1,T⟩
     exact ⟨_,rfl,hK _ _ ⟨A1,m1,x1,P1,s1,A2,m2,x,P2,s2,p',q',(by rw [ha.out];exact putSel_upk 5 hb_ rfl rfl rfl),⟨J.S.call T,(fun h=>kbS J.S G4.h (J.k0 h) T),(fun h=>absurd ((hoff 11 (by kernel_rfl)).symm.trans h) (by decide)),(fun h h'=>roD J.S (J.R1 h h') T),(fun h h'=>roD J.S (J.R2 h h') T),J.h1,(fun _=>⟨v0,v1 (by decide)⟩),J.i1,(fun h=>absurd ((hoff 8 (by kernel_rfl)).symm.trans h) (by decide)),J.z1,J.z2,J.zz⟩⟩⟩
    refine steps_cons ?_ ?_
    ·rintro b a w' ⟨A1,m1,x1,P1,s1,A2,m2,x2,P2,s2,p',q',ha,J⟩ hb_ hon hoff
     refine ⟨_,rfl,fun K hK=>?_⟩
     replace ha:=aM ha
     have e65:a.tmps[65]? = some (.slice A2 4 m2):=by rw [ha.out];exact putSel_on (e:=(5,65,.slice A2 4 m2)) 4 rfl rfl (hon 5 (by kernel_rfl)) rfl
     have e67:a.tmps[67]? = some (.int .i64 x2):=by rw [ha.out];exact putSel_on (e:=(7,67,.int .i64 x2)) 5 rfl rfl (hon 7 (by kernel_rfl)) rfl
     obtain ⟨x0,x3⟩:=J.h2 (hon 7 (by kernel_rfl))
     have p1:(0 ≤ x2) = True:=eq_true x0
     have p2:(x2 < 4) = True:=eq_true x3
     obtain ⟨ad,s,rfl,_,_⟩:=pickS (J.R2 (hon 5 (by kernel_rfl)) (hoff 11 (by kernel_rfl))) x0 x3
     refine value_ (w1:=w') (v:=.pointer (some (ad.add x2.toNat))) (by rfl) rfl ?_ ?_
     ·go_simp
      (try simp only [i64_w])
      try rfl
     exact hK _ _ ⟨A1,m1,x1,P1,s1,some ad,m2,x2,.pointer (some (ad.add x2.toNat)),s2,p',q',(by rw [ha.out];exact putSel_upk 6 hb_ rfl rfl rfl),⟨J.S,J.k0,(fun h=>absurd ((hoff 11 (by kernel_rfl)).symm.trans h) (by decide)),J.R1,J.R2,J.h1,J.h2,J.i1,(fun _=>⟨_,rfl,rfl⟩),J.z1,J.z2,J.zz⟩⟩
    refine steps_cons ?_ ?_
    ·rintro b a w' ⟨A1,m1,x1,P1,s1,A2,m2,x2,P2,s2,p',q',ha,J⟩ hb_ hon hoff
     refine ⟨_,rfl,fun K hK=>?_⟩
     replace ha:=aM ha
     obtain ⟨x0,x3⟩:=J.h2 (hon 7 (by kernel_rfl))
     obtain ⟨ad,rfl,rfl⟩:=J.i2 (hon 8 (by kernel_rfl))
     have e68:a.tmps[68]? = some (.pointer (some (ad.add x2.toNat))):=by rw [ha.out];exact putSel_on (e:=(8,68,.pointer (some (ad.add x2.toNat)))) 6 rfl rfl (hon 8 (by kernel_rfl)) rfl
     obtain ⟨ad',s,e1,hm,hx⟩:=pickS (J.R2 (hon 5 (by kernel_rfl)) (hoff 11 (by kernel_rfl))) x0 x3
     injection e1 with e1
     subst e1
     have hs:=(by decide:∀ z ∈ [(⟨#[48]⟩:ByteArray),⟨#[49]⟩,⟨#[48,49]⟩,⟨#[49,49,48]⟩],1 ≤ z.size ∧ z.size ≤ 3) s hm
     refine value_ (w1:=w') (v:=.string s) (by rfl) rfl ?_ ?_
     ·go_simp
      (try simp only [i64_w])
      try rfl
     exact hK _ _ ⟨A1,m1,x1,P1,s1,some ad,m2,x2,.pointer (some (ad.add x2.toNat)),s,p',q',(by rw [ha.out];exact putSel_upk 7 hb_ rfl rfl rfl),⟨J.S,J.k0,(fun h=>absurd ((hoff 11 (by kernel_rfl)).symm.trans h) (by decide)),J.R1,J.R2,J.h1,J.h2,J.i1,J.i2,J.z1,(fun _=>hs),J.zz⟩⟩
    refine steps_cons ?_ ?_
    ·rintro b a w' ⟨A1,m1,x1,P1,s1,A2,m2,x2,P2,s2,p',q',ha,J⟩ hb_ hon hoff
     refine ⟨_,rfl,fun K hK=>?_⟩
     replace ha:=aM ha
     have e64:a.tmps[64]? = some (.string s1):=by rw [ha.out];exact putSel_on (e:=(4,64,.string s1)) 3 rfl rfl (hon 4 (by kernel_rfl)) rfl
     have e69:a.tmps[69]? = some (.string s2):=by rw [ha.out];exact putSel_on (e:=(9,69,.string s2)) 7 rfl rfl (hon 9 (by kernel_rfl)) rfl
     have z1:=J.z1 (hon 4 (by kernel_rfl))
     have z2:=J.z2 (hon 9 (by kernel_rfl))
     refine goes_ Try.func40 (by kernel_rfl) rfl #[.string s1,.string s2] (by rfl) rfl rfl (by first|(simp only [sM,sC,sN,Act.eval,Array.getD_eq_getD_getElem?,Option.getD_some,e64,e69];done)|(simp only [sM,sC,sN,Act.eval,Array.getD_eq_getD_getElem?,Option.getD_some,e64,e69];rfl)) ?_
     refine Calls.mono (canonE (p:=s1) (q:=s2) (by omega) (by omega) _) ?_
     rintro e w6 ⟨y,z,rfl,hp,hb⟩
     exact ⟨_,rfl,hK _ _ ⟨A1,m1,x1,P1,s1,A2,m2,x2,P2,s2,y,z,(by rw [ha.out];exact putSel_upk 8 hb_ rfl rfl rfl),⟨J.S.below hb,(fun h=>blk_below (J.k0 h) hb),(fun h=>absurd ((hoff 11 (by kernel_rfl)).symm.trans h) (by decide)),(fun h h'=>Kd.R_below (J.R1 h h') hb),(fun h h'=>Kd.R_below (J.R2 h h') hb),J.h1,J.h2,J.i1,J.i2,J.z1,J.z2,(fun _=>by omega)⟩⟩⟩
    refine steps_cons ?_ ?_
    ·rintro b a w' ⟨A1,m1,x1,P1,s1,A2,m2,x2,P2,s2,p',q',ha,J⟩ hb_ hon hoff
     refine ⟨_,rfl,fun K hK=>?_⟩
     replace ha:=aM ha
     have e4:a.tmps[4]? = some (.pointer (some ⟨k4,0,none⟩)):=by rw [ha.out];exact (putSel_off rfl).trans rfl
     have e70:a.tmps[70]? = some (.agg #[.string p',.string q']):=by rw [ha.out];exact putSel_on (e:=(10,70,.agg #[.string p',.string q'])) 8 rfl rfl (hon 10 (by kernel_rfl)) rfl
     have ⟨a0,a1,e0,e1⟩:=q2f ⟨J.k0 hb_⟩
     refine skip_ (w1:=?_) (by rfl) rfl ?_ ?_
     rotate_left
     ·go_simp
      rfl
     have ABS:∀ {p:Prop},up b 11 11 = false → p:=fun h=>absurd ((up_self b 11).symm.trans h) (by decide)
     exact hK _ _ ⟨A1,m1,x1,P1,s1,A2,m2,x2,P2,s2,p',q',(by rw [ha.out];exact putSel_none (v:=undef) rfl),⟨st (w0:=w0) (w:=w) (W:=w') ⟨J.S⟩,ABS,(fun _=>b2 ⟨J.k0 hb_⟩),(fun _ h=>ABS h),(fun _ h=>ABS h),J.h1,J.h2,J.i1,J.i2,J.z1,J.z2,J.zz⟩⟩
    exact steps_nil
   rintro b a w9 hall ⟨A1,m1,x1,P1,s1,A2,m2,x2,P2,s2,p',q',ha,J⟩
   subst ha
   simp only [putSel,hall 0 (by kernel_rfl),hall 2 (by kernel_rfl),hall 3 (by kernel_rfl),hall 4 (by kernel_rfl),hall 5 (by kernel_rfl),hall 7 (by kernel_rfl),hall 8 (by kernel_rfl),hall 9 (by kernel_rfl),hall 10 (by kernel_rfl),if_true,Act.put,sI,sZ,sS]
   (try go_wp2)
   refine bodyPost_ret (results_cell_row rfl _ _ k4 25 #[.string p',.string q'] (0,0) _ rfl (J.k1 (hall 11 (by kernel_rfl))) Try.underlying25 rfl (by kernel_rfl)) rfl ?_
   exact ⟨_,_,rfl,(by have:=J.zz (hall 10 (by kernel_rfl));omega),J.S⟩
  ·refine bodyPost_ret (results_cell_row rfl _ _ k4 25 #[.string f,.string r] (0,0) _ rfl (b2 BK4) Try.underlying25 rfl (by kernel_rfl)) rfl ?_
   exact ⟨_,_,rfl,(by omega),st S⟩
end
section
variable {w0 w:World} {g:Nat} {c:List Int}
end
theorem fromE {w W:World} {A:Option Addr} {n:Nat} {l:List Int} (hr:Kd.C (Kd.int .u8) w A l.length l) (hn:l.length ≤ n) (hc:bytesL l) (hB:Below w.heap.size w W) :
  Calls Try.prog 17 #[.slice A l.length n] W fun e w'=>∃ g,e = .returned (.pointer (some ⟨g,0,none⟩)) ∧ St w w' w' g l ∧ Below W.heap.size W w':=by
 obtain ⟨h,K,hK⟩:=ev_from hc
 refine (spec_l01From.calls K A n l l 0 h w W hB hr hn (hK K (Nat.le_refl _))).mono ?_
 rintro e w' ⟨g,rfl,hI,h1,h2⟩
 exact ⟨g,rfl,⟨⟨0,h,hI,by unfold atL;omega⟩,h1,KeepBut.refl _ _ _,hI.lt,h1.size⟩,h2⟩
theorem neG {w0 w W:World} {g k:Nat} {c:List Int} {cs:Array Value} {p:Nat × Nat} (S:St w0 w W g c) (h:W.heap[k]? = some (.cells cs 25 p)):k ≠ g:=by
 rintro rfl
 obtain ⟨a,x,⟨A0,c0,h1,_⟩,_⟩:=S.src
 rw [h] at h1
 injection h1 with h1
 injection h1 with _ h1
 exact absurd h1 (by decide)
theorem kbN {w0 W V:World} {g k:Nat} {c:List Int} {o:Obj} (h:W.heap[k]? = some o) (hn:k ≠ g) (T:St w0 W V g c):V.heap[k]? = some o:=KeepBut.blk T.keep h hn (by simp)
theorem kbn {w0 W V V2:World} {g k:Nat} {c:List Int} {o:Obj} [s:Sn k W V] (h:Aside0 (W.heap[k]? = some o)) (hn:k ≠ g) (T:St w0 V V2 g c):Aside0 (V2.heap[k]? = some o):=⟨kbN (bn h) hn T⟩
theorem far2 {W:World} {k k':Nat} {o:Obj} {x y:Value} (h:W.heap[k]? = some o) (hn:k ≠ k'):((W.setCell ⟨k',0,none⟩ x).setCell ⟨k',1,none⟩ y).heap[k]? = some o :=
 (Below.heap_setCell _ ⟨k',1,none⟩ y k hn).trans ((Below.heap_setCell W ⟨k',0,none⟩ x k hn).trans h)
theorem swB {w W V:World} [s:Sw w.heap.size W V] (h:Below w.heap.size w W):Below w.heap.size w V:=s.b w (Nat.le_refl _) h
section
variable {w:World} {A:Option Addr} {n:Nat} {l:List Int}
set_option maxHeartbeats 16000000 in
set_option maxRecDepth 100000 in
theorem draw5 (hr:Kd.C (Kd.int .u8) w A l.length l) (hn:l.length ≤ n) (Hc:bytesL l):Calls Try.prog 5 #[.slice A l.length n] w fun e w'=>∃ p q p1 q1,e = .returned (.tuple #[.agg #[.string p,.string q],.agg #[.string p1,.string q1]]) ∧ p.size + q.size ≤ 100 ∧ p1.size + q1.size ≤ 100 ∧ Below w.heap.size w w':=by
 have hu25:=Try.underlying25
 have HB:=aM (Below.refl w.heap.size w)
 go_enter Try.func5,Try.ntmps5
 go_wp2_with (first
  | ((with_reducible refine gate_dst (N:=2) rfl ?_);refine box_event rfl (N:=2) rfl (cs:=#[.string ⟨#[]⟩,.string ⟨#[]⟩]) (t:=25) (by first|(go_simp;done)|(go_simp;rfl)) ?_;intro k2 hg w1 hbox hb;have G2:Ge w.heap.size k2:=⟨hg ▸ (bb HB).size⟩;replace HB:=bs HB hb;have BK2:=aM hbox;clear hb hbox hg)
  | ((with_reducible refine gate_dst (N:=3) rfl ?_);refine box_event rfl (N:=3) rfl (cs:=#[.string ⟨#[]⟩,.string ⟨#[]⟩]) (t:=25) (by first|(go_simp;done)|(go_simp;rfl)) ?_;intro k3 hg w1 hbox hb;have G3:Ge w.heap.size k3:=⟨hg ▸ (bb HB).size⟩;have N23:=neN BK2 hg;have N32:=neN' BK2 hg;have n23:=N23.h;have n32:=N32.h;replace HB:=bs HB hb;replace BK2:=bnB BK2 hb;have BK3:=aM hbox;clear hb hbox hg)
  | ((with_reducible refine gate_callee (f:=17) rfl ?_);refine goesL_ (some 7) rfl rfl Try.func17 (by kernel_rfl) rfl #[.slice A l.length n] rfl (by (try simp only [sM,sC,sN]);first|done|rfl) ?_;refine Calls.mono (fromE hr hn Hc (bb HB)) ?_;(try (case sS=>exact (st S).re));rintro e w5 ⟨g,rfl,S0,hb⟩;refine ⟨_,rfl,?_⟩;replace BK2:=bnB BK2 hb;have H2:=neG S0 BK2.out;replace BK3:=bnB BK3 hb;have H3:=neG S0 BK3.out;have S:=aM S0;clear S0 HB hb)
  | ((with_reducible refine gate_callee (f:=18) rfl ?_);refine goesL_ (some 9) rfl rfl Try.func18 (by kernel_rfl) rfl #[.pointer (some ⟨g,0,none⟩)] rfl (by (try simp only [sM,sC,sN]);first|done|rfl) ?_;refine Calls.mono (draw6 (w0:=w) Hc ?sS) ?_;(try (case sS=>exact (st S).re));rintro e w4 ⟨p,q,rfl,hz,T⟩;refine ⟨_,rfl,?_⟩;replace BK2:=kbn BK2 H2 T;replace BK3:=kbn BK3 H3 T;replace S:=sc S T;clear T)
  | ((with_reducible refine gate_dst (N:=5) rfl ?_);refine box_event rfl (N:=5) rfl (cs:=#[.string ⟨#[]⟩,.string ⟨#[]⟩]) (t:=25) (by first|(go_simp;done)|(go_simp;rfl)) ?_;intro k5 hg w1 hbox hb;have G5:=geN S hg;have GW5:Ge w.heap.size k5:=⟨Nat.le_trans S.out.le G5.h⟩;have N25:=neN BK2 hg;have N52:=neN' BK2 hg;have n25:=N25.h;have n52:=N52.h;have N35:=neN BK3 hg;have N53:=neN' BK3 hg;have n35:=N35.h;have n53:=N53.h;replace S:=sb S hb;replace BK2:=bnB BK2 hb;replace BK3:=bnB BK3 hb;have BK5:=aM hbox;have ⟨a0,a1,e0,e1⟩:=q2f BK5;clear hb hbox hg))
 have SX:St w w5 ((w1.setCell ⟨k5,0,none⟩ (.string p)).setCell ⟨k5,1,none⟩ (.string q)).drew g l:=st S
 have B2:((w1.setCell ⟨k5,0,none⟩ (.string p)).setCell ⟨k5,1,none⟩ (.string q)).drew.heap[k2]? = _:=bn BK2
 have B3:((w1.setCell ⟨k5,0,none⟩ (.string p)).setCell ⟨k5,1,none⟩ (.string q)).drew.heap[k3]? = _:=bn BK3
 have B5:=yD (b2 (V:=w1) (p:=.string p) (q:=.string q) BK5)
 have H5:k5 ≠ g:=fun e=>by have:=S.out.lt;have:=G5.h;omega
 refine start_ (n:=6) (S:=fun w'=>w'.cell? ⟨k5,0,none⟩ = some (.string p) ∧ w'.cell? ⟨k5,1,none⟩ = some (.string q)) (ds:=[4,5]) #[fF,fF,fF,fF,fF,fF] (by kernel_rfl) rfl rfl ⟨(blk_cell B5 0).trans rfl,(blk_cell B5 1).trans rfl⟩ (fun hHeld=>?_)
 generalize ((w1.setCell ⟨k5,0,none⟩ (.string p)).setCell ⟨k5,1,none⟩ (.string q)).drew = w6 at SX B2 B3 B5 hHeld ⊢
 refine pure_ (i:=1) (N:=some 11) (v:=?_) (a':=?_) #[fF,tT,fF,fF,fF,fF] rfl rfl (by kernel_rfl) (fun _ _ _ h=>h) (Or.inl ⟨by rfl,?_⟩) ?_ ?_
 rotate_left
 ·intro w'
  go_simp
  with_reducible rfl
 rotate_left
 ·simp only [Act.put,sI,sZ,sS,i64_w,i32_w]
  rfl
 refine take_ (i:=0) (N:=some 10) (v:=?_) (a':=?_) #[tT,tT,fF,fF,fF,fF] rfl rfl (by kernel_rfl) (fun _ _ _ h=>h) (Or.inl ⟨by rfl,?_⟩) hHeld ?_ ?_
 rotate_left
 ·rintro w' ⟨s0,s1⟩
  go_simp
  with_reducible rfl
 rotate_left
 ·simp only [Act.put,sI,sZ,sS,i64_w,i32_w]
  rfl
 refine take_ (i:=2) (N:=some 12) (v:=?_) (a':=?_) #[tT,tT,tT,fF,fF,fF] rfl rfl (by kernel_rfl) (fun _ _ _ h=>h) (Or.inl ⟨by rfl,?_⟩) hHeld ?_ ?_
 rotate_left
 ·rintro w' ⟨s0,s1⟩
  go_simp
  with_reducible rfl
 rotate_left
 ·simp only [Act.put,sI,sZ,sS,i64_w,i32_w]
  rfl
 refine one_ (i:=3) (N:=some 13) #[tT,tT,tT,tT,fF,fF] rfl rfl (by kernel_rfl) (by decide) (fun K hK=>?_)
 refine stepD hK Try.func19 (by kernel_rfl) rfl #[.pointer (some ⟨g,0,none⟩),.agg #[.string p,.string q]] (by rfl) rfl rfl (by (try simp only [sM,sC,sN]);first|done|rfl) (drawP Hc (by omega) SX.re) ?_
 rintro e w7 ⟨p1,q1,rfl,zp1,T⟩
 replace B2:=kbN B2 H2 T
 replace B3:=kbN B3 H3 T
 replace B5:=kbN B5 H5 T
 replace SX:=SX.call T
 refine ⟨_,rfl,⟨(blk_cell B5 0).trans rfl,(blk_cell B5 1).trans rfl⟩,fun hHeld=>norm_ (a':=_) (by show Act.put _ _ _=_;simp only [Act.put,sI,sZ,sS,i64_w,i32_w];rfl) ?_⟩
 clear hK K T
 have LB:=SX.bel
 have BK2:=aM B2
 have BK3:=aM B3
 have ⟨x0,y0,r0,d0⟩:=q2f BK2
 refine last_ (i:=4) (N:=none) #[tT,tT,tT,tT,tT,fF] rfl rfl (by kernel_rfl) (by decide) (fun K hK=>?_)
 refine skip_ (w1:=?_) (by rfl) rfl ?_ ?_
 rotate_left
 ·go_simp
  rfl
 refine hK _ _ ?_
 clear hK K x0 y0 r0 d0
 have F2:=b2 (V:=w7) (p:=.string p) (q:=.string q) BK2
 replace BK3:=aM (bn (V:=((w7.setCell ⟨k2,0,none⟩ (.string p)).setCell ⟨k2,1,none⟩ (.string q))) BK3)
 replace LB:=swB (V:=((w7.setCell ⟨k2,0,none⟩ (.string p)).setCell ⟨k2,1,none⟩ (.string q))) LB
 clear BK2
 generalize ((w7.setCell ⟨k2,0,none⟩ (.string p)).setCell ⟨k2,1,none⟩ (.string q)) = w8 at F2 BK3 LB ⊢
 have ⟨x0,y0,r0,d0⟩:=q2f BK3
 refine last_ (i:=5) (N:=none) #[tT,tT,tT,tT,tT,tT] rfl rfl (by kernel_rfl) (by decide) (fun K hK=>?_)
 refine skip_ (w1:=?_) (by rfl) rfl ?_ ?_
 rotate_left
 ·go_simp
  rfl
 refine hK _ _ ?_
 clear hK K x0 y0 r0 d0
 have F3:=b2 (V:=w8) (p:=.string p1) (q:=.string q1) BK3
 replace F2:=far2 (x:=.string p1) (y:=.string q1) F2 n23
 replace LB:=swB (V:=((w8.setCell ⟨k3,0,none⟩ (.string p1)).setCell ⟨k3,1,none⟩ (.string q1))) LB
 clear BK3
 generalize ((w8.setCell ⟨k3,0,none⟩ (.string p1)).setCell ⟨k3,1,none⟩ (.string q1)) = w9 at F2 F3 LB ⊢
 refine done_ (by kernel_rfl) ?_
 (try go_wp2)
 refine bodyPost_ret (results_cc rfl _ _ k2 k3 25 25 #[.string p,.string q] #[.string p1,.string q1] (0,0) (0,0) _ _ rfl F2 Try.underlying25 rfl (by kernel_rfl) rfl F3 Try.underlying25 rfl (by kernel_rfl)) rfl ?_
 exact ⟨_,_,_,_,rfl,by omega,by omega,LB⟩
def dT30:Bool × List (List Nat × List Nat):=(true,[([],[]),([],[]),([],[]),([1,2],[1,2]),([],[]),([],[]),([4,5,3],[4,5]),([],[]),([],[]),([7,8,6],[7,8]),([0,9,0],[0]),([3,10,0,1,2,3,10],[3]),([6,11,0,1,2,3,4,5,6,10,11],[6]),([9,12,0,1,2,3,4,5,6,7,8,9,10,11,12],[9])])
theorem dtab30:rtab .any (opsOf Try.f30 3) = dT30:=by kernel_rfl
theorem dbits30:waitsOk dT30.2 [0,0,0,6,0,0,62,0,0,510,1023,2047,4095,8191] = true:=by kernel_rfl
set_option maxHeartbeats 16000000 in
set_option maxRecDepth 100000 in
theorem draw30 (hr:Kd.C (Kd.int .u8) w A l.length l) (hn:l.length ≤ n) (Hc:bytesL l):Calls Try.prog 30 #[.slice A l.length n] w fun e w'=>∃ p q p1 q1 p2 q2 p3 q3,e = .returned (.tuple #[.agg #[.string p,.string q],.agg #[.string p1,.string q1],.agg #[.string p2,.string q2],.agg #[.string p3,.string q3]]) ∧ p.size + q.size ≤ 100 ∧ p1.size + q1.size ≤ 100 ∧ p2.size + q2.size ≤ 100 ∧ p3.size + q3.size ≤ 100 ∧ Below w.heap.size w w':=by
 have hu25:=Try.underlying25
 have HB:=aM (Below.refl w.heap.size w)
 go_enter Try.func30,Try.ntmps30
 go_wp2_with (first
  | ((with_reducible refine gate_dst (N:=2) rfl ?_);refine box_event rfl (N:=2) rfl (cs:=#[.string ⟨#[]⟩,.string ⟨#[]⟩]) (t:=25) (by first|(go_simp;done)|(go_simp;rfl)) ?_;intro k2 hg w1 hbox hb;have G2:Ge w.heap.size k2:=⟨hg ▸ (bb HB).size⟩;replace HB:=bs HB hb;have BK2:=aM hbox;clear hb hbox hg)
  | ((with_reducible refine gate_dst (N:=3) rfl ?_);refine box_event rfl (N:=3) rfl (cs:=#[.string ⟨#[]⟩,.string ⟨#[]⟩]) (t:=25) (by first|(go_simp;done)|(go_simp;rfl)) ?_;intro k3 hg w1 hbox hb;have G3:Ge w.heap.size k3:=⟨hg ▸ (bb HB).size⟩;have N23:=neN BK2 hg;have N32:=neN' BK2 hg;have n23:=N23.h;have n32:=N32.h;replace HB:=bs HB hb;replace BK2:=bnB BK2 hb;have BK3:=aM hbox;clear hb hbox hg)
  | ((with_reducible refine gate_dst (N:=4) rfl ?_);refine box_event rfl (N:=4) rfl (cs:=#[.string ⟨#[]⟩,.string ⟨#[]⟩]) (t:=25) (by first|(go_simp;done)|(go_simp;rfl)) ?_;intro k4 hg w1 hbox hb;have G4:Ge w.heap.size k4:=⟨hg ▸ (bb HB).size⟩;have N24:=neN BK2 hg;have N42:=neN' BK2 hg;have n24:=N24.h;have n42:=N42.h;have N34:=neN BK3 hg;have N43:=neN' BK3 hg;have n34:=N34.h;have n43:=N43.h;replace HB:=bs HB hb;replace BK2:=bnB BK2 hb;replace BK3:=bnB BK3 hb;have BK4:=aM hbox;clear hb hbox hg)
  | ((with_reducible refine gate_dst (N:=5) rfl ?_);refine box_event rfl (N:=5) rfl (cs:=#[.string ⟨#[]⟩,.string ⟨#[]⟩]) (t:=25) (by first|(go_simp;done)|(go_simp;rfl)) ?_;intro k5 hg w1 hbox hb;have G5:Ge w.heap.size k5:=⟨hg ▸ (bb HB).size⟩;have N25:=neN BK2 hg;have N52:=neN' BK2 hg;have n25:=N25.h;have n52:=N52.h;have N35:=neN BK3 hg;have N53:=neN' BK3 hg;have n35:=N35.h;have n53:=N53.h;have N45:=neN BK4 hg;have N54:=neN' BK4 hg;have n45:=N45.h;have n54:=N54.h;replace HB:=bs HB hb;replace BK2:=bnB BK2 hb;replace BK3:=bnB BK3 hb;replace BK4:=bnB BK4 hb;have BK5:=aM hbox;clear hb hbox hg)
  | ((with_reducible refine gate_callee (f:=17) rfl ?_);refine goesL_ (some 9) rfl rfl Try.func17 (by kernel_rfl) rfl #[.slice A l.length n] rfl (by (try simp only [sM,sC,sN]);first|done|rfl) ?_;refine Calls.mono (fromE hr hn Hc (bb HB)) ?_;(try (case sS=>exact (st S).re));rintro e w5 ⟨g,rfl,S0,hb⟩;refine ⟨_,rfl,?_⟩;replace BK2:=bnB BK2 hb;have H2:=neG S0 BK2.out;replace BK3:=bnB BK3 hb;have H3:=neG S0 BK3.out;replace BK4:=bnB BK4 hb;have H4:=neG S0 BK4.out;replace BK5:=bnB BK5 hb;have H5:=neG S0 BK5.out;have S:=aM S0;clear S0 HB hb)
  | ((with_reducible refine gate_callee (f:=18) rfl ?_);refine goesL_ (some 11) rfl rfl Try.func18 (by kernel_rfl) rfl #[.pointer (some ⟨g,0,none⟩)] rfl (by (try simp only [sM,sC,sN]);first|done|rfl) ?_;refine Calls.mono (draw6 (w0:=w) Hc ?sS) ?_;(try (case sS=>exact (st S).re));rintro e w4 ⟨p,q,rfl,hz,T⟩;refine ⟨_,rfl,?_⟩;replace BK2:=kbn BK2 H2 T;replace BK3:=kbn BK3 H3 T;replace BK4:=kbn BK4 H4 T;replace BK5:=kbn BK5 H5 T;replace S:=sc S T;clear T)
  | ((with_reducible refine gate_dst (N:=7) rfl ?_);refine box_event rfl (N:=7) rfl (cs:=#[.string ⟨#[]⟩,.string ⟨#[]⟩]) (t:=25) (by first|(go_simp;done)|(go_simp;rfl)) ?_;intro k7 hg w1 hbox hb;have G7:=geN S hg;have GW7:Ge w.heap.size k7:=⟨Nat.le_trans S.out.le G7.h⟩;have N27:=neN BK2 hg;have N72:=neN' BK2 hg;have n27:=N27.h;have n72:=N72.h;have N37:=neN BK3 hg;have N73:=neN' BK3 hg;have n37:=N37.h;have n73:=N73.h;have N47:=neN BK4 hg;have N74:=neN' BK4 hg;have n47:=N47.h;have n74:=N74.h;have N57:=neN BK5 hg;have N75:=neN' BK5 hg;have n57:=N57.h;have n75:=N75.h;replace S:=sb S hb;replace BK2:=bnB BK2 hb;replace BK3:=bnB BK3 hb;replace BK4:=bnB BK4 hb;replace BK5:=bnB BK5 hb;have BK7:=aM hbox;have ⟨a0,a1,e0,e1⟩:=q2f BK7;clear hb hbox hg))
 have SX:St w w5 ((w1.setCell ⟨k7,0,none⟩ (.string p)).setCell ⟨k7,1,none⟩ (.string q)).drew g l:=st S
 have B2:((w1.setCell ⟨k7,0,none⟩ (.string p)).setCell ⟨k7,1,none⟩ (.string q)).drew.heap[k2]? = _:=bn BK2
 have B3:((w1.setCell ⟨k7,0,none⟩ (.string p)).setCell ⟨k7,1,none⟩ (.string q)).drew.heap[k3]? = _:=bn BK3
 have B4:((w1.setCell ⟨k7,0,none⟩ (.string p)).setCell ⟨k7,1,none⟩ (.string q)).drew.heap[k4]? = _:=bn BK4
 have B5:((w1.setCell ⟨k7,0,none⟩ (.string p)).setCell ⟨k7,1,none⟩ (.string q)).drew.heap[k5]? = _:=bn BK5
 have B7:=yD (b2 (V:=w1) (p:=.string p) (q:=.string q) BK7)
 have H7:k7 ≠ g:=fun e=>by have:=S.out.lt;have:=G7.h;omega
 refine start_ (n:=14) (S:=fun w'=>w'.cell? ⟨k7,0,none⟩ = some (.string p) ∧ w'.cell? ⟨k7,1,none⟩ = some (.string q)) (ds:=[10,11,12,13]) #[fF,fF,fF,fF,fF,fF,fF,fF,fF,fF,fF,fF,fF,fF] (by kernel_rfl) rfl rfl ⟨(blk_cell B7 0).trans rfl,(blk_cell B7 1).trans rfl⟩ (fun hHeld=>?_)
 refine with_tabW dtab30 dbits30 (fun HT_ HW_=>?_)
 generalize ((w1.setCell ⟨k7,0,none⟩ (.string p)).setCell ⟨k7,1,none⟩ (.string q)).drew = w6 at SX B2 B3 B4 B5 B7 hHeld ⊢
 refine pz 13 1 #[fF,tT,fF,fF,fF,fF,fF,fF,fF,fF,fF,fF,fF,fF] HT_ rfl rfl (by kernel_rfl) (fun _ _ _ h=>h) (by rfl) (by intro w';go_simp;with_reducible rfl) (by simp only [Act.put,sI,sZ,sS,i64_w,i32_w];rfl) ?_
 refine pz 16 4 #[fF,tT,fF,fF,tT,fF,fF,fF,fF,fF,fF,fF,fF,fF] HT_ rfl rfl (by kernel_rfl) (fun _ _ _ h=>h) (by rfl) (by intro w';go_simp;with_reducible rfl) (by simp only [Act.put,sI,sZ,sS,i64_w,i32_w];rfl) ?_
 refine pz 19 7 #[fF,tT,fF,fF,tT,fF,fF,tT,fF,fF,fF,fF,fF,fF] HT_ rfl rfl (by kernel_rfl) (fun _ _ _ h=>h) (by rfl) (by intro w';go_simp;with_reducible rfl) (by simp only [Act.put,sI,sZ,sS,i64_w,i32_w];rfl) ?_
 refine tz 12 0 #[tT,tT,fF,fF,tT,fF,fF,tT,fF,fF,fF,fF,fF,fF] HT_ HW_ hHeld rfl rfl (by kernel_rfl) (fun _ _ _ h=>h) (by rfl) (by rintro w' ⟨s0,s1⟩;go_simp;with_reducible rfl) (by simp only [Act.put,sI,sZ,sS,i64_w,i32_w];rfl) ?_
 refine tz 14 2 #[tT,tT,tT,fF,tT,fF,fF,tT,fF,fF,fF,fF,fF,fF] HT_ HW_ hHeld rfl rfl (by kernel_rfl) (fun _ _ _ h=>h) (by rfl) (by rintro w' ⟨s0,s1⟩;go_simp;with_reducible rfl) (by simp only [Act.put,sI,sZ,sS,i64_w,i32_w];rfl) ?_
 refine tz 17 5 #[tT,tT,tT,fF,tT,tT,fF,tT,fF,fF,fF,fF,fF,fF] HT_ HW_ hHeld rfl rfl (by kernel_rfl) (fun _ _ _ h=>h) (by rfl) (by rintro w' ⟨s0,s1⟩;go_simp;with_reducible rfl) (by simp only [Act.put,sI,sZ,sS,i64_w,i32_w];rfl) ?_
 refine tz 20 8 #[tT,tT,tT,fF,tT,tT,fF,tT,tT,fF,fF,fF,fF,fF] HT_ HW_ hHeld rfl rfl (by kernel_rfl) (fun _ _ _ h=>h) (by rfl) (by rintro w' ⟨s0,s1⟩;go_simp;with_reducible rfl) (by simp only [Act.put,sI,sZ,sS,i64_w,i32_w];rfl) ?_
 refine one_ (i:=3) (N:=some 15) #[tT,tT,tT,tT,tT,tT,fF,tT,tT,fF,fF,fF,fF,fF] rfl rfl (one_of HT_.out (by kernel_rfl)) (by decide) (fun K hK=>?_)
 refine stepD hK Try.func19 (by kernel_rfl) rfl #[.pointer (some ⟨g,0,none⟩),.agg #[.string p,.string q]] (by rfl) rfl rfl (by (try simp only [sM,sC,sN]);first|done|rfl) (drawP Hc (by omega) SX.re) ?_
 rintro e w7 ⟨p1,q1,rfl,zp1,T⟩
 replace B2:=kbN B2 H2 T
 replace B3:=kbN B3 H3 T
 replace B4:=kbN B4 H4 T
 replace B5:=kbN B5 H5 T
 replace B7:=kbN B7 H7 T
 replace SX:=SX.call T
 refine ⟨_,rfl,⟨(blk_cell B7 0).trans rfl,(blk_cell B7 1).trans rfl⟩,fun hHeld=>norm_ (a':=_) (by show Act.put _ _ _=_;simp only [Act.put,sI,sZ,sS,i64_w,i32_w];rfl) ?_⟩
 clear hK K T
 refine one_ (i:=6) (N:=some 18) #[tT,tT,tT,tT,tT,tT,tT,tT,tT,fF,fF,fF,fF,fF] rfl rfl (one_of HT_.out (by kernel_rfl)) (by decide) (fun K hK=>?_)
 refine stepD hK Try.func19 (by kernel_rfl) rfl #[.pointer (some ⟨g,0,none⟩),.agg #[.string p,.string q]] (by rfl) rfl rfl (by (try simp only [sM,sC,sN]);first|done|rfl) (drawP Hc (by omega) SX.re) ?_
 rintro e w7 ⟨p2,q2,rfl,zp2,T⟩
 replace B2:=kbN B2 H2 T
 replace B3:=kbN B3 H3 T
 replace B4:=kbN B4 H4 T
 replace B5:=kbN B5 H5 T
 replace B7:=kbN B7 H7 T
 replace SX:=SX.call T
 refine ⟨_,rfl,⟨(blk_cell B7 0).trans rfl,(blk_cell B7 1).trans rfl⟩,fun hHeld=>norm_ (a':=_) (by show Act.put _ _ _=_;simp only [Act.put,sI,sZ,sS,i64_w,i32_w];rfl) ?_⟩
 clear hK K T
 refine one_ (i:=9) (N:=some 21) #[tT,tT,tT,tT,tT,tT,tT,tT,tT,tT,fF,fF,fF,fF] rfl rfl (one_of HT_.out (by kernel_rfl)) (by decide) (fun K hK=>?_)
 refine stepD hK Try.func19 (by kernel_rfl) rfl #[.pointer (some ⟨g,0,none⟩),.agg #[.string p,.string q]] (by rfl) rfl rfl (by (try simp only [sM,sC,sN]);first|done|rfl) (drawP Hc (by omega) SX.re) ?_
 rintro e w7 ⟨p3,q3,rfl,zp3,T⟩
 replace B2:=kbN B2 H2 T
 replace B3:=kbN B3 H3 T
 replace B4:=kbN B4 H4 T
 replace B5:=kbN B5 H5 T
 replace B7:=kbN B7 H7 T
 replace SX:=SX.call T
 refine ⟨_,rfl,⟨(blk_cell B7 0).trans rfl,(blk_cell B7 1).trans rfl⟩,fun hHeld=>norm_ (a':=_) (by show Act.put _ _ _=_;simp only [Act.put,sI,sZ,sS,i64_w,i32_w];rfl) ?_⟩
 clear hK K T
 have LB:=SX.bel
 have BK2:=aM B2
 have BK3:=aM B3
 have BK4:=aM B4
 have BK5:=aM B5
 have ⟨x0,y0,r0,d0⟩:=q2f BK2
 refine last_ (i:=10) (N:=none) #[tT,tT,tT,tT,tT,tT,tT,tT,tT,tT,tT,fF,fF,fF] rfl rfl (one_of HT_.out (by kernel_rfl)) (by decide) (fun K hK=>?_)
 refine skip_ (w1:=?_) (by rfl) rfl ?_ ?_
 rotate_left
 ·go_simp
  rfl
 refine hK _ _ ?_
 clear hK K x0 y0 r0 d0
 have F2:=b2 (V:=w7) (p:=.string p) (q:=.string q) BK2
 replace BK3:=aM (bn (V:=((w7.setCell ⟨k2,0,none⟩ (.string p)).setCell ⟨k2,1,none⟩ (.string q))) BK3)
 replace BK4:=aM (bn (V:=((w7.setCell ⟨k2,0,none⟩ (.string p)).setCell ⟨k2,1,none⟩ (.string q))) BK4)
 replace BK5:=aM (bn (V:=((w7.setCell ⟨k2,0,none⟩ (.string p)).setCell ⟨k2,1,none⟩ (.string q))) BK5)
 replace LB:=swB (V:=((w7.setCell ⟨k2,0,none⟩ (.string p)).setCell ⟨k2,1,none⟩ (.string q))) LB
 clear BK2
 generalize ((w7.setCell ⟨k2,0,none⟩ (.string p)).setCell ⟨k2,1,none⟩ (.string q)) = w8 at F2 BK3 BK4 BK5 LB ⊢
 have ⟨x0,y0,r0,d0⟩:=q2f BK3
 refine last_ (i:=11) (N:=none) #[tT,tT,tT,tT,tT,tT,tT,tT,tT,tT,tT,tT,fF,fF] rfl rfl (one_of HT_.out (by kernel_rfl)) (by decide) (fun K hK=>?_)
 refine skip_ (w1:=?_) (by rfl) rfl ?_ ?_
 rotate_left
 ·go_simp
  rfl
 refine hK _ _ ?_
 clear hK K x0 y0 r0 d0
 have F3:=b2 (V:=w8) (p:=.string p1) (q:=.string q1) BK3
 replace BK4:=aM (bn (V:=((w8.setCell ⟨k3,0,none⟩ (.string p1)).setCell ⟨k3,1,none⟩ (.string q1))) BK4)
 replace BK5:=aM (bn (V:=((w8.setCell ⟨k3,0,none⟩ (.string p1)).setCell ⟨k3,1,none⟩ (.string q1))) BK5)
 replace F2:=far2 (x:=.string p1) (y:=.string q1) F2 n23
 replace LB:=swB (V:=((w8.setCell ⟨k3,0,none⟩ (.string p1)).setCell ⟨k3,1,none⟩ (.string q1))) LB
 clear BK3
 generalize ((w8.setCell ⟨k3,0,none⟩ (.string p1)).setCell ⟨k3,1,none⟩ (.string q1)) = w9 at F2 F3 BK4 BK5 LB ⊢
 have ⟨x0,y0,r0,d0⟩:=q2f BK4
 refine last_ (i:=12) (N:=none) #[tT,tT,tT,tT,tT,tT,tT,tT,tT,tT,tT,tT,tT,fF] rfl rfl (one_of HT_.out (by kernel_rfl)) (by decide) (fun K hK=>?_)
 refine skip_ (w1:=?_) (by rfl) rfl ?_ ?_
 rotate_left
 ·go_simp
  rfl
 refine hK _ _ ?_
 clear hK K x0 y0 r0 d0
 have F4:=b2 (V:=w9) (p:=.string p2) (q:=.string q2) BK4
 replace BK5:=aM (bn (V:=((w9.setCell ⟨k4,0,none⟩ (.string p2)).setCell ⟨k4,1,none⟩ (.string q2))) BK5)
 replace F2:=far2 (x:=.string p2) (y:=.string q2) F2 n24
 replace F3:=far2 (x:=.string p2) (y:=.string q2) F3 n34
 replace LB:=swB (V:=((w9.setCell ⟨k4,0,none⟩ (.string p2)).setCell ⟨k4,1,none⟩ (.string q2))) LB
 clear BK4
 generalize ((w9.setCell ⟨k4,0,none⟩ (.string p2)).setCell ⟨k4,1,none⟩ (.string q2)) = w10 at F2 F3 F4 BK5 LB ⊢
 have ⟨x0,y0,r0,d0⟩:=q2f BK5
 refine last_ (i:=13) (N:=none) #[tT,tT,tT,tT,tT,tT,tT,tT,tT,tT,tT,tT,tT,tT] rfl rfl (one_of HT_.out (by kernel_rfl)) (by decide) (fun K hK=>?_)
 refine skip_ (w1:=?_) (by rfl) rfl ?_ ?_
 rotate_left
 ·go_simp
  rfl
 refine hK _ _ ?_
 clear hK K x0 y0 r0 d0
 have F5:=b2 (V:=w10) (p:=.string p3) (q:=.string q3) BK5
 replace F2:=far2 (x:=.string p3) (y:=.string q3) F2 n25
 replace F3:=far2 (x:=.string p3) (y:=.string q3) F3 n35
 replace F4:=far2 (x:=.string p3) (y:=.string q3) F4 n45
 replace LB:=swB (V:=((w10.setCell ⟨k5,0,none⟩ (.string p3)).setCell ⟨k5,1,none⟩ (.string q3))) LB
 clear BK5
 generalize ((w10.setCell ⟨k5,0,none⟩ (.string p3)).setCell ⟨k5,1,none⟩ (.string q3)) = w11 at F2 F3 F4 F5 LB ⊢
 refine done_ (done_of HT_.out (by kernel_rfl)) ?_
 (try go_wp2)
 refine bodyPost_ret (results_list (rs:=[.cell 2 25,.cell 3 25,.cell 4 25,.cell 5 25]) rfl (by simp) (.cell k2 25 #[.string p,.string q] (0,0) _ rfl F2 Try.underlying25 rfl (by kernel_rfl) (.cell k3 25 #[.string p1,.string q1] (0,0) _ rfl F3 Try.underlying25 rfl (by kernel_rfl) (.cell k4 25 #[.string p2,.string q2] (0,0) _ rfl F4 Try.underlying25 rfl (by kernel_rfl) (.cell k5 25 #[.string p3,.string q3] (0,0) _ rfl F5 Try.underlying25 rfl (by kernel_rfl) .nil))))) rfl ?_
 exact ⟨_,_,_,_,_,_,_,_,rfl,by omega,by omega,by omega,by omega,LB⟩
set_option maxHeartbeats 16000000 in
set_option maxRecDepth 100000 in
theorem draw12 (hr:Kd.C (Kd.int .u8) w A l.length l) (hn:l.length ≤ n) (Hc:bytesL l):Calls Try.prog 12 #[.slice A l.length n] w fun e w'=>∃ p q p1 q1 p2 q2 p3 q3,e = .returned (.tuple #[.agg #[.string p,.string q],.agg #[.string p1,.string q1],.agg #[.string p2,.string q2],.agg #[.string p3,.string q3]]) ∧ p.size + q.size ≤ 100 ∧ p1.size + q1.size ≤ 100 ∧ p2.size + q2.size ≤ 100 ∧ p3.size + q3.size ≤ 100 ∧ Below w.heap.size w w':=by
 have hu25:=Try.underlying25
 have HB:=aM (Below.refl w.heap.size w)
 go_enter Try.func12,Try.ntmps12
 go_wp2_with (first
  | ((with_reducible refine gate_dst (N:=2) rfl ?_);refine box_event rfl (N:=2) rfl (cs:=#[.string ⟨#[]⟩,.string ⟨#[]⟩]) (t:=25) (by first|(go_simp;done)|(go_simp;rfl)) ?_;intro k2 hg w1 hbox hb;have G2:Ge w.heap.size k2:=⟨hg ▸ (bb HB).size⟩;replace HB:=bs HB hb;have BK2:=aM hbox;clear hb hbox hg)
  | ((with_reducible refine gate_dst (N:=3) rfl ?_);refine box_event rfl (N:=3) rfl (cs:=#[.string ⟨#[]⟩,.string ⟨#[]⟩]) (t:=25) (by first|(go_simp;done)|(go_simp;rfl)) ?_;intro k3 hg w1 hbox hb;have G3:Ge w.heap.size k3:=⟨hg ▸ (bb HB).size⟩;have N23:=neN BK2 hg;have N32:=neN' BK2 hg;have n23:=N23.h;have n32:=N32.h;replace HB:=bs HB hb;replace BK2:=bnB BK2 hb;have BK3:=aM hbox;clear hb hbox hg)
  | ((with_reducible refine gate_dst (N:=4) rfl ?_);refine box_event rfl (N:=4) rfl (cs:=#[.string ⟨#[]⟩,.string ⟨#[]⟩]) (t:=25) (by first|(go_simp;done)|(go_simp;rfl)) ?_;intro k4 hg w1 hbox hb;have G4:Ge w.heap.size k4:=⟨hg ▸ (bb HB).size⟩;have N24:=neN BK2 hg;have N42:=neN' BK2 hg;have n24:=N24.h;have n42:=N42.h;have N34:=neN BK3 hg;have N43:=neN' BK3 hg;have n34:=N34.h;have n43:=N43.h;replace HB:=bs HB hb;replace BK2:=bnB BK2 hb;replace BK3:=bnB BK3 hb;have BK4:=aM hbox;clear hb hbox hg)
  | ((with_reducible refine gate_dst (N:=5) rfl ?_);refine box_event rfl (N:=5) rfl (cs:=#[.string ⟨#[]⟩,.string ⟨#[]⟩]) (t:=25) (by first|(go_simp;done)|(go_simp;rfl)) ?_;intro k5 hg w1 hbox hb;have G5:Ge w.heap.size k5:=⟨hg ▸ (bb HB).size⟩;have N25:=neN BK2 hg;have N52:=neN' BK2 hg;have n25:=N25.h;have n52:=N52.h;have N35:=neN BK3 hg;have N53:=neN' BK3 hg;have n35:=N35.h;have n53:=N53.h;have N45:=neN BK4 hg;have N54:=neN' BK4 hg;have n45:=N45.h;have n54:=N54.h;replace HB:=bs HB hb;replace BK2:=bnB BK2 hb;replace BK3:=bnB BK3 hb;replace BK4:=bnB BK4 hb;have BK5:=aM hbox;clear hb hbox hg)
  | ((with_reducible refine gate_callee (f:=30) rfl ?_);refine goesL_ (some 7) rfl rfl Try.func30 (by kernel_rfl) rfl #[.slice A l.length n] rfl (by (try simp only [sM,sC,sN]);first|done|rfl) ?_;refine Calls.mono (draw30 (Kd.C_below hr (bb HB)) hn Hc) ?_;(try (case sS=>exact (st S).re));rintro e w4 ⟨p,q,p1,q1,p2,q2,p3,q3,rfl,z0,z1,z2,z3,hb⟩;refine ⟨_,rfl,?_⟩;replace BK2:=bnB BK2 hb;replace BK3:=bnB BK3 hb;replace BK4:=bnB BK4 hb;replace BK5:=bnB BK5 hb;replace HB:=bs HB hb;clear hb;have ⟨x2,y2,r2,d2⟩:=q2f BK2;have ⟨x3,y3,r3,d3⟩:=q2f BK3;have ⟨x4,y4,r4,d4⟩:=q2f BK4;have ⟨x5,y5,r5,d5⟩:=q2f BK5))
 refine bodyPost_ret (results_list (rs:=[.cell 2 25,.cell 3 25,.cell 4 25,.cell 5 25]) rfl (by simp) (.cell k2 25 #[.string p,.string q] (0,0) _ rfl (far2 (far2 (far2 (b2 BK2) n23) n24) n25) Try.underlying25 rfl (by kernel_rfl) (.cell k3 25 #[.string p1,.string q1] (0,0) _ rfl (far2 (far2 (b2 BK3) n34) n35) Try.underlying25 rfl (by kernel_rfl) (.cell k4 25 #[.string p2,.string q2] (0,0) _ rfl (far2 (b2 BK4) n45) Try.underlying25 rfl (by kernel_rfl) (.cell k5 25 #[.string p3,.string q3] (0,0) _ rfl (b2 BK5) Try.underlying25 rfl (by kernel_rfl) .nil))))) rfl ?_
 exact ⟨_,_,_,_,_,_,_,_,rfl,z0,z1,z2,z3,swB HB.out⟩
set_option maxHeartbeats 16000000 in
set_option maxRecDepth 100000 in
theorem draw8 (hr:Kd.C (Kd.int .u8) w A l.length l) (hn:l.length ≤ n) (Hc:bytesL l):Calls Try.prog 8 #[.slice A l.length n] w fun e w'=>∃ p q,e = .returned (.agg #[.string p,.string q]) ∧ p.size + q.size ≤ 100 ∧ Below w.heap.size w w':=by
 have hu25:=Try.underlying25
 have HB:=aM (Below.refl w.heap.size w)
 go_enter Try.func8,Try.ntmps8
 go_wp2_with (first
  | ((with_reducible refine gate_dst (N:=2) rfl ?_);refine box_event rfl (N:=2) rfl (cs:=#[.string ⟨#[]⟩,.string ⟨#[]⟩]) (t:=25) (by first|(go_simp;done)|(go_simp;rfl)) ?_;intro k2 hg w1 hbox hb;have G2:Ge w.heap.size k2:=⟨hg ▸ (bb HB).size⟩;replace HB:=bs HB hb;have BK2:=aM hbox;clear hb hbox hg)
  | ((with_reducible refine gate_callee (f:=17) rfl ?_);refine goesL_ (some 4) rfl rfl Try.func17 (by kernel_rfl) rfl #[.slice A l.length n] rfl (by (try simp only [sM,sC,sN]);first|done|rfl) ?_;refine Calls.mono (fromE hr hn Hc (bb HB)) ?_;(try (case sS=>exact (st S).re));rintro e w5 ⟨g,rfl,S0,hb⟩;refine ⟨_,rfl,?_⟩;replace BK2:=bnB BK2 hb;have H2:=neG S0 BK2.out;have S:=aM S0;clear S0 HB hb)
  | ((with_reducible refine gate_callee (f:=18) rfl ?_);refine goesL_ (some 5) rfl rfl Try.func18 (by kernel_rfl) rfl #[.pointer (some ⟨g,0,none⟩)] rfl (by (try simp only [sM,sC,sN]);first|done|rfl) ?_;refine Calls.mono (draw6 (w0:=w) Hc ?sS) ?_;(try (case sS=>exact (st S).re));rintro e w4 ⟨p,q,rfl,hz,T⟩;refine ⟨_,rfl,?_⟩;replace BK2:=kbn BK2 H2 T;replace S:=sc S T;clear T;have ⟨a0,a1,e0,e1⟩:=q2f BK2))
 refine bodyPost_ret (results_cell_row rfl _ _ k2 25 #[.string p,.string q] (0,0) _ rfl (b2 BK2) Try.underlying25 rfl (by kernel_rfl)) rfl ?_
 exact ⟨_,_,rfl,by omega,swB S.out.bel⟩
end
end Go.Proofs.Ytmhpbilkocnlnaa.Q
end
section
namespace Go.Proofs.Ytmhpbilkocnlnaa.Q
open Go.Proofs.YtmhpbilkocnlnaaW.Ext
open Go.RowKit Go.Proofs.YtmhpbilkocnlnaaW.PrintWords Go.Proofs.YtmhpbilkocnlnaaW.PrintLast Go.Proofs.YtmhpbilkocnlnaaW.PrintMore
attribute [local go_sem] max2_int min2_int max_two min_two max_three min_three max_four min_four   -- for this text's walks alone
set_option linter.unusedVariables false
set_option linter.unusedSimpArgs false
def laws_big.f (l0:List Int):Option (Bool):=some (decide ((l0.length:Int) > 4096))
set_option maxHeartbeats 8000000 in
set_option maxRecDepth 100000 in
theorem laws_big.calls (A0:Option Addr) (c0:Nat) (l0:List Int) (r:Bool) (w:World) (hr0:Kd.C (Kd.int .u8) w A0 l0.length l0) (hc0:l0.length ≤ c0) (h:laws_big.f l0 = some r) :
  Calls Try.prog 4 #[.slice A0 l0.length c0] w fun e w'=>e = .returned (.bool r) ∧ Drawn0 w w':=by
 have HR0:=aM hr0;have HC0:=aM hc0
 clear hr0 hc0
 have H:(some (decide ((l0.length:Int) > 4096))) = some r:=h
 clear h
 obtain rfl:=Option.some.inj H
 go_enter Try.func4,Try.ntmps4
 go_wp2
 go_ret
 exact ⟨by first|rfl|(simp;done)|(simp [*];done),by repeat (first|exact Drawn0.refl _|apply Drawn0.step)⟩
end Go.Proofs.Ytmhpbilkocnlnaa.Q
end
