-- By wip/hyb/hyb.py of this session, over the kit's print.py
import Derived.Test.YteckdlmepgdlnaaQx0
namespace Go.Proofs.Yteckdlmepgdlnaa.Q
open Go.Proofs.YteckdlmepgdlnaaW.Ext
open Go.RowKit Go.Proofs.YteckdlmepgdlnaaW.PrintWords Go.Proofs.YteckdlmepgdlnaaW.PrintLast Go.Proofs.YteckdlmepgdlnaaW.PrintMore
attribute [local go_sem] max2_int min2_int max_two min_two max_three min_three max_four min_four   -- for this text's walks alone
set_option linter.unusedVariables false
set_option linter.unusedSimpArgs false

/-! ### impl_sorted: function 15 -/
section
open Go.Proofs.Yteckdlmepgdlnaa.SortA
instance : DecidablePred okAng := fun _ => by unfold okAng; infer_instance
def impl_sorted.f (l : List S33) : Option (List S33) := if l.length * 16 ≤ 140737488351232 ∧ ∀ x ∈ l, okAng (x.f0, x.f1) then some ((compactA (sortA (l.map fun x => (x.f0, x.f1)))).map fun p => ⟨p.1, p.2⟩) else none
theorem sortedC {w : World} {A0 : Option Addr} {c0 : Nat} {l0 : List S33} (h : Kd.C k33 w A0 l0.length l0) : Angs5 w.heap.size w (.slice A0 (l0.map fun x => (x.f0, x.f1)).length c0) (l0.map fun x => (x.f0, x.f1)) := by
  rw [List.length_map]
  cases l0 with
  | nil => exact .inl ⟨A0, c0, rfl, rfl⟩
  | cons z zs =>
    have hne : 0 < (z :: zs).length := by simp
    generalize z :: zs = l at h hne ⊢
    have hg := fun (j : Nat) (hj : j < l.length) => at_T33 h (j : Int) (by omega) (by omega)
    obtain ⟨ad, rfl, h0, _⟩ := hg 0 hne
    obtain ⟨b, off, m⟩ := ad
    cases m with
    | some m => exact absurd h0 (by simp [World.cell?, Addr.add]; split <;> simp)
    | none =>
      have hlt : b < w.heap.size := World.block_lt_of_cell? w _ h0
      refine .inr ⟨b, off, c0, by rw [List.length_map], hlt, fun j hj => ?_⟩
      rw [List.length_map] at hj
      obtain ⟨ad', e, h1, h2⟩ := hg j hj
      injection e with e
      subst e
      have hr : rd_T33 l (j : Int) = l[j] := by simp [rd_T33, List.getD, hj]
      have hadd : ∀ n, (⟨b, off, none⟩ : Addr).add n = ⟨b, off + n, none⟩ := fun n => by
        unfold Addr.add
        split
        · rename_i hn
          rw [hn]
          rfl
        · rfl
      rw [hr, show ((j : Int)).toNat = j from rfl, hadd] at h1 h2
      have hx : ((l.map fun x => (x.f0, x.f1))[j]?.getD (0, 0)) = (l[j].f0, l[j].f1) := by simp [hj]
      rw [hx]
      exact ⟨h1, h2⟩
theorem sortedR {w : World} {base : Nat} {v : Value} {ys : List (Int × Int)} (h : OwnA w base v ys) : Kd.R k33 33 w base (fun _ => True) v (ys.map fun p => (⟨p.1, p.2⟩ : S33)) := by
  rcases h with ⟨rfl, rfl⟩ | ⟨g, cap, rfl, hg, hR⟩
  · exact Kd.R_nil _ _ _ _ _
  · obtain ⟨cur, hh, hs, hc⟩ := hR.blk
    have hle := hR.le
    have hlt : (cur.toList.take (ys.length * 2)).length = ys.length * 2 := by rw [List.length_take]; simp; omega
    refine ⟨fun _ _ => trivial, cur.toList.take (ys.length * 2), ⟨by rw [List.length_map]; exact hlt, .inr ⟨g, cap, cur, by rw [List.length_map], hg, hh, by rw [List.length_map]; exact hle, hR.mx, hs, by rw [List.length_map]; rfl⟩⟩, by rw [List.length_map]; exact hlt, fun j p hp => ?_⟩
    rw [List.getElem?_map] at hp
    obtain ⟨x, hx, rfl⟩ := Option.map_eq_some_iff.1 hp
    obtain ⟨hj, rfl⟩ := List.getElem?_eq_some_iff.1 hx
    obtain ⟨f1, f2⟩ := hc j hj
    have g1 : (cur.toList.take (ys.length * 2))[j * 2]? = some (.int .i64 ys[j].1) := by rw [List.getElem?_take_of_lt (by omega), Array.getElem?_toList]; exact f1
    have g2 : (cur.toList.take (ys.length * 2))[j * 2 + 1]? = some (.int .i64 ys[j].2) := by rw [List.getElem?_take_of_lt (by omega), Array.getElem?_toList]; exact f2
    obtain ⟨l1, e1⟩ := List.getElem?_eq_some_iff.1 g1
    obtain ⟨l2, e2⟩ := List.getElem?_eq_some_iff.1 g2
    have hd : ((cur.toList.take (ys.length * 2)).drop (j * 2)).take 2 = [.int .i64 ys[j].1, .int .i64 ys[j].2] := by
      rw [List.drop_eq_getElem_cons l1, List.drop_eq_getElem_cons l2, e1, e2]
      rfl
    show k33.M w base _ _ (((cur.toList.take (ys.length * 2)).drop (j * 2)).take 2)
    rw [hd]
    exact k33_mkM w base _ ⟨ys[j].1, ys[j].2⟩
theorem impl_sorted.calls (A0 : Option Addr) (c0 : Nat) (l0 : List S33) (r : List S33) (w : World) (hr0 : Kd.C k33 w A0 l0.length l0) (hc0 : l0.length ≤ c0) (h : impl_sorted.f l0 = some r) :
    Calls Try.prog 15 #[.slice A0 l0.length c0] w fun e w' => ∃ v0_ : Value, e = .returned (v0_) ∧ Kd.R k33 33 w' w.heap.size (fun _ => True) v0_ r ∧ Below w.heap.size w w' := by
  unfold impl_sorted.f at h
  split at h
  · rename_i hc
    obtain rfl := Option.some.inj h
    have hI := sortedC (c0 := c0) hr0
    have hok : ∀ x ∈ l0.map fun x => (x.f0, x.f1), okAng x := by
      intro x hx
      obtain ⟨y, hy, rfl⟩ := List.mem_map.1 hx
      exact hc.2 y hy
    have hs := sorted_A.calls A0 c0 _ (by rw [List.length_map]; exact hc.1) hok w hI
    rw [List.length_map] at hs
    exact hs.mono fun e w' ⟨v, he, ho, hb⟩ => ⟨v, he, sortedR ho, hb⟩
  · cases h
end

end Go.Proofs.Yteckdlmepgdlnaa.Q
