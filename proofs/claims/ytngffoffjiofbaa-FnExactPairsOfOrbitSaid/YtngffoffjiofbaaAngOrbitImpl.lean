/- The program's orbit: its plain value. -/
import Derived.Test.YtngffoffjiofbaaAngOrbit
import Derived.Test.YtngffoffjiofbaaQx68
import Derived.Test.YtngffoffjiofbaaQx39
namespace Go.Proofs.Ytngffoffjiofbaa.Q
open Go.RowKit Go.Proofs.YtngffoffjiofbaaW.PrintWords Go.Proofs.YtngffoffjiofbaaW.PrintLast Go.Proofs.YtngffoffjiofbaaW.Ext Go.Proofs.Ytngffoffjiofbaa.Ang
set_option linter.unusedVariables false
set_option linter.unusedSimpArgs false

theorem rd_seg {x : Int × Int} {m i : Nat} (h : i < m) : rd_T51 (seg x m) (i : Int) = toS (orbA x i) := by
  unfold rd_T51
  rw [Int.toNat_natCast, List.getD_eq_getElem?_getD, List.getElem?_eq_getElem (by rw [seg_length]; exact h), seg_get _ h]
  rfl
/-- The first place of a in the orbit so far. -/
theorem ev_index (x y : Int × Int) (m : Nat) (hm : m ≤ 64) (r : Int) (hr : (∃ i, i < m ∧ orbA x i = y ∧ (∀ j, j < i → orbA x j ≠ y) ∧ r = (i : Int)) ∨ ((∀ j, j < m → orbA x j ≠ y) ∧ r = -1)) : Ev (fun k => impl_Angle_51.f k (seg x m) y.1 y.2) r := by
  unfold impl_Angle_51.f
  rw [seg_length]
  have key : ∀ d i, i + d = m → (∀ j, j < i → orbA x j ≠ y) → Ev (fun k => impl_Angle_51.l0 k (seg x m) (m : Int) (i : Int) y.1 y.2) r := by
    intro d
    induction d with
    | zero =>
      intro i h1 h2
      refine Ev.step (f := fun _ => some (-1)) (fun k => by rw [impl_Angle_51.l0, if_neg (by omega)]) ?_
      rcases hr with ⟨j, hj, e, _, _⟩ | ⟨_, rfl⟩
      · exact absurd e (h2 j (by omega))
      · exact Ev.now _
    | succ d ih =>
      intro i h1 h2
      have hi : i < m := by omega
      refine Ev.step (f := fun k => if y = orbA x i then some (i : Int) else impl_Angle_51.l0 k (seg x m) (m : Int) ((i + 1 : Nat) : Int) y.1 y.2) (fun k => ?_) ?_
      · rw [impl_Angle_51.l0, if_pos (by omega), if_pos (by omega), seg_length, if_pos (by omega), rd_seg hi, wrap_in (by omega) (by omega)]
        have e : (y.1 == (toS (orbA x i)).f0 && (y.2 == (toS (orbA x i)).f1)) = decide (y = orbA x i) := by
          rw [Bool.eq_iff_iff]
          simp [toS, Prod.ext_iff]
        rw [e]
        simp only [decide_eq_true_eq]
        rw [show ((i + 1 : Nat) : Int) = (i : Int) + 1 by omega]
      · by_cases z : y = orbA x i
        · simp only [if_pos z]
          rcases hr with ⟨j, hj, e, hb, rfl⟩ | ⟨hn, _⟩
          · have : i = j := by
              rcases Nat.lt_trichotomy i j with l | l | l
              · exact absurd z.symm (hb i l)
              · exact l
              · exact absurd e (h2 j l)
            subst this
            exact Ev.now _
          · exact absurd z.symm (hn i hi)
        · simp only [if_neg z]
          exact ih (i + 1) (by omega) (fun j hj => by
            by_cases l : j = i
            · subst l; exact fun q => z q.symm
            · exact h2 j (by omega))
  simpa using key m 0 (by omega) (fun j hj => absurd hj (Nat.not_lt_zero _))
theorem ev_impl_orbit {a b : Int} (h : isA a b = true) {p : Nat} {q : Int} (hx : b = 2 ^ p * q) (hq : q % 2 = 1) : Ev (fun k => impl_Angle_orbit.f k a b) (orbGo (a, b) p 65 0) := by
  have W := isA_wide h
  have loop : ∀ f m, m + f = 65 → m ≤ 64 → (∀ i j, i < j → j < m → orbA (a, b) i ≠ orbA (a, b) j) → Ev (fun k => impl_Angle_orbit.l0 k (seg (a, b) m) (orbA (a, b) m).1 (orbA (a, b) m).2) (orbGo (a, b) p f m) := by
    intro f
    induction f with
    | zero => intro m h1 h2; omega
    | succ f ih =>
      intro m h1 h2 hd
      unfold orbGo
      refine Ev.step (f := fun k => (impl_Angle_51.f k (seg (a, b) m) (orbA (a, b) m).1 (orbA (a, b) m).2).bind fun t => if t ≥ 0 then some (seg (a, b) m, t, true) else if ((seg (a, b) m).length : Int) = 64 then some ([], 0, false) else if (seg (a, b) m).length < 8796093022208 then (impl_Angle_double.f k (orbA (a, b) m).1 (orbA (a, b) m).2).bind fun z => impl_Angle_orbit.l0 k (seg (a, b) m ++ [⟨(orbA (a, b) m).1, (orbA (a, b) m).2⟩]) z.1 z.2 else none) (fun k => by rw [impl_Angle_orbit.l0]) ?_
      by_cases z : p < m ∧ orbA (a, b) m = orbA (a, b) p
      · refine Ev.bind (ev_index (a, b) (orbA (a, b) m) m h2 (p : Int) (.inl ⟨p, z.1, z.2.symm, fun j hj e => ?_, rfl⟩)) ?_
        · have := orb_first (x := (a, b)) W hx hq hd (show j < m by omega) e
          omega
        · simp only [if_pos z, if_pos (show (p : Int) ≥ 0 by omega)]
          exact Ev.now _
      · have hn : ∀ j, j < m → orbA (a, b) j ≠ orbA (a, b) m := fun j hj e => by
          have := orb_first (x := (a, b)) W hx hq hd hj e
          subst this
          exact z ⟨hj, e.symm⟩
        refine Ev.bind (ev_index (a, b) (orbA (a, b) m) m h2 (-1) (.inr ⟨hn, rfl⟩)) ?_
        simp only [if_neg z, if_neg (show ¬ ((-1 : Int) ≥ 0) by omega), seg_length]
        by_cases y : m = 64
        · subst y
          simp
          exact Ev.now _
        · simp only [if_neg y, if_neg (show ¬ ((m : Int) = 64) by omega), if_pos (show m < 8796093022208 by omega)]
          refine Ev.bind (ev_impl_double (orb_isA (x := (a, b)) h m)) ?_
          have := ih (m + 1) (by omega) (by omega) (fun i j hij hj => by
            by_cases l : j = m
            · subst l; exact hn i hij
            · exact hd i j hij (by omega))
          rw [seg_succ] at this
          exact this
  unfold impl_Angle_orbit.f
  simpa [seg, orbA] using loop 65 0 (by omega) (by omega) (fun i j h1 h2 => absurd h2 (Nat.not_lt_zero _))
end Go.Proofs.Ytngffoffjiofbaa.Q
