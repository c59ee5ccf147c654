/- The reference's orbit: its plain value. -/
import Derived.Test.YtngffoffjiofbaaAngOrbit
import Derived.Test.YtngffoffjiofbaaQx62
namespace Go.Proofs.Ytngffoffjiofbaa.Q
open Go.RowKit Go.Proofs.YtngffoffjiofbaaW.PrintWords Go.Proofs.YtngffoffjiofbaaW.PrintLast Go.Proofs.YtngffoffjiofbaaW.Ext Go.Proofs.Ytngffoffjiofbaa.Ang
set_option linter.unusedVariables false
set_option linter.unusedSimpArgs false

theorem ev_spec_orbit {a b : Int} (h : isA a b = true) {p : Nat} {q : Int} (hx : b = 2 ^ p * q) (hq : q % 2 = 1) : Ev (fun k => spec_l01Orbit.f k a b) (orbGo (a, b) p 65 0) := by
  have hb := isA_bd h
  have hq0 : 0 < q := by
    rcases Int.lt_trichotomy q 0 with z | z | z
    · have := Int.mul_neg_of_pos_of_neg (show (0 : Int) < 2 ^ p from Int.pow_pos (by omega)) z
      omega
    · subst z; simp at hx; omega
    · exact z
  have loop : ∀ f m, m + f = 65 → m ≤ 64 → Ev (fun k => spec_l01Orbit.l1 k (p : Int) (seg (a, b) m) (orbA (a, b) m).1 (orbA (a, b) m).2) (orbGo (a, b) p f m) := by
    intro f
    induction f with
    | zero => intro m h1 h2; omega
    | succ f ih =>
      intro m h1 h2
      have j2 : ∀ c : Bool, c = decide (p < m ∧ orbA (a, b) m = orbA (a, b) p) → Ev (fun k => spec_l01Orbit.j2 k (p : Int) (seg (a, b) m) c (orbA (a, b) m).1 (orbA (a, b) m).2) (orbGo (a, b) p (f + 1) m) := by
        intro c hc
        subst hc
        unfold orbGo
        refine Ev.step (f := fun k => if decide (p < m ∧ orbA (a, b) m = orbA (a, b) p) = true then some (seg (a, b) m, (p : Int), true) else if ((seg (a, b) m).length : Int) = 64 then some ([], 0, false) else if (seg (a, b) m).length < 8796093022208 then (spec_l01Double.f k (orbA (a, b) m).1 (orbA (a, b) m).2).bind fun z => spec_l01Orbit.l1 k (p : Int) (seg (a, b) m ++ [⟨(orbA (a, b) m).1, (orbA (a, b) m).2⟩]) z.1 z.2 else none) (fun k => by rw [spec_l01Orbit.j2]) ?_
        simp only [seg_length, decide_eq_true_eq]
        by_cases z : p < m ∧ orbA (a, b) m = orbA (a, b) p
        · simp only [if_pos z]; exact Ev.now _
        · simp only [if_neg z]
          by_cases y : m = 64
          · subst y
            simp
            exact Ev.now _
          · simp only [if_neg y, if_neg (show ¬ ((m : Int) = 64) by omega), if_pos (show m < 8796093022208 by omega)]
            refine Ev.bind (ev_spec_Double (orb_isA (x := (a, b)) h m)) ?_
            have := ih (m + 1) (by omega) (by omega)
            rw [seg_succ] at this
            exact this
      refine Ev.step (f := fun k => if ((seg (a, b) m).length : Int) > (p : Int) then (if 0 ≤ (p : Int) then (if (p : Int) < ((seg (a, b) m).length : Int) then spec_l01Orbit.j2 k (p : Int) (seg (a, b) m) ((orbA (a, b) m).1 == (rd_T51 (seg (a, b) m) (p : Int)).f0 && ((orbA (a, b) m).2 == (rd_T51 (seg (a, b) m) (p : Int)).f1)) (orbA (a, b) m).1 (orbA (a, b) m).2 else none) else none) else spec_l01Orbit.j2 k (p : Int) (seg (a, b) m) false (orbA (a, b) m).1 (orbA (a, b) m).2) (fun k => by rw [spec_l01Orbit.l1]) ?_
      simp only [seg_length]
      by_cases z : p < m
      · simp only [if_pos (show (m : Int) > (p : Int) by omega), if_pos (show 0 ≤ (p : Int) by omega), if_pos (show (p : Int) < (m : Int) by omega)]
        have e : rd_T51 (seg (a, b) m) (p : Int) = toS (orbA (a, b) p) := by
          unfold rd_T51
          rw [Int.toNat_natCast, List.getD_eq_getElem?_getD, List.getElem?_eq_getElem (by rw [seg_length]; exact z), seg_get _ z]
          rfl
        rw [e]
        refine j2 _ ?_
        rw [Bool.eq_iff_iff]
        simp [toS, z, Prod.ext_iff]
      · simp only [if_neg (show ¬ ((m : Int) > (p : Int)) by omega)]
        exact j2 _ (by simp [z])
  have start := loop 65 0 (by omega) (by omega)
  have pre : ∀ (j : Nat) (c : Int), 0 ≤ c → c + j ≤ 1000000 → (2 : Int) ^ j * q ≤ 8191 → ∀ r, Ev (fun k => spec_l01Orbit.l1 k (c + j) [] a b) r → Ev (fun k => spec_l01Orbit.l0 k c (2 ^ j * q) a b) r := by
    intro j
    induction j with
    | zero =>
      intro c h0 h1 h2 r hr
      refine Ev.step (f := fun k => spec_l01Orbit.l1 k c [] a b) (fun k => ?_) (by simpa using hr)
      have e : Int.tmod ((2 : Int) ^ 0 * q) 2 = 1 := by
        rw [Int.tmod_eq_emod_of_nonneg (by simp; omega)]
        simpa using hq
      rw [spec_l01Orbit.l0, e, if_neg (by omega)]
    | succ j ih =>
      intro c h0 h1 h2 r hr
      have e2 : (2 : Int) ^ (j + 1) * q = 2 * (2 ^ j * q) := by rw [Int.pow_succ]; grind
      have pos : (0 : Int) < 2 ^ j * q := Int.mul_pos (Int.pow_pos (by omega)) hq0
      rw [e2] at h2 ⊢
      refine Ev.step (f := fun k => spec_l01Orbit.l0 k (c + 1) (2 ^ j * q) a b) (fun k => ?_) (ih (c + 1) (by omega) (by omega) (by omega) r (by rw [show c + 1 + (j : Int) = c + ((j + 1 : Nat) : Int) by omega]; exact hr))
      have e : Int.tmod (2 * ((2 : Int) ^ j * q)) 2 = 0 := by
        rw [Int.tmod_eq_emod_of_nonneg (by omega)]
        omega
      have f : Int.tdiv (2 * ((2 : Int) ^ j * q)) 2 = 2 ^ j * q := by
        rw [Int.tdiv_eq_ediv_of_nonneg (by omega)]
        omega
      rw [spec_l01Orbit.l0, e, if_pos rfl, f, wrap_in (x := c + 1) (by omega) (by omega), wrap_in (x := (2 : Int) ^ j * q) (by omega) (by omega)]
  unfold spec_l01Orbit.f
  have hp : (p : Int) ≤ 1000000 := by
    have l : (p : Int) < 2 ^ p := by
      have : p < 2 ^ p := Nat.lt_two_pow_self
      exact_mod_cast this
    have : (2 : Int) ^ p * 1 ≤ 2 ^ p * q := Int.mul_le_mul_of_nonneg_left (by omega) (Int.pow_nonneg (by omega))
    omega
  have := pre p 0 (by omega) (by omega) (by omega) (orbGo (a, b) p 65 0) (by simpa [seg, orbA] using start)
  rw [← hx] at this
  exact this
end Go.Proofs.Ytngffoffjiofbaa.Q
