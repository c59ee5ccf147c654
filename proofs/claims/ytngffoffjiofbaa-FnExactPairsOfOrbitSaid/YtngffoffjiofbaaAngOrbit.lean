/- Orbits under doubling: where they first come back is where the Den has become odd. -/
import Derived.Test.YtngffoffjiofbaaAngDouble
namespace Go.Proofs.Ytngffoffjiofbaa.Q
open Go.RowKit Go.Proofs.YtngffoffjiofbaaW.PrintWords Go.Proofs.YtngffoffjiofbaaW.PrintLast Go.Proofs.YtngffoffjiofbaaW.Ext Go.Proofs.Ytngffoffjiofbaa.Ang
set_option linter.unusedVariables false

theorem ang_coprime {n e : Int} (he : 0 < e) (h : Int.gcd n e = 1) : ang n e = (n % e, e) := by
  have g : Int.gcd (n % e) e = 1 := by
    rw [Int.gcd_comm, ← h, Int.gcd_comm n e]
    have := Int.emod_add_mul_ediv n e
    conv => rhs; rw [← this]
    rw [Int.gcd_add_mul_left_right]
  unfold ang
  rw [g]
  simp
theorem dbl_even {n e : Int} (h : wide n (2 * e)) : dbl (n, 2 * e) = (n % e, e) := by
  obtain ⟨h1, h2, h3, h4⟩ := h
  have he : 0 < e := by omega
  unfold dbl
  rw [ang_scale (by omega) he]
  refine ang_coprime he ?_
  have d1 : (Int.gcd n e : Int) ∣ n := Int.gcd_dvd_left _ _
  have d2 : (Int.gcd n e : Int) ∣ 2 * e := Int.dvd_trans (Int.gcd_dvd_right _ _) (Int.dvd_mul_left _ _)
  have d3 : (Int.gcd n e : Int) ∣ (Int.gcd n (2 * e) : Int) := Int.dvd_coe_gcd d1 d2
  rw [h4] at d3
  have := Int.eq_one_of_dvd_one (by omega) d3
  show n.gcd e = 1
  omega
theorem dbl_odd {n d : Int} (h : wide n d) (hd : d % 2 = 1) : dbl (n, d) = (2 * n % d, d) := by
  obtain ⟨h1, h2, h3, h4⟩ := h
  unfold dbl
  refine ang_coprime (by omega) ?_
  have g2 : Int.gcd 2 d = 1 := by
    have d1 : (Int.gcd 2 d : Int) ∣ 2 := Int.gcd_dvd_left _ _
    have d2 : (Int.gcd 2 d : Int) ∣ d := Int.gcd_dvd_right _ _
    have d3 : (Int.gcd 2 d : Int) ∣ 1 := by
      have e : (1 : Int) = d - 2 * (d / 2) := by omega
      rw [e]
      exact Int.dvd_sub d2 (Int.dvd_mul_of_dvd_left d1)
    have := Int.eq_one_of_dvd_one (by omega) d3
    omega
  have k : Int.gcd (2 * n) d = 1 := by
    have d1 : (Int.gcd (2 * n) d : Int) ∣ d := Int.gcd_dvd_right _ _
    have d0 : (Int.gcd (2 * n) d : Int) ∣ 2 * n := Int.gcd_dvd_left _ _
    have c : Int.gcd (Int.gcd (2 * n) d : Int) 2 = 1 := by
      have e1 : (Int.gcd (Int.gcd (2 * n) d : Int) 2 : Int) ∣ d := Int.dvd_trans (Int.gcd_dvd_left _ _) d1
      have e2 : (Int.gcd (Int.gcd (2 * n) d : Int) 2 : Int) ∣ 2 := Int.gcd_dvd_right _ _
      have e3 := Int.dvd_coe_gcd e2 e1
      rw [g2] at e3
      have := Int.eq_one_of_dvd_one (by omega) e3
      omega
    have c' : Nat.Coprime (Int.gcd (2 * n) d) 2 := by simpa [Int.gcd, Nat.Coprime] using c
    have d0' : Int.gcd (2 * n) d ∣ 2 * n.natAbs := by
      have := Int.natAbs_dvd_natAbs.2 d0
      simpa [Int.natAbs_mul] using this
    have d2 : (Int.gcd (2 * n) d : Int) ∣ n := Int.ofNat_dvd_left.2 (c'.dvd_of_dvd_mul_left d0')
    have d3 := Int.dvd_coe_gcd d2 d1
    rw [h4] at d3
    have := Int.eq_one_of_dvd_one (by omega) d3
    omega
  exact k
theorem dbl_inj {n m d : Int} (hn : wide n d) (hm : wide m d) (hd : d % 2 = 1) (h : dbl (n, d) = dbl (m, d)) : n = m := by
  rw [dbl_odd hn hd, dbl_odd hm hd] at h
  simp only [Prod.mk.injEq, and_true] at h
  have z := Int.emod_eq_emod_iff_emod_sub_eq_zero.1 h
  obtain ⟨c, hc⟩ := Int.dvd_of_emod_eq_zero z
  obtain ⟨h1, h2, h3, _⟩ := hn
  obtain ⟨k1, k2, k3, _⟩ := hm
  have e : 2 * (n - m) = d * c := by omega
  have hc0 : c = 0 ∨ c = 1 ∨ c = -1 := by
    have u1 : d * c < d * 2 := by omega
    have u2 : d * (-2) < d * c := by omega
    have v1 := (Int.mul_lt_mul_left (show 0 < d by omega)).1 u1
    have v2 := (Int.mul_lt_mul_left (show 0 < d by omega)).1 u2
    omega
  rcases hc0 with rfl | rfl | rfl <;> omega
/-- The orbit. -/
def orbA (x : Int × Int) : Nat → Int × Int
  | 0 => x
  | n + 1 => dbl (orbA x n)
theorem dbl_wide {x : Int × Int} (h : wide x.1 x.2) : wide (dbl x).1 (dbl x).2 := ang_wide (by have := h.1; omega)
theorem orb_wide {x : Int × Int} (h : wide x.1 x.2) : ∀ n, wide (orbA x n).1 (orbA x n).2
  | 0 => h
  | n + 1 => dbl_wide (orb_wide h n)
theorem orb_isA {x : Int × Int} (h : isA x.1 x.2 = true) : ∀ n, isA (orbA x n).1 (orbA x n).2 = true
  | 0 => h
  | n + 1 => dbl_isA (orb_isA h n)
/-- The Dens on the way. -/
theorem orb_den {x : Int × Int} {p : Nat} {q : Int} (h : wide x.1 x.2) (hx : x.2 = 2 ^ p * q) (hq : q % 2 = 1) :
    ∀ i, (i ≤ p → (orbA x i).2 = 2 ^ (p - i) * q) ∧ (p ≤ i → (orbA x i).2 = q) := by
  intro i
  induction i with
  | zero =>
    refine ⟨fun _ => by simpa [orbA] using hx, fun hp => ?_⟩
    have : p = 0 := by omega
    subst this
    simpa [orbA] using hx
  | succ i ih =>
    have w := orb_wide h i
    refine ⟨fun hi => ?_, fun hi => ?_⟩
    · have e := ih.1 (by omega)
      have e2 : (2 : Int) ^ (p - i) * q = 2 * (2 ^ (p - (i + 1)) * q) := by
        rw [show p - i = (p - (i + 1)) + 1 by omega, Int.pow_succ]
        grind
      rw [e2] at e
      have d := dbl_even (n := (orbA x i).1) (e := 2 ^ (p - (i + 1)) * q) (by rw [← e]; exact w)
      rw [← e] at d
      show (dbl (orbA x i)).2 = _
      rw [show dbl (orbA x i) = dbl ((orbA x i).1, (orbA x i).2) from rfl, d]
    · by_cases hp : p ≤ i
      · have e := ih.2 hp
        have d := dbl_odd (n := (orbA x i).1) (d := (orbA x i).2) w (by rw [e]; exact hq)
        show (dbl (orbA x i)).2 = _
        rw [show dbl (orbA x i) = dbl ((orbA x i).1, (orbA x i).2) from rfl, d]
        exact e
      · have hpi : p = i + 1 := by omega
        have e := ih.1 (by omega)
        rw [show p - i = 1 by omega] at e
        have e2 : (orbA x i).2 = 2 * q := by rw [e]; grind
        have d := dbl_even (n := (orbA x i).1) (e := q) (by rw [← e2]; exact w)
        rw [← e2] at d
        show (dbl (orbA x i)).2 = _
        rw [show dbl (orbA x i) = dbl ((orbA x i).1, (orbA x i).2) from rfl, d]
theorem orb_back {x : Int × Int} {p : Nat} {q : Int} (h : wide x.1 x.2) (hx : x.2 = 2 ^ p * q) (hq : q % 2 = 1) {i m : Nat} (him : i < m) (e : orbA x i = orbA x m) : p ≤ i := by
  by_cases hp : p ≤ i
  · exact hp
  · exfalso
    have hq0 : 0 < q := by
      have h1 := h.1
      rw [hx] at h1
      rcases Int.lt_trichotomy q 0 with z | z | z
      · have := Int.mul_neg_of_pos_of_neg (show (0 : Int) < 2 ^ p from Int.pow_pos (by omega)) z
        omega
      · subst z; simp at h1
      · exact z
    have a := (orb_den h hx hq i).1 (by omega)
    have two : (2 : Int) ^ (p - i) = 2 * 2 ^ (p - i - 1) := by
      conv => lhs; rw [show p - i = (p - i - 1) + 1 by omega, Int.pow_succ]
      grind
    by_cases hm : m ≤ p
    · have b := (orb_den h hx hq m).1 hm
      rw [e, b] at a
      have c := Int.eq_of_mul_eq_mul_right (by omega) a
      have l : (2 : Int) ^ (p - m) < 2 ^ (p - i) := Int.pow_lt_pow_of_lt (by omega) (by omega)
      omega
    · have b := (orb_den h hx hq m).2 (by omega)
      rw [e, b] at a
      have pos : (1 : Int) ≤ 2 ^ (p - i - 1) := by
        have : (0 : Int) < 2 ^ (p - i - 1) := Int.pow_pos (by omega)
        omega
      have : q * 1 < q * 2 ^ (p - i) := (Int.mul_lt_mul_left hq0).2 (by omega)
      rw [Int.mul_comm q (2 ^ (p - i)), ← a] at this
      omega
theorem orb_step_back {x : Int × Int} {p : Nat} {q : Int} (h : wide x.1 x.2) (hx : x.2 = 2 ^ p * q) (hq : q % 2 = 1) {i m : Nat} (hi : p ≤ i) (hm : p ≤ m) (e : orbA x (i + 1) = orbA x (m + 1)) : orbA x i = orbA x m := by
  have a := (orb_den h hx hq i).2 hi
  have b := (orb_den h hx hq m).2 hm
  have wi := orb_wide h i
  have wm := orb_wide h m
  have e2 : dbl ((orbA x i).1, q) = dbl ((orbA x m).1, q) := by
    have e3 : dbl (orbA x i) = dbl (orbA x m) := e
    rw [show orbA x i = ((orbA x i).1, (orbA x i).2) from rfl, show orbA x m = ((orbA x m).1, (orbA x m).2) from rfl, a, b] at e3
    exact e3
  rw [a] at wi
  rw [b] at wm
  have := dbl_inj wi wm hq e2
  exact Prod.ext this (a.trans b.symm)
/-- Of an orbit so far without a repeat, the next one is there, if at all, at place p. -/
theorem orb_first {x : Int × Int} {p : Nat} {q : Int} (h : wide x.1 x.2) (hx : x.2 = 2 ^ p * q) (hq : q % 2 = 1) {i m : Nat} (hd : ∀ a b, a < b → b < m → orbA x a ≠ orbA x b) (him : i < m) (e : orbA x i = orbA x m) : i = p := by
  have hp := orb_back h hx hq him e
  by_cases z : i = p
  · exact z
  · exfalso
    obtain ⟨j, rfl⟩ : ∃ j, i = j + 1 := ⟨i - 1, by omega⟩
    obtain ⟨n, rfl⟩ : ∃ n, m = n + 1 := ⟨m - 1, by omega⟩
    exact hd j n (by omega) (by omega) (orb_step_back h hx hq (by omega) (by omega) e)
theorem exists_odd : ∀ d : Nat, 0 < d → ∃ (p : Nat) (q : Int), (d : Int) = 2 ^ p * q ∧ q % 2 = 1 := by
  intro d
  induction d using Nat.strongRecOn with
  | _ d ih =>
    intro hd
    by_cases h : d % 2 = 0
    · obtain ⟨p, q, e, hq⟩ := ih (d / 2) (by omega) (by omega)
      refine ⟨p + 1, q, ?_, hq⟩
      have : (d : Int) = 2 * ((d / 2 : Nat) : Int) := by omega
      rw [this, e, Int.pow_succ]
      grind
    · exact ⟨0, d, by simp, by omega⟩
/-- As the printed texts have an angle in a list. -/
def toS (x : Int × Int) : S51 := ⟨x.1, x.2⟩
theorem toS_inj {x y : Int × Int} (h : toS x = toS y) : x = y := by
  have a := congrArg S51.f0 h
  have b := congrArg S51.f1 h
  exact Prod.ext a b
def seg (x : Int × Int) (m : Nat) : List S51 := (List.range m).map fun i => toS (orbA x i)
theorem seg_length (x : Int × Int) (m : Nat) : (seg x m).length = m := by simp [seg]
theorem seg_succ (x : Int × Int) (m : Nat) : seg x (m + 1) = seg x m ++ [toS (orbA x m)] := by simp [seg, List.range_succ]
theorem seg_get (x : Int × Int) {m i : Nat} (h : i < m) : (seg x m)[i]'(by rw [seg_length]; exact h) = toS (orbA x i) := by simp [seg]
/-- The orbit, its preperiod, and whether it is short enough. -/
def orbGo (x : Int × Int) (p : Nat) : Nat → Nat → List S51 × Int × Bool
  | 0, _ => ([], 0, false)
  | f + 1, m => if p < m ∧ orbA x m = orbA x p then (seg x m, (p : Int), true) else if m = 64 then ([], 0, false) else orbGo x p f (m + 1)
theorem orbGo_short (x : Int × Int) (p : Nat) : ∀ f m, m + f = 65 → (orbGo x p f m).1.length ≤ 64 := by
  intro f
  induction f with
  | zero => intro m _; simp [orbGo]
  | succ f ih =>
    intro m hm
    unfold orbGo
    split
    · rw [seg_length]; omega
    · split
      · simp
      · exact ih (m + 1) (by omega)
end Go.Proofs.Ytngffoffjiofbaa.Q
