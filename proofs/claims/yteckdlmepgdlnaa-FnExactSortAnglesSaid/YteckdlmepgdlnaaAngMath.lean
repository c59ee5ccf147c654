/- Angles as fractions in lowest terms: plain arithmetic, no program. -/
namespace Go.Proofs.Yteckdlmepgdlnaa.Ang
/-- A part of a turn, without whole turns, in lowest terms. -/
def ang (n d : Int) : Int × Int := ((n % d) / Int.gcd (n % d) d, d / Int.gcd (n % d) d)
/-- Is it an angle. -/
def isA (n d : Int) : Bool := decide (1 ≤ d ∧ d ≤ 8191 ∧ 0 ≤ n ∧ n ≤ d - 1 ∧ Int.gcd n d = 1)
/-- Is it an angle but for the bound on its Den. -/
def wide (n d : Int) : Prop := 1 ≤ d ∧ 0 ≤ n ∧ n < d ∧ Int.gcd n d = 1

theorem isA_iff {n d : Int} : isA n d = true ↔ 1 ≤ d ∧ d ≤ 8191 ∧ 0 ≤ n ∧ n ≤ d - 1 ∧ Int.gcd n d = 1 := by simp [isA]
theorem isA_wide {n d : Int} (h : isA n d = true) : wide n d := by
  obtain ⟨a, b, c, e, f⟩ := isA_iff.1 h
  exact ⟨a, c, by omega, f⟩

theorem gcd_pos {n d : Int} (hd : 0 < d) : (0 : Int) < (Int.gcd n d : Int) := by
  have := Int.gcd_pos_iff.2 (show n ≠ 0 ∨ d ≠ 0 from .inr (by omega))
  omega
theorem gcd_le {n d : Int} (hd : 0 < d) : (Int.gcd n d : Int) ≤ d := by
  exact Int.le_of_dvd hd (Int.gcd_dvd_right _ _)

theorem ang_den_pos {n d : Int} (hd : 0 < d) : 0 < (ang n d).2 := by
  have h1 := gcd_pos (n := n % d) hd
  have h2 := gcd_le (n := n % d) hd
  exact Int.ediv_pos_of_pos_of_dvd hd (by omega) (Int.gcd_dvd_right _ _)

theorem ang_den_le {n d : Int} (hd : 0 < d) : (ang n d).2 ≤ d := Int.ediv_le_self _ (by omega)

/-- The two parts, times the divisor. -/
theorem ang_mul {n d : Int} (hd : 0 < d) : ∃ g : Int, 0 < g ∧ (ang n d).1 * g = n % d ∧ (ang n d).2 * g = d := by
  refine ⟨Int.gcd (n % d) d, gcd_pos hd, ?_, ?_⟩
  · exact Int.ediv_mul_cancel (Int.gcd_dvd_left _ _)
  · exact Int.ediv_mul_cancel (Int.gcd_dvd_right _ _)

theorem ang_wide {n d : Int} (hd : 0 < d) : wide (ang n d).1 (ang n d).2 := by
  obtain ⟨g, hg, h1, h2⟩ := ang_mul (n := n) hd
  have hn := Int.emod_nonneg n (show d ≠ 0 by omega)
  have hl := Int.emod_lt_of_pos n hd
  have hp := ang_den_pos (n := n) hd
  have hn0 : 0 ≤ (ang n d).1 := by
    unfold ang
    exact Int.ediv_nonneg hn (by omega)
  refine ⟨by omega, hn0, ?_, ?_⟩
  · have : (ang n d).1 * g < (ang n d).2 * g := by omega
    exact (Int.mul_lt_mul_right hg).1 this
  · unfold ang
    have hg2 := gcd_pos (n := n % d) hd
    rw [Int.gcd_ediv (Int.gcd_dvd_left _ _) (Int.gcd_dvd_right _ _), Int.natAbs_natCast]
    exact Nat.div_self (by omega)

/-- What is in lowest terms is told as it is. -/
theorem ang_self {n d : Int} (h : wide n d) : ang n d = (n, d) := by
  obtain ⟨h1, h2, h3, h4⟩ := h
  unfold ang
  rw [Int.emod_eq_of_lt h2 h3, h4]
  simp

/-- What two have in common falls away. -/
theorem ang_scale {g n d : Int} (hg : 0 < g) (hd : 0 < d) : ang (g * n) (g * d) = ang n d := by
  unfold ang
  rw [Int.mul_emod_mul_of_pos _ _ hg, Int.gcd_mul_left]
  have hgg := gcd_pos (n := n % d) hd
  have e : ((g.natAbs * Int.gcd (n % d) d : Nat) : Int) = g * (Int.gcd (n % d) d : Int) := by
    rw [Int.natCast_mul, Int.natAbs_of_nonneg (by omega)]
  rw [e, Int.mul_ediv_mul_of_pos _ _ hg, Int.mul_ediv_mul_of_pos _ _ hg]

theorem ang_emod {n d : Int} : ang (n % d) d = ang n d := by
  unfold ang
  rw [Int.emod_emod_of_dvd _ (Int.dvd_refl d)]

theorem ang_congr {n m d : Int} (h : n % d = m % d) : ang n d = ang m d := by
  unfold ang
  rw [h]

/-- Two in lowest terms of one size are one. -/
theorem wide_eq {a b c d : Int} (h : wide a b) (k : wide c d) (e : a * d = c * b) : a = c ∧ b = d := by
  have h1 := ang_self h
  have h2 := ang_self k
  have e1 : ang (d * a) (d * b) = (a, b) := by rw [ang_scale (by have := k.1; omega) (by have := h.1; omega), h1]
  have e2 : ang (b * c) (b * d) = (c, d) := by rw [ang_scale (by have := h.1; omega) (by have := k.1; omega), h2]
  rw [show d * a = b * c by rw [Int.mul_comm, e, Int.mul_comm], show d * b = b * d from Int.mul_comm _ _, e2] at e1
  simp only [Prod.mk.injEq] at e1
  exact ⟨e1.1.symm, e1.2.symm⟩

/-- Back from an angle forward: the angle that is lacking. -/
theorem ang_neg {n d : Int} (hd : 0 < d) : ang (-(ang n d).1) (ang n d).2 = ang (-n) d := by
  obtain ⟨g, hg, h1, h2⟩ := ang_mul (n := n) hd
  rw [← ang_scale hg (ang_den_pos hd)]
  have e1 : g * -(ang n d).1 = -(n % d) := by rw [← h1]; grind
  have e2 : g * (ang n d).2 = d := by rw [Int.mul_comm]; exact h2
  rw [e1, e2]
  apply ang_congr
  have := Int.emod_add_mul_ediv n d
  have e3 : -(n % d) = -n + d * (n / d) := by omega
  rw [e3, Int.add_mul_emod_self_left]

/-- Is the first less. -/
def lt (a b : Int × Int) : Prop := a.1 * b.2 < b.1 * a.2
instance (a b : Int × Int) : Decidable (lt a b) := by unfold lt; exact inferInstance

theorem lt_irrefl (a : Int × Int) : ¬ lt a a := by unfold lt; omega
theorem lt_asymm {a b : Int × Int} (h : lt a b) : ¬ lt b a := by unfold lt at *; omega
theorem lt_trans {a b c : Int × Int} (ha : 0 < a.2) (hb : 0 < b.2) (hc : 0 < c.2) (h : lt a b) (k : lt b c) : lt a c := by
  unfold lt at *
  have h1 : a.1 * b.2 * c.2 < b.1 * a.2 * c.2 := (Int.mul_lt_mul_right hc).2 h
  have h2 : b.1 * c.2 * a.2 < c.1 * b.2 * a.2 := (Int.mul_lt_mul_right ha).2 k
  have h3 : a.1 * c.2 * b.2 < c.1 * a.2 * b.2 := by
    have e1 : a.1 * c.2 * b.2 = a.1 * b.2 * c.2 := by grind
    have e2 : b.1 * a.2 * c.2 = b.1 * c.2 * a.2 := by grind
    have e3 : c.1 * a.2 * b.2 = c.1 * b.2 * a.2 := by grind
    omega
  exact (Int.mul_lt_mul_right hb).1 h3
theorem lt_or {a b : Int × Int} (ha : wide a.1 a.2) (hb : wide b.1 b.2) (h : a ≠ b) : lt a b ∨ lt b a := by
  unfold lt
  by_cases e : a.1 * b.2 = b.1 * a.2
  · obtain ⟨e1, e2⟩ := wide_eq ha hb e
    exact absurd (Prod.ext e1 e2) h
  · omega

/-- The angle from a forward to b. -/
def fwd (a b : Int × Int) : Int × Int := ang (b.1 * a.2 - a.1 * b.2) (b.2 * a.2)

/-- How far it is forward, in parts of the turn. -/
theorem fwd_val {a b : Int × Int} (ha : wide a.1 a.2) (hb : wide b.1 b.2) :
    (b.1 * a.2 - a.1 * b.2) % (b.2 * a.2) = b.1 * a.2 - a.1 * b.2 + (if lt b a then b.2 * a.2 else 0) := by
  obtain ⟨a1, a2, a3, _⟩ := ha
  obtain ⟨b1, b2, b3, _⟩ := hb
  have p1 : b.1 * a.2 < b.2 * a.2 := (Int.mul_lt_mul_right (by omega)).2 b3
  have p2 : a.1 * b.2 < b.2 * a.2 := by rw [Int.mul_comm b.2]; exact (Int.mul_lt_mul_right (by omega)).2 a3
  have p3 : 0 ≤ b.1 * a.2 := Int.mul_nonneg b2 (by omega)
  have p4 : 0 ≤ a.1 * b.2 := Int.mul_nonneg a2 (by omega)
  by_cases h : lt b a
  · rw [if_pos h]
    unfold lt at h
    rw [← Int.add_emod_right, Int.emod_eq_of_lt (by omega) (by omega)]
  · rw [if_neg h]
    unfold lt at h
    rw [Int.emod_eq_of_lt (by omega) (by omega)]
    omega

/-- Of two that differ from a and from each other, the one behind the other in the arc. -/
theorem fwd_lt {a b c : Int × Int} (ha : wide a.1 a.2) (hb : wide b.1 b.2) (hc : wide c.1 c.2) :
    lt (fwd a b) (fwd a c) ↔ (if lt b a then (if lt c a then lt b c else False) else (if lt c a then True else lt b c)) := by
  have A := ha.1; have B := hb.1; have C := hc.1
  have hba : 0 < b.2 * a.2 := Int.mul_pos (by omega) (by omega)
  have hca : 0 < c.2 * a.2 := Int.mul_pos (by omega) (by omega)
  obtain ⟨g, hg, g1, g2⟩ := ang_mul (n := b.1 * a.2 - a.1 * b.2) hba
  obtain ⟨h, hh, h1, h2⟩ := ang_mul (n := c.1 * a.2 - a.1 * c.2) hca
  rw [fwd_val ha hb] at g1
  rw [fwd_val ha hc] at h1
  have key : lt (fwd a b) (fwd a c) ↔ (b.1 * a.2 - a.1 * b.2 + (if lt b a then b.2 * a.2 else 0)) * (c.2 * a.2) < (c.1 * a.2 - a.1 * c.2 + (if lt c a then c.2 * a.2 else 0)) * (b.2 * a.2) := by
    have e0 : (fwd a b).1 * g = _ := g1
    have e1 : (fwd a b).2 * g = b.2 * a.2 := g2
    have e3 : (fwd a c).1 * h = _ := h1
    have e2 : (fwd a c).2 * h = c.2 * a.2 := h2
    rw [← e0, ← e3, ← e1, ← e2]
    unfold lt
    have f1 : (fwd a b).1 * g * ((fwd a c).2 * h) = (fwd a b).1 * (fwd a c).2 * (g * h) := by grind
    have f2 : (fwd a c).1 * h * ((fwd a b).2 * g) = (fwd a c).1 * (fwd a b).2 * (g * h) := by grind
    rw [f1, f2]
    exact (Int.mul_lt_mul_right (Int.mul_pos hg hh)).symm
  rw [key]
  have fac : ∀ (x y : Int), (b.1 * a.2 - a.1 * b.2 + x * (b.2 * a.2)) * (c.2 * a.2) < (c.1 * a.2 - a.1 * c.2 + y * (c.2 * a.2)) * (b.2 * a.2) ↔ b.1 * c.2 + x * (b.2 * c.2) < c.1 * b.2 + y * (b.2 * c.2) := by
    intro x y
    have f1 : (b.1 * a.2 - a.1 * b.2 + x * (b.2 * a.2)) * (c.2 * a.2) = (b.1 * c.2 + x * (b.2 * c.2)) * (a.2 * a.2) - a.1 * b.2 * (c.2 * a.2) := by grind
    have f2 : (c.1 * a.2 - a.1 * c.2 + y * (c.2 * a.2)) * (b.2 * a.2) = (c.1 * b.2 + y * (b.2 * c.2)) * (a.2 * a.2) - a.1 * b.2 * (c.2 * a.2) := by grind
    rw [f1, f2]
    have hp : 0 < a.2 * a.2 := Int.mul_pos (by omega) (by omega)
    have z := Int.mul_lt_mul_right (b := b.1 * c.2 + x * (b.2 * c.2)) (c := c.1 * b.2 + y * (b.2 * c.2)) hp
    omega
  have bc : 0 < b.2 * c.2 := Int.mul_pos (by omega) (by omega)
  have q1 : b.1 * c.2 < b.2 * c.2 := (Int.mul_lt_mul_right (by omega)).2 hb.2.2.1
  have q2 : c.1 * b.2 < b.2 * c.2 := by rw [Int.mul_comm b.2]; exact (Int.mul_lt_mul_right (by omega)).2 hc.2.2.1
  have q3 : 0 ≤ b.1 * c.2 := Int.mul_nonneg hb.2.1 (by omega)
  have q4 : 0 ≤ c.1 * b.2 := Int.mul_nonneg hc.2.1 (by omega)
  have ee : ∀ (p : Prop) [Decidable p] (z : Int), (if p then z else 0) = (if p then 1 else 0) * z := by
    intro p _ z
    split <;> simp
  rw [ee (lt b a), ee (lt c a), fac]
  by_cases u : lt b a <;> by_cases v : lt c a <;> simp only [u, v, if_true, if_false, iff_true, iff_false] <;> (try unfold lt) <;> omega

/-- Is x in the arc from a to b (as the document's reference has it). -/
def within (x a b : Int × Int) : Bool := if lt a b then decide (lt a x) && decide (lt x b) else decide (lt a x) || decide (lt x b)

/-- The cyclic order by what is forward, and by arcs. -/
theorem order_within {a b c : Int × Int} (ha : wide a.1 a.2) (hb : wide b.1 b.2) (hc : wide c.1 c.2) (hab : a ≠ b) (hbc : b ≠ c) (hac : a ≠ c) :
    decide (lt (fwd a b) (fwd a c)) = within b a c := by
  have h := fwd_lt ha hb hc
  have t1 := lt_or ha hb hab
  have t2 := lt_or hb hc hbc
  have t3 := lt_or ha hc hac
  have s1 : ¬ (lt a b ∧ lt b a) := fun z => lt_asymm z.1 z.2
  have s2 : ¬ (lt b c ∧ lt c b) := fun z => lt_asymm z.1 z.2
  have s3 : ¬ (lt a c ∧ lt c a) := fun z => lt_asymm z.1 z.2
  unfold within
  by_cases u : lt a b <;> by_cases v : lt b a <;> by_cases p : lt b c <;> by_cases q : lt c b <;> by_cases m : lt a c <;> by_cases n : lt c a <;> simp_all

theorem order_within_ne {a b c : Int × Int} (ha : wide a.1 a.2) (hb : wide b.1 b.2) (hc : wide c.1 c.2) (hac : a ≠ c) (h : within b a c = true) : a ≠ b ∧ b ≠ c := by
  unfold within at h
  have t3 := lt_or ha hc hac
  constructor
  · rintro rfl
    have := lt_irrefl a
    by_cases u : lt a c
    · simp [u, this] at h
    · simp [u, this] at h
  · rintro rfl
    have := lt_irrefl b
    by_cases u : lt a b
    · simp [u, this] at h
    · simp [u, this] at h

/-! A number that all dens divide: sizes as whole numbers. -/
theorem exists_mult : ∀ n : Nat, ∃ L : Int, 0 < L ∧ ∀ d : Int, 1 ≤ d → d ≤ n → d ∣ L
  | 0 => ⟨1, by omega, fun d h1 h2 => by omega⟩
  | n + 1 => by
    obtain ⟨L, hL, h⟩ := exists_mult n
    refine ⟨L * (n + 1 : Nat), Int.mul_pos hL (by omega), fun d h1 h2 => ?_⟩
    by_cases e : d = (n + 1 : Nat)
    · subst e
      exact Int.dvd_mul_left _ _
    · exact Int.dvd_trans (h d h1 (by omega)) (Int.dvd_mul_right _ _)
def denMax : Nat := 1152921504606846976
noncomputable def bigL : Int := Classical.choose (exists_mult denMax)
theorem bigL_pos : 0 < bigL := (Classical.choose_spec (exists_mult denMax)).1
theorem bigL_dvd {d : Int} (h1 : 1 ≤ d) (h2 : d ≤ denMax) : d ∣ bigL := (Classical.choose_spec (exists_mult denMax)).2 d h1 h2
/-- The size of an angle, as a whole number. -/
noncomputable def key (a : Int × Int) : Int := a.1 * (bigL / a.2)
theorem lt_key {a b : Int × Int} (ha : 1 ≤ a.2) (ha' : a.2 ≤ denMax) (hb : 1 ≤ b.2) (hb' : b.2 ≤ denMax) : lt a b ↔ key a < key b := by
  have h1 : bigL / a.2 * a.2 = bigL := Int.ediv_mul_cancel (bigL_dvd ha ha')
  have h2 : bigL / b.2 * b.2 = bigL := Int.ediv_mul_cancel (bigL_dvd hb hb')
  have hp : 0 < a.2 * b.2 := Int.mul_pos (by omega) (by omega)
  have z := Int.mul_lt_mul_right (b := key a) (c := key b) hp
  have e1 : key a * (a.2 * b.2) = (a.1 * b.2) * bigL := by unfold key; rw [← h1]; grind
  have e2 : key b * (a.2 * b.2) = (b.1 * a.2) * bigL := by unfold key; rw [← h2]; grind
  rw [e1, e2, Int.mul_lt_mul_right bigL_pos] at z
  exact z
theorem key_inj {a b : Int × Int} (ha : wide a.1 a.2) (ha' : a.2 ≤ denMax) (hb : wide b.1 b.2) (hb' : b.2 ≤ denMax) : key a = key b ↔ a = b := by
  constructor
  · intro h
    by_cases e : a = b
    · exact e
    · rcases lt_or ha hb e with z | z
      · rw [lt_key ha.1 ha' hb.1 hb'] at z; omega
      · rw [lt_key hb.1 hb' ha.1 ha'] at z; omega
  · rintro rfl; rfl

/-- Two leaves cross, asked from either one: in whole numbers. -/
theorem cross_int (P Q R S : Int) (h : P < Q) (k : R < S) :
    (((if P = R ∨ R = Q ∨ P = Q then (0:Int) else if (if P < Q then decide (P < R) && decide (R < Q) else decide (P < R) || decide (R < Q)) = true then 1 else -1) * (if P = S ∨ S = Q ∨ P = Q then (0:Int) else if (if P < Q then decide (P < S) && decide (S < Q) else decide (P < S) || decide (S < Q)) = true then 1 else -1)) == -1)
      = (if P = R ∨ P = S ∨ Q = R ∨ Q = S then false else ((if R < S then decide (R < P) && decide (P < S) else decide (R < P) || decide (P < S)) != (if R < S then decide (R < Q) && decide (Q < S) else decide (R < Q) || decide (Q < S)))) := by
  rcases Int.lt_trichotomy P R with a | a | a <;> rcases Int.lt_trichotomy P S with b | b | b <;> rcases Int.lt_trichotomy Q R with c | c | c <;> rcases Int.lt_trichotomy Q S with d | d | d <;> first | omega | (simp [h, k, a, b, c, d, Int.lt_asymm a, Int.lt_asymm b, Int.lt_asymm c, Int.lt_asymm d, Int.ne_of_lt]; done) | (simp_all; omega) | grind
end Go.Proofs.Yteckdlmepgdlnaa.Ang
