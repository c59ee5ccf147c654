/- Letters of angles: the printed functions' plain values. -/
import Derived.Test.YtgjloehbbmlagaaAngOrder
import Derived.Test.YtgjloehbbmlagaaAngDouble
import Derived.Test.YtgjloehbbmlagaaQx35
import Derived.Test.YtgjloehbbmlagaaQx37
namespace Go.Proofs.Ytgjloehbbmlagaa.Q
open Go.RowKit Go.Proofs.YtgjloehbbmlagaaW.PrintWords Go.Proofs.YtgjloehbbmlagaaW.PrintLast Go.Proofs.YtgjloehbbmlagaaW.Ext Go.Proofs.Ytgjloehbbmlagaa.Ang
set_option linter.unusedVariables false

/-- The letter of x for t. -/
def letV (x t : Int × Int) : Int := if dbl x = t then 42 else if t.1 * x.2 < 2 * x.1 * t.2 ∧ 2 * x.1 * t.2 < t.1 * x.2 + x.2 * t.2 then 49 else 48
theorem letV_three (x t : Int × Int) : letV x t = 42 ∨ letV x t = 49 ∨ letV x t = 48 := by
  unfold letV
  split
  · exact .inl rfl
  · split
    · exact .inr (.inl rfl)
    · exact .inr (.inr rfl)
/-- The double is t just where twice x is t, or t with a turn more. -/
theorem dbl_iff {x t : Int × Int} (hx : isA x.1 x.2 = true) (ht : isA t.1 t.2 = true) : dbl x = t ↔ (2 * x.1 * t.2 = t.1 * x.2 ∨ 2 * x.1 * t.2 = t.1 * x.2 + x.2 * t.2) := by
  obtain ⟨h1, h2, h3, h4, _⟩ := isA_iff.1 hx
  obtain ⟨k1, k2, k3, k4, _⟩ := isA_iff.1 ht
  have hd : 0 < x.2 := by omega
  obtain ⟨g, hg, g1, g2⟩ := ang_mul (n := 2 * x.1) hd
  have e0 : dbl x = t ↔ (dbl x).1 * t.2 = t.1 * (dbl x).2 := by
    constructor
    · intro h; rw [h]
    · intro h
      obtain ⟨a, b⟩ := wide_eq (ang_wide (n := 2 * x.1) hd) (isA_wide ht) h
      exact Prod.ext a b
  have e1 : (dbl x).1 * t.2 = t.1 * (dbl x).2 ↔ (2 * x.1 % x.2) * t.2 = t.1 * x.2 := by
    have d1 : (dbl x).1 * g = 2 * x.1 % x.2 := g1
    have d2 : (dbl x).2 * g = x.2 := g2
    rw [← d1]
    have f1 : (dbl x).1 * g * t.2 = ((dbl x).1 * t.2) * g := by grind
    have f2 : t.1 * x.2 = (t.1 * (dbl x).2) * g := by
      rw [Int.mul_assoc, d2]
    rw [f1, f2]
    constructor
    · intro h; rw [h]
    · intro h; exact Int.eq_of_mul_eq_mul_right (by omega) h
  rw [e0, e1]
  have td : 0 < t.2 := by omega
  have p0 : t.1 * x.2 < x.2 * t.2 := by rw [Int.mul_comm x.2]; exact (Int.mul_lt_mul_right hd).2 (by omega)
  have p1 : 0 ≤ t.1 * x.2 := Int.mul_nonneg k3 (by omega)
  by_cases c : 2 * x.1 < x.2
  · rw [Int.emod_eq_of_lt (by omega) c]
    have p2 : 2 * x.1 * t.2 < x.2 * t.2 := (Int.mul_lt_mul_right td).2 c
    omega
  · have em : 2 * x.1 % x.2 = 2 * x.1 - x.2 := by
      rw [← Int.emod_eq_of_lt (show 0 ≤ 2 * x.1 - x.2 by omega) (show 2 * x.1 - x.2 < x.2 by omega), Int.sub_emod_right]
    rw [em, Int.sub_mul]
    have p2 : x.2 * t.2 ≤ 2 * x.1 * t.2 := Int.mul_le_mul_of_nonneg_right (by omega) (by omega)
    omega
theorem ev_spec_letter {a b c d : Int} (h : isA a b = true) (k : isA c d = true) : Ev (fun n => spec_l02Letter.f n a b c d) (letV (a, b) (c, d)) := by
  obtain ⟨h1, h2, h3, h4, _⟩ := isA_iff.1 h
  obtain ⟨k1, k2, k3, k4, _⟩ := isA_iff.1 k
  have p1 := prod_in h3 (show a ≤ 8191 by omega) (show 0 ≤ d by omega) k2
  have p2 := prod_in k3 (show c ≤ 8191 by omega) (show 0 ≤ b by omega) h2
  have p3 := prod_in (show 0 ≤ b by omega) h2 (show 0 ≤ d by omega) k2
  have e1 : 2 * d * a = 2 * a * d := by grind
  have e1' : 2 * a * d = 2 * (a * d) := by grind
  have e2 : (c + d) * b = c * b + b * d := by grind
  unfold spec_l02Letter.f
  refine Ev.bind (ev_spec_Double h) ?_
  rw [wrap_in (x := 2 * d) (by omega) (by omega), wrap_in (x := c + d) (by omega) (by omega), e1, e2, wrap_in (x := 2 * a * d) (by omega) (by omega), wrap_in (x := c * b) (by omega) (by omega), wrap_in (x := c * b + b * d) (by omega) (by omega)]
  simp only [eq_pair, decide_eq_true_eq]
  unfold letV
  refine ev_if (fun z => ?_) (fun z => ?_)
  · rw [if_pos z]; exact Ev.now _
  · rw [if_neg z]
    by_cases u : c * b < 2 * a * d
    · by_cases v : 2 * a * d < c * b + b * d
      · simp only [gt_iff_lt, u, v, and_self, if_true]; exact Ev.now _
      · simp only [gt_iff_lt, u, v, and_false, if_true, if_false]; exact Ev.now _
    · simp only [gt_iff_lt, u, false_and, if_false]; exact Ev.now _
theorem ev_impl_letter {a b c d : Int} (h : isA a b = true) (k : isA c d = true) : Ev (fun n => impl_letterOf.f n a b c d) (letV (a, b) (c, d)) := by
  obtain ⟨h1, h2, h3, h4, _⟩ := isA_iff.1 h
  obtain ⟨k1, k2, k3, k4, _⟩ := isA_iff.1 k
  have p1 := prod_in h3 (show a ≤ 8191 by omega) (show 0 ≤ d by omega) k2
  have p2 := prod_in k3 (show c ≤ 8191 by omega) (show 0 ≤ b by omega) h2
  have p3 := prod_in (show 0 ≤ b by omega) h2 (show 0 ≤ d by omega) k2
  have e1' : 2 * a * d = 2 * (a * d) := by grind
  have iff_ := dbl_iff (x := (a, b)) (t := (c, d)) h k
  simp only at iff_
  unfold impl_letterOf.f
  rw [wrap_in (x := 2 * a) (by omega) (by omega), wrap_in (x := 2 * a * d) (by omega) (by omega), wrap_in (x := c * b) (by omega) (by omega), wrap_in (x := b * d) (by omega) (by omega), wrap_in (x := c * b + b * d) (by omega) (by omega)]
  have star : dbl (a, b) = (c, d) → Ev (fun n => impl_letterOf.j0 n (2 * a * d) (c * b) (c * b + b * d) true) (letV (a, b) (c, d)) := fun z => by
    unfold letV
    rw [if_pos z]
    exact Ev.step (f := fun _ => some 42) (fun k => by simp [impl_letterOf.j0]) (Ev.now _)
  refine ev_if (fun z => star (iff_.2 (.inl z))) (fun z => ?_)
  by_cases y : 2 * a * d = c * b + b * d
  · have yb : (2 * a * d == c * b + b * d) = true := beq_iff_eq.2 y
    simp only [yb]
    exact star (iff_.2 (.inr y))
  · have yb : (2 * a * d == c * b + b * d) = false := beq_eq_false_iff_ne.2 y
    simp only [yb]
    refine Ev.step (f := fun _ => if c * b < 2 * a * d then (if 2 * a * d < c * b + b * d then some 49 else some 48) else some 48) (fun k => by simp [impl_letterOf.j0]) ?_
    unfold letV
    rw [if_neg (fun q => (iff_.1 q).elim z y)]
    by_cases u : c * b < 2 * a * d
    · by_cases v : 2 * a * d < c * b + b * d
      · simp only [u, v, and_self, if_true]; exact Ev.now _
      · simp only [u, v, and_false, if_true, if_false]; exact Ev.now _
    · simp only [u, false_and, if_false]; exact Ev.now _
end Go.Proofs.Ytgjloehbbmlagaa.Q
