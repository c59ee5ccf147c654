/- Whether two leaves cross: the two ways to ask answer alike. -/
import Derived.Test.YtkdefglfolmfbaaAngLeaves
import Derived.Test.YtkdefglfolmfbaaQx25
namespace Go.Proofs.Ytkdefglfolmfbaa.Q
open Go.RowKit Go.Proofs.YtkdefglfolmfbaaW.PrintWords Go.Proofs.YtkdefglfolmfbaaW.PrintLast Go.Proofs.YtkdefglfolmfbaaW.Ext Go.Proofs.Ytkdefglfolmfbaa.Ang
set_option linter.unusedVariables false
set_option linter.unusedSimpArgs false

theorem isA_den {n d : Int} (h : isA n d = true) : d ≤ denMax := by
  obtain ⟨a, b, _⟩ := isA_iff.1 h
  unfold denMax
  omega
/-- Do two leaves cross, as the reference asks. -/
def crossV (p q r s : Int × Int) : Bool := if p = r ∨ p = s ∨ q = r ∨ q = s then false else within p r s != within q r s
theorem lt_keyA {a b : Int × Int} (ha : isA a.1 a.2 = true) (hb : isA b.1 b.2 = true) : lt a b ↔ key a < key b := lt_key (isA_wide ha).1 (isA_den ha) (isA_wide hb).1 (isA_den hb)
theorem eq_keyA {a b : Int × Int} (ha : isA a.1 a.2 = true) (hb : isA b.1 b.2 = true) : a = b ↔ key a = key b := (key_inj (isA_wide ha) (isA_den ha) (isA_wide hb) (isA_den hb)).symm
theorem cross_eq {p q r s : Int × Int} (hp : isA p.1 p.2 = true) (hq : isA q.1 q.2 = true) (hr : isA r.1 r.2 = true) (hs : isA s.1 s.2 = true) (h : lt p q) (k : lt r s) :
    (ordV p r q * ordV p s q == -1) = crossV p q r s := by
  have z := cross_int (key p) (key q) (key r) (key s) ((lt_keyA hp hq).1 h) ((lt_keyA hr hs).1 k)
  unfold ordV crossV within
  simp only [lt_keyA hp hq, lt_keyA hp hr, lt_keyA hp hs, lt_keyA hr hq, lt_keyA hs hq, lt_keyA hr hs, lt_keyA hr hp, lt_keyA hs hp, lt_keyA hq hr, lt_keyA hq hs, eq_keyA hp hq, eq_keyA hp hr, eq_keyA hp hs, eq_keyA hr hq, eq_keyA hs hq, eq_keyA hr hs, eq_keyA hr hp, eq_keyA hs hp, eq_keyA hq hr, eq_keyA hq hs]
  exact z
theorem ordV_small (a b c : Int × Int) : -1 ≤ ordV a b c ∧ ordV a b c ≤ 1 := by
  unfold ordV
  split
  · omega
  · split <;> omega
theorem ev_impl_cross {p1 p2 q1 q2 r1 r2 s1 s2 : Int} (hp : isA p1 p2 = true) (hq : isA q1 q2 = true) (hr : isA r1 r2 = true) (hs : isA s1 s2 = true) (h : lt (p1, p2) (q1, q2)) (k : lt (r1, r2) (s1, s2)) :
    Ev (fun n => impl_Leaf_cross.f n p1 p2 q1 q2 r1 r2 s1 s2) (crossV (p1, p2) (q1, q2) (r1, r2) (s1, s2)) := by
  unfold impl_Leaf_cross.f
  refine Ev.bind (ev_order hp hr hq) ?_
  refine Ev.bind (ev_order hp hs hq) ?_
  rw [← cross_eq hp hq hr hs h k]
  have b1 := ordV_small (p1, p2) (r1, r2) (q1, q2)
  have b2 := ordV_small (p1, p2) (s1, s2) (q1, q2)
  have e : wrap64 (ordV (p1, p2) (r1, r2) (q1, q2) * ordV (p1, p2) (s1, s2) (q1, q2)) = ordV (p1, p2) (r1, r2) (q1, q2) * ordV (p1, p2) (s1, s2) (q1, q2) := by
    generalize ordV (p1, p2) (r1, r2) (q1, q2) = x at *
    generalize ordV (p1, p2) (s1, s2) (q1, q2) = y at *
    have hx : x = -1 ∨ x = 0 ∨ x = 1 := by omega
    have hy : y = -1 ∨ y = 0 ∨ y = 1 := by omega
    rcases hx with rfl | rfl | rfl <;> rcases hy with rfl | rfl | rfl <;> exact wrap_in (by decide) (by decide)
  rw [e]
  exact Ev.now _
end Go.Proofs.Ytkdefglfolmfbaa.Q
