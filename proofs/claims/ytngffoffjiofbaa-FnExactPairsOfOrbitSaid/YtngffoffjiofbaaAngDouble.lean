/- Doubled angles: the printed functions' plain values. -/
import Derived.Test.YtngffoffjiofbaaAngCore
import Derived.Test.YtngffoffjiofbaaQx31
import Derived.Test.YtngffoffjiofbaaQx40
namespace Go.Proofs.Ytngffoffjiofbaa.Q
open Go.RowKit Go.Proofs.YtngffoffjiofbaaW.PrintWords Go.Proofs.YtngffoffjiofbaaW.PrintLast Go.Proofs.YtngffoffjiofbaaW.Ext Go.Proofs.Ytngffoffjiofbaa.Ang
set_option linter.unusedVariables false

/-- An angle's double. -/
def dbl (a : Int × Int) : Int × Int := ang (2 * a.1) a.2
theorem isA_bd {n d : Int} (h : isA n d = true) : 0 < d ∧ d ≤ 8191 ∧ 0 ≤ n ∧ n ≤ 8190 := by
  obtain ⟨a, b, c, e, _⟩ := isA_iff.1 h
  omega
theorem ang_isA {n d : Int} (hd : 0 < d) (h8 : d ≤ 8191) : isA (ang n d).1 (ang n d).2 = true := by
  have w := ang_wide (n := n) hd
  have l := ang_den_le (n := n) hd
  exact isA_iff.2 ⟨w.1, by omega, w.2.1, by have := w.2.2.1; omega, w.2.2.2⟩
theorem dbl_isA {a b : Int} (h : isA a b = true) : isA (dbl (a, b)).1 (dbl (a, b)).2 = true := ang_isA (isA_bd h).1 (isA_bd h).2.1
theorem ev_spec_Double {a b : Int} (h : isA a b = true) : Ev (fun k => spec_l01Double.f k a b) (dbl (a, b)) := by
  obtain ⟨h1, h2, h3, h4⟩ := isA_bd h
  unfold spec_l01Double.f
  rw [wrap_in (x := 2 * a) (by omega) (by omega)]
  exact Ev.bind (ev_spec_Of h1 (by omega)) (Ev.now _)
theorem ev_impl_double {a b : Int} (h : isA a b = true) : Ev (fun k => impl_Angle_double.f k a b) (dbl (a, b)) := by
  obtain ⟨h1, h2, h3, h4⟩ := isA_bd h
  unfold impl_Angle_double.f
  rw [wrap_in (x := 2 * a) (by omega) (by omega)]
  exact Ev.bind (ev_impl_angle h1 (by omega)) (Ev.now _)
end Go.Proofs.Ytngffoffjiofbaa.Q
