/- What the printed functions on one angle answer: from some number of rounds on, the plain values of AngMath. -/
import Derived.Test.YteckdlmepgdlnaaAngMath
import Derived.Test.YteckdlmepgdlnaaQx2
import Derived.Test.YteckdlmepgdlnaaQx8
namespace Go.Proofs.Yteckdlmepgdlnaa.Q
open Go.RowKit Go.Proofs.YteckdlmepgdlnaaW.PrintWords Go.Proofs.YteckdlmepgdlnaaW.PrintLast Go.Proofs.YteckdlmepgdlnaaW.Ext Go.Proofs.Yteckdlmepgdlnaa.Ang
set_option linter.unusedVariables false

/-- A whole number that fits. -/
theorem wrap_in {x : Int} (h0 : -9223372036854775808 ≤ x) (h1 : x ≤ 9223372036854775807) : wrap64 x = x := by unfold wrap64; omega

theorem ev_if {α : Type} {c : Prop} [Decidable c] {f g : Nat → Option α} {r : α} (h1 : c → Ev f r) (h2 : ¬ c → Ev g r) : Ev (fun k => if c then f k else g k) r := by
  by_cases h : c
  · simp only [if_pos h]; exact h1 h
  · simp only [if_neg h]; exact h2 h

theorem ev_impl_divisor : ∀ (n m : Nat), Ev (fun k => impl_divisor.f k (m : Int) (n : Int)) ((Nat.gcd m n : Nat) : Int) := by
  intro n
  induction n using Nat.strongRecOn with
  | _ n ih =>
    intro m
    refine Ev.step (f := fun k => if (n : Int) = 0 then (some (m : Int)) else impl_divisor.f k (n : Int) (Int.tmod (m : Int) (n : Int))) (fun k => rfl) ?_
    refine ev_if (fun h => ?_) (fun h => ?_)
    · have : n = 0 := by omega
      subst this
      rw [Nat.gcd_zero_right]
      exact Ev.now _
    · have hn : 0 < n := by omega
      have e : Int.tmod (m : Int) (n : Int) = ((m % n : Nat) : Int) := by
        rw [Int.tmod_eq_emod_of_nonneg (by omega)]
        omega
      rw [e]
      have := ih (m % n) (Nat.mod_lt _ hn) n
      rw [show Nat.gcd m n = Nat.gcd n (m % n) by rw [Nat.gcd_comm m n, Nat.gcd_rec n m, Nat.gcd_comm]]
      exact this

theorem ev_spec_divisor : ∀ (n m : Nat), Ev (fun k => spec_l01Divisor.f k (m : Int) (n : Int)) ((Nat.gcd m n : Nat) : Int) := by
  intro n
  induction n using Nat.strongRecOn with
  | _ n ih =>
    intro m
    refine Ev.step (f := fun k => if (n : Int) > 0 then (if (n : Int) = 0 then none else spec_l01Divisor.f k (n : Int) (Int.tmod (m : Int) (n : Int))) else some (m : Int)) (fun k => rfl) ?_
    refine ev_if (fun h => ?_) (fun h => ?_)
    · have hn : 0 < n := by omega
      have e : Int.tmod (m : Int) (n : Int) = ((m % n : Nat) : Int) := by
        rw [Int.tmod_eq_emod_of_nonneg (by omega)]
        omega
      simp only [if_neg (show ¬ (n : Int) = 0 by omega)]
      rw [e]
      have := ih (m % n) (Nat.mod_lt _ hn) n
      rw [show Nat.gcd m n = Nat.gcd n (m % n) by rw [Nat.gcd_comm m n, Nat.gcd_rec n m, Nat.gcd_comm]]
      exact this
    · have : n = 0 := by omega
      subst this
      rw [Nat.gcd_zero_right]
      exact Ev.now _

theorem ev_impl_gcd {a b : Int} (ha : 0 ≤ a) (hb : 0 ≤ b) : Ev (fun k => impl_divisor.f k a b) (Int.gcd a b : Int) := by
  obtain ⟨m, rfl⟩ := Int.eq_ofNat_of_zero_le ha
  obtain ⟨n, rfl⟩ := Int.eq_ofNat_of_zero_le hb
  exact ev_impl_divisor n m
theorem ev_spec_gcd {a b : Int} (ha : 0 ≤ a) (hb : 0 ≤ b) : Ev (fun k => spec_l01Divisor.f k a b) (Int.gcd a b : Int) := by
  obtain ⟨m, rfl⟩ := Int.eq_ofNat_of_zero_le ha
  obtain ⟨n, rfl⟩ := Int.eq_ofNat_of_zero_le hb
  exact ev_spec_divisor n m

theorem ev_impl_IsAngle (n d : Int) : Ev (fun k => impl_IsAngle.f k n d) (isA n d) := by
  unfold impl_IsAngle.f impl_within.f isA
  by_cases h1 : 1 ≤ d
  · by_cases h2 : d ≤ 8191
    · simp only [if_pos h1, decide_eq_true h2, Option.bind_some, if_true]
      rw [wrap_in (show -9223372036854775808 ≤ d - 1 by omega) (by omega)]
      by_cases h3 : 0 ≤ n
      · by_cases h4 : n ≤ d - 1
        · simp only [if_pos h3, decide_eq_true h4, Option.bind_some, if_true]
          refine Ev.bind (ev_impl_gcd (by omega) (by omega)) ?_
          have e : ((Int.gcd d n : Int) == 1) = decide (1 ≤ d ∧ d ≤ 8191 ∧ 0 ≤ n ∧ n ≤ d - 1 ∧ Int.gcd n d = 1) := by
            rw [Int.gcd_comm d n, Bool.eq_iff_iff]
            simp [h1, h2, h3, h4]
            omega
          simp only [e]
          exact Ev.now _
        · simp only [if_pos h3, decide_eq_false h4, Option.bind_some]
          simp [h4]
          exact Ev.now _
      · simp only [if_neg h3, Option.bind_some]
        simp [h3]
        exact Ev.now _
    · simp only [if_pos h1, decide_eq_false h2, Option.bind_some]
      simp [h2]
      exact Ev.now _
  · simp only [if_neg h1, Option.bind_some]
    simp [h1]
    exact Ev.now _

theorem ev_spec_Is (n d : Int) : Ev (fun k => spec_l01Is.f k n d) (isA n d) := by
  unfold spec_l01Is.f spec_l01In.f isA
  by_cases h1 : 1 ≤ d
  · by_cases h2 : d ≤ 8191
    · simp only [ge_iff_le, if_pos h1, decide_eq_true h2, Option.bind_some, if_true]
      rw [wrap_in (show -9223372036854775808 ≤ d - 1 by omega) (by omega)]
      by_cases h3 : 0 ≤ n
      · by_cases h4 : n ≤ d - 1
        · simp only [if_pos h3, decide_eq_true h4, Option.bind_some, if_true]
          refine Ev.bind (ev_spec_gcd (by omega) (by omega)) ?_
          have e : ((Int.gcd n d : Int) == 1) = decide (1 ≤ d ∧ d ≤ 8191 ∧ 0 ≤ n ∧ n ≤ d - 1 ∧ Int.gcd n d = 1) := by
            rw [Bool.eq_iff_iff]
            simp [h1, h2, h3, h4]
            omega
          simp only [e]
          exact Ev.now _
        · simp only [if_pos h3, decide_eq_false h4, Option.bind_some]
          simp [h4]
          exact Ev.now _
      · simp only [if_neg h3, Option.bind_some]
        simp [h3]
        exact Ev.now _
    · simp only [ge_iff_le, if_pos h1, decide_eq_false h2, Option.bind_some]
      simp [h2]
      exact Ev.now _
  · simp only [ge_iff_le, if_neg h1, Option.bind_some]
    simp [h1]
    exact Ev.now _

/-- All of a list are angles. -/
def allA (l : List S33) : Bool := l.all fun x => isA x.f0 x.f1
theorem ev_allM (l : List S33) : Ev (fun k => allM (fun x : S33 => impl_IsAngle.f k x.f0 x.f1) l) (allA l) := by
  induction l with
  | nil => exact Ev.now _
  | cons x xs ih =>
    unfold allM
    refine Ev.bind (ev_impl_IsAngle x.f0 x.f1) ?_
    unfold allA
    rw [List.all_cons]
    cases isA x.f0 x.f1 with
    | true => simpa [allA] using ih
    | false => simpa using Ev.now false
theorem ev_anglesCode (l : List S33) : Ev (fun k => impl_anglesCode.f k l) (if allA l = true then 0 else 1) := by
  unfold impl_anglesCode.f
  exact Ev.bind (ev_allM l) (Ev.now _)

theorem eqAngle_same (a b : Int) : laws_eqAngle.f a b a b = some true := by simp [laws_eqAngle.f]
end Go.Proofs.Yteckdlmepgdlnaa.Q
