/- The period of an angle k/(2^n - 1), and the angles of a period. -/
import Derived.Test.YtkdefglfolmfbaaAngOrbitSpec
import Derived.Test.YtkdefglfolmfbaaQx70
import Derived.Test.YtkdefglfolmfbaaQx73
import Derived.Test.YtkdefglfolmfbaaQx71
import Derived.Test.YtkdefglfolmfbaaQx74
namespace Go.Proofs.Ytkdefglfolmfbaa.Q
open Go.RowKit Go.Proofs.YtkdefglfolmfbaaW.PrintWords Go.Proofs.YtkdefglfolmfbaaW.PrintLast Go.Proofs.YtkdefglfolmfbaaW.Ext Go.Proofs.Ytkdefglfolmfbaa.Ang
set_option linter.unusedVariables false
set_option linter.unusedSimpArgs false

theorem dbl_ang {n d : Int} (hd : 0 < d) : dbl (ang n d) = ang (2 * n) d := by
  obtain ⟨g, hg, e1, e2⟩ := ang_mul (n := n) hd
  have hp := ang_den_pos (n := n) hd
  unfold dbl
  rw [← ang_scale hg hp, Int.mul_comm g (ang n d).2, e2]
  refine ang_congr ?_
  have e : g * (2 * (ang n d).1) = 2 * ((ang n d).1 * g) := by grind
  rw [e, e1, Int.mul_emod, Int.emod_emod, ← Int.mul_emod]
theorem orb_ang {n d : Int} (hd : 0 < d) : ∀ m : Nat, orbA (ang n d) m = ang (2 ^ m * n) d
  | 0 => by simp [orbA]
  | m + 1 => by
    show dbl (orbA (ang n d) m) = _
    rw [orb_ang hd m, dbl_ang hd]
    refine congrArg (fun z => ang z d) ?_
    rw [Int.pow_succ]
    grind
theorem ang_odd {n d : Int} (hd : 0 < d) (ho : d % 2 = 1) : (ang n d).2 % 2 = 1 := by
  obtain ⟨g, hg, e1, e2⟩ := ang_mul (n := n) hd
  rcases (show (ang n d).2 % 2 = 0 ∨ (ang n d).2 % 2 = 1 by omega) with h | h
  · exfalso
    have e : (ang n d).2 = 2 * ((ang n d).2 / 2) := by omega
    rw [e, Int.mul_assoc] at e2
    omega
  · exact h
theorem least {P : Nat → Prop} : ∀ n, 1 ≤ n → P n → ∃ M, 1 ≤ M ∧ M ≤ n ∧ P M ∧ ∀ j, 1 ≤ j → j < M → ¬ P j := by
  intro n
  induction n using Nat.strongRecOn with
  | _ n ih =>
    intro h1 hn
    by_cases h : ∃ j, 1 ≤ j ∧ j < n ∧ P j
    · obtain ⟨j, a, b, c⟩ := h
      obtain ⟨M, m1, m2, m3, m4⟩ := ih j b a c
      exact ⟨M, m1, by omega, m3, m4⟩
    · exact ⟨n, h1, Nat.le_refl _, hn, fun j a b c => h ⟨j, a, b, c⟩⟩
theorem orbGo_least (x : Int × Int) (M : Nat) (hM : M ≤ 64) (e : orbA x M = x) (hl : ∀ j, 1 ≤ j → j < M → ¬ orbA x j = x) :
    ∀ f m, 1 ≤ m → m ≤ M → m + f = 65 → orbGo x 0 f m = (seg x M, 0, true) := by
  intro f
  induction f with
  | zero => intro m h1 h2 h3; omega
  | succ f ih =>
    intro m h1 h2 h3
    unfold orbGo
    by_cases h : m = M
    · subst h
      rw [if_pos ⟨by omega, e⟩]
      rfl
    · rw [if_neg (fun z => hl m h1 (by omega) z.2), if_neg (by omega)]
      exact ih (m + 1) (by omega) (by omega) (by omega)
theorem ev_spec_period {x : Int × Int} (h : isA x.1 x.2 = true) (ho : x.2 % 2 = 1) {M : Nat} (h1 : 1 ≤ M) (h8 : M ≤ 8) (e : orbA x M = x) (hl : ∀ j, 1 ≤ j → j < M → ¬ orbA x j = x) :
    Ev (fun k => spec_l04Period.f k x.1 x.2) (M : Int) := by
  unfold spec_l04Period.f
  have hs := ev_spec_orbit (p := 0) (q := x.2) h (by simp) ho
  have o : orbGo (x.1, x.2) 0 65 0 = (seg x M, 0, true) := by
    rw [orbGo, if_neg (by omega), if_neg (by omega)]
    exact orbGo_least x M (by omega) e hl 64 1 (by omega) h1 (by omega)
  rw [o] at hs
  refine Ev.bind hs ?_
  simp only [seg_length, if_true]
  exact Ev.now _
theorem ev_impl_period {x : Int × Int} (h : isA x.1 x.2 = true) {M : Nat} (h1 : 1 ≤ M) (h8 : M ≤ 8) (e : orbA x M = x) (hl : ∀ j, 1 ≤ j → j < M → ¬ orbA x j = x) :
    Ev (fun k => impl_periodOf.f k x.1 x.2) (M : Int) := by
  unfold impl_periodOf.f
  have key : ∀ d m, m + d = M → Ev (fun k => impl_periodOf.l0 k ((m + 1 : Nat) : Int) x.1 x.2 (orbA x m).1 (orbA x m).2) (M : Int) ∨ m = M := by
    intro d
    induction d with
    | zero => intro m hm; right; omega
    | succ d ih =>
      intro m hm
      left
      refine Ev.step (f := fun k => (impl_Angle_double.f k (orbA x m).1 (orbA x m).2).bind fun z => if (z.1 == x.1 && (z.2 == x.2)) = true then some ((m + 1 : Nat) : Int) else impl_periodOf.l0 k ((m + 1 + 1 : Nat) : Int) x.1 x.2 z.1 z.2) (fun k => ?_) ?_
      · rw [impl_periodOf.l0, if_pos (by omega), wrap_in (x := ((m + 1 : Nat) : Int) + 1) (by omega) (by omega)]
        rw [show ((m + 1 : Nat) : Int) + 1 = ((m + 1 + 1 : Nat) : Int) by omega]
      · refine Ev.bind (ev_impl_double (orb_isA h m)) ?_
        have q : ((dbl ((orbA x m).1, (orbA x m).2)).1 == x.1 && ((dbl ((orbA x m).1, (orbA x m).2)).2 == x.2)) = decide (orbA x (m + 1) = x) := by
          rw [Bool.eq_iff_iff]
          simp [orbA, Prod.ext_iff]
        rw [q]
        by_cases z : m + 1 = M
        · subst z
          simp only [e, decide_true, if_true]
          exact Ev.now _
        · rw [decide_eq_false (hl (m + 1) (by omega) (by omega))]
          simp only [Bool.false_eq_true, if_false]
          rcases ih (m + 1) (by omega) with g | g
          · exact g
          · exact absurd g z
  rcases key M 0 (by omega) with g | g
  · exact g
  · omega
/-- The angles k/d of period n, from i on. -/
def perM (x : Int × Int) : Nat → Nat → Int
  | 0, _ => 0
  | f + 1, m => if orbA x m = x then (m : Int) else perM x f (m + 1)
theorem perM_least (x : Int × Int) (M : Nat) (e : orbA x M = x) (hl : ∀ j, 1 ≤ j → j < M → ¬ orbA x j = x) : ∀ f m, 1 ≤ m → m ≤ M → M < m + f → perM x f m = (M : Int) := by
  intro f
  induction f with
  | zero => intro m h1 h2 h3; omega
  | succ f ih =>
    intro m h1 h2 h3
    unfold perM
    by_cases h : m = M
    · subst h; rw [if_pos e]
    · rw [if_neg (fun z => hl m h1 (by omega) z)]
      exact ih (m + 1) (by omega) (by omega) (by omega)
theorem ev_periods {x : Int × Int} (h : isA x.1 x.2 = true) (ho : x.2 % 2 = 1) {n : Nat} (h1 : 1 ≤ n) (h8 : n ≤ 8) (e : orbA x n = x) :
    Ev (fun k => spec_l04Period.f k x.1 x.2) (perM x 8 1) ∧ Ev (fun k => impl_periodOf.f k x.1 x.2) (perM x 8 1) := by
  obtain ⟨M, m1, m2, m3, m4⟩ := least (P := fun j => orbA x j = x) n h1 e
  rw [perM_least x M m3 m4 8 1 (by omega) m1 (by omega)]
  exact ⟨ev_spec_period h ho m1 (by omega) m3 m4, ev_impl_period h m1 (by omega) m3 m4⟩
def listGo (d n : Int) : Nat → Int → List S27 → List S27
  | 0, _, acc => acc
  | f + 1, i, acc => listGo d n f (i + 1) (if perM (ang i d) 8 1 = n then acc ++ [toS (ang i d)] else acc)
theorem listGo_short (d n : Int) : ∀ f i acc, (listGo d n f i acc).length ≤ acc.length + f := by
  intro f
  induction f with
  | zero => intro i acc; simp [listGo]
  | succ f ih =>
    intro i acc
    unfold listGo
    refine Nat.le_trans (ih _ _) ?_
    split <;> simp <;> omega
theorem orb_round {i d : Int} {n : Nat} (hd : 0 < d) (e : (2 : Int) ^ n = d + 1) : orbA (ang i d) n = ang i d := by
  rw [orb_ang hd, e]
  refine ang_congr ?_
  rw [show (d + 1) * i = i + d * i by grind]
  exact Int.add_mul_emod_self_left i d i
theorem ev_l04Angles {n : Nat} {d : Int} (h1 : 1 ≤ n) (h8 : n ≤ 8) (hd : 0 < d) (h2 : d ≤ 255) (ho : d % 2 = 1) (e : (2 : Int) ^ n = d + 1) :
    ∀ (f : Nat) (i : Int) acc, 0 ≤ i → i + f = d → acc.length + f ≤ 255 → Ev (fun k => spec_l04Angles.l0 k (n : Int) acc d i) (listGo d n f i acc) := by
  intro f
  induction f with
  | zero =>
    intro i acc h0 hi _
    exact Ev.step (f := fun _ => some acc) (fun k => by rw [spec_l04Angles.l0, if_neg (by omega)]) (Ev.now _)
  | succ f ih =>
    intro i acc h0 hi hl
    refine Ev.step (f := fun k => (spec_l01Of.f k i d).bind fun z => (spec_l04Period.f k z.1 z.2).bind fun t => if t = (n : Int) then spec_l04Angles.l0 k (n : Int) (acc ++ [(⟨z.1, z.2⟩ : S27)]) d (i + 1) else spec_l04Angles.l0 k (n : Int) acc d (i + 1)) (fun k => ?_) ?_
    · rw [spec_l04Angles.l0, if_pos (by omega), wrap_in (x := i + 1) (by omega) (by omega)]
      simp only [if_pos (show acc.length < 8796093022208 by omega)]
    · refine Ev.bind (ev_spec_Of hd (by omega)) ?_
      refine Ev.bind (ev_periods (ang_isA hd (by omega)) (ang_odd hd ho) h1 h8 (orb_round hd e)).1 ?_
      unfold listGo
      by_cases z : perM (ang i d) 8 1 = (n : Int)
      · simp only [if_pos z]
        exact ih (i + 1) _ (by omega) (by omega) (by simp; omega)
      · simp only [if_neg z]
        exact ih (i + 1) _ (by omega) (by omega) (by omega)
theorem ev_anglesOfPeriod {n : Nat} {d : Int} (h1 : 1 ≤ n) (h8 : n ≤ 8) (hd : 0 < d) (h2 : d ≤ 255) (ho : d % 2 = 1) (e : (2 : Int) ^ n = d + 1) :
    ∀ (f : Nat) (i : Int) acc, 0 ≤ i → i + f = d → acc.length + f ≤ 255 → Ev (fun k => impl_anglesOfPeriod.l0 k (n : Int) acc d d i) (listGo d n f i acc) := by
  intro f
  induction f with
  | zero =>
    intro i acc h0 hi _
    exact Ev.step (f := fun _ => some acc) (fun k => by rw [impl_anglesOfPeriod.l0, if_neg (by omega)]) (Ev.now _)
  | succ f ih =>
    intro i acc h0 hi hl
    refine Ev.step (f := fun k => (impl_angle.f k i d).bind fun z => (impl_periodOf.f k z.1 z.2).bind fun t => if t = (n : Int) then impl_anglesOfPeriod.l0 k (n : Int) (acc ++ [(⟨z.1, z.2⟩ : S27)]) d d (i + 1) else impl_anglesOfPeriod.l0 k (n : Int) acc d d (i + 1)) (fun k => ?_) ?_
    · rw [impl_anglesOfPeriod.l0, if_pos (by omega), wrap_in (x := i + 1) (by omega) (by omega)]
      simp only [if_pos (show acc.length < 8796093022208 by omega)]
    · refine Ev.bind (ev_impl_angle hd (by omega)) ?_
      refine Ev.bind (ev_periods (ang_isA hd (by omega)) (ang_odd hd ho) h1 h8 (orb_round hd e)).2 ?_
      unfold listGo
      by_cases z : perM (ang i d) 8 1 = (n : Int)
      · simp only [if_pos z]
        exact ih (i + 1) _ (by omega) (by omega) (by simp; omega)
      · simp only [if_neg z]
        exact ih (i + 1) _ (by omega) (by omega) (by omega)
/-- Both give the same list. -/
theorem both_angles (a : Int) (h1 : 1 ≤ a) (h8 : a ≤ 8) : ∃ r : List S27, r.length ≤ 255 ∧ Ev (fun k => spec_l04Angles.f k a) r ∧ Ev (fun k => impl_anglesOfPeriod.f k a) r := by
  obtain ⟨n, rfl⟩ : ∃ n : Nat, a = (n : Int) := ⟨a.toNat, by omega⟩
  have hn : n = 1 ∨ n = 2 ∨ n = 3 ∨ n = 4 ∨ n = 5 ∨ n = 6 ∨ n = 7 ∨ n = 8 := by omega
  obtain ⟨d, hd0, hd1, ho, e, f1, f2, f3⟩ : ∃ d : Nat, 0 < d ∧ d ≤ 255 ∧ (d : Int) % 2 = 1 ∧ (2 : Int) ^ n = (d : Int) + 1 ∧ IntKind.u64.wrap (n : Int) = (n : Int) ∧ 0 ≤ (n : Int) ∧ wrap64 (shl .i64 1 (n : Int) - 1) = (d : Int) := by
    rcases hn with rfl | rfl | rfl | rfl | rfl | rfl | rfl | rfl
    · exact ⟨1, by decide, by decide, by decide, by decide, by decide +kernel, by decide, by decide +kernel⟩
    · exact ⟨3, by decide, by decide, by decide, by decide, by decide +kernel, by decide, by decide +kernel⟩
    · exact ⟨7, by decide, by decide, by decide, by decide, by decide +kernel, by decide, by decide +kernel⟩
    · exact ⟨15, by decide, by decide, by decide, by decide, by decide +kernel, by decide, by decide +kernel⟩
    · exact ⟨31, by decide, by decide, by decide, by decide, by decide +kernel, by decide, by decide +kernel⟩
    · exact ⟨63, by decide, by decide, by decide, by decide, by decide +kernel, by decide, by decide +kernel⟩
    · exact ⟨127, by decide, by decide, by decide, by decide, by decide +kernel, by decide, by decide +kernel⟩
    · exact ⟨255, by decide, by decide, by decide, by decide, by decide +kernel, by decide, by decide +kernel⟩
  refine ⟨listGo d n d 0 [], Nat.le_trans (listGo_short _ _ _ _ _) (by simpa using hd1), ?_, ?_⟩
  · unfold spec_l04Angles.f
    simp only [f1, if_pos f2, f3]
    exact ev_l04Angles (by omega) (by omega) (by omega) (by omega) ho e d 0 [] (by omega) (by omega) (by simpa using hd1)
  · unfold impl_anglesOfPeriod.f
    simp only [if_pos f2, f3]
    exact ev_anglesOfPeriod (by omega) (by omega) (by omega) (by omega) ho e d 0 [] (by omega) (by omega) (by simpa using hd1)
end Go.Proofs.Ytkdefglfolmfbaa.Q
