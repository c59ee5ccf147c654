/- Joined texts: PureFnAddresses -/
import Derived.Test.YtccinmopfchjlaaPkFnAddresses27
section
namespace Go.Proofs.Ytccinmopfchjlaa.Q
open Go.RowKit Go.Proofs.YtccinmopfchjlaaW.PrintWords Go.Proofs.YtccinmopfchjlaaW.PrintLast Go.Proofs.YtccinmopfchjlaaW.Ext Go.Proofs.Ytccinmopfchjlaa.Ang
set_option linter.unusedVariables false
set_option linter.unusedSimpArgs false

theorem ev_drawRho {c : List Int} (hc : bytesL c) : ∃ (p q : ByteArray) (n : Int), Ev (fun k => spec_DrawRhoOf.f k c) (p, q, n) ∧ p.size + q.size ≤ 40 := by
  obtain ⟨h, r0⟩ := ev_from hc
  obtain ⟨p, q, a1, h1, r1, r2, s1⟩ := ev_l02 hc (a := 0) h ⟨by decide, by decide⟩
  obtain ⟨v2, a2, h2, e2, _, _, s2⟩ := next_val hc h1 12 s1 (by omega)
  obtain ⟨v3, a3, h3, e3, _, _, s3⟩ := next_val hc h2 16 s2 (by omega)
  obtain ⟨v4, a4, h4, e4, _, _, s4⟩ := next_val hc h3 24 s3 (by omega)
  refine ⟨p, q, wrap64 ((wrap64 ((wrap64 (1 + v2)) - (wrap64 (Int.tdiv v3 15)))) + (wrap64 ((wrap64 (Int.tdiv v4 23)) * 1000))), ?_, r2⟩
  unfold spec_DrawRhoOf.f
  refine Ev.bind r0 (Ev.bind r1 ?_)
  simp only [e2, e3, e4, Option.bind_some]
  exact Ev.now _
theorem ev_drawAddress {c : List Int} (hc : bytesL c) : ∃ (p q : ByteArray), Ev (fun k => spec_DrawInternalAddress.f k c) (p, q) ∧ p.size + q.size ≤ 40 := by
  obtain ⟨h, r0⟩ := ev_from hc
  obtain ⟨p, q, a1, h1, r1, r2, s1⟩ := ev_l02 hc (a := 0) h ⟨by decide, by decide⟩
  refine ⟨p, q, ?_, r2⟩
  unfold spec_DrawInternalAddress.f
  exact Ev.bind r0 (Ev.bind r1 (Ev.now _))
theorem ev_drawList {c : List Int} (hc : bytesL c) : ∃ l : List Int, Ev (fun k => spec_DrawSequenceOfAddress.f k c) l ∧ l.length ≤ 20 := by
  have key : ∀ (n : Nat) (acc : List Int) (a h : Int), 1 ≤ acc.length → acc.length + n ≤ 10 → atL a → ∃ l : List Int, Ev (fun k => spec_DrawSequenceOfAddress.l0 k acc (n : Int) c a h) l ∧ l.length ≤ 20 := by
    intro n
    induction n with
    | zero =>
      intro acc a h h1 h2 ha
      obtain ⟨v, a1, h1', e, _, _, s⟩ := next_val hc h 20 ha (by omega)
      have w : wrap64 ((acc.length : Int) - 1) = (acc.length : Int) - 1 := wrS (by omega) (by omega)
      have st : ∀ r, Ev (fun k => if v = 0 then ((spec_l01Pick.f c a1 h1' (([0, 2] : List Int))).bind fun bt391 => (if 0 < (acc.length : Int) then (some (acc.set (0 : Int).toNat bt391.1)) else (none))) else (if v = 1 then (some (acc ++ [rd acc ((acc.length : Int) - 1)])) else (if v = 2 then (some (acc ++ [41])) else (some acc)))) r → Ev (fun k => spec_DrawSequenceOfAddress.l0 k acc ((0 : Nat) : Int) c a h) r := by
        intro r hr
        refine Ev.step (fun k => ?_) hr
        rw [spec_DrawSequenceOfAddress.l0, if_neg (by omega), e, Option.bind_some]
        simp only [w, if_pos (show 0 ≤ (acc.length : Int) - 1 by omega), if_pos (show (acc.length : Int) - 1 < (acc.length : Int) by omega), if_pos (show acc.length < 17592186044416 by omega)]
      by_cases z0 : v = 0
      · obtain ⟨u, a2, h3, e2, _, s2⟩ := pick_val hc h1' s [0, 2] (by decide) (by decide)
        refine ⟨acc.set 0 u, st _ ?_, by rw [List.length_set]; omega⟩
        simp only [if_pos z0, e2, Option.bind_some, if_pos (show 0 < (acc.length : Int) by omega)]
        exact Ev.now _
      · by_cases z1 : v = 1
        · refine ⟨acc ++ [rd acc ((acc.length : Int) - 1)], st _ ?_, ?_⟩
          · simp only [if_neg z0, if_pos z1]; exact Ev.now _
          · simp; omega
        · by_cases z2 : v = 2
          · refine ⟨acc ++ [41], st _ ?_, by simp; omega⟩
            simp only [if_neg z0, if_neg z1, if_pos z2]; exact Ev.now _
          · refine ⟨acc, st _ ?_, by omega⟩
            simp only [if_neg z0, if_neg z1, if_neg z2]; exact Ev.now _
    | succ n ih =>
      intro acc a h h1 h2 ha
      obtain ⟨v, a1, h1', e, _, _, s⟩ := next_val hc h 5 ha (by omega)
      have w : wrap64 ((acc.length : Int) - 1) = (acc.length : Int) - 1 := wrS (by omega) (by omega)
      obtain ⟨l, r1, r2⟩ := ih (acc ++ [wrap64 ((wrap64 ((rd acc ((acc.length : Int) - 1)) + 1)) + v)]) a1 h1' (by simp) (by simp; omega) s
      refine ⟨l, Ev.step (fun k => ?_) r1, r2⟩
      rw [spec_DrawSequenceOfAddress.l0, if_pos (by omega), w, if_pos (by omega), if_pos (by omega), e, Option.bind_some, if_pos (by omega), wrS (x := ((n + 1 : Nat) : Int) - 1) (by omega) (by omega), show ((n + 1 : Nat) : Int) - 1 = (n : Int) by omega]
  obtain ⟨h, r0⟩ := ev_from hc
  obtain ⟨v, a1, h1, e, v0, v1, s⟩ := next_val hc h 7 (a := 0) ⟨by decide, by decide⟩ (by omega)
  obtain ⟨m, rfl⟩ := Int.eq_ofNat_of_zero_le v0
  have v2 := v1 (by omega)
  obtain ⟨l, r1, r2⟩ := key m [1] a1 h1 (by simp) (by simp; omega) s
  refine ⟨l, ?_, r2⟩
  unfold spec_DrawSequenceOfAddress.f
  refine Ev.bind r0 ?_
  simp only [e, Option.bind_some]
  exact r1
theorem chain_walk {a b : ByteArray} (l3 : 1 ≤ b.size) (l4 : a.size + b.size ≤ 40) (hi : Ev (fun k => impl_IsSequence.f k a b) true) {x4 x5 x6 x16 : Int} {x14 : List Int} {q1 q2 : ByteArray}
    (hr : Ev (fun k => laws_FnAddresses.j4 k x4 x5 x6 x14 x16 q1 q2) true) (h1 : ∀ L : List Int, rd L 0 = 1 → L.length ≠ 0 → True) :
    ∀ f (pre : List Int) (x : Nat), x ≠ 0 → pre.length + f + 1 = 20 → x ≤ 1 + 40 * pre.length → (∀ rest, rd (pre ++ (x : Int) :: rest) 0 = 1) →
      Ev (fun k => laws_FnAddresses.l0 k x4 x5 x6 (pre ++ (x : Int) :: chainL a b f (rhoV a b x)) x14 x16 (pre.length : Int) a b q1 q2) true := by
  intro f
  have fin : ∀ (L : List Int) (i : Int), 0 ≤ i → i ≤ 1000 → rd L 0 = 1 → L.length ≠ 0 → ¬ i + 1 < (L.length : Int) → Ev (fun k => laws_FnAddresses.l0 k x4 x5 x6 L x14 x16 i a b q1 q2) true := by
    intro L i i0 i1 h0 hl hn
    refine Ev.step (f := fun k => laws_FnAddresses.j4 k x4 x5 x6 x14 x16 q1 q2) (fun k => ?_) hr
    rw [laws_FnAddresses.l0, wrS (x := i + 1) (by omega) (by omega), if_neg hn, if_neg (by omega), if_pos (by omega), if_pos h0]
  induction f with
  | zero =>
    intro pre x hx hp hb h0
    refine fin _ _ (by omega) (by omega) (h0 _) (by simp) ?_
    simp [chainL]
  | succ f ih =>
    intro pre x hx hp hb h0
    unfold chainL
    by_cases z : rhoV a b x = 0
    · rw [if_pos z]
      refine fin _ _ (by omega) (by omega) (h0 _) (by simp) ?_
      simp
    · rw [if_neg z]
      have bd : rhoV a b x ≤ x + 40 := by
        rcases rhoGo_bd a b x (a.size + b.size) 0 with q | q
        · exact absurd q z
        · unfold rhoV; omega
      have hv := impl_RhoOf_val (a := a) (b := b) (n := (x : Int)) l3 (by omega) ⟨by omega, by omega⟩ hi
      rw [Int.toNat_natCast, if_neg (by omega)] at hv
      have next := ih (pre ++ [(x : Int)]) (rhoV a b x) z (by simp; omega) (by simp; omega) (fun rest => by
        have := h0 ((rhoV a b x : Nat) :: rest)
        simpa using this)
      have hlen : ((pre.length : Int) + 1) < ((pre ++ (x : Int) :: ((rhoV a b x : Nat) : Int) :: chainL a b f (rhoV a b (rhoV a b x))).length : Int) := by simp <;> omega
      have r1 : rd (pre ++ (x : Int) :: ((rhoV a b x : Nat) : Int) :: chainL a b f (rhoV a b (rhoV a b x))) (pre.length : Int) = (x : Int) := by simp [rd]
      have r2 : rd (pre ++ (x : Int) :: ((rhoV a b x : Nat) : Int) :: chainL a b f (rhoV a b (rhoV a b x))) ((pre.length : Int) + 1) = ((rhoV a b x : Nat) : Int) := by
        rw [show (pre.length : Int) + 1 = ((pre.length + 1 : Nat) : Int) by omega]
        simp [rd, List.getElem?_append_right]
      refine Ev.step (f := fun k => (impl_RhoOf.f k a b (x : Int)).bind fun bt483 => (if bt483.2 = 0 then (if bt483.1 = ((rhoV a b x : Nat) : Int) then (laws_FnAddresses.l0 k x4 x5 x6 (pre ++ (x : Int) :: ((rhoV a b x : Nat) : Int) :: chainL a b f (rhoV a b (rhoV a b x))) x14 x16 ((pre.length : Int) + 1) a b q1 q2) else (some false)) else (some false))) (fun k => ?_) ?_
      · rw [laws_FnAddresses.l0, wrS (x := (pre.length : Int) + 1) (by omega) (by omega), if_pos hlen, if_pos (by omega), if_pos (by omega), r1, r2]
        simp only [if_pos (show 0 ≤ (pre.length : Int) + 1 by omega)]
      · refine Ev.bind hv ?_
        simp only [if_true]
        have e1 : ((pre ++ [(x : Int)]).length : Int) = (pre.length : Int) + 1 := by simp
        rw [e1] at next
        simpa using next
theorem pure_FnAddresses (c : List Int) (hb : ∀ x ∈ c, 0 ≤ x ∧ x ≤ 255) : Ev (fun k => laws_FnAddresses.f k c) true := by
  unfold laws_FnAddresses.f laws_big.f
  simp only [Option.bind_some, decide_eq_true_eq]
  by_cases h4 : (c.length : Int) > 4096
  · simp only [if_pos h4]; exact Ev.now _
  · simp only [if_neg h4]
    have hc : bytesL c := ⟨by omega, hb⟩
    obtain ⟨p, q, n, d1, d2⟩ := ev_drawRho hc
    obtain ⟨v, s1, i1, hv⟩ := both_RhoOf p q n (by omega)
    refine Ev.bind d1 (Ev.bind i1 (Ev.bind s1 ?_))
    simp only [if_true, bne_self_eq_false]
    obtain ⟨a, b, d3, d4⟩ := ev_drawAddress hc
    obtain ⟨u, s2, i2, hu1, hu2⟩ := both_Address a b (by omega)
    refine Ev.step (fun k => by rw [laws_FnAddresses.j0, if_neg (by simp)]) (Ev.bind d3 (Ev.bind i2 (Ev.bind s2 ?_)))
    simp only [if_true]
    refine Ev.bind (ev_like u.1 (by omega)) ?_
    obtain ⟨l, d5, d6⟩ := ev_drawList hc
    simp only [Bool.not_true]
    refine Ev.step (fun k => by rw [laws_FnAddresses.j1, if_neg (by simp)]) (Ev.bind d5 ?_)
    have last : ∀ (x16 : Int) (q1 q2 : ByteArray), Ev (fun k => laws_FnAddresses.j5 k l x16 false q1 q2) true → Ev (fun k => laws_FnAddresses.j2 k n v.1 v.2 u.1 u.2 l x16 false a b q1 q2) true := by
      intro x16 q1 q2 h5
      have j4 : Ev (fun k => laws_FnAddresses.j4 k n v.1 v.2 l x16 q1 q2) true := by
        refine Ev.step (f := fun k => laws_FnAddresses.j5 k l x16 false q1 q2) (fun k => ?_) h5
        rw [laws_FnAddresses.j4]
        by_cases z : v.2 = 0
        · rw [if_pos z, decide_eq_false (by have := hv z; omega)]
        · rw [if_neg z]
      refine Ev.step (f := fun k => if u.2 = 0 then laws_FnAddresses.l0 k n v.1 v.2 u.1 l x16 0 a b q1 q2 else laws_FnAddresses.j4 k n v.1 v.2 l x16 q1 q2) (fun k => by rw [laws_FnAddresses.j2, if_neg (by simp)]) ?_
      by_cases z : u.2 = 0
      · simp only [if_pos z]
        obtain ⟨l3, l4, hi, he⟩ := hu2 z
        rw [he]
        have w := chain_walk (a := a) (b := b) l3 d4 hi j4 (fun _ _ _ => trivial) 19 [] 1 (by decide) (by decide) (by decide) (fun rest => rfl)
        unfold chainL
        rw [if_neg (by decide)]
        exact w
      · simp only [if_neg z]; exact j4
    rcases both_OfAddress l (by omega) with ⟨s3, i3⟩ | ⟨P, w, hA, hw, s3, i3⟩
    · refine Ev.bind i3 (Ev.bind s3 ?_)
      simp only [if_true, beq_self_eq_true, Bool.not_true, Bool.or_self]
      refine last _ _ _ ?_
      have en : (⟨#[]⟩ : ByteArray).toList = [] := (nil_iff _).2 rfl
      exact Ev.step (f := fun _ => some true) (fun k => by rw [laws_FnAddresses.j5, if_neg (by simp), if_neg (by decide), en]; rfl) (Ev.now _)
    · refine Ev.bind i3 (Ev.bind s3 ?_)
      simp only [if_true, beq_self_eq_true, Bool.not_true, Bool.or_self]
      refine last _ _ _ ?_
      obtain ⟨o1, o2, o3, o4⟩ := own_facts hA hw
      have e0 : (⟨#[]⟩ : ByteArray).size = 0 := rfl
      have star : Ev (fun k => impl_IsStarPeriodic.f k (⟨#[]⟩ : ByteArray) w) (true, 0) := by
        unfold impl_IsStarPeriodic.f
        refine Ev.bind (ev_code1 true o3) ?_
        simp only [if_true, o4, Option.bind_some]
        exact Ev.now _
      have addr := impl_Address_val (a := (⟨#[]⟩ : ByteArray)) o1 (by omega) o3
      rw [own_chain hA hw] at addr
      refine Ev.step (fun k => by rw [laws_FnAddresses.j5, if_neg (by simp), if_pos rfl]) (Ev.bind star (Ev.bind addr ?_))
      simp only [if_true]
      exact Ev.bind (ev_like l (by omega)) (Ev.now _)
end Go.Proofs.Ytccinmopfchjlaa.Q
namespace Go.Proofs.Ytccinmopfchjlaa.Pure
open Go.RowKit Go.Proofs.Ytccinmopfchjlaa.Q Go.Proofs.YtccinmopfchjlaaW.PrintWords Go.Proofs.YtccinmopfchjlaaW.PrintLast
theorem FnAddresses : laws_FnAddresses.Pure := by
  intro l _ _ hw
  refine Ev.rounds (pure_FnAddresses l fun x hx => ?_)
  have h := hw x hx
  simp only [Lit.wf, Bool.and_eq_true, decide_eq_true_eq] at h
  have h1 : (0 : Int) ≤ x := h.1
  have h2 : x ≤ (255 : Int) := h.2
  exact ⟨h1, h2⟩
end Go.Proofs.Ytccinmopfchjlaa.Pure
end
