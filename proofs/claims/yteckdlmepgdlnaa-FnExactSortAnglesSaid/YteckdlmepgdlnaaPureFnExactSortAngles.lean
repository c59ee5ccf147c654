/- HYPS: no list is longer than Go's longest. The pure statement of FnExactSortAngles: both sort the angles and strike doubles, or give the same error. -/
import Derived.Test.YteckdlmepgdlnaaLawAngles
import Derived.Test.YteckdlmepgdlnaaLawSizesAL
import Derived.Test.YteckdlmepgdlnaaSortMath
import Derived.Test.YteckdlmepgdlnaaQx14
import Derived.Test.YteckdlmepgdlnaaQx6
import Derived.Test.YteckdlmepgdlnaaQx10
import Derived.Test.YteckdlmepgdlnaaQx5
import Derived.Test.YteckdlmepgdlnaaQx4
import Derived.Test.YteckdlmepgdlnaaQx9
namespace Go.Proofs.Yteckdlmepgdlnaa.Q
open Go.RowKit Go.Proofs.YteckdlmepgdlnaaW.PrintWords Go.Proofs.YteckdlmepgdlnaaW.PrintLast Go.Proofs.YteckdlmepgdlnaaW.Ext Go.Proofs.Yteckdlmepgdlnaa.Ang Go.Proofs.Yteckdlmepgdlnaa.SortMath Go.Proofs.Yteckdlmepgdlnaa.SortA
set_option linter.unusedVariables false
set_option linter.unusedSimpArgs false

/-- The program's angles. -/
def vA (l : List Ang5) : List S33 := l.map fun x => ⟨x.1.1, x.1.2⟩
theorem vA_length (l : List Ang5) : (vA l).length = l.length := by simp [vA]
def ltA (x y : Ang5) : Bool := decide (x.1.1 * y.1.2 < y.1.1 * x.1.2)
theorem strictA : Strict ltA where
  irr x := by
    have := swoAng.irrefl x
    rwa [ltAng] at this
  trans x y z h1 h2 := by
    have := swoAng.trans x y z
    simp only [ltAng] at this
    exact this h1 h2
  total x y h1 h2 := totAng x y (by rw [ltAng]; exact h1) (by rw [ltAng]; exact h2)
theorem okAng_of {n d : Int} (h : isA n d = true) : okAng (n, d) := by
  obtain ⟨h1, h2, h3, h4, h5⟩ := isA_iff.1 h
  exact ⟨h3, by show n < d; omega, h2, h5⟩
theorem of_okAng (x : Ang5) : isA x.1.1 x.1.2 = true := by
  obtain ⟨h1, h2, h3, h4⟩ := x.2
  exact isA_iff.2 ⟨by omega, h3, h1, by omega, h4⟩
theorem exV : ∀ (L : List S33), allA L = true → ∃ l : List Ang5, L = vA l
  | [], _ => ⟨[], rfl⟩
  | x :: xs, h => by
    unfold allA at h
    rw [List.all_cons, Bool.and_eq_true] at h
    obtain ⟨l, rfl⟩ := exV xs h.2
    exact ⟨⟨(x.f0, x.f1), okAng_of h.1⟩ :: l, rfl⟩
theorem rdV (pre : List Ang5) (x : Ang5) (rest : List Ang5) : rd_T33 (vA (pre ++ x :: rest)) (pre.length : Int) = ⟨x.1.1, x.1.2⟩ := by simp [rd_T33, vA]
theorem lessV (x y : Ang5) : spec_l01Less.f x.1.1 x.1.2 y.1.1 y.1.2 = some (ltA x y) := by
  have h1 := prod_rng x y
  have h2 := prod_rng y x
  unfold spec_l01Less.f ltA
  first
  | rw [wrap_in (by omega) (by omega), wrap_in (by omega) (by omega)]
  | simp [wrap_in (x := x.1.1 * y.1.2) (by omega) (by omega), wrap_in (x := y.1.1 * x.1.2) (by omega) (by omega)]
theorem vA_append (a b : List Ang5) : vA (a ++ b) = vA a ++ vA b := by simp [vA]
/-- One put in at a place. -/
theorem putV (a : Ang5) (pre rest : List Ang5) (hl : (pre ++ rest).length ≤ 1048576) :
    (vA (pre ++ rest)).drop ((pre.length : Int)).toNat = vA rest ∧ (vA (pre ++ rest)).take ((pre.length : Int)).toNat = vA pre := by
  rw [vA_append, Int.toNat_natCast]
  constructor
  · rw [List.drop_append_of_le_length (by rw [vA_length]; omega), List.drop_of_length_le (by rw [vA_length]; omega), List.nil_append]
  · rw [List.take_append_of_le_length (by rw [vA_length]; omega), List.take_of_length_le (by rw [vA_length]; omega)]
theorem ev_insert (a : Ang5) : ∀ (rest pre : List Ang5), (pre ++ rest).length ≤ 1048576 → Ev (fun k => spec_l01Insert.l0 k (vA (pre ++ rest)) (pre.length : Int) a.1.1 a.1.2) (vA (pre ++ insD ltA a rest))
  | [], pre, h => by
    obtain ⟨e1, e2⟩ := putV a pre [] h
    refine Ev.step (f := fun _ => some (vA (pre ++ insD ltA a []))) (fun k => ?_) (Ev.now _)
    have hl : (vA (pre ++ [])).length = pre.length := by rw [vA_length]; simp
    have hp : pre.length ≤ 1048576 := by simpa using h
    rw [spec_l01Insert.l0, if_neg (by omega)]
    simp only [Option.bind_some, e1, e2]
    rw [if_pos (by omega), if_pos (by omega)]
    simp [vA, insD]
    all_goals omega
  | x :: rest, pre, h => by
    obtain ⟨e1, e2⟩ := putV a pre (x :: rest) h
    have hl : (vA (pre ++ x :: rest)).length = pre.length + (rest.length + 1) := by rw [vA_length]; simp
    have hp : pre.length + (rest.length + 1) ≤ 1048576 := by simpa using h
    have ih := ev_insert a rest (pre ++ [x]) (by simpa using h)
    refine Ev.step (f := fun k => if ltA x a = true then spec_l01Insert.l0 k (vA (pre ++ x :: rest)) ((pre.length : Int) + 1) a.1.1 a.1.2 else if x = a then some (vA (pre ++ x :: rest)) else some (vA (pre ++ a :: x :: rest))) (fun k => ?_) ?_
    · rw [spec_l01Insert.l0, if_pos (by omega), if_pos (by omega), rdV, lessV, Option.bind_some]
      split
      · rw [wrap_in (by omega) (by omega)]
      · have e : (x.1.1 == a.1.1 && (x.1.2 == a.1.2)) = decide (x = a) := by
          rw [Bool.eq_iff_iff]
          simp only [Bool.and_eq_true, beq_iff_eq, decide_eq_true_eq]
          exact ⟨fun h => Subtype.ext (Prod.ext h.1 h.2), fun h => by rw [h]; exact ⟨rfl, rfl⟩⟩
        rw [e]
        simp only [decide_eq_true_eq]
        split
        · rfl
        · simp only [Option.bind_some, e1, e2]
          rw [if_pos (by omega)]
          simp [vA]
          all_goals omega
    · unfold insD
      by_cases h1 : ltA x a = true
      · simp only [if_pos h1]
        simpa using ih
      · simp only [if_neg h1]
        by_cases h2 : x = a
        · simp only [if_pos h2]; exact Ev.now _
        · simp only [if_neg h2]; exact Ev.now _
theorem insD_length (a : Ang5) : ∀ l : List Ang5, (insD ltA a l).length ≤ l.length + 1
  | [] => by simp [insD]
  | x :: xs => by
    have := insD_length a xs
    unfold insD
    split
    · simpa using this
    · split <;> simp
/-- The reference puts in one by one. -/
theorem ev_specSort (l : List Ang5) (hl : l.length ≤ 1048576) : Ev (fun k => spec_SortAngles.f k (vA l)) (vA (l.foldl (fun o a => insD ltA a o) []), 0) := by
  unfold spec_SortAngles.f
  have key : ∀ (rest pre acc : List Ang5), (pre ++ rest).length ≤ 1048576 → acc.length ≤ pre.length → Ev (fun k => spec_SortAngles.l0 k (vA (pre ++ rest)) (vA acc) (pre.length : Int)) (vA (rest.foldl (fun o a => insD ltA a o) acc), 0) := by
    intro rest
    induction rest with
    | nil =>
      intro pre acc h ha
      exact Ev.step (f := fun _ => some (vA acc, 0)) (fun k => by rw [spec_SortAngles.l0, if_neg (by rw [vA_length]; simp)]) (Ev.now _)
    | cons x rest ih =>
      intro pre acc h ha
      have hl : (vA (pre ++ x :: rest)).length = pre.length + (rest.length + 1) := by rw [vA_length]; simp
      have hp : pre.length + (rest.length + 1) ≤ 1048576 := by simpa using h
      refine Ev.step (f := fun k => (spec_l01Is.f k x.1.1 x.1.2).bind fun t => if t = true then (spec_l01Insert.f k (vA acc) x.1.1 x.1.2).bind fun y => spec_SortAngles.l0 k (vA (pre ++ x :: rest)) y ((pre ++ [x]).length : Int) else some ([], 1)) (fun k => ?_) ?_
      · rw [spec_SortAngles.l0, if_pos (by omega), if_pos (by omega), rdV, wrap_in (by omega) (by omega)]
        simp
      · refine Ev.bind (ev_spec_Is _ _) ?_
        rw [of_okAng]
        simp only [if_true]
        refine Ev.bind (a := vA (insD ltA x acc)) ?_ ?_
        · unfold spec_l01Insert.f
          simpa using ev_insert x acc [] (by simp; omega)
        · have := ih (pre ++ [x]) (insD ltA x acc) (by simpa using h) (by have := insD_length x acc; simp; omega)
          simpa using this
  have := key l [] [] (by simpa using hl) (by simp)
  simpa [vA] using this
theorem ev_specBad (L : List S33) (hl : L.length ≤ 1048576) (hb : allA L = false) : Ev (fun k => spec_SortAngles.f k L) ([], 1) := by
  unfold spec_SortAngles.f
  have key : ∀ (rest : List S33) (pre acc : List Ang5), (vA pre ++ rest).length ≤ 1048576 → acc.length ≤ pre.length → allA rest = false → Ev (fun k => spec_SortAngles.l0 k (vA pre ++ rest) (vA acc) (pre.length : Int)) ([], 1) := by
    intro rest
    induction rest with
    | nil =>
      intro pre acc h ha hx
      simp [allA] at hx
    | cons x rest ih =>
      intro pre acc h ha hx
      have hp : pre.length + (rest.length + 1) ≤ 1048576 := by simpa [vA_length] using h
      have hl : (vA pre ++ x :: rest).length = pre.length + (rest.length + 1) := by simp [vA_length]
      have hrd : rd_T33 (vA pre ++ x :: rest) (pre.length : Int) = x := by
        have := rd_at (vA pre) rest x
        rwa [vA_length] at this
      refine Ev.step (f := fun k => (spec_l01Is.f k x.f0 x.f1).bind fun t => if t = true then (spec_l01Insert.f k (vA acc) x.f0 x.f1).bind fun y => spec_SortAngles.l0 k (vA pre ++ x :: rest) y ((pre.length : Int) + 1) else some ([], 1)) (fun k => ?_) ?_
      · rw [spec_SortAngles.l0, if_pos (by omega), if_pos (by omega), hrd, wrap_in (by omega) (by omega)]
      · refine Ev.bind (ev_spec_Is _ _) ?_
        cases hx1 : isA x.f0 x.f1 with
        | false => exact Ev.now _
        | true =>
          simp only [if_true]
          have hx2 : allA rest = false := by
            unfold allA at hx ⊢
            rw [List.all_cons, hx1, Bool.true_and] at hx
            exact hx
          refine Ev.bind (a := vA (insD ltA ⟨(x.f0, x.f1), okAng_of hx1⟩ acc)) ?_ ?_
          · unfold spec_l01Insert.f
            simpa using ev_insert ⟨(x.f0, x.f1), okAng_of hx1⟩ acc [] (by simp; omega)
          · have e : vA (pre ++ [⟨(x.f0, x.f1), okAng_of hx1⟩]) = vA pre ++ [x] := by simp [vA]
            have := ih (pre ++ [⟨(x.f0, x.f1), okAng_of hx1⟩]) (insD ltA ⟨(x.f0, x.f1), okAng_of hx1⟩ acc) (by rw [e]; simpa using h) (by have := insD_length ⟨(x.f0, x.f1), okAng_of hx1⟩ acc; simp; omega) hx2
            rw [e] at this
            simpa using this
  have := key L [] [] (by simpa [vA] using hl) (by simp) hb
  simpa [vA] using this
/-- Struck of doubles, as pairs. -/
theorem compact_val : ∀ l : List Ang5, compactA (l.map (·.1)) = (compactL l).map (·.1)
  | [] => rfl
  | x :: xs => by
    have ih := compact_val xs
    rw [List.map_cons, compactA, ih, compactL]
    cases hc : compactL xs with
    | nil => rfl
    | cons y ys =>
      simp only [List.map_cons]
      by_cases h : x = y
      · subst h; simp
      · rw [if_neg (fun e => h (Subtype.ext e)), if_neg h]; rfl
theorem sort_val (l : List Ang5) : sortA (l.map (·.1)) = (l.mergeSort fun x y => !(ltA y x)).map (·.1) := by
  unfold sortA
  exact (List.map_mergeSort (s := fun x y : Int × Int => !decide (y.1 * x.2 < x.1 * y.2)) (fun a _ b _ => rfl)).symm
theorem implSort (l : List Ang5) (hl : l.length ≤ 1048576) : impl_sorted.f (vA l) = some (vA (compactL (l.mergeSort fun x y => !(ltA y x)))) := by
  unfold impl_sorted.f
  have hm : ((vA l).map fun x => (x.f0, x.f1)) = l.map (·.1) := by simp [vA]
  rw [if_pos, hm, sort_val, compact_val]
  · simp [vA]
  · rw [vA_length]
    refine ⟨by omega, fun x hx => ?_⟩
    obtain ⟨y, _, rfl⟩ := List.mem_map.1 hx
    exact y.2
/-- What both give. -/
theorem both_sort (L : List S33) (hl : L.length ≤ 1048576) : ∃ r : List S33 × Int, r.1.length ≤ 1099511627776 ∧ Ev (fun k => spec_SortAngles.f k L) r ∧ Ev (fun k => impl_SortAngles.f k L) r := by
  have hcode := ev_anglesCode L
  cases h : allA L with
  | false =>
    refine ⟨([], 1), by simp, ev_specBad L hl h, ?_⟩
    unfold impl_SortAngles.f
    refine Ev.bind hcode ?_
    rw [h]
    simp
    exact Ev.now _
  | true =>
    obtain ⟨l, rfl⟩ := exV L h
    rw [vA_length] at hl
    have hs := ev_specSort l hl
    rw [sorted_both strictA] at hs
    refine ⟨(vA (compactL (l.mergeSort fun x y => !(ltA y x))), 0), ?_, hs, ?_⟩
    · have hc : ∀ l : List Ang5, (compactL l).length ≤ l.length := by
        intro l
        induction l with
        | nil => simp [compactL]
        | cons x xs ih =>
          unfold compactL
          split
          · simp
          · rename_i y ys hy
            rw [hy] at ih
            split
            · simpa using Nat.le_succ_of_le ih
            · simpa using ih
      have := hc (l.mergeSort fun x y => !(ltA y x))
      rw [List.length_mergeSort] at this
      show (vA _).length ≤ _
      rw [vA_length]
      omega
    · unfold impl_SortAngles.f
      refine Ev.bind hcode ?_
      rw [h]
      simp only [if_true, implSort l hl, Option.bind_some]
      exact Ev.now _
theorem pure_FnExactSortAngles (l : List S36) (hm : l.length ≤ 9223372036854775807) : ∃ k, laws_FnExactSortAngles.f k l = some true := by
  suffices h : Ev (fun k => laws_FnExactSortAngles.f k l) true by
    obtain ⟨k, h⟩ := h
    exact ⟨k, h k (Nat.le_refl _)⟩
  unfold laws_FnExactSortAngles.f
  refine szA_frame hm (fun hn => ?_)
  have hc := ev_toAngles l hn
  have hL : (cpA l).length ≤ 1048576 := by rw [cpA_length]; exact hn
  generalize cpA l = L at hc hL
  obtain ⟨r, hr, h1, h2⟩ := both_sort L hL
  refine Ev.bind hc (Ev.bind h1 (Ev.bind hc (Ev.bind h2 (Ev.bind (ev_eqAngleS r.1 hr) ?_))))
  simp only [if_true, bne_self_eq_false]
  refine Ev.step (f := fun k => (laws_toAngleS.f k l).bind fun t => (laws_eqAngleS.f k L t).bind fun t => if t = true then (laws_markAngleS.f k L 1).bind fun b => if b.1 < 0 then laws_FnExactSortAngles.j1 k l r.1 r.2 r.1 true else (laws_eqAngleS.f k r.1 r.1).bind fun t => if t = true then laws_FnExactSortAngles.j1 k l r.1 r.2 r.1 (r.2 != r.2) else laws_FnExactSortAngles.j1 k l r.1 r.2 r.1 true else some false) (fun k => by rw [laws_FnExactSortAngles.j0, if_neg (by simp)]) ?_
  refine Ev.bind hc (Ev.bind (ev_eqAngleS L (by omega)) ?_)
  simp only [if_true]
  refine Ev.bind (ev_markAngleS L (by omega)) ?_
  simp only [if_neg (show ¬ (1 + 2 * (L.length : Int) < 0) by omega)]
  refine Ev.bind (ev_eqAngleS r.1 hr) ?_
  simp only [if_true, bne_self_eq_false]
  refine Ev.step (f := fun k => (laws_markAngleS.f k r.1 1).bind fun b => (laws_heldAngleS.f k b.2 1).bind fun t => if t < 0 then some false else if t = b.1 then (laws_toAngleS.f k l).bind fun t => (impl_SortAngles.f k t).bind fun y => (laws_eqAngleS.f k y.1 r.1).bind fun t => if t = true then laws_FnExactSortAngles.j2 k b.2 b.1 (y.2 != r.2) else laws_FnExactSortAngles.j2 k b.2 b.1 true else some false) (fun k => by rw [laws_FnExactSortAngles.j1, if_neg (by simp)]) ?_
  refine Ev.bind (ev_markAngleS r.1 hr) (Ev.bind (ev_heldAngleS r.1 hr) ?_)
  simp only [if_neg (show ¬ (1 + 2 * (r.1.length : Int) < 0) by omega), if_true]
  refine Ev.bind hc (Ev.bind h2 (Ev.bind (ev_eqAngleS r.1 hr) ?_))
  simp only [if_true, bne_self_eq_false]
  refine Ev.step (f := fun k => (laws_heldAngleS.f k (markedA 1 r.1) 1).bind fun t => if t < 0 then some false else if t = 1 + 2 * (r.1.length : Int) then some true else some false) (fun k => by rw [laws_FnExactSortAngles.j2, if_neg (by simp)]) ?_
  refine Ev.bind (ev_heldAngleS r.1 hr) ?_
  simp only [if_neg (show ¬ (1 + 2 * (r.1.length : Int) < 0) by omega), if_true]
  exact Ev.now _
end Go.Proofs.Yteckdlmepgdlnaa.Q
