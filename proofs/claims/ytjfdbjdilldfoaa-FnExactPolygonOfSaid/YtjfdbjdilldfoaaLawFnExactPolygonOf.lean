/- The row of FnExactPolygonOf: for every input that can be read the law returns true, and the arguments read as they did. Conditions: none of this text's own; what the row itself says. -/
import Derived.Test.YtjfdbjdilldfoaaRows
import Derived.Test.YtjfdbjdilldfoaaPkFnExactPolygonOf3
import Derived.WalkKit
import Derived.ProofKit
import Derived.OpenShut
import Derived.ShutString
import Derived.ChangeOld
import Derived.Below
import Derived.SizedLaws
import Derived.Lib.SmallJoins
import Derived.Deep.Slices
import Derived.Test.YtjfdbjdilldfoaaWSized
namespace Go.Proofs.Ytjfdbjdilldfoaa.fnExactPolygonOf
open Go.ChangeShapes Go.WideShapes Go.ChangeAt Go.RowKit
open Go.ChangeMaps (open_string shut_string)
set_option linter.unusedVariables false
set_option maxRecDepth 100000
theorem own : ownKnob Try.prog.godebug = none := by kernel_rfl
theorem laidOut : laidOutB Try.prog = true := by kernel_rfl
theorem openAs {H : Type} {enc : TypeId × Value → H} {W : World} {base : Nat} {v : Value} {d : DataW H} {p : List MemPlace} (hv : Value.okWide Try.prog W .any base 22 v) (h : DataW.Trod enc Try.prog W 0 (fun _ => true) true 22 v d p) :
    ∃ (A : Option Addr) (c : Nat) (l : List Q.S40), v = .slice A l.length c ∧ l.length ≤ c ∧ l.length ≤ 9223372036854775807 ∧ YtjfdbjdilldfoaaW.PrintWords.Kd.C Q.k40 W A l.length l := by
  obtain ⟨a0, len, cap, rfl⟩ := okWide_slice Try.underlying22 hv
  obtain ⟨fuel, hf⟩ := h
  rcases Go.Deep.open_slice Try.underlying22 hf with ⟨hcs, _⟩ | ⟨a, len', cap', m, n, D, Pl, hcs, _, hl, hm, hmm, _, hcell⟩
  · simp [Value.cells] at hcs
    obtain ⟨rfl, rfl, rfl⟩ := hcs
    exact ⟨none, 0, [], rfl, Nat.le_refl _, by simp, YtjfdbjdilldfoaaW.PrintWords.Kd.C_nil _ _⟩
  · simp [Value.cells] at hcs
    obtain ⟨rfl, rfl, rfl⟩ := hcs
    have hc : Try.prog.cellsOf 40 = 2 := by kernel_rfl
    have hi1 : Try.prog.cellsOf 2 = 1 := by kernel_rfl
    simp only [if_true] at hmm
    have hinh : Inhabited Q.S40 := ⟨Q.z40⟩
    obtain ⟨F, hF⟩ := Go.Deep.choose_lt (n := len) (p := fun i (x : Q.S40) => ∃ c : List Value, c.length = 2 ∧ Q.k40.K W x c ∧ ∀ j u, c[j]? = some u → W.cell? (a.add (i * 2 + j)) = some u) (fun i hi => by
      obtain ⟨cs, h1, h2⟩ := hcell i (by omega)
      rw [hc] at h1
      have hcs' : ∀ j u, cs[j]? = some u → W.cell? (a.add (i * 2 + j)) = some u := by
        intro j u hj
        have hlen := (World.cells?_some h1).2.1
        have hjl := (List.getElem?_eq_some_iff.1 hj).1
        have := (World.cells?_some h1).2.2 j (by omega)
        rw [Go.Deep.add_add, hj] at this
        exact this
      obtain ⟨y0, y1, _, _, hl2, g0, g1⟩ := Go.ChangeShapes.trod_struct2 Try.underlying40 h2
      rw [hc] at hl2
      obtain ⟨c0, c1, rfl⟩ : ∃ a b, cs = [a, b] := by
        match cs, hl2 with
        | [a, b], _ => exact ⟨a, b, rfl⟩
      simp [hi1] at g0 g1
      obtain ⟨x, e0, _, _⟩ := DataW.trod_int Try.underlying2 g0
      obtain ⟨y, e1, _, _⟩ := DataW.trod_int Try.underlying2 g1
      simp at e0 e1
      subst e0 e1
      exact ⟨⟨x, y⟩, _, rfl, Q.k40_mk W _, hcs'⟩)
    refine ⟨some a, cap, (List.range len).map F, by simp, by simpa using hl, ?_, ?_⟩
    · simp only [List.length_map, List.length_range]
      have : maxLen ≤ 9223372036854775807 := by decide
      omega
    · refine ⟨rfl, ?_, fun _ => ⟨a, rfl, fun j p hj => ?_⟩⟩
      · simp only [List.length_map, List.length_range]
        have : maxLen ≤ 9223372036854775807 := by decide
        omega
      · rw [List.getElem?_map] at hj
        obtain ⟨i, hi, rfl⟩ := Option.map_eq_some_iff.1 hj
        obtain ⟨hlt, rfl⟩ := List.getElem?_eq_some_iff.1 hi
        simp only [List.length_range] at hlt
        simp only [List.getElem_range]
        exact hF j hlt

set_option maxRecDepth 100000 in
theorem lifted (os : Os) (started : os.Started) (H : Type) (enc : TypeId × Value → H) :
    ReturnsInHanded {} Try.checked os 3 .any (Rows.fnExactPolygonOfSpec.pre6 enc Try.prog Try.f3 Rows.fnExactPolygonOfRow.domain false) (Rows.fnExactPolygonOfSpec.post enc Try.prog Try.f3 false true false false) := by
  refine returnsInHanded_of_change_sized (C := Try.checked) own started (by kernel_rfl) Try.func3
    (ChangeSpec.witness6 (enc := enc) (C := Try.checked) false ⟨#[], #[.slice none 0 0], []⟩ 8 (by kernel_rfl) (by kernel_rfl) (by kernel_rfl) (by kernel_rfl)) ?_
  intro W base args ds gs before hval0 hW hcnd hsz0 _
  have hsz : (DataW.weightsEach Try.prog (Try.f3.params.toList ++ Rows.fnExactPolygonOfSpec.plain.varTypes Try.prog) (ds ++ gs)).all (· ≤ reachBytes) = true := hsz0
  have hval : ∀ (j : Nat) t v, Try.f3.params[j]? = some t → args[j]? = some v → Value.okWide Try.prog W .any base t v := hval0
  have hW' := hW
  obtain ⟨p, q, hA0, hV, rfl, hfz, hnd⟩ := hW
  have hA : DataW.TrodAll enc Try.prog W 0 (fun _ => true) true Try.f3.params.toList args.toList ds p := hA0
  rw [Try.params3] at hA hval hsz
  obtain ⟨v0, vs0, d0, ds0, p0, q0, hargs, rfl, rfl, h0, r0⟩ := trodAll_cons hA
  obtain ⟨rfl, rfl, rfl⟩ := trodAll_nil r0
  obtain rfl : args = #[v0] := by cases args; simp_all
  obtain ⟨rfl, rfl⟩ := trodVars_none hV
  have k0 := h0
  have lt0 : ∀ x ∈ p0, x.block < W.heap.size := by obtain ⟨m, hm⟩ := k0; exact DataW.trod_lt m _ _ _ hm
  obtain ⟨A0, c0, l0, rfl, e0, m0, r0_⟩ := openAs (hval 0 22 v0 rfl rfl) h0
  clear hA0 hval0 hsz0 hsz
  obtain ⟨k, hpure⟩ := Q.pure_FnExactPolygonOf l0 m0
  refine (Q.laws_FnExactPolygonOf.calls k A0 c0 l0 true W r0_ e0 hpure).mono fun e W' ⟨he, hd⟩ => ?_
  have bel : Below W.heap.size W W' := hd
  subst he
  exact ⟨_, rfl, _, _, _, [], _, [], hW', trodAll_mk1 (shut_bool Try.underlying4 _), (trodAll_cons_mk (Below.trod laidOut (by kernel_rfl) (of_decide_eq_true (by kernel_rfl)) k0 bel lt0) trodAll_mk0), rfl, bel.frame _, fun h => by cases h⟩
theorem over : Rows.fnExactPolygonOfRow.holds Try.pinned (OpenSpec.ofChange Rows.fnExactPolygonOfSpec) :=
  OpenClaim.holds_of_wide 3 Try.f3 rfl rfl rfl rfl rfl rfl rfl ⟨rfl, rfl, rfl, rfl, rfl⟩ rfl rfl rfl rfl rfl (by kernel_rfl) Try.func3 (by kernel_rfl)
    (of_decide_eq_true (by kernel_rfl)) (by unfold Func.isWrapper; first | (rw [if_pos (by decide +kernel)]; kernel_rfl) | (rw [if_neg (by decide +kernel)]; exact ⟨rfl, rfl⟩))
    (fun os started H enc _ => lifted os started H enc)
theorem proved : Rows.FnExactPolygonOfSaid := over
#print axioms proved
end Go.Proofs.Ytjfdbjdilldfoaa.fnExactPolygonOf
namespace Go.Proofs.Ytjfdbjdilldfoaa
/-- The row, under a short name, for the claim. -/
theorem fnExactPolygonOf_holds : Rows.FnExactPolygonOfSaid := fnExactPolygonOf.proved
end Go.Proofs.Ytjfdbjdilldfoaa
