/- The row of FnExactImageOfLeaf: for every input that can be read the law returns true, and the arguments read as they did. Conditions: none of this text's own; what the row itself says. -/
import Derived.Test.YtkdefglfolmfbaaRows
import Derived.Test.YtkdefglfolmfbaaPkFnExactImageOfLeaf25
import Derived.Test.YtkdefglfolmfbaaPkFnExactImageOfLeaf26
import Derived.WalkKit
import Derived.ProofKit
import Derived.OpenShut
import Derived.ShutString
import Derived.ChangeOld
import Derived.Below
import Derived.SizedLaws
import Derived.Lib.SmallJoins
import Derived.Test.YtkdefglfolmfbaaPkFnExactImageOfLeaf0
namespace Go.Proofs.Ytkdefglfolmfbaa.fnExactImageOfLeaf
open Go.ChangeShapes Go.WideShapes Go.ChangeAt Go.RowKit
open Go.ChangeMaps (open_string shut_string)
set_option linter.unusedVariables false
set_option maxRecDepth 100000
theorem own : ownKnob Try.prog.godebug = none := by kernel_rfl
theorem laidOut : laidOutB Try.prog = true := by kernel_rfl
theorem openL {H : Type} {enc : TypeId × Value → H} {W : World} {base : Nat} {v : Value} {d : DataW H} {p : List MemPlace} (hv : Value.okWide Try.prog W .any base 33 v) (h : DataW.Trod enc Try.prog W 0 (fun _ => true) true 33 v d p) :
    ∃ x y z u : Int, v = .agg #[.int .i64 x, .int .i64 y, .int .i64 z, .int .i64 u] ∧ (Lit.int .i64 x).wf = true ∧ (Lit.int .i64 y).wf = true ∧ (Lit.int .i64 z).wf = true ∧ (Lit.int .i64 u).wf = true := by
  obtain ⟨cs, rfl, hsz⟩ := okWide_struct Try.underlying33 hv
  obtain ⟨fuel, hf⟩ := h
  obtain ⟨y0, y1, n, _, hl, h0, h1⟩ := Go.ChangeShapes.trod_struct2 Try.underlying33 hf
  have h4 : cs.size = 4 := hsz.trans (by kernel_rfl)
  have hc : Try.prog.cellsOf 23 = 2 := by kernel_rfl
  obtain ⟨c0, c1, c2, c3, rfl⟩ : ∃ a b c d, cs = #[a, b, c, d] := by
    match cs, h4 with
    | ⟨[a, b, c, d]⟩, _ => exact ⟨a, b, c, d, rfl⟩
  simp [Value.cells, hc] at h0 h1
  obtain ⟨z0, z1, m, _, _, g0, g1⟩ := Go.ChangeShapes.trod_struct2 Try.underlying23 h0
  obtain ⟨z2, z3, m2, _, _, g2, g3⟩ := Go.ChangeShapes.trod_struct2 Try.underlying23 h1
  have hi : Try.prog.cellsOf 2 = 1 := by kernel_rfl
  simp [hi] at g0 g1 g2 g3
  obtain ⟨x, e0, _, w0⟩ := DataW.trod_int Try.underlying2 g0
  obtain ⟨y, e1, _, w1⟩ := DataW.trod_int Try.underlying2 g1
  obtain ⟨z, e2, _, w2⟩ := DataW.trod_int Try.underlying2 g2
  obtain ⟨u, e3, _, w3⟩ := DataW.trod_int Try.underlying2 g3
  simp at e0 e1 e2 e3
  subst e0 e1 e2 e3
  exact ⟨x, y, z, u, rfl, w0, w1, w2, w3⟩

set_option maxRecDepth 100000 in
theorem lifted (os : Os) (started : os.Started) (H : Type) (enc : TypeId × Value → H) :
    ReturnsInHanded {} Try.checked os 8 .any (Rows.fnExactImageOfLeafSpec.pre6 enc Try.prog Try.f8 Rows.fnExactImageOfLeafRow.domain false) (Rows.fnExactImageOfLeafSpec.post enc Try.prog Try.f8 false true false false) := by
  refine returnsInHanded_of_change_sized (C := Try.checked) own started (by kernel_rfl) Try.func8
    (ChangeSpec.witness6 (enc := enc) (C := Try.checked) false ⟨#[], #[.agg #[.int .i64 0, .int .i64 0, .int .i64 0, .int .i64 0]], []⟩ 8 (by kernel_rfl) (by kernel_rfl) (by kernel_rfl) (by kernel_rfl)) ?_
  intro W base args ds gs before hval0 hW hcnd hsz0 _
  have hsz : (DataW.weightsEach Try.prog (Try.f8.params.toList ++ Rows.fnExactImageOfLeafSpec.plain.varTypes Try.prog) (ds ++ gs)).all (· ≤ reachBytes) = true := hsz0
  have hval : ∀ (j : Nat) t v, Try.f8.params[j]? = some t → args[j]? = some v → Value.okWide Try.prog W .any base t v := hval0
  have hW' := hW
  obtain ⟨p, q, hA0, hV, rfl, hfz, hnd⟩ := hW
  have hA : DataW.TrodAll enc Try.prog W 0 (fun _ => true) true Try.f8.params.toList args.toList ds p := hA0
  rw [Try.params8] at hA hval hsz
  obtain ⟨v0, vs0, d0, ds0, p0, q0, hargs, rfl, rfl, h0, r0⟩ := trodAll_cons hA
  obtain ⟨rfl, rfl, rfl⟩ := trodAll_nil r0
  obtain rfl : args = #[v0] := by cases args; simp_all
  obtain ⟨rfl, rfl⟩ := trodVars_none hV
  have k0 := h0
  have lt0 : ∀ x ∈ p0, x.block < W.heap.size := by obtain ⟨m, hm⟩ := k0; exact DataW.trod_lt m _ _ _ hm
  obtain ⟨a0_0, a0_1, a0_2, a0_3, rfl, w0_0, w0_1, w0_2, w0_3⟩ := openL (hval 0 33 v0 rfl rfl) h0
  clear hA0 hval0 hsz0 hsz
  obtain ⟨k, hpure⟩ := Q.pure_FnExactImageOfLeaf a0_0 a0_1 a0_2 a0_3
  refine (Q.laws_FnExactImageOfLeaf.calls k a0_0 a0_1 a0_2 a0_3 true W  hpure).mono fun e W' ⟨he, hd⟩ => ?_
  have bel : Below W.heap.size W W' := hd
  subst he
  exact ⟨_, rfl, _, _, _, [], _, [], hW', trodAll_mk1 (shut_bool Try.underlying4 _), (trodAll_cons_mk (Below.trod laidOut (by kernel_rfl) (of_decide_eq_true (by kernel_rfl)) k0 bel lt0) trodAll_mk0), rfl, bel.frame _, fun h => by cases h⟩
theorem over : Rows.fnExactImageOfLeafRow.holds Try.pinned (OpenSpec.ofChange Rows.fnExactImageOfLeafSpec) :=
  OpenClaim.holds_of_wide 8 Try.f8 rfl rfl rfl rfl rfl rfl rfl ⟨rfl, rfl, rfl, rfl, rfl⟩ rfl rfl rfl rfl rfl (by kernel_rfl) Try.func8 (by kernel_rfl)
    (of_decide_eq_true (by kernel_rfl)) (by unfold Func.isWrapper; first | (rw [if_pos (by decide +kernel)]; kernel_rfl) | (rw [if_neg (by decide +kernel)]; exact ⟨rfl, rfl⟩))
    (fun os started H enc _ => lifted os started H enc)
theorem proved : Rows.FnExactImageOfLeafSaid := over
#print axioms proved
end Go.Proofs.Ytkdefglfolmfbaa.fnExactImageOfLeaf
namespace Go.Proofs.Ytkdefglfolmfbaa
/-- The row, under a short name, for the claim. -/
theorem fnExactImageOfLeaf_holds : Rows.FnExactImageOfLeafSaid := fnExactImageOfLeaf.proved
end Go.Proofs.Ytkdefglfolmfbaa
