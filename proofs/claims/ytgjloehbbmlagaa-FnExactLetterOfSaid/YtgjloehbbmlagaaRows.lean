/-
  No cell of these rows narrows 'for every input' (looked for: loops, veiled, ifaces, maps, wideKeys, modest, calm, conditions, laid).
  DERIVED. THE GIVEN ROWS OF THIS SEAT. 12 by the template 'for every input the law returns true; each argument reads behind the call as it read before'; 0 by the template 'total and deterministic' (their statements: YtgjloehbbmlagaaTotals.lean).
  GIVEN WITH THE SEED: the statements are not yours to turn. If you find one false, say at which input.
  Laid BY PROGRAM, IN A SANDBOX (cutbox-rows.mjs): the forced cells as the released guide's own fill.sh prints them over the translation 68a7ce6c859ef0c7… (all of the seat's roots in one cut). By AI agents, Wed Nov 11 2026. No macro, syntax, notation, axiom, sorry.
-/
import Derived.Test.YtgjloehbbmlagaaChecked
import GoSem.Claim
import GoSem.ClaimJoined
import GoSem.ClaimMapViews
import Derived.JoinedTies
import Derived.KernelRfl
namespace Go.Proofs.Ytgjloehbbmlagaa
/- THE CELL 'sum', in the pinned program and in every row, IS THE sha256 OF THE DUMP (.gsa) THAT YtgjloehbbmlagaaProg.lean LOADS. Nothing in Lean hashes anything: it is a label: what it is worth is what the hold of that sum in a sandbox is worth. -/
noncomputable def Try.pinned : Pinned := { name := "ytgjloehbbmlagaa", sum := "68a7ce6c859ef0c778d51bfabe22a62956f672b20fa5ad9dbd8a87b87b27b84e", checked := Try.checked }
namespace Rows
def none {H : Type} : Left H := { results := [], args := [] }

/-- 'laws.FnExactConstants': WHATEVER THE INPUT: true; the input reads as it did. -/
def fnExactConstantsSpec : ChangeSpec := { name := "fnExactConstants", fn := fun _ => fun
  | [] => { results := [.lit (.bool true)], args := [] }
  | _ => none }
def fnExactConstantsRow : OpenClaim := { program := "ytgjloehbbmlagaa", sum := "68a7ce6c859ef0c778d51bfabe22a62956f672b20fa5ad9dbd8a87b87b27b84e", func := "loop.example/g01234/laws.FnExactConstants", spec := "fnExactConstants", apart := false }
def FnExactConstantsSaid : Prop := fnExactConstantsRow.holds Try.pinned (OpenSpec.ofChange fnExactConstantsSpec)

/-- ITS FALSE NEIGHBOUR: 'it returns false'. Refute it at one input. -/
def fnExactConstantsWrong : ChangeSpec := { name := "fnExactConstants", fn := fun _ => fun
  | [] => { results := [.lit (.bool false)], args := [] }
  | _ => none }
def FnExactConstantsWrongFalsely : Prop := fnExactConstantsRow.holds Try.pinned (OpenSpec.ofChange fnExactConstantsWrong)

/-- 'laws.FnExactIsAngle': WHATEVER THE INPUT: true; the input reads as it did. -/
def fnExactIsAngleSpec : ChangeSpec := { name := "fnExactIsAngle", fn := fun _ => fun
  | [d] => { results := [.lit (.bool true)], args := [d] }
  | _ => none }
def fnExactIsAngleRow : OpenClaim := { program := "ytgjloehbbmlagaa", sum := "68a7ce6c859ef0c778d51bfabe22a62956f672b20fa5ad9dbd8a87b87b27b84e", func := "loop.example/g01234/laws.FnExactIsAngle", spec := "fnExactIsAngle", apart := false }
def FnExactIsAngleSaid : Prop := fnExactIsAngleRow.holds Try.pinned (OpenSpec.ofChange fnExactIsAngleSpec)

/-- ITS FALSE NEIGHBOUR: 'it returns false'. Refute it at one input. -/
def fnExactIsAngleWrong : ChangeSpec := { name := "fnExactIsAngle", fn := fun _ => fun
  | [d] => { results := [.lit (.bool false)], args := [d] }
  | _ => none }
def FnExactIsAngleWrongFalsely : Prop := fnExactIsAngleRow.holds Try.pinned (OpenSpec.ofChange fnExactIsAngleWrong)

/-- 'laws.FnExactNewDesk': WHATEVER THE INPUT: true; the input reads as it did. -/
def fnExactNewDeskSpec : ChangeSpec := { name := "fnExactNewDesk", fn := fun _ => fun
  | [] => { results := [.lit (.bool true)], args := [] }
  | _ => none }
def fnExactNewDeskRow : OpenClaim := { program := "ytgjloehbbmlagaa", sum := "68a7ce6c859ef0c778d51bfabe22a62956f672b20fa5ad9dbd8a87b87b27b84e", func := "loop.example/g01234/laws.FnExactNewDesk", spec := "fnExactNewDesk", apart := false }
def FnExactNewDeskSaid : Prop := fnExactNewDeskRow.holds Try.pinned (OpenSpec.ofChange fnExactNewDeskSpec)

/-- ITS FALSE NEIGHBOUR: 'it returns false'. Refute it at one input. -/
def fnExactNewDeskWrong : ChangeSpec := { name := "fnExactNewDesk", fn := fun _ => fun
  | [] => { results := [.lit (.bool false)], args := [] }
  | _ => none }
def FnExactNewDeskWrongFalsely : Prop := fnExactNewDeskRow.holds Try.pinned (OpenSpec.ofChange fnExactNewDeskWrong)

/-- 'laws.FnExactAngleOf': WHATEVER THE INPUT: true; the input reads as it did. -/
def fnExactAngleOfSpec : ChangeSpec := { name := "fnExactAngleOf", fn := fun _ => fun
  | [d1, d2] => { results := [.lit (.bool true)], args := [d1, d2] }
  | _ => none }
def fnExactAngleOfRow : OpenClaim := { program := "ytgjloehbbmlagaa", sum := "68a7ce6c859ef0c778d51bfabe22a62956f672b20fa5ad9dbd8a87b87b27b84e", func := "loop.example/g01234/laws.FnExactAngleOf", spec := "fnExactAngleOf", apart := false }
def FnExactAngleOfSaid : Prop := fnExactAngleOfRow.holds Try.pinned (OpenSpec.ofChange fnExactAngleOfSpec)

/-- ITS FALSE NEIGHBOUR: 'it returns false'. Refute it at one input. -/
def fnExactAngleOfWrong : ChangeSpec := { name := "fnExactAngleOf", fn := fun _ => fun
  | [d1, d2] => { results := [.lit (.bool false)], args := [d1, d2] }
  | _ => none }
def FnExactAngleOfWrongFalsely : Prop := fnExactAngleOfRow.holds Try.pinned (OpenSpec.ofChange fnExactAngleOfWrong)

/-- 'laws.FnExactIsLeaf': WHATEVER THE INPUT: true; the input reads as it did. -/
def fnExactIsLeafSpec : ChangeSpec := { name := "fnExactIsLeaf", fn := fun _ => fun
  | [d] => { results := [.lit (.bool true)], args := [d] }
  | _ => none }
def fnExactIsLeafRow : OpenClaim := { program := "ytgjloehbbmlagaa", sum := "68a7ce6c859ef0c778d51bfabe22a62956f672b20fa5ad9dbd8a87b87b27b84e", func := "loop.example/g01234/laws.FnExactIsLeaf", spec := "fnExactIsLeaf", apart := false }
def FnExactIsLeafSaid : Prop := fnExactIsLeafRow.holds Try.pinned (OpenSpec.ofChange fnExactIsLeafSpec)

/-- ITS FALSE NEIGHBOUR: 'it returns false'. Refute it at one input. -/
def fnExactIsLeafWrong : ChangeSpec := { name := "fnExactIsLeaf", fn := fun _ => fun
  | [d] => { results := [.lit (.bool false)], args := [d] }
  | _ => none }
def FnExactIsLeafWrongFalsely : Prop := fnExactIsLeafRow.holds Try.pinned (OpenSpec.ofChange fnExactIsLeafWrong)

/-- 'laws.FnExactDoubleAngle': WHATEVER THE INPUT: true; the input reads as it did. -/
def fnExactDoubleAngleSpec : ChangeSpec := { name := "fnExactDoubleAngle", fn := fun _ => fun
  | [d] => { results := [.lit (.bool true)], args := [d] }
  | _ => none }
def fnExactDoubleAngleRow : OpenClaim := { program := "ytgjloehbbmlagaa", sum := "68a7ce6c859ef0c778d51bfabe22a62956f672b20fa5ad9dbd8a87b87b27b84e", func := "loop.example/g01234/laws.FnExactDoubleAngle", spec := "fnExactDoubleAngle", unfollowed := true, recurses := true, apart := false }
def FnExactDoubleAngleSaid : Prop := fnExactDoubleAngleRow.holds Try.pinned (OpenSpec.ofChange fnExactDoubleAngleSpec)

/-- ITS FALSE NEIGHBOUR: 'it returns false'. Refute it at one input. -/
def fnExactDoubleAngleWrong : ChangeSpec := { name := "fnExactDoubleAngle", fn := fun _ => fun
  | [d] => { results := [.lit (.bool false)], args := [d] }
  | _ => none }
def FnExactDoubleAngleWrongFalsely : Prop := fnExactDoubleAngleRow.holds Try.pinned (OpenSpec.ofChange fnExactDoubleAngleWrong)

/-- 'laws.FnExactOppositeAngle': WHATEVER THE INPUT: true; the input reads as it did. -/
def fnExactOppositeAngleSpec : ChangeSpec := { name := "fnExactOppositeAngle", fn := fun _ => fun
  | [d] => { results := [.lit (.bool true)], args := [d] }
  | _ => none }
def fnExactOppositeAngleRow : OpenClaim := { program := "ytgjloehbbmlagaa", sum := "68a7ce6c859ef0c778d51bfabe22a62956f672b20fa5ad9dbd8a87b87b27b84e", func := "loop.example/g01234/laws.FnExactOppositeAngle", spec := "fnExactOppositeAngle", unfollowed := true, recurses := true, apart := false }
def FnExactOppositeAngleSaid : Prop := fnExactOppositeAngleRow.holds Try.pinned (OpenSpec.ofChange fnExactOppositeAngleSpec)

/-- ITS FALSE NEIGHBOUR: 'it returns false'. Refute it at one input. -/
def fnExactOppositeAngleWrong : ChangeSpec := { name := "fnExactOppositeAngle", fn := fun _ => fun
  | [d] => { results := [.lit (.bool false)], args := [d] }
  | _ => none }
def FnExactOppositeAngleWrongFalsely : Prop := fnExactOppositeAngleRow.holds Try.pinned (OpenSpec.ofChange fnExactOppositeAngleWrong)

/-- 'laws.FnExactLetterOf': WHATEVER THE INPUT: true; the input reads as it did. -/
def fnExactLetterOfSpec : ChangeSpec := { name := "fnExactLetterOf", fn := fun _ => fun
  | [d1, d2] => { results := [.lit (.bool true)], args := [d1, d2] }
  | _ => none }
def fnExactLetterOfRow : OpenClaim := { program := "ytgjloehbbmlagaa", sum := "68a7ce6c859ef0c778d51bfabe22a62956f672b20fa5ad9dbd8a87b87b27b84e", func := "loop.example/g01234/laws.FnExactLetterOf", spec := "fnExactLetterOf", unfollowed := true, recurses := true, apart := false }
def FnExactLetterOfSaid : Prop := fnExactLetterOfRow.holds Try.pinned (OpenSpec.ofChange fnExactLetterOfSpec)

/-- ITS FALSE NEIGHBOUR: 'it returns false'. Refute it at one input. -/
def fnExactLetterOfWrong : ChangeSpec := { name := "fnExactLetterOf", fn := fun _ => fun
  | [d1, d2] => { results := [.lit (.bool false)], args := [d1, d2] }
  | _ => none }
def FnExactLetterOfWrongFalsely : Prop := fnExactLetterOfRow.holds Try.pinned (OpenSpec.ofChange fnExactLetterOfWrong)

/-- 'laws.FnExactAddAngles': WHATEVER THE INPUT: true; the input reads as it did. -/
def fnExactAddAnglesSpec : ChangeSpec := { name := "fnExactAddAngles", fn := fun _ => fun
  | [d1, d2] => { results := [.lit (.bool true)], args := [d1, d2] }
  | _ => none }
def fnExactAddAnglesRow : OpenClaim := { program := "ytgjloehbbmlagaa", sum := "68a7ce6c859ef0c778d51bfabe22a62956f672b20fa5ad9dbd8a87b87b27b84e", func := "loop.example/g01234/laws.FnExactAddAngles", spec := "fnExactAddAngles", unfollowed := true, recurses := true, apart := false }
def FnExactAddAnglesSaid : Prop := fnExactAddAnglesRow.holds Try.pinned (OpenSpec.ofChange fnExactAddAnglesSpec)

/-- ITS FALSE NEIGHBOUR: 'it returns false'. Refute it at one input. -/
def fnExactAddAnglesWrong : ChangeSpec := { name := "fnExactAddAngles", fn := fun _ => fun
  | [d1, d2] => { results := [.lit (.bool false)], args := [d1, d2] }
  | _ => none }
def FnExactAddAnglesWrongFalsely : Prop := fnExactAddAnglesRow.holds Try.pinned (OpenSpec.ofChange fnExactAddAnglesWrong)

/-- 'laws.FnExactCyclicOrder': WHATEVER THE INPUT: true; the input reads as it did. -/
def fnExactCyclicOrderSpec : ChangeSpec := { name := "fnExactCyclicOrder", fn := fun _ => fun
  | [d1, d2, d3] => { results := [.lit (.bool true)], args := [d1, d2, d3] }
  | _ => none }
def fnExactCyclicOrderRow : OpenClaim := { program := "ytgjloehbbmlagaa", sum := "68a7ce6c859ef0c778d51bfabe22a62956f672b20fa5ad9dbd8a87b87b27b84e", func := "loop.example/g01234/laws.FnExactCyclicOrder", spec := "fnExactCyclicOrder", unfollowed := true, recurses := true, apart := false }
def FnExactCyclicOrderSaid : Prop := fnExactCyclicOrderRow.holds Try.pinned (OpenSpec.ofChange fnExactCyclicOrderSpec)

/-- ITS FALSE NEIGHBOUR: 'it returns false'. Refute it at one input. -/
def fnExactCyclicOrderWrong : ChangeSpec := { name := "fnExactCyclicOrder", fn := fun _ => fun
  | [d1, d2, d3] => { results := [.lit (.bool false)], args := [d1, d2, d3] }
  | _ => none }
def FnExactCyclicOrderWrongFalsely : Prop := fnExactCyclicOrderRow.holds Try.pinned (OpenSpec.ofChange fnExactCyclicOrderWrong)

/-- 'laws.FnExactIsWithin': WHATEVER THE INPUT: true; the input reads as it did. -/
def fnExactIsWithinSpec : ChangeSpec := { name := "fnExactIsWithin", fn := fun _ => fun
  | [d1, d2, d3] => { results := [.lit (.bool true)], args := [d1, d2, d3] }
  | _ => none }
def fnExactIsWithinRow : OpenClaim := { program := "ytgjloehbbmlagaa", sum := "68a7ce6c859ef0c778d51bfabe22a62956f672b20fa5ad9dbd8a87b87b27b84e", func := "loop.example/g01234/laws.FnExactIsWithin", spec := "fnExactIsWithin", unfollowed := true, recurses := true, apart := false }
def FnExactIsWithinSaid : Prop := fnExactIsWithinRow.holds Try.pinned (OpenSpec.ofChange fnExactIsWithinSpec)

/-- ITS FALSE NEIGHBOUR: 'it returns false'. Refute it at one input. -/
def fnExactIsWithinWrong : ChangeSpec := { name := "fnExactIsWithin", fn := fun _ => fun
  | [d1, d2, d3] => { results := [.lit (.bool false)], args := [d1, d2, d3] }
  | _ => none }
def FnExactIsWithinWrongFalsely : Prop := fnExactIsWithinRow.holds Try.pinned (OpenSpec.ofChange fnExactIsWithinWrong)

/-- 'laws.FnExactLeafOf': WHATEVER THE INPUT: true; the input reads as it did. -/
def fnExactLeafOfSpec : ChangeSpec := { name := "fnExactLeafOf", fn := fun _ => fun
  | [d1, d2] => { results := [.lit (.bool true)], args := [d1, d2] }
  | _ => none }
def fnExactLeafOfRow : OpenClaim := { program := "ytgjloehbbmlagaa", sum := "68a7ce6c859ef0c778d51bfabe22a62956f672b20fa5ad9dbd8a87b87b27b84e", func := "loop.example/g01234/laws.FnExactLeafOf", spec := "fnExactLeafOf", unfollowed := true, recurses := true, apart := false }
def FnExactLeafOfSaid : Prop := fnExactLeafOfRow.holds Try.pinned (OpenSpec.ofChange fnExactLeafOfSpec)

/-- ITS FALSE NEIGHBOUR: 'it returns false'. Refute it at one input. -/
def fnExactLeafOfWrong : ChangeSpec := { name := "fnExactLeafOf", fn := fun _ => fun
  | [d1, d2] => { results := [.lit (.bool false)], args := [d1, d2] }
  | _ => none }
def FnExactLeafOfWrongFalsely : Prop := fnExactLeafOfRow.holds Try.pinned (OpenSpec.ofChange fnExactLeafOfWrong)

/- THE SECOND FORM. 'bulk': how many values and letters a reading holds, each counted each time it is reached (what is shared counts as often as it is met; a slice's spare places count too). A statement '..UptoSaid' is the law's where the arguments, and the package variables that the reading takes, are together of bulk at most 1048576: NARROWER than '..Said'. Prove '..Said' where nothing that the law and all that it calls make is longer than what came in: it says more and counts as full. Else prove '..UptoSaid'. A law counts once. -/
mutual
def uptoBulk {H : Type} : DataW H → Nat
  | .lit (.string bytes) => bytes.length + 1
  | .lit _ => 1
  | .nil => 1
  | .ptr d => uptoBulk d + 1
  | .slice elems spare => uptoBulkAll elems + uptoBulkAll spare + 1
  | .agg parts => uptoBulkAll parts + 1
  | .iface _ d => uptoBulk d + 1
  | .map entries => uptoBulkEntries entries + 1
  | .held _ => 1
def uptoBulkAll {H : Type} : List (DataW H) → Nat
  | [] => 0
  | d :: r => uptoBulk d + uptoBulkAll r
def uptoBulkEntries {H : Type} : List (Lit × DataW H) → Nat
  | [] => 0
  | x :: r => uptoBulkEntry x + uptoBulkEntries r
def uptoBulkEntry {H : Type} : Lit × DataW H → Nat
  | (.string bytes, d) => bytes.length + uptoBulk d + 1
  | (_, d) => uptoBulk d + 1
 end
def uptoSmall : (H : Type) → List (DataW H) → Bool := fun _ ds => decide (uptoBulkAll ds ≤ 1048576)
def OpenSpec.upto (s : _root_.Go.ChangeSpec) : _root_.Go.OpenSpec := { _root_.Go.OpenSpec.ofChange s with cond := some uptoSmall }

/-- 'laws.FnExactConstants', WHERE WHAT IT READS IS OF BULK AT MOST 1048576: true; the input reads as it did. -/
def fnExactConstantsUptoRow : OpenClaim := { program := "ytgjloehbbmlagaa", sum := "68a7ce6c859ef0c778d51bfabe22a62956f672b20fa5ad9dbd8a87b87b27b84e", func := "loop.example/g01234/laws.FnExactConstants", spec := "fnExactConstants", apart := false, narrowed := true }
def FnExactConstantsUptoSaid : Prop := fnExactConstantsUptoRow.holds Try.pinned (OpenSpec.upto fnExactConstantsSpec)

/-- 'laws.FnExactIsAngle', WHERE WHAT IT READS IS OF BULK AT MOST 1048576: true; the input reads as it did. -/
def fnExactIsAngleUptoRow : OpenClaim := { program := "ytgjloehbbmlagaa", sum := "68a7ce6c859ef0c778d51bfabe22a62956f672b20fa5ad9dbd8a87b87b27b84e", func := "loop.example/g01234/laws.FnExactIsAngle", spec := "fnExactIsAngle", apart := false, narrowed := true }
def FnExactIsAngleUptoSaid : Prop := fnExactIsAngleUptoRow.holds Try.pinned (OpenSpec.upto fnExactIsAngleSpec)

/-- 'laws.FnExactNewDesk', WHERE WHAT IT READS IS OF BULK AT MOST 1048576: true; the input reads as it did. -/
def fnExactNewDeskUptoRow : OpenClaim := { program := "ytgjloehbbmlagaa", sum := "68a7ce6c859ef0c778d51bfabe22a62956f672b20fa5ad9dbd8a87b87b27b84e", func := "loop.example/g01234/laws.FnExactNewDesk", spec := "fnExactNewDesk", apart := false, narrowed := true }
def FnExactNewDeskUptoSaid : Prop := fnExactNewDeskUptoRow.holds Try.pinned (OpenSpec.upto fnExactNewDeskSpec)

/-- 'laws.FnExactAngleOf', WHERE WHAT IT READS IS OF BULK AT MOST 1048576: true; the input reads as it did. -/
def fnExactAngleOfUptoRow : OpenClaim := { program := "ytgjloehbbmlagaa", sum := "68a7ce6c859ef0c778d51bfabe22a62956f672b20fa5ad9dbd8a87b87b27b84e", func := "loop.example/g01234/laws.FnExactAngleOf", spec := "fnExactAngleOf", apart := false, narrowed := true }
def FnExactAngleOfUptoSaid : Prop := fnExactAngleOfUptoRow.holds Try.pinned (OpenSpec.upto fnExactAngleOfSpec)

/-- 'laws.FnExactIsLeaf', WHERE WHAT IT READS IS OF BULK AT MOST 1048576: true; the input reads as it did. -/
def fnExactIsLeafUptoRow : OpenClaim := { program := "ytgjloehbbmlagaa", sum := "68a7ce6c859ef0c778d51bfabe22a62956f672b20fa5ad9dbd8a87b87b27b84e", func := "loop.example/g01234/laws.FnExactIsLeaf", spec := "fnExactIsLeaf", apart := false, narrowed := true }
def FnExactIsLeafUptoSaid : Prop := fnExactIsLeafUptoRow.holds Try.pinned (OpenSpec.upto fnExactIsLeafSpec)

/-- 'laws.FnExactDoubleAngle', WHERE WHAT IT READS IS OF BULK AT MOST 1048576: true; the input reads as it did. -/
def fnExactDoubleAngleUptoRow : OpenClaim := { program := "ytgjloehbbmlagaa", sum := "68a7ce6c859ef0c778d51bfabe22a62956f672b20fa5ad9dbd8a87b87b27b84e", func := "loop.example/g01234/laws.FnExactDoubleAngle", spec := "fnExactDoubleAngle", unfollowed := true, recurses := true, apart := false, narrowed := true }
def FnExactDoubleAngleUptoSaid : Prop := fnExactDoubleAngleUptoRow.holds Try.pinned (OpenSpec.upto fnExactDoubleAngleSpec)

/-- 'laws.FnExactOppositeAngle', WHERE WHAT IT READS IS OF BULK AT MOST 1048576: true; the input reads as it did. -/
def fnExactOppositeAngleUptoRow : OpenClaim := { program := "ytgjloehbbmlagaa", sum := "68a7ce6c859ef0c778d51bfabe22a62956f672b20fa5ad9dbd8a87b87b27b84e", func := "loop.example/g01234/laws.FnExactOppositeAngle", spec := "fnExactOppositeAngle", unfollowed := true, recurses := true, apart := false, narrowed := true }
def FnExactOppositeAngleUptoSaid : Prop := fnExactOppositeAngleUptoRow.holds Try.pinned (OpenSpec.upto fnExactOppositeAngleSpec)

/-- 'laws.FnExactLetterOf', WHERE WHAT IT READS IS OF BULK AT MOST 1048576: true; the input reads as it did. -/
def fnExactLetterOfUptoRow : OpenClaim := { program := "ytgjloehbbmlagaa", sum := "68a7ce6c859ef0c778d51bfabe22a62956f672b20fa5ad9dbd8a87b87b27b84e", func := "loop.example/g01234/laws.FnExactLetterOf", spec := "fnExactLetterOf", unfollowed := true, recurses := true, apart := false, narrowed := true }
def FnExactLetterOfUptoSaid : Prop := fnExactLetterOfUptoRow.holds Try.pinned (OpenSpec.upto fnExactLetterOfSpec)

/-- 'laws.FnExactAddAngles', WHERE WHAT IT READS IS OF BULK AT MOST 1048576: true; the input reads as it did. -/
def fnExactAddAnglesUptoRow : OpenClaim := { program := "ytgjloehbbmlagaa", sum := "68a7ce6c859ef0c778d51bfabe22a62956f672b20fa5ad9dbd8a87b87b27b84e", func := "loop.example/g01234/laws.FnExactAddAngles", spec := "fnExactAddAngles", unfollowed := true, recurses := true, apart := false, narrowed := true }
def FnExactAddAnglesUptoSaid : Prop := fnExactAddAnglesUptoRow.holds Try.pinned (OpenSpec.upto fnExactAddAnglesSpec)

/-- 'laws.FnExactCyclicOrder', WHERE WHAT IT READS IS OF BULK AT MOST 1048576: true; the input reads as it did. -/
def fnExactCyclicOrderUptoRow : OpenClaim := { program := "ytgjloehbbmlagaa", sum := "68a7ce6c859ef0c778d51bfabe22a62956f672b20fa5ad9dbd8a87b87b27b84e", func := "loop.example/g01234/laws.FnExactCyclicOrder", spec := "fnExactCyclicOrder", unfollowed := true, recurses := true, apart := false, narrowed := true }
def FnExactCyclicOrderUptoSaid : Prop := fnExactCyclicOrderUptoRow.holds Try.pinned (OpenSpec.upto fnExactCyclicOrderSpec)

/-- 'laws.FnExactIsWithin', WHERE WHAT IT READS IS OF BULK AT MOST 1048576: true; the input reads as it did. -/
def fnExactIsWithinUptoRow : OpenClaim := { program := "ytgjloehbbmlagaa", sum := "68a7ce6c859ef0c778d51bfabe22a62956f672b20fa5ad9dbd8a87b87b27b84e", func := "loop.example/g01234/laws.FnExactIsWithin", spec := "fnExactIsWithin", unfollowed := true, recurses := true, apart := false, narrowed := true }
def FnExactIsWithinUptoSaid : Prop := fnExactIsWithinUptoRow.holds Try.pinned (OpenSpec.upto fnExactIsWithinSpec)

/-- 'laws.FnExactLeafOf', WHERE WHAT IT READS IS OF BULK AT MOST 1048576: true; the input reads as it did. -/
def fnExactLeafOfUptoRow : OpenClaim := { program := "ytgjloehbbmlagaa", sum := "68a7ce6c859ef0c778d51bfabe22a62956f672b20fa5ad9dbd8a87b87b27b84e", func := "loop.example/g01234/laws.FnExactLeafOf", spec := "fnExactLeafOf", unfollowed := true, recurses := true, apart := false, narrowed := true }
def FnExactLeafOfUptoSaid : Prop := fnExactLeafOfUptoRow.holds Try.pinned (OpenSpec.upto fnExactLeafOfSpec)

end Rows
end Go.Proofs.Ytgjloehbbmlagaa
