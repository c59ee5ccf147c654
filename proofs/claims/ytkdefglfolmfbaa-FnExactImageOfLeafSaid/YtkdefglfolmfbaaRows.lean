/-
  No cell of these rows narrows 'for every input' (looked for: loops, veiled, ifaces, maps, wideKeys, modest, calm, conditions, laid).
  DERIVED. THE GIVEN ROWS OF THIS SEAT. 10 by the template 'for every input the law returns true; each argument reads behind the call as it read before'; 0 by the template 'total and deterministic' (their statements: YtkdefglfolmfbaaTotals.lean).
  GIVEN WITH THE SEED: the statements are not yours to turn. If you find one false, say at which input.
  Laid BY PROGRAM, IN A SANDBOX (cutbox-rows.mjs): the forced cells as the released guide's own fill.sh prints them over the translation fab7e649805cfbcd… (all of the seat's roots in one cut). By AI agents, Wed Nov 11 2026. No macro, syntax, notation, axiom, sorry.
-/
import Derived.Test.YtkdefglfolmfbaaChecked
import GoSem.Claim
import GoSem.ClaimJoined
import GoSem.ClaimMapViews
import Derived.JoinedTies
import Derived.KernelRfl
namespace Go.Proofs.Ytkdefglfolmfbaa
/- THE CELL 'sum', in the pinned program and in every row, IS THE sha256 OF THE DUMP (.gsa) THAT YtkdefglfolmfbaaProg.lean LOADS. Nothing in Lean hashes anything: it is a label: what it is worth is what the hold of that sum in a sandbox is worth. -/
noncomputable def Try.pinned : Pinned := { name := "ytkdefglfolmfbaa", sum := "fab7e649805cfbcd9ece0f0d3985d8448ed10a450e94560c393b1a1d63977af5", checked := Try.checked }
namespace Rows
def none {H : Type} : Left H := { results := [], args := [] }

/-- 'laws.FnExactHalvesOf': WHATEVER THE INPUT: true; the input reads as it did. -/
def fnExactHalvesOfSpec : ChangeSpec := { name := "fnExactHalvesOf", fn := fun _ => fun
  | [d] => { results := [.lit (.bool true)], args := [d] }
  | _ => none }
def fnExactHalvesOfRow : OpenClaim := { program := "ytkdefglfolmfbaa", sum := "fab7e649805cfbcd9ece0f0d3985d8448ed10a450e94560c393b1a1d63977af5", func := "loop.example/g01234/laws.FnExactHalvesOf", spec := "fnExactHalvesOf", unfollowed := true, recurses := true, apart := false }
def FnExactHalvesOfSaid : Prop := fnExactHalvesOfRow.holds Try.pinned (OpenSpec.ofChange fnExactHalvesOfSpec)

/-- ITS FALSE NEIGHBOUR: 'it returns false'. Refute it at one input. -/
def fnExactHalvesOfWrong : ChangeSpec := { name := "fnExactHalvesOf", fn := fun _ => fun
  | [d] => { results := [.lit (.bool false)], args := [d] }
  | _ => none }
def FnExactHalvesOfWrongFalsely : Prop := fnExactHalvesOfRow.holds Try.pinned (OpenSpec.ofChange fnExactHalvesOfWrong)

/-- 'laws.FnExactDoLeavesCross': WHATEVER THE INPUT: true; the input reads as it did. -/
def fnExactDoLeavesCrossSpec : ChangeSpec := { name := "fnExactDoLeavesCross", fn := fun _ => fun
  | [d1, d2] => { results := [.lit (.bool true)], args := [d1, d2] }
  | _ => none }
def fnExactDoLeavesCrossRow : OpenClaim := { program := "ytkdefglfolmfbaa", sum := "fab7e649805cfbcd9ece0f0d3985d8448ed10a450e94560c393b1a1d63977af5", func := "loop.example/g01234/laws.FnExactDoLeavesCross", spec := "fnExactDoLeavesCross", unfollowed := true, recurses := true, apart := false }
def FnExactDoLeavesCrossSaid : Prop := fnExactDoLeavesCrossRow.holds Try.pinned (OpenSpec.ofChange fnExactDoLeavesCrossSpec)

/-- ITS FALSE NEIGHBOUR: 'it returns false'. Refute it at one input. -/
def fnExactDoLeavesCrossWrong : ChangeSpec := { name := "fnExactDoLeavesCross", fn := fun _ => fun
  | [d1, d2] => { results := [.lit (.bool false)], args := [d1, d2] }
  | _ => none }
def FnExactDoLeavesCrossWrongFalsely : Prop := fnExactDoLeavesCrossRow.holds Try.pinned (OpenSpec.ofChange fnExactDoLeavesCrossWrong)

/-- 'laws.FnExactDistanceOf': WHATEVER THE INPUT: true; the input reads as it did. -/
def fnExactDistanceOfSpec : ChangeSpec := { name := "fnExactDistanceOf", fn := fun _ => fun
  | [d1, d2] => { results := [.lit (.bool true)], args := [d1, d2] }
  | _ => none }
def fnExactDistanceOfRow : OpenClaim := { program := "ytkdefglfolmfbaa", sum := "fab7e649805cfbcd9ece0f0d3985d8448ed10a450e94560c393b1a1d63977af5", func := "loop.example/g01234/laws.FnExactDistanceOf", spec := "fnExactDistanceOf", unfollowed := true, recurses := true, apart := false }
def FnExactDistanceOfSaid : Prop := fnExactDistanceOfRow.holds Try.pinned (OpenSpec.ofChange fnExactDistanceOfSpec)

/-- ITS FALSE NEIGHBOUR: 'it returns false'. Refute it at one input. -/
def fnExactDistanceOfWrong : ChangeSpec := { name := "fnExactDistanceOf", fn := fun _ => fun
  | [d1, d2] => { results := [.lit (.bool false)], args := [d1, d2] }
  | _ => none }
def FnExactDistanceOfWrongFalsely : Prop := fnExactDistanceOfRow.holds Try.pinned (OpenSpec.ofChange fnExactDistanceOfWrong)

/-- 'laws.FnExactArePairsCrossing': WHATEVER THE INPUT: true; the input reads as it did. -/
def fnExactArePairsCrossingSpec : ChangeSpec := { name := "fnExactArePairsCrossing", fn := fun _ => fun
  | [d1, d2] => { results := [.lit (.bool true)], args := [d1, d2] }
  | _ => none }
def fnExactArePairsCrossingRow : OpenClaim := { program := "ytkdefglfolmfbaa", sum := "fab7e649805cfbcd9ece0f0d3985d8448ed10a450e94560c393b1a1d63977af5", func := "loop.example/g01234/laws.FnExactArePairsCrossing", spec := "fnExactArePairsCrossing", unfollowed := true, recurses := true, apart := false }
def FnExactArePairsCrossingSaid : Prop := fnExactArePairsCrossingRow.holds Try.pinned (OpenSpec.ofChange fnExactArePairsCrossingSpec)

/-- ITS FALSE NEIGHBOUR: 'it returns false'. Refute it at one input. -/
def fnExactArePairsCrossingWrong : ChangeSpec := { name := "fnExactArePairsCrossing", fn := fun _ => fun
  | [d1, d2] => { results := [.lit (.bool false)], args := [d1, d2] }
  | _ => none }
def FnExactArePairsCrossingWrongFalsely : Prop := fnExactArePairsCrossingRow.holds Try.pinned (OpenSpec.ofChange fnExactArePairsCrossingWrong)

/-- 'laws.FnExactLeafLength': WHATEVER THE INPUT: true; the input reads as it did. -/
def fnExactLeafLengthSpec : ChangeSpec := { name := "fnExactLeafLength", fn := fun _ => fun
  | [d] => { results := [.lit (.bool true)], args := [d] }
  | _ => none }
def fnExactLeafLengthRow : OpenClaim := { program := "ytkdefglfolmfbaa", sum := "fab7e649805cfbcd9ece0f0d3985d8448ed10a450e94560c393b1a1d63977af5", func := "loop.example/g01234/laws.FnExactLeafLength", spec := "fnExactLeafLength", unfollowed := true, recurses := true, apart := false }
def FnExactLeafLengthSaid : Prop := fnExactLeafLengthRow.holds Try.pinned (OpenSpec.ofChange fnExactLeafLengthSpec)

/-- ITS FALSE NEIGHBOUR: 'it returns false'. Refute it at one input. -/
def fnExactLeafLengthWrong : ChangeSpec := { name := "fnExactLeafLength", fn := fun _ => fun
  | [d] => { results := [.lit (.bool false)], args := [d] }
  | _ => none }
def FnExactLeafLengthWrongFalsely : Prop := fnExactLeafLengthRow.holds Try.pinned (OpenSpec.ofChange fnExactLeafLengthWrong)

/-- 'laws.FnExactImageOfLeaf': WHATEVER THE INPUT: true; the input reads as it did. -/
def fnExactImageOfLeafSpec : ChangeSpec := { name := "fnExactImageOfLeaf", fn := fun _ => fun
  | [d] => { results := [.lit (.bool true)], args := [d] }
  | _ => none }
def fnExactImageOfLeafRow : OpenClaim := { program := "ytkdefglfolmfbaa", sum := "fab7e649805cfbcd9ece0f0d3985d8448ed10a450e94560c393b1a1d63977af5", func := "loop.example/g01234/laws.FnExactImageOfLeaf", spec := "fnExactImageOfLeaf", unfollowed := true, recurses := true, apart := false }
def FnExactImageOfLeafSaid : Prop := fnExactImageOfLeafRow.holds Try.pinned (OpenSpec.ofChange fnExactImageOfLeafSpec)

/-- ITS FALSE NEIGHBOUR: 'it returns false'. Refute it at one input. -/
def fnExactImageOfLeafWrong : ChangeSpec := { name := "fnExactImageOfLeaf", fn := fun _ => fun
  | [d] => { results := [.lit (.bool false)], args := [d] }
  | _ => none }
def FnExactImageOfLeafWrongFalsely : Prop := fnExactImageOfLeafRow.holds Try.pinned (OpenSpec.ofChange fnExactImageOfLeafWrong)

/-- 'laws.FnExactPeriodsOf': WHATEVER THE INPUT: true; the input reads as it did. -/
def fnExactPeriodsOfSpec : ChangeSpec := { name := "fnExactPeriodsOf", fn := fun _ => fun
  | [d] => { results := [.lit (.bool true)], args := [d] }
  | _ => none }
def fnExactPeriodsOfRow : OpenClaim := { program := "ytkdefglfolmfbaa", sum := "fab7e649805cfbcd9ece0f0d3985d8448ed10a450e94560c393b1a1d63977af5", func := "loop.example/g01234/laws.FnExactPeriodsOf", spec := "fnExactPeriodsOf", apart := false }
def FnExactPeriodsOfSaid : Prop := fnExactPeriodsOfRow.holds Try.pinned (OpenSpec.ofChange fnExactPeriodsOfSpec)

/-- ITS FALSE NEIGHBOUR: 'it returns false'. Refute it at one input. -/
def fnExactPeriodsOfWrong : ChangeSpec := { name := "fnExactPeriodsOf", fn := fun _ => fun
  | [d] => { results := [.lit (.bool false)], args := [d] }
  | _ => none }
def FnExactPeriodsOfWrongFalsely : Prop := fnExactPeriodsOfRow.holds Try.pinned (OpenSpec.ofChange fnExactPeriodsOfWrong)

/-- 'laws.FnExactOrbitOf': WHATEVER THE INPUT: true; the input reads as it did. -/
def fnExactOrbitOfSpec : ChangeSpec := { name := "fnExactOrbitOf", fn := fun _ => fun
  | [d] => { results := [.lit (.bool true)], args := [d] }
  | _ => none }
def fnExactOrbitOfRow : OpenClaim := { program := "ytkdefglfolmfbaa", sum := "fab7e649805cfbcd9ece0f0d3985d8448ed10a450e94560c393b1a1d63977af5", func := "loop.example/g01234/laws.FnExactOrbitOf", spec := "fnExactOrbitOf", apart := false }
def FnExactOrbitOfSaid : Prop := fnExactOrbitOfRow.holds Try.pinned (OpenSpec.ofChange fnExactOrbitOfSpec)

/-- ITS FALSE NEIGHBOUR: 'it returns false'. Refute it at one input. -/
def fnExactOrbitOfWrong : ChangeSpec := { name := "fnExactOrbitOf", fn := fun _ => fun
  | [d] => { results := [.lit (.bool false)], args := [d] }
  | _ => none }
def FnExactOrbitOfWrongFalsely : Prop := fnExactOrbitOfRow.holds Try.pinned (OpenSpec.ofChange fnExactOrbitOfWrong)

/-- 'laws.FnExactAnglesOfPeriod': WHATEVER THE INPUT: true; the input reads as it did. -/
def fnExactAnglesOfPeriodSpec : ChangeSpec := { name := "fnExactAnglesOfPeriod", fn := fun _ => fun
  | [d] => { results := [.lit (.bool true)], args := [d] }
  | _ => none }
def fnExactAnglesOfPeriodRow : OpenClaim := { program := "ytkdefglfolmfbaa", sum := "fab7e649805cfbcd9ece0f0d3985d8448ed10a450e94560c393b1a1d63977af5", func := "loop.example/g01234/laws.FnExactAnglesOfPeriod", spec := "fnExactAnglesOfPeriod", apart := false }
def FnExactAnglesOfPeriodSaid : Prop := fnExactAnglesOfPeriodRow.holds Try.pinned (OpenSpec.ofChange fnExactAnglesOfPeriodSpec)

/-- ITS FALSE NEIGHBOUR: 'it returns false'. Refute it at one input. -/
def fnExactAnglesOfPeriodWrong : ChangeSpec := { name := "fnExactAnglesOfPeriod", fn := fun _ => fun
  | [d] => { results := [.lit (.bool false)], args := [d] }
  | _ => none }
def FnExactAnglesOfPeriodWrongFalsely : Prop := fnExactAnglesOfPeriodRow.holds Try.pinned (OpenSpec.ofChange fnExactAnglesOfPeriodWrong)

/-- 'laws.FnExactPairsOfOrbit': WHATEVER THE INPUT: true; the input reads as it did. -/
def fnExactPairsOfOrbitSpec : ChangeSpec := { name := "fnExactPairsOfOrbit", fn := fun _ => fun
  | [d] => { results := [.lit (.bool true)], args := [d] }
  | _ => none }
def fnExactPairsOfOrbitRow : OpenClaim := { program := "ytkdefglfolmfbaa", sum := "fab7e649805cfbcd9ece0f0d3985d8448ed10a450e94560c393b1a1d63977af5", func := "loop.example/g01234/laws.FnExactPairsOfOrbit", spec := "fnExactPairsOfOrbit", apart := false }
def FnExactPairsOfOrbitSaid : Prop := fnExactPairsOfOrbitRow.holds Try.pinned (OpenSpec.ofChange fnExactPairsOfOrbitSpec)

/-- ITS FALSE NEIGHBOUR: 'it returns false'. Refute it at one input. -/
def fnExactPairsOfOrbitWrong : ChangeSpec := { name := "fnExactPairsOfOrbit", fn := fun _ => fun
  | [d] => { results := [.lit (.bool false)], args := [d] }
  | _ => none }
def FnExactPairsOfOrbitWrongFalsely : Prop := fnExactPairsOfOrbitRow.holds Try.pinned (OpenSpec.ofChange fnExactPairsOfOrbitWrong)

/- THE SECOND FORM. 'bulk': how many values and letters a reading holds, each counted each time it is reached (what is shared counts as often as it is met; a slice's spare places count too). A statement '..UptoSaid' is the law's where the arguments, and the package variables that the reading takes, are together of bulk at most 1048576: NARROWER than '..Said'. Prove '..Said' where nothing that the law and all that it calls make is longer than what came in: it says more and counts as full. Else prove '..UptoSaid'. A law counts once. -/
mutual
def uptoBulk {H : Type} : DataW H → Nat
  | .lit (.string bytes) => bytes.length + 1
  | .lit _ => 1
  | .nil => 1
  | .ptr d => uptoBulk d + 1
  | .slice elems spare => uptoBulkAll elems + uptoBulkAll spare + 1
  | .agg parts => uptoBulkAll parts + 1
  | .iface _ d => uptoBulk d + 1
  | .map entries => uptoBulkEntries entries + 1
  | .held _ => 1
def uptoBulkAll {H : Type} : List (DataW H) → Nat
  | [] => 0
  | d :: r => uptoBulk d + uptoBulkAll r
def uptoBulkEntries {H : Type} : List (Lit × DataW H) → Nat
  | [] => 0
  | x :: r => uptoBulkEntry x + uptoBulkEntries r
def uptoBulkEntry {H : Type} : Lit × DataW H → Nat
  | (.string bytes, d) => bytes.length + uptoBulk d + 1
  | (_, d) => uptoBulk d + 1
 end
def uptoSmall : (H : Type) → List (DataW H) → Bool := fun _ ds => decide (uptoBulkAll ds ≤ 1048576)
def OpenSpec.upto (s : _root_.Go.ChangeSpec) : _root_.Go.OpenSpec := { _root_.Go.OpenSpec.ofChange s with cond := some uptoSmall }

/-- 'laws.FnExactHalvesOf', WHERE WHAT IT READS IS OF BULK AT MOST 1048576: true; the input reads as it did. -/
def fnExactHalvesOfUptoRow : OpenClaim := { program := "ytkdefglfolmfbaa", sum := "fab7e649805cfbcd9ece0f0d3985d8448ed10a450e94560c393b1a1d63977af5", func := "loop.example/g01234/laws.FnExactHalvesOf", spec := "fnExactHalvesOf", unfollowed := true, recurses := true, apart := false, narrowed := true }
def FnExactHalvesOfUptoSaid : Prop := fnExactHalvesOfUptoRow.holds Try.pinned (OpenSpec.upto fnExactHalvesOfSpec)

/-- 'laws.FnExactDoLeavesCross', WHERE WHAT IT READS IS OF BULK AT MOST 1048576: true; the input reads as it did. -/
def fnExactDoLeavesCrossUptoRow : OpenClaim := { program := "ytkdefglfolmfbaa", sum := "fab7e649805cfbcd9ece0f0d3985d8448ed10a450e94560c393b1a1d63977af5", func := "loop.example/g01234/laws.FnExactDoLeavesCross", spec := "fnExactDoLeavesCross", unfollowed := true, recurses := true, apart := false, narrowed := true }
def FnExactDoLeavesCrossUptoSaid : Prop := fnExactDoLeavesCrossUptoRow.holds Try.pinned (OpenSpec.upto fnExactDoLeavesCrossSpec)

/-- 'laws.FnExactDistanceOf', WHERE WHAT IT READS IS OF BULK AT MOST 1048576: true; the input reads as it did. -/
def fnExactDistanceOfUptoRow : OpenClaim := { program := "ytkdefglfolmfbaa", sum := "fab7e649805cfbcd9ece0f0d3985d8448ed10a450e94560c393b1a1d63977af5", func := "loop.example/g01234/laws.FnExactDistanceOf", spec := "fnExactDistanceOf", unfollowed := true, recurses := true, apart := false, narrowed := true }
def FnExactDistanceOfUptoSaid : Prop := fnExactDistanceOfUptoRow.holds Try.pinned (OpenSpec.upto fnExactDistanceOfSpec)

/-- 'laws.FnExactArePairsCrossing', WHERE WHAT IT READS IS OF BULK AT MOST 1048576: true; the input reads as it did. -/
def fnExactArePairsCrossingUptoRow : OpenClaim := { program := "ytkdefglfolmfbaa", sum := "fab7e649805cfbcd9ece0f0d3985d8448ed10a450e94560c393b1a1d63977af5", func := "loop.example/g01234/laws.FnExactArePairsCrossing", spec := "fnExactArePairsCrossing", unfollowed := true, recurses := true, apart := false, narrowed := true }
def FnExactArePairsCrossingUptoSaid : Prop := fnExactArePairsCrossingUptoRow.holds Try.pinned (OpenSpec.upto fnExactArePairsCrossingSpec)

/-- 'laws.FnExactLeafLength', WHERE WHAT IT READS IS OF BULK AT MOST 1048576: true; the input reads as it did. -/
def fnExactLeafLengthUptoRow : OpenClaim := { program := "ytkdefglfolmfbaa", sum := "fab7e649805cfbcd9ece0f0d3985d8448ed10a450e94560c393b1a1d63977af5", func := "loop.example/g01234/laws.FnExactLeafLength", spec := "fnExactLeafLength", unfollowed := true, recurses := true, apart := false, narrowed := true }
def FnExactLeafLengthUptoSaid : Prop := fnExactLeafLengthUptoRow.holds Try.pinned (OpenSpec.upto fnExactLeafLengthSpec)

/-- 'laws.FnExactImageOfLeaf', WHERE WHAT IT READS IS OF BULK AT MOST 1048576: true; the input reads as it did. -/
def fnExactImageOfLeafUptoRow : OpenClaim := { program := "ytkdefglfolmfbaa", sum := "fab7e649805cfbcd9ece0f0d3985d8448ed10a450e94560c393b1a1d63977af5", func := "loop.example/g01234/laws.FnExactImageOfLeaf", spec := "fnExactImageOfLeaf", unfollowed := true, recurses := true, apart := false, narrowed := true }
def FnExactImageOfLeafUptoSaid : Prop := fnExactImageOfLeafUptoRow.holds Try.pinned (OpenSpec.upto fnExactImageOfLeafSpec)

/-- 'laws.FnExactPeriodsOf', WHERE WHAT IT READS IS OF BULK AT MOST 1048576: true; the input reads as it did. -/
def fnExactPeriodsOfUptoRow : OpenClaim := { program := "ytkdefglfolmfbaa", sum := "fab7e649805cfbcd9ece0f0d3985d8448ed10a450e94560c393b1a1d63977af5", func := "loop.example/g01234/laws.FnExactPeriodsOf", spec := "fnExactPeriodsOf", apart := false, narrowed := true }
def FnExactPeriodsOfUptoSaid : Prop := fnExactPeriodsOfUptoRow.holds Try.pinned (OpenSpec.upto fnExactPeriodsOfSpec)

/-- 'laws.FnExactOrbitOf', WHERE WHAT IT READS IS OF BULK AT MOST 1048576: true; the input reads as it did. -/
def fnExactOrbitOfUptoRow : OpenClaim := { program := "ytkdefglfolmfbaa", sum := "fab7e649805cfbcd9ece0f0d3985d8448ed10a450e94560c393b1a1d63977af5", func := "loop.example/g01234/laws.FnExactOrbitOf", spec := "fnExactOrbitOf", apart := false, narrowed := true }
def FnExactOrbitOfUptoSaid : Prop := fnExactOrbitOfUptoRow.holds Try.pinned (OpenSpec.upto fnExactOrbitOfSpec)

/-- 'laws.FnExactAnglesOfPeriod', WHERE WHAT IT READS IS OF BULK AT MOST 1048576: true; the input reads as it did. -/
def fnExactAnglesOfPeriodUptoRow : OpenClaim := { program := "ytkdefglfolmfbaa", sum := "fab7e649805cfbcd9ece0f0d3985d8448ed10a450e94560c393b1a1d63977af5", func := "loop.example/g01234/laws.FnExactAnglesOfPeriod", spec := "fnExactAnglesOfPeriod", apart := false, narrowed := true }
def FnExactAnglesOfPeriodUptoSaid : Prop := fnExactAnglesOfPeriodUptoRow.holds Try.pinned (OpenSpec.upto fnExactAnglesOfPeriodSpec)

/-- 'laws.FnExactPairsOfOrbit', WHERE WHAT IT READS IS OF BULK AT MOST 1048576: true; the input reads as it did. -/
def fnExactPairsOfOrbitUptoRow : OpenClaim := { program := "ytkdefglfolmfbaa", sum := "fab7e649805cfbcd9ece0f0d3985d8448ed10a450e94560c393b1a1d63977af5", func := "loop.example/g01234/laws.FnExactPairsOfOrbit", spec := "fnExactPairsOfOrbit", apart := false, narrowed := true }
def FnExactPairsOfOrbitUptoSaid : Prop := fnExactPairsOfOrbitUptoRow.holds Try.pinned (OpenSpec.upto fnExactPairsOfOrbitSpec)

end Rows
end Go.Proofs.Ytkdefglfolmfbaa
