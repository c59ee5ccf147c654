/-
  No cell of these rows narrows 'for every input' (looked for: loops, veiled, ifaces, maps, wideKeys, modest, calm, conditions, laid).
  DERIVED. THE GIVEN ROWS OF THIS SEAT. 5 by the template 'for every input the law returns true; each argument reads behind the call as it read before'; 0 by the template 'total and deterministic' (their statements: YtngffoffjiofbaaTotals.lean).
  GIVEN WITH THE SEED: the statements are not yours to turn. If you find one false, say at which input.
  Laid BY PROGRAM, IN A SANDBOX (cutbox-rows.mjs): the forced cells as the released guide's own fill.sh prints them over the translation edc256e99ed0c841… (all of the seat's roots in one cut). By AI agents, Wed Nov 11 2026. No macro, syntax, notation, axiom, sorry.
-/
import Derived.Test.YtngffoffjiofbaaChecked
import GoSem.Claim
import GoSem.ClaimJoined
import GoSem.ClaimMapViews
import Derived.JoinedTies
import Derived.KernelRfl
namespace Go.Proofs.Ytngffoffjiofbaa
/- THE CELL 'sum', in the pinned program and in every row, IS THE sha256 OF THE DUMP (.gsa) THAT YtngffoffjiofbaaProg.lean LOADS. Nothing in Lean hashes anything: it is a label: what it is worth is what the hold of that sum in a sandbox is worth. -/
noncomputable def Try.pinned : Pinned := { name := "ytngffoffjiofbaa", sum := "edc256e99ed0c841d31039228e568cfb4dc4d882ededb97e642e949a700e56d2", checked := Try.checked }
namespace Rows
def none {H : Type} : Left H := { results := [], args := [] }

/-- 'laws.FnExactIsLamination': WHATEVER THE INPUT: true; the input reads as it did. -/
def fnExactIsLaminationSpec : ChangeSpec := { name := "fnExactIsLamination", fn := fun _ => fun
  | [d] => { results := [.lit (.bool true)], args := [d] }
  | _ => none }
def fnExactIsLaminationRow : OpenClaim := { program := "ytngffoffjiofbaa", sum := "edc256e99ed0c841d31039228e568cfb4dc4d882ededb97e642e949a700e56d2", func := "loop.example/g01234/laws.FnExactIsLamination", spec := "fnExactIsLamination", unfollowed := true, recurses := true, apart := false }
def FnExactIsLaminationSaid : Prop := fnExactIsLaminationRow.holds Try.pinned (OpenSpec.ofChange fnExactIsLaminationSpec)

/-- ITS FALSE NEIGHBOUR: 'it returns false'. Refute it at one input. -/
def fnExactIsLaminationWrong : ChangeSpec := { name := "fnExactIsLamination", fn := fun _ => fun
  | [d] => { results := [.lit (.bool false)], args := [d] }
  | _ => none }
def FnExactIsLaminationWrongFalsely : Prop := fnExactIsLaminationRow.holds Try.pinned (OpenSpec.ofChange fnExactIsLaminationWrong)

/-- 'laws.FnExactRotationOfSet': WHATEVER THE INPUT: true; the input reads as it did. -/
def fnExactRotationOfSetSpec : ChangeSpec := { name := "fnExactRotationOfSet", fn := fun _ => fun
  | [d] => { results := [.lit (.bool true)], args := [d] }
  | _ => none }
def fnExactRotationOfSetRow : OpenClaim := { program := "ytngffoffjiofbaa", sum := "edc256e99ed0c841d31039228e568cfb4dc4d882ededb97e642e949a700e56d2", func := "loop.example/g01234/laws.FnExactRotationOfSet", spec := "fnExactRotationOfSet", unfollowed := true, recurses := true, apart := false }
def FnExactRotationOfSetSaid : Prop := fnExactRotationOfSetRow.holds Try.pinned (OpenSpec.ofChange fnExactRotationOfSetSpec)

/-- ITS FALSE NEIGHBOUR: 'it returns false'. Refute it at one input. -/
def fnExactRotationOfSetWrong : ChangeSpec := { name := "fnExactRotationOfSet", fn := fun _ => fun
  | [d] => { results := [.lit (.bool false)], args := [d] }
  | _ => none }
def FnExactRotationOfSetWrongFalsely : Prop := fnExactRotationOfSetRow.holds Try.pinned (OpenSpec.ofChange fnExactRotationOfSetWrong)

/-- 'laws.FnExactCharacteristicOf': WHATEVER THE INPUT: true; the input reads as it did. -/
def fnExactCharacteristicOfSpec : ChangeSpec := { name := "fnExactCharacteristicOf", fn := fun _ => fun
  | [d] => { results := [.lit (.bool true)], args := [d] }
  | _ => none }
def fnExactCharacteristicOfRow : OpenClaim := { program := "ytngffoffjiofbaa", sum := "edc256e99ed0c841d31039228e568cfb4dc4d882ededb97e642e949a700e56d2", func := "loop.example/g01234/laws.FnExactCharacteristicOf", spec := "fnExactCharacteristicOf", unfollowed := true, recurses := true, apart := false }
def FnExactCharacteristicOfSaid : Prop := fnExactCharacteristicOfRow.holds Try.pinned (OpenSpec.ofChange fnExactCharacteristicOfSpec)

/-- ITS FALSE NEIGHBOUR: 'it returns false'. Refute it at one input. -/
def fnExactCharacteristicOfWrong : ChangeSpec := { name := "fnExactCharacteristicOf", fn := fun _ => fun
  | [d] => { results := [.lit (.bool false)], args := [d] }
  | _ => none }
def FnExactCharacteristicOfWrongFalsely : Prop := fnExactCharacteristicOfRow.holds Try.pinned (OpenSpec.ofChange fnExactCharacteristicOfWrong)

/-- 'laws.FnExactSeparatedPairs': WHATEVER THE INPUT: true; the input reads as it did. -/
def fnExactSeparatedPairsSpec : ChangeSpec := { name := "fnExactSeparatedPairs", fn := fun _ => fun
  | [d] => { results := [.lit (.bool true)], args := [d] }
  | _ => none }
def fnExactSeparatedPairsRow : OpenClaim := { program := "ytngffoffjiofbaa", sum := "edc256e99ed0c841d31039228e568cfb4dc4d882ededb97e642e949a700e56d2", func := "loop.example/g01234/laws.FnExactSeparatedPairs", spec := "fnExactSeparatedPairs", unfollowed := true, recurses := true, apart := false }
def FnExactSeparatedPairsSaid : Prop := fnExactSeparatedPairsRow.holds Try.pinned (OpenSpec.ofChange fnExactSeparatedPairsSpec)

/-- ITS FALSE NEIGHBOUR: 'it returns false'. Refute it at one input. -/
def fnExactSeparatedPairsWrong : ChangeSpec := { name := "fnExactSeparatedPairs", fn := fun _ => fun
  | [d] => { results := [.lit (.bool false)], args := [d] }
  | _ => none }
def FnExactSeparatedPairsWrongFalsely : Prop := fnExactSeparatedPairsRow.holds Try.pinned (OpenSpec.ofChange fnExactSeparatedPairsWrong)

/-- 'laws.FnExactPairsOfOrbit': WHATEVER THE INPUT: true; the input reads as it did. -/
def fnExactPairsOfOrbitSpec : ChangeSpec := { name := "fnExactPairsOfOrbit", fn := fun _ => fun
  | [d] => { results := [.lit (.bool true)], args := [d] }
  | _ => none }
def fnExactPairsOfOrbitRow : OpenClaim := { program := "ytngffoffjiofbaa", sum := "edc256e99ed0c841d31039228e568cfb4dc4d882ededb97e642e949a700e56d2", func := "loop.example/g01234/laws.FnExactPairsOfOrbit", spec := "fnExactPairsOfOrbit", apart := false }
def FnExactPairsOfOrbitSaid : Prop := fnExactPairsOfOrbitRow.holds Try.pinned (OpenSpec.ofChange fnExactPairsOfOrbitSpec)

/-- ITS FALSE NEIGHBOUR: 'it returns false'. Refute it at one input. -/
def fnExactPairsOfOrbitWrong : ChangeSpec := { name := "fnExactPairsOfOrbit", fn := fun _ => fun
  | [d] => { results := [.lit (.bool false)], args := [d] }
  | _ => none }
def FnExactPairsOfOrbitWrongFalsely : Prop := fnExactPairsOfOrbitRow.holds Try.pinned (OpenSpec.ofChange fnExactPairsOfOrbitWrong)

/- THE SECOND FORM. 'bulk': how many values and letters a reading holds, each counted each time it is reached (what is shared counts as often as it is met; a slice's spare places count too). A statement '..UptoSaid' is the law's where the arguments, and the package variables that the reading takes, are together of bulk at most 1048576: NARROWER than '..Said'. Prove '..Said' where nothing that the law and all that it calls make is longer than what came in: it says more and counts as full. Else prove '..UptoSaid'. A law counts once. -/
mutual
def uptoBulk {H : Type} : DataW H → Nat
  | .lit (.string bytes) => bytes.length + 1
  | .lit _ => 1
  | .nil => 1
  | .ptr d => uptoBulk d + 1
  | .slice elems spare => uptoBulkAll elems + uptoBulkAll spare + 1
  | .agg parts => uptoBulkAll parts + 1
  | .iface _ d => uptoBulk d + 1
  | .map entries => uptoBulkEntries entries + 1
  | .held _ => 1
def uptoBulkAll {H : Type} : List (DataW H) → Nat
  | [] => 0
  | d :: r => uptoBulk d + uptoBulkAll r
def uptoBulkEntries {H : Type} : List (Lit × DataW H) → Nat
  | [] => 0
  | x :: r => uptoBulkEntry x + uptoBulkEntries r
def uptoBulkEntry {H : Type} : Lit × DataW H → Nat
  | (.string bytes, d) => bytes.length + uptoBulk d + 1
  | (_, d) => uptoBulk d + 1
 end
def uptoSmall : (H : Type) → List (DataW H) → Bool := fun _ ds => decide (uptoBulkAll ds ≤ 1048576)
def OpenSpec.upto (s : _root_.Go.ChangeSpec) : _root_.Go.OpenSpec := { _root_.Go.OpenSpec.ofChange s with cond := some uptoSmall }

/-- 'laws.FnExactIsLamination', WHERE WHAT IT READS IS OF BULK AT MOST 1048576: true; the input reads as it did. -/
def fnExactIsLaminationUptoRow : OpenClaim := { program := "ytngffoffjiofbaa", sum := "edc256e99ed0c841d31039228e568cfb4dc4d882ededb97e642e949a700e56d2", func := "loop.example/g01234/laws.FnExactIsLamination", spec := "fnExactIsLamination", unfollowed := true, recurses := true, apart := false, narrowed := true }
def FnExactIsLaminationUptoSaid : Prop := fnExactIsLaminationUptoRow.holds Try.pinned (OpenSpec.upto fnExactIsLaminationSpec)

/-- 'laws.FnExactRotationOfSet', WHERE WHAT IT READS IS OF BULK AT MOST 1048576: true; the input reads as it did. -/
def fnExactRotationOfSetUptoRow : OpenClaim := { program := "ytngffoffjiofbaa", sum := "edc256e99ed0c841d31039228e568cfb4dc4d882ededb97e642e949a700e56d2", func := "loop.example/g01234/laws.FnExactRotationOfSet", spec := "fnExactRotationOfSet", unfollowed := true, recurses := true, apart := false, narrowed := true }
def FnExactRotationOfSetUptoSaid : Prop := fnExactRotationOfSetUptoRow.holds Try.pinned (OpenSpec.upto fnExactRotationOfSetSpec)

/-- 'laws.FnExactCharacteristicOf', WHERE WHAT IT READS IS OF BULK AT MOST 1048576: true; the input reads as it did. -/
def fnExactCharacteristicOfUptoRow : OpenClaim := { program := "ytngffoffjiofbaa", sum := "edc256e99ed0c841d31039228e568cfb4dc4d882ededb97e642e949a700e56d2", func := "loop.example/g01234/laws.FnExactCharacteristicOf", spec := "fnExactCharacteristicOf", unfollowed := true, recurses := true, apart := false, narrowed := true }
def FnExactCharacteristicOfUptoSaid : Prop := fnExactCharacteristicOfUptoRow.holds Try.pinned (OpenSpec.upto fnExactCharacteristicOfSpec)

/-- 'laws.FnExactSeparatedPairs', WHERE WHAT IT READS IS OF BULK AT MOST 1048576: true; the input reads as it did. -/
def fnExactSeparatedPairsUptoRow : OpenClaim := { program := "ytngffoffjiofbaa", sum := "edc256e99ed0c841d31039228e568cfb4dc4d882ededb97e642e949a700e56d2", func := "loop.example/g01234/laws.FnExactSeparatedPairs", spec := "fnExactSeparatedPairs", unfollowed := true, recurses := true, apart := false, narrowed := true }
def FnExactSeparatedPairsUptoSaid : Prop := fnExactSeparatedPairsUptoRow.holds Try.pinned (OpenSpec.upto fnExactSeparatedPairsSpec)

/-- 'laws.FnExactPairsOfOrbit', WHERE WHAT IT READS IS OF BULK AT MOST 1048576: true; the input reads as it did. -/
def fnExactPairsOfOrbitUptoRow : OpenClaim := { program := "ytngffoffjiofbaa", sum := "edc256e99ed0c841d31039228e568cfb4dc4d882ededb97e642e949a700e56d2", func := "loop.example/g01234/laws.FnExactPairsOfOrbit", spec := "fnExactPairsOfOrbit", apart := false, narrowed := true }
def FnExactPairsOfOrbitUptoSaid : Prop := fnExactPairsOfOrbitUptoRow.holds Try.pinned (OpenSpec.upto fnExactPairsOfOrbitSpec)

end Rows
end Go.Proofs.Ytngffoffjiofbaa
