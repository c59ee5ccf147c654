/-
  No cell of these rows narrows 'for every input' (looked for: loops, veiled, ifaces, maps, wideKeys, modest, calm, conditions, laid).
  DERIVED. THE GIVEN ROWS OF THIS SEAT. 10 by the template 'for every input the law returns true; each argument reads behind the call as it read before'; 0 by the template 'total and deterministic' (their statements: YtdnookndjbjllaaTotals.lean).
  GIVEN WITH THE SEED: the statements are not yours to turn. If you find one false, say at which input.
  Laid BY PROGRAM, IN A SANDBOX (cutbox-rows.mjs): the forced cells as the released guide's own fill.sh prints them over the translation 3cb35f0fa2c6f23a… (all of the seat's roots in one cut). By AI agents, Wed Nov 11 2026. No macro, syntax, notation, axiom, sorry.
-/
import Derived.Test.YtdnookndjbjllaaChecked
import GoSem.Claim
import GoSem.ClaimJoined
import GoSem.ClaimMapViews
import Derived.JoinedTies
import Derived.KernelRfl
namespace Go.Proofs.Ytdnookndjbjllaa
/- THE CELL 'sum', in the pinned program and in every row, IS THE sha256 OF THE DUMP (.gsa) THAT YtdnookndjbjllaaProg.lean LOADS. Nothing in Lean hashes anything: it is a label: what it is worth is what the hold of that sum in a sandbox is worth. -/
noncomputable def Try.pinned : Pinned := { name := "ytdnookndjbjllaa", sum := "3cb35f0fa2c6f23a1715aaa74f02d86653564891cdbdcd7f9ffdef3baee49cea", checked := Try.checked }
namespace Rows
def none {H : Type} : Left H := { results := [], args := [] }

/-- 'laws.FnExactSequenceOf': WHATEVER THE INPUT: true; the input reads as it did. -/
def fnExactSequenceOfSpec : ChangeSpec := { name := "fnExactSequenceOf", fn := fun _ => fun
  | [d1, d2] => { results := [.lit (.bool true)], args := [d1, d2] }
  | _ => none }
def fnExactSequenceOfRow : OpenClaim := { program := "ytdnookndjbjllaa", sum := "3cb35f0fa2c6f23a1715aaa74f02d86653564891cdbdcd7f9ffdef3baee49cea", func := "loop.example/g01234/laws.FnExactSequenceOf", spec := "fnExactSequenceOf", inPlace := ["internal/abi.NoEscape", "internal/bytealg.MakeNoZero"], unfollowed := true, recurses := true, apart := false }
def FnExactSequenceOfSaid : Prop := fnExactSequenceOfRow.holds Try.pinned (OpenSpec.ofChange fnExactSequenceOfSpec)

/-- ITS FALSE NEIGHBOUR: 'it returns false'. Refute it at one input. -/
def fnExactSequenceOfWrong : ChangeSpec := { name := "fnExactSequenceOf", fn := fun _ => fun
  | [d1, d2] => { results := [.lit (.bool false)], args := [d1, d2] }
  | _ => none }
def FnExactSequenceOfWrongFalsely : Prop := fnExactSequenceOfRow.holds Try.pinned (OpenSpec.ofChange fnExactSequenceOfWrong)

/-- 'laws.FnExactIsSequence': WHATEVER THE INPUT: true; the input reads as it did. -/
def fnExactIsSequenceSpec : ChangeSpec := { name := "fnExactIsSequence", fn := fun _ => fun
  | [d] => { results := [.lit (.bool true)], args := [d] }
  | _ => none }
def fnExactIsSequenceRow : OpenClaim := { program := "ytdnookndjbjllaa", sum := "3cb35f0fa2c6f23a1715aaa74f02d86653564891cdbdcd7f9ffdef3baee49cea", func := "loop.example/g01234/laws.FnExactIsSequence", spec := "fnExactIsSequence", inPlace := ["internal/abi.NoEscape", "internal/bytealg.MakeNoZero"], unfollowed := true, recurses := true, apart := false }
def FnExactIsSequenceSaid : Prop := fnExactIsSequenceRow.holds Try.pinned (OpenSpec.ofChange fnExactIsSequenceSpec)

/-- ITS FALSE NEIGHBOUR: 'it returns false'. Refute it at one input. -/
def fnExactIsSequenceWrong : ChangeSpec := { name := "fnExactIsSequence", fn := fun _ => fun
  | [d] => { results := [.lit (.bool false)], args := [d] }
  | _ => none }
def FnExactIsSequenceWrongFalsely : Prop := fnExactIsSequenceRow.holds Try.pinned (OpenSpec.ofChange fnExactIsSequenceWrong)

/-- 'laws.FnExactLetterAt': WHATEVER THE INPUT: true; the input reads as it did. -/
def fnExactLetterAtSpec : ChangeSpec := { name := "fnExactLetterAt", fn := fun _ => fun
  | [d1, d2] => { results := [.lit (.bool true)], args := [d1, d2] }
  | _ => none }
def fnExactLetterAtRow : OpenClaim := { program := "ytdnookndjbjllaa", sum := "3cb35f0fa2c6f23a1715aaa74f02d86653564891cdbdcd7f9ffdef3baee49cea", func := "loop.example/g01234/laws.FnExactLetterAt", spec := "fnExactLetterAt", inPlace := ["internal/abi.NoEscape", "internal/bytealg.MakeNoZero"], unfollowed := true, recurses := true, apart := false }
def FnExactLetterAtSaid : Prop := fnExactLetterAtRow.holds Try.pinned (OpenSpec.ofChange fnExactLetterAtSpec)

/-- ITS FALSE NEIGHBOUR: 'it returns false'. Refute it at one input. -/
def fnExactLetterAtWrong : ChangeSpec := { name := "fnExactLetterAt", fn := fun _ => fun
  | [d1, d2] => { results := [.lit (.bool false)], args := [d1, d2] }
  | _ => none }
def FnExactLetterAtWrongFalsely : Prop := fnExactLetterAtRow.holds Try.pinned (OpenSpec.ofChange fnExactLetterAtWrong)

/-- 'laws.FnExactShiftSequence': WHATEVER THE INPUT: true; the input reads as it did. -/
def fnExactShiftSequenceSpec : ChangeSpec := { name := "fnExactShiftSequence", fn := fun _ => fun
  | [d] => { results := [.lit (.bool true)], args := [d] }
  | _ => none }
def fnExactShiftSequenceRow : OpenClaim := { program := "ytdnookndjbjllaa", sum := "3cb35f0fa2c6f23a1715aaa74f02d86653564891cdbdcd7f9ffdef3baee49cea", func := "loop.example/g01234/laws.FnExactShiftSequence", spec := "fnExactShiftSequence", inPlace := ["internal/abi.NoEscape", "internal/bytealg.MakeNoZero"], unfollowed := true, recurses := true, apart := false }
def FnExactShiftSequenceSaid : Prop := fnExactShiftSequenceRow.holds Try.pinned (OpenSpec.ofChange fnExactShiftSequenceSpec)

/-- ITS FALSE NEIGHBOUR: 'it returns false'. Refute it at one input. -/
def fnExactShiftSequenceWrong : ChangeSpec := { name := "fnExactShiftSequence", fn := fun _ => fun
  | [d] => { results := [.lit (.bool false)], args := [d] }
  | _ => none }
def FnExactShiftSequenceWrongFalsely : Prop := fnExactShiftSequenceRow.holds Try.pinned (OpenSpec.ofChange fnExactShiftSequenceWrong)

/-- 'laws.FnExactIsStarPeriodic': WHATEVER THE INPUT: true; the input reads as it did. -/
def fnExactIsStarPeriodicSpec : ChangeSpec := { name := "fnExactIsStarPeriodic", fn := fun _ => fun
  | [d] => { results := [.lit (.bool true)], args := [d] }
  | _ => none }
def fnExactIsStarPeriodicRow : OpenClaim := { program := "ytdnookndjbjllaa", sum := "3cb35f0fa2c6f23a1715aaa74f02d86653564891cdbdcd7f9ffdef3baee49cea", func := "loop.example/g01234/laws.FnExactIsStarPeriodic", spec := "fnExactIsStarPeriodic", inPlace := ["internal/abi.NoEscape", "internal/bytealg.MakeNoZero", "internal/bytealg.IndexByteString"], unfollowed := true, recurses := true, apart := false }
def FnExactIsStarPeriodicSaid : Prop := fnExactIsStarPeriodicRow.holds Try.pinned (OpenSpec.ofChange fnExactIsStarPeriodicSpec)

/-- ITS FALSE NEIGHBOUR: 'it returns false'. Refute it at one input. -/
def fnExactIsStarPeriodicWrong : ChangeSpec := { name := "fnExactIsStarPeriodic", fn := fun _ => fun
  | [d] => { results := [.lit (.bool false)], args := [d] }
  | _ => none }
def FnExactIsStarPeriodicWrongFalsely : Prop := fnExactIsStarPeriodicRow.holds Try.pinned (OpenSpec.ofChange fnExactIsStarPeriodicWrong)

/-- 'laws.FnExactDifferenceOf': WHATEVER THE INPUT: true; the input reads as it did. -/
def fnExactDifferenceOfSpec : ChangeSpec := { name := "fnExactDifferenceOf", fn := fun _ => fun
  | [d1, d2] => { results := [.lit (.bool true)], args := [d1, d2] }
  | _ => none }
def fnExactDifferenceOfRow : OpenClaim := { program := "ytdnookndjbjllaa", sum := "3cb35f0fa2c6f23a1715aaa74f02d86653564891cdbdcd7f9ffdef3baee49cea", func := "loop.example/g01234/laws.FnExactDifferenceOf", spec := "fnExactDifferenceOf", inPlace := ["internal/abi.NoEscape", "internal/bytealg.MakeNoZero"], unfollowed := true, recurses := true, apart := false }
def FnExactDifferenceOfSaid : Prop := fnExactDifferenceOfRow.holds Try.pinned (OpenSpec.ofChange fnExactDifferenceOfSpec)

/-- ITS FALSE NEIGHBOUR: 'it returns false'. Refute it at one input. -/
def fnExactDifferenceOfWrong : ChangeSpec := { name := "fnExactDifferenceOf", fn := fun _ => fun
  | [d1, d2] => { results := [.lit (.bool false)], args := [d1, d2] }
  | _ => none }
def FnExactDifferenceOfWrongFalsely : Prop := fnExactDifferenceOfRow.holds Try.pinned (OpenSpec.ofChange fnExactDifferenceOfWrong)

/-- 'laws.FnExactRhoOf': WHATEVER THE INPUT: true; the input reads as it did. -/
def fnExactRhoOfSpec : ChangeSpec := { name := "fnExactRhoOf", fn := fun _ => fun
  | [d1, d2] => { results := [.lit (.bool true)], args := [d1, d2] }
  | _ => none }
def fnExactRhoOfRow : OpenClaim := { program := "ytdnookndjbjllaa", sum := "3cb35f0fa2c6f23a1715aaa74f02d86653564891cdbdcd7f9ffdef3baee49cea", func := "loop.example/g01234/laws.FnExactRhoOf", spec := "fnExactRhoOf", inPlace := ["internal/abi.NoEscape", "internal/bytealg.MakeNoZero"], unfollowed := true, recurses := true, apart := false }
def FnExactRhoOfSaid : Prop := fnExactRhoOfRow.holds Try.pinned (OpenSpec.ofChange fnExactRhoOfSpec)

/-- ITS FALSE NEIGHBOUR: 'it returns false'. Refute it at one input. -/
def fnExactRhoOfWrong : ChangeSpec := { name := "fnExactRhoOf", fn := fun _ => fun
  | [d1, d2] => { results := [.lit (.bool false)], args := [d1, d2] }
  | _ => none }
def FnExactRhoOfWrongFalsely : Prop := fnExactRhoOfRow.holds Try.pinned (OpenSpec.ofChange fnExactRhoOfWrong)

/-- 'laws.FnExactInternalAddress': WHATEVER THE INPUT: true; the input reads as it did. -/
def fnExactInternalAddressSpec : ChangeSpec := { name := "fnExactInternalAddress", fn := fun _ => fun
  | [d] => { results := [.lit (.bool true)], args := [d] }
  | _ => none }
def fnExactInternalAddressRow : OpenClaim := { program := "ytdnookndjbjllaa", sum := "3cb35f0fa2c6f23a1715aaa74f02d86653564891cdbdcd7f9ffdef3baee49cea", func := "loop.example/g01234/laws.FnExactInternalAddress", spec := "fnExactInternalAddress", inPlace := ["internal/abi.NoEscape", "internal/bytealg.MakeNoZero"], unfollowed := true, recurses := true, apart := false }
def FnExactInternalAddressSaid : Prop := fnExactInternalAddressRow.holds Try.pinned (OpenSpec.ofChange fnExactInternalAddressSpec)

/-- ITS FALSE NEIGHBOUR: 'it returns false'. Refute it at one input. -/
def fnExactInternalAddressWrong : ChangeSpec := { name := "fnExactInternalAddress", fn := fun _ => fun
  | [d] => { results := [.lit (.bool false)], args := [d] }
  | _ => none }
def FnExactInternalAddressWrongFalsely : Prop := fnExactInternalAddressRow.holds Try.pinned (OpenSpec.ofChange fnExactInternalAddressWrong)

/-- 'laws.FnExactFailsFor': WHATEVER THE INPUT: true; the input reads as it did. -/
def fnExactFailsForSpec : ChangeSpec := { name := "fnExactFailsFor", fn := fun _ => fun
  | [d1, d2] => { results := [.lit (.bool true)], args := [d1, d2] }
  | _ => none }
def fnExactFailsForRow : OpenClaim := { program := "ytdnookndjbjllaa", sum := "3cb35f0fa2c6f23a1715aaa74f02d86653564891cdbdcd7f9ffdef3baee49cea", func := "loop.example/g01234/laws.FnExactFailsFor", spec := "fnExactFailsFor", inPlace := ["internal/abi.NoEscape", "internal/bytealg.MakeNoZero", "internal/bytealg.IndexByteString"], unfollowed := true, recurses := true, apart := false }
def FnExactFailsForSaid : Prop := fnExactFailsForRow.holds Try.pinned (OpenSpec.ofChange fnExactFailsForSpec)

/-- ITS FALSE NEIGHBOUR: 'it returns false'. Refute it at one input. -/
def fnExactFailsForWrong : ChangeSpec := { name := "fnExactFailsFor", fn := fun _ => fun
  | [d1, d2] => { results := [.lit (.bool false)], args := [d1, d2] }
  | _ => none }
def FnExactFailsForWrongFalsely : Prop := fnExactFailsForRow.holds Try.pinned (OpenSpec.ofChange fnExactFailsForWrong)

/-- 'laws.FnExactIsAdmissible': WHATEVER THE INPUT: true; the input reads as it did. -/
def fnExactIsAdmissibleSpec : ChangeSpec := { name := "fnExactIsAdmissible", fn := fun _ => fun
  | [d] => { results := [.lit (.bool true)], args := [d] }
  | _ => none }
def fnExactIsAdmissibleRow : OpenClaim := { program := "ytdnookndjbjllaa", sum := "3cb35f0fa2c6f23a1715aaa74f02d86653564891cdbdcd7f9ffdef3baee49cea", func := "loop.example/g01234/laws.FnExactIsAdmissible", spec := "fnExactIsAdmissible", inPlace := ["internal/abi.NoEscape", "internal/bytealg.MakeNoZero", "internal/bytealg.IndexByteString"], unfollowed := true, recurses := true, apart := false }
def FnExactIsAdmissibleSaid : Prop := fnExactIsAdmissibleRow.holds Try.pinned (OpenSpec.ofChange fnExactIsAdmissibleSpec)

/-- ITS FALSE NEIGHBOUR: 'it returns false'. Refute it at one input. -/
def fnExactIsAdmissibleWrong : ChangeSpec := { name := "fnExactIsAdmissible", fn := fun _ => fun
  | [d] => { results := [.lit (.bool false)], args := [d] }
  | _ => none }
def FnExactIsAdmissibleWrongFalsely : Prop := fnExactIsAdmissibleRow.holds Try.pinned (OpenSpec.ofChange fnExactIsAdmissibleWrong)

/- THE SECOND FORM. 'bulk': how many values and letters a reading holds, each counted each time it is reached (what is shared counts as often as it is met; a slice's spare places count too). A statement '..UptoSaid' is the law's where the arguments, and the package variables that the reading takes, are together of bulk at most 1048576: NARROWER than '..Said'. Prove '..Said' where nothing that the law and all that it calls make is longer than what came in: it says more and counts as full. Else prove '..UptoSaid'. A law counts once. -/
mutual
def uptoBulk {H : Type} : DataW H → Nat
  | .lit (.string bytes) => bytes.length + 1
  | .lit _ => 1
  | .nil => 1
  | .ptr d => uptoBulk d + 1
  | .slice elems spare => uptoBulkAll elems + uptoBulkAll spare + 1
  | .agg parts => uptoBulkAll parts + 1
  | .iface _ d => uptoBulk d + 1
  | .map entries => uptoBulkEntries entries + 1
  | .held _ => 1
def uptoBulkAll {H : Type} : List (DataW H) → Nat
  | [] => 0
  | d :: r => uptoBulk d + uptoBulkAll r
def uptoBulkEntries {H : Type} : List (Lit × DataW H) → Nat
  | [] => 0
  | x :: r => uptoBulkEntry x + uptoBulkEntries r
def uptoBulkEntry {H : Type} : Lit × DataW H → Nat
  | (.string bytes, d) => bytes.length + uptoBulk d + 1
  | (_, d) => uptoBulk d + 1
 end
def uptoSmall : (H : Type) → List (DataW H) → Bool := fun _ ds => decide (uptoBulkAll ds ≤ 1048576)
def OpenSpec.upto (s : _root_.Go.ChangeSpec) : _root_.Go.OpenSpec := { _root_.Go.OpenSpec.ofChange s with cond := some uptoSmall }

/-- 'laws.FnExactSequenceOf', WHERE WHAT IT READS IS OF BULK AT MOST 1048576: true; the input reads as it did. -/
def fnExactSequenceOfUptoRow : OpenClaim := { program := "ytdnookndjbjllaa", sum := "3cb35f0fa2c6f23a1715aaa74f02d86653564891cdbdcd7f9ffdef3baee49cea", func := "loop.example/g01234/laws.FnExactSequenceOf", spec := "fnExactSequenceOf", inPlace := ["internal/abi.NoEscape", "internal/bytealg.MakeNoZero"], unfollowed := true, recurses := true, apart := false, narrowed := true }
def FnExactSequenceOfUptoSaid : Prop := fnExactSequenceOfUptoRow.holds Try.pinned (OpenSpec.upto fnExactSequenceOfSpec)

/-- 'laws.FnExactIsSequence', WHERE WHAT IT READS IS OF BULK AT MOST 1048576: true; the input reads as it did. -/
def fnExactIsSequenceUptoRow : OpenClaim := { program := "ytdnookndjbjllaa", sum := "3cb35f0fa2c6f23a1715aaa74f02d86653564891cdbdcd7f9ffdef3baee49cea", func := "loop.example/g01234/laws.FnExactIsSequence", spec := "fnExactIsSequence", inPlace := ["internal/abi.NoEscape", "internal/bytealg.MakeNoZero"], unfollowed := true, recurses := true, apart := false, narrowed := true }
def FnExactIsSequenceUptoSaid : Prop := fnExactIsSequenceUptoRow.holds Try.pinned (OpenSpec.upto fnExactIsSequenceSpec)

/-- 'laws.FnExactLetterAt', WHERE WHAT IT READS IS OF BULK AT MOST 1048576: true; the input reads as it did. -/
def fnExactLetterAtUptoRow : OpenClaim := { program := "ytdnookndjbjllaa", sum := "3cb35f0fa2c6f23a1715aaa74f02d86653564891cdbdcd7f9ffdef3baee49cea", func := "loop.example/g01234/laws.FnExactLetterAt", spec := "fnExactLetterAt", inPlace := ["internal/abi.NoEscape", "internal/bytealg.MakeNoZero"], unfollowed := true, recurses := true, apart := false, narrowed := true }
def FnExactLetterAtUptoSaid : Prop := fnExactLetterAtUptoRow.holds Try.pinned (OpenSpec.upto fnExactLetterAtSpec)

/-- 'laws.FnExactShiftSequence', WHERE WHAT IT READS IS OF BULK AT MOST 1048576: true; the input reads as it did. -/
def fnExactShiftSequenceUptoRow : OpenClaim := { program := "ytdnookndjbjllaa", sum := "3cb35f0fa2c6f23a1715aaa74f02d86653564891cdbdcd7f9ffdef3baee49cea", func := "loop.example/g01234/laws.FnExactShiftSequence", spec := "fnExactShiftSequence", inPlace := ["internal/abi.NoEscape", "internal/bytealg.MakeNoZero"], unfollowed := true, recurses := true, apart := false, narrowed := true }
def FnExactShiftSequenceUptoSaid : Prop := fnExactShiftSequenceUptoRow.holds Try.pinned (OpenSpec.upto fnExactShiftSequenceSpec)

/-- 'laws.FnExactIsStarPeriodic', WHERE WHAT IT READS IS OF BULK AT MOST 1048576: true; the input reads as it did. -/
def fnExactIsStarPeriodicUptoRow : OpenClaim := { program := "ytdnookndjbjllaa", sum := "3cb35f0fa2c6f23a1715aaa74f02d86653564891cdbdcd7f9ffdef3baee49cea", func := "loop.example/g01234/laws.FnExactIsStarPeriodic", spec := "fnExactIsStarPeriodic", inPlace := ["internal/abi.NoEscape", "internal/bytealg.MakeNoZero", "internal/bytealg.IndexByteString"], unfollowed := true, recurses := true, apart := false, narrowed := true }
def FnExactIsStarPeriodicUptoSaid : Prop := fnExactIsStarPeriodicUptoRow.holds Try.pinned (OpenSpec.upto fnExactIsStarPeriodicSpec)

/-- 'laws.FnExactDifferenceOf', WHERE WHAT IT READS IS OF BULK AT MOST 1048576: true; the input reads as it did. -/
def fnExactDifferenceOfUptoRow : OpenClaim := { program := "ytdnookndjbjllaa", sum := "3cb35f0fa2c6f23a1715aaa74f02d86653564891cdbdcd7f9ffdef3baee49cea", func := "loop.example/g01234/laws.FnExactDifferenceOf", spec := "fnExactDifferenceOf", inPlace := ["internal/abi.NoEscape", "internal/bytealg.MakeNoZero"], unfollowed := true, recurses := true, apart := false, narrowed := true }
def FnExactDifferenceOfUptoSaid : Prop := fnExactDifferenceOfUptoRow.holds Try.pinned (OpenSpec.upto fnExactDifferenceOfSpec)

/-- 'laws.FnExactRhoOf', WHERE WHAT IT READS IS OF BULK AT MOST 1048576: true; the input reads as it did. -/
def fnExactRhoOfUptoRow : OpenClaim := { program := "ytdnookndjbjllaa", sum := "3cb35f0fa2c6f23a1715aaa74f02d86653564891cdbdcd7f9ffdef3baee49cea", func := "loop.example/g01234/laws.FnExactRhoOf", spec := "fnExactRhoOf", inPlace := ["internal/abi.NoEscape", "internal/bytealg.MakeNoZero"], unfollowed := true, recurses := true, apart := false, narrowed := true }
def FnExactRhoOfUptoSaid : Prop := fnExactRhoOfUptoRow.holds Try.pinned (OpenSpec.upto fnExactRhoOfSpec)

/-- 'laws.FnExactInternalAddress', WHERE WHAT IT READS IS OF BULK AT MOST 1048576: true; the input reads as it did. -/
def fnExactInternalAddressUptoRow : OpenClaim := { program := "ytdnookndjbjllaa", sum := "3cb35f0fa2c6f23a1715aaa74f02d86653564891cdbdcd7f9ffdef3baee49cea", func := "loop.example/g01234/laws.FnExactInternalAddress", spec := "fnExactInternalAddress", inPlace := ["internal/abi.NoEscape", "internal/bytealg.MakeNoZero"], unfollowed := true, recurses := true, apart := false, narrowed := true }
def FnExactInternalAddressUptoSaid : Prop := fnExactInternalAddressUptoRow.holds Try.pinned (OpenSpec.upto fnExactInternalAddressSpec)

/-- 'laws.FnExactFailsFor', WHERE WHAT IT READS IS OF BULK AT MOST 1048576: true; the input reads as it did. -/
def fnExactFailsForUptoRow : OpenClaim := { program := "ytdnookndjbjllaa", sum := "3cb35f0fa2c6f23a1715aaa74f02d86653564891cdbdcd7f9ffdef3baee49cea", func := "loop.example/g01234/laws.FnExactFailsFor", spec := "fnExactFailsFor", inPlace := ["internal/abi.NoEscape", "internal/bytealg.MakeNoZero", "internal/bytealg.IndexByteString"], unfollowed := true, recurses := true, apart := false, narrowed := true }
def FnExactFailsForUptoSaid : Prop := fnExactFailsForUptoRow.holds Try.pinned (OpenSpec.upto fnExactFailsForSpec)

/-- 'laws.FnExactIsAdmissible', WHERE WHAT IT READS IS OF BULK AT MOST 1048576: true; the input reads as it did. -/
def fnExactIsAdmissibleUptoRow : OpenClaim := { program := "ytdnookndjbjllaa", sum := "3cb35f0fa2c6f23a1715aaa74f02d86653564891cdbdcd7f9ffdef3baee49cea", func := "loop.example/g01234/laws.FnExactIsAdmissible", spec := "fnExactIsAdmissible", inPlace := ["internal/abi.NoEscape", "internal/bytealg.MakeNoZero", "internal/bytealg.IndexByteString"], unfollowed := true, recurses := true, apart := false, narrowed := true }
def FnExactIsAdmissibleUptoSaid : Prop := fnExactIsAdmissibleUptoRow.holds Try.pinned (OpenSpec.upto fnExactIsAdmissibleSpec)

end Rows
end Go.Proofs.Ytdnookndjbjllaa
