/-
  DERIVED. GIVEN WITH THE SEED: THE CARDS: each row of YthljodbopmcgeaaDoorRows.lean that lists a variable, with what it lists TIED to the program's text (the seventh form; the later family's looks); each row that meets fmt, with fmt's text TOLD by the authors' own Lean function (tested against real Go, not proved from fmt's source: count such statements apart). THE CARD IS WHAT COUNTS. Prove the row's statement (the work); the ties are given (YthljodbopmcgeaaDoorTie.lean); close each card by the builder's one call (the guide's Derived/Test/ToyasCard.lean, 'card_holds'). Laid BY PROGRAM, IN A SANDBOX (cutbox-door.mjs). By AI agents, Wed Nov 11 2026. No macro, syntax, notation, axiom, sorry.
-/
import Derived.Test.YthljodbopmcgeaaDoorRows
import GoSem.ClaimSeven
namespace Go.Proofs.YthljodbopmcgeaaDoor
namespace Rows

/-- THE TIED CARD OF 'laws.FnExactReplaceStar'. -/
def fnExactReplaceStarCard : Claim7 := { stood := { row := fnExactReplaceStarRow, standIns := [], harness := (true, "cd90337f76489d4fce9cab025748f472d85e6bbd3681db088e1072205145fe5b"), looks := false }, kinds := [], alts := [], laidByText := true, laidKinds := [.data, .pinned], laidTests := true, laidLooks := .later }
def FnExactReplaceStarCardSaid : Prop := Claim7.holds Tryd.pinned (.plain (OpenSpec.ofChange fnExactReplaceStarSpec)) fnExactReplaceStarCard

/-- THE SECOND FORM's CARD OF 'laws.FnExactReplaceStar'. -/
def fnExactReplaceStarUptoCard : Claim7 := { stood := { row := fnExactReplaceStarUptoRow, standIns := [], harness := (true, "cd90337f76489d4fce9cab025748f472d85e6bbd3681db088e1072205145fe5b"), looks := false }, kinds := [], alts := [], laidByText := true, laidKinds := [.data, .pinned], laidTests := true, laidLooks := .later }
def FnExactReplaceStarUptoCardSaid : Prop := Claim7.holds Tryd.pinned (.plain (OpenSpec.upto fnExactReplaceStarSpec)) fnExactReplaceStarUptoCard
end Rows
end Go.Proofs.YthljodbopmcgeaaDoor
