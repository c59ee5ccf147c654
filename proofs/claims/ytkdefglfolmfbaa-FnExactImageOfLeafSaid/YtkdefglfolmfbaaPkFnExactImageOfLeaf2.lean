/- Joined texts: WInvWords -/
import Derived.Test.YtkdefglfolmfbaaPkFnExactImageOfLeaf3
import Derived.Test.YtkdefglfolmfbaaPkFnExactImageOfLeaf7
section
namespace Go.Proofs.YtkdefglfolmfbaaW.PrintWords
open Go.RowKit
end Go.Proofs.YtkdefglfolmfbaaW.PrintWords
namespace Go.Proofs.YtkdefglfolmfbaaW.PrintLast
section
variable {ops : Array Oper} {a : Act} {o og : Oper} {g : Nat} {t : Tmp} {u : Bool}
end
end Go.Proofs.YtkdefglfolmfbaaW.PrintLast
end
