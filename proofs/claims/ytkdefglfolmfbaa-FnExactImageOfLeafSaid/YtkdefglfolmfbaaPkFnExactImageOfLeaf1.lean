/- Joined texts: WGuard -/
import Derived.Test.YtkdefglfolmfbaaPkFnExactImageOfLeaf21
section
namespace Go.Proofs.YtkdefglfolmfbaaW.PrintWords
open Go.RowKit
section
variable {P : Program} {ops : Array Oper} {rest : List Oper} {o : Oper} {a : Act} {Q : Exit → Act → World → Prop} {W : World}
end
end Go.Proofs.YtkdefglfolmfbaaW.PrintWords
end
