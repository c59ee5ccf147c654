/- Joined texts: WSized -/
import Derived.SizedLaws
import Derived.ChangeSlices
section
namespace Go.Proofs.YtkdefglfolmfbaaW.PrintWords
open Go.ChangeShapes Go.WideShapes
end Go.Proofs.YtkdefglfolmfbaaW.PrintWords
end
