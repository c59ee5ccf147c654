/- Joined texts: WSized -/
import Derived.SizedLaws
import Derived.ChangeSlices
section
namespace Go.Proofs.YtbiehbmojbmnoaaW.PrintWords
open Go.ChangeShapes Go.WideShapes

end Go.Proofs.YtbiehbmojbmnoaaW.PrintWords
end
