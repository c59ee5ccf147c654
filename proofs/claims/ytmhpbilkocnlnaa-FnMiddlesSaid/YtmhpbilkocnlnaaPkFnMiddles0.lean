/- Joined texts: WSized -/
import Derived.SizedLaws
import Derived.ChangeSlices
section
namespace Go.Proofs.YtmhpbilkocnlnaaW.PrintWords
open Go.ChangeShapes Go.WideShapes

end Go.Proofs.YtmhpbilkocnlnaaW.PrintWords
end
