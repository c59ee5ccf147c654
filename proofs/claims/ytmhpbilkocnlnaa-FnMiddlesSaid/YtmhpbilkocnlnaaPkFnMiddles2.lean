/- Joined texts: WInvWords -/
import Derived.Test.YtmhpbilkocnlnaaPkFnMiddles3
import Derived.Test.YtmhpbilkocnlnaaPkFnMiddles7
section
namespace Go.Proofs.YtmhpbilkocnlnaaW.PrintWords
open Go.RowKit
end Go.Proofs.YtmhpbilkocnlnaaW.PrintWords
namespace Go.Proofs.YtmhpbilkocnlnaaW.PrintLast
section
variable {ops : Array Oper} {a : Act} {o og : Oper} {g : Nat} {t : Tmp} {u : Bool}
end
end Go.Proofs.YtmhpbilkocnlnaaW.PrintLast
end
