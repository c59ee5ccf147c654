/- Joined texts: WInvWords -/
import Derived.Test.YtccinmopfchjlaaPkFnAddresses3
import Derived.Test.YtccinmopfchjlaaPkFnAddresses7
section
namespace Go.Proofs.YtccinmopfchjlaaW.PrintWords
open Go.RowKit
end Go.Proofs.YtccinmopfchjlaaW.PrintWords
namespace Go.Proofs.YtccinmopfchjlaaW.PrintLast
section
variable {ops : Array Oper} {a : Act} {o og : Oper} {g : Nat} {t : Tmp} {u : Bool}
end
end Go.Proofs.YtccinmopfchjlaaW.PrintLast
end
