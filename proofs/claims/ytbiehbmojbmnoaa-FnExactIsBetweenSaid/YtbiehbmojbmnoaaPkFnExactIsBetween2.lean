/- Joined texts: WInvWords -/
import Derived.Test.YtbiehbmojbmnoaaPkFnExactIsBetween3
import Derived.Test.YtbiehbmojbmnoaaPkFnExactIsBetween7
section
namespace Go.Proofs.YtbiehbmojbmnoaaW.PrintWords
open Go.RowKit
end Go.Proofs.YtbiehbmojbmnoaaW.PrintWords
namespace Go.Proofs.YtbiehbmojbmnoaaW.PrintLast
section
variable {ops : Array Oper} {a : Act} {o og : Oper} {g : Nat} {t : Tmp} {u : Bool}
end
end Go.Proofs.YtbiehbmojbmnoaaW.PrintLast
end
