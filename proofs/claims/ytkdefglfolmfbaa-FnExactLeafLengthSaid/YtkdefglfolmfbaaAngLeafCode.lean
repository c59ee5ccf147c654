/- All of a list are leaves: the printed function's plain value. -/
import Derived.Test.YtkdefglfolmfbaaAngLeaves
import Derived.Test.YtkdefglfolmfbaaQx22
namespace Go.Proofs.Ytkdefglfolmfbaa.Q
open Go.RowKit Go.Proofs.YtkdefglfolmfbaaW.PrintWords Go.Proofs.YtkdefglfolmfbaaW.PrintLast Go.Proofs.YtkdefglfolmfbaaW.Ext Go.Proofs.Ytkdefglfolmfbaa.Ang
set_option linter.unusedVariables false

def allL (l : List S37) : Bool := l.all fun x => isL x.f0.f0 x.f0.f1 x.f1.f0 x.f1.f1
theorem ev_leavesCode (l : List S37) : Ev (fun k => impl_leavesCode.f k l) (if allL l = true then 0 else 1) := by
  unfold impl_leavesCode.f
  refine Ev.bind (a := allL l) ?_ (Ev.now _)
  induction l with
  | nil => exact Ev.now _
  | cons x xs ih =>
    unfold allM
    refine Ev.bind (ev_impl_IsLeaf _ _ _ _) ?_
    unfold allL
    rw [List.all_cons]
    cases isL x.f0.f0 x.f0.f1 x.f1.f0 x.f1.f1 with
    | true => simpa [allL] using ih
    | false => simpa using Ev.now false
end Go.Proofs.Ytkdefglfolmfbaa.Q
