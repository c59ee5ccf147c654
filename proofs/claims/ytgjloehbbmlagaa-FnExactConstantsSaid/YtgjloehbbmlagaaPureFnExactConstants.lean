/- The pure statement of FnExactConstants: every constant is as told. -/
import Derived.Test.YtgjloehbbmlagaaAngCore
import Derived.Test.YtgjloehbbmlagaaQx3
namespace Go.Proofs.Ytgjloehbbmlagaa.Q
open Go.RowKit Go.Proofs.YtgjloehbbmlagaaW.PrintWords Go.Proofs.YtgjloehbbmlagaaW.PrintLast Go.Proofs.YtgjloehbbmlagaaW.Ext Go.Proofs.Ytgjloehbbmlagaa.Ang
set_option linter.unusedVariables false

theorem pure_FnExactConstants  : laws_FnExactConstants.f  = some true := by
  rfl
end Go.Proofs.Ytgjloehbbmlagaa.Q
