/- The pure statement of FnExactNewDesk: both give the same desk. -/
import Derived.Test.YtgjloehbbmlagaaAngCore
import Derived.Test.YtgjloehbbmlagaaQx11
import Derived.Test.YtgjloehbbmlagaaQx7
import Derived.Test.YtgjloehbbmlagaaQx8
import Derived.Test.YtgjloehbbmlagaaQx10
import Derived.Test.YtgjloehbbmlagaaQx9
import Derived.Test.YtgjloehbbmlagaaQx6
namespace Go.Proofs.Ytgjloehbbmlagaa.Q
open Go.RowKit Go.Proofs.YtgjloehbbmlagaaW.PrintWords Go.Proofs.YtgjloehbbmlagaaW.PrintLast Go.Proofs.YtgjloehbbmlagaaW.Ext Go.Proofs.Ytgjloehbbmlagaa.Ang
set_option linter.unusedVariables false

theorem pure_FnExactNewDesk  : laws_FnExactNewDesk.f  = some true := by
  simp [laws_FnExactNewDesk.f, spec_NewDesk.f, spec_l11New.f, impl_NewDesk.f, laws_eqDesk.f, laws_eqAngle.f, laws_eqSequence.f]
end Go.Proofs.Ytgjloehbbmlagaa.Q
