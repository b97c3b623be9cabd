/- The pure statement of FnExactConstants, over numbers and lists: it is true of every argument; no condition but the bounds that the statement itself names. -/
import Derived.Test.YtpmapmgjdecicaaPFnExactConstantsx1
import Derived.Test.YtpmapmgjdecicaaBase
set_option linter.unusedVariables false
set_option linter.unusedSimpArgs false
namespace Go.Proofs.Ytpmapmgjdecicaa.Pure
open Go.RowKit Go.Proofs.Ytpmapmgjdecicaa.PFnExactConstants Go.Proofs.YtpmapmgjdecicaaW.PrintWords Go.Proofs.YtpmapmgjdecicaaW.PrintLast Go.Proofs.YtpmapmgjdecicaaW.PrintMore Go.Proofs.Ytpmapmgjdecicaa.Base

theorem FnExactConstants : laws_FnExactConstants.Pure := rfl

end Go.Proofs.Ytpmapmgjdecicaa.Pure
