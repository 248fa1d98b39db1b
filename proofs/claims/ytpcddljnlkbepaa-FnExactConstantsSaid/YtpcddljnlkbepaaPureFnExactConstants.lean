/-
The given law FnExactConstants, as a plain statement, holds: its printed function answers true. No condition.
-/
import Derived.Test.YtpcddljnlkbepaaPFnExactConstantsx1
namespace Go.Proofs.Ytpcddljnlkbepaa.Pure
open Go.RowKit Go.Proofs.Ytpcddljnlkbepaa.PFnExactConstants Go.Proofs.YtpcddljnlkbepaaW.PrintWords Go.Proofs.YtpcddljnlkbepaaW.PrintLast Go.Proofs.YtpcddljnlkbepaaW.PrintMore 
set_option linter.unusedVariables false
set_option linter.unusedSimpArgs false

theorem FnExactConstants : laws_FnExactConstants.Pure := rfl

end Go.Proofs.Ytpcddljnlkbepaa.Pure
