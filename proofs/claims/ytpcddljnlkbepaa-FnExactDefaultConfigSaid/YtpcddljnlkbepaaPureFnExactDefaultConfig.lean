/-
The program's DefaultConfig and the reference's DefaultConfig answer alike (the printed law answers true). No condition.
-/
import Derived.Test.YtpcddljnlkbepaaPFnExactDefaultConfigx1
namespace Go.Proofs.Ytpcddljnlkbepaa.Pure
open Go.RowKit Go.Proofs.Ytpcddljnlkbepaa.PFnExactDefaultConfig Go.Proofs.YtpcddljnlkbepaaW.PrintWords Go.Proofs.YtpcddljnlkbepaaW.PrintLast Go.Proofs.YtpcddljnlkbepaaW.PrintMore 
set_option linter.unusedVariables false
set_option linter.unusedSimpArgs false

theorem FnExactDefaultConfig : laws_FnExactDefaultConfig.Pure := by
  unfold laws_FnExactDefaultConfig.Pure laws_FnExactDefaultConfig.f spec_DefaultConfig.f impl_DefaultConfig.f
  simp [laws_eqConfig.f]

end Go.Proofs.Ytpcddljnlkbepaa.Pure
