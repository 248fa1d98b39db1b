/-
The program's NewLine and the reference's NewLine answer alike, in memory of their own (the printed law answers true). No condition.
-/
import Derived.Test.YtgpgkedbanmheaaMFnExactNewLinex4
namespace Go.Proofs.Ytgpgkedbanmheaa.Pure
open Go.RowKit Go.Proofs.Ytgpgkedbanmheaa.MFnExactNewLine Go.Proofs.YtgpgkedbanmheaaW.PrintWords Go.Proofs.YtgpgkedbanmheaaW.PrintLast Go.Proofs.YtgpgkedbanmheaaW.PrintMore 
set_option linter.unusedVariables false
set_option linter.unusedSimpArgs false

theorem FnExactNewLine : laws_FnExactNewLine.Pure := by
  refine ⟨200, ?_⟩
  decide +kernel

end Go.Proofs.Ytgpgkedbanmheaa.Pure
