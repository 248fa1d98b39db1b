/-
The program's NewQueue and the reference's NewQueue answer alike, in memory of their own (the printed law answers true). No condition.
-/
import Derived.Test.YtgpgkedbanmheaaPFnExactNewQueuex3
namespace Go.Proofs.Ytgpgkedbanmheaa.Pure
open Go.RowKit Go.Proofs.Ytgpgkedbanmheaa.PFnExactNewQueue Go.Proofs.YtgpgkedbanmheaaW.PrintWords Go.Proofs.YtgpgkedbanmheaaW.PrintLast Go.Proofs.YtgpgkedbanmheaaW.PrintMore 
set_option linter.unusedVariables false
set_option linter.unusedSimpArgs false

theorem FnExactNewQueue : laws_FnExactNewQueue.Pure := by
  refine ⟨200, ?_⟩
  decide +kernel

end Go.Proofs.Ytgpgkedbanmheaa.Pure
