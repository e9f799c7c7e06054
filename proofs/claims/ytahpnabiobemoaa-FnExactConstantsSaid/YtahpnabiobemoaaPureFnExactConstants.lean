/- The statement of laws.FnExactConstants over numbers and lists alone: at every input it answers true. No condition but that the numbers are those of their kinds and that no slice is longer than a Go slice can be. -/
import Derived.Test.YtahpnabiobemoaaPFnExactConstantsx1
import Derived.Test.YtahpnabiobemoaaBase
set_option linter.unusedVariables false
set_option linter.unusedSimpArgs false
namespace Go.Proofs.Ytahpnabiobemoaa.Pure
open Go.RowKit Go.Proofs.Ytahpnabiobemoaa.PFnExactConstants Go.Proofs.Ytahpnabiobemoaa.Base Go.Proofs.YtahpnabiobemoaaW.PrintWords Go.Proofs.YtahpnabiobemoaaW.PrintLast Go.Proofs.YtahpnabiobemoaaW.PrintMore
theorem FnExactConstants : laws_FnExactConstants.Pure := by
  first
    | rfl
    | (unfold laws_FnExactConstants.Pure; rfl)
    | (intros; rfl)
    | simp [laws_FnExactConstants.Pure, laws_FnExactConstants.f]
end Go.Proofs.Ytahpnabiobemoaa.Pure
