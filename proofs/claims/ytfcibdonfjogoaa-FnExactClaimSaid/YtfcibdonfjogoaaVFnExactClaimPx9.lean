/- Of the proof of laws.FnExactClaim: a part. No condition beyond what its theorems say. -/
import Derived.Test.YtfcibdonfjogoaaVFnExactClaimPx0
namespace Go.Proofs.Ytfcibdonfjogoaa.PFnExactClaim
open Go.RowKit Go.Proofs.YtfcibdonfjogoaaW.PrintWords Go.Proofs.YtfcibdonfjogoaaW.PrintLast Go.Proofs.YtfcibdonfjogoaaW.PrintMore
attribute [local go_sem] max2_int min2_int max_two min_two max_three min_three max_four min_four   -- for this text's walks alone
set_option linter.unusedVariables false
set_option linter.unusedSimpArgs false

-- NOT PRINTED: function 12 (laws_FnExactClaim)

end Go.Proofs.Ytfcibdonfjogoaa.PFnExactClaim
