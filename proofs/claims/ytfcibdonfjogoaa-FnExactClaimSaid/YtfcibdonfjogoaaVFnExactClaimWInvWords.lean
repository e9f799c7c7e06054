/- Of the proof of laws.FnExactClaim: words of the print, cut to what the other texts name. No condition beyond what its theorems say. -/
import Derived.Test.YtfcibdonfjogoaaVFnExactClaimWInv
import Derived.Test.YtfcibdonfjogoaaVFnExactClaimWFootNe
namespace Go.Proofs.YtfcibdonfjogoaaW.PrintWords
open Go.RowKit
end Go.Proofs.YtfcibdonfjogoaaW.PrintWords
namespace Go.Proofs.YtfcibdonfjogoaaW.PrintLast
section
variable {ops : Array Oper} {a : Act} {o og : Oper} {g : Nat} {t : Tmp} {u : Bool}
end
end Go.Proofs.YtfcibdonfjogoaaW.PrintLast
