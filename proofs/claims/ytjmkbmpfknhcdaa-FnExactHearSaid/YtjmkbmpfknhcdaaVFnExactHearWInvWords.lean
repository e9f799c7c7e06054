/- Of the proof of laws.FnExactHear: words of the print, cut to what the other texts name. No condition beyond what its theorems say. -/
import Derived.Test.YtjmkbmpfknhcdaaVFnExactHearWInv
import Derived.Test.YtjmkbmpfknhcdaaVFnExactHearWFootNe
namespace Go.Proofs.YtjmkbmpfknhcdaaW.PrintWords
open Go.RowKit
end Go.Proofs.YtjmkbmpfknhcdaaW.PrintWords
namespace Go.Proofs.YtjmkbmpfknhcdaaW.PrintLast
section
variable {ops : Array Oper} {a : Act} {o og : Oper} {g : Nat} {t : Tmp} {u : Bool}
end
end Go.Proofs.YtjmkbmpfknhcdaaW.PrintLast
