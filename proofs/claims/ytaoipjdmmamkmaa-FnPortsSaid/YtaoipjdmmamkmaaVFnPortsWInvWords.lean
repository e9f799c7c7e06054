/- Of the proof of laws.FnPorts: words of the print, cut to what the other texts name. No condition beyond what its theorems say. -/
import Derived.Test.YtaoipjdmmamkmaaVFnPortsWInv
import Derived.Test.YtaoipjdmmamkmaaVFnPortsWFootNe
namespace Go.Proofs.YtaoipjdmmamkmaaW.PrintWords
open Go.RowKit
end Go.Proofs.YtaoipjdmmamkmaaW.PrintWords
namespace Go.Proofs.YtaoipjdmmamkmaaW.PrintLast
section
variable {ops : Array Oper} {a : Act} {o og : Oper} {g : Nat} {t : Tmp} {u : Bool}
end
end Go.Proofs.YtaoipjdmmamkmaaW.PrintLast
