/- Of the proof of laws.FnRootPorts: words of the print, cut to what the other texts name. No condition beyond what its theorems say. -/
import Derived.Test.YthmijfekdeagpaaVFnRootPortsWInv
import Derived.Test.YthmijfekdeagpaaVFnRootPortsWFootNe
namespace Go.Proofs.YthmijfekdeagpaaW.PrintWords
open Go.RowKit
end Go.Proofs.YthmijfekdeagpaaW.PrintWords
namespace Go.Proofs.YthmijfekdeagpaaW.PrintLast
section
variable {ops : Array Oper} {a : Act} {o og : Oper} {g : Nat} {t : Tmp} {u : Bool}
end
end Go.Proofs.YthmijfekdeagpaaW.PrintLast
