/- Of the proof of laws.FnRootPorts: words of the print, cut to what the other texts name. No condition beyond what its theorems say. -/
import Derived.Test.YthmijfekdeagpaaVFnRootPortsWTab
namespace Go.Proofs.YthmijfekdeagpaaW.PrintLast
section
variable {P : Program} {ops : Array Oper} {Q : Exit → Act → World → Prop} {md : Region.Mode} {S : World → Prop} {ds : List Nat} {T : Bool × List (List Nat × List Nat)}
end
end Go.Proofs.YthmijfekdeagpaaW.PrintLast
