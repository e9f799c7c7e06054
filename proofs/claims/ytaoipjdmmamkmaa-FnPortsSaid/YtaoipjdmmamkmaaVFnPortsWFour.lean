/- Of the proof of laws.FnPorts: words of the print, cut to what the other texts name. No condition beyond what its theorems say. -/
import Derived.Test.YtaoipjdmmamkmaaVFnPortsWTab
namespace Go.Proofs.YtaoipjdmmamkmaaW.PrintLast
section
variable {P : Program} {ops : Array Oper} {Q : Exit → Act → World → Prop} {md : Region.Mode} {S : World → Prop} {ds : List Nat} {T : Bool × List (List Nat × List Nat)}
end
end Go.Proofs.YtaoipjdmmamkmaaW.PrintLast
