/- Of the proof of laws.FnPorts: words of the print, cut to what the other texts name. No condition beyond what its theorems say. -/
import Derived.Test.YtaoipjdmmamkmaaVFnPortsWWords
namespace Go.Proofs.YtaoipjdmmamkmaaW.PrintWords
open Go.RowKit
section
variable {P : Program} {ops : Array Oper} {rest : List Oper} {o : Oper} {a : Act} {Q : Exit → Act → World → Prop} {W : World}
end
end Go.Proofs.YtaoipjdmmamkmaaW.PrintWords
