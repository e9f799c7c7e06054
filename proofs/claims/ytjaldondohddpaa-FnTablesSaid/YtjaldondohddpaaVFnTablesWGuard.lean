/- Of the proof of laws.FnTables: words of the print, cut to what the other texts name. No condition beyond what its theorems say. -/
import Derived.Test.YtjaldondohddpaaVFnTablesWWords
namespace Go.Proofs.YtjaldondohddpaaW.PrintWords
open Go.RowKit
section
variable {P : Program} {ops : Array Oper} {rest : List Oper} {o : Oper} {a : Act} {Q : Exit → Act → World → Prop} {W : World}
end
end Go.Proofs.YtjaldondohddpaaW.PrintWords
