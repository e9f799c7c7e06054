/- Of the proof of laws.FnTables: words of the print, cut to what the other texts name. No condition beyond what its theorems say. -/
import Derived.Test.YtjaldondohddpaaVFnTablesWInv
import Derived.Test.YtjaldondohddpaaVFnTablesWFootNe
namespace Go.Proofs.YtjaldondohddpaaW.PrintWords
open Go.RowKit
end Go.Proofs.YtjaldondohddpaaW.PrintWords
namespace Go.Proofs.YtjaldondohddpaaW.PrintLast
section
variable {ops : Array Oper} {a : Act} {o og : Oper} {g : Nat} {t : Tmp} {u : Bool}
end
end Go.Proofs.YtjaldondohddpaaW.PrintLast
