/- Of the proof of laws.FnPorts: a part. No condition beyond what its theorems say. -/
import Derived.Test.YtaoipjdmmamkmaaVFnPortsWTight
import Derived.Test.YtaoipjdmmamkmaaProg
import Derived.WalkSpells
import Derived.Below
import Derived.Deep.Draws
import Derived.Deep.AppendLies
import Derived.Maps.AppendAt
import Derived.OwnWalk
import Derived.Laws.BytesArg
import Derived.Laws.MakeOwn
import Derived.Laws.OwnMore
import Derived.Deep.OwnRows
import Derived.Tactics
import Derived.Lib.ConvBytes
import Derived.Laws.Slices
import Derived.WalkKit
import Derived.KernelRfl
import Derived.RowKit3
import Derived.Deep.LoopGhost
import Derived.Deep.QuietTactic
import Derived.BigQuiet
import Derived.WideLaws
import Derived.Deep.DeepCutAuto
import Derived.Deep.CutBlock
import Derived.Deep.RegionHeld3
import Derived.Laws.Rows
import Derived.Lib.AppendStr
import Derived.ArgAppend
import Derived.Laws.IdiomCopy
import Derived.OrdersHeld
import Derived.Laws.BitsLemmas
import Derived.RowKit
import Derived.Test.YtaoipjdmmamkmaaVFnPortsWWords
import Derived.Test.YtaoipjdmmamkmaaVFnPortsWLast
import Derived.Test.YtaoipjdmmamkmaaVFnPortsWTab
import Derived.Test.YtaoipjdmmamkmaaVFnPortsWFour
import Derived.Test.YtaoipjdmmamkmaaVFnPortsWQPut
import Derived.Test.YtaoipjdmmamkmaaVFnPortsWApart
import Derived.Test.YtaoipjdmmamkmaaVFnPortsWArr
import Derived.Test.YtaoipjdmmamkmaaVFnPortsWZeros
import Derived.Test.YtaoipjdmmamkmaaVFnPortsWFoot
import Derived.Test.YtaoipjdmmamkmaaVFnPortsWKept
import Derived.Test.YtaoipjdmmamkmaaVFnPortsWShare
import Derived.Test.YtaoipjdmmamkmaaVFnPortsWN
import Derived.Test.YtaoipjdmmamkmaaVFnPortsWFootNe
import Derived.Test.YtaoipjdmmamkmaaVFnPortsWAt
import Derived.Test.YtaoipjdmmamkmaaVFnPortsWEqStruct
import Derived.Test.YtaoipjdmmamkmaaVFnPortsWRepsOne
import Derived.Test.YtaoipjdmmamkmaaVFnPortsWInv
import Derived.Test.YtaoipjdmmamkmaaVFnPortsWInvWords
import Derived.Test.YtaoipjdmmamkmaaVFnPortsWGuard
import Derived.Test.YtaoipjdmmamkmaaVFnPortsWNEv
import Derived.Test.YtaoipjdmmamkmaaVFnPortsWMore
namespace Go.Proofs.Ytaoipjdmmamkmaa.PFnPorts
open Go.RowKit Go.Proofs.YtaoipjdmmamkmaaW.PrintWords Go.Proofs.YtaoipjdmmamkmaaW.PrintLast Go.Proofs.YtaoipjdmmamkmaaW.PrintMore
attribute [local go_sem] max2_int min2_int max_two min_two max_three min_three max_four min_four   -- for this text's walks alone
set_option linter.unusedVariables false
set_option linter.unusedSimpArgs false



def errW : Option Int → Value
 | none => .nilIface
 | some c => .iface 0 (.int .i64 c)
theorem errW_none : errW none = .nilIface := rfl
theorem errW_some (c : Int) : errW (some c) = .iface 0 (.int .i64 c) := rfl

theorem info3 : (Try.prog.info? 3).map (fun i => (i.zero, i.size, i.bytes)) = some (some (.int .i64 0), 1, 8) := by kernel_rfl
-- the values' own types

end Go.Proofs.Ytaoipjdmmamkmaa.PFnPorts
