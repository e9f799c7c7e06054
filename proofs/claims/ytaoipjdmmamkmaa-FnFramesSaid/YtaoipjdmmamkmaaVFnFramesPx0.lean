/- A part of the proof of laws.FnFrames. No condition beyond what its theorems say. -/
import Derived.Test.YtaoipjdmmamkmaaVFnFramesWTight
import Derived.Test.YtaoipjdmmamkmaaProg
import Derived.WalkSpells
import Derived.Below
import Derived.Deep.Draws
import Derived.Deep.AppendLies
import Derived.Maps.AppendAt
import Derived.OwnWalk
import Derived.Laws.BytesArg
import Derived.Laws.MakeOwn
import Derived.Laws.OwnMore
import Derived.Deep.OwnRows
import Derived.Tactics
import Derived.Lib.ConvBytes
import Derived.Laws.Slices
import Derived.WalkKit
import Derived.KernelRfl
import Derived.RowKit3
import Derived.Deep.LoopGhost
import Derived.Deep.QuietTactic
import Derived.BigQuiet
import Derived.WideLaws
import Derived.Deep.DeepCutAuto
import Derived.Deep.CutBlock
import Derived.Deep.RegionHeld3
import Derived.Laws.Rows
import Derived.Lib.AppendStr
import Derived.ArgAppend
import Derived.Laws.IdiomCopy
import Derived.OrdersHeld
import Derived.Laws.BitsLemmas
import Derived.RowKit
import Derived.Test.YtaoipjdmmamkmaaVFnFramesWTab
import Derived.Test.YtaoipjdmmamkmaaVFnFramesWAt
import Derived.Test.YtaoipjdmmamkmaaVFnFramesWWords
import Derived.Laws.StructEq
import Derived.Test.YtaoipjdmmamkmaaVFnFramesWRepsOne
import Derived.Test.YtaoipjdmmamkmaaVFnFramesWInv
import Derived.Test.YtaoipjdmmamkmaaVFnFramesWFootNe
import Derived.Test.YtaoipjdmmamkmaaVFnFramesWGuard
import Derived.Test.YtaoipjdmmamkmaaVFnFramesWMore
namespace Go.Proofs.Ytaoipjdmmamkmaa.PFnFrames
open Go.RowKit Go.Proofs.YtaoipjdmmamkmaaW.PrintWords Go.Proofs.YtaoipjdmmamkmaaW.PrintLast Go.Proofs.YtaoipjdmmamkmaaW.PrintMore
set_option linter.unusedVariables false
set_option linter.unusedSimpArgs false



def errW : Option Int → Value
 | none => .nilIface
 | some c => .iface 0 (.int .i64 c)
theorem errW_none : errW none = .nilIface := rfl
theorem errW_some (c : Int) : errW (some c) = .iface 0 (.int .i64 c) := rfl

theorem info3 : (Try.prog.info? 3).map (fun i => (i.zero, i.size, i.bytes)) = some (some (.int .i64 0), 1, 8) := by kernel_rfl
theorem info5 : (Try.prog.info? 5).map (fun i => (i.zero, i.size, i.bytes)) = some (some (.int .u8 0), 1, 1) := by kernel_rfl
-- the values' own types

end Go.Proofs.Ytaoipjdmmamkmaa.PFnFrames
