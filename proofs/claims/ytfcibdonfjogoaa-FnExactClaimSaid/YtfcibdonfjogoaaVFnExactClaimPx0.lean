/- Of the proof of laws.FnExactClaim: a part. No condition beyond what its theorems say. -/
import Derived.Test.YtfcibdonfjogoaaProg
import Derived.Below
import Derived.Deep.Draws
import Derived.Deep.AppendLies
import Derived.Maps.AppendAt
import Derived.OwnWalk
import Derived.Laws.BytesArg
import Derived.Laws.MakeOwn
import Derived.Laws.OwnMore
import Derived.Deep.OwnRows
import Derived.Tactics
import Derived.Lib.ConvBytes
import Derived.Laws.Slices
import Derived.WalkKit
import Derived.KernelRfl
import Derived.RowKit3
import Derived.Deep.LoopGhost
import Derived.Deep.QuietTactic
import Derived.BigQuiet
import Derived.WideLaws
import Derived.Deep.DeepCutAuto
import Derived.Deep.CutBlock
import Derived.Deep.RegionHeld3
import Derived.Laws.Rows
import Derived.Lib.AppendStr
import Derived.ArgAppend
import Derived.Laws.IdiomCopy
import Derived.OrdersHeld
import Derived.Laws.BitsLemmas
import Derived.RowKit
import Derived.Test.YtfcibdonfjogoaaVFnExactClaimWWords
import Derived.Test.YtfcibdonfjogoaaVFnExactClaimWLast
import Derived.Test.YtfcibdonfjogoaaVFnExactClaimWTab
import Derived.Test.YtfcibdonfjogoaaVFnExactClaimWFour
import Derived.Test.YtfcibdonfjogoaaVFnExactClaimWQPut
import Derived.Test.YtfcibdonfjogoaaVFnExactClaimWApart
import Derived.Test.YtfcibdonfjogoaaVFnExactClaimWArr
import Derived.Test.YtfcibdonfjogoaaVFnExactClaimWZeros
import Derived.Test.YtfcibdonfjogoaaVFnExactClaimWFoot
import Derived.Test.YtfcibdonfjogoaaVFnExactClaimWKept
import Derived.Test.YtfcibdonfjogoaaVFnExactClaimWShare
import Derived.Test.YtfcibdonfjogoaaVFnExactClaimWN
import Derived.Test.YtfcibdonfjogoaaVFnExactClaimWFootNe
import Derived.Test.YtfcibdonfjogoaaVFnExactClaimWAt
import Derived.Test.YtfcibdonfjogoaaVFnExactClaimWEqStruct
import Derived.Test.YtfcibdonfjogoaaVFnExactClaimWRepsOne
import Derived.Test.YtfcibdonfjogoaaVFnExactClaimWInv
import Derived.Test.YtfcibdonfjogoaaVFnExactClaimWInvWords
import Derived.Test.YtfcibdonfjogoaaVFnExactClaimWGuard
import Derived.Test.YtfcibdonfjogoaaVFnExactClaimWNEv
import Derived.Test.YtfcibdonfjogoaaVFnExactClaimWMore
namespace Go.Proofs.Ytfcibdonfjogoaa.PFnExactClaim
open Go.RowKit Go.Proofs.YtfcibdonfjogoaaW.PrintWords Go.Proofs.YtfcibdonfjogoaaW.PrintLast Go.Proofs.YtfcibdonfjogoaaW.PrintMore
attribute [local go_sem] max2_int min2_int max_two min_two max_three min_three max_four min_four   -- for this text's walks alone
set_option linter.unusedVariables false
set_option linter.unusedSimpArgs false



def errW : Option Int → Value
 | none => .nilIface
 | some c => .iface 0 (.int .i64 c)
theorem errW_none : errW none = .nilIface := rfl
theorem errW_some (c : Int) : errW (some c) = .iface 0 (.int .i64 c) := rfl

theorem info3 : (Try.prog.info? 3).map (fun i => (i.zero, i.size, i.bytes)) = some (some (.int .i64 0), 1, 8) := by kernel_rfl
-- the values' own types

end Go.Proofs.Ytfcibdonfjogoaa.PFnExactClaim
