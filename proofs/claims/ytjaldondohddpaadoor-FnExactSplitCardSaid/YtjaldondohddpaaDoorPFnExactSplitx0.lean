-- Written by a program of this session out of the translation.
import Derived.Test.YtjaldondohddpaaDoorProg
import Derived.WalkSpells
import Derived.Below
import Derived.Deep.Draws
import Derived.Deep.AppendLies
import Derived.Maps.AppendAt
import Derived.OwnWalk
import Derived.Laws.BytesArg
import Derived.Laws.MakeOwn
import Derived.Laws.OwnMore
import Derived.Deep.OwnRows
import Derived.Tactics
import Derived.Lib.ConvBytes
import Derived.Laws.Slices
import Derived.WalkKit
import Derived.KernelRfl
import Derived.RowKit3
import Derived.Deep.LoopGhost
import Derived.Deep.QuietTactic
import Derived.BigQuiet
import Derived.WideLaws
import Derived.Deep.DeepCutAuto
import Derived.Deep.CutBlock
import Derived.Deep.RegionHeld3
import Derived.Laws.Rows
import Derived.Lib.AppendStr
import Derived.ArgAppend
import Derived.Laws.IdiomCopy
import Derived.OrdersHeld
import Derived.Laws.BitsLemmas
import Derived.RowKit
import Derived.Test.YtjaldondohddpaaDoorWWords
import Derived.Test.YtjaldondohddpaaDoorWLast
import Derived.Test.YtjaldondohddpaaDoorWTab
import Derived.Test.YtjaldondohddpaaDoorWFour
import Derived.Test.YtjaldondohddpaaDoorWQPut
import Derived.Test.YtjaldondohddpaaDoorWApart
import Derived.Test.YtjaldondohddpaaDoorWArr
import Derived.Test.YtjaldondohddpaaDoorWZeros
import Derived.Test.YtjaldondohddpaaDoorWFoot
import Derived.Test.YtjaldondohddpaaDoorWKept
import Derived.Test.YtjaldondohddpaaDoorWShare
import Derived.Test.YtjaldondohddpaaDoorWN
import Derived.Test.YtjaldondohddpaaDoorWFootNe
import Derived.Test.YtjaldondohddpaaDoorWAt
import Derived.Test.YtjaldondohddpaaDoorWEqStruct
import Derived.Test.YtjaldondohddpaaDoorWRepsOne
import Derived.Test.YtjaldondohddpaaDoorWInv
import Derived.Test.YtjaldondohddpaaDoorWInvWords
import Derived.Test.YtjaldondohddpaaDoorWGuard
import Derived.Test.YtjaldondohddpaaDoorWNEv
import Derived.Test.YtjaldondohddpaaDoorWMore
namespace Go.Proofs.YtjaldondohddpaaDoor.PFnExactSplit
open Go.RowKit Go.Proofs.YtjaldondohddpaaDoorW.PrintWords Go.Proofs.YtjaldondohddpaaDoorW.PrintLast Go.Proofs.YtjaldondohddpaaDoorW.PrintMore
attribute [local go_sem] max2_int min2_int max_two min_two max_three min_three max_four min_four   -- for this text's walks alone
set_option linter.unusedVariables false
set_option linter.unusedSimpArgs false



def errW : Option Int → Value
  | none => .nilIface
  | some c => .iface 0 (.int .i64 c)
theorem errW_none : errW none = .nilIface := rfl
theorem errW_some (c : Int) : errW (some c) = .iface 0 (.int .i64 c) := rfl

theorem info5 : (Tryd.prog.info? 5).map (fun i => (i.zero, i.size, i.bytes)) = some (some (.int .u8 0), 1, 1) := by kernel_rfl
theorem info9 : (Tryd.prog.info? 9).map (fun i => (i.zero, i.size, i.bytes)) = some (some (.string ⟨#[]⟩), 1, 16) := by kernel_rfl
-- the values' own types

end Go.Proofs.YtjaldondohddpaaDoor.PFnExactSplit
