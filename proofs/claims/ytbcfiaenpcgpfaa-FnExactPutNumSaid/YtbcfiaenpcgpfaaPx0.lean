-- By this session's own program (wip/myprint.py) out of the translation; Lean checks it.
import Derived.Test.YtbcfiaenpcgpfaaProg
import Derived.Below
import Derived.Deep.Draws
import Derived.Deep.AppendLies
import Derived.Maps.AppendAt
import Derived.OwnWalk
import Derived.Laws.BytesArg
import Derived.Laws.MakeOwn
import Derived.Laws.OwnMore
import Derived.Deep.OwnRows
import Derived.Tactics
import Derived.Lib.ConvBytes
import Derived.Laws.Slices
import Derived.WalkKit
import Derived.KernelRfl
import Derived.RowKit3
import Derived.Deep.LoopGhost
import Derived.Deep.QuietTactic
import Derived.BigQuiet
import Derived.WideLaws
import Derived.Deep.DeepCutAuto
import Derived.Deep.CutBlock
import Derived.Deep.RegionHeld3
import Derived.Laws.Rows
import Derived.Lib.AppendStr
import Derived.ArgAppend
import Derived.Laws.IdiomCopy
import Derived.OrdersHeld
import Derived.Laws.BitsLemmas
import Derived.RowKit
import Derived.WalkSpells
import Derived.Test.YtbcfiaenpcgpfaaWWords
import Derived.Test.YtbcfiaenpcgpfaaWLast
import Derived.Test.YtbcfiaenpcgpfaaWTab
import Derived.Test.YtbcfiaenpcgpfaaWFour
import Derived.Test.YtbcfiaenpcgpfaaWQPut
import Derived.Test.YtbcfiaenpcgpfaaWApart
import Derived.Test.YtbcfiaenpcgpfaaWArr
import Derived.Test.YtbcfiaenpcgpfaaWZeros
import Derived.Test.YtbcfiaenpcgpfaaWFoot
import Derived.Test.YtbcfiaenpcgpfaaWKept
import Derived.Test.YtbcfiaenpcgpfaaWShare
import Derived.Test.YtbcfiaenpcgpfaaWN
import Derived.Test.YtbcfiaenpcgpfaaWFootNe
import Derived.Test.YtbcfiaenpcgpfaaWAt
import Derived.Test.YtbcfiaenpcgpfaaWEqStruct
import Derived.Test.YtbcfiaenpcgpfaaWRepsOne
import Derived.Test.YtbcfiaenpcgpfaaWInv
import Derived.Test.YtbcfiaenpcgpfaaWInvWords
import Derived.Test.YtbcfiaenpcgpfaaWGuard
import Derived.Test.YtbcfiaenpcgpfaaWNEv
import Derived.Test.YtbcfiaenpcgpfaaWMore
namespace Go.Proofs.Ytbcfiaenpcgpfaa.P
open Go.RowKit Go.Proofs.YtbcfiaenpcgpfaaW.PrintWords Go.Proofs.YtbcfiaenpcgpfaaW.PrintLast Go.Proofs.YtbcfiaenpcgpfaaW.PrintMore
attribute [local go_sem] max2_int min2_int max_two min_two max_three min_three max_four min_four   -- for this text's walks alone
set_option linter.unusedVariables false
set_option linter.unusedSimpArgs false



def errW : Option Int → Value
  | none => .nilIface
  | some c => .iface 0 (.int .i64 c)
theorem errW_none : errW none = .nilIface := rfl
theorem errW_some (c : Int) : errW (some c) = .iface 0 (.int .i64 c) := rfl

theorem info3 : (Try.prog.info? 3).map (fun i => (i.zero, i.size, i.bytes)) = some (some (.int .i64 0), 1, 8) := by kernel_rfl
theorem info5 : (Try.prog.info? 5).map (fun i => (i.zero, i.size, i.bytes)) = some (some (.int .u8 0), 1, 1) := by kernel_rfl
-- the values' own types

end Go.Proofs.Ytbcfiaenpcgpfaa.P
