/- Made by gprint.py, this session's program over the kit's print program, out of the translation; the functions that it does not print are proved by hand (wip/given). Lean checks it. -/
import Derived.Test.YtdadleamaalhiaaProg
import Derived.Below
import Derived.Deep.Draws
import Derived.Deep.AppendLies
import Derived.Maps.AppendAt
import Derived.OwnWalk
import Derived.Laws.BytesArg
import Derived.Laws.MakeOwn
import Derived.Laws.OwnMore
import Derived.Deep.OwnRows
import Derived.Tactics
import Derived.Lib.ConvBytes
import Derived.Laws.Slices
import Derived.WalkKit
import Derived.KernelRfl
import Derived.RowKit3
import Derived.Deep.LoopGhost
import Derived.Deep.QuietTactic
import Derived.BigQuiet
import Derived.WideLaws
import Derived.Deep.DeepCutAuto
import Derived.Deep.CutBlock
import Derived.Deep.RegionHeld3
import Derived.Laws.Rows
import Derived.Lib.AppendStr
import Derived.ArgAppend
import Derived.Laws.IdiomCopy
import Derived.OrdersHeld
import Derived.Laws.BitsLemmas
import Derived.RowKit
import Derived.WalkSpells
import Derived.Lib.SliceRun
import Derived.StillTailTactics
import Derived.Test.YtdadleamaalhiaaShelf
import Derived.Test.YtdadleamaalhiaaWWords
import Derived.Test.YtdadleamaalhiaaWLast
import Derived.Test.YtdadleamaalhiaaWTab
import Derived.Test.YtdadleamaalhiaaWFour
import Derived.Test.YtdadleamaalhiaaWQPut
import Derived.Test.YtdadleamaalhiaaWApart
import Derived.Test.YtdadleamaalhiaaWArr
import Derived.Test.YtdadleamaalhiaaWZeros
import Derived.Test.YtdadleamaalhiaaWFoot
import Derived.Test.YtdadleamaalhiaaWKept
import Derived.Test.YtdadleamaalhiaaWShare
import Derived.Test.YtdadleamaalhiaaWN
import Derived.Test.YtdadleamaalhiaaWFootNe
import Derived.Test.YtdadleamaalhiaaWAt
import Derived.Test.YtdadleamaalhiaaWEqStruct
import Derived.Test.YtdadleamaalhiaaWRepsOne
import Derived.Test.YtdadleamaalhiaaWInv
import Derived.Test.YtdadleamaalhiaaWInvWords
import Derived.Test.YtdadleamaalhiaaWGuard
import Derived.Test.YtdadleamaalhiaaWNEv
import Derived.Test.YtdadleamaalhiaaWMore
namespace Go.Proofs.Ytdadleamaalhiaa.GT
open Go.RowKit Go.Proofs.YtdadleamaalhiaaW.PrintWords Go.Proofs.YtdadleamaalhiaaW.PrintLast Go.Proofs.YtdadleamaalhiaaW.PrintMore
attribute [local go_sem] max2_int min2_int max_two min_two max_three min_three max_four min_four   -- for this text's walks alone
set_option linter.unusedVariables false
set_option linter.unusedSimpArgs false



def errW : Option Int → Value
  | none => .nilIface
  | some c => .iface 0 (.int .i64 c)
theorem errW_none : errW none = .nilIface := rfl
theorem errW_some (c : Int) : errW (some c) = .iface 0 (.int .i64 c) := rfl

theorem info25 : (Try.prog.info? 25).map (fun i => (i.zero, i.size, i.bytes)) = some (some (.int .u64 0), 1, 8) := by kernel_rfl
-- the values' own types

end Go.Proofs.Ytdadleamaalhiaa.GT
