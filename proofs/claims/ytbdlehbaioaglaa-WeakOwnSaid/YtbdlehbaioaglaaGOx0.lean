/- Made by gprint.py, this session's program over the kit's print program, out of the translation; the functions that it does not print are proved by hand (wip/given). Lean checks it. -/
import Derived.Test.YtbdlehbaioaglaaProg
import Derived.Below
import Derived.Deep.Draws
import Derived.Deep.AppendLies
import Derived.Maps.AppendAt
import Derived.OwnWalk
import Derived.Laws.BytesArg
import Derived.Laws.MakeOwn
import Derived.Laws.OwnMore
import Derived.Deep.OwnRows
import Derived.Tactics
import Derived.Lib.ConvBytes
import Derived.Laws.Slices
import Derived.WalkKit
import Derived.KernelRfl
import Derived.RowKit3
import Derived.Deep.LoopGhost
import Derived.Deep.QuietTactic
import Derived.BigQuiet
import Derived.WideLaws
import Derived.Deep.DeepCutAuto
import Derived.Deep.CutBlock
import Derived.Deep.RegionHeld3
import Derived.Laws.Rows
import Derived.Lib.AppendStr
import Derived.ArgAppend
import Derived.Laws.IdiomCopy
import Derived.OrdersHeld
import Derived.Laws.BitsLemmas
import Derived.RowKit
import Derived.WalkSpells
import Derived.Lib.SliceRun
import Derived.StillTailTactics
import Derived.Test.YtbdlehbaioaglaaShelf
import Derived.Test.YtbdlehbaioaglaaWWords
import Derived.Test.YtbdlehbaioaglaaWLast
import Derived.Test.YtbdlehbaioaglaaWTab
import Derived.Test.YtbdlehbaioaglaaWFour
import Derived.Test.YtbdlehbaioaglaaWQPut
import Derived.Test.YtbdlehbaioaglaaWApart
import Derived.Test.YtbdlehbaioaglaaWArr
import Derived.Test.YtbdlehbaioaglaaWZeros
import Derived.Test.YtbdlehbaioaglaaWFoot
import Derived.Test.YtbdlehbaioaglaaWKept
import Derived.Test.YtbdlehbaioaglaaWShare
import Derived.Test.YtbdlehbaioaglaaWN
import Derived.Test.YtbdlehbaioaglaaWFootNe
import Derived.Test.YtbdlehbaioaglaaWAt
import Derived.Test.YtbdlehbaioaglaaWEqStruct
import Derived.Test.YtbdlehbaioaglaaWRepsOne
import Derived.Test.YtbdlehbaioaglaaWInv
import Derived.Test.YtbdlehbaioaglaaWInvWords
import Derived.Test.YtbdlehbaioaglaaWGuard
import Derived.Test.YtbdlehbaioaglaaWNEv
import Derived.Test.YtbdlehbaioaglaaWMore
namespace Go.Proofs.Ytbdlehbaioaglaa.GO
open Go.RowKit Go.Proofs.YtbdlehbaioaglaaW.PrintWords Go.Proofs.YtbdlehbaioaglaaW.PrintLast Go.Proofs.YtbdlehbaioaglaaW.PrintMore
attribute [local go_sem] max2_int min2_int max_two min_two max_three min_three max_four min_four   -- for this text's walks alone
set_option linter.unusedVariables false
set_option linter.unusedSimpArgs false



def errW : Option Int → Value
  | none => .nilIface
  | some c => .iface 0 (.int .i64 c)
theorem errW_none : errW none = .nilIface := rfl
theorem errW_some (c : Int) : errW (some c) = .iface 0 (.int .i64 c) := rfl

theorem info3 : (Try.prog.info? 3).map (fun i => (i.zero, i.size, i.bytes)) = some (some (.int .i64 0), 1, 8) := by kernel_rfl
theorem info25 : (Try.prog.info? 25).map (fun i => (i.zero, i.size, i.bytes)) = some (some (.int .u64 0), 1, 8) := by kernel_rfl
-- the values' own types

end Go.Proofs.Ytbdlehbaioaglaa.GO
