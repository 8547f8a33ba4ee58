/- Made by gprint.py, this session's program over the kit's print program, out of the translation; the functions that it does not print are proved by hand (wip/given). Lean checks it. -/
import Derived.Test.YtdadleamaalhiabDoorProg
import Derived.Below
import Derived.Deep.Draws
import Derived.Deep.AppendLies
import Derived.Maps.AppendAt
import Derived.OwnWalk
import Derived.Laws.BytesArg
import Derived.Laws.MakeOwn
import Derived.Laws.OwnMore
import Derived.Deep.OwnRows
import Derived.Tactics
import Derived.Lib.ConvBytes
import Derived.Laws.Slices
import Derived.WalkKit
import Derived.KernelRfl
import Derived.RowKit3
import Derived.Deep.LoopGhost
import Derived.Deep.QuietTactic
import Derived.BigQuiet
import Derived.WideLaws
import Derived.Deep.DeepCutAuto
import Derived.Deep.CutBlock
import Derived.Deep.RegionHeld3
import Derived.Laws.Rows
import Derived.Lib.AppendStr
import Derived.ArgAppend
import Derived.Laws.IdiomCopy
import Derived.OrdersHeld
import Derived.Laws.BitsLemmas
import Derived.RowKit
import Derived.WalkSpells
import Derived.Lib.SliceRun
import Derived.StillTailTactics
import Derived.Test.YtdadleamaalhiabDoorShelf
import Derived.Shelf.Spec.TrailingZeros
import Derived.Test.YtdadleamaalhiabDoorWWords
import Derived.Test.YtdadleamaalhiabDoorWLast
import Derived.Test.YtdadleamaalhiabDoorWTab
import Derived.Test.YtdadleamaalhiabDoorWFour
import Derived.Test.YtdadleamaalhiabDoorWQPut
import Derived.Test.YtdadleamaalhiabDoorWApart
import Derived.Test.YtdadleamaalhiabDoorWArr
import Derived.Test.YtdadleamaalhiabDoorWZeros
import Derived.Test.YtdadleamaalhiabDoorWFoot
import Derived.Test.YtdadleamaalhiabDoorWKept
import Derived.Test.YtdadleamaalhiabDoorWShare
import Derived.Test.YtdadleamaalhiabDoorWN
import Derived.Test.YtdadleamaalhiabDoorWFootNe
import Derived.Test.YtdadleamaalhiabDoorWAt
import Derived.Test.YtdadleamaalhiabDoorWEqStruct
import Derived.Test.YtdadleamaalhiabDoorWRepsOne
import Derived.Test.YtdadleamaalhiabDoorWInv
import Derived.Test.YtdadleamaalhiabDoorWInvWords
import Derived.Test.YtdadleamaalhiabDoorWGuard
import Derived.Test.YtdadleamaalhiabDoorWNEv
import Derived.Test.YtdadleamaalhiabDoorWMore
namespace Go.Proofs.YtdadleamaalhiabDoor.GH
open Go.RowKit Go.Proofs.YtdadleamaalhiabDoorW.PrintWords Go.Proofs.YtdadleamaalhiabDoorW.PrintLast Go.Proofs.YtdadleamaalhiabDoorW.PrintMore
attribute [local go_sem] max2_int min2_int max_two min_two max_three min_three max_four min_four   -- for this text's walks alone
set_option linter.unusedVariables false
set_option linter.unusedSimpArgs false



def errW : Option Int → Value
  | none => .nilIface
  | some c => .iface 0 (.int .i64 c)
theorem errW_none : errW none = .nilIface := rfl
theorem errW_some (c : Int) : errW (some c) = .iface 0 (.int .i64 c) := rfl

theorem info3 : (Tryd.prog.info? 3).map (fun i => (i.zero, i.size, i.bytes)) = some (some (.int .i64 0), 1, 8) := by kernel_rfl
-- the values' own types

end Go.Proofs.YtdadleamaalhiabDoor.GH
