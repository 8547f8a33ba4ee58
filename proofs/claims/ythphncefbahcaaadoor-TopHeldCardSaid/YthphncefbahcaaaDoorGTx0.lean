/- Made by gprint.py, this session's program over the kit's print program, out of the translation; the functions that it does not print are proved by hand (wip/given). Lean checks it. -/
import Derived.Test.YthphncefbahcaaaDoorProg
import Derived.Below
import Derived.Deep.Draws
import Derived.Deep.AppendLies
import Derived.Maps.AppendAt
import Derived.OwnWalk
import Derived.Laws.BytesArg
import Derived.Laws.MakeOwn
import Derived.Laws.OwnMore
import Derived.Deep.OwnRows
import Derived.Tactics
import Derived.Lib.ConvBytes
import Derived.Laws.Slices
import Derived.WalkKit
import Derived.KernelRfl
import Derived.RowKit3
import Derived.Deep.LoopGhost
import Derived.Deep.QuietTactic
import Derived.BigQuiet
import Derived.WideLaws
import Derived.Deep.DeepCutAuto
import Derived.Deep.CutBlock
import Derived.Deep.RegionHeld3
import Derived.Laws.Rows
import Derived.Lib.AppendStr
import Derived.ArgAppend
import Derived.Laws.IdiomCopy
import Derived.OrdersHeld
import Derived.Laws.BitsLemmas
import Derived.RowKit
import Derived.WalkSpells
import Derived.Lib.SliceRun
import Derived.StillTailTactics
import Derived.Test.YthphncefbahcaaaDoorShelf
import Derived.Shelf.Spec.TrailingZeros
import Derived.Test.YthphncefbahcaaaDoorWWords
import Derived.Test.YthphncefbahcaaaDoorWLast
import Derived.Test.YthphncefbahcaaaDoorWTab
import Derived.Test.YthphncefbahcaaaDoorWFour
import Derived.Test.YthphncefbahcaaaDoorWQPut
import Derived.Test.YthphncefbahcaaaDoorWApart
import Derived.Test.YthphncefbahcaaaDoorWArr
import Derived.Test.YthphncefbahcaaaDoorWZeros
import Derived.Test.YthphncefbahcaaaDoorWFoot
import Derived.Test.YthphncefbahcaaaDoorWKept
import Derived.Test.YthphncefbahcaaaDoorWShare
import Derived.Test.YthphncefbahcaaaDoorWN
import Derived.Test.YthphncefbahcaaaDoorWFootNe
import Derived.Test.YthphncefbahcaaaDoorWAt
import Derived.Test.YthphncefbahcaaaDoorWEqStruct
import Derived.Test.YthphncefbahcaaaDoorWRepsOne
import Derived.Test.YthphncefbahcaaaDoorWInv
import Derived.Test.YthphncefbahcaaaDoorWInvWords
import Derived.Test.YthphncefbahcaaaDoorWGuard
import Derived.Test.YthphncefbahcaaaDoorWNEv
import Derived.Test.YthphncefbahcaaaDoorWMore
namespace Go.Proofs.YthphncefbahcaaaDoor.GT
open Go.RowKit Go.Proofs.YthphncefbahcaaaDoorW.PrintWords Go.Proofs.YthphncefbahcaaaDoorW.PrintLast Go.Proofs.YthphncefbahcaaaDoorW.PrintMore
attribute [local go_sem] max2_int min2_int max_two min_two max_three min_three max_four min_four   -- for this text's walks alone
set_option linter.unusedVariables false
set_option linter.unusedSimpArgs false



def errW : Option Int → Value
  | none => .nilIface
  | some c => .iface 0 (.int .i64 c)
theorem errW_none : errW none = .nilIface := rfl
theorem errW_some (c : Int) : errW (some c) = .iface 0 (.int .i64 c) := rfl

theorem info3 : (Tryd.prog.info? 3).map (fun i => (i.zero, i.size, i.bytes)) = some (some (.int .i64 0), 1, 8) := by kernel_rfl
theorem info42 : (Tryd.prog.info? 42).map (fun i => (i.zero, i.size, i.bytes)) = some (some (.int .u64 0), 1, 8) := by kernel_rfl
-- the values' own types

end Go.Proofs.YthphncefbahcaaaDoor.GT
