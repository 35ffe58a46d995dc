/- Proved: each Go function named here answers as its plain Lean function says, in whatever memory; no condition. Written by a program of this session over the print of the kit. -/
import Derived.Test.YtidlcolgiololaaDoorShelf
import Derived.Test.YtidlcolgiololaaDoorLd
import Derived.Test.YtidlcolgiololaaDoorProg
import Derived.Below
import Derived.Deep.Draws
import Derived.Deep.AppendLies
import Derived.Maps.AppendAt
import Derived.OwnWalk
import Derived.Laws.BytesArg
import Derived.Laws.MakeOwn
import Derived.Laws.OwnMore
import Derived.Deep.OwnRows
import Derived.Tactics
import Derived.Lib.ConvBytes
import Derived.Laws.Slices
import Derived.WalkKit
import Derived.KernelRfl
import Derived.RowKit3
import Derived.Deep.LoopGhost
import Derived.Deep.QuietTactic
import Derived.BigQuiet
import Derived.WideLaws
import Derived.Deep.DeepCutAuto
import Derived.Deep.CutBlock
import Derived.Deep.RegionHeld3
import Derived.Laws.Rows
import Derived.Lib.AppendStr
import Derived.ArgAppend
import Derived.Laws.IdiomCopy
import Derived.OrdersHeld
import Derived.Laws.BitsLemmas
import Derived.RowKit
import Derived.Laws.Tables
import Derived.RegionTactic
import Derived.ChangeAlike
import Derived.Test.YtidlcolgiololaaDoorWWords
import Derived.Test.YtidlcolgiololaaDoorWLast
import Derived.Test.YtidlcolgiololaaDoorWTab
import Derived.Test.YtidlcolgiololaaDoorWFour
import Derived.Test.YtidlcolgiololaaDoorWQPut
import Derived.Test.YtidlcolgiololaaDoorWApart
import Derived.Test.YtidlcolgiololaaDoorWArr
import Derived.Test.YtidlcolgiololaaDoorWZeros
import Derived.Test.YtidlcolgiololaaDoorWFoot
import Derived.Test.YtidlcolgiololaaDoorWKept
import Derived.Test.YtidlcolgiololaaDoorWShare
import Derived.Test.YtidlcolgiololaaDoorWN
import Derived.Test.YtidlcolgiololaaDoorWFootNe
import Derived.Test.YtidlcolgiololaaDoorWAt
import Derived.Test.YtidlcolgiololaaDoorWEqStruct
import Derived.Test.YtidlcolgiololaaDoorWRepsOne
import Derived.Test.YtidlcolgiololaaDoorWInv
import Derived.Test.YtidlcolgiololaaDoorWInvWords
import Derived.Test.YtidlcolgiololaaDoorWGuard
import Derived.Test.YtidlcolgiololaaDoorWNEv
import Derived.Test.YtidlcolgiololaaDoorWMore
namespace Go.Proofs.YtidlcolgiololaaDoor.S
open Go.RowKit Go.Proofs.YtidlcolgiololaaDoorW.PrintWords Go.Proofs.YtidlcolgiololaaDoorW.PrintLast Go.Proofs.YtidlcolgiololaaDoorW.PrintMore
attribute [local go_sem] max2_int min2_int max_two min_two max_three min_three max_four min_four   -- for this text's walks alone
set_option linter.unusedVariables false
set_option linter.unusedSimpArgs false



def errW : Option Int → Value
  | none => .nilIface
  | some c => .iface 0 (.int .i64 c)
theorem errW_none : errW none = .nilIface := rfl
theorem errW_some (c : Int) : errW (some c) = .iface 0 (.int .i64 c) := rfl

theorem info2 : (Tryd.prog.info? 2).map (fun i => (i.zero, i.size, i.bytes)) = some (some (.int .i64 0), 1, 8) := by kernel_rfl
theorem info5 : (Tryd.prog.info? 5).map (fun i => (i.zero, i.size, i.bytes)) = some (some (.int .u8 0), 1, 1) := by kernel_rfl
-- the values' own types

end Go.Proofs.YtidlcolgiololaaDoor.S
