/- Proved: each Go function named here answers as its plain Lean function says, in whatever memory; no condition. Written by a program of this session over the print of the kit. -/
import Derived.Test.YtipkfflcdomheaaDoorShelf
import Derived.Test.YtipkfflcdomheaaDoorStrOk
import Derived.Test.YtipkfflcdomheaaDoorProg
import Derived.Below
import Derived.Deep.Draws
import Derived.Deep.AppendLies
import Derived.Maps.AppendAt
import Derived.OwnWalk
import Derived.Laws.BytesArg
import Derived.Laws.MakeOwn
import Derived.Laws.OwnMore
import Derived.Deep.OwnRows
import Derived.Tactics
import Derived.Lib.ConvBytes
import Derived.Laws.Slices
import Derived.WalkKit
import Derived.KernelRfl
import Derived.RowKit3
import Derived.Deep.LoopGhost
import Derived.Deep.QuietTactic
import Derived.BigQuiet
import Derived.WideLaws
import Derived.Deep.DeepCutAuto
import Derived.Deep.CutBlock
import Derived.Deep.RegionHeld3
import Derived.Laws.Rows
import Derived.Lib.AppendStr
import Derived.ArgAppend
import Derived.Laws.IdiomCopy
import Derived.OrdersHeld
import Derived.Laws.BitsLemmas
import Derived.RowKit
import Derived.Laws.Tables
import Derived.RegionTactic
import Derived.ChangeAlike
import Derived.Test.YtipkfflcdomheaaDoorWWords
import Derived.Test.YtipkfflcdomheaaDoorWLast
import Derived.Test.YtipkfflcdomheaaDoorWTab
import Derived.Test.YtipkfflcdomheaaDoorWFour
import Derived.Test.YtipkfflcdomheaaDoorWQPut
import Derived.Test.YtipkfflcdomheaaDoorWApart
import Derived.Test.YtipkfflcdomheaaDoorWArr
import Derived.Test.YtipkfflcdomheaaDoorWZeros
import Derived.Test.YtipkfflcdomheaaDoorWFoot
import Derived.Test.YtipkfflcdomheaaDoorWKept
import Derived.Test.YtipkfflcdomheaaDoorWShare
import Derived.Test.YtipkfflcdomheaaDoorWN
import Derived.Test.YtipkfflcdomheaaDoorWFootNe
import Derived.Test.YtipkfflcdomheaaDoorWAt
import Derived.Test.YtipkfflcdomheaaDoorWEqStruct
import Derived.Test.YtipkfflcdomheaaDoorWRepsOne
import Derived.Test.YtipkfflcdomheaaDoorWInv
import Derived.Test.YtipkfflcdomheaaDoorWInvWords
import Derived.Test.YtipkfflcdomheaaDoorWGuard
import Derived.Test.YtipkfflcdomheaaDoorWNEv
import Derived.Test.YtipkfflcdomheaaDoorWMore
namespace Go.Proofs.YtipkfflcdomheaaDoor.S
open Go.RowKit Go.Proofs.YtipkfflcdomheaaDoorW.PrintWords Go.Proofs.YtipkfflcdomheaaDoorW.PrintLast Go.Proofs.YtipkfflcdomheaaDoorW.PrintMore
attribute [local go_sem] max2_int min2_int max_two min_two max_three min_three max_four min_four   -- for this text's walks alone
set_option linter.unusedVariables false
set_option linter.unusedSimpArgs false



def errW : Option Int → Value
  | none => .nilIface
  | some c => .iface 0 (.int .i64 c)
theorem errW_none : errW none = .nilIface := rfl
theorem errW_some (c : Int) : errW (some c) = .iface 0 (.int .i64 c) := rfl

theorem info2 : (Tryd.prog.info? 2).map (fun i => (i.zero, i.size, i.bytes)) = some (some (.int .i64 0), 1, 8) := by kernel_rfl
theorem info5 : (Tryd.prog.info? 5).map (fun i => (i.zero, i.size, i.bytes)) = some (some (.int .u8 0), 1, 1) := by kernel_rfl
theorem info9 : (Tryd.prog.info? 9).map (fun i => (i.zero, i.size, i.bytes)) = some (some (.string ⟨#[]⟩), 1, 16) := by kernel_rfl
-- the values' own types

end Go.Proofs.YtipkfflcdomheaaDoor.S
