/- Proved: each Go function named here answers as its plain Lean function says, in whatever memory; no condition. Written by a program of this session over the print of the kit. -/
import Derived.Test.YtahkejppfhonhaaShelf
import Derived.Lib.SliceRun
import Derived.Test.YtahkejppfhonhaaProg
import Derived.Below
import Derived.Deep.Draws
import Derived.Deep.AppendLies
import Derived.Maps.AppendAt
import Derived.OwnWalk
import Derived.Laws.BytesArg
import Derived.Laws.MakeOwn
import Derived.Laws.OwnMore
import Derived.Deep.OwnRows
import Derived.Tactics
import Derived.Lib.ConvBytes
import Derived.Laws.Slices
import Derived.WalkKit
import Derived.KernelRfl
import Derived.RowKit3
import Derived.Deep.LoopGhost
import Derived.Deep.QuietTactic
import Derived.BigQuiet
import Derived.WideLaws
import Derived.Deep.DeepCutAuto
import Derived.Deep.CutBlock
import Derived.Deep.RegionHeld3
import Derived.Laws.Rows
import Derived.Lib.AppendStr
import Derived.ArgAppend
import Derived.Laws.IdiomCopy
import Derived.OrdersHeld
import Derived.Laws.BitsLemmas
import Derived.RowKit
import Derived.Laws.Tables
import Derived.RegionTactic
import Derived.ChangeAlike
import Derived.Test.YtahkejppfhonhaaWWords
import Derived.Test.YtahkejppfhonhaaWLast
import Derived.Test.YtahkejppfhonhaaWTab
import Derived.Test.YtahkejppfhonhaaWFour
import Derived.Test.YtahkejppfhonhaaWQPut
import Derived.Test.YtahkejppfhonhaaWApart
import Derived.Test.YtahkejppfhonhaaWArr
import Derived.Test.YtahkejppfhonhaaWZeros
import Derived.Test.YtahkejppfhonhaaWFoot
import Derived.Test.YtahkejppfhonhaaWKept
import Derived.Test.YtahkejppfhonhaaWShare
import Derived.Test.YtahkejppfhonhaaWN
import Derived.Test.YtahkejppfhonhaaWFootNe
import Derived.Test.YtahkejppfhonhaaWAt
import Derived.Test.YtahkejppfhonhaaWEqStruct
import Derived.Test.YtahkejppfhonhaaWRepsOne
import Derived.Test.YtahkejppfhonhaaWInv
import Derived.Test.YtahkejppfhonhaaWInvWords
import Derived.Test.YtahkejppfhonhaaWGuard
import Derived.Test.YtahkejppfhonhaaWNEv
import Derived.Test.YtahkejppfhonhaaWMore
namespace Go.Proofs.Ytahkejppfhonhaa.S
open Go.RowKit Go.Proofs.YtahkejppfhonhaaW.PrintWords Go.Proofs.YtahkejppfhonhaaW.PrintLast Go.Proofs.YtahkejppfhonhaaW.PrintMore
attribute [local go_sem] max2_int min2_int max_two min_two max_three min_three max_four min_four   -- for this text's walks alone
set_option linter.unusedVariables false
set_option linter.unusedSimpArgs false



def errW : Option Int → Value
  | none => .nilIface
  | some c => .iface 0 (.int .i64 c)
theorem errW_none : errW none = .nilIface := rfl
theorem errW_some (c : Int) : errW (some c) = .iface 0 (.int .i64 c) := rfl

theorem info2 : (Try.prog.info? 2).map (fun i => (i.zero, i.size, i.bytes)) = some (some (.int .i64 0), 1, 8) := by kernel_rfl
theorem info5 : (Try.prog.info? 5).map (fun i => (i.zero, i.size, i.bytes)) = some (some (.int .u8 0), 1, 1) := by kernel_rfl
theorem info9 : (Try.prog.info? 9).map (fun i => (i.zero, i.size, i.bytes)) = some (some (.string ⟨#[]⟩), 1, 16) := by kernel_rfl
-- the values' own types

end Go.Proofs.Ytahkejppfhonhaa.S
