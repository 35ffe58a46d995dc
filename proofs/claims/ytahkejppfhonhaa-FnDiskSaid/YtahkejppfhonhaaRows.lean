/-
  No cell of these rows narrows 'for every input' (looked for: loops, veiled, ifaces, maps, wideKeys, modest, calm, conditions, laid).
  DERIVED. THE GIVEN ROWS OF THIS SEAT. 11 by the template 'for every input the law returns true; each argument reads behind the call as it read before'; 0 by the template 'total and deterministic' (their statements: YtahkejppfhonhaaTotals.lean).
  GIVEN WITH THE SEED: the statements are not yours to turn. If you find one false, say at which input.
  Laid BY PROGRAM, IN A SANDBOX (cutbox-rows.mjs): the forced cells as the released guide's own fill.sh prints them over the translation 47523c6cf0061992… (all of the seat's roots in one cut). By AI agents, Wed Nov 11 2026. No macro, syntax, notation, axiom, sorry.
-/
import Derived.Test.YtahkejppfhonhaaChecked
import GoSem.Claim
import GoSem.ClaimJoined
import GoSem.ClaimMapViews
import Derived.JoinedTies
import Derived.KernelRfl
namespace Go.Proofs.Ytahkejppfhonhaa
/- THE CELL 'sum', in the pinned program and in every row, IS THE sha256 OF THE DUMP (.gsa) THAT YtahkejppfhonhaaProg.lean LOADS. Nothing in Lean hashes anything: it is a label: what it is worth is what the hold of that sum in a sandbox is worth. -/
noncomputable def Try.pinned : Pinned := { name := "ytahkejppfhonhaa", sum := "47523c6cf0061992d5ac20c2ec51b245312dbf2275587de5361af470c91c4a21", checked := Try.checked }
namespace Rows
def none {H : Type} : Left H := { results := [], args := [] }

/-- 'laws.FnExactLibNames': WHATEVER THE INPUT: true; the input reads as it did. -/
def fnExactLibNamesSpec : ChangeSpec := { name := "fnExactLibNames", fn := fun _ => fun
  | [] => { results := [.lit (.bool true)], args := [] }
  | _ => none }
def fnExactLibNamesRow : OpenClaim := { program := "ytahkejppfhonhaa", sum := "47523c6cf0061992d5ac20c2ec51b245312dbf2275587de5361af470c91c4a21", func := "loop.example/g00221/laws.FnExactLibNames", spec := "fnExactLibNames", apart := false }
def FnExactLibNamesSaid : Prop := fnExactLibNamesRow.holds Try.pinned (OpenSpec.ofChange fnExactLibNamesSpec)

/-- ITS FALSE NEIGHBOUR: 'it returns false'. Refute it at one input. -/
def fnExactLibNamesWrong : ChangeSpec := { name := "fnExactLibNames", fn := fun _ => fun
  | [] => { results := [.lit (.bool false)], args := [] }
  | _ => none }
def FnExactLibNamesWrongFalsely : Prop := fnExactLibNamesRow.holds Try.pinned (OpenSpec.ofChange fnExactLibNamesWrong)

/-- 'laws.FnExactDeskWords': WHATEVER THE INPUT: true; the input reads as it did. -/
def fnExactDeskWordsSpec : ChangeSpec := { name := "fnExactDeskWords", fn := fun _ => fun
  | [] => { results := [.lit (.bool true)], args := [] }
  | _ => none }
def fnExactDeskWordsRow : OpenClaim := { program := "ytahkejppfhonhaa", sum := "47523c6cf0061992d5ac20c2ec51b245312dbf2275587de5361af470c91c4a21", func := "loop.example/g00221/laws.FnExactDeskWords", spec := "fnExactDeskWords", apart := false }
def FnExactDeskWordsSaid : Prop := fnExactDeskWordsRow.holds Try.pinned (OpenSpec.ofChange fnExactDeskWordsSpec)

/-- ITS FALSE NEIGHBOUR: 'it returns false'. Refute it at one input. -/
def fnExactDeskWordsWrong : ChangeSpec := { name := "fnExactDeskWords", fn := fun _ => fun
  | [] => { results := [.lit (.bool false)], args := [] }
  | _ => none }
def FnExactDeskWordsWrongFalsely : Prop := fnExactDeskWordsRow.holds Try.pinned (OpenSpec.ofChange fnExactDeskWordsWrong)

/-- 'laws.FnExactDayAdd': WHATEVER THE INPUT: true; the input reads as it did. -/
def fnExactDayAddSpec : ChangeSpec := { name := "fnExactDayAdd", fn := fun _ => fun
  | [d1, d2] => { results := [.lit (.bool true)], args := [d1, d2] }
  | _ => none }
def fnExactDayAddRow : OpenClaim := { program := "ytahkejppfhonhaa", sum := "47523c6cf0061992d5ac20c2ec51b245312dbf2275587de5361af470c91c4a21", func := "loop.example/g00221/laws.FnExactDayAdd", spec := "fnExactDayAdd", apart := false }
def FnExactDayAddSaid : Prop := fnExactDayAddRow.holds Try.pinned (OpenSpec.ofChange fnExactDayAddSpec)

/-- ITS FALSE NEIGHBOUR: 'it returns false'. Refute it at one input. -/
def fnExactDayAddWrong : ChangeSpec := { name := "fnExactDayAdd", fn := fun _ => fun
  | [d1, d2] => { results := [.lit (.bool false)], args := [d1, d2] }
  | _ => none }
def FnExactDayAddWrongFalsely : Prop := fnExactDayAddRow.holds Try.pinned (OpenSpec.ofChange fnExactDayAddWrong)

/-- 'laws.FnExactLoanRight': WHATEVER THE INPUT: true; the input reads as it did. -/
def fnExactLoanRightSpec : ChangeSpec := { name := "fnExactLoanRight", fn := fun _ => fun
  | [d] => { results := [.lit (.bool true)], args := [d] }
  | _ => none }
def fnExactLoanRightRow : OpenClaim := { program := "ytahkejppfhonhaa", sum := "47523c6cf0061992d5ac20c2ec51b245312dbf2275587de5361af470c91c4a21", func := "loop.example/g00221/laws.FnExactLoanRight", spec := "fnExactLoanRight", apart := false }
def FnExactLoanRightSaid : Prop := fnExactLoanRightRow.holds Try.pinned (OpenSpec.ofChange fnExactLoanRightSpec)

/-- ITS FALSE NEIGHBOUR: 'it returns false'. Refute it at one input. -/
def fnExactLoanRightWrong : ChangeSpec := { name := "fnExactLoanRight", fn := fun _ => fun
  | [d] => { results := [.lit (.bool false)], args := [d] }
  | _ => none }
def FnExactLoanRightWrongFalsely : Prop := fnExactLoanRightRow.holds Try.pinned (OpenSpec.ofChange fnExactLoanRightWrong)

/-- 'laws.FnTexts': WHATEVER THE INPUT: true; the input reads as it did. -/
def fnTextsSpec : ChangeSpec := { name := "fnTexts", fn := fun _ => fun
  | [d1, d2] => { results := [.lit (.bool true)], args := [d1, d2] }
  | _ => none }
def fnTextsRow : OpenClaim := { program := "ytahkejppfhonhaa", sum := "47523c6cf0061992d5ac20c2ec51b245312dbf2275587de5361af470c91c4a21", func := "loop.example/g00221/laws.FnTexts", spec := "fnTexts", apart := false }
def FnTextsSaid : Prop := fnTextsRow.holds Try.pinned (OpenSpec.ofChange fnTextsSpec)

/-- ITS FALSE NEIGHBOUR: 'it returns false'. Refute it at one input. -/
def fnTextsWrong : ChangeSpec := { name := "fnTexts", fn := fun _ => fun
  | [d1, d2] => { results := [.lit (.bool false)], args := [d1, d2] }
  | _ => none }
def FnTextsWrongFalsely : Prop := fnTextsRow.holds Try.pinned (OpenSpec.ofChange fnTextsWrong)

/-- 'laws.FnMonths': WHATEVER THE INPUT: true; the input reads as it did. -/
def fnMonthsSpec : ChangeSpec := { name := "fnMonths", fn := fun _ => fun
  | [d] => { results := [.lit (.bool true)], args := [d] }
  | _ => none }
def fnMonthsRow : OpenClaim := { program := "ytahkejppfhonhaa", sum := "47523c6cf0061992d5ac20c2ec51b245312dbf2275587de5361af470c91c4a21", func := "loop.example/g00221/laws.FnMonths", spec := "fnMonths", apart := false }
def FnMonthsSaid : Prop := fnMonthsRow.holds Try.pinned (OpenSpec.ofChange fnMonthsSpec)

/-- ITS FALSE NEIGHBOUR: 'it returns false'. Refute it at one input. -/
def fnMonthsWrong : ChangeSpec := { name := "fnMonths", fn := fun _ => fun
  | [d] => { results := [.lit (.bool false)], args := [d] }
  | _ => none }
def FnMonthsWrongFalsely : Prop := fnMonthsRow.holds Try.pinned (OpenSpec.ofChange fnMonthsWrong)

/-- 'laws.FnDisk': WHATEVER THE INPUT: true; the input reads as it did. -/
def fnDiskSpec : ChangeSpec := { name := "fnDisk", fn := fun _ => fun
  | [d] => { results := [.lit (.bool true)], args := [d] }
  | _ => none }
def fnDiskRow : OpenClaim := { program := "ytahkejppfhonhaa", sum := "47523c6cf0061992d5ac20c2ec51b245312dbf2275587de5361af470c91c4a21", func := "loop.example/g00221/laws.FnDisk", spec := "fnDisk", inPlace := ["internal/abi.NoEscape", "internal/bytealg.MakeNoZero"], apart := false }
def FnDiskSaid : Prop := fnDiskRow.holds Try.pinned (OpenSpec.ofChange fnDiskSpec)

/-- ITS FALSE NEIGHBOUR: 'it returns false'. Refute it at one input. -/
def fnDiskWrong : ChangeSpec := { name := "fnDisk", fn := fun _ => fun
  | [d] => { results := [.lit (.bool false)], args := [d] }
  | _ => none }
def FnDiskWrongFalsely : Prop := fnDiskRow.holds Try.pinned (OpenSpec.ofChange fnDiskWrong)

/-- 'laws.FnExactDiskWrite': WHATEVER THE INPUT: true; the input reads as it did. -/
def fnExactDiskWriteSpec : ChangeSpec := { name := "fnExactDiskWrite", fn := fun _ => fun
  | [d1, d2] => { results := [.lit (.bool true)], args := [d1, d2] }
  | _ => none }
def fnExactDiskWriteRow : OpenClaim := { program := "ytahkejppfhonhaa", sum := "47523c6cf0061992d5ac20c2ec51b245312dbf2275587de5361af470c91c4a21", func := "loop.example/g00221/laws.FnExactDiskWrite", spec := "fnExactDiskWrite", inPlace := ["internal/abi.NoEscape", "internal/bytealg.MakeNoZero"], apart := false }
def FnExactDiskWriteSaid : Prop := fnExactDiskWriteRow.holds Try.pinned (OpenSpec.ofChange fnExactDiskWriteSpec)

/-- ITS FALSE NEIGHBOUR: 'it returns false'. Refute it at one input. -/
def fnExactDiskWriteWrong : ChangeSpec := { name := "fnExactDiskWrite", fn := fun _ => fun
  | [d1, d2] => { results := [.lit (.bool false)], args := [d1, d2] }
  | _ => none }
def FnExactDiskWriteWrongFalsely : Prop := fnExactDiskWriteRow.holds Try.pinned (OpenSpec.ofChange fnExactDiskWriteWrong)

/-- 'laws.FnExactDiskSync': WHATEVER THE INPUT: true; the input reads as it did. -/
def fnExactDiskSyncSpec : ChangeSpec := { name := "fnExactDiskSync", fn := fun _ => fun
  | [d] => { results := [.lit (.bool true)], args := [d] }
  | _ => none }
def fnExactDiskSyncRow : OpenClaim := { program := "ytahkejppfhonhaa", sum := "47523c6cf0061992d5ac20c2ec51b245312dbf2275587de5361af470c91c4a21", func := "loop.example/g00221/laws.FnExactDiskSync", spec := "fnExactDiskSync", inPlace := ["internal/abi.NoEscape", "internal/bytealg.MakeNoZero"], apart := false }
def FnExactDiskSyncSaid : Prop := fnExactDiskSyncRow.holds Try.pinned (OpenSpec.ofChange fnExactDiskSyncSpec)

/-- ITS FALSE NEIGHBOUR: 'it returns false'. Refute it at one input. -/
def fnExactDiskSyncWrong : ChangeSpec := { name := "fnExactDiskSync", fn := fun _ => fun
  | [d] => { results := [.lit (.bool false)], args := [d] }
  | _ => none }
def FnExactDiskSyncWrongFalsely : Prop := fnExactDiskSyncRow.holds Try.pinned (OpenSpec.ofChange fnExactDiskSyncWrong)

/-- 'laws.FnExactDiskCut': WHATEVER THE INPUT: true; the input reads as it did. -/
def fnExactDiskCutSpec : ChangeSpec := { name := "fnExactDiskCut", fn := fun _ => fun
  | [d1, d2] => { results := [.lit (.bool true)], args := [d1, d2] }
  | _ => none }
def fnExactDiskCutRow : OpenClaim := { program := "ytahkejppfhonhaa", sum := "47523c6cf0061992d5ac20c2ec51b245312dbf2275587de5361af470c91c4a21", func := "loop.example/g00221/laws.FnExactDiskCut", spec := "fnExactDiskCut", inPlace := ["internal/abi.NoEscape", "internal/bytealg.MakeNoZero"], apart := false }
def FnExactDiskCutSaid : Prop := fnExactDiskCutRow.holds Try.pinned (OpenSpec.ofChange fnExactDiskCutSpec)

/-- ITS FALSE NEIGHBOUR: 'it returns false'. Refute it at one input. -/
def fnExactDiskCutWrong : ChangeSpec := { name := "fnExactDiskCut", fn := fun _ => fun
  | [d1, d2] => { results := [.lit (.bool false)], args := [d1, d2] }
  | _ => none }
def FnExactDiskCutWrongFalsely : Prop := fnExactDiskCutRow.holds Try.pinned (OpenSpec.ofChange fnExactDiskCutWrong)

/-- 'laws.FnExactDiskCrash': WHATEVER THE INPUT: true; the input reads as it did. -/
def fnExactDiskCrashSpec : ChangeSpec := { name := "fnExactDiskCrash", fn := fun _ => fun
  | [d1, d2] => { results := [.lit (.bool true)], args := [d1, d2] }
  | _ => none }
def fnExactDiskCrashRow : OpenClaim := { program := "ytahkejppfhonhaa", sum := "47523c6cf0061992d5ac20c2ec51b245312dbf2275587de5361af470c91c4a21", func := "loop.example/g00221/laws.FnExactDiskCrash", spec := "fnExactDiskCrash", inPlace := ["internal/abi.NoEscape", "internal/bytealg.MakeNoZero"], apart := false }
def FnExactDiskCrashSaid : Prop := fnExactDiskCrashRow.holds Try.pinned (OpenSpec.ofChange fnExactDiskCrashSpec)

/-- ITS FALSE NEIGHBOUR: 'it returns false'. Refute it at one input. -/
def fnExactDiskCrashWrong : ChangeSpec := { name := "fnExactDiskCrash", fn := fun _ => fun
  | [d1, d2] => { results := [.lit (.bool false)], args := [d1, d2] }
  | _ => none }
def FnExactDiskCrashWrongFalsely : Prop := fnExactDiskCrashRow.holds Try.pinned (OpenSpec.ofChange fnExactDiskCrashWrong)

/- THE SECOND FORM. 'bulk': how many values and letters a reading holds, each counted each time it is reached (what is shared counts as often as it is met; a slice's spare places count too). A statement '..UptoSaid' is the law's where the arguments, and the package variables that the reading takes, are together of bulk at most 1048576: NARROWER than '..Said'. Prove '..Said' where nothing that the law and all that it calls make is longer than what came in: it says more and counts as full. Else prove '..UptoSaid'. A law counts once. -/
mutual
def uptoBulk {H : Type} : DataW H → Nat
  | .lit (.string bytes) => bytes.length + 1
  | .lit _ => 1
  | .nil => 1
  | .ptr d => uptoBulk d + 1
  | .slice elems spare => uptoBulkAll elems + uptoBulkAll spare + 1
  | .agg parts => uptoBulkAll parts + 1
  | .iface _ d => uptoBulk d + 1
  | .map entries => uptoBulkEntries entries + 1
  | .held _ => 1
def uptoBulkAll {H : Type} : List (DataW H) → Nat
  | [] => 0
  | d :: r => uptoBulk d + uptoBulkAll r
def uptoBulkEntries {H : Type} : List (Lit × DataW H) → Nat
  | [] => 0
  | x :: r => uptoBulkEntry x + uptoBulkEntries r
def uptoBulkEntry {H : Type} : Lit × DataW H → Nat
  | (.string bytes, d) => bytes.length + uptoBulk d + 1
  | (_, d) => uptoBulk d + 1
 end
def uptoSmall : (H : Type) → List (DataW H) → Bool := fun _ ds => decide (uptoBulkAll ds ≤ 1048576)
def OpenSpec.upto (s : _root_.Go.ChangeSpec) : _root_.Go.OpenSpec := { _root_.Go.OpenSpec.ofChange s with cond := some uptoSmall }

/-- 'laws.FnExactLibNames', WHERE WHAT IT READS IS OF BULK AT MOST 1048576: true; the input reads as it did. -/
def fnExactLibNamesUptoRow : OpenClaim := { program := "ytahkejppfhonhaa", sum := "47523c6cf0061992d5ac20c2ec51b245312dbf2275587de5361af470c91c4a21", func := "loop.example/g00221/laws.FnExactLibNames", spec := "fnExactLibNames", apart := false, narrowed := true }
def FnExactLibNamesUptoSaid : Prop := fnExactLibNamesUptoRow.holds Try.pinned (OpenSpec.upto fnExactLibNamesSpec)

/-- 'laws.FnExactDeskWords', WHERE WHAT IT READS IS OF BULK AT MOST 1048576: true; the input reads as it did. -/
def fnExactDeskWordsUptoRow : OpenClaim := { program := "ytahkejppfhonhaa", sum := "47523c6cf0061992d5ac20c2ec51b245312dbf2275587de5361af470c91c4a21", func := "loop.example/g00221/laws.FnExactDeskWords", spec := "fnExactDeskWords", apart := false, narrowed := true }
def FnExactDeskWordsUptoSaid : Prop := fnExactDeskWordsUptoRow.holds Try.pinned (OpenSpec.upto fnExactDeskWordsSpec)

/-- 'laws.FnExactDayAdd', WHERE WHAT IT READS IS OF BULK AT MOST 1048576: true; the input reads as it did. -/
def fnExactDayAddUptoRow : OpenClaim := { program := "ytahkejppfhonhaa", sum := "47523c6cf0061992d5ac20c2ec51b245312dbf2275587de5361af470c91c4a21", func := "loop.example/g00221/laws.FnExactDayAdd", spec := "fnExactDayAdd", apart := false, narrowed := true }
def FnExactDayAddUptoSaid : Prop := fnExactDayAddUptoRow.holds Try.pinned (OpenSpec.upto fnExactDayAddSpec)

/-- 'laws.FnExactLoanRight', WHERE WHAT IT READS IS OF BULK AT MOST 1048576: true; the input reads as it did. -/
def fnExactLoanRightUptoRow : OpenClaim := { program := "ytahkejppfhonhaa", sum := "47523c6cf0061992d5ac20c2ec51b245312dbf2275587de5361af470c91c4a21", func := "loop.example/g00221/laws.FnExactLoanRight", spec := "fnExactLoanRight", apart := false, narrowed := true }
def FnExactLoanRightUptoSaid : Prop := fnExactLoanRightUptoRow.holds Try.pinned (OpenSpec.upto fnExactLoanRightSpec)

/-- 'laws.FnTexts', WHERE WHAT IT READS IS OF BULK AT MOST 1048576: true; the input reads as it did. -/
def fnTextsUptoRow : OpenClaim := { program := "ytahkejppfhonhaa", sum := "47523c6cf0061992d5ac20c2ec51b245312dbf2275587de5361af470c91c4a21", func := "loop.example/g00221/laws.FnTexts", spec := "fnTexts", apart := false, narrowed := true }
def FnTextsUptoSaid : Prop := fnTextsUptoRow.holds Try.pinned (OpenSpec.upto fnTextsSpec)

/-- 'laws.FnMonths', WHERE WHAT IT READS IS OF BULK AT MOST 1048576: true; the input reads as it did. -/
def fnMonthsUptoRow : OpenClaim := { program := "ytahkejppfhonhaa", sum := "47523c6cf0061992d5ac20c2ec51b245312dbf2275587de5361af470c91c4a21", func := "loop.example/g00221/laws.FnMonths", spec := "fnMonths", apart := false, narrowed := true }
def FnMonthsUptoSaid : Prop := fnMonthsUptoRow.holds Try.pinned (OpenSpec.upto fnMonthsSpec)

/-- 'laws.FnDisk', WHERE WHAT IT READS IS OF BULK AT MOST 1048576: true; the input reads as it did. -/
def fnDiskUptoRow : OpenClaim := { program := "ytahkejppfhonhaa", sum := "47523c6cf0061992d5ac20c2ec51b245312dbf2275587de5361af470c91c4a21", func := "loop.example/g00221/laws.FnDisk", spec := "fnDisk", inPlace := ["internal/abi.NoEscape", "internal/bytealg.MakeNoZero"], apart := false, narrowed := true }
def FnDiskUptoSaid : Prop := fnDiskUptoRow.holds Try.pinned (OpenSpec.upto fnDiskSpec)

/-- 'laws.FnExactDiskWrite', WHERE WHAT IT READS IS OF BULK AT MOST 1048576: true; the input reads as it did. -/
def fnExactDiskWriteUptoRow : OpenClaim := { program := "ytahkejppfhonhaa", sum := "47523c6cf0061992d5ac20c2ec51b245312dbf2275587de5361af470c91c4a21", func := "loop.example/g00221/laws.FnExactDiskWrite", spec := "fnExactDiskWrite", inPlace := ["internal/abi.NoEscape", "internal/bytealg.MakeNoZero"], apart := false, narrowed := true }
def FnExactDiskWriteUptoSaid : Prop := fnExactDiskWriteUptoRow.holds Try.pinned (OpenSpec.upto fnExactDiskWriteSpec)

/-- 'laws.FnExactDiskSync', WHERE WHAT IT READS IS OF BULK AT MOST 1048576: true; the input reads as it did. -/
def fnExactDiskSyncUptoRow : OpenClaim := { program := "ytahkejppfhonhaa", sum := "47523c6cf0061992d5ac20c2ec51b245312dbf2275587de5361af470c91c4a21", func := "loop.example/g00221/laws.FnExactDiskSync", spec := "fnExactDiskSync", inPlace := ["internal/abi.NoEscape", "internal/bytealg.MakeNoZero"], apart := false, narrowed := true }
def FnExactDiskSyncUptoSaid : Prop := fnExactDiskSyncUptoRow.holds Try.pinned (OpenSpec.upto fnExactDiskSyncSpec)

/-- 'laws.FnExactDiskCut', WHERE WHAT IT READS IS OF BULK AT MOST 1048576: true; the input reads as it did. -/
def fnExactDiskCutUptoRow : OpenClaim := { program := "ytahkejppfhonhaa", sum := "47523c6cf0061992d5ac20c2ec51b245312dbf2275587de5361af470c91c4a21", func := "loop.example/g00221/laws.FnExactDiskCut", spec := "fnExactDiskCut", inPlace := ["internal/abi.NoEscape", "internal/bytealg.MakeNoZero"], apart := false, narrowed := true }
def FnExactDiskCutUptoSaid : Prop := fnExactDiskCutUptoRow.holds Try.pinned (OpenSpec.upto fnExactDiskCutSpec)

/-- 'laws.FnExactDiskCrash', WHERE WHAT IT READS IS OF BULK AT MOST 1048576: true; the input reads as it did. -/
def fnExactDiskCrashUptoRow : OpenClaim := { program := "ytahkejppfhonhaa", sum := "47523c6cf0061992d5ac20c2ec51b245312dbf2275587de5361af470c91c4a21", func := "loop.example/g00221/laws.FnExactDiskCrash", spec := "fnExactDiskCrash", inPlace := ["internal/abi.NoEscape", "internal/bytealg.MakeNoZero"], apart := false, narrowed := true }
def FnExactDiskCrashUptoSaid : Prop := fnExactDiskCrashUptoRow.holds Try.pinned (OpenSpec.upto fnExactDiskCrashSpec)

end Rows
end Go.Proofs.Ytahkejppfhonhaa
