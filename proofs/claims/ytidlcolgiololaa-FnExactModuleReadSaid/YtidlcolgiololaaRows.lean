/-
  No cell of these rows narrows 'for every input' (looked for: loops, veiled, ifaces, maps, wideKeys, modest, calm, conditions, laid).
  DERIVED. THE GIVEN ROWS OF THIS SEAT. 3 by the template 'for every input the law returns true; each argument reads behind the call as it read before'; 0 by the template 'total and deterministic' (their statements: YtidlcolgiololaaTotals.lean).
  GIVEN WITH THE SEED: the statements are not yours to turn. If you find one false, say at which input.
  Laid BY PROGRAM, IN A SANDBOX (cutbox-rows.mjs): the forced cells as the released guide's own fill.sh prints them over the translation 078031a4554c2e66… (all of the seat's roots in one cut). By AI agents, Wed Nov 11 2026. No macro, syntax, notation, axiom, sorry.
-/
import Derived.Test.YtidlcolgiololaaChecked
import GoSem.Claim
import GoSem.ClaimJoined
import GoSem.ClaimMapViews
import Derived.JoinedTies
import Derived.KernelRfl
namespace Go.Proofs.Ytidlcolgiololaa
/- THE CELL 'sum', in the pinned program and in every row, IS THE sha256 OF THE DUMP (.gsa) THAT YtidlcolgiololaaProg.lean LOADS. Nothing in Lean hashes anything: it is a label: what it is worth is what the hold of that sum in a sandbox is worth. -/
noncomputable def Try.pinned : Pinned := { name := "ytidlcolgiololaa", sum := "078031a4554c2e66672aaf6d5c5e7ea285f182cc71435bb7fababa24c39adddc", checked := Try.checked }
namespace Rows
def none {H : Type} : Left H := { results := [], args := [] }

/-- 'laws.FnExactModuleRead': WHATEVER THE INPUT: true; the input reads as it did. -/
def fnExactModuleReadSpec : ChangeSpec := { name := "fnExactModuleRead", fn := fun _ => fun
  | [d] => { results := [.lit (.bool true)], args := [d] }
  | _ => none }
def fnExactModuleReadRow : OpenClaim := { program := "ytidlcolgiololaa", sum := "078031a4554c2e66672aaf6d5c5e7ea285f182cc71435bb7fababa24c39adddc", func := "loop.example/g00221/laws.FnExactModuleRead", spec := "fnExactModuleRead", unfollowed := true, recurses := true, apart := false }
def FnExactModuleReadSaid : Prop := fnExactModuleReadRow.holds Try.pinned (OpenSpec.ofChange fnExactModuleReadSpec)

/-- ITS FALSE NEIGHBOUR: 'it returns false'. Refute it at one input. -/
def fnExactModuleReadWrong : ChangeSpec := { name := "fnExactModuleRead", fn := fun _ => fun
  | [d] => { results := [.lit (.bool false)], args := [d] }
  | _ => none }
def FnExactModuleReadWrongFalsely : Prop := fnExactModuleReadRow.holds Try.pinned (OpenSpec.ofChange fnExactModuleReadWrong)

/-- 'laws.FnExactEngineSame': WHATEVER THE INPUT: true; the input reads as it did. -/
def fnExactEngineSameSpec : ChangeSpec := { name := "fnExactEngineSame", fn := fun _ => fun
  | [d1, d2] => { results := [.lit (.bool true)], args := [d1, d2] }
  | _ => none }
def fnExactEngineSameRow : OpenClaim := { program := "ytidlcolgiololaa", sum := "078031a4554c2e66672aaf6d5c5e7ea285f182cc71435bb7fababa24c39adddc", func := "loop.example/g00221/laws.FnExactEngineSame", spec := "fnExactEngineSame", unfollowed := true, recurses := true, apart := false }
def FnExactEngineSameSaid : Prop := fnExactEngineSameRow.holds Try.pinned (OpenSpec.ofChange fnExactEngineSameSpec)

/-- ITS FALSE NEIGHBOUR: 'it returns false'. Refute it at one input. -/
def fnExactEngineSameWrong : ChangeSpec := { name := "fnExactEngineSame", fn := fun _ => fun
  | [d1, d2] => { results := [.lit (.bool false)], args := [d1, d2] }
  | _ => none }
def FnExactEngineSameWrongFalsely : Prop := fnExactEngineSameRow.holds Try.pinned (OpenSpec.ofChange fnExactEngineSameWrong)

/-- 'laws.FnModule': WHATEVER THE INPUT: true; the input reads as it did. -/
def fnModuleSpec : ChangeSpec := { name := "fnModule", fn := fun _ => fun
  | [d1, d2] => { results := [.lit (.bool true)], args := [d1, d2] }
  | _ => none }
def fnModuleRow : OpenClaim := { program := "ytidlcolgiololaa", sum := "078031a4554c2e66672aaf6d5c5e7ea285f182cc71435bb7fababa24c39adddc", func := "loop.example/g00221/laws.FnModule", spec := "fnModule", unfollowed := true, recurses := true, apart := false }
def FnModuleSaid : Prop := fnModuleRow.holds Try.pinned (OpenSpec.ofChange fnModuleSpec)

/-- ITS FALSE NEIGHBOUR: 'it returns false'. Refute it at one input. -/
def fnModuleWrong : ChangeSpec := { name := "fnModule", fn := fun _ => fun
  | [d1, d2] => { results := [.lit (.bool false)], args := [d1, d2] }
  | _ => none }
def FnModuleWrongFalsely : Prop := fnModuleRow.holds Try.pinned (OpenSpec.ofChange fnModuleWrong)

/- THE SECOND FORM. 'bulk': how many values and letters a reading holds, each counted each time it is reached (what is shared counts as often as it is met; a slice's spare places count too). A statement '..UptoSaid' is the law's where the arguments, and the package variables that the reading takes, are together of bulk at most 1048576: NARROWER than '..Said'. Prove '..Said' where nothing that the law and all that it calls make is longer than what came in: it says more and counts as full. Else prove '..UptoSaid'. A law counts once. -/
mutual
def uptoBulk {H : Type} : DataW H → Nat
  | .lit (.string bytes) => bytes.length + 1
  | .lit _ => 1
  | .nil => 1
  | .ptr d => uptoBulk d + 1
  | .slice elems spare => uptoBulkAll elems + uptoBulkAll spare + 1
  | .agg parts => uptoBulkAll parts + 1
  | .iface _ d => uptoBulk d + 1
  | .map entries => uptoBulkEntries entries + 1
  | .held _ => 1
def uptoBulkAll {H : Type} : List (DataW H) → Nat
  | [] => 0
  | d :: r => uptoBulk d + uptoBulkAll r
def uptoBulkEntries {H : Type} : List (Lit × DataW H) → Nat
  | [] => 0
  | x :: r => uptoBulkEntry x + uptoBulkEntries r
def uptoBulkEntry {H : Type} : Lit × DataW H → Nat
  | (.string bytes, d) => bytes.length + uptoBulk d + 1
  | (_, d) => uptoBulk d + 1
 end
def uptoSmall : (H : Type) → List (DataW H) → Bool := fun _ ds => decide (uptoBulkAll ds ≤ 1048576)
def OpenSpec.upto (s : _root_.Go.ChangeSpec) : _root_.Go.OpenSpec := { _root_.Go.OpenSpec.ofChange s with cond := some uptoSmall }

/-- 'laws.FnExactModuleRead', WHERE WHAT IT READS IS OF BULK AT MOST 1048576: true; the input reads as it did. -/
def fnExactModuleReadUptoRow : OpenClaim := { program := "ytidlcolgiololaa", sum := "078031a4554c2e66672aaf6d5c5e7ea285f182cc71435bb7fababa24c39adddc", func := "loop.example/g00221/laws.FnExactModuleRead", spec := "fnExactModuleRead", unfollowed := true, recurses := true, apart := false, narrowed := true }
def FnExactModuleReadUptoSaid : Prop := fnExactModuleReadUptoRow.holds Try.pinned (OpenSpec.upto fnExactModuleReadSpec)

/-- 'laws.FnExactEngineSame', WHERE WHAT IT READS IS OF BULK AT MOST 1048576: true; the input reads as it did. -/
def fnExactEngineSameUptoRow : OpenClaim := { program := "ytidlcolgiololaa", sum := "078031a4554c2e66672aaf6d5c5e7ea285f182cc71435bb7fababa24c39adddc", func := "loop.example/g00221/laws.FnExactEngineSame", spec := "fnExactEngineSame", unfollowed := true, recurses := true, apart := false, narrowed := true }
def FnExactEngineSameUptoSaid : Prop := fnExactEngineSameUptoRow.holds Try.pinned (OpenSpec.upto fnExactEngineSameSpec)

/-- 'laws.FnModule', WHERE WHAT IT READS IS OF BULK AT MOST 1048576: true; the input reads as it did. -/
def fnModuleUptoRow : OpenClaim := { program := "ytidlcolgiololaa", sum := "078031a4554c2e66672aaf6d5c5e7ea285f182cc71435bb7fababa24c39adddc", func := "loop.example/g00221/laws.FnModule", spec := "fnModule", unfollowed := true, recurses := true, apart := false, narrowed := true }
def FnModuleUptoSaid : Prop := fnModuleUptoRow.holds Try.pinned (OpenSpec.upto fnModuleSpec)

end Rows
end Go.Proofs.Ytidlcolgiololaa
