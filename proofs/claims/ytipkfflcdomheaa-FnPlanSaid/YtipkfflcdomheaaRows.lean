/-
  No cell of these rows narrows 'for every input' (looked for: loops, veiled, ifaces, maps, wideKeys, modest, calm, conditions, laid).
  DERIVED. THE GIVEN ROWS OF THIS SEAT. 8 by the template 'for every input the law returns true; each argument reads behind the call as it read before'; 0 by the template 'total and deterministic' (their statements: YtipkfflcdomheaaTotals.lean).
  GIVEN WITH THE SEED: the statements are not yours to turn. If you find one false, say at which input.
  Laid BY PROGRAM, IN A SANDBOX (cutbox-rows.mjs): the forced cells as the released guide's own fill.sh prints them over the translation 81d758bbb7479259… (all of the seat's roots in one cut). By AI agents, Wed Nov 11 2026. No macro, syntax, notation, axiom, sorry.
-/
import Derived.Test.YtipkfflcdomheaaChecked
import GoSem.Claim
import GoSem.ClaimJoined
import GoSem.ClaimMapViews
import Derived.JoinedTies
import Derived.KernelRfl
namespace Go.Proofs.Ytipkfflcdomheaa
/- THE CELL 'sum', in the pinned program and in every row, IS THE sha256 OF THE DUMP (.gsa) THAT YtipkfflcdomheaaProg.lean LOADS. Nothing in Lean hashes anything: it is a label: what it is worth is what the hold of that sum in a sandbox is worth. -/
noncomputable def Try.pinned : Pinned := { name := "ytipkfflcdomheaa", sum := "81d758bbb74792594413ce54ccbfd986fad964259dbff85c508010922917c833", checked := Try.checked }
namespace Rows
def none {H : Type} : Left H := { results := [], args := [] }

/-- 'laws.FnExactLoanLeft': WHATEVER THE INPUT: true; the input reads as it did. -/
def fnExactLoanLeftSpec : ChangeSpec := { name := "fnExactLoanLeft", fn := fun _ => fun
  | [d1, d2] => { results := [.lit (.bool true)], args := [d1, d2] }
  | _ => none }
def fnExactLoanLeftRow : OpenClaim := { program := "ytipkfflcdomheaa", sum := "81d758bbb74792594413ce54ccbfd986fad964259dbff85c508010922917c833", func := "loop.example/g00221/laws.FnExactLoanLeft", spec := "fnExactLoanLeft", named := ["math/bits.divideError", "math/bits.overflowError"], apart := false }
def FnExactLoanLeftSaid : Prop := fnExactLoanLeftRow.holds Try.pinned (OpenSpec.ofChange fnExactLoanLeftSpec)

/-- ITS FALSE NEIGHBOUR: 'it returns false'. Refute it at one input. -/
def fnExactLoanLeftWrong : ChangeSpec := { name := "fnExactLoanLeft", fn := fun _ => fun
  | [d1, d2] => { results := [.lit (.bool false)], args := [d1, d2] }
  | _ => none }
def FnExactLoanLeftWrongFalsely : Prop := fnExactLoanLeftRow.holds Try.pinned (OpenSpec.ofChange fnExactLoanLeftWrong)

/-- 'laws.FnExactInstalment': WHATEVER THE INPUT: true; the input reads as it did. -/
def fnExactInstalmentSpec : ChangeSpec := { name := "fnExactInstalment", fn := fun _ => fun
  | [d] => { results := [.lit (.bool true)], args := [d] }
  | _ => none }
def fnExactInstalmentRow : OpenClaim := { program := "ytipkfflcdomheaa", sum := "81d758bbb74792594413ce54ccbfd986fad964259dbff85c508010922917c833", func := "loop.example/g00221/laws.FnExactInstalment", spec := "fnExactInstalment", named := ["math/bits.divideError", "math/bits.overflowError"], apart := false }
def FnExactInstalmentSaid : Prop := fnExactInstalmentRow.holds Try.pinned (OpenSpec.ofChange fnExactInstalmentSpec)

/-- ITS FALSE NEIGHBOUR: 'it returns false'. Refute it at one input. -/
def fnExactInstalmentWrong : ChangeSpec := { name := "fnExactInstalment", fn := fun _ => fun
  | [d] => { results := [.lit (.bool false)], args := [d] }
  | _ => none }
def FnExactInstalmentWrongFalsely : Prop := fnExactInstalmentRow.holds Try.pinned (OpenSpec.ofChange fnExactInstalmentWrong)

/-- 'laws.FnInstalment': WHATEVER THE INPUT: true; the input reads as it did. -/
def fnInstalmentSpec : ChangeSpec := { name := "fnInstalment", fn := fun _ => fun
  | [d] => { results := [.lit (.bool true)], args := [d] }
  | _ => none }
def fnInstalmentRow : OpenClaim := { program := "ytipkfflcdomheaa", sum := "81d758bbb74792594413ce54ccbfd986fad964259dbff85c508010922917c833", func := "loop.example/g00221/laws.FnInstalment", spec := "fnInstalment", named := ["math/bits.divideError", "math/bits.overflowError"], apart := false }
def FnInstalmentSaid : Prop := fnInstalmentRow.holds Try.pinned (OpenSpec.ofChange fnInstalmentSpec)

/-- ITS FALSE NEIGHBOUR: 'it returns false'. Refute it at one input. -/
def fnInstalmentWrong : ChangeSpec := { name := "fnInstalment", fn := fun _ => fun
  | [d] => { results := [.lit (.bool false)], args := [d] }
  | _ => none }
def FnInstalmentWrongFalsely : Prop := fnInstalmentRow.holds Try.pinned (OpenSpec.ofChange fnInstalmentWrong)

/-- 'laws.FnPlan': WHATEVER THE INPUT: true; the input reads as it did. -/
def fnPlanSpec : ChangeSpec := { name := "fnPlan", fn := fun _ => fun
  | [d] => { results := [.lit (.bool true)], args := [d] }
  | _ => none }
def fnPlanRow : OpenClaim := { program := "ytipkfflcdomheaa", sum := "81d758bbb74792594413ce54ccbfd986fad964259dbff85c508010922917c833", func := "loop.example/g00221/laws.FnPlan", spec := "fnPlan", named := ["math/bits.divideError", "math/bits.overflowError"], apart := false }
def FnPlanSaid : Prop := fnPlanRow.holds Try.pinned (OpenSpec.ofChange fnPlanSpec)

/-- ITS FALSE NEIGHBOUR: 'it returns false'. Refute it at one input. -/
def fnPlanWrong : ChangeSpec := { name := "fnPlan", fn := fun _ => fun
  | [d] => { results := [.lit (.bool false)], args := [d] }
  | _ => none }
def FnPlanWrongFalsely : Prop := fnPlanRow.holds Try.pinned (OpenSpec.ofChange fnPlanWrong)

/-- 'laws.FnExactPlan': WHATEVER THE INPUT: true; the input reads as it did. -/
def fnExactPlanSpec : ChangeSpec := { name := "fnExactPlan", fn := fun _ => fun
  | [d] => { results := [.lit (.bool true)], args := [d] }
  | _ => none }
def fnExactPlanRow : OpenClaim := { program := "ytipkfflcdomheaa", sum := "81d758bbb74792594413ce54ccbfd986fad964259dbff85c508010922917c833", func := "loop.example/g00221/laws.FnExactPlan", spec := "fnExactPlan", named := ["math/bits.divideError", "math/bits.overflowError"], apart := false }
def FnExactPlanSaid : Prop := fnExactPlanRow.holds Try.pinned (OpenSpec.ofChange fnExactPlanSpec)

/-- ITS FALSE NEIGHBOUR: 'it returns false'. Refute it at one input. -/
def fnExactPlanWrong : ChangeSpec := { name := "fnExactPlan", fn := fun _ => fun
  | [d] => { results := [.lit (.bool false)], args := [d] }
  | _ => none }
def FnExactPlanWrongFalsely : Prop := fnExactPlanRow.holds Try.pinned (OpenSpec.ofChange fnExactPlanWrong)

/-- 'laws.FnExactModuleRead': WHATEVER THE INPUT: true; the input reads as it did. -/
def fnExactModuleReadSpec : ChangeSpec := { name := "fnExactModuleRead", fn := fun _ => fun
  | [d] => { results := [.lit (.bool true)], args := [d] }
  | _ => none }
def fnExactModuleReadRow : OpenClaim := { program := "ytipkfflcdomheaa", sum := "81d758bbb74792594413ce54ccbfd986fad964259dbff85c508010922917c833", func := "loop.example/g00221/laws.FnExactModuleRead", spec := "fnExactModuleRead", unfollowed := true, recurses := true, apart := false }
def FnExactModuleReadSaid : Prop := fnExactModuleReadRow.holds Try.pinned (OpenSpec.ofChange fnExactModuleReadSpec)

/-- ITS FALSE NEIGHBOUR: 'it returns false'. Refute it at one input. -/
def fnExactModuleReadWrong : ChangeSpec := { name := "fnExactModuleRead", fn := fun _ => fun
  | [d] => { results := [.lit (.bool false)], args := [d] }
  | _ => none }
def FnExactModuleReadWrongFalsely : Prop := fnExactModuleReadRow.holds Try.pinned (OpenSpec.ofChange fnExactModuleReadWrong)

/-- 'laws.FnExactCallValue': WHATEVER THE INPUT: true; the input reads as it did. -/
def fnExactCallValueSpec : ChangeSpec := { name := "fnExactCallValue", fn := fun _ => fun
  | [d1, d2, d3] => { results := [.lit (.bool true)], args := [d1, d2, d3] }
  | _ => none }
def fnExactCallValueRow : OpenClaim := { program := "ytipkfflcdomheaa", sum := "81d758bbb74792594413ce54ccbfd986fad964259dbff85c508010922917c833", func := "loop.example/g00221/laws.FnExactCallValue", spec := "fnExactCallValue", named := ["math/bits.divideError", "math/bits.overflowError"], apart := false }
def FnExactCallValueSaid : Prop := fnExactCallValueRow.holds Try.pinned (OpenSpec.ofChange fnExactCallValueSpec)

/-- ITS FALSE NEIGHBOUR: 'it returns false'. Refute it at one input. -/
def fnExactCallValueWrong : ChangeSpec := { name := "fnExactCallValue", fn := fun _ => fun
  | [d1, d2, d3] => { results := [.lit (.bool false)], args := [d1, d2, d3] }
  | _ => none }
def FnExactCallValueWrongFalsely : Prop := fnExactCallValueRow.holds Try.pinned (OpenSpec.ofChange fnExactCallValueWrong)

/-- 'laws.FnExactEngineSame': WHATEVER THE INPUT: true; the input reads as it did. -/
def fnExactEngineSameSpec : ChangeSpec := { name := "fnExactEngineSame", fn := fun _ => fun
  | [d1, d2] => { results := [.lit (.bool true)], args := [d1, d2] }
  | _ => none }
def fnExactEngineSameRow : OpenClaim := { program := "ytipkfflcdomheaa", sum := "81d758bbb74792594413ce54ccbfd986fad964259dbff85c508010922917c833", func := "loop.example/g00221/laws.FnExactEngineSame", spec := "fnExactEngineSame", unfollowed := true, recurses := true, apart := false }
def FnExactEngineSameSaid : Prop := fnExactEngineSameRow.holds Try.pinned (OpenSpec.ofChange fnExactEngineSameSpec)

/-- ITS FALSE NEIGHBOUR: 'it returns false'. Refute it at one input. -/
def fnExactEngineSameWrong : ChangeSpec := { name := "fnExactEngineSame", fn := fun _ => fun
  | [d1, d2] => { results := [.lit (.bool false)], args := [d1, d2] }
  | _ => none }
def FnExactEngineSameWrongFalsely : Prop := fnExactEngineSameRow.holds Try.pinned (OpenSpec.ofChange fnExactEngineSameWrong)

/- THE SECOND FORM. 'bulk': how many values and letters a reading holds, each counted each time it is reached (what is shared counts as often as it is met; a slice's spare places count too). A statement '..UptoSaid' is the law's where the arguments, and the package variables that the reading takes, are together of bulk at most 1048576: NARROWER than '..Said'. Prove '..Said' where nothing that the law and all that it calls make is longer than what came in: it says more and counts as full. Else prove '..UptoSaid'. A law counts once. -/
mutual
def uptoBulk {H : Type} : DataW H → Nat
  | .lit (.string bytes) => bytes.length + 1
  | .lit _ => 1
  | .nil => 1
  | .ptr d => uptoBulk d + 1
  | .slice elems spare => uptoBulkAll elems + uptoBulkAll spare + 1
  | .agg parts => uptoBulkAll parts + 1
  | .iface _ d => uptoBulk d + 1
  | .map entries => uptoBulkEntries entries + 1
  | .held _ => 1
def uptoBulkAll {H : Type} : List (DataW H) → Nat
  | [] => 0
  | d :: r => uptoBulk d + uptoBulkAll r
def uptoBulkEntries {H : Type} : List (Lit × DataW H) → Nat
  | [] => 0
  | x :: r => uptoBulkEntry x + uptoBulkEntries r
def uptoBulkEntry {H : Type} : Lit × DataW H → Nat
  | (.string bytes, d) => bytes.length + uptoBulk d + 1
  | (_, d) => uptoBulk d + 1
 end
def uptoSmall : (H : Type) → List (DataW H) → Bool := fun _ ds => decide (uptoBulkAll ds ≤ 1048576)
def OpenSpec.upto (s : _root_.Go.ChangeSpec) : _root_.Go.OpenSpec := { _root_.Go.OpenSpec.ofChange s with cond := some uptoSmall }

/-- 'laws.FnExactLoanLeft', WHERE WHAT IT READS IS OF BULK AT MOST 1048576: true; the input reads as it did. -/
def fnExactLoanLeftUptoRow : OpenClaim := { program := "ytipkfflcdomheaa", sum := "81d758bbb74792594413ce54ccbfd986fad964259dbff85c508010922917c833", func := "loop.example/g00221/laws.FnExactLoanLeft", spec := "fnExactLoanLeft", named := ["math/bits.divideError", "math/bits.overflowError"], apart := false, narrowed := true }
def FnExactLoanLeftUptoSaid : Prop := fnExactLoanLeftUptoRow.holds Try.pinned (OpenSpec.upto fnExactLoanLeftSpec)

/-- 'laws.FnExactInstalment', WHERE WHAT IT READS IS OF BULK AT MOST 1048576: true; the input reads as it did. -/
def fnExactInstalmentUptoRow : OpenClaim := { program := "ytipkfflcdomheaa", sum := "81d758bbb74792594413ce54ccbfd986fad964259dbff85c508010922917c833", func := "loop.example/g00221/laws.FnExactInstalment", spec := "fnExactInstalment", named := ["math/bits.divideError", "math/bits.overflowError"], apart := false, narrowed := true }
def FnExactInstalmentUptoSaid : Prop := fnExactInstalmentUptoRow.holds Try.pinned (OpenSpec.upto fnExactInstalmentSpec)

/-- 'laws.FnInstalment', WHERE WHAT IT READS IS OF BULK AT MOST 1048576: true; the input reads as it did. -/
def fnInstalmentUptoRow : OpenClaim := { program := "ytipkfflcdomheaa", sum := "81d758bbb74792594413ce54ccbfd986fad964259dbff85c508010922917c833", func := "loop.example/g00221/laws.FnInstalment", spec := "fnInstalment", named := ["math/bits.divideError", "math/bits.overflowError"], apart := false, narrowed := true }
def FnInstalmentUptoSaid : Prop := fnInstalmentUptoRow.holds Try.pinned (OpenSpec.upto fnInstalmentSpec)

/-- 'laws.FnPlan', WHERE WHAT IT READS IS OF BULK AT MOST 1048576: true; the input reads as it did. -/
def fnPlanUptoRow : OpenClaim := { program := "ytipkfflcdomheaa", sum := "81d758bbb74792594413ce54ccbfd986fad964259dbff85c508010922917c833", func := "loop.example/g00221/laws.FnPlan", spec := "fnPlan", named := ["math/bits.divideError", "math/bits.overflowError"], apart := false, narrowed := true }
def FnPlanUptoSaid : Prop := fnPlanUptoRow.holds Try.pinned (OpenSpec.upto fnPlanSpec)

/-- 'laws.FnExactPlan', WHERE WHAT IT READS IS OF BULK AT MOST 1048576: true; the input reads as it did. -/
def fnExactPlanUptoRow : OpenClaim := { program := "ytipkfflcdomheaa", sum := "81d758bbb74792594413ce54ccbfd986fad964259dbff85c508010922917c833", func := "loop.example/g00221/laws.FnExactPlan", spec := "fnExactPlan", named := ["math/bits.divideError", "math/bits.overflowError"], apart := false, narrowed := true }
def FnExactPlanUptoSaid : Prop := fnExactPlanUptoRow.holds Try.pinned (OpenSpec.upto fnExactPlanSpec)

/-- 'laws.FnExactModuleRead', WHERE WHAT IT READS IS OF BULK AT MOST 1048576: true; the input reads as it did. -/
def fnExactModuleReadUptoRow : OpenClaim := { program := "ytipkfflcdomheaa", sum := "81d758bbb74792594413ce54ccbfd986fad964259dbff85c508010922917c833", func := "loop.example/g00221/laws.FnExactModuleRead", spec := "fnExactModuleRead", unfollowed := true, recurses := true, apart := false, narrowed := true }
def FnExactModuleReadUptoSaid : Prop := fnExactModuleReadUptoRow.holds Try.pinned (OpenSpec.upto fnExactModuleReadSpec)

/-- 'laws.FnExactCallValue', WHERE WHAT IT READS IS OF BULK AT MOST 1048576: true; the input reads as it did. -/
def fnExactCallValueUptoRow : OpenClaim := { program := "ytipkfflcdomheaa", sum := "81d758bbb74792594413ce54ccbfd986fad964259dbff85c508010922917c833", func := "loop.example/g00221/laws.FnExactCallValue", spec := "fnExactCallValue", named := ["math/bits.divideError", "math/bits.overflowError"], apart := false, narrowed := true }
def FnExactCallValueUptoSaid : Prop := fnExactCallValueUptoRow.holds Try.pinned (OpenSpec.upto fnExactCallValueSpec)

/-- 'laws.FnExactEngineSame', WHERE WHAT IT READS IS OF BULK AT MOST 1048576: true; the input reads as it did. -/
def fnExactEngineSameUptoRow : OpenClaim := { program := "ytipkfflcdomheaa", sum := "81d758bbb74792594413ce54ccbfd986fad964259dbff85c508010922917c833", func := "loop.example/g00221/laws.FnExactEngineSame", spec := "fnExactEngineSame", unfollowed := true, recurses := true, apart := false, narrowed := true }
def FnExactEngineSameUptoSaid : Prop := fnExactEngineSameUptoRow.holds Try.pinned (OpenSpec.upto fnExactEngineSameSpec)

end Rows
end Go.Proofs.Ytipkfflcdomheaa
