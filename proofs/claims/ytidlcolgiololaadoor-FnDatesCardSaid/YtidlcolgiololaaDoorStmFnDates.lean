/- Proved: a value of each of these Go types that reads as data is opened as a Lean value of its kind; no condition. Written by a program of this session over the print of the kit. -/
import Derived.Test.YtidlcolgiololaaDoorOpn
import Derived.Test.YtidlcolgiololaaDoorS0
import Derived.Test.YtidlcolgiololaaDoorS10
namespace Go.Proofs.YtidlcolgiololaaDoor.StmFnDates
open Go.RowKit Go.Proofs.YtidlcolgiololaaDoorW.PrintWords Go.Proofs.YtidlcolgiololaaDoorW.PrintLast Go.Proofs.YtidlcolgiololaaDoorW.PrintMore Go.Proofs.YtidlcolgiololaaDoor.S Go.Proofs.YtidlcolgiololaaDoor.Opn
set_option linter.unusedVariables false
theorem op5 : Opens Tryd.prog 5 (Kd.int .u8) (fun x => (Lit.int .u8 x).wf = true) := opens_int Tryd.underlying5 (by kernel_rfl)
theorem op31 : Opens Tryd.prog 31 (Kd.slice 5 (Kd.int .u8)) (fun x => x.length * 1 ≤ 140737488351232 ∧ ∀ yx_ ∈ x, (Lit.int .u8 yx_).wf = true) := opens_slice Tryd.underlying31 (by kernel_rfl) (by kernel_rfl) op5
/-- What is left to prove. -/
def Pure : Prop := ∀ (l0 : List Int) (l1 : List Int), (l0.length * 1 ≤ 140737488351232 ∧ ∀ yl0_ ∈ l0, (Lit.int .u8 yl0_).wf = true) → (l1.length * 1 ≤ 140737488351232 ∧ ∀ yl1_ ∈ l1, (Lit.int .u8 yl1_).wf = true) → ∃ k, laws_FnDates.f k l0 l1 = some true
theorem walk (P : Pure) (A0 : Option Addr) (c0 : Nat) (l0 : List Int) (A1 : Option Addr) (c1 : Nat) (l1 : List Int) (w : World) (hr0 : Kd.C (Kd.int .u8) w A0 l0.length l0) (hc0 : l0.length ≤ c0) (hr1 : Kd.C (Kd.int .u8) w A1 l1.length l1) (hc1 : l1.length ≤ c1) (g0 : l0.length * 1 ≤ 140737488351232 ∧ ∀ yl0_ ∈ l0, (Lit.int .u8 yl0_).wf = true) (g1 : l1.length * 1 ≤ 140737488351232 ∧ ∀ yl1_ ∈ l1, (Lit.int .u8 yl1_).wf = true) (hLd : Go.Proofs.YtidlcolgiololaaDoor.S.Ld w) :
    Calls Tryd.prog 8 #[.slice A0 l0.length c0, .slice A1 l1.length c1] w fun e w' => e = .returned (.bool true) ∧ Below w.heap.size w w' := by
  obtain ⟨k, h⟩ := P l0 l1 g0 g1
  refine (laws_FnDates.calls k _ _ l0 _ _ l1 true w hr0 hc0 hr1 hc1 hLd h).mono ?_
  rintro e w' ⟨rfl, hd⟩
  exact ⟨rfl, hd⟩
end Go.Proofs.YtidlcolgiololaaDoor.StmFnDates
