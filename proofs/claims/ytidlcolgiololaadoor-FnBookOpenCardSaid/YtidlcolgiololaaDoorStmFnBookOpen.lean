/- Proved: each Go function named here answers as its plain Lean function says; no condition. -/
import Derived.Test.YtidlcolgiololaaDoorOpn
import Derived.Test.YtidlcolgiololaaDoorS0
import Derived.Test.YtidlcolgiololaaDoorS19
namespace Go.Proofs.YtidlcolgiololaaDoor.StmFnBookOpen
open Go.RowKit Go.Proofs.YtidlcolgiololaaDoorW.PrintWords Go.Proofs.YtidlcolgiololaaDoorW.PrintLast Go.Proofs.YtidlcolgiololaaDoorW.PrintMore Go.Proofs.YtidlcolgiololaaDoor.S Go.Proofs.YtidlcolgiololaaDoor.Opn
set_option linter.unusedVariables false
theorem op5 : Opens Tryd.prog 5 (Kd.int .u8) (fun x => (Lit.int .u8 x).wf = true) := opens_int Tryd.underlying5 (by kernel_rfl)
theorem op31 : Opens Tryd.prog 31 (Kd.slice 5 (Kd.int .u8)) (fun x => x.length * 1 ≤ 140737488351232 ∧ ∀ yx_ ∈ x, (Lit.int .u8 yx_).wf = true) := opens_slice Tryd.underlying31 (by kernel_rfl) (by kernel_rfl) op5
/-- What is left to prove. -/
def Pure : Prop := ∀ (l0 : List Int), (l0.length * 1 ≤ 140737488351232 ∧ ∀ yl0_ ∈ l0, (Lit.int .u8 yl0_).wf = true) → ∃ k, laws_FnBookOpen.f k l0 = some true
theorem walk (P : Pure) (A0 : Option Addr) (c0 : Nat) (l0 : List Int) (w : World) (hr0 : Kd.C (Kd.int .u8) w A0 l0.length l0) (hc0 : l0.length ≤ c0) (g0 : l0.length * 1 ≤ 140737488351232 ∧ ∀ yl0_ ∈ l0, (Lit.int .u8 yl0_).wf = true) :
    Calls Tryd.prog 4 #[.slice A0 l0.length c0] w fun e w' => e = .returned (.bool true) ∧ Below w.heap.size w w' := by
  obtain ⟨k, h⟩ := P l0 g0
  refine (laws_FnBookOpen.calls k _ _ l0 true w hr0 hc0 h).mono ?_
  rintro e w' ⟨rfl, hd⟩
  exact ⟨rfl, hd⟩
end Go.Proofs.YtidlcolgiololaaDoor.StmFnBookOpen
