/- Proved: a value of each of these Go types that reads as data is opened as a Lean value of its kind; no condition. Written by a program of this session over the print of the kit. -/
import Derived.Test.YtidlcolgiololaaDoorOpn
import Derived.Test.YtidlcolgiololaaDoorS0
import Derived.Test.YtidlcolgiololaaDoorS5
namespace Go.Proofs.YtidlcolgiololaaDoor.StmFnExactDateRead
open Go.RowKit Go.Proofs.YtidlcolgiololaaDoorW.PrintWords Go.Proofs.YtidlcolgiololaaDoorW.PrintLast Go.Proofs.YtidlcolgiololaaDoorW.PrintMore Go.Proofs.YtidlcolgiololaaDoor.S Go.Proofs.YtidlcolgiololaaDoor.Opn
set_option linter.unusedVariables false
theorem op9 : Opens Tryd.prog 9 Kd.string (fun x => x.size ≤ 140737488351232) := opens_string Tryd.underlying9 (by kernel_rfl)
/-- What is left to prove. -/
def Pure : Prop := ∀ (a0 : ByteArray), (a0.size ≤ 140737488351232) → ∃ k, laws_FnExactDateRead.f k a0 = some true
theorem walk (P : Pure) (a0 : ByteArray) (w : World)  (g0 : a0.size ≤ 140737488351232) (hLd : Go.Proofs.YtidlcolgiololaaDoor.S.Ld w) :
    Calls Tryd.prog 7 #[.string a0] w fun e w' => e = .returned (.bool true) ∧ Below w.heap.size w w' := by
  obtain ⟨k, h⟩ := P a0 g0
  refine (laws_FnExactDateRead.calls k a0 true w  hLd h).mono ?_
  rintro e w' ⟨rfl, hd⟩
  exact ⟨rfl, hd⟩
end Go.Proofs.YtidlcolgiololaaDoor.StmFnExactDateRead
