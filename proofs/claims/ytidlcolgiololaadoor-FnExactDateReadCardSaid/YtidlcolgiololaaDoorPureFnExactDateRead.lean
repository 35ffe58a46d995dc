/- Proved: the program's DateRead answers as the reference's does, at every text; no condition. -/
import Derived.Test.YtidlcolgiololaaDoorDtRead
import Derived.Test.YtidlcolgiololaaDoorStmFnExactDateRead
import Derived.Test.YtidlcolgiololaaDoorS0
import Derived.Test.YtidlcolgiololaaDoorS5
namespace Go.Proofs.YtidlcolgiololaaDoor.Pure
open Go.RowKit Go.Proofs.YtidlcolgiololaaDoor.S Go.Proofs.YtidlcolgiololaaDoorW.PrintWords Go.Proofs.YtidlcolgiololaaDoor.Cal Go.Proofs.YtidlcolgiololaaDoor.Dt
set_option linter.unusedVariables false
set_option linter.unusedSimpArgs false

theorem FnExactDateRead : StmFnExactDateRead.Pure := by
  intro s hs
  refine ⟨300, ?_⟩
  unfold laws_FnExactDateRead.f
  by_cases c : (s.size : Int) > 1048576
  · exact yes c rfl
  refine no c ?_
  obtain ⟨⟨x, y⟩, _, e⟩ := read_same s (by omega)
  refine bnd (e 300 (Nat.le_refl _)).1 ?_
  refine bnd (e 300 (Nat.le_refl _)).2 ?_
  refine bnd (a := true) (yes rfl (yes rfl rfl)) ?_
  exact yes rfl rfl
end Go.Proofs.YtidlcolgiololaaDoor.Pure
