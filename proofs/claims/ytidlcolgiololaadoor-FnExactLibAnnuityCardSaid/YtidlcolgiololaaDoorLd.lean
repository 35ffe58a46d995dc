/- Proved: what the library's laid variables hold still holds where nothing of what was there has turned; no condition beyond each lemma's own. -/
import Derived.Test.YtidlcolgiololaaDoorShelf
import Derived.Shelf.Unicode.PredsPay
import Derived.Lib.LaidTab
import Derived.Shelf.Vars
import Derived.Lib.AppendIntMem
namespace Go.Proofs.YtidlcolgiololaaDoor.S
open Go.RowKit Go.Shelf
set_option linter.unusedVariables false
/-- What is known of the library's variables: a number, a table. -/
structure Ld (w : World) : Prop where
  max : ∃ m, w.cell? ⟨0, 0, none⟩ = some (.int .i64 m)
  tab : Lib.TabIs Tryd.prog w "internal/strconv.uint64pow10" .u64 Lib.pow10Tab
theorem Ld.below {w W : World} (h : Ld w) (hb : Below w.heap.size w W) : Ld W := by
  obtain ⟨⟨m, h1⟩, h2⟩ := h
  exact ⟨⟨m, cell_below hb h1⟩, TabIs_below (show Tryd.prog.globalNamed "internal/strconv.uint64pow10" = some 3 by kernel_rfl) h2 hb⟩
end Go.Proofs.YtidlcolgiololaaDoor.S
