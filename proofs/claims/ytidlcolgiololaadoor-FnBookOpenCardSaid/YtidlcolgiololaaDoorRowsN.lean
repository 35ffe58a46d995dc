/- Plain: copy(d, s) at elements of any number of cells, in terms of the row that is written, and what an element put into a row makes of the row; no condition beyond each lemma's own. -/
import Derived.Laws.CopyRow
import Derived.Laws.AppendOwn
import Derived.Lib.AppendZerosOnto
import Derived.Shelf.Spec.SlicesInsert
namespace Go.Proofs.YtidlcolgiololaaDoor.Rows
open Go Go.RowKit
variable {P : Program}
set_option linter.unusedVariables false
set_option linter.unusedSimpArgs false

theorem copy_row (w : World) (dT sT ty elem : TypeId) (g o dLen dCap : Nat) (a : Addr) (sLen sCap : Nat) (cur : Array Value) (t : TypeId) (cs : List Value) (sz : Nat)
    (hu : P.underlying dT = some (.slice elem)) (hs : (P.info? elem).map (·.size) = some sz)
    (hg : w.heap[g]? = some (.cells cur t (0, 0))) (hn : cs.length = Nat.min sLen dLen * sz)
    (hsrc : ∀ j v, cs[j]? = some v → w.cell? (a.add j) = some v) (hfit : o + cs.length ≤ cur.size) (h1 : ∀ v ∈ cs, v.oneCell' = true) :
    (Builtin.copy_ #[dT, sT] ty #[.slice (some ⟨g, o, none⟩) dLen dCap, .slice (some a) sLen sCap]).run P w =
      .ok (goInt (Nat.min sLen dLen)) (w.setRow g (cur.toList.take o ++ cs ++ cur.toList.drop (o + cs.length)).toArray) := by
  have hl := run_loadCells_list (P := P) w a cs hsrc
  have hst := run_storeCells_at P g o t cs 0 cur w hg (by simpa using hfit) h1
  cases hq : P.info? elem with
  | none => simp [hq] at hs
  | some i =>
    have hi : i.size = sz := by simpa [hq] using hs
    simp [Builtin.copy_, run_underlying hu, Builtin.lenOf, Builtin.firstCells, sizeOf, typeInfo, hq, hi, ← hn, hl, hst]
/-- Shifted, then put. -/
theorem shift_list {l B news : List Value} {I N s : Nat} (hI : I ≤ N) (hN : N + s ≤ l.length) (hB : B = (l.take N).drop I) (hs : news.length = s) :
    ((l.take (I + s) ++ B ++ l.drop (I + s + B.length)).take I ++ news ++ (l.take (I + s) ++ B ++ l.drop (I + s + B.length)).drop (I + s)).take (N + s) = (l.take N).take I ++ news ++ B := by
  have hBl : B.length = N - I := by rw [hB, List.length_drop, List.length_take]; omega
  have e1 : (l.take (I + s) ++ B ++ l.drop (I + s + B.length)).take I = (l.take N).take I := by
    rw [List.append_assoc, List.take_append_of_le_length (by rw [List.length_take]; omega), List.take_take, List.take_take]
    congr 1
    omega
  have e2 : (l.take (I + s) ++ B ++ l.drop (I + s + B.length)).drop (I + s) = B ++ l.drop (I + s + B.length) := by
    rw [List.append_assoc, List.drop_append_of_le_length (by rw [List.length_take]; omega), List.drop_of_length_le (by rw [List.length_take]; omega), List.nil_append]
  rw [e1, e2, ← List.append_assoc]
  apply List.take_left'
  rw [List.length_append, List.length_append, List.length_take, List.length_take, hBl, hs]
  omega
theorem shift_length {l B news : List Value} {I N s : Nat} (hI : I ≤ N) (hN : N + s ≤ l.length) (hB : B = (l.take N).drop I) (hs : news.length = s) :
    ((l.take (I + s) ++ B ++ l.drop (I + s + B.length)).take I ++ news ++ (l.take (I + s) ++ B ++ l.drop (I + s + B.length)).drop (I + s)).length = l.length := by
  have hBl : B.length = N - I := by rw [hB, List.length_drop, List.length_take]; omega
  simp only [List.length_append, List.length_take, List.length_drop, hBl, hs]
  omega
/-- Put, then the rest behind it. -/
theorem put_list {l B news xs : List Value} {I N s : Nat} (hI : I ≤ N) (hN : N + s ≤ l.length) (hl : l.take I = xs.take I) (hB : B = xs.drop I) (hx : xs.length = N) (hs : news.length = s) :
    ((l.take I ++ news ++ l.drop (I + news.length)).take (I + s) ++ B ++ (l.take I ++ news ++ l.drop (I + news.length)).drop (I + s + B.length)).take (N + s) = xs.take I ++ news ++ B := by
  have hBl : B.length = N - I := by rw [hB, List.length_drop, hx]
  have e1 : (l.take I ++ news ++ l.drop (I + news.length)).take (I + s) = xs.take I ++ news := by
    rw [← hl]
    apply List.take_left'
    rw [List.length_append, List.length_take, hs]
    omega
  rw [e1]
  apply List.take_left'
  rw [List.length_append, List.length_append, List.length_take, hBl, hs]
  omega
theorem put_length {l B news xs : List Value} {I N s : Nat} (hI : I ≤ N) (hN : N + s ≤ l.length) (hB : B = xs.drop I) (hx : xs.length = N) (hs : news.length = s) :
    ((l.take I ++ news ++ l.drop (I + news.length)).take (I + s) ++ B ++ (l.take I ++ news ++ l.drop (I + news.length)).drop (I + s + B.length)).length = l.length := by
  have hBl : B.length = N - I := by rw [hB, List.length_drop, hx]
  simp only [List.length_append, List.length_take, List.length_drop, hBl, hs]
  omega
/-- A world in which a row of its own was written anew. -/
theorem grown_setRow {w W : World} {v : Value} {g : Nat} (cur : Array Value) (h : w.grownBy W v.ownBlock) (hg : v.ownBlock = some g) : w.grownBy (W.setRow g cur) v.ownBlock :=
  ⟨h.os, h.tape, h.output, by simpa using h.size, fun k hk hne => by
    rw [setRow_other W g k _ (fun e => hne (by rw [hg, e]))]
    exact h.block k hk hne⟩
theorem grown_drew {w W : World} {row : Option Nat} (h : w.grownBy W row) : w.grownBy W.drew row := ⟨h.os, h.tape, h.output, h.size, h.block⟩
theorem grown_refl (w : World) (row : Option Nat) : w.grownBy w row := ⟨rfl, rfl, rfl, Nat.le_refl _, fun _ _ _ => rfl⟩
end Go.Proofs.YtidlcolgiololaaDoor.Rows
