/- Plain laws: how a value that came in, of a type made of whole numbers, bools, strings, slices and structs, is opened as Lean data; no condition beyond each lemma's own. -/
import Derived.Test.YtidlcolgiololaaDoorS0
import Derived.ProofKit
import Derived.OpenShut
import Derived.ShutString
import Derived.ChangeOld
import Derived.Below
import Derived.SizedLaws
import Derived.Deep.Slices
import Derived.DataReads
import Derived.Carry
namespace Go.Proofs.YtidlcolgiololaaDoor.Opn
open Go.RowKit Go.Deep Go.Proofs.YtidlcolgiololaaDoorW.PrintWords
set_option linter.unusedVariables false
set_option linter.unusedSimpArgs false

structure Opens {α : Type} (P : Program) (t : TypeId) (d : Kd α) (G : α → Prop) : Prop where
  sz : d.sz = P.cellsOf t
  op : ∀ {H : Type} (enc : TypeId × Value → H) (W : World) (fuel : Nat) (cs : List Value) (x : DataW H × List MemPlace),
    DataW.trod enc P W 0 (fun _ => true) true fuel t cs = some x → (∀ n ∈ x.1.weights P t, n ≤ reachBytes) → ∃ y, d.K W y cs ∧ G y
theorem opens_int {P : Program} {t : TypeId} {k : IntKind} (hu : P.underlying t = some (.int k)) (hc : P.cellsOf t = 1) : Opens P t (Kd.int k) (fun n => (Lit.int k n).wf = true) :=
  ⟨hc.symm, by
    intro H enc W fuel cs x h hw
    obtain ⟨n, rfl, rfl, hwf⟩ := DataW.trod_int hu h
    exact ⟨n, rfl, hwf⟩⟩
theorem weights_all {H : Type} {P : Program} {e : TypeId} : ∀ {l : List (DataW H)} {d : DataW H}, d ∈ l → ∀ n ∈ d.weights P e, n ∈ DataW.weightsAll P e l
  | a :: l, d, hm, n, hn => by
    simp only [DataW.weightsAll, List.mem_append]
    rcases List.mem_cons.1 hm with rfl | hm
    · exact .inl hn
    · exact .inr (weights_all hm n hn)
theorem opens_slice {α : Type} {P : Program} {t e : TypeId} {d : Kd α} {G : α → Prop} {B : Nat} (hu : P.underlying t = some (.slice e)) (hc : P.cellsOf t = 1) (hB : P.bytesOf e = B) (ho : Opens P e d G) :
    Opens P t (Kd.slice e d) (fun xs => xs.length * B ≤ 140737488351232 ∧ ∀ x ∈ xs, G x) :=
  ⟨hc.symm, by
    intro H enc W fuel cs x h hw
    rcases open_slice hu h with ⟨rfl, rfl⟩ | ⟨a, len, cap, m, n, D, Pl, rfl, hb, hl, hm, em, rfl, hel⟩
    · exact ⟨[], ⟨none, 0, rfl, Nat.le_refl _, rfl, by simp, fun h => absurd h (by simp)⟩, by simp, by simp⟩
    · have elen : len ≤ m := by rw [em]; split <;> omega
      have hsl : ∀ i, i < len → ∃ (y : α) (c : List Value), d.K W y c ∧ G y ∧ (∀ j u, c[j]? = some u → W.cell? (a.add (i * d.sz + j)) = some u) := by
        intro i hi
        obtain ⟨c, hc1, hc2⟩ := hel i (by omega)
        obtain ⟨y, hy, hg⟩ := ho.op enc W n c _ hc2 (fun z hz => hw z (by
          simp only [DataW.weights, hu, List.mem_cons, List.mem_append]
          exact .inr (.inl (weights_all (List.mem_map.2 ⟨i, List.mem_range.2 hi, rfl⟩) z hz))))
        refine ⟨y, c, hy, hg, fun j u hju => ?_⟩
        obtain ⟨_, hlen, hcell⟩ := World.cells?_some hc1
        have hj : j < c.length := (List.getElem?_eq_some_iff.1 hju).1
        have := hcell j (by omega)
        rw [ho.sz, ← Deep.add_add, this, hju]
      have hlist : ∀ k, k ≤ len → ∃ ys : List α, ys.length = k ∧ (∀ x ∈ ys, G x) ∧ ∀ j p, ys[j]? = some p → ∃ c : List Value, c.length = d.sz ∧ d.K W p c ∧ ∀ i u, c[i]? = some u → W.cell? (a.add (j * d.sz + i)) = some u := by
        intro k
        induction k with
        | zero => exact fun _ => ⟨[], rfl, by simp, by simp⟩
        | succ k ih =>
          intro hk
          obtain ⟨ys, h1, h2, h3⟩ := ih (by omega)
          obtain ⟨y, c, hy, hg, hcell⟩ := hsl k (by omega)
          refine ⟨ys ++ [y], by simp [h1], ?_, ?_⟩
          · intro x hx
            rcases List.mem_append.1 hx with hx | hx
            · exact h2 x hx
            · rw [List.mem_singleton.1 hx]; exact hg
          · intro j p hp
            by_cases hj : j < ys.length
            · rw [List.getElem?_append_left hj] at hp
              exact h3 j p hp
            · rw [List.getElem?_append_right (by omega)] at hp
              have hj0 : j - ys.length = 0 := by
                rcases Nat.eq_zero_or_pos (j - ys.length) with h0 | h0
                · exact h0
                · rw [List.getElem?_eq_none (by simp; omega)] at hp; cases hp
              rw [hj0] at hp
              have hp' : y = p := by simpa using hp
              subst hp'
              have hjk : j = k := by omega
              subst hjk
              exact ⟨c, d.K_len hy, hy, hcell⟩
      obtain ⟨ys, h1, h2, h3⟩ := hlist len (Nat.le_refl _)
      subst h1
      refine ⟨ys, ⟨some a, cap, rfl, hl, rfl, ?_, fun _ => ⟨a, rfl, h3⟩⟩, ?_, h2⟩
      · have : maxLen = 9223372036854775807 := by decide
        omega
      · have hz := hw ((((List.range ys.length).map D).length + ((List.range (m - ys.length)).map fun j => D (ys.length + j)).length) * P.bytesOf e) (by simp [DataW.weights, hu])
        simp only [List.length_map, List.length_range] at hz
        have e : reachBytes = 140737488351232 := by decide
        rw [hB, e] at hz
        exact Nat.le_trans (Nat.mul_le_mul_right _ (by omega)) hz⟩

theorem opens_arg {α : Type} {P : Program} {t : TypeId} {d : Kd α} {G : α → Prop} (ho : Opens P t d G) {H : Type} {enc : TypeId × Value → H} {W : World} {v : Value} {x : DataW H} {ps : List MemPlace} {ts : List TypeId} {ds : List (DataW H)} {j : Nat}
    (h : DataW.Trod enc P W 0 (fun _ => true) true t v x ps) (hsz : (DataW.weightsEach P ts ds).all (· ≤ reachBytes) = true) (ht : ts[j]? = some t) (hd : ds[j]? = some x) : ∃ y, d.K W y v.cells.toList ∧ G y := by
  obtain ⟨fuel, hf⟩ := h
  refine ho.op enc W fuel _ _ hf (fun n hn => ?_)
  have := List.all_eq_true.1 hsz n (DataW.weights_mem_each ht hd n hn)
  simpa using this
theorem arg_lt {H : Type} {enc : TypeId × Value → H} {P : Program} {W : World} {t : TypeId} {v : Value} {x : DataW H} {ps : List MemPlace} (h : DataW.Trod enc P W 0 (fun _ => true) true t v x ps) : ∀ p ∈ ps, p.block < W.heap.size := by
  obtain ⟨fuel, hf⟩ := h
  exact DataW.trod_lt fuel _ _ _ hf
end Go.Proofs.YtidlcolgiololaaDoor.Opn
