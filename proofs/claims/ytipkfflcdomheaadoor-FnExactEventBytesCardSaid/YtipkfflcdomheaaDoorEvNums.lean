/- Plain laws: rows of numbers: their copies, their likeness, an event's size; no condition beyond each lemma's own. -/
import Derived.Test.YtipkfflcdomheaaDoorDiskBase
import Derived.Test.YtipkfflcdomheaaDoorS0
import Derived.Test.YtipkfflcdomheaaDoorS1
namespace Go.Proofs.YtipkfflcdomheaaDoor.EvNums
open Go.RowKit Go.Proofs.YtipkfflcdomheaaDoor.S Go.Proofs.YtipkfflcdomheaaDoorW.PrintWords Go.Proofs.YtipkfflcdomheaaDoor.Cal Go.Proofs.YtipkfflcdomheaaDoor.DiskBase
set_option linter.unusedVariables false
set_option linter.unusedSimpArgs false

theorem its {c : Prop} [Decidable c] {x : Option Bool} {b : Bool} (h : x = some b) : (if c then x else some false) = some (decide c && b) := by
  by_cases k : c
  · rw [if_pos k, h, decide_eq_true k, Bool.true_and]
  · rw [if_neg k, decide_eq_false k, Bool.false_and]
theorem itb {t : Bool} {x : Option Bool} {b : Bool} (h : x = some b) : (if t = true then x else some false) = some (t && b) := by
  cases t with
  | true => rw [if_pos rfl, h, Bool.true_and]
  | false => rw [if_neg (by simp), Bool.false_and]
theorem rd_pre (pre r : List Int) (x : Int) : rd (pre ++ x :: r) (pre.length : Int) = x := by
  unfold rd
  rw [List.getD_eq_getElem?_getD, Int.toNat_natCast, List.getElem?_append_right (Nat.le_refl _), Nat.sub_self]
  rfl
theorem set_pre (pre : List Int) (x : Int) (n : Nat) : (pre ++ List.replicate (n + 1) 0).set ((pre.length : Int)).toNat x = (pre ++ [x]) ++ List.replicate n 0 := by
  rw [Int.toNat_natCast, List.set_append_right _ _ (Nat.le_refl _), Nat.sub_self, List.replicate_succ, List.set_cons_zero, List.append_assoc]
  rfl
theorem to_l0 : ∀ (rest pre : List Int), pre.length + rest.length ≤ 100000000 → ∀ k, rest.length + 1 ≤ k → laws_toInt64S.l0 k (pre ++ rest) (pre ++ List.replicate rest.length 0) (pre.length : Int) = some (pre ++ rest) := by
  intro rest
  induction rest with
  | nil =>
    intro pre h k hk
    obtain ⟨j, rfl⟩ : ∃ j, k = j + 1 := ⟨k - 1, by omega⟩
    rw [laws_toInt64S.l0]
    exact no (by simp) rfl
  | cons x r ih =>
    intro pre h k hk
    rw [List.length_cons] at h hk
    obtain ⟨j, rfl⟩ : ∃ j, k = j + 1 := ⟨k - 1, by omega⟩
    have e3 := nxt pre x (by omega)
    rw [laws_toInt64S.l0]
    refine yes (by rw [List.length_append, List.length_cons]; omega) ?_
    refine yes (by omega) ?_
    refine yes (by rw [List.length_append, List.length_replicate, List.length_cons]; omega) ?_
    rw [rd_pre, e3, List.length_cons, set_pre, snoc pre r x]
    exact ih (pre ++ [x]) (by rw [List.length_append, List.length_singleton]; omega) j (Nat.le_of_succ_le_succ hk)
theorem to_ints {l : List Int} (h : l.length ≤ 1048577) {k : Nat} (hk : 2000000 ≤ k) : laws_toInt64S.f k l = some l := by
  unfold laws_toInt64S.f
  refine yes (by omega) ?_
  refine yes (by rw [Int.toNat_natCast]; omega) ?_
  rw [Int.toNat_natCast]
  exact to_l0 l [] (by rw [List.length_nil]; omega) k (by omega)
theorem eq_l0 : ∀ (rest pre : List Int), pre.length + rest.length ≤ 100000000 → ∀ k, rest.length + 1 ≤ k → laws_eqInt64S.l0 k (pre ++ rest) (pre ++ rest) (pre.length : Int) = some true := by
  intro rest
  induction rest with
  | nil =>
    intro pre h k hk
    obtain ⟨j, rfl⟩ : ∃ j, k = j + 1 := ⟨k - 1, by omega⟩
    rw [laws_eqInt64S.l0]
    exact no (by simp) rfl
  | cons x r ih =>
    intro pre h k hk
    rw [List.length_cons] at h hk
    obtain ⟨j, rfl⟩ : ∃ j, k = j + 1 := ⟨k - 1, by omega⟩
    have e3 := nxt pre x (by omega)
    rw [laws_eqInt64S.l0]
    refine yes (by rw [List.length_append, List.length_cons]; omega) ?_
    refine yes (by omega) ?_
    refine yes (by rw [List.length_append, List.length_cons]; omega) ?_
    refine yes rfl ?_
    rw [e3, snoc pre r x]
    exact ih (pre ++ [x]) (by rw [List.length_append, List.length_singleton]; omega) j (Nat.le_of_succ_le_succ hk)
theorem eq_ints {l : List Int} (h : l.length ≤ 1048577) {k : Nat} (hk : 2000000 ≤ k) : laws_eqInt64S.f k l l = some true := by
  unfold laws_eqInt64S.f
  refine yes rfl ?_
  exact eq_l0 l [] (by rw [List.length_nil]; omega) k (by omega)
theorem to_event {K A D : Int} {I N P T : ByteArray} {l : List Int} (h : l.length ≤ 1048577) {k : Nat} (hk : 2000000 ≤ k) : laws_toEvent.f k K I N P T l A D = some (K, I, N, P, T, l, A, D) := by
  unfold laws_toEvent.f
  exact bnd (to_ints h hk) rfl
theorem eq_event {K A D : Int} {I N P T : ByteArray} {l : List Int} (h : l.length ≤ 1048577) {k : Nat} (hk : 2000000 ≤ k) : laws_eqEvent.f k K I N P T l A D K I N P T l A D = some true := by
  unfold laws_eqEvent.f
  refine yes rfl ?_
  refine yes rfl ?_
  refine yes rfl ?_
  refine yes rfl ?_
  refine yes rfl ?_
  refine bnd (eq_ints h hk) ?_
  refine yes rfl ?_
  refine yes rfl ?_
  exact yes rfl rfl
theorem sz_event (K A D : Int) {I N P T : ByteArray} {l : List Int} (h1 : I.size ≤ 140737488351232) (h2 : N.size ≤ 140737488351232) (h3 : P.size ≤ 140737488351232) (h4 : T.size ≤ 140737488351232) (h5 : l.length ≤ 140737488351232) :
    ∃ v, laws_szEvent.f K I N P T l A D 1048576 = some v ∧ (v < 0 ∨ (I.size ≤ 1048576 ∧ N.size ≤ 1048576 ∧ P.size ≤ 1048576 ∧ T.size ≤ 1048576 ∧ l.length ≤ 1048576)) := by
  unfold laws_szEvent.f
  rw [wid (x := 1048576 - (I.size : Int)) (by omega) (by omega), wid (x := 1048576 - (I.size : Int) - (N.size : Int)) (by omega) (by omega), wid (x := 1048576 - (I.size : Int) - (N.size : Int) - (P.size : Int)) (by omega) (by omega), wid (x := 1048576 - (I.size : Int) - (N.size : Int) - (P.size : Int) - (T.size : Int)) (by omega) (by omega)]
  by_cases c1 : 1048576 - (I.size : Int) < 0
  · exact ⟨-1, yes c1 rfl, Or.inl (by omega)⟩
  by_cases c2 : 1048576 - (I.size : Int) - (N.size : Int) < 0
  · exact ⟨-1, no c1 (yes c2 rfl), Or.inl (by omega)⟩
  by_cases c3 : 1048576 - (I.size : Int) - (N.size : Int) - (P.size : Int) < 0
  · exact ⟨-1, no c1 (no c2 (yes c3 rfl)), Or.inl (by omega)⟩
  by_cases c4 : 1048576 - (I.size : Int) - (N.size : Int) - (P.size : Int) - (T.size : Int) < 0
  · exact ⟨-1, no c1 (no c2 (no c3 (yes c4 rfl))), Or.inl (by omega)⟩
  have w5 : wrap64 (1048576 - (I.size : Int) - (N.size : Int) - (P.size : Int) - (T.size : Int) - (l.length : Int)) = 1048576 - (I.size : Int) - (N.size : Int) - (P.size : Int) - (T.size : Int) - (l.length : Int) := wid (by omega) (by omega)
  by_cases c5 : 1048576 - (I.size : Int) - (N.size : Int) - (P.size : Int) - (T.size : Int) - (l.length : Int) < 0
  · refine ⟨-1, no c1 (no c2 (no c3 (no c4 (bnd (a := -1) ?_ (yes (by omega) rfl))))), Or.inl (by omega)⟩
    unfold laws_szInt64S.f
    rw [w5]
    exact yes c5 rfl
  · refine ⟨_, no c1 (no c2 (no c3 (no c4 (bnd (a := 1048576 - (I.size : Int) - (N.size : Int) - (P.size : Int) - (T.size : Int) - (l.length : Int)) ?_ (no c5 rfl))))), Or.inr ⟨by omega, by omega, by omega, by omega, by omega⟩⟩
    unfold laws_szInt64S.f
    rw [w5]
    exact no c5 rfl
end Go.Proofs.YtipkfflcdomheaaDoor.EvNums
