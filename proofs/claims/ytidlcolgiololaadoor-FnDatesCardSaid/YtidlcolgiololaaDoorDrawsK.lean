/- Plain laws: what the printed drawing functions answer: numbers in their ranges, whatever the bytes; no condition beyond each lemma's own. -/
import Derived.Test.YtidlcolgiololaaDoorCal
import Derived.Test.YtidlcolgiololaaDoorS0
import Derived.Test.YtidlcolgiololaaDoorS8
namespace Go.Proofs.YtidlcolgiololaaDoor.Draws
open Go.RowKit Go.Proofs.YtidlcolgiololaaDoor.S Go.Proofs.YtidlcolgiololaaDoorW.PrintWords Go.Proofs.YtidlcolgiololaaDoor.Cal
set_option linter.unusedVariables false
set_option linter.unusedSimpArgs false

theorem u64_range (x : Int) : 0 ≤ IntKind.u64.wrap x ∧ IntKind.u64.wrap x < 18446744073709551616 := by
  have e : IntKind.u64.wrap x = x % 18446744073709551616 := by simp [IntKind.wrap, IntKind.signed, IntKind.bits]
  omega
theorem u64_id {x : Int} (h0 : 0 ≤ x) (h1 : x < 18446744073709551616) : IntKind.u64.wrap x = x := by
  have e : IntKind.u64.wrap x = x % 18446744073709551616 := by simp [IntKind.wrap, IntKind.signed, IntKind.bits]
  omega
theorem rd_all {P : Int → Prop} {l : List Int} (h : ∀ x ∈ l, P x) {i : Int} (h0 : 0 ≤ i) (h1 : i < (l.length : Int)) : P (rd l i) := by
  unfold rd
  rw [List.getD_eq_getElem?_getD, List.getElem?_eq_getElem (by omega)]
  exact h _ (List.getElem_mem _)
/-- A drawn number. -/
theorem draw_n (b : List Int) {at_ : Int} (mx sz : Int) {most : Int} (hb : b.length ≤ 140737488351232) (ha : 0 ≤ at_) (hm : most ≤ 9223372036854775807) :
    ∃ r a' m', spec_l01Src_n.f b at_ mx sz most = some (r, a', m', sz) ∧ 0 ≤ r ∧ (1 ≤ most → r < most) ∧ 0 ≤ a' := by
  unfold spec_l01Src_n.f
  by_cases c1 : most ≤ 1
  · rw [if_pos c1]
    exact ⟨0, at_, mx, rfl, Int.le_refl _, fun h => by omega, ha⟩
  rw [if_neg c1]
  have e := u64_id (x := most) (by omega) (by omega)
  rw [if_neg (by omega)]
  have tell : ∀ v m : Int, 0 ≤ spec_l01Src_n.tell v m most ∧ spec_l01Src_n.tell v m most < most := by
    intro v m
    unfold spec_l01Src_n.tell
    rw [e]
    have r := u64_range (v + m / 1048576)
    rw [tm r.1]
    have := Int.emod_nonneg (IntKind.u64.wrap (v + m / 1048576)) (b := most) (by omega)
    have := Int.emod_lt_of_pos (IntKind.u64.wrap (v + m / 1048576)) (b := most) (by omega)
    rw [wid (by omega) (by omega)]
    omega
  by_cases c2 : at_ < (b.length : Int)
  · rw [if_pos c2, if_pos ha]
    refine ⟨_, _, _, rfl, (tell _ _).1, fun _ => (tell _ _).2, ?_⟩
    rw [wid (by omega) (by omega)]
    omega
  · rw [if_neg c2]
    exact ⟨_, _, _, rfl, (tell _ _).1, fun _ => (tell _ _).2, ha⟩
theorem draw_one (b : List Int) {at_ : Int} (mx sz : Int) {most : Int} (hb : b.length ≤ 140737488351232) (ha : 0 ≤ at_) (hm : most ≤ 9223372036854775807) :
    ∃ (r : Bool) (a' m' : Int), spec_l01Src_one.f b at_ mx sz most = some (r, a', m', sz) ∧ 0 ≤ a' := by
  obtain ⟨r, a', m', e, _, _, h⟩ := draw_n b mx sz hb ha hm
  refine ⟨r == 0, a', m', ?_, h⟩
  unfold spec_l01Src_one.f
  rw [e]
  rfl
theorem draw_edge (b : List Int) {at_ : Int} (mx sz : Int) (hb : b.length ≤ 140737488351232) (ha : 0 ≤ at_) :
    ∃ (r a' m' : Int), spec_l01Src_edge.f b at_ mx sz = some (r, a', m', sz) ∧ -9223372036854775808 ≤ r ∧ r ≤ 9223372036854775807 ∧ 0 ≤ a' := by
  obtain ⟨i, a', m', e, h0, h1, h⟩ := draw_n b mx sz (most := 14) hb ha (by omega)
  unfold spec_l01Src_edge.f
  simp only [Option.bind_some]
  rw [e]
  simp only [Option.bind_some]
  have h1' := h1 (by omega)
  rw [if_pos h0, if_pos (by simp; omega)]
  refine ⟨_, a', m', rfl, ?_⟩
  have := rd_all (P := fun r => -9223372036854775808 ≤ r ∧ r ≤ 9223372036854775807) (l := [0, 1, (-1), 2, 1000, 1001, 2147483648, 2147483647, (-2147483648), 4611686018427387904, 9223372036854775807, (-9223372036854775808), 1000000, 1000001]) (by decide) h0 (by simp; omega)
  exact ⟨this.1, this.2, h⟩
/-- The drawing state at the begin. -/
theorem source_l0 (b : List Int) (hb : b.length ≤ 140737488351232) (n : Nat) : ∀ (k : Nat) (i mx : Int), 0 ≤ i → i + n = 64 → n + 1 < k →
    ∃ m' sz, spec_l01Source.l0 k b i b 0 mx 0 = some (b, 0, m', sz) ∧ 0 ≤ sz ∧ sz ≤ 12 := by
  have last : ∃ sz, (if (wrap64 ((b.length : Int) / 20)) > 12 then (12 : Int) else wrap64 ((b.length : Int) / 20)) = sz ∧ 0 ≤ sz ∧ sz ≤ 12 := by
    rw [wid (by omega) (by omega)]
    split
    · exact ⟨12, rfl, by omega, by omega⟩
    · exact ⟨_, rfl, by omega, by omega⟩
  obtain ⟨sz, hsz, s0, s1⟩ := last
  have fin : ∀ (mx : Int) (j : Nat), 1 ≤ j → spec_l01Source.j1 j b b 0 mx 0 = some (b, 0, mx, sz) := by
    intro mx j hj
    obtain ⟨j, rfl⟩ : ∃ q, j = q + 1 := ⟨j - 1, by omega⟩
    simp only [spec_l01Source.j1]
    rw [← hsz]
    split <;> rfl
  induction n with
  | zero =>
    intro k i mx h0 e hk
    obtain ⟨k, rfl⟩ : ∃ j, k = j + 1 := ⟨k - 1, by omega⟩
    simp only [spec_l01Source.l0]
    by_cases c : i < (b.length : Int)
    · rw [if_pos c, if_neg (by omega)]
      exact ⟨mx, sz, fin mx k (by omega), s0, s1⟩
    · rw [if_neg c]
      exact ⟨mx, sz, fin mx k (by omega), s0, s1⟩
  | succ n ih =>
    intro k i mx h0 e hk
    obtain ⟨k, rfl⟩ : ∃ j, k = j + 1 := ⟨k - 1, by omega⟩
    simp only [spec_l01Source.l0]
    by_cases c : i < (b.length : Int)
    · rw [if_pos c, if_pos (by omega), if_pos h0, wid (x := i + 1) (by omega) (by omega)]
      exact ih k (i + 1) _ (by omega) (by omega) (by omega)
    · rw [if_neg c]
      exact ⟨mx, sz, fin mx k (by omega), s0, s1⟩
theorem source (b : List Int) (hb : b.length ≤ 140737488351232) : ∃ m' sz, (∀ k, 100 ≤ k → spec_l01Source.f k b = some (b, 0, m', sz)) ∧ 0 ≤ sz ∧ sz ≤ 12 := by
  obtain ⟨m', sz, h, h0, h1⟩ := source_l0 b hb 64 100 0 88172645463325252 (by omega) (by omega) (by omega)
  exact ⟨m', sz, fun k hk => at_rounds (g := fun k => spec_l01Source.f k b) (fun k => spec_l01Source.mono b k) hk h, h0, h1⟩
end Go.Proofs.YtidlcolgiololaaDoor.Draws
