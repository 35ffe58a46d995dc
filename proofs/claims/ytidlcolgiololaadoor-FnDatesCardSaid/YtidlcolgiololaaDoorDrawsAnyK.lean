/- Plain laws: what the printed functions that draw days answer, whatever the bytes; no condition beyond each lemma's own. -/
import Derived.Test.YtidlcolgiololaaDoorDaysK
import Derived.Test.YtidlcolgiololaaDoorDrawsK
import Derived.Test.YtidlcolgiololaaDoorS0
import Derived.Test.YtidlcolgiololaaDoorS8
namespace Go.Proofs.YtidlcolgiololaaDoor.Draws
open Go.RowKit Go.Proofs.YtidlcolgiololaaDoor.S Go.Proofs.YtidlcolgiololaaDoorW.PrintWords Go.Proofs.YtidlcolgiololaaDoor.Cal Go.Proofs.YtidlcolgiololaaDoor.Days
set_option linter.unusedVariables false
set_option linter.unusedSimpArgs false

theorem draw_any (b : List Int) {at_ : Int} (mx sz : Int) (hb : b.length ≤ 140737488351232) (ha : 0 ≤ at_) :
    ∃ (r a' m' : Int), (∀ k, 20 ≤ k → spec_l01Src_l03Any.f k b at_ mx sz = some (r, a', m', sz)) ∧ -9223372036854775808 ≤ r ∧ r ≤ 9223372036854775807 ∧ 0 ≤ a' := by
  obtain ⟨i, a1, m1, e1, h0, h1, g1⟩ := draw_n b mx sz (most := 8) hb ha (by omega)
  have h1' := h1 (by omega)
  by_cases c0 : i = 0
  · obtain ⟨r, a2, m2, e2, r0, r1, g2⟩ := draw_edge b m1 sz hb g1
    refine ⟨r, a2, m2, fun k hk => ?_, r0, r1, g2⟩
    unfold spec_l01Src_l03Any.f
    rw [e1]
    simp only [Option.bind_some]
    rw [if_pos c0, e2]
    rfl
  by_cases c1 : i = 1
  · obtain ⟨j, a2, m2, e2, j0, j1, g2⟩ := draw_n b m1 sz (most := 8) hb g1 (by omega)
    have j1' := j1 (by omega)
    have := rd_all (P := fun r => -9223372036854775808 ≤ r ∧ r ≤ 9223372036854775807) (l := [0, 36524, 36525, (-1), 58, 59, 60, 1520]) (by decide) j0 (by simp; omega)
    refine ⟨_, a2, m2, fun k hk => ?_, this.1, this.2, g2⟩
    unfold spec_l01Src_l03Any.f
    rw [e1]
    simp only [Option.bind_some]
    rw [if_neg c0, if_pos c1, e2]
    simp only [Option.bind_some]
    rw [if_pos j0, if_pos (by simp; omega)]
  by_cases c2 : i = 2
  · obtain ⟨j, a2, m2, e2, j0, j1, g2⟩ := draw_n b m1 sz (most := 100) hb g1 (by omega)
    obtain ⟨p, a3, m3, e3, p0, p1, g3⟩ := draw_n b m2 sz (most := 12) hb g2 (by omega)
    obtain ⟨q, a4, m4, e4, q0, q1, g4⟩ := draw_n b m3 sz (most := 4) hb g3 (by omega)
    have j1' := j1 (by omega)
    have p1' := p1 (by omega)
    have q1' := q1 (by omega)
    have nb : 0 ≤ num (2000 + j) (1 + p) (28 + q) ∧ num (2000 + j) (1 + p) (28 + q) ≤ 100000 := by
      have a := hd_range (y := 2000 + j) (by omega) (by omega)
      have c := cum_range (2000 + j) (1 + p)
      unfold num
      omega
    refine ⟨num (2000 + j) (1 + p) (28 + q) % 36525, a4, m4, fun k hk => ?_, by omega, by omega, g4⟩
    unfold spec_l01Src_l03Any.f
    rw [e1]
    simp only [Option.bind_some]
    rw [if_neg c0, if_neg c1, if_pos c2, e2]
    simp only [Option.bind_some]
    rw [e3]
    simp only [Option.bind_some]
    rw [e4]
    simp only [Option.bind_some]
    simp (disch := omega) only [wid]
    rw [spec_day (by omega) (by omega) (by omega) (by omega) (by omega) (by omega) hk]
    simp only [Option.bind_some]
    rw [tm nb.1]
  · obtain ⟨j, a2, m2, e2, j0, j1, g2⟩ := draw_n b m1 sz (most := 36525) hb g1 (by omega)
    have j1' := j1 (by omega)
    refine ⟨j, a2, m2, fun k hk => ?_, by omega, by omega, g2⟩
    unfold spec_l01Src_l03Any.f
    rw [e1]
    simp only [Option.bind_some]
    rw [if_neg c0, if_neg c1, if_neg c2, e2]
    rfl
end Go.Proofs.YtidlcolgiololaaDoor.Draws
