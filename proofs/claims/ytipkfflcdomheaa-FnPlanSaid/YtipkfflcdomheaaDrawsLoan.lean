/- Plain laws: what the printed function that draws a loan answers, whatever the bytes; no condition beyond each lemma's own. -/
import Derived.Test.YtipkfflcdomheaaDrawsAny
import Derived.Test.YtipkfflcdomheaaS0
import Derived.Test.YtipkfflcdomheaaS7
namespace Go.Proofs.Ytipkfflcdomheaa.Draws
open Go.RowKit Go.Proofs.Ytipkfflcdomheaa.S Go.Proofs.YtipkfflcdomheaaW.PrintWords Go.Proofs.Ytipkfflcdomheaa.Cal Go.Proofs.Ytipkfflcdomheaa.Days
set_option linter.unusedVariables false
set_option linter.unusedSimpArgs false

theorem draw_loan1 (b : List Int) {at_ : Int} (mx : Int) {sz : Int} (hb : b.length ≤ 140737488351232) (ha : 0 ≤ at_) (s0 : 0 ≤ sz) (s1 : sz ≤ 12) :
    ∃ p r c s t a' m', spec_l01Src_l04Loan.f1 b at_ mx sz = some (p, r, c, s, t, a', m') ∧ 1 ≤ t ∧ t ≤ 13 ∧ 0 ≤ a' := by
  obtain ⟨x1, a1, m1, e1, _, _, g1⟩ := draw_n b mx sz (most := 10000000) hb ha (by omega)
  obtain ⟨x2, a2, m2, e2, _, _, g2⟩ := draw_n b m1 sz (most := 120000) hb g1 (by omega)
  obtain ⟨x3, a3, m3, e3, _, _, g3⟩ := draw_n b m2 sz (most := 3) hb g2 (by omega)
  obtain ⟨x4, a4, m4, e4, _, _, g4⟩ := draw_n b m3 sz (most := 30000) hb g3 (by omega)
  obtain ⟨x5, a5, m5, e5, h0, h1, g5⟩ := draw_n b m4 sz (most := 1 + sz) hb g4 (by omega)
  have h1' := h1 (by omega)
  refine ⟨wrap64 (1 + x1), x2, wrap64 (1 + x3), x4, 1 + x5, a5, m5, ?_, by omega, by omega, g5⟩
  unfold spec_l01Src_l04Loan.f1
  refine bnd e1 ?_
  refine bnd e2 ?_
  refine bnd e3 ?_
  refine bnd e4 ?_
  rw [wid (x := 1 + sz) (by omega) (by omega)]
  refine bnd e5 ?_
  rw [wid (x := 1 + x5) (by omega) (by omega)]
theorem draw_loan2 (b : List Int) (sz p r c s : Int) {t a : Int} (m : Int) (hb : b.length ≤ 140737488351232) (ha : 0 ≤ a) (t0 : 1 ≤ t) (t1 : t ≤ 13) :
    ∃ p' r' c' s' t' a' m', (∀ k, 20 ≤ k → spec_l01Src_l04Loan.f2 k b sz (p, r, c, s, t, a, m) = some (p', r', c', s', t', a', m')) ∧ -9223372036854775808 ≤ t' ∧ t' ≤ 9223372036854775807 ∧ 0 ≤ a' := by
  obtain ⟨y, a1, m1, e1, y0, y1, g1⟩ := draw_n b m sz (most := 10) hb ha (by omega)
  have y1' := y1 (by omega)
  by_cases c0 : y = 0
  · obtain ⟨u, a2, m2, e2, u0, u1, g2⟩ := draw_n b m1 sz (most := 6) hb g1 (by omega)
    have u1' := u1 (by omega)
    refine ⟨rd [1, 2, 10000000000, 10000000001, 0, 100] u, r, c, s, t, a2, m2, fun k hk => ?_, by omega, by omega, g2⟩
    unfold spec_l01Src_l04Loan.f2
    refine bnd e1 ?_
    refine yes c0 ?_
    refine bnd e2 ?_
    refine yes u0 ?_
    exact yes u1' rfl
  by_cases c1 : y = 1
  · obtain ⟨u, a2, m2, e2, u0, u1, g2⟩ := draw_n b m1 sz (most := 5) hb g1 (by omega)
    have u1' := u1 (by omega)
    refine ⟨p, rd [0, 1, 500000, 500001, -1] u, c, s, t, a2, m2, fun k hk => ?_, by omega, by omega, g2⟩
    unfold spec_l01Src_l04Loan.f2
    refine bnd e1 ?_
    refine no c0 ?_
    refine yes c1 ?_
    refine bnd e2 ?_
    refine yes u0 ?_
    exact yes u1' rfl
  by_cases c2 : y = 2
  · obtain ⟨e, a2, m2, e2, e0, e1', g2⟩ := draw_edge b m1 sz hb g1
    obtain ⟨u, a3, m3, e3, u0, u1, g3⟩ := draw_n b m2 sz (most := 6) hb g2 (by omega)
    have u1' := u1 (by omega)
    have hr := rd_all (P := fun r => -9223372036854775808 ≤ r ∧ r ≤ 9223372036854775807) (l := [1, 60, 61, 0, 24, e]) (by simp; omega) u0 (by simp; omega)
    refine ⟨p, r, c, s, rd [1, 60, 61, 0, 24, e] u, a3, m3, fun k hk => ?_, hr.1, hr.2, g3⟩
    unfold spec_l01Src_l04Loan.f2
    refine bnd e1 ?_
    refine no c0 ?_
    refine no c1 ?_
    refine yes c2 ?_
    refine bnd e2 ?_
    refine bnd e3 ?_
    refine yes u0 ?_
    exact yes u1' rfl
  by_cases c3 : y = 3
  · obtain ⟨u, a2, m2, e2, u0, u1, g2⟩ := draw_any b m1 sz hb g1
    refine ⟨p, r, c, u, t, a2, m2, fun k hk => ?_, by omega, by omega, g2⟩
    unfold spec_l01Src_l04Loan.f2
    refine bnd e1 ?_
    refine no c0 ?_
    refine no c1 ?_
    refine no c2 ?_
    refine yes c3 ?_
    exact bnd (e2 k hk) rfl
  · refine ⟨p, r, c, s, t, a1, m1, fun k hk => ?_, by omega, by omega, g1⟩
    unfold spec_l01Src_l04Loan.f2
    refine bnd e1 ?_
    refine no c0 ?_
    refine no c1 ?_
    refine no c2 ?_
    exact no c3 rfl
theorem draw_loan3 (b : List Int) (sz p r c s t : Int) {a : Int} (m : Int) (hb : b.length ≤ 140737488351232) (ha : 0 ≤ a) :
    ∃ c' a' m', spec_l01Src_l04Loan.f3 b sz (p, r, c, s, t, a, m) = some (p, r, c', s, t, a', m', sz) ∧ 0 ≤ a' := by
  obtain ⟨o, a1, m1, e1, g1⟩ := draw_one b m sz (most := 20) hb ha (by omega)
  cases o with
  | true =>
    obtain ⟨u, a2, m2, e2, u0, u1, g2⟩ := draw_n b m1 sz (most := 6) hb g1 (by omega)
    refine ⟨wrap64 (u - 1), a2, m2, ?_, g2⟩
    unfold spec_l01Src_l04Loan.f3
    refine bnd e1 ?_
    refine yes rfl ?_
    exact bnd e2 rfl
  | false =>
    refine ⟨c, a1, m1, ?_, g1⟩
    unfold spec_l01Src_l04Loan.f3
    refine bnd e1 ?_
    exact no (by simp) rfl
/-- A drawn loan. -/
theorem draw_loan (b : List Int) {at_ : Int} (mx : Int) {sz : Int} (hb : b.length ≤ 140737488351232) (ha : 0 ≤ at_) (s0 : 0 ≤ sz) (s1 : sz ≤ 12) :
    ∃ p r c s t a' m', (∀ k, 20 ≤ k → spec_l01Src_l04Loan.f k b at_ mx sz = some (p, r, c, s, t, a', m', sz)) ∧ -9223372036854775808 ≤ t ∧ t ≤ 9223372036854775807 ∧ 0 ≤ a' := by
  obtain ⟨p, r, c, s, t, a1, m1, h1, t0, t1, g1⟩ := draw_loan1 b mx hb ha s0 s1
  obtain ⟨p2, r2, c2, s2, t2, a2, m2, h2, u0, u1, g2⟩ := draw_loan2 b sz p r c s m1 hb g1 t0 t1
  obtain ⟨c3, a3, m3, h3, g3⟩ := draw_loan3 b sz p2 r2 c2 s2 t2 m2 hb g2
  refine ⟨p2, r2, c3, s2, t2, a3, m3, fun k hk => ?_, u0, u1, g3⟩
  unfold spec_l01Src_l04Loan.f
  refine bnd h1 ?_
  refine bnd (h2 k hk) ?_
  exact h3
end Go.Proofs.Ytipkfflcdomheaa.Draws
