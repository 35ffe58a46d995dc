/- Proved: a drawn right loan's instalment leaves nothing, one hundredth less leaves something, and a greater loan or rate has no lesser one, whatever the bytes; no condition. -/
import Derived.Test.YtipkfflcdomheaaInstMono
import Derived.Test.YtipkfflcdomheaaDrawsLoan
import Derived.Test.YtipkfflcdomheaaS0
import Derived.Test.YtipkfflcdomheaaS10
import Derived.Test.YtipkfflcdomheaaS12
import Derived.Test.YtipkfflcdomheaaS13
import Derived.Test.YtipkfflcdomheaaS3
import Derived.Test.YtipkfflcdomheaaS5
namespace Go.Proofs.Ytipkfflcdomheaa.Pure
open Go.RowKit Go.Proofs.Ytipkfflcdomheaa.S Go.Proofs.YtipkfflcdomheaaW.PrintWords Go.Proofs.YtipkfflcdomheaaW.PrintLast Go.Proofs.Ytipkfflcdomheaa.Cal Go.Proofs.Ytipkfflcdomheaa.Days Go.Proofs.Ytipkfflcdomheaa.Draws Go.Proofs.Ytipkfflcdomheaa.Loan Go.Proofs.Ytipkfflcdomheaa.Inst Go.Proofs.Ytipkfflcdomheaa.LoanGood Go.Proofs.Ytipkfflcdomheaa.InstMono
set_option linter.unusedVariables false
set_option linter.unusedSimpArgs false

theorem draw_instalment (b : List Int) (hb : b.length ≤ 140737488351232) :
    ∃ p r c s t : Int, (∀ k, 100 ≤ k → spec_DrawInstalment.f k b = some (p, r, c, s, t)) ∧ -9223372036854775808 ≤ t ∧ t ≤ 9223372036854775807 := by
  obtain ⟨m0, sz, e0, s0, s1⟩ := source b hb
  obtain ⟨p, r, c, s, t, a1, m1, h, t0, t1, _⟩ := draw_loan b m0 hb (Int.le_refl 0) s0 s1
  refine ⟨p, r, c, s, t, fun k hk => ?_, t0, t1⟩
  unfold spec_DrawInstalment.f
  refine bnd (e0 k hk) ?_
  exact bnd (h k (by omega)) rfl
theorem left_val {p r b s X : Int} {T : Nat} (g : Inst.Good p r b s T) {k : Nat} (hk : 600 ≤ k) (hR : impl_LoanRight.f k p r b s (T : Int) = some true) {q : Int} (q0 : 0 ≤ q) (q1 : q ≤ 20000000000) :
    impl_LoanLeft.f k p r b s (T : Int) q = some (lf p r b s q T, 0) := by
  have p0 := g.p0; have p1 := g.p1; have t0 := g.t0; have t1 := g.t1
  unfold impl_LoanLeft.f
  refine bnd hR ?_
  refine yes rfl ?_
  refine bnd (impl_in_eval q 0 20000000000) ?_
  refine yes (decide_eq_true ⟨q0, q1⟩) ?_
  exact bnd (impl_left p r b s q (by omega) p1 q0 (by omega) g.s0 g.s1 T t0 t1 (by omega)) rfl
theorem more_val {p r b s X : Int} {T : Nat} (g : Inst.Good p r b s T) (hL : Least p r b s T X) {k : Nat} (hk : 600 ≤ k) :
    laws_FnInstalment.j1 (k + 1) false p r b s (T : Int) X 0 = some true := by
  have p0 := g.p0; have p1 := g.p1; have r0 := g.r0; have r1 := g.r1; have t1 := g.t1
  rw [laws_FnInstalment.j1]
  refine no (by decide) ?_
  rw [wid (x := p + 1) (by omega) (by omega), wid (x := r + 1) (by omega) (by omega)]
  have hy : ∃ y : Int × Int, impl_Instalment.f k (p + 1) r b s (T : Int) = some y ∧ (y.2 = 0 → y.1 ≥ X) := by
    rcases instal_tells (p + 1) r b s (T : Int) (by omega) (by omega) with h | ⟨T', X', e, g', hL', h⟩
    · exact ⟨(0, 1), (h k hk).2.2.2, fun e => absurd e (by decide)⟩
    · obtain rfl : T = T' := by omega
      exact ⟨(X', 0), (h k hk).2.2.2, fun _ => least_mono g g' (by omega) (Int.le_refl _) hL hL'⟩
  have hz : ∃ z : Int × Int, impl_Instalment.f k p (r + 1) b s (T : Int) = some z ∧ (z.2 = 0 → z.1 ≥ X) := by
    rcases instal_tells p (r + 1) b s (T : Int) (by omega) (by omega) with h | ⟨T', X', e, g', hL', h⟩
    · exact ⟨(0, 1), (h k hk).2.2.2, fun e => absurd e (by decide)⟩
    · obtain rfl : T = T' := by omega
      exact ⟨(X', 0), (h k hk).2.2.2, fun _ => least_mono g g' (Int.le_refl _) (by omega) hL hL'⟩
  obtain ⟨y, hy, hy2⟩ := hy
  obtain ⟨z, hz, hz2⟩ := hz
  refine bnd hy ?_
  refine bnd hz ?_
  have last : (if z.2 = 0 then (some (decide (z.1 ≥ X))) else (some true)) = some true := by
    by_cases c : z.2 = 0
    · rw [if_pos c, decide_eq_true (hz2 c)]
    · rw [if_neg c]
  by_cases c : y.2 = 0
  · refine yes c ?_
    exact yes (hy2 c) last
  · exact no c last
theorem FnInstalment : laws_FnInstalment.Pure := by
  intro l hl hz hw
  refine ⟨1000, ?_⟩
  unfold laws_FnInstalment.f
  by_cases big : (l.length : Int) > 1048576
  · exact yes big rfl
  refine no big ?_
  obtain ⟨p, r, b, s, t, e, t0, t1⟩ := draw_instalment l (by omega)
  refine bnd (e 1000 (by omega)) ?_
  rcases instal_tells p r b s t t0 t1 with h | ⟨T, X, rfl, g, hL, h⟩
  · obtain ⟨h1, h2, h3, h4⟩ := h 1000 (by omega)
    refine bnd h4 ?_
    refine bnd h3 ?_
    refine no (by decide) ?_
    refine bnd h2 ?_
    refine bnd h1 ?_
    rw [show (1000 : Nat) = 999 + 1 from rfl, laws_FnInstalment.j0]
    refine no (by decide) ?_
    exact no (by decide) rfl
  · obtain ⟨h1, h2, h3, h4⟩ := h 1000 (by omega)
    have h2' := (h 999 (by omega)).2.1
    have x0 := hL.x0; have x1 := hL.x1
    refine bnd h4 ?_
    refine bnd h3 ?_
    refine no (by simp) ?_
    refine bnd h2 ?_
    refine bnd h1 ?_
    have e0 := (hL.iff X (by omega)).2 (Int.le_refl _)
    have e1 : 1 ≤ lf p r b s (X - 1) T := by
      have a := (lf_lt g (q := X - 1) (by omega) (i := T) (Nat.le_refl _)).1
      rcases Int.lt_or_le 0 (lf p r b s (X - 1) T) with h | h
      · omega
      · have := (hL.iff (X - 1) (by omega)).1 (by omega)
        omega
    have v0 := left_val (X := X) g (k := 999) (by omega) h2' (q := X) (by omega) x1
    have v1 := left_val (X := X) g (k := 999) (by omega) h2' (q := X - 1) (by omega) (by omega)
    rw [e0] at v0
    rw [show (1000 : Nat) = 999 + 1 from rfl, laws_FnInstalment.j0]
    refine no (by decide) ?_
    refine yes rfl ?_
    refine no (by omega) ?_
    refine bnd v0 ?_
    refine no (by decide) ?_
    rw [wid (x := X - 1) (by omega) (by omega)]
    refine bnd v1 ?_
    rw [decide_eq_false (by show ¬ lf p r b s (X - 1) T < 1; omega)]
    exact more_val g hL (by omega)
end Go.Proofs.Ytipkfflcdomheaa.Pure
