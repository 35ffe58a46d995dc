/- Proved: the plan of a drawn right loan has a row for each due day, pays together what was lent and all interest, no row more than the instalment, and leaves nothing at the end, whatever the bytes; no condition. -/
import Derived.Test.YtipkfflcdomheaaInstMono
import Derived.Test.YtipkfflcdomheaaPlanSame
import Derived.Test.YtipkfflcdomheaaDrawsLoan
import Derived.Test.YtipkfflcdomheaaS0
import Derived.Test.YtipkfflcdomheaaS13
import Derived.Test.YtipkfflcdomheaaS2
import Derived.Test.YtipkfflcdomheaaS7
namespace Go.Proofs.Ytipkfflcdomheaa.Pure
open Go.RowKit Go.Proofs.Ytipkfflcdomheaa.S Go.Proofs.YtipkfflcdomheaaW.PrintWords Go.Proofs.YtipkfflcdomheaaW.PrintMore Go.Proofs.YtipkfflcdomheaaW.PrintLast Go.Proofs.Ytipkfflcdomheaa.Cal Go.Proofs.Ytipkfflcdomheaa.Days Go.Proofs.Ytipkfflcdomheaa.Draws Go.Proofs.Ytipkfflcdomheaa.Loan Go.Proofs.Ytipkfflcdomheaa.Inst Go.Proofs.Ytipkfflcdomheaa.LoanGood Go.Proofs.Ytipkfflcdomheaa.InstMono Go.Proofs.Ytipkfflcdomheaa.PlanSame
set_option linter.unusedVariables false
set_option linter.unusedSimpArgs false

theorem draw_plan (b : List Int) (hb : b.length ≤ 140737488351232) :
    ∃ p r c s t : Int, (∀ k, 100 ≤ k → spec_DrawPlan.f k b = some (p, r, c, s, t)) ∧ -9223372036854775808 ≤ t ∧ t ≤ 9223372036854775807 := by
  obtain ⟨m0, sz, e0, s0, s1⟩ := source b hb
  obtain ⟨p, r, c, s, t, a1, m1, h, t0, t1, _⟩ := draw_loan b m0 hb (Int.le_refl 0) s0 s1
  refine ⟨p, r, c, s, t, fun k hk => ?_, t0, t1⟩
  unfold spec_DrawPlan.f
  refine bnd (e0 k hk) ?_
  exact bnd (h k (by omega)) rfl
theorem rows_rd (p r b s q : Int) (T i : Nat) (h : i < T) : rd_T42 (rowsF p r b s q 0 T) (i : Int) = rw42 r b s q i (lf p r b s q i) := by
  unfold rd_T42
  rw [List.getD_eq_getElem?_getD, Int.toNat_natCast, rowsF_get p r b s q T 0 i h, Nat.zero_add]
  rfl
theorem plan_one (j : Nat) (u P P' v m w d c0 p r b s t X c i : Int) (R : List S42) (row : rd_T42 R i = ⟨d, v, m, w⟩) (h0 : 0 ≤ i) (hlt : i < (R.length : Int)) (hd : spec_DayAdd.f j s (wrap64 (i + 1)) = some (d, c0))
    (v0 : 0 ≤ v) (m0 : 0 ≤ m) (mX : m ≤ X) (w0 : 0 ≤ w) (hw : w = wrap64 (wrap64 (u + v) - m)) (hs : wrap64 (wrap64 (P + m) - v) = P') :
    laws_FnPlan.l0 (j + 1) u P i p r b s t X R c = laws_FnPlan.l0 j w P' (wrap64 (i + 1)) p r b s t X R c := by
  rw [laws_FnPlan.l0, if_pos hlt, if_pos h0, hd, Option.bind_some, row]
  dsimp only
  rw [if_pos rfl, if_neg (by omega), if_neg (by omega), if_neg (by omega), if_neg (by omega), if_pos hw, hs]
theorem plan_sums {u v m w p X : Int} (lt : 0 ≤ u ∧ u ≤ 1000000000000) (v0 : 0 ≤ v) (v1 : v ≤ 1000000000000) (m0 : 0 ≤ m) (m1 : m ≤ X) (w1 : w = u + v - m) (p0 : 1 ≤ p) (p1 : p ≤ 10000000000) (x1 : X ≤ 20000000000) :
    w = wrap64 (wrap64 (u + v) - m) ∧ wrap64 (wrap64 (p - u + m) - v) = p - w := by
  rw [wid (x := u + v) (by omega) (by omega), wid (x := u + v - m) (by omega) (by omega), wid (x := p - u + m) (by omega) (by omega), wid (x := p - u + m - v) (by omega) (by omega)]
  omega
theorem row_vals {p r b s X : Int} {T : Nat} (g : Inst.Good p r b s T) (X0 : 1 ≤ X) {i : Nat} (hi : i < T) {u : Int} (u0 : 0 ≤ u) (u1 : u ≤ 1000000000000) :
    0 ≤ iv r b s i u ∧ iv r b s i u ≤ 1000000000000 ∧ 0 ≤ mn3 X (u + iv r b s i u) ∧ mn3 X (u + iv r b s i u) ≤ X ∧ 0 ≤ nx X u (iv r b s i u) ∧ nx X u (iv r b s i u) = u + iv r b s i u - mn3 X (u + iv r b s i u) := by
  obtain ⟨_, v0, v1⟩ := iv_spec r b s i u
  have nr := nx_range (q := X) (l := u) (v := iv r b s i u) (by omega) u0 v0
  refine ⟨v0, v1, nr.2.1, ?_, nr.1.1, by unfold nx; rfl⟩
  unfold mn3
  split <;> omega
theorem plan_loop {p r b s X : Int} {T : Nat} (g : Inst.Good p r b s T) (hL : Least p r b s T X) (t c : Int) : ∀ (n i k : Nat), i + n = T → 400 + n ≤ k →
    laws_FnPlan.l0 k (lf p r b s X i) (p - lf p r b s X i) (i : Int) p r b s t X (rowsF p r b s X 0 T) c = some true := by
  intro n
  induction n with
  | zero =>
    intro i k hi hk
    obtain ⟨j, rfl⟩ : ∃ j, k = j + 1 := ⟨k - 1, by omega⟩
    have x0 := hL.x0
    have e0 := (hL.iff X (by omega)).2 (Int.le_refl _)
    obtain rfl : i = T := by omega
    rw [laws_FnPlan.l0]
    refine no (by rw [rowsF_length]; omega) ?_
    rw [e0]
    refine yes rfl ?_
    rw [show p - 0 = p by omega]
    simp
  | succ n IH =>
    intro i k hi hk
    obtain ⟨j, rfl⟩ : ∃ j, k = j + 1 := ⟨k - 1, by omega⟩
    have x0 := hL.x0; have x1 := hL.x1; have p1 := g.p1; have p0 := g.p0; have t1 := g.t1
    have hiT : i < T := by omega
    have hi0 : (0 : Int) ≤ (i : Int) := by omega
    have hj : 400 + n ≤ j := by omega
    have hj3 : 300 ≤ j := by omega
    have hi1 : i + 1 + n = T := by omega
    have hi2 : i + 1 ≤ 1000 := by omega
    have hlen : (i : Int) < ((rowsF p r b s X 0 T).length : Int) := by rw [rowsF_length]; omega
    have lt := lf_lt g (q := X) (by omega) (i := i) (by omega)
    obtain ⟨v0, v1, m0, m1, w0, w1⟩ := row_vals g x0 (i := i) hiT lt.1 lt.2
    have e2 := lf_succ p r b s X i
    have e : wrap64 ((i : Int) + 1) = ((i + 1 : Nat) : Int) := by rw [wid (by omega) (by omega)]; omega
    have row := rows_rd p r b s X T i hiT
    have hd := (dd_spec s (i := i + 1) hi2 (k := j) hj3).1
    have ih := IH (i + 1) j hi1 hj
    rw [← e] at hd ih
    rw [e2] at ih
    unfold rw42 at row
    clear hL g IH e e2 hiT hj hj3 hi1 hi2 hi hk t1
    generalize rowsF p r b s X 0 T = R at *
    generalize iv r b s i (lf p r b s X i) = v at *
    generalize lf p r b s X i = u at *
    generalize nx X u v = w at *
    generalize mn3 X (u + v) = m at *
    generalize dd s (i + 1) = d at *
    obtain ⟨d, c0⟩ := d
    have hs := plan_sums lt v0 v1 m0 m1 w1 p0 p1 x1
    refine Eq.trans (plan_one j u (p - u) (p - w) v m w d c0 p r b s t X c i R row hi0 hlen hd v0 m0 m1 w0 hs.1 hs.2) ?_
    exact ih
theorem FnPlan : laws_FnPlan.Pure := by
  intro l hl hz hw
  refine ⟨1000, ?_⟩
  unfold laws_FnPlan.f
  by_cases big : (l.length : Int) > 1048576
  · exact yes big rfl
  refine no big ?_
  obtain ⟨p, r, b, s, t, e, t0, t1⟩ := draw_plan l (by omega)
  refine bnd (e 1000 (by omega)) ?_
  rcases plan_tells p r b s t t0 t1 with h | ⟨T, X, rfl, g, hL, h⟩
  · obtain ⟨h1, h2⟩ := h 1000 (by omega)
    refine bnd h2 ?_
    refine bnd h1 ?_
    refine yes rfl ?_
    exact no (by decide) rfl
  · obtain ⟨h1, h2, h3⟩ := h 1000 (by omega)
    refine bnd h2 ?_
    refine bnd h1 ?_
    refine yes rfl ?_
    refine yes rfl ?_
    refine yes (by rw [rowsF_length]) ?_
    refine bnd h3 ?_
    rw [show (1000 : Nat) = 999 + 1 from rfl, laws_FnPlan.j0]
    refine no (by simp) ?_
    have hp := plan_loop g hL (T : Int) 0 T 0 999 (by omega) (by have := g.t1; omega)
    rw [lf_0, show p - p = 0 by omega] at hp
    exact hp
end Go.Proofs.Ytipkfflcdomheaa.Pure
