/- Plain laws: the balance behind a loan's rows grows with the principal and with the rate; the least pay grows with them; what is paid beyond the interest is the principal; no condition beyond each lemma's own. -/
import Derived.Test.YtipkfflcdomheaaLoanGood
import Derived.Test.YtipkfflcdomheaaS0
import Derived.Test.YtipkfflcdomheaaS11
import Derived.Test.YtipkfflcdomheaaS4
namespace Go.Proofs.Ytipkfflcdomheaa.InstMono
open Go.RowKit Go.Proofs.Ytipkfflcdomheaa.S Go.Proofs.YtipkfflcdomheaaW.PrintWords Go.Proofs.YtipkfflcdomheaaW.PrintMore Go.Proofs.Ytipkfflcdomheaa.Cal Go.Proofs.Ytipkfflcdomheaa.Days Go.Proofs.Ytipkfflcdomheaa.Num Go.Proofs.Ytipkfflcdomheaa.MulDiv Go.Proofs.Ytipkfflcdomheaa.Interest Go.Proofs.Ytipkfflcdomheaa.Loan Go.Proofs.Ytipkfflcdomheaa.Inst Go.Proofs.Ytipkfflcdomheaa.LoanSame Go.Proofs.Ytipkfflcdomheaa.LoanGood
set_option linter.unusedVariables false
set_option linter.unusedSimpArgs false

theorem near_mono_b {a b b' c : Int} (h : b ≤ b') (a0 : 0 ≤ a) (c0 : 1 ≤ c) : near a b c ≤ near a b' c := by
  have hN : a * b ≤ a * b' := Int.mul_le_mul_of_nonneg_left h a0
  have hq : a * b / c ≤ a * b' / c := Int.ediv_le_ediv (by omega) hN
  unfold near
  refine up_mono ?_
  by_cases e : a * b / c = a * b' / c
  · refine Or.inr ⟨e, ?_⟩
    have d1 := Int.mul_ediv_add_emod (a * b) c
    have d2 := Int.mul_ediv_add_emod (a * b') c
    rw [e] at d1
    omega
  · exact Or.inl (by omega)
/-- A row's interest, by the days alone: the same number of days for every rate. -/
theorem iv_days {b s : Int} {T : Nat} (b0 : 1 ≤ b) (b1 : b ≤ 3) (s0 : 0 ≤ s) (s1 : s ≤ 36524) (hT : T ≤ 60) (hc : (dd s T).2 = 0) {i : Nat} (hi : i < T) :
    ∃ n c, 0 ≤ n ∧ n ≤ 34 ∧ 360000000 ≤ c ∧ ∀ r l, 0 ≤ r → r ≤ 500000 → 0 ≤ l → l ≤ 1000000000000 → iv r b s i l = near l (r * n) c := by
  obtain ⟨n, n0, n1, hs⟩ := due_step s0 s1 b0 b1 hT hc hi
  obtain ⟨Y, hY⟩ : ∃ Y : Int, Y = if b = 1 then 365 else 360 := ⟨_, rfl⟩
  have Yb : 360 ≤ Y ∧ Y ≤ 365 := by rw [hY]; split <;> omega
  refine ⟨n, 1000000 * Y, n0, n1, by omega, fun r l r0 r1 l0 l1 => ?_⟩
  have m0 : 0 ≤ r * n := Int.mul_nonneg r0 n0
  have m1 : r * n ≤ 500000 * 34 := Int.mul_le_mul r1 n1 n0 (by omega)
  obtain ⟨⟨c, hI⟩, _⟩ := iv_spec r b s i l
  have h1 := (hI 400 (by omega)).1
  rw [interest_val l0 l1 r0 (by omega) m0 (by omega) hs (by omega), ← hY] at h1
  have h2 := near_small (a := l) (n := r * n) (c := 1000000 * Y) l0 m0 (by omega) (by omega)
  unfold md at h1
  rw [if_pos (by omega)] at h1
  have h3 := Option.some.inj h1
  exact (congrArg Prod.fst h3).symm
theorem lf_mono_pr {p p' r r' b s q : Int} {T : Nat} (g : Inst.Good p r b s T) (g' : Inst.Good p' r' b s T) (hp : p ≤ p') (hr : r ≤ r') (q0 : 0 ≤ q) : ∀ i : Nat, i ≤ T → lf p r b s q i ≤ lf p' r' b s q i
  | 0, _ => by rw [lf_0, lf_0]; exact hp
  | i + 1, hi => by
    have h := lf_mono_pr g g' hp hr q0 i (by omega)
    have a := lf_lt g q0 (i := i) (by omega)
    have a' := lf_lt g' q0 (i := i) (by omega)
    obtain ⟨n, c, n0, n1, c0, hv⟩ := iv_days g.b0 g.b1 g.s0 g.s1 g.t1 g.hc (i := i) (by omega)
    rw [lf_succ, lf_succ, hv _ _ g.r0 g.r1 a.1 a.2, hv _ _ g'.r0 g'.r1 a'.1 a'.2]
    have r0 := g.r0
    have e1 := near_mono (c := c) h (b := r * n) (Int.mul_nonneg r0 n0) (by omega)
    have e2 := near_mono_b (a := lf p' r' b s q i) (c := c) (Int.mul_le_mul_of_nonneg_right hr n0) a'.1 (by omega)
    exact nx_anti (Int.le_refl q) h (by omega)
theorem lf_pos {p r b s : Int} {T : Nat} (g : Inst.Good p r b s T) : ∀ i : Nat, i ≤ T → 1 ≤ lf p r b s 0 i
  | 0, _ => by rw [lf_0]; exact g.p0
  | i + 1, hi => by
    have h := lf_pos g i (by omega)
    have hv := (iv_spec r b s i (lf p r b s 0 i)).2
    rw [lf_succ]
    unfold nx mn3
    split <;> omega
/-- The least pay, told once for a loan. -/
structure Least (p r b s : Int) (T : Nat) (X : Int) : Prop where
  x0 : 1 ≤ X
  x1 : X ≤ 20000000000
  iff : ∀ q, 0 ≤ q → (lf p r b s q T = 0 ↔ X ≤ q)
theorem least_of {p r b s : Int} {T : Nat} (g : Inst.Good p r b s T) : ∃ X : Int, Least p r b s T X ∧ ∀ k, 600 ≤ k →
    spec_l04Instalment.f k p r b s (T : Int) (Loan.due s (T + 1)) = some X ∧ impl_Loan_instalment.f k p r b s (T : Int) = some X := by
  obtain ⟨X, X0, X1, hX⟩ := least_pay g
  have h0 : 1 ≤ X := by
    rcases Int.lt_or_le 0 X with h | h
    · omega
    · have := (hX 0 (Int.le_refl 0)).2 h
      have := lf_pos g T (Nat.le_refl _)
      omega
  refine ⟨X, ⟨h0, X1, hX⟩, fun k hk => ?_⟩
  constructor
  · unfold spec_l04Instalment.f
    exact spec_search g hX 36 k 0 20000000000 (by decide) (by omega) X0 X1 (by omega) (by omega)
  · unfold impl_Loan_instalment.f
    exact impl_search g hX 36 k 0 40000000000 (by decide) (by omega) X0 (by omega) (by omega) (by omega)
theorem least_mono {p p' r r' b s X X' : Int} {T : Nat} (g : Inst.Good p r b s T) (g' : Inst.Good p' r' b s T) (hp : p ≤ p') (hr : r ≤ r') (h : Least p r b s T X) (h' : Least p' r' b s T X') : X ≤ X' := by
  have x0 := h'.x0
  have e := (h'.iff X' (by omega)).2 (Int.le_refl _)
  have m := lf_mono_pr g g' hp hr (q := X') (by omega) T (Nat.le_refl _)
  have a := (lf_lt g (q := X') (by omega) (i := T) (Nat.le_refl _)).1
  exact (h.iff X' (by omega)).1 (by omega)
end Go.Proofs.Ytipkfflcdomheaa.InstMono
