/- Proved: the program's LoanLeft answers as the reference's LoanLeft does, at every loan and every pay of int64 numbers; no condition. -/
import Derived.Test.YtipkfflcdomheaaLoan
import Derived.Test.YtipkfflcdomheaaLoanSame
import Derived.Test.YtipkfflcdomheaaStmFnExactLoanLeft
import Derived.Test.YtipkfflcdomheaaS0
import Derived.Test.YtipkfflcdomheaaS4
import Derived.Test.YtipkfflcdomheaaS8
namespace Go.Proofs.Ytipkfflcdomheaa.Pure
open Go.RowKit Go.Proofs.Ytipkfflcdomheaa.S Go.Proofs.YtipkfflcdomheaaW.PrintWords Go.Proofs.Ytipkfflcdomheaa.Cal Go.Proofs.Ytipkfflcdomheaa.Days Go.Proofs.Ytipkfflcdomheaa.Loan Go.Proofs.Ytipkfflcdomheaa.LoanSame
set_option linter.unusedSimpArgs false
set_option linter.unusedVariables false

theorem eqMoney (a c : Int) : laws_eqMoneyOut.f a c a c = some true := by
  unfold laws_eqMoneyOut.f
  exact yes rfl (yes rfl rfl)
theorem loanLeft_same (p r b s t q : Int) (t0 : -9223372036854775808 ≤ t) (t1 : t ≤ 9223372036854775807) : ∃ z : Int × Int, ∀ k, 600 ≤ k → spec_LoanLeft.f k p r b s t q = some z ∧ impl_LoanLeft.f k p r b s t q = some z := by
  obtain ⟨x, hx⟩ := loanRight_same p r b s t t0 t1
  have j0 : ∀ k, spec_LoanLeft.j0 (k + 1) q true p r b s t = some (0, 1) := by
    intro k
    rw [spec_LoanLeft.j0]
    exact yes rfl rfl
  by_cases c : x = true
  case neg =>
    refine ⟨(0, 1), fun k hk => ?_⟩
    obtain ⟨j, rfl⟩ : ∃ j, k = j + 1 := ⟨k - 1, by omega⟩
    obtain ⟨a1, a2⟩ := hx (j + 1) (by omega)
    constructor
    · unfold spec_LoanLeft.f
      refine bnd a1 ?_
      refine no c ?_
      exact j0 j
    · unfold impl_LoanLeft.f
      refine bnd a2 ?_
      exact no c rfl
  subst c
  obtain ⟨⟨p0, p1⟩, hr, hb, ⟨u0, u1⟩, s0, s1⟩ := right_true (hx 300 (by omega)).1
  by_cases g : 0 ≤ q ∧ q ≤ 20000000000
  case neg =>
    refine ⟨(0, 1), fun k hk => ?_⟩
    obtain ⟨j, rfl⟩ : ∃ j, k = j + 1 := ⟨k - 1, by omega⟩
    obtain ⟨a1, a2⟩ := hx (j + 1) (by omega)
    constructor
    · unfold spec_LoanLeft.f
      refine bnd a1 ?_
      refine yes rfl ?_
      by_cases c1 : q < 0
      · refine yes c1 ?_
        exact j0 j
      · refine no c1 ?_
        rw [decide_eq_true (by omega)]
        exact j0 j
    · unfold impl_LoanLeft.f
      refine bnd a2 ?_
      refine yes rfl ?_
      refine bnd (impl_in_eval q 0 20000000000) ?_
      exact no (by rw [decide_eq_false g]; decide) rfl
  obtain ⟨T, rfl⟩ : ∃ T : Nat, t = (T : Int) := ⟨t.toNat, by omega⟩
  refine ⟨(lf p r b s q T, 0), fun k hk => ?_⟩
  obtain ⟨j, rfl⟩ : ∃ j, k = j + 1 := ⟨k - 1, by omega⟩
  obtain ⟨a1, a2⟩ := hx (j + 1) (by omega)
  constructor
  · unfold spec_LoanLeft.f
    refine bnd a1 ?_
    refine yes rfl ?_
    refine no (by omega) ?_
    rw [decide_eq_false (by omega), spec_LoanLeft.j0]
    refine no (by decide) ?_
    refine bnd (spec_due_all p r b s T (by omega) (k := j) (by omega)) ?_
    exact bnd (spec_left p r b s q (by omega) p1 g.1 (by omega) T (by omega) (k := j) (by omega)) rfl
  · unfold impl_LoanLeft.f
    refine bnd a2 ?_
    refine yes rfl ?_
    refine bnd (impl_in_eval q 0 20000000000) ?_
    refine yes (decide_eq_true g) ?_
    exact bnd (impl_left p r b s q (by omega) p1 g.1 (by omega) s0 s1 T (by omega) (by omega) (k := j + 1) (by omega)) rfl
theorem FnExactLoanLeft : StmFnExactLoanLeft.Pure := by
  rintro p r b s t q ⟨_, _, _, _, ht⟩ _
  have w := wf64 ht
  obtain ⟨z, hz⟩ := loanLeft_same p r b s t q w.1 w.2
  obtain ⟨a, c⟩ := hz 600 (by omega)
  refine ⟨600, ?_⟩
  unfold laws_FnExactLoanLeft.f laws_toLoan.f
  refine bnd rfl ?_
  refine bnd a ?_
  refine bnd rfl ?_
  refine bnd c ?_
  refine bnd (eqMoney z.1 z.2) ?_
  exact yes rfl rfl
end Go.Proofs.Ytipkfflcdomheaa.Pure
