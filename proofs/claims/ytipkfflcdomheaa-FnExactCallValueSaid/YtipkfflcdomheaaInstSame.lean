/- Plain laws: a right loan's instalment: the reference's answers and the program's are one; no condition beyond each lemma's own. -/
import Derived.Test.YtipkfflcdomheaaLoanGood
import Derived.Test.YtipkfflcdomheaaS0
import Derived.Test.YtipkfflcdomheaaS11
import Derived.Test.YtipkfflcdomheaaS5
namespace Go.Proofs.Ytipkfflcdomheaa.InstSame
open Go.RowKit Go.Proofs.Ytipkfflcdomheaa.S Go.Proofs.YtipkfflcdomheaaW.PrintWords Go.Proofs.YtipkfflcdomheaaW.PrintMore Go.Proofs.Ytipkfflcdomheaa.Cal Go.Proofs.Ytipkfflcdomheaa.Days Go.Proofs.Ytipkfflcdomheaa.Num Go.Proofs.Ytipkfflcdomheaa.MulDiv Go.Proofs.Ytipkfflcdomheaa.Interest Go.Proofs.Ytipkfflcdomheaa.Loan Go.Proofs.Ytipkfflcdomheaa.Inst Go.Proofs.Ytipkfflcdomheaa.LoanSame Go.Proofs.Ytipkfflcdomheaa.LoanGood
set_option linter.unusedVariables false
set_option linter.unusedSimpArgs false

theorem instal_same (p r b s t : Int) (t0 : -9223372036854775808 ≤ t) (t1 : t ≤ 9223372036854775807) : ∃ z : Int × Int, ∀ k, 600 ≤ k → spec_Instalment.f k p r b s t = some z ∧ impl_Instalment.f k p r b s t = some z := by
  obtain ⟨x, hx⟩ := loanRight_same p r b s t t0 t1
  by_cases c : x = true
  case neg =>
    refine ⟨(0, 1), fun k hk => ?_⟩
    obtain ⟨a1, a2⟩ := hx k (by omega)
    constructor
    · unfold spec_Instalment.f
      refine bnd a1 ?_
      exact no c rfl
    · unfold impl_Instalment.f
      refine bnd a2 ?_
      exact no c rfl
  subst c
  obtain ⟨T, rfl, g⟩ := good_of (hx 300 (by omega)).1
  obtain ⟨X, X0, X1, hX⟩ := instalment_same g
  refine ⟨(X, 0), fun k hk => ?_⟩
  obtain ⟨a1, a2⟩ := hx k (by omega)
  constructor
  · unfold spec_Instalment.f
    refine bnd a1 ?_
    refine yes rfl ?_
    refine bnd (spec_due_all p r b s T g.t1 (by omega)) ?_
    exact bnd (hX k hk).1 rfl
  · unfold impl_Instalment.f
    refine bnd a2 ?_
    refine yes rfl ?_
    exact bnd (hX k hk).2 rfl
end Go.Proofs.Ytipkfflcdomheaa.InstSame
