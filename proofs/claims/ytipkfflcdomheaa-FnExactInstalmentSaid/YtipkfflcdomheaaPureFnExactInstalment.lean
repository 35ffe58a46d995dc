/- Proved: the program's Instalment answers as the reference's Instalment does, at every loan of int64 numbers; no condition. -/
import Derived.Test.YtipkfflcdomheaaLoanGood
import Derived.Test.YtipkfflcdomheaaStmFnExactInstalment
import Derived.Test.YtipkfflcdomheaaS0
import Derived.Test.YtipkfflcdomheaaS4
import Derived.Test.YtipkfflcdomheaaS8
import Derived.Test.YtipkfflcdomheaaS9
namespace Go.Proofs.Ytipkfflcdomheaa.Pure
open Go.RowKit Go.Proofs.Ytipkfflcdomheaa.S Go.Proofs.YtipkfflcdomheaaW.PrintWords Go.Proofs.Ytipkfflcdomheaa.Cal Go.Proofs.Ytipkfflcdomheaa.Days Go.Proofs.Ytipkfflcdomheaa.LoanGood
set_option linter.unusedSimpArgs false
set_option linter.unusedVariables false

theorem FnExactInstalment : StmFnExactInstalment.Pure := by
  rintro p r b s t ⟨_, _, _, _, ht⟩
  have w := wf64 ht
  obtain ⟨z, hz⟩ := instal_same p r b s t w.1 w.2
  obtain ⟨a, c⟩ := hz 600 (by omega)
  refine ⟨600, ?_⟩
  unfold laws_FnExactInstalment.f laws_toLoan.f
  refine bnd rfl ?_
  refine bnd a ?_
  refine bnd rfl ?_
  refine bnd c ?_
  have e : laws_eqMoneyOut.f z.1 z.2 z.1 z.2 = some true := by
    unfold laws_eqMoneyOut.f
    exact yes rfl (yes rfl rfl)
  refine bnd e ?_
  exact yes rfl rfl
end Go.Proofs.Ytipkfflcdomheaa.Pure
