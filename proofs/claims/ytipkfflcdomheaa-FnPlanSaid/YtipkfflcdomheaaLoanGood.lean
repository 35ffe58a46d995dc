/- Plain laws: what a right loan is; its instalment and its plan: the reference's answers and the program's are one; no condition beyond each lemma's own. -/
import Derived.Test.YtipkfflcdomheaaInst
import Derived.Test.YtipkfflcdomheaaLoanSame
import Derived.Test.YtipkfflcdomheaaS0
import Derived.Test.YtipkfflcdomheaaS2
namespace Go.Proofs.Ytipkfflcdomheaa.LoanGood
open Go.RowKit Go.Proofs.Ytipkfflcdomheaa.S Go.Proofs.YtipkfflcdomheaaW.PrintWords Go.Proofs.YtipkfflcdomheaaW.PrintMore Go.Proofs.Ytipkfflcdomheaa.Cal Go.Proofs.Ytipkfflcdomheaa.Days Go.Proofs.Ytipkfflcdomheaa.Num Go.Proofs.Ytipkfflcdomheaa.MulDiv Go.Proofs.Ytipkfflcdomheaa.Interest Go.Proofs.Ytipkfflcdomheaa.Loan Go.Proofs.Ytipkfflcdomheaa.Inst Go.Proofs.Ytipkfflcdomheaa.LoanSame
set_option linter.unusedVariables false
set_option linter.unusedSimpArgs false

theorem good_of {p r b s t : Int} (h : spec_LoanRight.f 300 p r b s t = some true) : ∃ T : Nat, t = (T : Int) ∧ Inst.Good p r b s T := by
  obtain ⟨⟨p0, p1⟩, ⟨r0, r1⟩, ⟨b0, b1⟩, ⟨t0, t1⟩, s0, s1⟩ := right_true h
  obtain ⟨T, rfl⟩ : ∃ T : Nat, t = (T : Int) := ⟨t.toNat, by omega⟩
  refine ⟨T, rfl, p0, p1, r0, r1, b0, b1, s0, s1, by omega, by omega, ?_⟩
  unfold spec_LoanRight.f at h
  rw [if_pos (by omega), if_pos p1, if_pos (by omega), if_pos r1, if_pos (by omega), if_pos b1, if_pos (by omega), if_pos t1, spec_right, decide_eq_true ⟨s0, s1⟩] at h
  rw [Option.bind_some, if_pos rfl, (dd_spec s (i := T) (by omega) (k := 300) (by omega)).1, Option.bind_some] at h
  have := Option.some.inj h
  exact beq_iff_eq.mp this

end Go.Proofs.Ytipkfflcdomheaa.LoanGood
