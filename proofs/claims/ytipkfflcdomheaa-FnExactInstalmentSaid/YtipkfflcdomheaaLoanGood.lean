/- Plain laws: what a right loan is; its instalment and its plan: the reference's answers and the program's are one; no condition beyond each lemma's own. -/
import Derived.Test.YtipkfflcdomheaaInst
import Derived.Test.YtipkfflcdomheaaLoanSame
import Derived.Test.YtipkfflcdomheaaS0
import Derived.Test.YtipkfflcdomheaaS2
import Derived.Test.YtipkfflcdomheaaS9
namespace Go.Proofs.Ytipkfflcdomheaa.LoanGood
open Go.RowKit Go.Proofs.Ytipkfflcdomheaa.S Go.Proofs.YtipkfflcdomheaaW.PrintWords Go.Proofs.YtipkfflcdomheaaW.PrintMore Go.Proofs.Ytipkfflcdomheaa.Cal Go.Proofs.Ytipkfflcdomheaa.Days Go.Proofs.Ytipkfflcdomheaa.Num Go.Proofs.Ytipkfflcdomheaa.MulDiv Go.Proofs.Ytipkfflcdomheaa.Interest Go.Proofs.Ytipkfflcdomheaa.Loan Go.Proofs.Ytipkfflcdomheaa.Inst Go.Proofs.Ytipkfflcdomheaa.LoanSame
set_option linter.unusedVariables false
set_option linter.unusedSimpArgs false

theorem good_of {p r b s t : Int} (h : spec_LoanRight.f 300 p r b s t = some true) : ∃ T : Nat, t = (T : Int) ∧ Inst.Good p r b s T := by
  obtain ⟨⟨p0, p1⟩, ⟨r0, r1⟩, ⟨b0, b1⟩, ⟨t0, t1⟩, s0, s1⟩ := right_true h
  obtain ⟨T, rfl⟩ : ∃ T : Nat, t = (T : Int) := ⟨t.toNat, by omega⟩
  refine ⟨T, rfl, p0, p1, r0, r1, b0, b1, s0, s1, by omega, by omega, ?_⟩
  unfold spec_LoanRight.f at h
  rw [if_pos (by omega), if_pos p1, if_pos (by omega), if_pos r1, if_pos (by omega), if_pos b1, if_pos (by omega), if_pos t1, spec_right, decide_eq_true ⟨s0, s1⟩] at h
  rw [Option.bind_some, if_pos rfl, (dd_spec s (i := T) (by omega) (k := 300) (by omega)).1, Option.bind_some] at h
  have := Option.some.inj h
  exact beq_iff_eq.mp this

theorem instal_same (p r b s t : Int) (t0 : -9223372036854775808 ≤ t) (t1 : t ≤ 9223372036854775807) : ∃ z : Int × Int, ∀ k, 600 ≤ k → spec_Instalment.f k p r b s t = some z ∧ impl_Instalment.f k p r b s t = some z := by
  obtain ⟨x, hx⟩ := loanRight_same p r b s t t0 t1
  by_cases c : x = true
  case neg =>
    refine ⟨(0, 1), fun k hk => ?_⟩
    obtain ⟨a1, a2⟩ := hx k (by omega)
    constructor
    · unfold spec_Instalment.f
      refine bnd a1 ?_
      exact no c rfl
    · unfold impl_Instalment.f
      refine bnd a2 ?_
      exact no c rfl
  subst c
  obtain ⟨T, rfl, g⟩ := good_of (hx 300 (by omega)).1
  obtain ⟨X, X0, X1, hX⟩ := instalment_same g
  refine ⟨(X, 0), fun k hk => ?_⟩
  obtain ⟨a1, a2⟩ := hx k (by omega)
  constructor
  · unfold spec_Instalment.f
    refine bnd a1 ?_
    refine yes rfl ?_
    refine bnd (spec_due_all p r b s T g.t1 (by omega)) ?_
    exact bnd (hX k hk).1 rfl
  · unfold impl_Instalment.f
    refine bnd a2 ?_
    refine yes rfl ?_
    exact bnd (hX k hk).2 rfl
end Go.Proofs.Ytipkfflcdomheaa.LoanGood
