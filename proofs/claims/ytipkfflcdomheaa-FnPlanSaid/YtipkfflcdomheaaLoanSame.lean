/- Plain laws: the program's LoanRight answers as the reference's LoanRight does; no condition beyond each lemma's own. -/
import Derived.Test.YtipkfflcdomheaaDays
import Derived.Test.YtipkfflcdomheaaS0
import Derived.Test.YtipkfflcdomheaaS2
import Derived.Test.YtipkfflcdomheaaS8
import Derived.Test.YtipkfflcdomheaaS9
namespace Go.Proofs.Ytipkfflcdomheaa.LoanSame
open Go.RowKit Go.Proofs.Ytipkfflcdomheaa.S Go.Proofs.YtipkfflcdomheaaW.PrintWords Go.Proofs.Ytipkfflcdomheaa.Cal Go.Proofs.Ytipkfflcdomheaa.Days
set_option linter.unusedSimpArgs false
theorem loanRight_same (p r b s t : Int) (t0 : -9223372036854775808 ≤ t) (t1 : t ≤ 9223372036854775807) : ∃ x : Bool, ∀ k, 300 ≤ k → spec_LoanRight.f k p r b s t = some x ∧ impl_LoanRight.f k p r b s t = some x := by
  obtain ⟨q, hq⟩ := dayAdd_same s t t0 t1
  refine ⟨decide (1 ≤ p ∧ p ≤ 10000000000 ∧ 0 ≤ r ∧ r ≤ 500000 ∧ 1 ≤ b ∧ b ≤ 3 ∧ 1 ≤ t ∧ t ≤ 60 ∧ q.2 = 0), fun k hk => ?_⟩
  obtain ⟨h1, h2⟩ := hq k hk
  have hday : ¬ (0 ≤ s ∧ s ≤ 36524) → q.2 ≠ 0 := by
    intro h
    have := (dayAdd_no s t h k).1
    rw [h1] at this
    rw [Option.some.inj this]
    decide
  have e : ∀ (c : Prop) [Decidable c] (x : Bool), (if c then some x else some false) = some (decide c && x) := by
    intro c _ x
    split <;> simp_all
  constructor
  · unfold spec_LoanRight.f
    rw [spec_right, h1]
    simp only [Option.bind_some, e]
    congr 1
    by_cases hd : 0 ≤ s ∧ s ≤ 36524
    · rw [Bool.eq_iff_iff]
      simp [hd]
    · have := hday hd
      rw [Bool.eq_iff_iff]
      simp [hd, this]
  · unfold impl_LoanRight.f impl_isBasis.f
    rw [impl_in_eval, impl_in_eval, impl_in_eval, impl_in_eval, h2]
    simp only [Option.bind_some, e]
    congr 1
    rw [Bool.eq_iff_iff]
    simp [and_assoc]
end Go.Proofs.Ytipkfflcdomheaa.LoanSame
