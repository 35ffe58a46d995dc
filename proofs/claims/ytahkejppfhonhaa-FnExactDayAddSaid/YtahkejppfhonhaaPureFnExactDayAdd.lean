/- Proved: the program's DayAdd answers as the reference's DayAdd does, at every pair of int64 numbers; no condition. -/
import Derived.Test.YtahkejppfhonhaaDays
import Derived.Test.YtahkejppfhonhaaS0
import Derived.Test.YtahkejppfhonhaaS1
import Derived.Test.YtahkejppfhonhaaS2
namespace Go.Proofs.Ytahkejppfhonhaa.Pure
open Go.RowKit Go.Proofs.Ytahkejppfhonhaa.S Go.Proofs.YtahkejppfhonhaaW.PrintWords Go.Proofs.YtahkejppfhonhaaW.PrintLast Go.Proofs.Ytahkejppfhonhaa.Cal Go.Proofs.Ytahkejppfhonhaa.Days

theorem wf64 {a : Int} (h : (Lit.int .i64 a).wf = true) : -9223372036854775808 ≤ a ∧ a ≤ 9223372036854775807 := by
  have h1 : IntKind.i64.min ≤ a ∧ a ≤ IntKind.i64.max := by simpa [Lit.wf] using h
  have e1 : IntKind.i64.min = -9223372036854775808 := by decide
  have e2 : IntKind.i64.max = 9223372036854775807 := by decide
  omega
theorem dayAdd_no (day n : Int) (h : ¬ (0 ≤ day ∧ day ≤ 36524)) (k : Nat) : spec_DayAdd.f k day n = some (0, 1) ∧ impl_DayAdd.f k day n = some (0, 1) := by
  constructor
  · unfold spec_DayAdd.f
    rw [spec_right, decide_eq_false h]
    simp
  · unfold impl_DayAdd.f
    rw [impl_isDay_eval, decide_eq_false h]
    simp
theorem dayAdd_same (day n : Int) (n0 : -9223372036854775808 ≤ n) (n1 : n ≤ 9223372036854775807) : ∃ r : Int × Int, ∀ k, 300 ≤ k → spec_DayAdd.f k day n = some r ∧ impl_DayAdd.f k day n = some r := by
  by_cases h : 0 ≤ day ∧ day ≤ 36524
  · obtain ⟨y, m, d, hv, rfl⟩ := date_of day h.1 h.2
    exact ⟨addM y m d n, fun k hk => ⟨spec_add hv n0 n1 hk, impl_add hv n0 n1 hk⟩⟩
  · exact ⟨(0, 1), fun k _ => dayAdd_no day n h k⟩
theorem FnExactDayAdd : laws_FnExactDayAdd.Pure := by
  intro day n hd hn
  have w := wf64 hn
  obtain ⟨r, hr⟩ := dayAdd_same day n w.1 w.2
  obtain ⟨a, b⟩ := hr 300 (by omega)
  refine ⟨300, ?_⟩
  unfold laws_FnExactDayAdd.f
  rw [a, b]
  simp [laws_eqDayOut.f]

end Go.Proofs.Ytahkejppfhonhaa.Pure
