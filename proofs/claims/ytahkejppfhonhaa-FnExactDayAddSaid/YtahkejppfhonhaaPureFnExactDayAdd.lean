/- Proved: the program's DayAdd answers as the reference's DayAdd does, at every pair of int64 numbers; no condition. -/
import Derived.Test.YtahkejppfhonhaaDays
import Derived.Test.YtahkejppfhonhaaS0
import Derived.Test.YtahkejppfhonhaaS2
namespace Go.Proofs.Ytahkejppfhonhaa.Pure
open Go.RowKit Go.Proofs.Ytahkejppfhonhaa.S Go.Proofs.YtahkejppfhonhaaW.PrintWords Go.Proofs.YtahkejppfhonhaaW.PrintLast Go.Proofs.Ytahkejppfhonhaa.Cal Go.Proofs.Ytahkejppfhonhaa.Days

theorem FnExactDayAdd : laws_FnExactDayAdd.Pure := by
  intro day n hd hn
  have w := wf64 hn
  obtain ⟨r, hr⟩ := dayAdd_same day n w.1 w.2
  obtain ⟨a, b⟩ := hr 300 (by omega)
  refine ⟨300, ?_⟩
  unfold laws_FnExactDayAdd.f
  rw [a, b]
  simp [laws_eqDayOut.f]

end Go.Proofs.Ytahkejppfhonhaa.Pure
