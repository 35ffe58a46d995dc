/- Proved: the program's LibNames answers as the reference's LibNames does, and its answer owns its memory; no condition. -/
import Derived.Test.YtahkejppfhonhaaPFnExactLibNamesx1
namespace Go.Proofs.Ytahkejppfhonhaa.Pure
open Go.RowKit Go.Proofs.Ytahkejppfhonhaa.PFnExactLibNames Go.Proofs.YtahkejppfhonhaaW.PrintWords Go.Proofs.YtahkejppfhonhaaW.PrintLast

/-- YOURS: ∃ k, laws_FnExactLibNames.f k  = some true
What it reaches (each with k first where it has rounds; `.mono`: more rounds tell the same; `.l0`, ..: its loops, with `.mono_l`): spec_LibNames.f, impl_LibNames.f, laws_eqStringS.f, laws_markText.f, laws_markStringS.f, laws_heldStringS.f, laws_FnExactLibNames.f -/
theorem FnExactLibNames : laws_FnExactLibNames.Pure := by
  exact ⟨1000, by kernel_rfl⟩

end Go.Proofs.Ytahkejppfhonhaa.Pure
