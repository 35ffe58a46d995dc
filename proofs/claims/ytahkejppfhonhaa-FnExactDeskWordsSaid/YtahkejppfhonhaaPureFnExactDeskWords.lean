/- Proved: the program's DeskWords answers as the reference's DeskWords does, and its answer owns its memory; no condition. -/
import Derived.Test.YtahkejppfhonhaaPFnExactDeskWordsx1
namespace Go.Proofs.Ytahkejppfhonhaa.Pure
open Go.RowKit Go.Proofs.Ytahkejppfhonhaa.PFnExactDeskWords Go.Proofs.YtahkejppfhonhaaW.PrintWords Go.Proofs.YtahkejppfhonhaaW.PrintLast

/-- YOURS: ∃ k, laws_FnExactDeskWords.f k  = some true
What it reaches (each with k first where it has rounds; `.mono`: more rounds tell the same; `.l0`, ..: its loops, with `.mono_l`): laws_eqStringS.f, laws_markText.f, laws_markStringS.f, laws_heldStringS.f, spec_DeskWords.f, impl_DeskWords.f, laws_FnExactDeskWords.f -/
theorem FnExactDeskWords : laws_FnExactDeskWords.Pure := by
  exact ⟨1000, by kernel_rfl⟩

end Go.Proofs.Ytahkejppfhonhaa.Pure
