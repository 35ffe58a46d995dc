/- Plain laws: the reference's text of a disk; no condition beyond each lemma's own. -/
import Derived.Test.YtahkejppfhonhaaDiskSame
import Derived.Test.YtahkejppfhonhaaS0
import Derived.Test.YtahkejppfhonhaaS4
namespace Go.Proofs.Ytahkejppfhonhaa.DiskText
open Go.RowKit Go.Proofs.Ytahkejppfhonhaa.S Go.Proofs.YtahkejppfhonhaaW.PrintWords Go.Proofs.Ytahkejppfhonhaa.Cal Go.Proofs.Ytahkejppfhonhaa.DiskBase Go.Proofs.Ytahkejppfhonhaa.DiskSame
set_option linter.unusedVariables false
set_option linter.unusedSimpArgs false

theorem diskText {s : ByteArray} {l : List ByteArray} (hl : l.length ≤ 1048577) (hs : s.size ≤ 3000000) (ht : tot l ≤ 3000000) {k : Nat} (hk : 2000000 ≤ k) : spec_DiskText.f k s l = some (if right s l = true then s ++ cat l else (⟨#[]⟩ : ByteArray)) := by
  unfold spec_DiskText.f
  refine bnd (spec_right hl hs ht hk) ?_
  by_cases c : right s l = true
  · rw [if_pos c, if_pos c]
    refine bnd (loose s hl ht hk) ?_
    exact yes (by rw [cat_size]; omega) rfl
  · rw [if_neg c, if_neg c]
end Go.Proofs.Ytahkejppfhonhaa.DiskText
