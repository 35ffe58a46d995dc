/- Proved: the program's DiskSync answers as the reference's DiskSync does, at every disk, and what it gives is its own; no condition. -/
import Derived.Test.YtahkejppfhonhaaDiskSame
import Derived.Test.YtahkejppfhonhaaStmFnExactDiskSync
import Derived.Test.YtahkejppfhonhaaS0
import Derived.Test.YtahkejppfhonhaaS1
import Derived.Test.YtahkejppfhonhaaS4
namespace Go.Proofs.Ytahkejppfhonhaa.Pure
open Go.RowKit Go.Proofs.Ytahkejppfhonhaa.S Go.Proofs.YtahkejppfhonhaaW.PrintWords Go.Proofs.Ytahkejppfhonhaa.Cal Go.Proofs.Ytahkejppfhonhaa.DiskLoops Go.Proofs.Ytahkejppfhonhaa.DiskSame
set_option linter.unusedVariables false
set_option linter.unusedSimpArgs false

theorem same_DiskSync {s : ByteArray} {l : List ByteArray} (sm : Small s l) : ∃ z : ByteArray × List ByteArray, z.2.length ≤ 1048577 ∧ ∀ k, 2000000 ≤ k → spec_DiskSync.f k s l = some z ∧ impl_DiskSync.f k s l = some z := by
  unfold Small at sm
  have hl : l.length ≤ 1048577 := by omega
  have hs : s.size ≤ 3000000 := by omega
  have ht : tot l ≤ 3000000 := by omega
  by_cases c : right s l = true
  · refine ⟨(s ++ cat l, []), by simp, fun k hk => ⟨?_, ?_⟩⟩
    · unfold spec_DiskSync.f
      refine bnd (spec_right hl hs ht hk) ?_
      refine yes c ?_
      refine bnd (diskText hl hs ht hk) ?_
      rw [if_pos c]
    · unfold impl_DiskSync.f
      refine bnd (impl_right hl hs ht hk) ?_
      refine yes c ?_
      exact bnd (text hl hs ht) rfl
  · refine ⟨(s, l), hl, fun k hk => ⟨?_, ?_⟩⟩
    · unfold spec_DiskSync.f
      refine bnd (spec_right hl hs ht hk) ?_
      refine no c ?_
      exact bnd (copy hl) rfl
    · unfold impl_DiskSync.f
      refine bnd (impl_right hl hs ht hk) ?_
      refine no c ?_
      exact bnd (copied hl) rfl
theorem FnExactDiskSync : StmFnExactDiskSync.Pure := by
  rintro s l ⟨hs, hl, hm⟩ 
  obtain ⟨J, hJ⟩ : ∃ K : Nat, 2000000 ≤ K := ⟨2000000, Nat.le_refl _⟩
  refine ⟨J + 1, ?_⟩
  obtain ⟨t, ht, hc⟩ := sz_disk s l hs hl hm (k := J + 1) (by omega)
  unfold laws_FnExactDiskSync.f
  refine bnd ht ?_
  by_cases c : t < 0
  · exact yes c rfl
  refine no c ?_
  have sm := (hc.resolve_left c).2
  have sm2 := sm
  unfold Small at sm2
  obtain ⟨z, zl, hz⟩ := same_DiskSync sm
  have hK : 2000000 ≤ J + 1 := by omega
  have hl1 : l.length ≤ 1048576 := by omega
  have hl2 : l.length ≤ 1048577 := by omega
  have hd := toDisk (s := s) hl1 hK
  have hd0 := toDisk (s := s) hl1 hJ
  have he := eqDisk (s := z.1) zl hK
  have he0 := eqDisk (s := z.1) zl hJ
  refine bnd hd ?_
  refine bnd (hz _ hK).1 ?_
  refine bnd hd ?_
  refine bnd (hz _ hK).2 ?_
  refine bnd he ?_
  refine yes rfl ?_
  refine bnd hd ?_
  refine bnd (eqDisk (s := s) hl2 hK) ?_
  refine yes rfl ?_
  refine bnd (markDisk s hl2 hK) ?_
  refine no (by show ¬ 1 + (l.length : Int) < 0; omega) ?_
  refine bnd he ?_
  rw [laws_FnExactDiskSync.j0]
  refine no (by decide) ?_
  refine bnd (markDisk z.1 zl hJ) ?_
  refine bnd (heldDisk z.1 zl hJ) ?_
  refine no (by omega) ?_
  refine yes rfl ?_
  refine bnd hd0 ?_
  refine bnd (hz _ hJ).2 ?_
  refine bnd he0 ?_
  refine yes rfl ?_
  refine bnd (heldDisk z.1 zl hJ) ?_
  refine no (by omega) ?_
  exact yes rfl rfl
end Go.Proofs.Ytahkejppfhonhaa.Pure
