/- Proved: the program's DiskCut answers as the reference's DiskCut does, at every disk and size, and what it gives is its own; no condition. -/
import Derived.Test.YtahkejppfhonhaaDiskSame
import Derived.Test.YtahkejppfhonhaaStmFnExactDiskCut
import Derived.Test.YtahkejppfhonhaaS0
import Derived.Test.YtahkejppfhonhaaS6
import Derived.Test.YtahkejppfhonhaaS7
namespace Go.Proofs.Ytahkejppfhonhaa.Pure
open Go.RowKit Go.Proofs.Ytahkejppfhonhaa.S Go.Proofs.YtahkejppfhonhaaW.PrintWords Go.Proofs.Ytahkejppfhonhaa.Cal Go.Proofs.Ytahkejppfhonhaa.DiskLoops Go.Proofs.Ytahkejppfhonhaa.DiskSame
set_option linter.unusedVariables false
set_option linter.unusedSimpArgs false

theorem in_eval (a b c : Int) : impl_in.f a b c = some (decide (b ≤ a ∧ a ≤ c)) := by
  unfold impl_in.f
  by_cases h : b ≤ a
  · rw [if_pos h]
    simp [h]
  · rw [if_neg h]
    simp [h]
theorem same_DiskCut {s : ByteArray} {l : List ByteArray} (sm : Small s l) (a : Int) : ∃ z : ByteArray × List ByteArray, z.2.length ≤ 1048577 ∧ ∀ k, 2000001 ≤ k → spec_DiskCut.f k s l a = some z ∧ impl_DiskCut.f k s l a = some z := by
  unfold Small at sm
  have hl : l.length ≤ 1048577 := by omega
  have hs : s.size ≤ 3000000 := by omega
  have ht : tot l ≤ 3000000 := by omega
  by_cases c : right s l = true
  case neg =>
    refine ⟨(s, l), hl, fun k hk => ⟨?_, ?_⟩⟩
    · unfold spec_DiskCut.f
      refine bnd (diskText hl hs ht (by omega)) ?_
      refine bnd (spec_right hl hs ht (by omega)) ?_
      refine no c ?_
      exact bnd (copy hl) rfl
    · obtain ⟨j, rfl⟩ : ∃ j, k = j + 1 := ⟨k - 1, by omega⟩
      unfold impl_DiskCut.f
      refine bnd (impl_right hl hs ht (by omega)) ?_
      refine no c ?_
      rw [impl_DiskCut.j0]
      refine yes rfl ?_
      exact bnd (copied hl) rfl
  by_cases g : 0 ≤ a ∧ a ≤ ((s ++ cat l).size : Int)
  case neg =>
    refine ⟨(s, l), hl, fun k hk => ⟨?_, ?_⟩⟩
    · unfold spec_DiskCut.f
      refine bnd (diskText hl hs ht (by omega)) ?_
      refine bnd (spec_right hl hs ht (by omega)) ?_
      refine yes c ?_
      rw [if_pos c]
      by_cases g1 : a < 0
      · refine yes g1 ?_
        exact bnd (copy hl) rfl
      · refine no g1 ?_
        refine yes (by omega) ?_
        exact bnd (copy hl) rfl
    · obtain ⟨j, rfl⟩ : ∃ j, k = j + 1 := ⟨k - 1, by omega⟩
      unfold impl_DiskCut.f
      refine bnd (impl_right hl hs ht (by omega)) ?_
      refine yes c ?_
      refine bnd (text hl hs ht) ?_
      refine bnd (in_eval _ _ _) ?_
      rw [decide_eq_false g, impl_DiskCut.j0]
      refine yes rfl ?_
      exact bnd (copied hl) rfl
  refine ⟨((s ++ cat l).extract 0 a.toNat, []), by simp, fun k hk => ⟨?_, ?_⟩⟩
  · unfold spec_DiskCut.f
    refine bnd (diskText hl hs ht (by omega)) ?_
    refine bnd (spec_right hl hs ht (by omega)) ?_
    refine yes c ?_
    rw [if_pos c]
    refine no (by omega) ?_
    refine no (by omega) ?_
    refine yes g.1 ?_
    exact yes g.2 rfl
  · obtain ⟨j, rfl⟩ : ∃ j, k = j + 1 := ⟨k - 1, by omega⟩
    unfold impl_DiskCut.f
    refine bnd (impl_right hl hs ht (by omega)) ?_
    refine yes c ?_
    refine bnd (text hl hs ht) ?_
    refine bnd (in_eval _ _ _) ?_
    rw [decide_eq_true g, impl_DiskCut.j0]
    refine no (by decide) ?_
    refine bnd (text hl hs ht) ?_
    refine yes g.1 ?_
    exact yes g.2 rfl
theorem FnExactDiskCut : StmFnExactDiskCut.Pure := by
  rintro s l a ⟨hs, hl, hm⟩ ha
  obtain ⟨J, hJ⟩ : ∃ K : Nat, 2000001 ≤ K := ⟨2000001, Nat.le_refl _⟩
  refine ⟨J + 1, ?_⟩
  obtain ⟨t, ht, hc⟩ := sz_disk s l hs hl hm (k := J + 1) (by omega)
  unfold laws_FnExactDiskCut.f
  refine bnd ht ?_
  by_cases c : t < 0
  · exact yes c rfl
  refine no c ?_
  have sm := (hc.resolve_left c).2
  have sm2 := sm
  unfold Small at sm2
  obtain ⟨z, zl, hz⟩ := same_DiskCut sm a
  have hK : 2000000 ≤ J + 1 := by omega
  have hl1 : l.length ≤ 1048576 := by omega
  have hl2 : l.length ≤ 1048577 := by omega
  have hd := toDisk (s := s) hl1 hK
  have hJ' : 2000000 ≤ J := by omega
  have hd0 := toDisk (s := s) hl1 hJ'
  have he := eqDisk (s := z.1) zl hK
  have he0 := eqDisk (s := z.1) zl hJ'
  refine bnd hd ?_
  refine bnd (hz _ (by omega)).1 ?_
  refine bnd hd ?_
  refine bnd (hz _ (by omega)).2 ?_
  refine bnd he ?_
  refine yes rfl ?_
  refine bnd hd ?_
  refine bnd (eqDisk (s := s) hl2 hK) ?_
  refine yes rfl ?_
  refine bnd (markDisk s hl2 hK) ?_
  refine no (by show ¬ 1 + (l.length : Int) < 0; omega) ?_
  refine bnd he ?_
  rw [laws_FnExactDiskCut.j0]
  refine no (by decide) ?_
  refine bnd (markDisk z.1 zl hJ') ?_
  refine bnd (heldDisk z.1 zl hJ') ?_
  refine no (by omega) ?_
  refine yes rfl ?_
  refine bnd hd0 ?_
  refine bnd (hz _ (by omega)).2 ?_
  refine bnd he0 ?_
  refine yes rfl ?_
  refine bnd (heldDisk z.1 zl hJ') ?_
  refine no (by omega) ?_
  exact yes rfl rfl
end Go.Proofs.Ytahkejppfhonhaa.Pure
