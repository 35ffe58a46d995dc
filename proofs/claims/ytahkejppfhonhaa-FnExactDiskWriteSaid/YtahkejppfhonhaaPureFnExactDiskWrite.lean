/- Proved: the program's DiskWrite answers as the reference's DiskWrite does, at every disk and text, and what it gives is its own; no condition. -/
import Derived.Test.YtahkejppfhonhaaDiskSame
import Derived.Test.YtahkejppfhonhaaStmFnExactDiskWrite
import Derived.Test.YtahkejppfhonhaaS0
import Derived.Test.YtahkejppfhonhaaS5
import Derived.Test.YtahkejppfhonhaaS6
namespace Go.Proofs.Ytahkejppfhonhaa.Pure
open Go.RowKit Go.Proofs.Ytahkejppfhonhaa.S Go.Proofs.YtahkejppfhonhaaW.PrintWords Go.Proofs.Ytahkejppfhonhaa.Cal Go.Proofs.Ytahkejppfhonhaa.DiskLoops Go.Proofs.Ytahkejppfhonhaa.DiskSame
set_option linter.unusedVariables false
set_option linter.unusedSimpArgs false

theorem same_DiskWrite {s : ByteArray} {l : List ByteArray} (sm : Small s l) (a : ByteArray) (ha : a.size ≤ 1048576) : ∃ z : ByteArray × List ByteArray, z.2.length ≤ 1048577 ∧ ∀ k, 2000001 ≤ k → spec_DiskWrite.f k s l a = some z ∧ impl_DiskWrite.f k s l a = some z := by
  unfold Small at sm
  have hl : l.length ≤ 1048577 := by omega
  have hs : s.size ≤ 3000000 := by omega
  have ht : tot l ≤ 3000000 := by omega
  have hl1 : (l ++ [a]).length ≤ 1048577 := by rw [List.length_append]; simp; omega
  have ht1 : tot (l ++ [a]) ≤ 3000000 := by rw [tot_append]; simp [tot]; omega
  by_cases c0 : (a.size : Int) > 20000
  · refine ⟨((⟨#[]⟩ : ByteArray), []), by simp, fun k hk => ⟨?_, ?_⟩⟩
    · unfold spec_DiskWrite.f
      exact yes c0 rfl
    · unfold impl_DiskWrite.f
      exact yes c0 rfl
  have hr1 : a.size = 0 → right s (l ++ [a]) = false := by
    intro h0
    unfold right
    rw [decide_eq_false (fun h => h.2.1 a (by simp) h0)]
  refine ⟨(s, if right s l = true ∧ right s (l ++ [a]) = true then l ++ [a] else l), ?_, fun k hk => ⟨?_, ?_⟩⟩
  · show (if right s l = true ∧ right s (l ++ [a]) = true then l ++ [a] else l).length ≤ 1048577
    split
    · exact hl1
    · exact hl
  · obtain ⟨j, rfl⟩ : ∃ j, k = j + 1 := ⟨k - 1, by omega⟩
    unfold spec_DiskWrite.f
    refine no c0 ?_
    refine bnd (copy hl) ?_
    refine bnd (spec_right hl hs ht (by omega)) ?_
    by_cases c : right s l = true
    · refine yes c ?_
      rw [spec_DiskWrite.j0]
      by_cases e : a.size = 0
      · refine yes (by rw [toList_ne.mpr e]; rfl) ?_
        rw [hr1 e, if_neg (fun h => by cases h.2)]
      · refine no (fun h => e (toList_ne.mp (eq_of_beq h))) ?_
        refine yes (by show l.length < _; omega) ?_
        rw [Option.bind_some]
        refine bnd (spec_right hl1 hs ht1 (k := j) (by omega)) ?_
        by_cases c1 : right s (l ++ [a]) = true
        · refine yes c1 ?_
          rw [if_pos ⟨c, c1⟩]
        · refine no c1 ?_
          refine bnd (copy hl) ?_
          rw [if_neg (fun h => c1 h.2)]
    · refine no c ?_
      rw [spec_DiskWrite.j0]
      refine yes rfl ?_
      rw [if_neg (fun h => c h.1)]
  · unfold impl_DiskWrite.f
    refine no c0 ?_
    refine bnd (copied hl) ?_
    refine yes (by show l.length < _; omega) ?_
    rw [Option.bind_some]
    refine bnd (impl_right hl hs ht (by omega)) ?_
    by_cases c : right s l = true
    · refine yes c ?_
      refine bnd (impl_right hl1 hs ht1 (by omega)) ?_
      by_cases c1 : right s (l ++ [a]) = true
      · refine yes c1 ?_
        rw [if_pos ⟨c, c1⟩]
      · refine no c1 ?_
        refine bnd (copied hl) ?_
        rw [if_neg (fun h => c1 h.2)]
    · refine no c ?_
      refine bnd (copied hl) ?_
      rw [if_neg (fun h => c h.1)]
theorem FnExactDiskWrite : StmFnExactDiskWrite.Pure := by
  rintro s l a ⟨hs, hl, hm⟩ ha
  obtain ⟨J, hJ⟩ : ∃ K : Nat, 2000001 ≤ K := ⟨2000001, Nat.le_refl _⟩
  refine ⟨J + 1, ?_⟩
  obtain ⟨t, ht, hc⟩ := sz_disk s l hs hl hm (k := J + 1) (by omega)
  unfold laws_FnExactDiskWrite.f
  by_cases big : (a.size : Int) > 1048576
  · exact yes big rfl
  refine no big ?_
  refine bnd ht ?_
  by_cases c : t < 0
  · exact yes c rfl
  refine no c ?_
  have sm := (hc.resolve_left c).2
  have sm2 := sm
  unfold Small at sm2
  obtain ⟨z, zl, hz⟩ := same_DiskWrite sm a (by omega)
  have hK : 2000000 ≤ J + 1 := by omega
  have hl1 : l.length ≤ 1048576 := by omega
  have hl2 : l.length ≤ 1048577 := by omega
  have hd := toDisk (s := s) hl1 hK
  have hJ' : 2000000 ≤ J := by omega
  have hd0 := toDisk (s := s) hl1 hJ'
  have he := eqDisk (s := z.1) zl hK
  have he0 := eqDisk (s := z.1) zl hJ'
  refine bnd hd ?_
  refine bnd (hz _ (by omega)).1 ?_
  refine bnd hd ?_
  refine bnd (hz _ (by omega)).2 ?_
  refine bnd he ?_
  refine yes rfl ?_
  refine bnd hd ?_
  refine bnd (eqDisk (s := s) hl2 hK) ?_
  refine yes rfl ?_
  refine bnd (markDisk s hl2 hK) ?_
  refine no (by show ¬ 1 + (l.length : Int) < 0; omega) ?_
  refine bnd he ?_
  rw [laws_FnExactDiskWrite.j0]
  refine no (by decide) ?_
  refine bnd (markDisk z.1 zl hJ') ?_
  refine bnd (heldDisk z.1 zl hJ') ?_
  refine no (by omega) ?_
  refine yes rfl ?_
  refine bnd hd0 ?_
  refine bnd (hz _ (by omega)).2 ?_
  refine bnd he0 ?_
  refine yes rfl ?_
  refine bnd (heldDisk z.1 zl hJ') ?_
  refine no (by omega) ?_
  exact yes rfl rfl
end Go.Proofs.Ytahkejppfhonhaa.Pure
