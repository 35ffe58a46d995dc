/- Proved: the program's DiskCrash answers as the reference's DiskCrash does, at every disk and number of bytes kept, and what it gives is its own; no condition. -/
import Derived.Test.YtahkejppfhonhaaDiskLoops
import Derived.Test.YtahkejppfhonhaaDiskSame
import Derived.Test.YtahkejppfhonhaaStmFnExactDiskCrash
import Derived.Test.YtahkejppfhonhaaS0
import Derived.Test.YtahkejppfhonhaaS1
import Derived.Test.YtahkejppfhonhaaS3
import Derived.Test.YtahkejppfhonhaaS4
import Derived.Test.YtahkejppfhonhaaS5
namespace Go.Proofs.Ytahkejppfhonhaa.Pure
open Go.RowKit Go.Proofs.Ytahkejppfhonhaa.S Go.Proofs.YtahkejppfhonhaaW.PrintWords Go.Proofs.Ytahkejppfhonhaa.Cal Go.Proofs.Ytahkejppfhonhaa.DiskBase Go.Proofs.Ytahkejppfhonhaa.DiskLoops Go.Proofs.Ytahkejppfhonhaa.DiskSame
set_option linter.unusedVariables false
set_option linter.unusedSimpArgs false

theorem extract_app (s c : ByteArray) (n : Nat) : (s ++ c).extract 0 (s.size + n) = s ++ c.extract 0 n := by
  apply ByteArray.ext
  apply Array.ext'
  simp only [ByteArray.data_extract, ByteArray.data_append, Array.toList_extract, Array.toList_append, List.extract_eq_take_drop, Nat.sub_zero, List.drop_zero]
  have e1 : s.size = s.data.toList.length := Array.length_toList.symm
  rw [e1, List.take_length_add_append]
theorem keep_val (a c : Int) (h : 0 ≤ c) : ∃ m : Int, 0 ≤ m ∧ m ≤ c ∧ mn (mx a 0) c = m ∧ ∃ u, spec_l01Min.f a c = some u ∧ spec_l01Max.f 0 u = some m := by
  unfold spec_l01Min.f spec_l01Max.f
  by_cases h1 : a < c
  · by_cases h2 : 0 > a
    · exact ⟨0, by omega, h, by unfold mn mx; omega, a, by rw [if_pos h1], by rw [if_pos h2]⟩
    · exact ⟨a, by omega, by omega, by unfold mn mx; omega, a, by rw [if_pos h1], by rw [if_neg h2]⟩
  · by_cases h2 : 0 > c
    · omega
    · exact ⟨c, h, Int.le_refl _, by unfold mn mx; omega, c, by rw [if_neg h1], by rw [if_neg h2]⟩
theorem same_DiskCrash {s : ByteArray} {l : List ByteArray} (sm : Small s l) (a : Int) : ∃ z : ByteArray × List ByteArray, z.2.length ≤ 1048577 ∧ ∀ k, 2000000 ≤ k → spec_DiskCrash.f k s l a = some z ∧ impl_DiskCrash.f k s l a = some z := by
  unfold Small at sm
  have hl : l.length ≤ 1048577 := by omega
  have hs : s.size ≤ 3000000 := by omega
  have ht : tot l ≤ 3000000 := by omega
  by_cases c : right s l = true
  case neg =>
    refine ⟨(s, l), hl, fun k hk => ⟨?_, ?_⟩⟩
    · unfold spec_DiskCrash.f
      refine bnd (spec_right hl hs ht hk) ?_
      refine no c ?_
      exact bnd (copy hl) rfl
    · unfold impl_DiskCrash.f
      refine bnd (impl_right hl hs ht hk) ?_
      refine no c ?_
      exact bnd (copied hl) rfl
  obtain ⟨m, m0, m1, e, u, hu, hm⟩ := keep_val a ((cat l).size : Int) (by omega)
  have cs := cat_size l
  have es : (s ++ cat l).size = s.size + (cat l).size := ByteArray.size_append
  refine ⟨(s ++ (cat l).extract 0 m.toNat, []), by simp, fun k hk => ⟨?_, ?_⟩⟩
  · unfold spec_DiskCrash.f
    refine bnd (spec_right hl hs ht hk) ?_
    refine yes c ?_
    refine bnd (loose s hl ht hk) ?_
    refine bnd hu ?_
    refine bnd hm ?_
    refine yes m0 ?_
    refine yes m1 ?_
    exact yes (by rw [ByteArray.size_extract]; omega) rfl
  · unfold impl_DiskCrash.f
    refine bnd (impl_right hl hs ht hk) ?_
    refine yes c ?_
    refine bnd (text hl hs ht) ?_
    have e2 : wrap64 (((s ++ cat l).size : Int) - (s.size : Int)) = ((cat l).size : Int) := by rw [wid (by omega) (by omega)]; omega
    rw [e2, e, wid (x := (s.size : Int) + m) (by omega) (by omega)]
    refine yes (by omega) ?_
    refine yes (by omega) ?_
    have e3 : ((s.size : Int) + m).toNat = s.size + m.toNat := by omega
    rw [e3, extract_app]
theorem FnExactDiskCrash : StmFnExactDiskCrash.Pure := by
  rintro s l a ⟨hs, hl, hm⟩ ha
  obtain ⟨J, hJ⟩ : ∃ K : Nat, 2000000 ≤ K := ⟨2000000, Nat.le_refl _⟩
  refine ⟨J + 1, ?_⟩
  obtain ⟨t, ht, hc⟩ := sz_disk s l hs hl hm (k := J + 1) (by omega)
  unfold laws_FnExactDiskCrash.f
  refine bnd ht ?_
  by_cases c : t < 0
  · exact yes c rfl
  refine no c ?_
  have sm := (hc.resolve_left c).2
  have sm2 := sm
  unfold Small at sm2
  obtain ⟨z, zl, hz⟩ := same_DiskCrash sm a
  have hK : 2000000 ≤ J + 1 := by omega
  have hl1 : l.length ≤ 1048576 := by omega
  have hl2 : l.length ≤ 1048577 := by omega
  have hd := toDisk (s := s) hl1 hK
  have hd0 := toDisk (s := s) hl1 hJ
  have he := eqDisk (s := z.1) zl hK
  have he0 := eqDisk (s := z.1) zl hJ
  refine bnd hd ?_
  refine bnd (hz _ hK).1 ?_
  refine bnd hd ?_
  refine bnd (hz _ hK).2 ?_
  refine bnd he ?_
  refine yes rfl ?_
  refine bnd hd ?_
  refine bnd (eqDisk (s := s) hl2 hK) ?_
  refine yes rfl ?_
  refine bnd (markDisk s hl2 hK) ?_
  refine no (by show ¬ 1 + (l.length : Int) < 0; omega) ?_
  refine bnd he ?_
  rw [laws_FnExactDiskCrash.j0]
  refine no (by decide) ?_
  refine bnd (markDisk z.1 zl hJ) ?_
  refine bnd (heldDisk z.1 zl hJ) ?_
  refine no (by omega) ?_
  refine yes rfl ?_
  refine bnd hd0 ?_
  refine bnd (hz _ hJ).2 ?_
  refine bnd he0 ?_
  refine yes rfl ?_
  refine bnd (heldDisk z.1 zl hJ) ?_
  refine no (by omega) ?_
  exact yes rfl rfl
end Go.Proofs.Ytahkejppfhonhaa.Pure
