/- Proved: what stands on a drawn right disk behind a crash begins as it stood there and holds at least what was safe, and what was synced is all there behind any crash, whatever the bytes; no condition. -/
import Derived.Test.YtahkejppfhonhaaDrawsDisk
import Derived.Test.YtahkejppfhonhaaDiskText
import Derived.Test.YtahkejppfhonhaaS0
import Derived.Test.YtahkejppfhonhaaS4
import Derived.Test.YtahkejppfhonhaaS5
namespace Go.Proofs.Ytahkejppfhonhaa.Pure
open Go.RowKit Go.Proofs.Ytahkejppfhonhaa.S Go.Proofs.YtahkejppfhonhaaW.PrintWords Go.Proofs.Ytahkejppfhonhaa.Cal Go.Proofs.Ytahkejppfhonhaa.DiskBase Go.Proofs.Ytahkejppfhonhaa.DiskSame Go.Proofs.Ytahkejppfhonhaa.DiskText Go.Proofs.Ytahkejppfhonhaa.Draws
set_option linter.unusedVariables false
set_option linter.unusedSimpArgs false

theorem in_eval (a b c : Int) : impl_in.f a b c = some (decide (b ≤ a ∧ a ≤ c)) := by
  unfold impl_in.f
  by_cases h : b ≤ a
  · rw [if_pos h]
    simp [h]
  · rw [if_neg h]
    simp [h]
theorem extract_app (s c : ByteArray) (n : Nat) : (s ++ c).extract 0 (s.size + n) = s ++ c.extract 0 n := by
  apply ByteArray.ext
  apply Array.ext'
  simp only [ByteArray.data_extract, ByteArray.data_append, Array.toList_extract, Array.toList_append, List.extract_eq_take_drop, Nat.sub_zero, List.drop_zero]
  have e1 : s.size = s.data.toList.length := Array.length_toList.symm
  rw [e1, List.take_length_add_append]
theorem app_nil (s : ByteArray) : s ++ cat [] = s := by
  apply ByteArray.ext
  apply Array.ext'
  simp [ByteArray.data_append, cat]
theorem right_alone {s : ByteArray} (h : s.size ≤ 20000) : right s [] = true := by
  unfold right
  rw [decide_eq_true_eq]
  exact ⟨by simp, by simp, by simp [tot]; omega⟩
/-- What a crash leaves of a right disk. -/
theorem crash_val {s : ByteArray} {l : List ByteArray} (c : right s l = true) (a : Int) : ∃ m : Nat, m ≤ (cat l).size ∧ ∀ k, 2000000 ≤ k → impl_DiskCrash.f k s l a = some (s ++ (cat l).extract 0 m, []) := by
  have rb := right_bytes c
  have hl : l.length ≤ 1048577 := by omega
  have hs : s.size ≤ 3000000 := by omega
  have ht : tot l ≤ 3000000 := by omega
  have cs := cat_size l
  have es : (s ++ cat l).size = s.size + (cat l).size := ByteArray.size_append
  obtain ⟨m, hm, e⟩ : ∃ m : Nat, m ≤ (cat l).size ∧ mn (mx a 0) ((cat l).size : Int) = (m : Int) := by
    by_cases h1 : a < 0
    · exact ⟨0, by omega, by unfold mn mx; omega⟩
    · by_cases h2 : a ≤ ((cat l).size : Int)
      · exact ⟨a.toNat, by omega, by unfold mn mx; omega⟩
      · exact ⟨(cat l).size, Nat.le_refl _, by unfold mn mx; omega⟩
  refine ⟨m, hm, fun k hk => ?_⟩
  unfold impl_DiskCrash.f
  refine bnd (impl_right hl hs ht hk) ?_
  refine yes c ?_
  refine bnd (text hl hs ht) ?_
  have e2 : wrap64 (((s ++ cat l).size : Int) - (s.size : Int)) = ((cat l).size : Int) := by rw [wid (by omega) (by omega)]; omega
  rw [e2, e, wid (x := (s.size : Int) + m) (by omega) (by omega)]
  refine yes (by omega) ?_
  refine yes (by omega) ?_
  have e3 : ((s.size : Int) + m).toNat = s.size + m := by omega
  rw [e3, extract_app]
theorem implText {s : ByteArray} {l : List ByteArray} (c : right s l = true) {k : Nat} (hk : 2000000 ≤ k) : impl_DiskText.f k s l = some (s ++ cat l) := by
  have rb := right_bytes c
  unfold impl_DiskText.f
  refine bnd (impl_right (by omega) (by omega) (by omega) hk) ?_
  refine yes c ?_
  exact bnd (text (by omega) (by omega) (by omega)) rfl
theorem implText1 {s : ByteArray} (h : s.size ≤ 20000) {k : Nat} (hk : 2000000 ≤ k) : impl_DiskText.f k s [] = some s := by
  rw [implText (right_alone h) hk, app_nil]
theorem disk_tail {s : ByteArray} {l : List ByteArray} (c : right s l = true) (a : Int) {m : Nat} (hm : m ≤ (cat l).size) {J : Nat} (hJ : 2000000 ≤ J) :
    laws_FnDisk.j0 (J + 1) a (s ++ cat l) (s ++ (cat l).extract 0 m) false s l = some true := by
  have rb := right_bytes c
  have hl : l.length ≤ 1048577 := by omega
  have hs : s.size ≤ 3000000 := by omega
  have ht : tot l ≤ 3000000 := by omega
  have cs := cat_size l
  have es : (s ++ cat l).size = s.size + (cat l).size := ByteArray.size_append
  have eu : (s ++ (cat l).extract 0 m).size = s.size + m := by rw [ByteArray.size_append, ByteArray.size_extract]; omega
  obtain ⟨m2, hm2, h2⟩ := crash_val (right_alone (s := s ++ cat l) (by omega)) a
  have hz : cat [] = (⟨#[]⟩ : ByteArray) := rfl
  have e0 : (s ++ cat l) ++ (cat []).extract 0 m2 = s ++ cat l := by
    have : (cat []).size = 0 := rfl
    have : m2 = 0 := by omega
    subst this
    exact app_nil _
  rw [e0] at h2
  rw [laws_FnDisk.j0]
  refine no (by decide) ?_
  refine bnd (a := (s ++ cat l, [])) ?_ ?_
  · unfold impl_DiskSync.f
    refine bnd (impl_right hl hs ht hJ) ?_
    refine yes c ?_
    exact bnd (text hl hs ht) rfl
  refine bnd (h2 J hJ) ?_
  have t1 := implText1 (s := s ++ cat l) (by omega) hJ
  refine bnd t1 ?_
  refine yes rfl ?_
  refine bnd (a := (s ++ (cat l).extract 0 m, [])) ?_ ?_
  · obtain ⟨j, rfl⟩ : ∃ j, J = j + 1 := ⟨J - 1, by omega⟩
    unfold impl_DiskCut.f
    refine bnd (impl_right hl hs ht (by omega)) ?_
    refine yes c ?_
    refine bnd (text hl hs ht) ?_
    refine bnd (in_eval _ _ _) ?_
    rw [decide_eq_true (by omega), impl_DiskCut.j0]
    refine no (by decide) ?_
    refine bnd (text hl hs ht) ?_
    refine yes (by omega) ?_
    refine yes (by omega) ?_
    rw [eu]
    have e3 : ((s.size + m : Nat) : Int).toNat = s.size + m := by omega
    rw [e3, extract_app]
  have t2 := implText1 (s := s ++ (cat l).extract 0 m) (by omega) hJ
  refine bnd t2 ?_
  simp
theorem FnDisk : laws_FnDisk.Pure := by
  intro b hb0 hz hw
  obtain ⟨J, hJ⟩ : ∃ K : Nat, 2000000 ≤ K := ⟨2000000, Nat.le_refl _⟩
  refine ⟨J + 1, ?_⟩
  have hJ1 : 2000000 ≤ J + 1 := by omega
  unfold laws_FnDisk.f
  by_cases big : (b.length : Int) > 1048576
  · exact yes big rfl
  refine no big ?_
  obtain ⟨s, l, a, hd, b1, b2, b3⟩ := draw_diskCrash b (by omega)
  have hl : l.length ≤ 1048577 := by omega
  have hs : s.size ≤ 3000000 := by omega
  have ht : tot l ≤ 3000000 := by omega
  refine bnd (hd (J + 1) (by omega)) ?_
  refine bnd (spec_right hl hs ht hJ1) ?_
  by_cases c : right s l = true
  case neg =>
    refine no c ?_
    refine bnd (impl_right hl hs ht hJ1) ?_
    have : right s l = false := by simpa using c
    rw [this]
    rfl
  have rb := right_bytes c
  have cs := cat_size l
  have es : (s ++ cat l).size = s.size + (cat l).size := ByteArray.size_append
  obtain ⟨m, hm, hc⟩ := crash_val c a
  have eu : (s ++ (cat l).extract 0 m).size = s.size + m := by rw [ByteArray.size_append, ByteArray.size_extract]; omega
  refine yes c ?_
  refine bnd (implText c hJ1) ?_
  refine bnd (hc _ hJ1) ?_
  have t3 := implText1 (s := s ++ (cat l).extract 0 m) (by omega) hJ1
  refine bnd t3 ?_
  refine bnd (diskText hl hs ht hJ1) ?_
  rw [if_pos c]
  refine yes rfl ?_
  refine no (by omega) ?_
  refine yes (by omega) ?_
  refine yes (by omega) ?_
  refine yes ?_ ?_
  · rw [eu]
    have e3 : ((s.size + m : Nat) : Int).toNat = s.size + m := by omega
    rw [e3, extract_app]
  have e4 : decide (((s ++ (cat l).extract 0 m).size : Int) < (s.size : Int)) = false := decide_eq_false (by omega)
  show laws_FnDisk.j0 (J + 1) a (s ++ cat l) (s ++ (cat l).extract 0 m) (decide (((s ++ (cat l).extract 0 m).size : Int) < (s.size : Int))) s l = some true
  rw [e4]
  exact disk_tail c a hm hJ
end Go.Proofs.Ytahkejppfhonhaa.Pure
