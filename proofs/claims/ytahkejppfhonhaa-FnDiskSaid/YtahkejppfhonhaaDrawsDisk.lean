/- Plain laws: what the printed functions that draw bytes and disks answer, whatever the bytes; no condition beyond each lemma's own. -/
import Derived.Test.YtahkejppfhonhaaDiskSame
import Derived.Test.YtahkejppfhonhaaDraws
import Derived.Test.YtahkejppfhonhaaS0
import Derived.Test.YtahkejppfhonhaaS1
import Derived.Test.YtahkejppfhonhaaS2
import Derived.Test.YtahkejppfhonhaaS3
namespace Go.Proofs.Ytahkejppfhonhaa.Draws
open Go.RowKit Go.Proofs.Ytahkejppfhonhaa.S Go.Proofs.YtahkejppfhonhaaW.PrintWords Go.Proofs.Ytahkejppfhonhaa.Cal Go.Proofs.Ytahkejppfhonhaa.DiskBase Go.Proofs.Ytahkejppfhonhaa.DiskSame
set_option linter.unusedVariables false
set_option linter.unusedSimpArgs false

theorem draw_bytes_l0 (b : List Int) (sz : Int) (hb : b.length ≤ 140737488351232) (n : Nat) (hn : n ≤ 1000) : ∀ (d i : Nat) (acc : List Int) (at_ mx : Int), acc.length = i → i + d = n → 0 ≤ at_ →
    ∃ (r : ByteArray) (a' m' : Int), (∀ k, d + 1 ≤ k → spec_l01Src_bytes.l0 k (n : Int) acc (i : Int) b at_ mx sz = some (r, a', m', sz)) ∧ r.size = n ∧ 0 ≤ a' := by
  intro d
  induction d with
  | zero =>
    intro i acc at_ mx hi hd ha
    refine ⟨strOfNums acc, at_, mx, fun k hk => ?_, by rw [strOfNums_size]; omega, ha⟩
    obtain ⟨j, rfl⟩ : ∃ j, k = j + 1 := ⟨k - 1, by omega⟩
    rw [spec_l01Src_bytes.l0]
    exact no (by omega) rfl
  | succ d ih =>
    intro i acc at_ mx hi hd ha
    obtain ⟨x, a1, m1, e1, _, _, g1⟩ := draw_n b mx sz (most := 256) hb ha (by omega)
    obtain ⟨r, a2, m2, e2, r2, g2⟩ := ih (i + 1) (acc ++ [x % 256]) a1 m1 (by rw [List.length_append, hi]; rfl) (by omega) g1
    refine ⟨r, a2, m2, fun k hk => ?_, r2, g2⟩
    obtain ⟨j, rfl⟩ : ∃ j, k = j + 1 := ⟨k - 1, by omega⟩
    rw [spec_l01Src_bytes.l0]
    refine yes (by omega) ?_
    refine bnd e1 ?_
    refine yes (by omega) ?_
    have e : wrap64 ((i : Int) + 1) = ((i + 1 : Nat) : Int) := by rw [wid (by omega) (by omega)]; omega
    rw [e]
    exact e2 j (Nat.le_of_succ_le_succ hk)
theorem draw_bytes (b : List Int) {at_ : Int} (mx sz : Int) {n : Int} (hb : b.length ≤ 140737488351232) (ha : 0 ≤ at_) (n0 : 0 ≤ n) (n1 : n ≤ 1000) :
    ∃ (r : ByteArray) (a' m' : Int), (∀ k, 1100 ≤ k → spec_l01Src_bytes.f k b at_ mx sz n = some (r, a', m', sz)) ∧ r.size = n.toNat ∧ 0 ≤ a' := by
  obtain ⟨N, rfl⟩ := Int.eq_ofNat_of_zero_le n0
  obtain ⟨r, a1, m1, e1, r1, g1⟩ := draw_bytes_l0 b sz hb N (by omega) N 0 [] at_ mx rfl (by omega) ha
  refine ⟨r, a1, m1, fun k hk => ?_, by omega, g1⟩
  unfold spec_l01Src_bytes.f
  exact e1 k (by omega)
theorem draw_many (b : List Int) (sz : Int) (s : ByteArray) (hb : b.length ≤ 140737488351232) : ∀ (d : Nat) (l : List ByteArray) (at_ mx : Int), l.length + d = 110 → 0 ≤ at_ →
    ∃ (l' : List ByteArray) (a' m' : Int), (∀ k, d + 1 ≤ k → spec_l01Src_l06Disk.l1 k b at_ mx sz s l = some (s, l', a', m', sz)) ∧ l'.length ≤ 110 ∧ tot l' ≤ tot l + d ∧ 0 ≤ a' := by
  intro d
  induction d with
  | zero =>
    intro l at_ mx hl ha
    obtain ⟨x, a1, m1, e1, x0, x1, g1⟩ := draw_n b mx sz (most := 3) hb ha (by omega)
    have x1' := x1 (by omega)
    refine ⟨l, a1, m1, fun k hk => ?_, by omega, by omega, g1⟩
    obtain ⟨j, rfl⟩ : ∃ j, k = j + 1 := ⟨k - 1, by omega⟩
    rw [spec_l01Src_l06Disk.l1]
    refine bnd e1 ?_
    exact no (by show ¬ (l.length : Int) < wrap64 (99 + x); rw [wid (by omega) (by omega)]; omega) rfl
  | succ d ih =>
    intro l at_ mx hl ha
    obtain ⟨x, a1, m1, e1, x0, x1, g1⟩ := draw_n b mx sz (most := 3) hb ha (by omega)
    have x1' := x1 (by omega)
    by_cases c : (l.length : Int) < wrap64 (99 + x)
    · obtain ⟨l', a2, m2, e2, h1, h2, g2⟩ := ih (l ++ [(⟨#[120]⟩ : ByteArray)]) a1 m1 (by rw [List.length_append]; simp; omega) g1
      refine ⟨l', a2, m2, fun k hk => ?_, h1, ?_, g2⟩
      · obtain ⟨j, rfl⟩ : ∃ j, k = j + 1 := ⟨k - 1, by omega⟩
        rw [spec_l01Src_l06Disk.l1]
        refine bnd e1 ?_
        refine yes c ?_
        refine yes (by omega) ?_
        exact e2 j (Nat.le_of_succ_le_succ hk)
      · rw [tot_append] at h2
        have : tot [(⟨#[120]⟩ : ByteArray)] = 1 := rfl
        omega
    · refine ⟨l, a1, m1, fun k hk => ?_, by omega, by omega, g1⟩
      obtain ⟨j, rfl⟩ : ∃ j, k = j + 1 := ⟨k - 1, by omega⟩
      rw [spec_l01Src_l06Disk.l1]
      refine bnd e1 ?_
      exact no c rfl
theorem draw_long (b : List Int) (sz : Int) (hb : b.length ≤ 140737488351232) : ∀ (d : Nat) (acc : List Int) (at_ mx : Int), acc.length + d = 20010 → 0 ≤ at_ →
    ∃ (s' : ByteArray) (a' m' : Int), (∀ k, d + 1 ≤ k → spec_l01Src_l06Disk.l2 k acc b at_ mx sz = some (s', [(⟨#[121, 121, 121, 121, 121, 121]⟩ : ByteArray)], a', m', sz)) ∧ s'.size ≤ 20010 ∧ 0 ≤ a' := by
  intro d
  induction d with
  | zero =>
    intro acc at_ mx hl ha
    obtain ⟨x, a1, m1, e1, x0, x1, g1⟩ := draw_n b mx sz (most := 14) hb ha (by omega)
    have x1' := x1 (by omega)
    refine ⟨strOfNums acc, a1, m1, fun k hk => ?_, by rw [strOfNums_size]; omega, g1⟩
    obtain ⟨j, rfl⟩ : ∃ j, k = j + 1 := ⟨k - 1, by omega⟩
    rw [spec_l01Src_l06Disk.l2]
    refine bnd e1 ?_
    exact no (by show ¬ (acc.length : Int) < wrap64 (19990 + x); rw [wid (by omega) (by omega)]; omega) rfl
  | succ d ih =>
    intro acc at_ mx hl ha
    obtain ⟨x, a1, m1, e1, x0, x1, g1⟩ := draw_n b mx sz (most := 14) hb ha (by omega)
    have x1' := x1 (by omega)
    by_cases c : (acc.length : Int) < wrap64 (19990 + x)
    · obtain ⟨s', a2, m2, e2, h1, g2⟩ := ih (acc ++ [120]) a1 m1 (by rw [List.length_append]; simp; omega) g1
      refine ⟨s', a2, m2, fun k hk => ?_, h1, g2⟩
      obtain ⟨j, rfl⟩ : ∃ j, k = j + 1 := ⟨k - 1, by omega⟩
      rw [spec_l01Src_l06Disk.l2]
      refine bnd e1 ?_
      refine yes c ?_
      refine yes (by omega) ?_
      exact e2 j (Nat.le_of_succ_le_succ hk)
    · refine ⟨strOfNums acc, a1, m1, fun k hk => ?_, by rw [strOfNums_size]; omega, g1⟩
      obtain ⟨j, rfl⟩ : ∃ j, k = j + 1 := ⟨k - 1, by omega⟩
      rw [spec_l01Src_l06Disk.l2]
      refine bnd e1 ?_
      exact no c rfl
theorem draw_disk_l0 (b : List Int) (sz : Int) (s : ByteArray) (hs : s.size ≤ 100) (hb : b.length ≤ 140737488351232) : ∀ (d : Nat) (l : List ByteArray) (at_ mx : Int), l.length + d ≤ 10 → tot l + 9 * d ≤ 1000 → 0 ≤ at_ →
    ∃ (s' : ByteArray) (l' : List ByteArray) (a' m' : Int), (∀ k, 30000 + d ≤ k → spec_l01Src_l06Disk.l0 k (d : Int) b at_ mx sz s l = some (s', l', a', m', sz)) ∧ s'.size ≤ 30000 ∧ l'.length ≤ 200 ∧ tot l' ≤ 2000 ∧ 0 ≤ a' := by
  intro d
  induction d with
  | zero =>
    intro l at_ mx hl ht ha
    obtain ⟨o, a1, m1, e1, g1⟩ := draw_one b mx sz (most := 20) hb ha (by omega)
    cases o with
    | false =>
      refine ⟨s, l, a1, m1, fun k hk => ?_, by omega, by omega, by omega, g1⟩
      obtain ⟨j, rfl⟩ : ∃ j, k = j + 1 := ⟨k - 1, by omega⟩
      rw [spec_l01Src_l06Disk.l0]
      refine no (by omega) ?_
      refine bnd e1 ?_
      exact no (by simp) rfl
    | true =>
      obtain ⟨x, a2, m2, e2, x0, x1, g2⟩ := draw_n b m1 sz (most := 3) hb g1 (by omega)
      by_cases c0 : x = 0
      · refine ⟨s, l ++ [(⟨#[]⟩ : ByteArray)], a2, m2, fun k hk => ?_, by omega, by rw [List.length_append]; simp; omega, by rw [tot_append]; show tot l + 0 ≤ 2000; omega, g2⟩
        obtain ⟨j, rfl⟩ : ∃ j, k = j + 1 := ⟨k - 1, by omega⟩
        rw [spec_l01Src_l06Disk.l0]
        refine no (by omega) ?_
        refine bnd e1 ?_
        refine yes rfl ?_
        refine bnd e2 ?_
        refine yes c0 ?_
        exact yes (by omega) rfl
      by_cases c1 : x = 1
      · obtain ⟨l', a3, m3, e3, h1, h2, g3⟩ := draw_many b sz s hb (110 - l.length) l a2 m2 (by omega) g2
        refine ⟨s, l', a3, m3, fun k hk => ?_, by omega, by omega, by omega, g3⟩
        obtain ⟨j, rfl⟩ : ∃ j, k = j + 1 := ⟨k - 1, by omega⟩
        rw [spec_l01Src_l06Disk.l0]
        refine no (by omega) ?_
        refine bnd e1 ?_
        refine yes rfl ?_
        refine bnd e2 ?_
        refine no c0 ?_
        refine yes c1 ?_
        exact e3 j (by omega)
      · obtain ⟨s', a3, m3, e3, h1, g3⟩ := draw_long b sz hb 20010 [] a2 m2 rfl g2
        refine ⟨s', [(⟨#[121, 121, 121, 121, 121, 121]⟩ : ByteArray)], a3, m3, fun k hk => ?_, by omega, by simp, by decide, g3⟩
        obtain ⟨j, rfl⟩ : ∃ j, k = j + 1 := ⟨k - 1, by omega⟩
        rw [spec_l01Src_l06Disk.l0]
        refine no (by omega) ?_
        refine bnd e1 ?_
        refine yes rfl ?_
        refine bnd e2 ?_
        refine no c0 ?_
        refine no c1 ?_
        exact e3 j (by omega)
  | succ d ih =>
    intro l at_ mx hl ht ha
    obtain ⟨x, a1, m1, e1, x0, x1, g1⟩ := draw_n b mx sz (most := 9) hb ha (by omega)
    have x1' := x1 (by omega)
    obtain ⟨r, a2, m2, e2, r2, g2⟩ := draw_bytes b m1 sz (n := 1 + x) hb g1 (by omega) (by omega)
    obtain ⟨s', l', a3, m3, e3, h1, h2, h3, g3⟩ := ih (l ++ [r]) a2 m2 (by rw [List.length_append]; simp; omega) (by rw [tot_append]; show tot l + (r.size + 0) + 9 * d ≤ 1000; omega) g2
    refine ⟨s', l', a3, m3, fun k hk => ?_, h1, h2, h3, g3⟩
    obtain ⟨j, rfl⟩ : ∃ j, k = j + 1 := ⟨k - 1, by omega⟩
    rw [spec_l01Src_l06Disk.l0]
    refine yes (by omega) ?_
    refine bnd e1 ?_
    rw [wid (x := 1 + x) (by omega) (by omega)]
    refine bnd (e2 j (by omega)) ?_
    refine yes (by omega) ?_
    have e : wrap64 (((d + 1 : Nat) : Int) - 1) = (d : Int) := by rw [wid (by omega) (by omega)]; omega
    rw [e]
    exact e3 j (by omega)
theorem draw_diskCrash (b : List Int) (hb : b.length ≤ 140737488351232) :
    ∃ (s : ByteArray) (l : List ByteArray) (a : Int), (∀ k, 40000 ≤ k → spec_DrawDiskCrash.f k b = some (s, l, a)) ∧ s.size ≤ 30000 ∧ l.length ≤ 200 ∧ tot l ≤ 2000 := by
  obtain ⟨m0, sz, e0, _, _⟩ := source b hb
  obtain ⟨x, a1, m1, e1, x0, x1, g1⟩ := draw_n b m0 sz (most := 20) hb (Int.le_refl 0) (by omega)
  have x1' := x1 (by omega)
  obtain ⟨r, a2, m2, e2, r2, g2⟩ := draw_bytes b m1 sz (n := x) hb g1 x0 (by omega)
  obtain ⟨y, a3, m3, e3, y0, y1, g3⟩ := draw_n b m2 sz (most := 5) hb g2 (by omega)
  have y1' := y1 (by omega)
  obtain ⟨Y, rfl⟩ := Int.eq_ofNat_of_zero_le y0
  obtain ⟨s, l, a4, m4, e4, h1, h2, h3, g4⟩ := draw_disk_l0 b sz r (by omega) hb Y [] a3 m3 (by simp; omega) (by simp [tot]; omega) g3
  have ed : ∀ k, 40000 ≤ k → spec_l01Src_l06Disk.f k b 0 m0 sz = some (s, l, a4, m4, sz) := by
    intro k hk
    unfold spec_l01Src_l06Disk.f
    refine bnd e1 ?_
    refine bnd (e2 k (by omega)) ?_
    refine bnd e3 ?_
    exact e4 k (by omega)
  obtain ⟨o, a5, m5, e5, g5⟩ := draw_one b m4 sz (most := 10) hb g4 (by omega)
  cases o with
  | true =>
    obtain ⟨q, a6, m6, e6, _, _, _⟩ := draw_edge b m5 sz hb g5
    refine ⟨s, l, q, fun k hk => ?_, h1, h2, h3⟩
    unfold spec_DrawDiskCrash.f
    refine bnd (e0 k (by omega)) ?_
    refine bnd (ed k hk) ?_
    refine bnd e5 ?_
    refine yes rfl ?_
    exact bnd e6 rfl
  | false =>
    obtain ⟨q, a6, m6, e6, _, _, _⟩ := draw_n b m5 sz (most := 40) hb g5 (by omega)
    refine ⟨s, l, wrap64 (q - 3), fun k hk => ?_, h1, h2, h3⟩
    unfold spec_DrawDiskCrash.f
    refine bnd (e0 k (by omega)) ?_
    refine bnd (ed k hk) ?_
    refine bnd e5 ?_
    refine no (by simp) ?_
    exact bnd e6 rfl
end Go.Proofs.Ytahkejppfhonhaa.Draws
