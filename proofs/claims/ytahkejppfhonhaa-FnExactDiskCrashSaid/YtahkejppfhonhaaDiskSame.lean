/- Plain laws: a disk's functions: the reference's answers and the program's are one; no condition beyond each lemma's own. -/
import Derived.Test.YtahkejppfhonhaaDiskBase
import Derived.Test.YtahkejppfhonhaaS0
import Derived.Test.YtahkejppfhonhaaS1
import Derived.Test.YtahkejppfhonhaaS3
namespace Go.Proofs.Ytahkejppfhonhaa.DiskSame
open Go.RowKit Go.Proofs.Ytahkejppfhonhaa.S Go.Proofs.YtahkejppfhonhaaW.PrintWords Go.Proofs.Ytahkejppfhonhaa.Cal Go.Proofs.Ytahkejppfhonhaa.DiskBase
set_option linter.unusedVariables false
set_option linter.unusedSimpArgs false

/-! all texts, one behind the other -/
def cat (l : List ByteArray) : ByteArray := ⟨((l.map (·.data.toList)).flatten).toArray⟩
theorem cat_data (l : List ByteArray) : (cat l).data.toList = (l.map (·.data.toList)).flatten := rfl
theorem cat_size : ∀ l : List ByteArray, (cat l).size = tot l := by
  intro l
  rw [← data_length, cat_data]
  induction l with
  | nil => rfl
  | cons x r ih => rw [List.map_cons, List.flatten_cons, List.length_append, ih, tot, data_length]
theorem inter_nil (xs : List (List UInt8)) : Lib.join xs ([] : List UInt8) = xs.flatten := by
  cases xs with
  | nil => rfl
  | cons x r =>
    rw [Lib.join_cons, List.flatten_cons]
    congr 1
    unfold Lib.joinTail
    congr 1
    have : (fun y : List UInt8 => ([] : List UInt8) ++ y) = id := by funext y; rfl
    rw [this, List.map_id]
theorem join_cat {l : List ByteArray} (hl : l.length ≤ 1048577) (ht : tot l ≤ 3000000) : strings_Join.f l (⟨#[]⟩ : ByteArray) = some (cat l) := by
  unfold strings_Join.f
  have e : Lib.join (l.map (·.data.toList)) (⟨#[]⟩ : ByteArray).data.toList = (l.map (·.data.toList)).flatten := inter_nil _
  have hs := cat_size l
  rw [← data_length, cat_data] at hs
  rw [e]
  refine yes ⟨by omega, by omega⟩ ?_
  rfl
theorem text {s : ByteArray} {l : List ByteArray} (hl : l.length ≤ 1048577) (hs : s.size ≤ 3000000) (ht : tot l ≤ 3000000) : impl_Disk_text.f s l = some (s ++ cat l) := by
  unfold impl_Disk_text.f
  refine bnd (join_cat hl ht) ?_
  exact yes (by rw [cat_size]; omega) rfl
theorem loose_l0 (s : ByteArray) : ∀ (tl pre : List ByteArray) (acc : List Int) (k : Nat), acc.length + tot tl ≤ 3000000 → pre.length + tl.length ≤ 2000000 → tl.length + 1 ≤ k →
    spec_l06Loose.l0 k acc (pre.length : Int) s (pre ++ tl) = some (strOfNums (acc ++ (tl.map bytesOf).flatten))
  | [], pre, acc, k, ha, hl, hk => by
    obtain ⟨j, rfl⟩ : ∃ j, k = j + 1 := ⟨k - 1, by simp at hk; omega⟩
    rw [spec_l06Loose.l0]
    refine no (by simp) ?_
    simp
  | y :: tl, pre, acc, k, ha, hl, hk => by
    rw [List.length_cons] at hl hk
    rw [tot] at ha
    obtain ⟨j, rfl⟩ : ∃ j, k = j + 1 := ⟨k - 1, by omega⟩
    have ih := loose_l0 s tl (pre ++ [y]) (acc ++ bytesOf y) j (by rw [List.length_append, bytesOf_length]; omega) (by rw [List.length_append]; simp; omega) (by omega)
    rw [spec_l06Loose.l0]
    refine yes (by rw [List.length_append, List.length_cons]; omega) ?_
    refine yes (by omega) ?_
    rw [rdo]
    refine yes (by omega) ?_
    rw [nxt pre y (by omega), snoc pre tl y, ih, List.map_cons, List.flatten_cons, List.append_assoc]
theorem str_bytes (s : ByteArray) : (bytesOf s).map (fun n => UInt8.ofNat n.toNat) = s.data.toList := by
  unfold bytesOf
  rw [List.map_map]
  have : ((fun n : Int => UInt8.ofNat n.toNat) ∘ fun b : UInt8 => (b.toNat : Int)) = id := by
    funext b
    simp
  rw [this, List.map_id]
theorem str_cat (l : List ByteArray) : strOfNums ((l.map bytesOf).flatten) = cat l := by
  apply dataList_inj
  rw [strOfNums_data, cat_data, List.map_flatten, List.map_map]
  congr 1
  apply List.map_congr_left
  intro x _
  exact str_bytes x
theorem loose {l : List ByteArray} (s : ByteArray) (hl : l.length ≤ 1048577) (ht : tot l ≤ 3000000) {k : Nat} (hk : 2000000 ≤ k) : spec_l06Loose.f k s l = some (cat l) := by
  unfold spec_l06Loose.f
  have h := loose_l0 s l [] [] k (by simp; omega) (by simp; omega) (by omega)
  rw [List.nil_append, List.nil_append, str_cat] at h
  exact h

/-! which disks are right -/
def right (s : ByteArray) (l : List ByteArray) : Bool := decide (l.length ≤ 100 ∧ (∀ y ∈ l, y.size ≠ 0) ∧ s.size + tot l ≤ 20000)
theorem index_l0 : ∀ (tl pre : List ByteArray) (k : Nat), pre.length + tl.length ≤ 2000000 → tl.length + 1 ≤ k →
    ∃ i, slices_Index_string_string.l0 k (pre ++ tl) (⟨#[]⟩ : ByteArray) ((pre ++ tl).length : Int) (pre.length : Int) = some i ∧ (0 ≤ i ↔ ∃ y ∈ tl, y.size = 0)
  | [], pre, k, hl, hk => by
    obtain ⟨j, rfl⟩ : ∃ j, k = j + 1 := ⟨k - 1, by simp at hk; omega⟩
    refine ⟨-1, ?_, by simp⟩
    rw [slices_Index_string_string.l0]
    exact no (by simp) rfl
  | y :: tl, pre, k, hl, hk => by
    rw [List.length_cons] at hl hk
    obtain ⟨j, rfl⟩ : ∃ j, k = j + 1 := ⟨k - 1, by omega⟩
    by_cases c : y.size = 0
    · refine ⟨(pre.length : Int), ?_, ?_⟩
      · rw [slices_Index_string_string.l0]
        refine yes (by rw [List.length_append, List.length_cons]; omega) ?_
        refine yes (by omega) ?_
        refine yes (by rw [List.length_append, List.length_cons]; omega) ?_
        rw [rdo]
        refine yes ?_ rfl
        rw [toList_ne.mpr c]
        exact toList_ne.mpr rfl
      · exact ⟨fun _ => ⟨y, List.mem_cons_self, c⟩, fun _ => by omega⟩
    · obtain ⟨i, hi, hc⟩ := index_l0 tl (pre ++ [y]) j (by rw [List.length_append]; simp; omega) (by omega)
      refine ⟨i, ?_, ?_⟩
      · rw [slices_Index_string_string.l0]
        refine yes (by rw [List.length_append, List.length_cons]; omega) ?_
        refine yes (by omega) ?_
        refine yes (by rw [List.length_append, List.length_cons]; omega) ?_
        rw [rdo]
        refine no ?_ ?_
        · intro h
          have h2 : y.toList = ([] : List UInt8) := by rw [← h]; exact toList_ne.mpr rfl
          exact c (toList_ne.mp h2)
        · rw [nxt pre y (by omega), snoc pre tl y]
          exact hi
      · rw [hc]
        constructor
        · rintro ⟨z, hz, h0⟩
          exact ⟨z, List.mem_cons_of_mem _ hz, h0⟩
        · rintro ⟨z, hz, h0⟩
          rcases List.mem_cons.1 hz with rfl | hz
          · exact absurd h0 c
          · exact ⟨z, hz, h0⟩
theorem contains {l : List ByteArray} (hl : l.length ≤ 1048577) {k : Nat} (hk : 2000000 ≤ k) : ∃ b : Bool, slices_Contains_string_string.f k l (⟨#[]⟩ : ByteArray) = some b ∧ (b = true ↔ ∃ y ∈ l, y.size = 0) := by
  obtain ⟨i, hi, hc⟩ := index_l0 l [] k (by simp; omega) (by omega)
  refine ⟨decide (i ≥ 0), ?_, by rw [decide_eq_true_eq]; exact hc⟩
  unfold slices_Contains_string_string.f slices_Index_string_string.f
  exact bnd hi rfl
theorem impl_right {s : ByteArray} {l : List ByteArray} (hl : l.length ≤ 1048577) (hs : s.size ≤ 3000000) (ht : tot l ≤ 3000000) {k : Nat} (hk : 2000000 ≤ k) : impl_DiskRight.f k s l = some (right s l) := by
  unfold impl_DiskRight.f
  by_cases c : (l.length : Int) ≤ 100
  case neg =>
    refine no c ?_
    unfold right
    rw [decide_eq_false (fun h => c (by omega))]
  refine yes c ?_
  obtain ⟨b, hb, hc⟩ := contains hl hk
  refine bnd hb ?_
  by_cases cb : b = true
  · refine yes cb ?_
    obtain ⟨y, hy, h0⟩ := hc.mp cb
    unfold right
    rw [decide_eq_false (fun h => h.2.1 y hy h0)]
  · refine no cb ?_
    refine bnd (text hl hs ht) ?_
    unfold right
    have hz : ∀ y ∈ l, y.size ≠ 0 := fun y hy h0 => cb (hc.mpr ⟨y, hy, h0⟩)
    rw [ByteArray.size_append, cat_size]
    congr 1
    rw [decide_eq_decide]
    constructor
    · intro h
      exact ⟨by omega, hz, by omega⟩
    · intro h
      have := h.2.2
      omega
theorem spec_right_l0 (s : ByteArray) : ∀ (tl pre : List ByteArray) (x : Int) (k : Nat), 0 ≤ x → x + tot tl ≤ 4000000 → pre.length + tl.length ≤ 2000000 → tl.length + 1 ≤ k →
    spec_DiskRight.l0 k x (pre.length : Int) s (pre ++ tl) = some (decide ((∀ y ∈ tl, y.size ≠ 0) ∧ x + tot tl ≤ 20000))
  | [], pre, x, k, h0, h1, hl, hk => by
    obtain ⟨j, rfl⟩ : ∃ j, k = j + 1 := ⟨k - 1, by simp at hk; omega⟩
    rw [spec_DiskRight.l0]
    refine no (by simp) ?_
    congr 1
    simp [tot]
  | y :: tl, pre, x, k, h0, h1, hl, hk => by
    rw [List.length_cons] at hl hk
    rw [tot] at h1 ⊢
    obtain ⟨j, rfl⟩ : ∃ j, k = j + 1 := ⟨k - 1, by omega⟩
    rw [spec_DiskRight.l0]
    refine yes (by rw [List.length_append, List.length_cons]; omega) ?_
    refine yes (by omega) ?_
    rw [rdo]
    by_cases c : y.size = 0
    · refine yes (toList_ne.mpr c) ?_
      rw [decide_eq_false (fun h => h.1 y List.mem_cons_self c)]
    refine no (fun h => c (toList_ne.mp h)) ?_
    by_cases c2 : (y.size : Int) > 20000
    · refine yes c2 ?_
      rw [decide_eq_false (fun h => by have := h.2; omega)]
    refine no c2 ?_
    have ih := spec_right_l0 s tl (pre ++ [y]) (x + (y.size : Int)) j (by omega) (by omega) (by rw [List.length_append]; simp; omega) (by omega)
    rw [wid (x := x + (y.size : Int)) (by omega) (by omega), nxt pre y (by omega), snoc pre tl y, ih]
    congr 1
    rw [decide_eq_decide]
    constructor
    · intro h
      refine ⟨fun z hz => ?_, by have := h.2; omega⟩
      rcases List.mem_cons.1 hz with rfl | hz
      · exact c
      · exact h.1 z hz
    · intro h
      exact ⟨fun z hz => h.1 z (List.mem_cons_of_mem _ hz), by have := h.2; omega⟩
theorem spec_right {s : ByteArray} {l : List ByteArray} (hl : l.length ≤ 1048577) (hs : s.size ≤ 3000000) (ht : tot l ≤ 3000000) {k : Nat} (hk : 2000000 ≤ k) : spec_DiskRight.f k s l = some (right s l) := by
  obtain ⟨j, rfl⟩ : ∃ j, k = j + 1 := ⟨k - 1, by omega⟩
  unfold spec_DiskRight.f
  by_cases c : (l.length : Int) > 100
  · refine yes c ?_
    rw [spec_DiskRight.j0]
    refine yes rfl ?_
    unfold right
    rw [decide_eq_false (fun h => by have := h.1; omega)]
  refine no c ?_
  rw [spec_DiskRight.j0]
  by_cases c2 : (s.size : Int) > 20000
  · refine yes (decide_eq_true c2) ?_
    unfold right
    rw [decide_eq_false (fun h => by have := h.2.2; omega)]
  refine no (by rw [decide_eq_false c2]; decide) ?_
  have h := spec_right_l0 s l [] (s.size : Int) j (by omega) (by omega) (by simp; omega) (by omega)
  refine Eq.trans h ?_
  unfold right
  congr 1
  rw [decide_eq_decide]
  constructor
  · intro h
    exact ⟨by omega, h.1, by have := h.2; omega⟩
  · intro h
    exact ⟨h.2.1, by have := h.2.2; omega⟩

/-! copies -/
theorem copied {s : ByteArray} {l : List ByteArray} (hl : l.length ≤ 1048577) : impl_Disk_copied.f s l = some (s, l) := by
  unfold impl_Disk_copied.f slices_Clone_string_string.f
  refine bnd (a := l) (yes (by omega) rfl) rfl
theorem right_bytes {s : ByteArray} {l : List ByteArray} (h : right s l = true) : l.length ≤ 100 ∧ s.size + tot l ≤ 20000 := by
  unfold right at h
  rw [decide_eq_true_eq] at h
  exact ⟨h.1, h.2.2⟩
end Go.Proofs.Ytahkejppfhonhaa.DiskSame
