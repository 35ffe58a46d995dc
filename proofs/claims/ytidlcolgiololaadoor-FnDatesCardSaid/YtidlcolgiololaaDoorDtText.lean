/- Plain laws: the text of a date and how a text is read as a date (reference and program), for each date from 2000 to 2099; no condition beyond each lemma's own. -/
import Derived.Test.YtidlcolgiololaaDoorDtNums
import Derived.Test.YtidlcolgiololaaDoorDaysK
import Derived.Test.YtidlcolgiololaaDoorS0
import Derived.Test.YtidlcolgiololaaDoorS4
import Derived.Test.YtidlcolgiololaaDoorS5
import Derived.Test.YtidlcolgiololaaDoorS6
import Derived.Test.YtidlcolgiololaaDoorS7
namespace Go.Proofs.YtidlcolgiololaaDoor.Dt
open Go.RowKit Go.Proofs.YtidlcolgiololaaDoor.S Go.Proofs.YtidlcolgiololaaDoorW.PrintWords Go.Proofs.YtidlcolgiololaaDoor.Cal Go.Proofs.YtidlcolgiololaaDoor.Days
set_option linter.unusedVariables false
set_option linter.unusedSimpArgs false

/-- The text of a date. -/
def dt (y m d : Int) : ByteArray := ((((four y) ++ (⟨#[45]⟩ : ByteArray)) ++ two m) ++ (⟨#[45]⟩ : ByteArray)) ++ two d
theorem four_size (y : Int) : (four y).size = 4 := rfl
theorem two_size (n : Int) : (two n).size = 2 := rfl
theorem lit_size : (⟨#[45]⟩ : ByteArray).size = 1 := rfl
theorem m_le {y m d : Int} (h : Valid y m d) : 0 ≤ m ∧ m ≤ 31 ∧ 0 ≤ d ∧ d ≤ 31 := by
  have := h.m0; have := h.m1; have := h.d0; have := d_le h
  omega
theorem spec_text {y m d : Int} (h : Valid y m d) {k : Nat} (hk : 200 ≤ k) : spec_DateText.f k (num y m d) = some (dt y m d) := by
  obtain ⟨a, b, c, e⟩ := m_le h
  unfold spec_DateText.f
  refine bnd (spec_right _) ?_
  refine yes (decide_eq_true (num_range h)) ?_
  refine bnd (spec_date h hk) ?_
  refine bnd (spec_four h.y0 h.y1 (by omega)) ?_
  refine yes (by rw [four_size]; omega) ?_
  refine bnd (spec_two a b (by omega)) ?_
  refine yes (by rw [ByteArray.size_append, four_size, lit_size, two_size]; omega) ?_
  refine yes (by rw [ByteArray.size_append, ByteArray.size_append, four_size, lit_size, two_size]; omega) ?_
  refine bnd (spec_two c e (by omega)) ?_
  exact yes (by rw [ByteArray.size_append, ByteArray.size_append, ByteArray.size_append, four_size, lit_size, two_size, two_size]; omega) rfl
theorem impl_text {y m d : Int} (h : Valid y m d) {k : Nat} (hk : 200 ≤ k) : impl_DateText.f k (num y m d) = some (dt y m d) := by
  obtain ⟨a, b, c, e⟩ := m_le h
  unfold impl_DateText.f
  refine bnd (impl_isDay_eval _) ?_
  refine yes (decide_eq_true (num_range h)) ?_
  refine bnd (impl_date_eval h hk) ?_
  refine bnd (impl_four h.y0 h.y1) ?_
  refine yes (by rw [four_size]; omega) ?_
  refine bnd (impl_two a b) ?_
  refine yes (by rw [ByteArray.size_append, four_size, lit_size, two_size]; omega) ?_
  refine yes (by rw [ByteArray.size_append, ByteArray.size_append, four_size, lit_size, two_size]; omega) ?_
  refine bnd (impl_two c e) ?_
  exact yes (by rw [ByteArray.size_append, ByteArray.size_append, ByteArray.size_append, four_size, lit_size, two_size, two_size]; omega) rfl
theorem text_no {x : Int} (h : ¬ (0 ≤ x ∧ x ≤ 36524)) (k : Nat) : spec_DateText.f k x = some (⟨#[]⟩ : ByteArray) ∧ impl_DateText.f k x = some (⟨#[]⟩ : ByteArray) := by
  constructor
  · unfold spec_DateText.f
    exact bnd (spec_right _) (no (by simpa using h) rfl)
  · unfold impl_DateText.f
    exact bnd (impl_isDay_eval _) (no (by simpa using h) rfl)
theorem dt_size (y m d : Int) : (dt y m d).size = 10 := by
  unfold dt
  rw [ByteArray.size_append, ByteArray.size_append, ByteArray.size_append, ByteArray.size_append, four_size, lit_size, two_size, two_size]
theorem dt_list (y m d : Int) : (dt y m d).data.toList = [50, 48, dig (y / 10), dig y, 45, dig (m / 10), dig m, 45, dig (d / 10), dig d] := by
  unfold dt
  simp only [ByteArray.data_append, Array.toList_append]
  rfl
theorem ba_ext {a b : ByteArray} (h : a.data.toList = b.data.toList) : a = b := by
  obtain ⟨⟨l⟩⟩ := a
  obtain ⟨⟨r⟩⟩ := b
  simp only at h
  subst h
  rfl
theorem dt_lit (y m d : Int) : dt y m d = ⟨#[50, 48, dig (y / 10), dig y, 45, dig (m / 10), dig m, 45, dig (d / 10), dig d]⟩ := ba_ext (dt_list y m d)
/-! ### The day of three numbers -/
theorem spec_dayOf {y m d : Int} (h : Valid y m d) {k : Nat} (hk : 30 ≤ k) : spec_DayOf.f k y m d = some (num y m d, 0) := by
  have := h.y0; have := h.y1; have := h.m0; have := h.m1; have := h.d0; have := h.d1; have := d_le h
  unfold spec_DayOf.f
  rw [if_neg (by omega), if_neg (by omega), if_neg (by omega), if_neg (by omega), if_neg (by omega)]
  refine bnd (spec_len m (by omega) (by omega)) ?_
  obtain ⟨k, rfl⟩ : ∃ j, k = j + 1 := ⟨k - 1, by omega⟩
  simp only [spec_DayOf.j0]
  refine no (by simp; omega) ?_
  exact bnd (spec_day (by omega) (by omega) (by omega) (by omega) (by omega) (by omega) (by omega)) rfl
theorem impl_dayOf {y m d : Int} (h : Valid y m d) {k : Nat} (hk : 30 ≤ k) : impl_DayOf.f k y m d = some (num y m d, 0) := by
  have := h.y0; have := h.y1; have := h.m0; have := h.m1; have := h.d0; have := h.d1; have := d_le h
  unfold impl_DayOf.f
  refine bnd (impl_in_eval _ _ _) (yes (by simp; omega) ?_)
  refine bnd (impl_in_eval _ _ _) (yes (by simp; omega) ?_)
  refine bnd (impl_len (by omega) (by omega) (by omega)) ?_
  refine bnd (impl_in_eval _ _ _) ?_
  obtain ⟨k, rfl⟩ : ∃ j, k = j + 1 := ⟨k - 1, by omega⟩
  simp only [impl_DayOf.j0]
  refine no (by simp; omega) ?_
  exact bnd (impl_day (by omega) (by omega) (by omega) (by omega) (by omega) (by omega) (by omega)) rfl
theorem spec_dayOf_no {y m d : Int} (h : ¬ Valid y m d) {k : Nat} (hk : 30 ≤ k) : spec_DayOf.f k y m d = some (0, 1) := by
  obtain ⟨k, rfl⟩ : ∃ j, k = j + 1 := ⟨k - 1, by omega⟩
  have q : spec_DayOf.j0 (k + 1) true y m d = some (0, 1) := by simp only [spec_DayOf.j0]; exact if_pos trivial
  unfold spec_DayOf.f
  by_cases c1 : y < 2000
  · rw [if_pos c1]; exact q
  rw [if_neg c1]
  by_cases c2 : y > 2099
  · rw [if_pos c2]; exact q
  rw [if_neg c2]
  by_cases c3 : m < 1
  · rw [if_pos c3]; exact q
  rw [if_neg c3]
  by_cases c4 : m > 12
  · rw [if_pos c4]; exact q
  rw [if_neg c4]
  by_cases c5 : d < 1
  · rw [if_pos c5]; exact q
  rw [if_neg c5]
  refine bnd (spec_len m (by omega) (by omega)) ?_
  have c6 : d > mlen y m := by
    apply Decidable.byContradiction
    intro c6
    exact h ⟨by omega, by omega, by omega, by omega, by omega, by omega⟩
  rw [decide_eq_true c6]
  exact q
theorem impl_dayOf_no {y m d : Int} (h : ¬ Valid y m d) {k : Nat} (hk : 30 ≤ k) : impl_DayOf.f k y m d = some (0, 1) := by
  obtain ⟨k, rfl⟩ : ∃ j, k = j + 1 := ⟨k - 1, by omega⟩
  have q : impl_DayOf.j0 (k + 1) true y m d = some (0, 1) := by simp only [impl_DayOf.j0]; exact if_pos trivial
  unfold impl_DayOf.f
  refine bnd (impl_in_eval _ _ _) ?_
  by_cases c1 : 2000 ≤ y ∧ y ≤ 2099
  case neg => exact no (by simpa using c1) q
  refine yes (decide_eq_true c1) ?_
  refine bnd (impl_in_eval _ _ _) ?_
  by_cases c2 : 1 ≤ m ∧ m ≤ 12
  case neg => exact no (by simpa using c2) q
  refine yes (decide_eq_true c2) ?_
  refine bnd (impl_len (by omega) (by omega) (by omega)) ?_
  refine bnd (impl_in_eval _ _ _) ?_
  have c6 : ¬ (1 ≤ d ∧ d ≤ mlen y m) := fun c6 => h ⟨by omega, by omega, by omega, by omega, by omega, by omega⟩
  rw [decide_eq_false c6]
  exact q
end Go.Proofs.YtidlcolgiololaaDoor.Dt
