/- Plain laws: what the printed functions on days answer (reference and program), for each date from 2000 to 2099; no condition beyond each lemma's own. -/
import Derived.Test.YtidlcolgiololaaDoorCal
import Derived.Test.YtidlcolgiololaaDoorS0
import Derived.Test.YtidlcolgiololaaDoorS3
import Derived.Test.YtidlcolgiololaaDoorS5
import Derived.Test.YtidlcolgiololaaDoorS6
namespace Go.Proofs.YtidlcolgiololaaDoor.Days
open Go.RowKit Go.Proofs.YtidlcolgiololaaDoor.S Go.Proofs.YtidlcolgiololaaDoorW.PrintWords Go.Proofs.YtidlcolgiololaaDoor.Cal
set_option linter.unusedVariables false
set_option linter.unusedSimpArgs false

theorem spec_right (a : Int) : spec_l03Right.f a = some (decide (0 ≤ a ∧ a ≤ 36524)) := by
  unfold spec_l03Right.f
  by_cases h : a ≥ 0
  · rw [if_pos h]
    congr 1
    have h' : 0 ≤ a := h
    simp [h']
  · rw [if_neg h]
    congr 1
    have h' : ¬ 0 ≤ a := h
    simp [h']
theorem len_j {k : Nat} (hk : 1 ≤ k) (b : Bool) : spec_l03Len.j0 k b = some (if b = true then 30 else 31) := by
  obtain ⟨k, rfl⟩ : ∃ j, k = j + 1 := ⟨k - 1, by omega⟩
  simp only [spec_l03Len.j0]
  cases b <;> rfl
theorem spec_len {y : Int} (m : Int) (hy : 0 ≤ y) {k : Nat} (hk : 1 ≤ k) : spec_l03Len.f k y m = some (mlen y m) := by
  unfold spec_l03Len.f mlen lp
  rw [tm hy]
  simp only [len_j hk]
  by_cases h2 : m = 2
  · rw [if_pos h2, if_pos h2]
    split <;> rfl
  · rw [if_neg h2, if_neg h2]
    by_cases h4 : m = 4
    · subst h4; rfl
    by_cases h6 : m = 6
    · subst h6; rfl
    by_cases h9 : m = 9
    · subst h9; rfl
    rw [if_neg h4, if_neg h6, if_neg h9]
    by_cases h11 : m = 11
    · subst h11; rfl
    · simp [h4, h6, h9, h11]
theorem spec_head {y : Int} (h0 : 2000 ≤ y) (h1 : y ≤ 1000000) : spec_l03Head.f y = some (hd y) := by
  unfold spec_l03Head.f hd
  simp (disch := omega) only [wid, td]
theorem impl_in_eval (a b c : Int) : impl_in.f a b c = some (decide (b ≤ a ∧ a ≤ c)) := by
  unfold impl_in.f
  by_cases h : b ≤ a
  · rw [if_pos h]
    simp [h]
  · rw [if_neg h]
    simp [h]
theorem impl_isDay_eval (a : Int) : impl_isDay.f a = some (decide (0 ≤ a ∧ a ≤ 36524)) := by
  unfold impl_isDay.f
  rw [impl_in_eval]
  rfl
theorem impl_len {y m : Int} (hy : 0 ≤ y) (h0 : 1 ≤ m) (h1 : m ≤ 12) : impl_daysIn.f y m = some (mlen y m) := by
  unfold impl_daysIn.f mlen lp
  rw [tm hy]
  rcases months h0 h1 with rfl | rfl | rfl | rfl | rfl | rfl | rfl | rfl | rfl | rfl | rfl | rfl <;> simp
  split <;> rfl
theorem impl_start {y : Int} (h0 : 2000 ≤ y) (h1 : y ≤ 1000000) : impl_yearStart.f y = some (hd y) := by
  unfold impl_yearStart.f hd
  simp (disch := omega) only [wid, td]

/-! the day of a date -/
theorem spec_day_l0 {y m d : Int} (hy0 : 2000 ≤ y) (hy1 : y ≤ 2099) (hm1 : m ≤ 12) (hd0 : 0 ≤ d) (hd1 : d ≤ 1000) (n : Nat) :
    ∀ (k : Nat) (x : Int), 1 ≤ x → x + n = m → n + 1 < k → spec_l03Day.l0 k (hd y + cum y x) x y m d = some (num y m d) := by
  have hr := hd_range hy0 (y := y) (by omega)
  induction n with
  | zero =>
    intro k x hx e hk
    obtain ⟨k, rfl⟩ : ∃ j, k = j + 1 := ⟨k - 1, by omega⟩
    have : x = m := by omega
    subst this
    have hc := cum_range y x
    simp only [spec_l03Day.l0]
    rw [if_neg (by omega)]
    unfold num
    simp (disch := omega) only [wid]
  | succ n ih =>
    intro k x hx e hk
    obtain ⟨k, rfl⟩ : ∃ j, k = j + 1 := ⟨k - 1, by omega⟩
    have hc := cum_range y x
    have hl := mlen_range y x
    have e1 := cum_succ y (m := x) hx (by omega)
    simp only [spec_l03Day.l0]
    rw [if_pos (by omega), spec_len x (by omega) (by omega)]
    simp only [Option.bind_some]
    have := ih k (x + 1) (by omega) (by omega) (by omega)
    rw [e1, ← Int.add_assoc] at this
    rw [wid (by omega) (by omega), wid (by omega) (by omega)]
    exact this
theorem spec_day {y m d : Int} (hy0 : 2000 ≤ y) (hy1 : y ≤ 2099) (hm0 : 1 ≤ m) (hm1 : m ≤ 12) (hd0 : 0 ≤ d) (hd1 : d ≤ 1000) {k : Nat} (hk : 20 ≤ k) : spec_l03Day.f k y m d = some (num y m d) := by
  unfold spec_l03Day.f
  rw [spec_head hy0 (by omega)]
  simp only [Option.bind_some]
  have := spec_day_l0 hy0 hy1 hm1 hd0 hd1 (m - 1).toNat k 1 (by omega) (by omega) (by omega)
  rw [cum_1, Int.add_zero] at this
  exact this
theorem impl_day_l0 {y m d : Int} (hy0 : 2000 ≤ y) (hy1 : y ≤ 2099) (hm1 : m ≤ 12) (hd0 : 0 ≤ d) (hd1 : d ≤ 1000) (n : Nat) :
    ∀ (k : Nat) (x : Int), 1 ≤ x → x + n = m → n < k → impl_Date_day.l0 k (hd y + d - 1 + cum y x) x y m d = some (num y m d) := by
  have hr := hd_range hy0 (y := y) (by omega)
  induction n with
  | zero =>
    intro k x hx e hk
    obtain ⟨k, rfl⟩ : ∃ j, k = j + 1 := ⟨k - 1, by omega⟩
    have : x = m := by omega
    subst this
    simp only [impl_Date_day.l0]
    rw [if_neg (by omega)]
    unfold num
    congr 1
    omega
  | succ n ih =>
    intro k x hx e hk
    obtain ⟨k, rfl⟩ : ∃ j, k = j + 1 := ⟨k - 1, by omega⟩
    have hc := cum_range y x
    have hl := mlen_range y x
    have e1 := cum_succ y (m := x) hx (by omega)
    simp only [impl_Date_day.l0]
    rw [if_pos (by omega), impl_len (by omega) hx (by omega)]
    simp only [Option.bind_some]
    have := ih k (x + 1) (by omega) (by omega) (by omega)
    rw [e1, ← Int.add_assoc] at this
    rw [wid (by omega) (by omega), wid (by omega) (by omega)]
    exact this
theorem impl_day {y m d : Int} (hy0 : 2000 ≤ y) (hy1 : y ≤ 2099) (hm0 : 1 ≤ m) (hm1 : m ≤ 12) (hd0 : 0 ≤ d) (hd1 : d ≤ 1000) {k : Nat} (hk : 20 ≤ k) : impl_Date_day.f k y m d = some (num y m d) := by
  have hr := hd_range hy0 (y := y) (by omega)
  unfold impl_Date_day.f
  rw [impl_start hy0 (by omega)]
  simp only [Option.bind_some]
  have := impl_day_l0 hy0 hy1 hm1 hd0 hd1 (m - 1).toNat k 1 (by omega) (by omega) (by omega)
  rw [cum_1, Int.add_zero] at this
  simp (disch := omega) only [wid]
  exact this

/-! the date of a day -/
theorem rest_range {y m d : Int} (h : Valid y m d) {x : Int} (hx : 1 ≤ x) (hxm : x ≤ m) : 0 ≤ cum y m + d - 1 - cum y x ∧ cum y m + d - 1 - cum y x ≤ 1000 := by
  have a := cum_mono y hx hxm (by have := h.m1; omega)
  have b := cum_range y m
  have c := cum_range y x
  have := h.d0
  have := d_le h
  omega
theorem spec_date_l1 {y m d : Int} (h : Valid y m d) (n : Nat) :
    ∀ (k : Nat) (x : Int), 1 ≤ x → x + n = m → n + 1 < k → spec_DateOf.l1 k y (cum y m + d - 1 - cum y x) x = some (y, m, d) := by
  obtain ⟨y0, y1, m0, m1, d0, d1⟩ := h
  have hv : Valid y m d := ⟨y0, y1, m0, m1, d0, d1⟩
  have d31 := d_le hv
  induction n with
  | zero =>
    intro k x hx e hk
    obtain ⟨k, rfl⟩ : ∃ j, k = j + 1 := ⟨k - 1, by omega⟩
    have : x = m := by omega
    subst this
    simp only [spec_DateOf.l1]
    rw [spec_len x (by omega) (by omega)]
    simp only [Option.bind_some]
    rw [if_neg (by omega), wid (by omega) (by omega)]
    congr 3
    omega
  | succ n ih =>
    intro k x hx e hk
    obtain ⟨k, rfl⟩ : ∃ j, k = j + 1 := ⟨k - 1, by omega⟩
    have e1 := cum_succ y (m := x) hx (by omega)
    have r1 := rest_range hv (x := x + 1) (by omega) (by omega)
    have r0 := rest_range hv (x := x) (by omega) (by omega)
    simp only [spec_DateOf.l1]
    rw [spec_len x (by omega) (by omega)]
    simp only [Option.bind_some]
    rw [if_pos (by omega), wid (by omega) (by omega), wid (by omega) (by omega)]
    have := ih k (x + 1) (by omega) (by omega) (by omega)
    rw [e1] at this
    rw [show cum y m + d - 1 - cum y x - mlen y x = cum y m + d - 1 - (cum y x + mlen y x) by omega]
    exact this
theorem spec_date_l0 {y m d : Int} (h : Valid y m d) (n : Nat) :
    ∀ (k : Nat) (x : Int), 2000 ≤ x → x + n = y → n + 13 < k → spec_DateOf.l0 k (num y m d) x = some (y, m, d) := by
  obtain ⟨y0, y1, m0, m1, d0, d1⟩ := h
  have hv : Valid y m d := ⟨y0, y1, m0, m1, d0, d1⟩
  have nb := num_bounds hv
  have nr := num_range hv
  induction n with
  | zero =>
    intro k x hx e hk
    obtain ⟨k, rfl⟩ : ∃ j, k = j + 1 := ⟨k - 1, by omega⟩
    have : x = y := by omega
    subst this
    have hr := hd_range y0 (y := x) (by omega)
    simp only [spec_DateOf.l0]
    rw [wid (x := x + 1) (by omega) (by omega), spec_head (by omega) (by omega)]
    simp only [Option.bind_some]
    rw [if_neg (by omega), spec_head (by omega) (by omega)]
    simp only [Option.bind_some]
    rw [wid (by omega) (by omega)]
    have := spec_date_l1 hv (m - 1).toNat k 1 (by omega) (by omega) (by omega)
    rw [cum_1] at this
    rw [show num x m d - hd x = cum x m + d - 1 - 0 by unfold num; omega]
    exact this
  | succ n ih =>
    intro k x hx e hk
    obtain ⟨k, rfl⟩ : ∃ j, k = j + 1 := ⟨k - 1, by omega⟩
    have := hd_mono (a := x + 1) (b := y) (by omega) (by omega)
    simp only [spec_DateOf.l0]
    rw [wid (x := x + 1) (by omega) (by omega), spec_head (by omega) (by omega)]
    simp only [Option.bind_some]
    rw [if_pos (by omega)]
    exact ih k (x + 1) (by omega) (by omega) (by omega)
theorem spec_date {y m d : Int} (h : Valid y m d) {k : Nat} (hk : 200 ≤ k) : spec_DateOf.f k (num y m d) = some (y, m, d) := by
  have nr := num_range h
  unfold spec_DateOf.f
  rw [spec_right]
  simp only [Option.bind_some]
  rw [decide_eq_true nr, if_pos rfl]
  have y0 := h.y0
  have y1 := h.y1
  exact spec_date_l0 h (y - 2000).toNat k 2000 (by omega) (by omega) (by omega)
theorem impl_date_l1 {y m d : Int} (h : Valid y m d) (z : Int) (n : Nat) :
    ∀ (k : Nat) (x : Int), 1 ≤ x → x + n = m → n < k → impl_date.l1 k (cum y m + d - 1 - cum y x) y x z = some (y, m, d) := by
  obtain ⟨y0, y1, m0, m1, d0, d1⟩ := h
  have hv : Valid y m d := ⟨y0, y1, m0, m1, d0, d1⟩
  have d31 := d_le hv
  induction n with
  | zero =>
    intro k x hx e hk
    obtain ⟨k, rfl⟩ : ∃ j, k = j + 1 := ⟨k - 1, by omega⟩
    have : x = m := by omega
    subst this
    simp only [impl_date.l1]
    rw [impl_len (by omega) hx (by omega)]
    simp only [Option.bind_some]
    rw [if_neg (by omega), wid (by omega) (by omega)]
    congr 3
    omega
  | succ n ih =>
    intro k x hx e hk
    obtain ⟨k, rfl⟩ : ∃ j, k = j + 1 := ⟨k - 1, by omega⟩
    have e1 := cum_succ y (m := x) hx (by omega)
    have r1 := rest_range hv (x := x + 1) (by omega) (by omega)
    have r0 := rest_range hv (x := x) (by omega) (by omega)
    simp only [impl_date.l1]
    rw [impl_len (by omega) hx (by omega)]
    simp only [Option.bind_some]
    rw [if_pos (by omega), wid (by omega) (by omega), wid (by omega) (by omega)]
    have := ih k (x + 1) (by omega) (by omega) (by omega)
    rw [e1] at this
    rw [show cum y m + d - 1 - cum y x - mlen y x = cum y m + d - 1 - (cum y x + mlen y x) by omega]
    exact this
theorem impl_date_l0 {y m d : Int} (h : Valid y m d) (n : Nat) :
    ∀ (k : Nat) (x : Int), 2000 ≤ x → x + n = y → n + 13 < k → impl_date.l0 k (num y m d) x 1 0 = some (y, m, d) := by
  obtain ⟨y0, y1, m0, m1, d0, d1⟩ := h
  have hv : Valid y m d := ⟨y0, y1, m0, m1, d0, d1⟩
  have nb := num_bounds hv
  have nr := num_range hv
  induction n with
  | zero =>
    intro k x hx e hk
    obtain ⟨k, rfl⟩ : ∃ j, k = j + 1 := ⟨k - 1, by omega⟩
    have : x = y := by omega
    subst this
    have hr := hd_range y0 (y := x) (by omega)
    simp only [impl_date.l0]
    rw [wid (x := x + 1) (by omega) (by omega), impl_start (by omega) (by omega)]
    simp only [Option.bind_some]
    rw [if_neg (by omega), impl_start (by omega) (by omega)]
    simp only [Option.bind_some]
    rw [wid (by omega) (by omega)]
    have := impl_date_l1 hv 0 (m - 1).toNat k 1 (by omega) (by omega) (by omega)
    rw [cum_1] at this
    rw [show num x m d - hd x = cum x m + d - 1 - 0 by unfold num; omega]
    exact this
  | succ n ih =>
    intro k x hx e hk
    obtain ⟨k, rfl⟩ : ∃ j, k = j + 1 := ⟨k - 1, by omega⟩
    have := hd_mono (a := x + 1) (b := y) (by omega) (by omega)
    simp only [impl_date.l0]
    rw [wid (x := x + 1) (by omega) (by omega), impl_start (by omega) (by omega)]
    simp only [Option.bind_some]
    rw [if_pos (by omega)]
    exact ih k (x + 1) (by omega) (by omega) (by omega)
theorem guess {y m d : Int} (h : Valid y m d) : 0 ≤ num y m d / 366 ∧ 2000 + num y m d / 366 ≤ y := by
  have nb := num_bounds h
  have nr := num_range h
  have := h.y0
  unfold hd at nb
  omega
theorem impl_date_eval {y m d : Int} (h : Valid y m d) {k : Nat} (hk : 200 ≤ k) : impl_date.f k (num y m d) = some (y, m, d) := by
  have nr := num_range h
  have g := guess h
  unfold impl_date.f
  rw [td nr.1]
  simp (disch := omega) only [wid]
  have y0 := h.y0
  have y1 := h.y1
  exact impl_date_l0 h (y - (2000 + num y m d / 366)).toNat k _ (by omega) (by omega) (by omega)

/-! so many months behind a day -/
def mn2 (a b : Int) : Int := if a < b then a else b
theorem mn2_le (a b : Int) : mn2 a b ≤ a ∧ mn2 a b ≤ b ∧ (mn2 a b = a ∨ mn2 a b = b) := by
  unfold mn2
  split <;> omega
def addM (y m d n : Int) : Int × Int :=
  if n < -1200 ∨ 1200 < n then (0, 13) else
  let t := 12 * (y - 2000) + m - 1 + n
  if t < 0 ∨ 1199 < t then (0, 13) else (num (2000 + t / 12) (t % 12 + 1) (mn2 d (mlen (2000 + t / 12) (t % 12 + 1))), 0)
theorem addM_valid {y m d : Int} (h : Valid y m d) {t : Int} (t0 : 0 ≤ t) (t1 : t ≤ 1199) : Valid (2000 + t / 12) (t % 12 + 1) (mn2 d (mlen (2000 + t / 12) (t % 12 + 1))) := by
  have a := mn2_le d (mlen (2000 + t / 12) (t % 12 + 1))
  have b := mlen_range (2000 + t / 12) (t % 12 + 1)
  have := h.d0
  exact ⟨by omega, by omega, by omega, by omega, by omega, by omega⟩
theorem wf64 {a : Int} (h : (Lit.int .i64 a).wf = true) : -9223372036854775808 ≤ a ∧ a ≤ 9223372036854775807 := by
  have h1 : IntKind.i64.min ≤ a ∧ a ≤ IntKind.i64.max := by simpa [Lit.wf] using h
  have e1 : IntKind.i64.min = -9223372036854775808 := by decide
  have e2 : IntKind.i64.max = 9223372036854775807 := by decide
  omega
end Go.Proofs.YtidlcolgiololaaDoor.Days
