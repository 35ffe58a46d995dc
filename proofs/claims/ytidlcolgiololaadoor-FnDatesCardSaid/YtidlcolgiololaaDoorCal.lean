/- Plain laws on numbers, on the calendar from 2000 to 2099 (no Go, no memory); no condition beyond each lemma's own. -/
import Derived.Test.YtidlcolgiololaaDoorS0
namespace Go.Proofs.YtidlcolgiololaaDoor.Cal
open Go.RowKit Go.Proofs.YtidlcolgiololaaDoorW.PrintWords
set_option linter.unusedVariables false

/-! steps: a call's answer, a test -/
theorem bnd {α β : Type} {o : Option α} {a : α} {f : α → Option β} {r : Option β} (h : o = some a) (k : f a = r) : o.bind f = r := by
  rw [h]
  exact k
theorem yes {α : Type} {c : Prop} [Decidable c] {x y r : α} (h : c) (k : x = r) : (if c then x else y) = r := by
  rw [if_pos h]
  exact k
theorem no {α : Type} {c : Prop} [Decidable c] {x y r : α} (h : ¬ c) (k : y = r) : (if c then x else y) = r := by
  rw [if_neg h]
  exact k
theorem wid {x : Int} (h : -9223372036854775808 ≤ x) (h' : x ≤ 9223372036854775807) : wrap64 x = x := by
  unfold wrap64
  omega
theorem td {a b : Int} (h : 0 ≤ a) : Int.tdiv a b = a / b := Int.tdiv_eq_ediv_of_nonneg h
theorem tm {a b : Int} (h : 0 ≤ a) : Int.tmod a b = a % b := Int.tmod_eq_emod_of_nonneg h

def lp (y : Int) : Int := if y % 4 = 0 then 1 else 0
theorem lp01 (y : Int) : 0 ≤ lp y ∧ lp y ≤ 1 := by
  unfold lp
  split <;> omega
def mlen (y m : Int) : Int :=
  if m = 2 then 28 + lp y else if m = 4 then 30 else if m = 6 then 30 else if m = 9 then 30 else if m = 11 then 30 else 31
/-- The days of a year ahead of a month. -/
def cum (y m : Int) : Int :=
  if m = 1 then 0 else if m = 2 then 31 else if m = 3 then 59 + lp y else if m = 4 then 90 + lp y else if m = 5 then 120 + lp y else if m = 6 then 151 + lp y
  else if m = 7 then 181 + lp y else if m = 8 then 212 + lp y else if m = 9 then 243 + lp y else if m = 10 then 273 + lp y else if m = 11 then 304 + lp y
  else if m = 12 then 334 + lp y else 365 + lp y
def hd (y : Int) : Int := 365 * (y - 2000) + (y - 2000 + 3) / 4
theorem months {m : Int} (h0 : 1 ≤ m) (h1 : m ≤ 12) : m = 1 ∨ m = 2 ∨ m = 3 ∨ m = 4 ∨ m = 5 ∨ m = 6 ∨ m = 7 ∨ m = 8 ∨ m = 9 ∨ m = 10 ∨ m = 11 ∨ m = 12 := by omega
theorem cum_succ (y : Int) {m : Int} (h0 : 1 ≤ m) (h1 : m ≤ 12) : cum y (m + 1) = cum y m + mlen y m := by
  rcases months h0 h1 with rfl | rfl | rfl | rfl | rfl | rfl | rfl | rfl | rfl | rfl | rfl | rfl <;> simp [cum, mlen] <;> omega
theorem rng_ite {c : Prop} [Decidable c] {a b lo hi : Int} (h : lo ≤ a ∧ a ≤ hi) (k : lo ≤ b ∧ b ≤ hi) : lo ≤ (if c then a else b) ∧ (if c then a else b) ≤ hi := by
  split
  · exact h
  · exact k
theorem mlen_range (y m : Int) : 28 ≤ mlen y m ∧ mlen y m ≤ 31 := by
  have := lp01 y
  unfold mlen
  repeat' (refine rng_ite ?_ ?_)
  all_goals omega
theorem cum_range (y m : Int) : 0 ≤ cum y m ∧ cum y m ≤ 366 := by
  have := lp01 y
  unfold cum
  repeat' (refine rng_ite ?_ ?_)
  all_goals omega
theorem cum_13 (y : Int) : cum y 13 = 365 + lp y := by simp [cum]
theorem cum_1 (y : Int) : cum y 1 = 0 := by simp [cum]
theorem cum_mono (y : Int) {a b : Int} (h0 : 1 ≤ a) (hab : a ≤ b) (h1 : b ≤ 13) : cum y a ≤ cum y b := by
  obtain ⟨n, hn⟩ : ∃ n : Nat, b = a + n := ⟨(b - a).toNat, by omega⟩
  subst hn
  induction n with
  | zero => simp
  | succ n ih =>
    have e := cum_succ y (m := a + n) (by omega) (by omega)
    have r := mlen_range y (a + n)
    have i := ih (by omega) (by omega)
    have e2 : a + ((n + 1 : Nat) : Int) = a + n + 1 := by omega
    rw [e2, e]
    omega
theorem hd_succ {y : Int} (h : 2000 ≤ y) : hd (y + 1) = hd y + 365 + lp y := by
  unfold hd lp
  split <;> omega
theorem hd_mono {a b : Int} (h0 : 2000 ≤ a) (hab : a ≤ b) : hd a ≤ hd b := by
  unfold hd
  omega
theorem hd_lt {a b : Int} (h0 : 2000 ≤ a) (hab : a < b) : hd a + 365 ≤ hd b := by
  unfold hd
  omega
theorem hd_range {y : Int} (h0 : 2000 ≤ y) (h1 : y ≤ 2100) : 0 ≤ hd y ∧ hd y ≤ 36525 := by
  unfold hd
  omega
structure Valid (y m d : Int) : Prop where
  y0 : 2000 ≤ y
  y1 : y ≤ 2099
  m0 : 1 ≤ m
  m1 : m ≤ 12
  d0 : 1 ≤ d
  d1 : d ≤ mlen y m
def num (y m d : Int) : Int := hd y + cum y m + d - 1
theorem num_bounds {y m d : Int} (h : Valid y m d) : hd y ≤ num y m d ∧ num y m d < hd (y + 1) := by
  have := cum_succ y h.m0 h.m1
  have := cum_mono y (a := m + 1) (b := 13) (by have := h.m0; omega) (by have := h.m1; omega) (by omega)
  have := cum_13 y
  have := hd_succ h.y0
  have := cum_range y m
  have := h.d0
  have := h.d1
  unfold num
  omega
theorem num_range {y m d : Int} (h : Valid y m d) : 0 ≤ num y m d ∧ num y m d ≤ 36524 := by
  have a := num_bounds h
  have b := hd_range (y := y) h.y0 (by have := h.y1; omega)
  have c := hd_mono (a := y + 1) (b := 2100) (by have := h.y0; omega) (by have := h.y1; omega)
  have d : hd 2100 = 36525 := by decide
  omega
theorem d_le {y m d : Int} (h : Valid y m d) : d ≤ 31 := by
  have := mlen_range y m
  have := h.d1
  omega
/-- Each day has a date. -/
theorem month_of (y r : Int) (h0 : 0 ≤ r) (h1 : r < 365 + lp y) : ∃ m d, 1 ≤ m ∧ m ≤ 12 ∧ 1 ≤ d ∧ d ≤ mlen y m ∧ r = cum y m + d - 1 := by
  have key : ∀ n : Nat, n ≤ 12 → r < cum y (n + 1) → ∃ m d, 1 ≤ m ∧ m ≤ 12 ∧ 1 ≤ d ∧ d ≤ mlen y m ∧ r = cum y m + d - 1 := by
    intro n
    induction n with
    | zero =>
      intro _ h
      rw [show ((0 : Nat) : Int) + 1 = 1 from rfl, cum_1] at h
      omega
    | succ n ih =>
      intro hn h
      by_cases c : r < cum y (n + 1)
      · exact ih (by omega) c
      · have e := cum_succ y (m := (n : Int) + 1) (by omega) (by omega)
        refine ⟨(n : Int) + 1, r - cum y (n + 1) + 1, by omega, by omega, by omega, ?_, by omega⟩
        have e2 : ((n + 1 : Nat) : Int) + 1 = (n : Int) + 1 + 1 := by omega
        rw [e2, e] at h
        omega
  have h12 := key 12 (by omega)
  rw [show ((12 : Nat) : Int) + 1 = 13 from rfl, cum_13] at h12
  exact h12 h1
theorem date_of (day : Int) (h0 : 0 ≤ day) (h1 : day ≤ 36524) : ∃ y m d, Valid y m d ∧ day = num y m d := by
  have hy : ∃ y, 2000 ≤ y ∧ y ≤ 2099 ∧ hd y ≤ day ∧ day < hd (y + 1) := by
    refine ⟨2000 + 4 * (day / 1461) + (if day % 1461 < 366 then 0 else 1 + (day % 1461 - 366) / 365), ?_⟩
    unfold hd
    split <;> omega
  obtain ⟨y, hy0, hy1, a, b⟩ := hy
  rw [hd_succ hy0] at b
  obtain ⟨m, d, m0, m1, d0, d1, e⟩ := month_of y (day - hd y) (by omega) (by omega)
  exact ⟨y, m, d, ⟨hy0, hy1, m0, m1, d0, d1⟩, by unfold num; omega⟩
/-- A later date is a greater number. -/
theorem num_lt {y m d y' m' d' : Int} (h : Valid y m d) (h' : Valid y' m' d') (hlt : 12 * y + m < 12 * y' + m') : num y m d < num y' m' d' := by
  have a := num_bounds h
  have b := num_bounds h'
  by_cases c : y < y'
  · have := hd_mono (a := y + 1) (b := y') (by have := h.y0; omega) (by omega)
    omega
  · have e : y = y' := by
      have := h.m0; have := h'.m1; omega
    subst e
    have e := cum_succ y h.m0 h.m1
    have f := cum_mono y (a := m + 1) (b := m') (by have := h.m0; omega) (by omega) (by have := h'.m1; omega)
    have := h.d1
    have := h'.d0
    unfold num
    omega
theorem num_inj {y m d y' m' d' : Int} (h : Valid y m d) (h' : Valid y' m' d') (e : num y m d = num y' m' d') : y = y' ∧ m = m' ∧ d = d' := by
  have a : ¬ 12 * y + m < 12 * y' + m' := fun c => by have := num_lt h h' c; omega
  have b : ¬ 12 * y' + m' < 12 * y + m := fun c => by have := num_lt h' h c; omega
  have := h.m0; have := h.m1; have := h'.m0; have := h'.m1
  have hy : y = y' := by omega
  have hm : m = m' := by omega
  subst hy hm
  unfold num at e
  exact ⟨rfl, rfl, by omega⟩
end Go.Proofs.YtidlcolgiololaaDoor.Cal
