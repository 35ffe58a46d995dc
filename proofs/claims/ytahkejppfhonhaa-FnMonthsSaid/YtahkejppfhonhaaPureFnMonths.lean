/- Proved: so many months behind a drawn day is a day of that month, with the same number, or its last day, and one month more is later, whatever the bytes; no condition. -/
import Derived.Test.YtahkejppfhonhaaDrawsDay
import Derived.Test.YtahkejppfhonhaaS0
import Derived.Test.YtahkejppfhonhaaS10
import Derived.Test.YtahkejppfhonhaaS9
namespace Go.Proofs.Ytahkejppfhonhaa.Pure
open Go.RowKit Go.Proofs.Ytahkejppfhonhaa.S Go.Proofs.YtahkejppfhonhaaW.PrintWords Go.Proofs.YtahkejppfhonhaaW.PrintLast Go.Proofs.Ytahkejppfhonhaa.Cal Go.Proofs.Ytahkejppfhonhaa.Days Go.Proofs.Ytahkejppfhonhaa.Draws
set_option linter.unusedVariables false
set_option linter.unusedSimpArgs false

theorem impl_dateOf {y m d : Int} (h : Valid y m d) {k : Nat} (hk : 200 ≤ k) : impl_DateOf.f k (num y m d) = some (y, m, d) := by
  unfold impl_DateOf.f
  rw [impl_isDay_eval, decide_eq_true (num_range h)]
  simp only [Option.bind_some, if_true]
  rw [impl_date_eval h hk]
  rfl
/-- The day behind the last one of a month is in another month, or no day. -/
theorem behind_last {y m d : Int} (h : Valid y m d) (e : d = mlen y m) {k : Nat} (hk : 200 ≤ k) : ∃ y' m' d', impl_DateOf.f k (num y m d + 1) = some (y', m', d') ∧ m' ≠ m := by
  have y0 := h.y0; have y1 := h.y1; have m0 := h.m0; have m1 := h.m1
  have c := cum_succ y m0 m1
  by_cases hm : m = 12
  · have hn : num y m d + 1 = hd (y + 1) := by
      subst hm e
      have := cum_13 y
      have := hd_succ y0
      have c' : cum y 13 = cum y 12 + mlen y 12 := c
      unfold num
      omega
    by_cases hy : y = 2099
    · refine ⟨0, 0, 0, ?_, by omega⟩
      unfold impl_DateOf.f
      rw [hn, hy, show hd (2099 + 1) = 36525 by decide, impl_isDay_eval]
      rfl
    · have hv : Valid (y + 1) 1 1 := ⟨by omega, by omega, by omega, by omega, by omega, by have := mlen_range (y + 1) 1; omega⟩
      refine ⟨y + 1, 1, 1, ?_, by omega⟩
      have := impl_dateOf hv hk
      rw [show num (y + 1) 1 1 = hd (y + 1) by unfold num; rw [cum_1]; omega] at this
      rw [hn]
      exact this
  · have hv : Valid y (m + 1) 1 := ⟨y0, y1, by omega, by omega, by omega, by have := mlen_range y (m + 1); omega⟩
    refine ⟨y, m + 1, 1, ?_, by omega⟩
    have := impl_dateOf hv hk
    rw [show num y (m + 1) 1 = num y m d + 1 by unfold num; rw [c]; omega] at this
    exact this
theorem some_date (day : Int) {k : Nat} (hk : 200 ≤ k) : ∃ r, impl_DateOf.f k day = some r := by
  by_cases h : 0 ≤ day ∧ day ≤ 36524
  · obtain ⟨y, m, d, hv, rfl⟩ := date_of day h.1 h.2
    exact ⟨_, impl_dateOf hv hk⟩
  · unfold impl_DateOf.f
    rw [impl_isDay_eval, decide_eq_false h]
    exact ⟨_, rfl⟩
theorem months_tail {y m d n : Int} (h : Valid y m d) (n0 : -1200 ≤ n) (n1 : n ≤ 1200) {x : Int} (hx : addM y m d n = (x, 0)) {k : Nat} (hk : 400 ≤ k) (c : Int) :
    laws_FnMonths.j0 k (num y m d) n false x c = some true := by
  obtain ⟨k, rfl⟩ : ∃ j, k = j + 1 := ⟨k - 1, by omega⟩
  simp only [laws_FnMonths.j0]
  rw [if_neg (by decide)]
  by_cases hn : n = 1200
  · rw [if_pos hn]
  rw [if_neg hn, wid (by omega) (by omega), impl_add h (by omega) (by omega) (by omega)]
  simp only [Option.bind_some]
  by_cases c0 : (addM y m d (n + 1)).2 = 0
  · rw [if_pos c0]
    congr 1
    rw [decide_eq_true_eq]
    unfold addM at hx c0 ⊢
    rw [if_neg (by omega)] at hx c0 ⊢
    simp only at hx c0 ⊢
    by_cases t1 : 12 * (y - 2000) + m - 1 + n < 0 ∨ 1199 < 12 * (y - 2000) + m - 1 + n
    · rw [if_pos t1] at hx
      simp at hx
    · rw [if_neg t1] at hx
      by_cases t2 : 12 * (y - 2000) + m - 1 + (n + 1) < 0 ∨ 1199 < 12 * (y - 2000) + m - 1 + (n + 1)
      · rw [if_pos t2] at c0
        simp at c0
      · rw [if_neg t2]
        have v1 := addM_valid h (t := 12 * (y - 2000) + m - 1 + n) (by omega) (by omega)
        have v2 := addM_valid h (t := 12 * (y - 2000) + m - 1 + (n + 1)) (by omega) (by omega)
        have lt := num_lt v1 v2 (by omega)
        simp only [Prod.mk.injEq] at hx
        rw [← hx.1]
        exact lt
  · rw [if_neg c0]
theorem FnMonths : laws_FnMonths.Pure := by
  intro l hl hz hw
  refine ⟨1000, ?_⟩
  unfold laws_FnMonths.f
  by_cases big : (l.length : Int) > 1048576
  · rw [if_pos big]
  rw [if_neg big]
  obtain ⟨day, n, e, n0, n1⟩ := draw_dayAdd l (by omega)
  rw [e 1000 (by omega)]
  simp only [Option.bind_some]
  by_cases hd : 0 ≤ day ∧ day ≤ 36524
  · obtain ⟨y, m, d, hv, rfl⟩ := date_of day hd.1 hd.2
    rw [impl_add hv n0 n1 (by omega), spec_add hv n0 n1 (by omega)]
    simp only [Option.bind_some]
    rw [if_neg (by simp)]
    by_cases c0 : (addM y m d n).2 = 0
    · rw [if_pos c0, impl_dateOf hv (by omega)]
      simp only [Option.bind_some]
      have y0 := hv.y0; have y1 := hv.y1; have m0 := hv.m0; have m1 := hv.m1
      have hn : -1200 ≤ n ∧ n ≤ 1200 := by
        unfold addM at c0
        by_cases q : n < -1200 ∨ 1200 < n
        · rw [if_pos q] at c0
          simp at c0
        · omega
      have ht : 0 ≤ 12 * (y - 2000) + m - 1 + n ∧ 12 * (y - 2000) + m - 1 + n ≤ 1199 := by
        unfold addM at c0
        rw [if_neg (by omega)] at c0
        simp only at c0
        by_cases q : 12 * (y - 2000) + m - 1 + n < 0 ∨ 1199 < 12 * (y - 2000) + m - 1 + n
        · rw [if_pos q] at c0
          simp at c0
        · omega
      have hx : addM y m d n = (num (2000 + (12 * (y - 2000) + m - 1 + n) / 12) ((12 * (y - 2000) + m - 1 + n) % 12 + 1) (mn2 d (mlen (2000 + (12 * (y - 2000) + m - 1 + n) / 12) ((12 * (y - 2000) + m - 1 + n) % 12 + 1))), 0) := by
        unfold addM
        rw [if_neg (by omega)]
        simp only
        rw [if_neg (by omega)]
      have v1 := addM_valid hv (t := 12 * (y - 2000) + m - 1 + n) (by omega) (by omega)
      have tail := fun c => months_tail hv hn.1 hn.2 hx (k := 1000) (by omega) c
      rw [hx]
      have Y0 : 2000 + (12 * (y - 2000) + m - 1 + n) / 12 = 2000 + (12 * (y - 2000) + m - 1 + n) / 12 := rfl
      have arith : 12 * (2000 + (12 * (y - 2000) + m - 1 + n) / 12) + ((12 * (y - 2000) + m - 1 + n) % 12 + 1) = 12 * y + m + n := by omega
      generalize 2000 + (12 * (y - 2000) + m - 1 + n) / 12 = Y at *
      generalize (12 * (y - 2000) + m - 1 + n) % 12 + 1 = M at *
      have mm := mn2_le d (mlen Y M)
      generalize mn2 d (mlen Y M) = D at *
      have V0 := v1.y0; have V1 := v1.y1; have V2 := v1.m0; have V3 := v1.m1
      have nr := num_range v1
      simp only
      rw [impl_dateOf v1 (by omega)]
      simp only [Option.bind_some]
      rw [wid (x := num Y M D + 1) (by omega) (by omega)]
      obtain ⟨r, hr⟩ := some_date (num Y M D + 1) (k := 1000) (by omega)
      rw [hr]
      simp only [Option.bind_some]
      simp (disch := omega) only [wid]
      rw [if_pos arith]
      by_cases q1 : D = d
      · rw [if_pos q1]
        exact tail 0
      · rw [if_neg q1, if_neg (by omega)]
        obtain ⟨y', m', d', hl1, hl2⟩ := behind_last v1 (by omega) (k := 1000) (by omega)
        rw [hr] at hl1
        cases hl1
        simp only
        have : (!(m' != M)) = false := by simp [hl2]
        rw [this]
        exact tail 0
    · rw [if_neg c0]
  · obtain ⟨a, b⟩ := dayAdd_no day n hd 1000
    rw [a, b]
    simp
end Go.Proofs.Ytahkejppfhonhaa.Pure
