/- Plain laws: the days between two days, the interest of a time: the reference's answers and the program's are one; no condition beyond each lemma's own. -/
import Derived.Test.YtipkfflcdomheaaDays
import Derived.Test.YtipkfflcdomheaaMulDiv
import Derived.Test.YtipkfflcdomheaaS0
import Derived.Test.YtipkfflcdomheaaS1
import Derived.Test.YtipkfflcdomheaaS10
import Derived.Test.YtipkfflcdomheaaS2
import Derived.Test.YtipkfflcdomheaaS3
import Derived.Test.YtipkfflcdomheaaS8
import Derived.Test.YtipkfflcdomheaaS9
namespace Go.Proofs.Ytipkfflcdomheaa.Interest
open Go.RowKit Go.Proofs.Ytipkfflcdomheaa.S Go.Proofs.YtipkfflcdomheaaW.PrintWords Go.Proofs.YtipkfflcdomheaaW.PrintMore Go.Proofs.Ytipkfflcdomheaa.Cal Go.Proofs.Ytipkfflcdomheaa.Days Go.Proofs.Ytipkfflcdomheaa.Num Go.Proofs.Ytipkfflcdomheaa.MulDiv
set_option linter.unusedVariables false
set_option linter.unusedSimpArgs false

theorem spec_j0 (k : Nat) (b x y : Int) : spec_Span.j0 (k + 1) b x y true = some (0, 1) := by
  rw [spec_Span.j0]
  exact yes rfl rfl
theorem impl_j0 (k : Nat) (b x y : Int) : impl_Span.j0 (k + 1) b x y true = some (0, 1) := by
  rw [impl_Span.j0]
  exact yes rfl rfl

theorem span_bad {b x y : Int} (h : ¬ (1 ≤ b ∧ b ≤ 3 ∧ (0 ≤ x ∧ x ≤ 36524) ∧ (0 ≤ y ∧ y ≤ 36524) ∧ x ≤ y)) (k : Nat) :
    spec_Span.f (k + 1) b x y = some (0, 1) ∧ impl_Span.f (k + 1) b x y = some (0, 1) := by
  constructor
  · unfold spec_Span.f
    by_cases c1 : b < 1
    · rw [if_pos c1, spec_j0]
    rw [if_neg c1]
    by_cases c2 : b > 3
    · rw [if_pos c2, spec_j0]
    rw [if_neg c2]
    refine bnd (spec_right x) ?_
    by_cases c3 : 0 ≤ x ∧ x ≤ 36524
    · refine yes (decide_eq_true c3) ?_
      refine bnd (spec_right y) ?_
      by_cases c4 : 0 ≤ y ∧ y ≤ 36524
      · refine yes (decide_eq_true c4) ?_
        rw [decide_eq_true (p := y < x) (by omega), spec_j0]
      · refine no (by rw [decide_eq_false c4]; decide) ?_
        rw [spec_j0]
    · refine no (by rw [decide_eq_false c3]; decide) ?_
      rw [spec_j0]
  · unfold impl_Span.f
    have eb : impl_isBasis.f b = some (decide (1 ≤ b ∧ b ≤ 3)) := by
      unfold impl_isBasis.f
      exact bnd (impl_in_eval b 1 3) rfl
    refine bnd eb ?_
    by_cases c1 : 1 ≤ b ∧ b ≤ 3
    · refine yes (decide_eq_true c1) ?_
      refine bnd (impl_isDay_eval x) ?_
      by_cases c3 : 0 ≤ x ∧ x ≤ 36524
      · refine yes (decide_eq_true c3) ?_
        refine bnd (impl_isDay_eval y) ?_
        by_cases c4 : 0 ≤ y ∧ y ≤ 36524
        · refine yes (decide_eq_true c4) ?_
          rw [decide_eq_true (p := y < x) (by omega), impl_j0]
        · refine no (by rw [decide_eq_false c4]; decide) ?_
          rw [impl_j0]
      · refine no (by rw [decide_eq_false c3]; decide) ?_
        rw [impl_j0]
    · refine no (by rw [decide_eq_false c1]; decide) ?_
      rw [impl_j0]

theorem span_good {b x y : Int} (b0 : 1 ≤ b) (b1 : b ≤ 3) (hx : 0 ≤ x ∧ x ≤ 36524) (hy : 0 ≤ y ∧ y ≤ 36524) (hxy : x ≤ y) (k : Nat) :
    spec_Span.f k b x y = spec_Span.j0 k b x y false ∧ impl_Span.f k b x y = impl_Span.j0 k b x y false := by
  constructor
  · unfold spec_Span.f
    refine no (by omega) ?_
    refine no (by omega) ?_
    refine bnd (spec_right x) ?_
    refine yes (decide_eq_true hx) ?_
    refine bnd (spec_right y) ?_
    refine yes (decide_eq_true hy) ?_
    rw [decide_eq_false (p := y < x) (by omega)]
  · unfold impl_Span.f
    have eb : impl_isBasis.f b = some (decide (1 ≤ b ∧ b ≤ 3)) := by
      unfold impl_isBasis.f
      exact bnd (impl_in_eval b 1 3) rfl
    refine bnd eb ?_
    refine yes (decide_eq_true ⟨b0, b1⟩) ?_
    refine bnd (impl_isDay_eval x) ?_
    refine yes (decide_eq_true hx) ?_
    refine bnd (impl_isDay_eval y) ?_
    refine yes (decide_eq_true hy) ?_
    rw [decide_eq_false (p := y < x) (by omega)]

theorem span12 {b x y : Int} (b0 : 1 ≤ b) (b1 : b ≤ 3) (c : b ≠ 3) (hx : 0 ≤ x ∧ x ≤ 36524) (hy : 0 ≤ y ∧ y ≤ 36524) (hxy : x ≤ y) {k : Nat} (hk : 300 ≤ k) :
    spec_Span.f k b x y = some (y - x, 0) ∧ impl_Span.f k b x y = some (y - x, 0) := by
  obtain ⟨j, rfl⟩ : ∃ j, k = j + 1 := ⟨k - 1, by omega⟩
  obtain ⟨e1, e2⟩ := span_good b0 b1 hx hy hxy (j + 1)
  rw [e1, e2, spec_Span.j0, impl_Span.j0]
  constructor
  · refine no (by decide) ?_
    refine no c ?_
    rw [wid (by omega) (by omega)]
  · refine no (by decide) ?_
    refine no c ?_
    rw [wid (by omega) (by omega)]

def mn30 (d : Int) : Int := if 30 < d then 30 else d
def d360 (y1 m1 d1 y2 m2 d2 : Int) : Int := 360 * (y2 - y1) + 30 * (m2 - m1) + mn30 d2 - mn30 d1
def pos (v : Int) : Int := if 0 > v then 0 else v

theorem span3 {y1 m1 d1 y2 m2 d2 : Int} (h1 : Valid y1 m1 d1) (h2 : Valid y2 m2 d2) (hxy : num y1 m1 d1 ≤ num y2 m2 d2) {k : Nat} (hk : 300 ≤ k) :
    spec_Span.f k 3 (num y1 m1 d1) (num y2 m2 d2) = some (pos (d360 y1 m1 d1 y2 m2 d2), 0) ∧ impl_Span.f k 3 (num y1 m1 d1) (num y2 m2 d2) = some (pos (d360 y1 m1 d1 y2 m2 d2), 0) := by
  have := h1.y0; have := h1.y1; have := h1.m0; have := h1.m1; have := h1.d0; have := d_le h1
  have := h2.y0; have := h2.y1; have := h2.m0; have := h2.m1; have := h2.d0; have := d_le h2
  unfold d360
  obtain ⟨e, he⟩ : ∃ e, e = mn30 d2 := ⟨_, rfl⟩
  obtain ⟨s, hs⟩ : ∃ s, s = mn30 d1 := ⟨_, rfl⟩
  have eb : 1 ≤ e ∧ e ≤ 30 := by rw [he]; unfold mn30; split <;> omega
  have sb : 1 ≤ s ∧ s ≤ 30 := by rw [hs]; unfold mn30; split <;> omega
  rw [← he, ← hs]
  obtain ⟨v, hv⟩ : ∃ v, v = 360 * (y2 - y1) + 30 * (m2 - m1) + e - s := ⟨_, rfl⟩
  have ev : wrap64 ((wrap64 ((wrap64 ((wrap64 (360 * (wrap64 (y2 - y1)))) + (wrap64 (30 * (wrap64 (m2 - m1)))))) + e)) - s) = v := by
    rw [wid (x := y2 - y1) (by omega) (by omega), wid (x := m2 - m1) (by omega) (by omega), wid (x := 360 * (y2 - y1)) (by omega) (by omega), wid (x := 30 * (m2 - m1)) (by omega) (by omega),
      wid (x := 360 * (y2 - y1) + 30 * (m2 - m1)) (by omega) (by omega), wid (x := 360 * (y2 - y1) + 30 * (m2 - m1) + e) (by omega) (by omega), wid (by omega) (by omega), hv]
  rw [← hv]
  obtain ⟨j, rfl⟩ : ∃ j, k = j + 1 := ⟨k - 1, by omega⟩
  obtain ⟨e1, e2⟩ := span_good (b := 3) (by omega) (by omega) (num_range h1) (num_range h2) hxy (j + 1)
  rw [e1, e2, spec_Span.j0, impl_Span.j0]
  constructor
  · refine no (by decide) ?_
    refine yes rfl ?_
    refine bnd (spec_date h1 (by omega)) ?_
    refine bnd (spec_date h2 (by omega)) ?_
    have f1 : spec_l01Min.f 30 d2 = some e := by
      unfold spec_l01Min.f
      rw [he]
      unfold mn30
      split <;> rfl
    have f2 : spec_l01Min.f 30 d1 = some s := by
      unfold spec_l01Min.f
      rw [hs]
      unfold mn30
      split <;> rfl
    refine bnd f1 ?_
    refine bnd f2 ?_
    simp only []
    rw [ev]
    have f3 : spec_l01Max.f 0 v = some (pos v) := by
      unfold spec_l01Max.f pos
      split <;> rfl
    exact bnd f3 rfl
  · refine no (by decide) ?_
    refine yes rfl ?_
    refine bnd (impl_date_eval h1 (by omega)) ?_
    refine bnd (impl_date_eval h2 (by omega)) ?_
    simp only []
    have f1 : mn d2 30 = e := by
      unfold mn
      rw [he]
      rfl
    have f2 : mn d1 30 = s := by
      unfold mn
      rw [hs]
      rfl
    rw [f1, f2, ev]
    rfl

theorem span_same (b x y : Int) : ∃ r : Int × Int, (∀ k, 300 ≤ k → spec_Span.f k b x y = some r ∧ impl_Span.f k b x y = some r) ∧ 0 ≤ r.1 ∧ r.1 ≤ 36600 := by
  by_cases g : 1 ≤ b ∧ b ≤ 3 ∧ (0 ≤ x ∧ x ≤ 36524) ∧ (0 ≤ y ∧ y ≤ 36524) ∧ x ≤ y
  case neg =>
    refine ⟨(0, 1), fun k hk => ?_, by decide, by decide⟩
    obtain ⟨j, rfl⟩ : ∃ j, k = j + 1 := ⟨k - 1, by omega⟩
    exact span_bad g j
  obtain ⟨b0, b1, hx, hy, hxy⟩ := g
  by_cases c : b = 3
  case neg => exact ⟨(y - x, 0), fun k hk => span12 b0 b1 c hx hy hxy hk, by show 0 ≤ y - x; omega, by show y - x ≤ 36600; omega⟩
  subst c
  obtain ⟨y1, m1, d1, h1, rfl⟩ := date_of x hx.1 hx.2
  obtain ⟨y2, m2, d2, h2, rfl⟩ := date_of y hy.1 hy.2
  have := h1.y0; have := h1.y1; have := h1.m0; have := h1.m1; have := h1.d0; have := d_le h1
  have := h2.y0; have := h2.y1; have := h2.m0; have := h2.m1; have := h2.d0; have := d_le h2
  refine ⟨(pos (d360 y1 m1 d1 y2 m2 d2), 0), fun k hk => span3 h1 h2 hxy hk, ?_, ?_⟩
  · show 0 ≤ pos _
    unfold pos
    split <;> omega
  · show pos _ ≤ 36600
    have e1 : mn30 d1 ≥ 0 := by unfold mn30; split <;> omega
    have e2 : mn30 d2 ≤ 30 := by unfold mn30; split <;> omega
    unfold pos d360
    split <;> omega

theorem md_bad {a b c : Int} (a0 : 0 ≤ a) (a1 : a ≤ 1000000000000) (b1 : 10000000000 < b) (k : Nat) :
    spec_MulDiv.f (k + 1) a b c = some (0, 1) ∧ impl_MulDiv.f (k + 1) a b c = some (0, 1) := by
  constructor
  · unfold spec_MulDiv.f
    refine bnd (spec_money a0) ?_
    refine yes (decide_eq_true a1) ?_
    refine no (by omega) ?_
    refine yes (by omega) ?_
    rw [spec_MulDiv.j0]
    exact yes rfl rfl
  · unfold impl_MulDiv.f
    refine bnd (in_money a0 a1) ?_
    refine yes rfl ?_
    refine bnd (impl_in_eval b 0 10000000000) ?_
    refine no (by rw [decide_eq_false (by omega)]; decide) ?_
    rw [impl_MulDiv.j0]
    exact yes rfl rfl

theorem md_same {a b c : Int} (a0 : 0 ≤ a) (a1 : a ≤ 1000000000000) (b0 : 0 ≤ b) (c0 : 1000 ≤ c) (c1 : c ≤ 1000000000) :
    ∃ r : Int × Int, (∀ k, 300 ≤ k → spec_MulDiv.f k a b c = some r ∧ impl_MulDiv.f k a b c = some r) ∧ 0 ≤ r.1 ∧ r.1 ≤ 1000000000000 := by
  by_cases g : b ≤ 10000000000
  · have h := md_range a b c a0 b0 (by omega)
    refine ⟨md a b c, fun k hk => ?_, h.1, h.2⟩
    obtain ⟨j, rfl⟩ : ∃ j, k = j + 6 := ⟨k - 6, by omega⟩
    exact ⟨spec_md a0 a1 b0 g (by omega) c1 (j + 5), impl_md a0 a1 b0 g c0 c1 j⟩
  · refine ⟨(0, 1), fun k hk => ?_, by decide, by decide⟩
    obtain ⟨j, rfl⟩ : ∃ j, k = j + 1 := ⟨k - 1, by omega⟩
    exact md_bad a0 a1 (by omega) j

/-- The interest where the rate and the balance are in their ranges: by the days. -/
theorem interest_val {a r b x y n : Int} (a0 : 0 ≤ a) (a1 : a ≤ 1000000000000) (r0 : 0 ≤ r) (r1 : r ≤ 1000000) (rn0 : 0 ≤ r * n) (rn1 : r * n ≤ 10000000000)
    (hs : ∀ k, 300 ≤ k → spec_Span.f k b x y = some (n, 0)) {k : Nat} (hk : 400 ≤ k) :
    spec_Interest.f k a r b x y = some (md a (r * n) (1000000 * (if b = 1 then 365 else 360))) := by
  obtain ⟨j, rfl⟩ : ∃ j, k = j + 2 := ⟨k - 2, by omega⟩
  unfold spec_Interest.f
  refine bnd (spec_money a0) ?_
  refine yes (decide_eq_true a1) ?_
  refine no (by omega) ?_
  refine bnd (a := true) ?_ ?_
  · unfold spec_l03Rate.f
    refine yes (by omega) ?_
    rw [decide_eq_true r1]
  rw [spec_Interest.j0]
  refine no (by decide) ?_
  refine bnd (hs (j + 1) (by omega)) ?_
  refine yes rfl ?_
  obtain ⟨Y, hY⟩ : ∃ Y : Int, Y = if b = 1 then 365 else 360 := ⟨_, rfl⟩
  have Yb : 360 ≤ Y ∧ Y ≤ 365 := by rw [hY]; split <;> omega
  have fy : spec_l03Year.f b = some Y := by
    unfold spec_l03Year.f
    rw [hY]
    split <;> rfl
  refine bnd fy ?_
  rw [← hY]
  simp only []
  rw [wid (x := r * n) (by omega) (by omega), wid (x := 1000000 * Y) (by omega) (by omega)]
  exact bnd (spec_md a0 a1 rn0 rn1 (by omega) (by omega) j) rfl

theorem interest_same (a r b x y : Int) : ∃ z : Int × Int, (∀ k, 400 ≤ k → spec_Interest.f k a r b x y = some z ∧ impl_Interest.f k a r b x y = some z) ∧ 0 ≤ z.1 ∧ z.1 ≤ 1000000000000 := by
  by_cases g : (0 ≤ a ∧ a ≤ 1000000000000) ∧ 0 ≤ r ∧ r ≤ 1000000
  case neg =>
    refine ⟨(0, 1), fun k hk => ?_, by decide, by decide⟩
    obtain ⟨j, rfl⟩ : ∃ j, k = j + 1 := ⟨k - 1, by omega⟩
    have s0 : spec_Interest.j0 (j + 1) a r b x y true = some (0, 1) := by
      rw [spec_Interest.j0]
      exact yes rfl rfl
    have i0 : impl_Interest.j0 (j + 1) a r b x y true = some (0, 1) := by
      rw [impl_Interest.j0]
      exact yes rfl rfl
    constructor
    · unfold spec_Interest.f
      by_cases c1 : a < -1000000000000
      · refine bnd (a := false) ?_ ?_
        · unfold spec_MoneyRight.f
          exact no (by omega) rfl
        · refine no (by decide) ?_
          exact s0
      by_cases c2 : a ≤ 1000000000000
      · refine bnd (a := true) ?_ ?_
        · unfold spec_MoneyRight.f
          refine yes (by omega) ?_
          rw [decide_eq_true c2]
        · refine yes rfl ?_
          by_cases c3 : a < 0
          · exact yes c3 s0
          · refine no c3 ?_
            refine bnd (a := false) ?_ s0
            unfold spec_l03Rate.f
            by_cases c4 : r ≥ 0
            · refine yes c4 ?_
              rw [decide_eq_false (by omega)]
            · exact no c4 rfl
      · refine bnd (a := false) ?_ ?_
        · unfold spec_MoneyRight.f
          refine yes (by omega) ?_
          rw [decide_eq_false c2]
        · refine no (by decide) ?_
          exact s0
    · unfold impl_Interest.f
      refine bnd (impl_in_eval a 0 1000000000000) ?_
      by_cases c1 : 0 ≤ a ∧ a ≤ 1000000000000
      · refine yes (decide_eq_true c1) ?_
        refine bnd (a := false) ?_ i0
        unfold impl_isRate.f
        refine bnd (impl_in_eval r 0 1000000) ?_
        rw [decide_eq_false (by omega)]
      · refine no (by rw [decide_eq_false c1]; decide) ?_
        exact i0
  obtain ⟨⟨a0, a1⟩, r0, r1⟩ := g
  have sf : ∀ k, spec_Interest.f k a r b x y = spec_Interest.j0 k a r b x y false := by
    intro k
    unfold spec_Interest.f
    refine bnd (spec_money a0) ?_
    refine yes (decide_eq_true a1) ?_
    refine no (by omega) ?_
    refine bnd (a := true) ?_ rfl
    unfold spec_l03Rate.f
    refine yes (by omega) ?_
    rw [decide_eq_true r1]
  have imf : ∀ k, impl_Interest.f k a r b x y = impl_Interest.j0 k a r b x y false := by
    intro k
    unfold impl_Interest.f
    refine bnd (impl_in_eval a 0 1000000000000) ?_
    refine yes (decide_eq_true ⟨a0, a1⟩) ?_
    refine bnd (a := true) ?_ rfl
    unfold impl_isRate.f
    refine bnd (impl_in_eval r 0 1000000) ?_
    rw [decide_eq_true ⟨r0, r1⟩]
  obtain ⟨⟨n, c⟩, hsp, n0, n1⟩ := span_same b x y
  simp only [] at n0 n1
  by_cases hc : c = 0
  case neg =>
    refine ⟨(0, c), fun k hk => ?_, by show (0 : Int) ≤ 0; decide, by show (0 : Int) ≤ 1000000000000; decide⟩
    obtain ⟨j, rfl⟩ : ∃ j, k = j + 1 := ⟨k - 1, by omega⟩
    rw [sf, imf, spec_Interest.j0, impl_Interest.j0]
    constructor
    · refine no (by decide) ?_
      refine bnd (hsp j (by omega)).1 ?_
      exact no hc rfl
    · refine no (by decide) ?_
      refine bnd (hsp j (by omega)).2 ?_
      exact no hc rfl
  have rn0 : 0 ≤ r * n := Int.mul_nonneg r0 n0
  have rn1 : r * n ≤ 1000000 * 36600 := Int.mul_le_mul r1 n1 n0 (by omega)
  obtain ⟨Y, hY⟩ : ∃ Y : Int, Y = if b = 1 then 365 else 360 := ⟨_, rfl⟩
  have Yb : 360 ≤ Y ∧ Y ≤ 365 := by rw [hY]; split <;> omega
  obtain ⟨z, hz, z0, z1⟩ := md_same (a := a) (b := r * n) (c := 1000000 * Y) a0 a1 rn0 (by omega) (by omega)
  refine ⟨z, fun k hk => ?_, z0, z1⟩
  obtain ⟨j, rfl⟩ : ∃ j, k = j + 1 := ⟨k - 1, by omega⟩
  have wr : wrap64 (r * n) = r * n := wid (by omega) (by omega)
  rw [sf, imf, spec_Interest.j0, impl_Interest.j0]
  constructor
  · refine no (by decide) ?_
    refine bnd (hsp j (by omega)).1 ?_
    refine yes hc ?_
    have fy : spec_l03Year.f b = some Y := by
      unfold spec_l03Year.f
      rw [hY]
      split <;> rfl
    refine bnd fy ?_
    simp only []
    rw [wr, wid (x := 1000000 * Y) (by omega) (by omega)]
    exact bnd (hz j (by omega)).1 rfl
  · refine no (by decide) ?_
    refine bnd (hsp j (by omega)).2 ?_
    refine yes hc ?_
    simp only []
    rw [wr]
    have h2 := (hz j (by omega)).2
    by_cases c1 : b = 1
    · refine yes c1 ?_
      rw [hY, if_pos c1] at h2
      exact bnd h2 rfl
    · refine no c1 ?_
      rw [hY, if_neg c1] at h2
      exact bnd h2 rfl
end Go.Proofs.Ytipkfflcdomheaa.Interest
