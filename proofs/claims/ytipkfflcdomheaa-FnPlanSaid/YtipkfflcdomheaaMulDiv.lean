/- Plain laws: a product over a divisor to the nearest whole number: the reference's answer and the program's are one, for factors that are no less than nothing and a divisor from 1000; no condition beyond each lemma's own. -/
import Derived.Test.YtipkfflcdomheaaNum
import Derived.Test.YtipkfflcdomheaaS0
import Derived.Test.YtipkfflcdomheaaS10
import Derived.Test.YtipkfflcdomheaaS2
import Derived.Test.YtipkfflcdomheaaS3
import Derived.Test.YtipkfflcdomheaaS8
import Derived.Test.YtipkfflcdomheaaS9
namespace Go.Proofs.Ytipkfflcdomheaa.MulDiv
open Go.RowKit Go.Proofs.Ytipkfflcdomheaa.S Go.Proofs.YtipkfflcdomheaaW.PrintWords Go.Proofs.YtipkfflcdomheaaW.PrintMore Go.Proofs.Ytipkfflcdomheaa.Cal Go.Proofs.Ytipkfflcdomheaa.Num
set_option linter.unusedVariables false
set_option linter.unusedSimpArgs false

def up (q r c : Int) : Int := if c < 2 * r then q + 1 else if 2 * r = c then (if q % 2 = 1 then q + 1 else q) else q
theorem up_le (q r c : Int) : q ≤ up q r c ∧ up q r c ≤ q + 1 := by
  unfold up
  split
  · omega
  split
  · split <;> omega
  · omega
theorem up1 {q r c : Int} (h : c < 2 * r) : up q r c = q + 1 := if_pos h
theorem up2 {q r c : Int} (h : 2 * r = c) (o : q % 2 = 1) : up q r c = q + 1 := by
  unfold up
  rw [if_neg (by omega), if_pos h, if_pos o]
theorem up3 {q r c : Int} (h : 2 * r = c) (o : ¬ q % 2 = 1) : up q r c = q := by
  unfold up
  rw [if_neg (by omega), if_pos h, if_neg o]
theorem up4 {q r c : Int} (h : 2 * r < c) : up q r c = q := by
  unfold up
  rw [if_neg (by omega), if_neg (by omega)]
def near (a b c : Int) : Int := up (a * b / c) (a * b % c) c
def md (a b c : Int) : Int × Int := if near a b c ≤ 1000000000000 then (near a b c, 0) else (0, 13)

theorem md_range (a b c : Int) (a0 : 0 ≤ a) (b0 : 0 ≤ b) (c0 : 1 ≤ c) : 0 ≤ (md a b c).1 ∧ (md a b c).1 ≤ 1000000000000 := by
  have h : 0 ≤ a * b / c := Int.ediv_nonneg (Int.mul_nonneg a0 b0) (by omega)
  have := (up_le (a * b / c) (a * b % c) c).1
  unfold md
  split
  · exact ⟨by show 0 ≤ near a b c; unfold near; omega, by show near a b c ≤ _; assumption⟩
  · exact ⟨by decide, by decide⟩

theorem spec_money {a : Int} (a0 : 0 ≤ a) : spec_MoneyRight.f a = some (decide (a ≤ 1000000000000)) := by
  unfold spec_MoneyRight.f
  exact yes (by omega) rfl
theorem spec_out {a : Int} (a0 : 0 ≤ a) : spec_l02Out.f a = some (if a ≤ 1000000000000 then (a, 0) else (0, 13)) := by
  unfold spec_l02Out.f
  refine bnd (spec_money a0) ?_
  by_cases c : a ≤ 1000000000000
  · rw [decide_eq_true c, if_pos rfl, if_pos c]
  · rw [decide_eq_false c, if_neg (by decide), if_neg c]

theorem spec_near {a b c : Int} (a0 : 0 ≤ a) (a1 : a ≤ 1000000000000) (b0 : 0 ≤ b) (b1 : b ≤ 10000000000) (c0 : 1 ≤ c) (c1 : c ≤ 1000000000) :
    ∃ n, spec_l02Near.f a b c = some n ∧ 0 ≤ n ∧ (n = near a b c ∨ (1000000000000 < n ∧ 1000000000000 < near a b c)) := by
  obtain ⟨A, hA⟩ : ∃ A, A = a / 1000000 := ⟨_, rfl⟩
  obtain ⟨B, hB⟩ : ∃ B, B = a % 1000000 := ⟨_, rfl⟩
  have ha : a = A * 1000000 + B := by omega
  have S0 : 0 ≤ A * b := Int.mul_nonneg (by omega) b0
  have S1 : A * b ≤ 1000000 * 10000000000 := Int.mul_le_mul (by omega) b1 b0 (by omega)
  have T0 : 0 ≤ B * b := Int.mul_nonneg (by omega) b0
  have T1 : B * b ≤ 1000000 * 10000000000 := Int.mul_le_mul (by omega) b1 b0 (by omega)
  have h0 : 0 ≤ A * b / c := Int.ediv_nonneg S0 (by omega)
  have h1 : A * b / c ≤ A * b := Int.ediv_le_self _ S0
  have r0 := Int.emod_nonneg (A * b) (b := c) (by omega)
  have r1 := Int.emod_lt_of_pos (A * b) (b := c) (by omega)
  have d1 := Int.mul_ediv_add_emod (A * b) c
  obtain ⟨R, hR⟩ : ∃ R, R = A * b % c * 1000000 + B * b := ⟨_, rfl⟩
  have R0 : 0 ≤ R := by omega
  have R1 : R ≤ 20000000000000000 := by omega
  have p0 : 0 ≤ R / c := Int.ediv_nonneg R0 (by omega)
  have p1 : R / c ≤ R := Int.ediv_le_self _ R0
  have s0 := Int.emod_nonneg R (b := c) (by omega)
  have s1 := Int.emod_lt_of_pos R (b := c) (by omega)
  have d2 := Int.mul_ediv_add_emod R c
  obtain ⟨h, hh⟩ : ∃ h, h = A * b / c := ⟨_, rfl⟩
  obtain ⟨p, hp⟩ : ∃ p, p = R / c := ⟨_, rfl⟩
  obtain ⟨s, hs⟩ : ∃ s, s = R % c := ⟨_, rfl⟩
  obtain ⟨m, hm⟩ : ∃ m, m = A * b % c := ⟨_, rfl⟩
  rw [← hh] at h0 h1 d1
  rw [← hm] at r0 r1 d1 hR
  rw [← hp] at p0 p1 d2
  rw [← hs] at s0 s1 d2
  have eN : a * b = c * (h * 1000000 + p) + s := by
    have e1 : a * b = A * b * 1000000 + B * b := by rw [ha]; grind
    have e2 : c * (h * 1000000 + p) = c * h * 1000000 + c * p := by grind
    omega
  obtain ⟨g1, g2⟩ := div_eq eN s0 s1
  have en : near a b c = up (h * 1000000 + p) s c := by
    unfold near
    rw [g1, g2]
  have e1 : wrap64 (Int.tdiv a 1000000) = A := by rw [td a0, ← hA]; exact wid (by omega) (by omega)
  have e2 : wrap64 (A * b) = A * b := wid (by omega) (by omega)
  have e3 : wrap64 (Int.tdiv (A * b) c) = h := by rw [td S0, ← hh]; exact wid (by omega) (by omega)
  have e4 : Int.tmod (A * b) c = m := by rw [tm S0, ← hm]
  have e5 : wrap64 (m * 1000000) = m * 1000000 := wid (by omega) (by omega)
  have e6 : Int.tmod a 1000000 = B := by rw [tm a0, ← hB]
  have e7 : wrap64 (B * b) = B * b := wid (by omega) (by omega)
  have e8 : wrap64 (m * 1000000 + B * b) = R := by rw [← hR]; exact wid (by omega) (by omega)
  have e9 : Int.tmod R c = s := by rw [tm R0, ← hs]
  have e10 : wrap64 (Int.tdiv R c) = p := by rw [td R0, ← hp]; exact wid (by omega) (by omega)
  have e11 : wrap64 (2 * s) = 2 * s := wid (by omega) (by omega)
  have e12 : wrap64 (p + 1) = p + 1 := wid (by omega) (by omega)
  unfold spec_l02Near.f
  rw [e1, e2, e3, e4, e5, e6, e7, e8, e9, e10, e11, e12, if_neg (by omega)]
  by_cases c2 : h > 2000000
  · rw [if_pos c2]
    refine ⟨_, rfl, by decide, Or.inr ⟨by decide, ?_⟩⟩
    rw [en]
    have := (up_le (h * 1000000 + p) s c).1
    omega
  rw [if_neg c2]
  have e13 : wrap64 (h * 1000000) = h * 1000000 := wid (by omega) (by omega)
  have e14 : wrap64 (h * 1000000 + p) = h * 1000000 + p := wid (by omega) (by omega)
  have e15 : wrap64 (h * 1000000 + (p + 1)) = h * 1000000 + p + 1 := by rw [wid (by omega) (by omega)]; omega
  rw [e13, e14, e15, tm (a := h * 1000000 + p) (by omega)]
  refine ⟨up (h * 1000000 + p) s c, ?_, ?_, Or.inl en.symm⟩
  · by_cases c3 : 2 * s > c
    · rw [if_pos c3, up1 c3]
    rw [if_neg c3]
    by_cases c4 : 2 * s = c
    · rw [if_pos c4]
      by_cases c5 : (h * 1000000 + p) % 2 = 1
      · rw [if_pos c5, up2 c4 c5]
      · rw [if_neg c5, up3 c4 c5]
    · rw [if_neg c4, up4 (by omega)]
  · have := (up_le (h * 1000000 + p) s c).1
    omega

theorem spec_md {a b c : Int} (a0 : 0 ≤ a) (a1 : a ≤ 1000000000000) (b0 : 0 ≤ b) (b1 : b ≤ 10000000000) (c0 : 1 ≤ c) (c1 : c ≤ 1000000000) (k : Nat) :
    spec_MulDiv.f (k + 1) a b c = some (md a b c) := by
  unfold spec_MulDiv.f
  refine bnd (spec_money a0) ?_
  refine yes (decide_eq_true a1) ?_
  refine no (by omega) ?_
  refine no (by omega) ?_
  refine no (by omega) ?_
  rw [decide_eq_false (by omega), spec_MulDiv.j0]
  refine no (by decide) ?_
  have e : spec_l02Abs.f a = some a := by
    unfold spec_l02Abs.f
    exact no (by omega) rfl
  refine bnd e ?_
  obtain ⟨n, hn, n0, hx⟩ := spec_near a0 a1 b0 b1 c0 c1
  refine bnd hn ?_
  refine no (by omega) ?_
  refine bnd (spec_out n0) ?_
  unfold md
  rcases hx with rfl | ⟨x, y⟩
  · split <;> rfl
  · rw [if_neg (by omega), if_neg (by omega)]

theorem in_money {a : Int} (a0 : 0 ≤ a) (a1 : a ≤ 1000000000000) : impl_MoneyRight.f a = some true := by
  unfold impl_MoneyRight.f impl_in.f
  rw [if_pos (by omega), decide_eq_true a1]
  rfl

theorem impl_md {a b c : Int} (a0 : 0 ≤ a) (a1 : a ≤ 1000000000000) (b0 : 0 ≤ b) (b1 : b ≤ 10000000000) (c0 : 1000 ≤ c) (c1 : c ≤ 1000000000) (k : Nat) :
    impl_MulDiv.f (k + 6) a b c = some (md a b c) := by
  have i1 : impl_in.f b 0 10000000000 = some true := by
    unfold impl_in.f
    rw [if_pos b0, decide_eq_true b1]
  have i2 : impl_in.f c 1 1000000000 = some true := by
    unfold impl_in.f
    rw [if_pos (by omega), decide_eq_true c1]
  have N0 : 0 ≤ a * b := Int.mul_nonneg a0 b0
  have N1 : a * b ≤ 1000000000000 * 10000000000 := Int.mul_le_mul a1 b1 b0 (by omega)
  have q0 : 0 ≤ a * b / c := Int.ediv_nonneg N0 (by omega)
  have r0 := Int.emod_nonneg (a * b) (b := c) (by omega)
  have r1 := Int.emod_lt_of_pos (a * b) (b := c) (by omega)
  have q1 : a * b / c < 18446744073709551615 := by
    refine Int.ediv_lt_of_lt_mul (by omega) ?_
    have := Int.mul_le_mul_of_nonneg_left c0 (show (0 : Int) ≤ 18446744073709551615 by decide)
    omega
  have d1 := Int.mul_ediv_add_emod (a * b) c
  have ul := up_le (a * b / c) (a * b % c) c
  unfold impl_MulDiv.f
  refine bnd (in_money a0 a1) ?_
  refine yes rfl ?_
  refine bnd i1 ?_
  refine yes rfl ?_
  refine bnd i2 ?_
  rw [impl_MulDiv.j0]
  refine no (by decide) ?_
  have e1 : IntKind.u64.wrap (mx a (wrap64 (-a))) = a := by
    rw [wid (by omega) (by omega)]
    unfold mx
    split
    · omega
    · exact u64_id a0 (by omega)
  have e2 : IntKind.u64.wrap b = b := u64_id b0 (by omega)
  have e3 : IntKind.u64.wrap c = c := u64_id (by omega) (by omega)
  rw [e1, e2, e3]
  refine bnd (mul64 a0 (by omega) b0 (by omega)) ?_
  simp only []
  by_cases big : a * b / 18446744073709551616 ≥ c
  · rw [if_pos big]
    have h1 : c * 18446744073709551616 ≤ a * b := by omega
    have h2 : 18446744073709551616 ≤ a * b / c := by
      refine Int.le_ediv_of_mul_le (by omega) ?_
      omega
    omega
  rw [if_neg big]
  have hd := div64 (hi := a * b / 18446744073709551616) (lo := a * b % 18446744073709551616) (c := c) (by omega) c1 (by omega) (by omega) (by omega) (by omega) k
  have e4 : a * b / 18446744073709551616 * 18446744073709551616 + a * b % 18446744073709551616 = a * b := by omega
  rw [e4] at hd
  refine bnd hd ?_
  simp only []
  have e5 : IntKind.u64.wrap (2 * (a * b % c)) = 2 * (a * b % c) := u64_id (by omega) (by omega)
  rw [e5]
  have fin : ∀ x, x = near a b c → impl_MulDiv.j2 (k + 4) a x = some (md a b c) := by
    intro x hx
    unfold md
    rw [← hx]
    have x0 : 0 ≤ x := by rw [hx]; unfold near; omega
    rw [impl_MulDiv.j2]
    by_cases c9 : x > 1000000000000
    · rw [if_pos c9, if_neg (by omega)]
    · rw [if_neg c9, if_neg (by omega), if_pos (by omega), wid (by omega) (by omega)]
  have j1t : near a b c = a * b / c + 1 → impl_MulDiv.j1 (k + 5) a (a * b / c) true = some (md a b c) := by
    intro h
    rw [impl_MulDiv.j1]
    refine yes rfl ?_
    rw [u64_id (by omega) (by omega)]
    exact fin _ h.symm
  have j1f : near a b c = a * b / c → impl_MulDiv.j1 (k + 5) a (a * b / c) false = some (md a b c) := by
    intro h
    rw [impl_MulDiv.j1]
    refine no (by decide) ?_
    exact fin _ h.symm
  by_cases c6 : 2 * (a * b % c) > c
  · rw [if_pos c6]
    exact j1t (up1 c6)
  rw [if_neg c6]
  by_cases c7 : 2 * (a * b % c) = c
  · rw [if_pos c7, tm q0]
    by_cases c8 : a * b / c % 2 = 1
    · rw [show (a * b / c % 2 == 1) = true from beq_iff_eq.mpr c8]
      exact j1t (up2 c7 c8)
    · rw [show (a * b / c % 2 == 1) = false from beq_eq_false_iff_ne.mpr c8]
      exact j1f (up3 c7 c8)
  · rw [if_neg c7]
    exact j1f (up4 (by omega))
end Go.Proofs.Ytipkfflcdomheaa.MulDiv
