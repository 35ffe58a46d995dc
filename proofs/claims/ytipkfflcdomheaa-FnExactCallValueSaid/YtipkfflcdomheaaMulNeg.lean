/- Plain laws: a product over a divisor to the nearest whole number, of either sign: the reference's answer and the program's are one, at every factor; no condition beyond each lemma's own. -/
import Derived.Test.YtipkfflcdomheaaInterest
import Derived.Test.YtipkfflcdomheaaS0
import Derived.Test.YtipkfflcdomheaaS10
import Derived.Test.YtipkfflcdomheaaS2
import Derived.Test.YtipkfflcdomheaaS3
import Derived.Test.YtipkfflcdomheaaS7
import Derived.Test.YtipkfflcdomheaaS8
namespace Go.Proofs.Ytipkfflcdomheaa.MulNeg
open Go.RowKit Go.Proofs.Ytipkfflcdomheaa.S Go.Proofs.YtipkfflcdomheaaW.PrintWords Go.Proofs.YtipkfflcdomheaaW.PrintMore Go.Proofs.Ytipkfflcdomheaa.Cal Go.Proofs.Ytipkfflcdomheaa.Days Go.Proofs.Ytipkfflcdomheaa.Num Go.Proofs.Ytipkfflcdomheaa.MulDiv Go.Proofs.Ytipkfflcdomheaa.Interest
set_option linter.unusedVariables false
set_option linter.unusedSimpArgs false

def mdn (a b c : Int) : Int × Int := if near (-a) b c ≤ 1000000000000 then (-(near (-a) b c), 0) else (0, 13)

theorem wrap_le (x : Int) : wrap64 x ≤ 9223372036854775807 := by
  unfold wrap64
  omega
theorem near_fit {a b c n : Int} (h : spec_l02Near.f a b c = some n) : n ≤ 9223372036854775807 := by
  unfold spec_l02Near.f at h
  split at h
  · cases h
  split at h
  · rw [← Option.some.inj h]
    decide
  split at h
  · rw [← Option.some.inj h]
    exact wrap_le _
  split at h
  · split at h
    · rw [← Option.some.inj h]
      exact wrap_le _
    · rw [← Option.some.inj h]
      exact wrap_le _
  · rw [← Option.some.inj h]
    exact wrap_le _
theorem spec_mdn {a b c : Int} (a0 : a < 0) (a1 : -1000000000000 ≤ a) (b0 : 0 ≤ b) (b1 : b ≤ 10000000000) (c0 : 1 ≤ c) (c1 : c ≤ 1000000000) (k : Nat) :
    spec_MulDiv.f (k + 1) a b c = some (mdn a b c) := by
  unfold spec_MulDiv.f
  have em : spec_MoneyRight.f a = some true := by
    unfold spec_MoneyRight.f
    refine yes (by omega) ?_
    rw [decide_eq_true (by omega)]
  refine bnd em ?_
  refine yes rfl ?_
  refine no (by omega) ?_
  refine no (by omega) ?_
  refine no (by omega) ?_
  rw [decide_eq_false (by omega), spec_MulDiv.j0]
  refine no (by decide) ?_
  have e : spec_l02Abs.f a = some (-a) := by
    unfold spec_l02Abs.f
    refine yes a0 ?_
    rw [wid (by omega) (by omega)]
  refine bnd e ?_
  obtain ⟨n, hn, n0, hx⟩ := spec_near (a := -a) (by omega) (by omega) b0 b1 c0 c1
  refine bnd hn ?_
  refine yes a0 ?_
  have nf := near_fit hn
  have out : spec_l02Out.f (wrap64 (-n)) = some (mdn a b c) := by
    rw [wid (by omega) (by omega)]
    unfold mdn spec_l02Out.f spec_MoneyRight.f
    by_cases g : near (-a) b c ≤ 1000000000000
    · have hn2 : n = near (-a) b c := by omega
      rw [if_pos g, if_pos (by omega), decide_eq_true (by omega), ← hn2]
      exact bnd rfl (yes rfl rfl)
    · rw [if_neg g, if_neg (by omega)]
      exact bnd rfl (no (by decide) rfl)
  exact bnd out rfl

theorem impl_mdn {a b c : Int} (a0 : a < 0) (a1 : -1000000000000 ≤ a) (b0 : 0 ≤ b) (b1 : b ≤ 10000000000) (c0 : 1000 ≤ c) (c1 : c ≤ 1000000000) (k : Nat) :
    impl_MulDiv.f (k + 6) a b c = some (mdn a b c) := by
  have i1 : impl_in.f b 0 10000000000 = some true := by
    unfold impl_in.f
    rw [if_pos b0, decide_eq_true b1]
  have i2 : impl_in.f c 1 1000000000 = some true := by
    unfold impl_in.f
    rw [if_pos (by omega), decide_eq_true c1]
  have N0 : 0 ≤ (-a) * b := Int.mul_nonneg (by omega) b0
  have N1 : (-a) * b ≤ 1000000000000 * 10000000000 := Int.mul_le_mul (by omega) b1 b0 (by omega)
  have q0 : 0 ≤ (-a) * b / c := Int.ediv_nonneg N0 (by omega)
  have r0 := Int.emod_nonneg ((-a) * b) (b := c) (by omega)
  have r1 := Int.emod_lt_of_pos ((-a) * b) (b := c) (by omega)
  have q1 : (-a) * b / c < 18446744073709551615 := by
    refine Int.ediv_lt_of_lt_mul (by omega) ?_
    have := Int.mul_le_mul_of_nonneg_left c0 (show (0 : Int) ≤ 18446744073709551615 by decide)
    omega
  have d1 := Int.mul_ediv_add_emod ((-a) * b) c
  have ul := up_le ((-a) * b / c) ((-a) * b % c) c
  have em : impl_MoneyRight.f a = some true := by
    unfold impl_MoneyRight.f impl_in.f
    rw [if_pos (by omega), decide_eq_true (by omega)]
    rfl
  unfold impl_MulDiv.f
  refine bnd em ?_
  refine yes rfl ?_
  refine bnd i1 ?_
  refine yes rfl ?_
  refine bnd i2 ?_
  rw [impl_MulDiv.j0]
  refine no (by decide) ?_
  have e1 : IntKind.u64.wrap (mx a (wrap64 (-a))) = -a := by
    rw [wid (by omega) (by omega)]
    unfold mx
    split
    · exact u64_id (by omega) (by omega)
    · omega
  have e2 : IntKind.u64.wrap b = b := u64_id b0 (by omega)
  have e3 : IntKind.u64.wrap c = c := u64_id (by omega) (by omega)
  rw [e1, e2, e3]
  refine bnd (mul64 (x := -a) (by omega) (by omega) b0 (by omega)) ?_
  simp only []
  by_cases big : (-a) * b / 18446744073709551616 ≥ c
  · rw [if_pos big]
    have h2 : 18446744073709551616 ≤ (-a) * b / c := by
      refine Int.le_ediv_of_mul_le (by omega) ?_
      omega
    omega
  rw [if_neg big]
  have hd := div64 (hi := (-a) * b / 18446744073709551616) (lo := (-a) * b % 18446744073709551616) (c := c) (by omega) c1 (by omega) (by omega) (by omega) (by omega) k
  have e4 : (-a) * b / 18446744073709551616 * 18446744073709551616 + (-a) * b % 18446744073709551616 = (-a) * b := by omega
  rw [e4] at hd
  refine bnd hd ?_
  simp only []
  have e5 : IntKind.u64.wrap (2 * ((-a) * b % c)) = 2 * ((-a) * b % c) := u64_id (by omega) (by omega)
  rw [e5]
  have fin : ∀ x, x = near (-a) b c → impl_MulDiv.j2 (k + 4) a x = some (mdn a b c) := by
    intro x hx
    unfold mdn
    rw [← hx]
    have x0 : 0 ≤ x := by rw [hx]; unfold near; omega
    rw [impl_MulDiv.j2]
    by_cases c9 : x > 1000000000000
    · rw [if_pos c9, if_neg (by omega)]
    · rw [if_neg c9, if_pos a0, if_pos (by omega), wid (x := x) (by omega) (by omega), wid (by omega) (by omega)]
  have j1t : near (-a) b c = (-a) * b / c + 1 → impl_MulDiv.j1 (k + 5) a ((-a) * b / c) true = some (mdn a b c) := by
    intro h
    rw [impl_MulDiv.j1]
    refine yes rfl ?_
    rw [u64_id (by omega) (by omega)]
    exact fin _ h.symm
  have j1f : near (-a) b c = (-a) * b / c → impl_MulDiv.j1 (k + 5) a ((-a) * b / c) false = some (mdn a b c) := by
    intro h
    rw [impl_MulDiv.j1]
    refine no (by decide) ?_
    exact fin _ h.symm
  by_cases c6 : 2 * ((-a) * b % c) > c
  · rw [if_pos c6]
    exact j1t (up1 c6)
  rw [if_neg c6]
  by_cases c7 : 2 * ((-a) * b % c) = c
  · rw [if_pos c7, tm q0]
    by_cases c8 : (-a) * b / c % 2 = 1
    · rw [show ((-a) * b / c % 2 == 1) = true from beq_iff_eq.mpr c8]
      exact j1t (up2 c7 c8)
    · rw [show ((-a) * b / c % 2 == 1) = false from beq_eq_false_iff_ne.mpr c8]
      exact j1f (up3 c7 c8)
  · rw [if_neg c7]
    exact j1f (up4 (by omega))

/-- A share: of any factor, by a rate from nothing to one. -/
theorem share_same {a b : Int} (b0 : 0 ≤ b) (b1 : b ≤ 1000000) : ∃ z : Int × Int, ∀ k, 300 ≤ k → spec_MulDiv.f k a b 1000000 = some z ∧ impl_MulDiv.f k a b 1000000 = some z := by
  by_cases g : -1000000000000 ≤ a ∧ a ≤ 1000000000000
  · by_cases n : a < 0
    · refine ⟨mdn a b 1000000, fun k hk => ?_⟩
      obtain ⟨j, rfl⟩ : ∃ j, k = j + 6 := ⟨k - 6, by omega⟩
      exact ⟨spec_mdn n g.1 b0 (by omega) (by omega) (by omega) (j + 5), impl_mdn n g.1 b0 (by omega) (by omega) (by omega) j⟩
    · obtain ⟨z, hz, _⟩ := md_same (a := a) (b := b) (c := 1000000) (by omega) g.2 b0 (by omega) (by omega)
      exact ⟨z, hz⟩
  · refine ⟨(0, 1), fun k hk => ?_⟩
    obtain ⟨j, rfl⟩ : ∃ j, k = j + 1 := ⟨k - 1, by omega⟩
    constructor
    · unfold spec_MulDiv.f
      have em : spec_MoneyRight.f a = some false := by
        unfold spec_MoneyRight.f
        by_cases c : a ≥ -1000000000000
        · rw [if_pos c, decide_eq_false (by omega)]
        · rw [if_neg c]
      refine bnd em ?_
      refine no (by decide) ?_
      rw [spec_MulDiv.j0]
      exact yes rfl rfl
    · unfold impl_MulDiv.f
      have em : impl_MoneyRight.f a = some false := by
        unfold impl_MoneyRight.f
        refine bnd (impl_in_eval a _ _) ?_
        rw [decide_eq_false (by omega)]
      refine bnd em ?_
      refine no (by decide) ?_
      rw [impl_MulDiv.j0]
      exact yes rfl rfl
end Go.Proofs.Ytipkfflcdomheaa.MulNeg
