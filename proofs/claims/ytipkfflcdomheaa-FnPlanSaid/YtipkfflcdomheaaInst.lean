/- Plain laws: the balance behind a loan's rows falls as the pay grows; the least pay that leaves nothing, by halving, from two upper ends; no condition beyond each lemma's own. -/
import Derived.Test.YtipkfflcdomheaaLoan
import Derived.Test.YtipkfflcdomheaaS0
import Derived.Test.YtipkfflcdomheaaS11
import Derived.Test.YtipkfflcdomheaaS3
import Derived.Test.YtipkfflcdomheaaS4
namespace Go.Proofs.Ytipkfflcdomheaa.Inst
open Go.RowKit Go.Proofs.Ytipkfflcdomheaa.S Go.Proofs.YtipkfflcdomheaaW.PrintWords Go.Proofs.YtipkfflcdomheaaW.PrintMore Go.Proofs.Ytipkfflcdomheaa.Cal Go.Proofs.Ytipkfflcdomheaa.Days Go.Proofs.Ytipkfflcdomheaa.Num Go.Proofs.Ytipkfflcdomheaa.MulDiv Go.Proofs.Ytipkfflcdomheaa.Interest Go.Proofs.Ytipkfflcdomheaa.Loan
set_option linter.unusedVariables false
set_option linter.unusedSimpArgs false

/-! from a due day to the next -/
theorem month_step {t : Int} (t0 : 0 ≤ t) (t1 : t ≤ 1198) (d1 d2 : Int) :
    num (2000 + (t + 1) / 12) ((t + 1) % 12 + 1) d2 = num (2000 + t / 12) (t % 12 + 1) d1 + mlen (2000 + t / 12) (t % 12 + 1) + d2 - d1 := by
  unfold num
  by_cases c : t % 12 = 11
  · have e1 : (t + 1) / 12 = t / 12 + 1 := by omega
    have e2 : (t + 1) % 12 = 0 := by omega
    rw [e1, e2, c]
    have h1 := cum_succ (2000 + t / 12) (m := 12) (by omega) (by omega)
    have h2 := cum_13 (2000 + t / 12)
    have h3 := hd_succ (y := 2000 + t / 12) (by omega)
    have h4 := cum_1 (2000 + (t / 12 + 1))
    have e3 : 2000 + (t / 12 + 1) = 2000 + t / 12 + 1 := by omega
    rw [e3] at h4 ⊢
    have e4 : (0 : Int) + 1 = 1 := rfl
    have e5 : (11 : Int) + 1 = 12 := rfl
    have e6 : (12 : Int) + 1 = 13 := rfl
    rw [e4, e5]
    rw [e6] at h1
    omega
  · have e1 : (t + 1) / 12 = t / 12 := by omega
    have e2 : (t + 1) % 12 = t % 12 + 1 := by omega
    rw [e1, e2]
    have h1 := cum_succ (2000 + t / 12) (m := t % 12 + 1) (by omega) (by omega)
    omega
theorem due_step {s b : Int} (s0 : 0 ≤ s) (s1 : s ≤ 36524) (b0 : 1 ≤ b) (b1 : b ≤ 3) {T : Nat} (hT : T ≤ 60) (hc : (dd s T).2 = 0) {i : Nat} (hi : i < T) :
    ∃ n, 0 ≤ n ∧ n ≤ 34 ∧ ∀ k, 300 ≤ k → spec_Span.f k b (dd s i).1 (dd s (i + 1)).1 = some (n, 0) := by
  obtain ⟨y, m, d, hv, rfl⟩ := date_of s s0 s1
  have y0 := hv.y0; have y1 := hv.y1; have m0 := hv.m0; have m1 := hv.m1; have d0 := hv.d0; have d31 := d_le hv
  have hdd : ∀ j : Nat, j ≤ 60 → dd (num y m d) j = addM y m d j := by
    intro j hj
    have h := (dd_spec (num y m d) (i := j) (by omega) (k := 300) (by omega)).1
    rw [spec_add hv (by omega) (by omega) (by omega)] at h
    exact (Option.some.inj h).symm
  have hT2 : 12 * (y - 2000) + m - 1 + (T : Int) ≤ 1199 := by
    rw [hdd T hT] at hc
    unfold addM at hc
    rw [if_neg (by omega)] at hc
    simp only [] at hc
    by_cases c : 12 * (y - 2000) + m - 1 + (T : Int) < 0 ∨ 1199 < 12 * (y - 2000) + m - 1 + (T : Int)
    · rw [if_pos c] at hc
      exact absurd hc (by decide)
    · omega
  obtain ⟨t, ht⟩ : ∃ t, t = 12 * (y - 2000) + m - 1 + (i : Int) := ⟨_, rfl⟩
  have ei : (dd (num y m d) i).1 = num (2000 + t / 12) (t % 12 + 1) (mn2 d (mlen (2000 + t / 12) (t % 12 + 1))) := by
    rw [hdd i (by omega)]
    unfold addM
    rw [if_neg (by omega)]
    simp only []
    rw [← ht, if_neg (by omega)]
  have ei1 : (dd (num y m d) (i + 1)).1 = num (2000 + (t + 1) / 12) ((t + 1) % 12 + 1) (mn2 d (mlen (2000 + (t + 1) / 12) ((t + 1) % 12 + 1))) := by
    rw [hdd (i + 1) (by omega)]
    unfold addM
    rw [if_neg (by omega)]
    simp only []
    have e : 12 * (y - 2000) + m - 1 + ((i + 1 : Nat) : Int) = t + 1 := by omega
    rw [e, if_neg (by omega)]
  have v1 := addM_valid hv (t := t) (by omega) (by omega)
  have v2 := addM_valid hv (t := t + 1) (by omega) (by omega)
  have st := month_step (t := t) (by omega) (by omega) (mn2 d (mlen (2000 + t / 12) (t % 12 + 1))) (mn2 d (mlen (2000 + (t + 1) / 12) ((t + 1) % 12 + 1)))
  have l1 := mlen_range (2000 + t / 12) (t % 12 + 1)
  have l2 := mlen_range (2000 + (t + 1) / 12) ((t + 1) % 12 + 1)
  have n1 := num_range v1
  have n2 := num_range v2
  rw [ei, ei1]
  have ym : 360 * (2000 + (t + 1) / 12 - (2000 + t / 12)) + 30 * ((t + 1) % 12 + 1 - (t % 12 + 1)) = 30 := by omega
  generalize mlen (2000 + t / 12) (t % 12 + 1) = L1 at st l1 n1 v1 ⊢
  generalize mlen (2000 + (t + 1) / 12) ((t + 1) % 12 + 1) = L2 at st l2 n2 v2 ⊢
  have df : 0 ≤ L1 + mn2 d L2 - mn2 d L1 ∧ L1 + mn2 d L2 - mn2 d L1 ≤ 34 := by
    unfold mn2
    split <;> split <;> omega
  by_cases c : b = 3
  · subst c
    refine ⟨pos (d360 (2000 + t / 12) (t % 12 + 1) (mn2 d L1) (2000 + (t + 1) / 12) ((t + 1) % 12 + 1) (mn2 d L2)), ?_, ?_, fun k hk => (span3 v1 v2 (by omega) hk).1⟩
    · unfold pos
      split <;> omega
    · have e1 : mn30 (mn2 d L2) - mn30 (mn2 d L1) ≤ 4 := by
        have f1 : mn2 d L2 ≤ mn2 d L1 + 4 := by
          unfold mn2
          split <;> split <;> omega
        have f2 : ∀ x y : Int, x ≤ y + 4 → mn30 x - mn30 y ≤ 4 := by
          intro x y h
          unfold mn30
          split <;> split <;> omega
        exact f2 _ _ f1
      unfold pos d360
      split <;> omega
  · refine ⟨num (2000 + (t + 1) / 12) ((t + 1) % 12 + 1) (mn2 d L2) - num (2000 + t / 12) (t % 12 + 1) (mn2 d L1), by omega, by omega, fun k hk => (span12 b0 b1 c n1 n2 (by omega) hk).1⟩

/-! a row's interest: no less of a greater balance, and small -/
theorem up_mono {q r q' r' c : Int} (h : q < q' ∨ (q = q' ∧ r ≤ r')) : up q r c ≤ up q' r' c := by
  rcases h with h | ⟨rfl, h⟩
  · have a := (up_le q r c).2
    have b := (up_le q' r' c).1
    omega
  · by_cases c1 : c < 2 * r
    · rw [up1 c1, up1 (by omega)]
      exact Int.le_refl _
    · by_cases c2 : 2 * r = c
      · by_cases c3 : c < 2 * r'
        · rw [up1 c3]
          exact (up_le q r c).2
        · have e : r = r' := by omega
          rw [e]
          exact Int.le_refl _
      · rw [up4 (by omega)]
        exact (up_le q r' c).1
theorem near_mono {a a' b c : Int} (h : a ≤ a') (b0 : 0 ≤ b) (c0 : 1 ≤ c) : near a b c ≤ near a' b c := by
  have hN : a * b ≤ a' * b := Int.mul_le_mul_of_nonneg_right h b0
  have hq : a * b / c ≤ a' * b / c := Int.ediv_le_ediv (by omega) hN
  unfold near
  refine up_mono ?_
  by_cases e : a * b / c = a' * b / c
  · refine Or.inr ⟨e, ?_⟩
    have d1 := Int.mul_ediv_add_emod (a * b) c
    have d2 := Int.mul_ediv_add_emod (a' * b) c
    rw [e] at d1
    omega
  · exact Or.inl (by omega)
theorem near_0 {b c : Int} (c0 : 1 ≤ c) : near 0 b c = 0 := by
  unfold near
  rw [Int.zero_mul, Int.zero_ediv, Int.zero_emod]
  exact up4 (by omega)
theorem near_small {a n c : Int} (a0 : 0 ≤ a) (n0 : 0 ≤ n) (n1 : n ≤ 17000000) (c0 : 360000000 ≤ c) : near a n c * 360 ≤ 17 * a + 360 ∧ 0 ≤ near a n c := by
  have hq : a * n / c * c ≤ a * n := Int.ediv_mul_le _ (by omega)
  have q0 : 0 ≤ a * n / c := Int.ediv_nonneg (Int.mul_nonneg a0 n0) (by omega)
  have h1 : a * n ≤ a * 17000000 := Int.mul_le_mul_of_nonneg_left n1 a0
  have h2 : a * n / c * 360000000 ≤ a * n / c * c := Int.mul_le_mul_of_nonneg_left c0 q0
  have u := up_le (a * n / c) (a * n % c) c
  unfold near
  omega

structure Good (p r b s : Int) (T : Nat) : Prop where
  p0 : 1 ≤ p
  p1 : p ≤ 10000000000
  r0 : 0 ≤ r
  r1 : r ≤ 500000
  b0 : 1 ≤ b
  b1 : b ≤ 3
  s0 : 0 ≤ s
  s1 : s ≤ 36524
  t0 : 1 ≤ T
  t1 : T ≤ 60
  hc : (dd s T).2 = 0

theorem iv_val {p r b s : Int} {T : Nat} (g : Good p r b s T) {i : Nat} (hi : i < T) : ∃ n c, 0 ≤ n ∧ n ≤ 17000000 ∧ 360000000 ≤ c ∧ ∀ l, 0 ≤ l → l ≤ 1000000000000 → iv r b s i l = near l n c := by
  obtain ⟨n, n0, n1, hs⟩ := due_step g.s0 g.s1 g.b0 g.b1 g.t1 g.hc hi
  have r0 := g.r0; have r1 := g.r1
  have m0 : 0 ≤ r * n := Int.mul_nonneg r0 n0
  have m1 : r * n ≤ 500000 * 34 := Int.mul_le_mul r1 n1 n0 (by omega)
  obtain ⟨Y, hY⟩ : ∃ Y : Int, Y = if b = 1 then 365 else 360 := ⟨_, rfl⟩
  have Yb : 360 ≤ Y ∧ Y ≤ 365 := by rw [hY]; split <;> omega
  refine ⟨r * n, 1000000 * Y, m0, by omega, by omega, fun l l0 l1 => ?_⟩
  obtain ⟨⟨c, hI⟩, _⟩ := iv_spec r b s i l
  have h1 := (hI 400 (by omega)).1
  rw [interest_val l0 l1 r0 (by omega) m0 (by omega) hs (by omega), ← hY] at h1
  have h2 := near_small (a := l) (n := r * n) (c := 1000000 * Y) l0 m0 (by omega) (by omega)
  unfold md at h1
  rw [if_pos (by omega)] at h1
  have h3 := Option.some.inj h1
  exact (congrArg Prod.fst h3).symm

def cap : Nat → Int
  | 0 => 10000000000
  | i + 1 => (377 * cap i + 360) / 360 + 1
theorem cap_small : ∀ i : Fin 61, cap i.val ≤ 1000000000000 := by decide +kernel
theorem lf_cap {p r b s q : Int} {T : Nat} (g : Good p r b s T) (q0 : 0 ≤ q) : ∀ i : Nat, i ≤ T → 0 ≤ lf p r b s q i ∧ lf p r b s q i ≤ cap i
  | 0, _ => by
    have := g.p0; have := g.p1
    rw [lf_0, cap]
    omega
  | i + 1, hi => by
    have h := lf_cap g q0 i (by omega)
    have hc := cap_small ⟨i, by have := g.t1; omega⟩
    simp only [] at hc
    obtain ⟨n, c, n0, n1, c0, hv⟩ := iv_val g (i := i) (by omega)
    rw [lf_succ, hv _ h.1 (by omega), cap]
    have h2 := near_small (a := lf p r b s q i) h.1 n0 n1 c0
    have h3 := (nx_range (q := q) (l := lf p r b s q i) (v := near (lf p r b s q i) n c) q0 h.1 h2.2).1
    omega
theorem lf_lt {p r b s q : Int} {T : Nat} (g : Good p r b s T) (q0 : 0 ≤ q) {i : Nat} (hi : i ≤ T) : 0 ≤ lf p r b s q i ∧ lf p r b s q i ≤ 1000000000000 := by
  have h := lf_cap g q0 i hi
  have hc := cap_small ⟨i, by have := g.t1; omega⟩
  simp only [] at hc
  omega
theorem nx_anti {q q' l l' v v' : Int} (hq : q ≤ q') (hl : l' ≤ l) (hv : v' ≤ v) : nx q' l' v' ≤ nx q l v := by
  unfold nx mn3
  split <;> split <;> omega
theorem lf_anti {p r b s q q' : Int} {T : Nat} (g : Good p r b s T) (q0 : 0 ≤ q) (hq : q ≤ q') : ∀ i : Nat, i ≤ T → lf p r b s q' i ≤ lf p r b s q i
  | 0, _ => by rw [lf_0, lf_0]; omega
  | i + 1, hi => by
    have h := lf_anti g q0 hq i (by omega)
    have a := lf_lt g q0 (i := i) (by omega)
    have a' := lf_lt g (q := q') (by omega) (i := i) (by omega)
    obtain ⟨n, c, n0, n1, c0, hv⟩ := iv_val g (i := i) (by omega)
    rw [lf_succ, lf_succ, hv _ a.1 a.2, hv _ a'.1 a'.2]
    exact nx_anti hq h (near_mono h n0 (by omega))
theorem lf_zero {p r b s q : Int} {T : Nat} (g : Good p r b s T) (hq : 20000000000 ≤ q) : ∀ i : Nat, i + 1 ≤ T → lf p r b s q (i + 1) = 0
  | 0, hi => by
    have a := lf_lt g (q := q) (by omega) (i := 0) (by omega)
    obtain ⟨n, c, n0, n1, c0, hv⟩ := iv_val g (i := 0) (by omega)
    rw [lf_succ, hv _ a.1 a.2]
    have h2 := near_small (a := lf p r b s q 0) a.1 n0 n1 c0
    have := g.p1
    have e : lf p r b s q 0 = p := lf_0 p r b s q
    rw [e] at h2 ⊢
    unfold nx mn3
    split <;> omega
  | i + 1, hi => by
    have h := lf_zero g hq i (by omega)
    obtain ⟨n, c, n0, n1, c0, hv⟩ := iv_val g (i := i + 1) (by omega)
    rw [lf_succ, h, hv 0 (by omega) (by omega), near_0 (by omega)]
    unfold nx mn3
    split <;> omega

theorem least (P : Nat → Prop) : ∀ n, P n → ∃ m, m ≤ n ∧ P m ∧ ∀ j, j < m → ¬ P j := by
  intro n
  induction n using Nat.strongRecOn with
  | _ n ih =>
    intro hn
    by_cases c : ∃ j, j < n ∧ P j
    · obtain ⟨j, hj, hP⟩ := c
      obtain ⟨m, h1, h2, h3⟩ := ih j hj hP
      exact ⟨m, by omega, h2, h3⟩
    · exact ⟨n, Nat.le_refl _, hn, fun j hj hP => c ⟨j, hj, hP⟩⟩
theorem least_pay {p r b s : Int} {T : Nat} (g : Good p r b s T) : ∃ X : Int, 0 ≤ X ∧ X ≤ 20000000000 ∧ ∀ q, 0 ≤ q → (lf p r b s q T = 0 ↔ X ≤ q) := by
  obtain ⟨j, hj⟩ : ∃ j, T = j + 1 := ⟨T - 1, by have := g.t0; omega⟩
  have top : lf p r b s ((20000000000 : Nat) : Int) T = 0 := by
    rw [hj]
    exact lf_zero g (by omega) j (by omega)
  obtain ⟨m, h1, h2, h3⟩ := least (fun n => lf p r b s (n : Int) T = 0) 20000000000 top
  refine ⟨m, by omega, by omega, fun q q0 => ⟨fun h => ?_, fun h => ?_⟩⟩
  · by_cases c : (m : Int) ≤ q
    · exact c
    · exfalso
      refine h3 q.toNat (by omega) ?_
      show lf p r b s ((q.toNat : Nat) : Int) T = 0
      rw [Int.toNat_of_nonneg q0]
      exact h
  · have a := lf_anti g (q := (m : Int)) (q' := q) (by omega) h T (Nat.le_refl _)
    have hb := (lf_lt g q0 (i := T) (Nat.le_refl _)).1
    have h2' : lf p r b s (m : Int) T = 0 := h2
    omega

/-! the halving -/
theorem half {lo hi : Int} (h0 : 0 ≤ lo) (h1 : lo < hi) (h2 : hi ≤ 40000000000) : wrap64 (Int.tdiv (wrap64 (lo + hi)) 2) = (lo + hi) / 2 ∧ wrap64 ((lo + hi) / 2 + 1) = (lo + hi) / 2 + 1 := by
  rw [wid (x := lo + hi) (by omega) (by omega), td (by omega)]
  exact ⟨wid (by omega) (by omega), wid (by omega) (by omega)⟩
theorem spec_search {p r b s X : Int} {T : Nat} (g : Good p r b s T) (hX : ∀ q, 0 ≤ q → (lf p r b s q T = 0 ↔ X ≤ q)) : ∀ (n k : Nat) (lo hi : Int), hi - lo < 2 ^ n → 0 ≤ lo → lo ≤ X → X ≤ hi → hi ≤ 40000000000 → 501 + n ≤ k →
    spec_l04Instalment.l0 k (Loan.due s (T + 1)) lo hi p r b s (T : Int) = some X
  | n, k, lo, hi, hn, h0, h1, h2, h3, hk => by
    obtain ⟨j, rfl⟩ : ∃ j, k = j + 1 := ⟨k - 1, by omega⟩
    rw [spec_l04Instalment.l0]
    by_cases c : lo < hi
    · refine yes c ?_
      obtain ⟨e1, e2⟩ := half h0 c h3
      have gp := g.p0; have gp1 := g.p1
      rw [e1, e2]
      refine bnd (spec_left p r b s ((lo + hi) / 2) (by omega) gp1 (by omega) (by omega) T g.t1 (k := j) (by omega)) ?_
      match n, hn with
      | 0, hn =>
        have : (2 : Int) ^ 0 = 1 := rfl
        omega
      | n + 1, hn =>
        have e3 : (2 : Int) ^ (n + 1) = 2 ^ n * 2 := Int.pow_succ _ _
        by_cases z : lf p r b s ((lo + hi) / 2) T = 0
        · refine yes z ?_
          have := (hX _ (by omega)).1 z
          exact spec_search g hX n j lo ((lo + hi) / 2) (by omega) h0 h1 this (by omega) (by omega)
        · refine no z ?_
          have : ¬ X ≤ (lo + hi) / 2 := fun h => z ((hX _ (by omega)).2 h)
          exact spec_search g hX n j ((lo + hi) / 2 + 1) hi (by omega) (by omega) (by omega) h2 h3 (by omega)
    · refine no c ?_
      rw [show lo = X by omega]
theorem impl_search {p r b s X : Int} {T : Nat} (g : Good p r b s T) (hX : ∀ q, 0 ≤ q → (lf p r b s q T = 0 ↔ X ≤ q)) : ∀ (n k : Nat) (lo hi : Int), hi - lo < 2 ^ n → 0 ≤ lo → lo ≤ X → X ≤ hi → hi ≤ 40000000000 → 501 + n ≤ k →
    impl_Loan_instalment.l0 k lo hi p r b s (T : Int) = some X
  | n, k, lo, hi, hn, h0, h1, h2, h3, hk => by
    obtain ⟨j, rfl⟩ : ∃ j, k = j + 1 := ⟨k - 1, by omega⟩
    rw [impl_Loan_instalment.l0]
    by_cases c : lo < hi
    · refine yes c ?_
      obtain ⟨e1, e2⟩ := half h0 c h3
      have gp := g.p0; have gp1 := g.p1
      rw [e1, e2]
      refine bnd (impl_left p r b s ((lo + hi) / 2) (by omega) gp1 (by omega) (by omega) g.s0 g.s1 T g.t0 g.t1 (k := j) (by omega)) ?_
      match n, hn with
      | 0, hn =>
        have : (2 : Int) ^ 0 = 1 := rfl
        omega
      | n + 1, hn =>
        have e3 : (2 : Int) ^ (n + 1) = 2 ^ n * 2 := Int.pow_succ _ _
        by_cases z : lf p r b s ((lo + hi) / 2) T = 0
        · refine yes z ?_
          have := (hX _ (by omega)).1 z
          exact impl_search g hX n j lo ((lo + hi) / 2) (by omega) h0 h1 this (by omega) (by omega)
        · refine no z ?_
          have : ¬ X ≤ (lo + hi) / 2 := fun h => z ((hX _ (by omega)).2 h)
          exact impl_search g hX n j ((lo + hi) / 2 + 1) hi (by omega) (by omega) (by omega) h2 h3 (by omega)
    · refine no c ?_
      rw [show lo = X by omega]
theorem instalment_same {p r b s : Int} {T : Nat} (g : Good p r b s T) : ∃ X : Int, 0 ≤ X ∧ X ≤ 20000000000 ∧ ∀ k, 600 ≤ k →
    spec_l04Instalment.f k p r b s (T : Int) (Loan.due s (T + 1)) = some X ∧ impl_Loan_instalment.f k p r b s (T : Int) = some X := by
  obtain ⟨X, X0, X1, hX⟩ := least_pay g
  refine ⟨X, X0, X1, fun k hk => ?_⟩
  constructor
  · unfold spec_l04Instalment.f
    exact spec_search g hX 36 k 0 20000000000 (by decide) (by omega) X0 X1 (by omega) (by omega)
  · unfold impl_Loan_instalment.f
    exact impl_search g hX 36 k 0 40000000000 (by decide) (by omega) X0 (by omega) (by omega) (by omega)
end Go.Proofs.Ytipkfflcdomheaa.Inst
