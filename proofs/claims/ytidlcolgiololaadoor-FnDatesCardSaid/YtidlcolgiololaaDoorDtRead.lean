/- Plain laws: a text read as a date: reference and program answer the same at every text; no condition beyond each lemma's own. -/
import Derived.Test.YtidlcolgiololaaDoorDtText
import Derived.Test.YtidlcolgiololaaDoorS0
import Derived.Test.YtidlcolgiololaaDoorS3
import Derived.Test.YtidlcolgiololaaDoorS6
import Derived.Test.YtidlcolgiololaaDoorS7
namespace Go.Proofs.YtidlcolgiololaaDoor.Dt
open Go.RowKit Go.Proofs.YtidlcolgiololaaDoor.S Go.Proofs.YtidlcolgiololaaDoorW.PrintWords Go.Proofs.YtidlcolgiololaaDoor.Cal Go.Proofs.YtidlcolgiololaaDoor.Days
set_option linter.unusedVariables false
set_option linter.unusedSimpArgs false

/-! ### All the digits of a text, one number -/
theorem plain_all (s : ByteArray) (hs : s.size ≤ 17) (n : Nat) : ∀ (k : Nat) (x c i : Int), 0 ≤ i → i + n = s.size → 0 ≤ c → c ≤ i → 3 * n < k → ∃ r : Int × Bool, ∀ k', k ≤ k' → spec_l02Plain.l0 k' s x c i = some r := by
  induction n with
  | zero =>
    intro k x c i h0 h1 h2 h3 hk
    refine ⟨(x, true), fun k' hk' => ?_⟩
    obtain ⟨j, rfl⟩ : ∃ j, k' = j + 1 := ⟨k' - 1, by omega⟩
    simp only [spec_l02Plain.l0]
    exact no (by omega) rfl
  | succ n ih =>
    intro k x c i h0 h1 h2 h3 hk
    have w1 : wrap64 (i + 1) = i + 1 := wid (by omega) (by omega)
    have w2 : wrap64 (c + 1) = c + 1 := wid (by omega) (by omega)
    obtain ⟨r1, e1⟩ := ih (k - 3) (wrap64 ((wrap64 (10 * x)) + (((bt s i) - 48) % 256))) (c + 1) (i + 1) (by omega) (by omega) (by omega) (by omega) (by omega)
    obtain ⟨r2, e2⟩ := ih (k - 3) x c (i + 1) (by omega) (by omega) (by omega) (by omega) (by omega)
    by_cases g : 48 ≤ bt s i ∧ bt s i ≤ 57
    · refine ⟨r1, fun k' hk' => ?_⟩
      obtain ⟨j, rfl⟩ : ∃ j, k' = j + 3 := ⟨k' - 3, by omega⟩
      simp only [spec_l02Plain.l0, spec_l02Plain.j1, spec_l02Plain.j2]
      refine yes (by omega) (yes h0 (yes g.1 (yes (decide_eq_true g.2) (yes h0 (yes (by omega) ?_)))))
      rw [w2]
      refine no (by omega) ?_
      rw [w1]
      exact e1 j (by omega)
    · refine ⟨r2, fun k' hk' => ?_⟩
      obtain ⟨j, rfl⟩ : ∃ j, k' = j + 3 := ⟨k' - 3, by omega⟩
      simp only [spec_l02Plain.l0, spec_l02Plain.j1, spec_l02Plain.j2]
      refine yes (by omega) (yes h0 ?_)
      by_cases g1 : bt s i ≥ 48
      · refine yes g1 (no (by simp; omega) (no (by omega) ?_))
        rw [w1]
        exact e2 j (by omega)
      · refine no g1 (no (by simp) (no (by omega) ?_))
        rw [w1]
        exact e2 j (by omega)
theorem step_dig {s : ByteArray} {x c i b : Int} {k : Nat} {r : Int × Bool} (hi : 0 ≤ i) (hs : i < s.size) (hn : s.size ≤ 17) (hb : bt s i = 48 + b) (b0 : 0 ≤ b) (b1 : b ≤ 9) (x0 : 0 ≤ x) (x1 : x ≤ 1000000000) (c0 : 0 ≤ c) (c1 : c ≤ i)
    (h : spec_l02Plain.l0 k s (10 * x + b) (c + 1) (i + 1) = some r) : spec_l02Plain.l0 (k + 3) s x c i = some r := by
  simp only [spec_l02Plain.l0, spec_l02Plain.j1, spec_l02Plain.j2]
  refine yes hs (yes hi (yes (by omega) (yes (decide_eq_true (by omega)) (yes hi (yes hs ?_)))))
  rw [wid (x := c + 1) (by omega) (by omega), wid (x := i + 1) (by omega) (by omega), hb, show (48 + b - 48) % 256 = b by omega, wid (x := 10 * x) (by omega) (by omega), wid (by omega) (by omega)]
  exact no (by omega) h
theorem step_dash {s : ByteArray} {x c i : Int} {k : Nat} {r : Int × Bool} (hi : 0 ≤ i) (hs : i < s.size) (hn : s.size ≤ 17) (hb : bt s i = 45) (c0 : 0 ≤ c) (c1 : c ≤ i)
    (h : spec_l02Plain.l0 k s x c (i + 1) = some r) : spec_l02Plain.l0 (k + 3) s x c i = some r := by
  simp only [spec_l02Plain.l0, spec_l02Plain.j1, spec_l02Plain.j2]
  refine yes hs (yes hi (no (by omega) (no (by simp) ?_)))
  rw [wid (x := i + 1) (by omega) (by omega)]
  exact no (by omega) h
theorem dig_val (n : Int) : ((dig n).toNat : Int) = 48 + n % 10 := by
  unfold dig
  have h : (n % 10).toNat < 10 := by omega
  have h2 : (UInt8.ofNat (48 + (n % 10).toNat)).toNat = 48 + (n % 10).toNat := by
    simp only [UInt8.toNat_ofNat']
    omega
  rw [h2]
  omega
theorem bt_lit {b0 b1 b2 b3 b4 b5 b6 b7 b8 b9 : UInt8} :
    bt ⟨#[b0, b1, b2, b3, b4, b5, b6, b7, b8, b9]⟩ 0 = b0.toNat ∧ bt ⟨#[b0, b1, b2, b3, b4, b5, b6, b7, b8, b9]⟩ 1 = b1.toNat ∧ bt ⟨#[b0, b1, b2, b3, b4, b5, b6, b7, b8, b9]⟩ 2 = b2.toNat ∧ bt ⟨#[b0, b1, b2, b3, b4, b5, b6, b7, b8, b9]⟩ 3 = b3.toNat ∧ bt ⟨#[b0, b1, b2, b3, b4, b5, b6, b7, b8, b9]⟩ 4 = b4.toNat ∧ bt ⟨#[b0, b1, b2, b3, b4, b5, b6, b7, b8, b9]⟩ 5 = b5.toNat ∧ bt ⟨#[b0, b1, b2, b3, b4, b5, b6, b7, b8, b9]⟩ 6 = b6.toNat ∧ bt ⟨#[b0, b1, b2, b3, b4, b5, b6, b7, b8, b9]⟩ 7 = b7.toNat ∧ bt ⟨#[b0, b1, b2, b3, b4, b5, b6, b7, b8, b9]⟩ 8 = b8.toNat ∧ bt ⟨#[b0, b1, b2, b3, b4, b5, b6, b7, b8, b9]⟩ 9 = b9.toNat :=
  ⟨rfl, rfl, rfl, rfl, rfl, rfl, rfl, rfl, rfl, rfl⟩
theorem plain_dt {y m d : Int} (h : Valid y m d) {k : Nat} (hk : 40 ≤ k) : spec_l02Plain.f k (dt y m d) = some (10000 * y + 100 * m + d, true) := by
  have y0 := h.y0; have y1 := h.y1; have m0 := h.m0; have m1 := h.m1; have d0 := h.d0; have d1 := d_le h
  obtain ⟨j, rfl⟩ : ∃ j, k = j + 31 := ⟨k - 31, by omega⟩
  have hz := dt_size y m d
  obtain ⟨q0, q1, q2, q3, q4, q5, q6, q7, q8, q9⟩ := @bt_lit 50 48 (dig (y / 10)) (dig y) 45 (dig (m / 10)) (dig m) 45 (dig (d / 10)) (dig d)
  rw [← dt_lit y m d] at q0 q1 q2 q3 q4 q5 q6 q7 q8 q9
  rw [dig_val] at q2 q3 q5 q6 q8 q9
  unfold spec_l02Plain.f
  refine step_dig (b := 2) (by omega) (by omega) (by omega) (by rw [q0]; rfl) (by omega) (by omega) (by omega) (by omega) (by omega) (by omega) ?_
  refine step_dig (b := 0) (by omega) (by omega) (by omega) (by rw [show (0 : Int) + 1 = 1 from rfl, q1]; rfl) (by omega) (by omega) (by omega) (by omega) (by omega) (by omega) ?_
  refine step_dig (b := y / 10 % 10) (by omega) (by omega) (by omega) (by rw [show (0 : Int) + 1 + 1 = 2 from rfl, q2]) (by omega) (by omega) (by omega) (by omega) (by omega) (by omega) ?_
  refine step_dig (b := y % 10) (by omega) (by omega) (by omega) (by rw [show (0 : Int) + 1 + 1 + 1 = 3 from rfl, q3]) (by omega) (by omega) (by omega) (by omega) (by omega) (by omega) ?_
  refine step_dash (by omega) (by omega) (by omega) (by rw [show (0 : Int) + 1 + 1 + 1 + 1 = 4 from rfl, q4]; rfl) (by omega) (by omega) ?_
  refine step_dig (b := m / 10 % 10) (by omega) (by omega) (by omega) (by rw [show (0 : Int) + 1 + 1 + 1 + 1 + 1 = 5 from rfl, q5]) (by omega) (by omega) (by omega) (by omega) (by omega) (by omega) ?_
  refine step_dig (b := m % 10) (by omega) (by omega) (by omega) (by rw [show (0 : Int) + 1 + 1 + 1 + 1 + 1 + 1 = 6 from rfl, q6]) (by omega) (by omega) (by omega) (by omega) (by omega) (by omega) ?_
  refine step_dash (by omega) (by omega) (by omega) (by rw [show (0 : Int) + 1 + 1 + 1 + 1 + 1 + 1 + 1 = 7 from rfl, q7]; rfl) (by omega) (by omega) ?_
  refine step_dig (b := d / 10 % 10) (by omega) (by omega) (by omega) (by rw [show (0 : Int) + 1 + 1 + 1 + 1 + 1 + 1 + 1 + 1 = 8 from rfl, q8]) (by omega) (by omega) (by omega) (by omega) (by omega) (by omega) ?_
  refine step_dig (b := d % 10) (by omega) (by omega) (by omega) (by rw [show (0 : Int) + 1 + 1 + 1 + 1 + 1 + 1 + 1 + 1 + 1 = 9 from rfl, q9]) (by omega) (by omega) (by omega) (by omega) (by omega) (by omega) ?_
  simp only [spec_l02Plain.l0]
  refine no (by omega) ?_
  congr 2
  omega
/-! ### The two readers -/
/-- The answer of a reader. -/
def Reads (s : ByteArray) (r : Int × Int) : Prop := (20000 < s.size ∧ r = (0, 2)) ∨ (s.size ≤ 20000 ∧ (∃ y m d, Valid y m d ∧ s = dt y m d ∧ r = (num y m d, 0))) ∨ (s.size ≤ 20000 ∧ (¬ ∃ y m d, Valid y m d ∧ s = dt y m d) ∧ r = (0, 3))
theorem toList_eq {a b : ByteArray} : a.toList = b.toList ↔ a = b := by
  constructor
  · intro h
    apply ba_ext
    rw [← Lib.toList_data, ← Lib.toList_data]
    exact h
  · intro h; rw [h]
theorem spec_read (s : ByteArray) (hs : s.size ≤ 140737488355328) : ∃ r, Reads s r ∧ ∀ k, 300 ≤ k → spec_DateRead.f k s = some r := by
  by_cases big : (s.size : Int) > 20000
  · refine ⟨_, .inl ⟨by omega, rfl⟩, fun k hk => ?_⟩
    unfold spec_DateRead.f
    exact yes big rfl
  by_cases ten : (s.size : Int) = 10
  case neg =>
    refine ⟨(0, 3), .inr (.inr ⟨by omega, ?_, rfl⟩), fun k hk => ?_⟩
    · rintro ⟨y, m, d, _, e⟩
      rw [e, dt_size] at ten
      exact ten rfl
    unfold spec_DateRead.f
    exact no big (no ten rfl)
  by_cases c : ∃ y m d, Valid y m d ∧ s = dt y m d
  · obtain ⟨y, m, d, v, e⟩ := c
    refine ⟨(num y m d, 0), .inr (.inl ⟨by omega, y, m, d, v, e, rfl⟩), fun k hk => ?_⟩
    have y0 := v.y0; have y1 := v.y1; have m0 := v.m0; have m1 := v.m1; have d0 := v.d0; have d1 := d_le v
    unfold spec_DateRead.f
    refine no big (yes ten ?_)
    subst e
    refine bnd (plain_dt v (by omega)) ?_
    have e1 : wrap64 (Int.tdiv (10000 * y + 100 * m + d) 10000) = y := by rw [td (by omega), wid (by omega) (by omega)]; omega
    have e2 : Int.tmod (wrap64 (Int.tdiv (10000 * y + 100 * m + d) 100)) 100 = m := by rw [td (by omega), wid (by omega) (by omega), tm (by omega)]; omega
    have e3 : Int.tmod (10000 * y + 100 * m + d) 100 = d := by rw [tm (by omega)]; omega
    simp only [e1, e2, e3]
    refine bnd (spec_dayOf v (by omega)) ?_
    refine yes rfl ?_
    refine bnd (spec_text v (by omega)) ?_
    exact yes rfl rfl
  · refine ⟨(0, 3), .inr (.inr ⟨by omega, c, rfl⟩), fun k hk => ?_⟩
    obtain ⟨⟨p, b⟩, hp⟩ := plain_all s (by omega) s.size 100 0 0 0 (by omega) (by omega) (by omega) (by omega) (by omega)
    unfold spec_DateRead.f
    refine no big (yes ten ?_)
    refine bnd (show spec_l02Plain.f k s = some (p, b) from hp k (by omega)) ?_
    simp only
    generalize wrap64 (Int.tdiv p 10000) = y
    generalize Int.tmod (wrap64 (Int.tdiv p 100)) 100 = m
    generalize Int.tmod p 100 = d
    by_cases v : Valid y m d
    · refine bnd (spec_dayOf v (by omega)) ?_
      refine yes rfl ?_
      refine bnd (spec_text v (by omega)) ?_
      refine no (fun e => c ⟨y, m, d, v, (toList_eq.mp e).symm⟩) rfl
    · refine bnd (spec_dayOf_no v (by omega)) ?_
      exact no (by simp) rfl
theorem num_dt (y m d : Int) : impl_DateRead.num (dt y m d) 0 4 = impl_readPoint.rp (fourL y) ∧ impl_DateRead.num (dt y m d) 5 7 = impl_readPoint.rp (twoL m) ∧ impl_DateRead.num (dt y m d) 8 10 = impl_readPoint.rp (twoL d) := by
  unfold impl_DateRead.num
  rw [dt_lit]
  simp only [ByteArray.data_extract]
  exact ⟨rfl, rfl, rfl⟩
theorem impl_read (s : ByteArray) (hs : s.size ≤ 140737488355328) : ∃ r, Reads s r ∧ ∀ k, 300 ≤ k → impl_DateRead.f k s = some r := by
  by_cases big : (s.size : Int) > 20000
  · refine ⟨_, .inl ⟨by omega, rfl⟩, fun k hk => ?_⟩
    unfold impl_DateRead.f
    exact yes big rfl
  by_cases c : ∃ y m d, Valid y m d ∧ s = dt y m d
  · obtain ⟨y, m, d, v, e⟩ := c
    refine ⟨(num y m d, 0), .inr (.inl ⟨by omega, y, m, d, v, e, rfl⟩), fun k hk => ?_⟩
    obtain ⟨a1, a2, a3, a4⟩ := m_le v
    unfold impl_DateRead.f
    refine no big ?_
    subst e
    obtain ⟨n1, n2, n3⟩ := num_dt y m d
    rw [read_four v.y0 v.y1] at n1
    rw [read_two a1 a2] at n2
    rw [read_two a3 a4] at n3
    rw [if_pos (dt_size y m d), n1, n2, n3]
    refine bnd (impl_dayOf v (by omega)) ?_
    refine yes rfl ?_
    refine bnd (impl_text v (by omega)) ?_
    exact yes rfl rfl
  · refine ⟨(0, 3), .inr (.inr ⟨by omega, c, rfl⟩), fun k hk => ?_⟩
    unfold impl_DateRead.f
    refine no big ?_
    have key : ∀ y m d : Int, ((impl_DayOf.f k y m d).bind fun bt => if bt.2 = 0 then (impl_DateText.f k bt.1).bind fun t => if t.toList = s.toList then some (bt.1, bt.2) else some (0, 3) else some (0, 3)) = some ((0, 3) : Int × Int) := by
      intro y m d
      by_cases v : Valid y m d
      · refine bnd (impl_dayOf v (by omega)) ?_
        refine yes rfl ?_
        refine bnd (impl_text v (by omega)) ?_
        exact no (fun e => c ⟨y, m, d, v, (toList_eq.mp e).symm⟩) rfl
      · refine bnd (impl_dayOf_no v (by omega)) ?_
        exact no (by simp) rfl
    by_cases ten : s.size = 10
    · rw [if_pos ten]; exact key _ _ _
    · rw [if_neg ten]; exact key _ _ _
theorem dt_inj {y m d y' m' d' : Int} (h : Valid y m d) (h' : Valid y' m' d') (e : dt y m d = dt y' m' d') : num y m d = num y' m' d' := by
  have p := plain_dt h (k := 40) (by omega)
  rw [e, plain_dt h' (k := 40) (by omega)] at p
  have y0 := h.y0; have y1 := h.y1; have m0 := h.m0; have m1 := h.m1; have d0 := h.d0; have d1 := d_le h
  have y0' := h'.y0; have y1' := h'.y1; have m0' := h'.m0; have m1' := h'.m1; have d0' := h'.d0; have d1' := d_le h'
  simp only [Option.some.injEq, Prod.mk.injEq, and_true] at p
  have a : y = y' := by omega
  have b : m = m' := by omega
  have c : d = d' := by omega
  rw [a, b, c]
theorem reads_one {s : ByteArray} {r r' : Int × Int} (h : Reads s r) (h' : Reads s r') : r = r' := by
  rcases h with ⟨a, rfl⟩ | ⟨a, y, m, d, v, e, rfl⟩ | ⟨a, n, rfl⟩ <;> rcases h' with ⟨a', rfl⟩ | ⟨a', y', m', d', v', e', rfl⟩ | ⟨a', n', rfl⟩
  · rfl
  · omega
  · omega
  · omega
  · rw [dt_inj v v' (e.symm.trans e')]
  · exact absurd ⟨y, m, d, v, e⟩ n'
  · omega
  · exact absurd ⟨y', m', d', v', e'⟩ n
  · rfl
theorem read_same (s : ByteArray) (hs : s.size ≤ 140737488355328) : ∃ r, Reads s r ∧ ∀ k, 300 ≤ k → spec_DateRead.f k s = some r ∧ impl_DateRead.f k s = some r := by
  obtain ⟨r, hr, e⟩ := spec_read s hs
  obtain ⟨r', hr', e'⟩ := impl_read s hs
  obtain rfl := reads_one hr hr'
  exact ⟨r, hr, fun k hk => ⟨e k hk, e' k hk⟩⟩
end Go.Proofs.YtidlcolgiololaaDoor.Dt
