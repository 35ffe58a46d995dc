/- Proved: the program's LibAnnuity answers as the reference's does, at every loan, and its events are its own; no condition. (Event is S24, Row S158: the seat r6.D.) -/
import Derived.Test.YtidlcolgiololaaDoorS0
import Derived.Laws.BitsLemmas
import Derived.Lib.BitFns
import Derived.Lib.ItoaNum
import Derived.Test.YtidlcolgiololaaDoorS10
import Derived.Test.YtidlcolgiololaaDoorS9
import Derived.Test.YtidlcolgiololaaDoorS1
import Derived.Test.YtidlcolgiololaaDoorS2
import Derived.Test.YtidlcolgiololaaDoorS7
import Derived.Test.YtidlcolgiololaaDoorS8
import Derived.Test.YtidlcolgiololaaDoorS11
import Derived.Test.YtidlcolgiololaaDoorS3
import Derived.Test.YtidlcolgiololaaDoorS4
import Derived.Test.YtidlcolgiololaaDoorS12
import Derived.Test.YtidlcolgiololaaDoorS5
import Derived.Test.YtidlcolgiololaaDoorStmFnExactLibAnnuity
import Derived.Test.YtidlcolgiololaaDoorS13
import Derived.Test.YtidlcolgiololaaDoorS14
import Derived.Test.YtidlcolgiololaaDoorS15
import Derived.Test.YtidlcolgiololaaDoorS16
import Derived.Test.YtidlcolgiololaaDoorS17
import Derived.Test.YtidlcolgiololaaDoorS6
namespace Go.Proofs.YtidlcolgiololaaDoor.Cal
open Go.RowKit Go.Proofs.YtidlcolgiololaaDoorW.PrintWords
set_option linter.unusedVariables false
theorem bnd {α β : Type} {o : Option α} {a : α} {f : α → Option β} {r : Option β} (h : o = some a) (k : f a = r) : o.bind f = r := by
  rw [h]
  exact k
theorem yes {α : Type} {c : Prop} [Decidable c] {x y r : α} (h : c) (k : x = r) : (if c then x else y) = r := by
  rw [if_pos h]
  exact k
theorem no {α : Type} {c : Prop} [Decidable c] {x y r : α} (h : ¬ c) (k : y = r) : (if c then x else y) = r := by
  rw [if_neg h]
  exact k
theorem wid {x : Int} (h : -9223372036854775808 ≤ x) (h' : x ≤ 9223372036854775807) : wrap64 x = x := by
  unfold wrap64
  omega
theorem td {a b : Int} (h : 0 ≤ a) : Int.tdiv a b = a / b := Int.tdiv_eq_ediv_of_nonneg h
theorem tm {a b : Int} (h : 0 ≤ a) : Int.tmod a b = a % b := Int.tmod_eq_emod_of_nonneg h
def lp (y : Int) : Int := if y % 4 = 0 then 1 else 0
theorem lp01 (y : Int) : 0 ≤ lp y ∧ lp y ≤ 1 := by
  unfold lp
  split <;> omega
def mlen (y m : Int) : Int :=
  if m = 2 then 28 + lp y else if m = 4 then 30 else if m = 6 then 30 else if m = 9 then 30 else if m = 11 then 30 else 31
def cum (y m : Int) : Int :=
  if m = 1 then 0 else if m = 2 then 31 else if m = 3 then 59 + lp y else if m = 4 then 90 + lp y else if m = 5 then 120 + lp y else if m = 6 then 151 + lp y
  else if m = 7 then 181 + lp y else if m = 8 then 212 + lp y else if m = 9 then 243 + lp y else if m = 10 then 273 + lp y else if m = 11 then 304 + lp y
  else if m = 12 then 334 + lp y else 365 + lp y
def hd (y : Int) : Int := 365 * (y - 2000) + (y - 2000 + 3) / 4
theorem months {m : Int} (h0 : 1 ≤ m) (h1 : m ≤ 12) : m = 1 ∨ m = 2 ∨ m = 3 ∨ m = 4 ∨ m = 5 ∨ m = 6 ∨ m = 7 ∨ m = 8 ∨ m = 9 ∨ m = 10 ∨ m = 11 ∨ m = 12 := by omega
theorem cum_succ (y : Int) {m : Int} (h0 : 1 ≤ m) (h1 : m ≤ 12) : cum y (m + 1) = cum y m + mlen y m := by
  rcases months h0 h1 with rfl | rfl | rfl | rfl | rfl | rfl | rfl | rfl | rfl | rfl | rfl | rfl <;> simp [cum, mlen] <;> omega
theorem rng_ite {c : Prop} [Decidable c] {a b lo hi : Int} (h : lo ≤ a ∧ a ≤ hi) (k : lo ≤ b ∧ b ≤ hi) : lo ≤ (if c then a else b) ∧ (if c then a else b) ≤ hi := by
  split
  · exact h
  · exact k
theorem mlen_range (y m : Int) : 28 ≤ mlen y m ∧ mlen y m ≤ 31 := by
  have := lp01 y
  unfold mlen
  repeat' (refine rng_ite ?_ ?_)
  all_goals omega
theorem cum_range (y m : Int) : 0 ≤ cum y m ∧ cum y m ≤ 366 := by
  have := lp01 y
  unfold cum
  repeat' (refine rng_ite ?_ ?_)
  all_goals omega
theorem cum_13 (y : Int) : cum y 13 = 365 + lp y := by simp [cum]
theorem cum_1 (y : Int) : cum y 1 = 0 := by simp [cum]
theorem cum_mono (y : Int) {a b : Int} (h0 : 1 ≤ a) (hab : a ≤ b) (h1 : b ≤ 13) : cum y a ≤ cum y b := by
  obtain ⟨n, hn⟩ : ∃ n : Nat, b = a + n := ⟨(b - a).toNat, by omega⟩
  subst hn
  induction n with
  | zero => simp
  | succ n ih =>
    have e := cum_succ y (m := a + n) (by omega) (by omega)
    have r := mlen_range y (a + n)
    have i := ih (by omega) (by omega)
    have e2 : a + ((n + 1 : Nat) : Int) = a + n + 1 := by omega
    rw [e2, e]
    omega
theorem hd_succ {y : Int} (h : 2000 ≤ y) : hd (y + 1) = hd y + 365 + lp y := by
  unfold hd lp
  split <;> omega
theorem hd_mono {a b : Int} (h0 : 2000 ≤ a) (hab : a ≤ b) : hd a ≤ hd b := by
  unfold hd
  omega
theorem hd_range {y : Int} (h0 : 2000 ≤ y) (h1 : y ≤ 2100) : 0 ≤ hd y ∧ hd y ≤ 36525 := by
  unfold hd
  omega
structure Valid (y m d : Int) : Prop where
  y0 : 2000 ≤ y
  y1 : y ≤ 2099
  m0 : 1 ≤ m
  m1 : m ≤ 12
  d0 : 1 ≤ d
  d1 : d ≤ mlen y m
def num (y m d : Int) : Int := hd y + cum y m + d - 1
theorem num_bounds {y m d : Int} (h : Valid y m d) : hd y ≤ num y m d ∧ num y m d < hd (y + 1) := by
  have := cum_succ y h.m0 h.m1
  have := cum_mono y (a := m + 1) (b := 13) (by have := h.m0; omega) (by have := h.m1; omega) (by omega)
  have := cum_13 y
  have := hd_succ h.y0
  have := cum_range y m
  have := h.d0
  have := h.d1
  unfold num
  omega
theorem num_range {y m d : Int} (h : Valid y m d) : 0 ≤ num y m d ∧ num y m d ≤ 36524 := by
  have a := num_bounds h
  have b := hd_range (y := y) h.y0 (by have := h.y1; omega)
  have c := hd_mono (a := y + 1) (b := 2100) (by have := h.y0; omega) (by have := h.y1; omega)
  have d : hd 2100 = 36525 := by decide
  omega
theorem d_le {y m d : Int} (h : Valid y m d) : d ≤ 31 := by
  have := mlen_range y m
  have := h.d1
  omega
theorem month_of (y r : Int) (h0 : 0 ≤ r) (h1 : r < 365 + lp y) : ∃ m d, 1 ≤ m ∧ m ≤ 12 ∧ 1 ≤ d ∧ d ≤ mlen y m ∧ r = cum y m + d - 1 := by
  have key : ∀ n : Nat, n ≤ 12 → r < cum y (n + 1) → ∃ m d, 1 ≤ m ∧ m ≤ 12 ∧ 1 ≤ d ∧ d ≤ mlen y m ∧ r = cum y m + d - 1 := by
    intro n
    induction n with
    | zero =>
      intro _ h
      rw [show ((0 : Nat) : Int) + 1 = 1 from rfl, cum_1] at h
      omega
    | succ n ih =>
      intro hn h
      by_cases c : r < cum y (n + 1)
      · exact ih (by omega) c
      · have e := cum_succ y (m := (n : Int) + 1) (by omega) (by omega)
        refine ⟨(n : Int) + 1, r - cum y (n + 1) + 1, by omega, by omega, by omega, ?_, by omega⟩
        have e2 : ((n + 1 : Nat) : Int) + 1 = (n : Int) + 1 + 1 := by omega
        rw [e2, e] at h
        omega
  have h12 := key 12 (by omega)
  rw [show ((12 : Nat) : Int) + 1 = 13 from rfl, cum_13] at h12
  exact h12 h1
theorem date_of (day : Int) (h0 : 0 ≤ day) (h1 : day ≤ 36524) : ∃ y m d, Valid y m d ∧ day = num y m d := by
  have hy : ∃ y, 2000 ≤ y ∧ y ≤ 2099 ∧ hd y ≤ day ∧ day < hd (y + 1) := by
    refine ⟨2000 + 4 * (day / 1461) + (if day % 1461 < 366 then 0 else 1 + (day % 1461 - 366) / 365), ?_⟩
    unfold hd
    split <;> omega
  obtain ⟨y, hy0, hy1, a, b⟩ := hy
  rw [hd_succ hy0] at b
  obtain ⟨m, d, m0, m1, d0, d1, e⟩ := month_of y (day - hd y) (by omega) (by omega)
  exact ⟨y, m, d, ⟨hy0, hy1, m0, m1, d0, d1⟩, by unfold num; omega⟩
end Go.Proofs.YtidlcolgiololaaDoor.Cal
namespace Go.Proofs.YtidlcolgiololaaDoor.DiskBase
open Go.RowKit Go.Proofs.YtidlcolgiololaaDoor.S Go.Proofs.YtidlcolgiololaaDoorW.PrintWords Go.Proofs.YtidlcolgiololaaDoor.Cal
set_option linter.unusedVariables false
set_option linter.unusedSimpArgs false
def tot : List ByteArray → Nat
  | [] => 0
  | x :: r => x.size + tot r
theorem nxt {α : Type} (pre : List α) (x : α) (h : pre.length ≤ 100000000) : wrap64 ((pre.length : Int) + 1) = ((pre ++ [x]).length : Int) := by
  rw [wid (by omega) (by omega), List.length_append]
  rfl
theorem snoc {α : Type} (pre tl : List α) (x : α) : pre ++ x :: tl = (pre ++ [x]) ++ tl := by rw [List.append_assoc]; rfl
theorem dataList_inj {a b : ByteArray} (h : a.data.toList = b.data.toList) : a = b := by
  obtain ⟨⟨a⟩⟩ := a
  obtain ⟨⟨b⟩⟩ := b
  simp at h
  rw [h]
theorem toList_data (s : ByteArray) : s.toList = s.data.toList := Lib.toList_data s
end Go.Proofs.YtidlcolgiololaaDoor.DiskBase
namespace Go.Proofs.YtidlcolgiololaaDoor.Num
open Go.RowKit Go.Proofs.YtidlcolgiololaaDoor.S Go.Proofs.YtidlcolgiololaaDoorW.PrintWords Go.Proofs.YtidlcolgiololaaDoorW.PrintMore Go.Proofs.YtidlcolgiololaaDoor.Cal
set_option linter.unusedVariables false
set_option linter.unusedSimpArgs false
theorem u64_range (x : Int) : 0 ≤ IntKind.u64.wrap x ∧ IntKind.u64.wrap x < 18446744073709551616 := by
  have e : IntKind.u64.wrap x = x % 18446744073709551616 := by simp [IntKind.wrap, IntKind.signed, IntKind.bits]
  omega
theorem u64_mod (x : Int) : IntKind.u64.wrap x = x % 18446744073709551616 := by simp [IntKind.wrap, IntKind.signed, IntKind.bits]
theorem u64_id {x : Int} (h0 : 0 ≤ x) (h1 : x < 18446744073709551616) : IntKind.u64.wrap x = x := by
  rw [u64_mod]
  omega
theorem wraps (n : Int) (h₀ : 0 ≤ n) (h₁ : n < 2 ^ 64) : IntKind.u64.wrap n = n := u64_id h₀ (by omega)
theorem and32 {y : Int} (h0 : 0 ≤ y) (h1 : y < 18446744073709551616) : Go.bits .and .u64 y 4294967295 = y % 4294967296 := bits_mask .u64 64 (by decide) wraps 32 (by decide) y h0 (by omega)
theorem pb {u v : Int} (u0 : 0 ≤ u) (u1 : u ≤ 4294967295) (v0 : 0 ≤ v) (v1 : v ≤ 4294967295) : 0 ≤ u * v ∧ u * v ≤ 18446744065119617025 :=
  ⟨Int.mul_nonneg u0 v0, Int.le_trans (Int.mul_le_mul u1 v1 v0 (by decide)) (by decide)⟩
theorem mul64 {x y : Int} (x0 : 0 ≤ x) (x1 : x < 18446744073709551616) (y0 : 0 ≤ y) (y1 : y < 18446744073709551616) :
    bits_Mul64.f x y = some (x * y / 18446744073709551616, x * y % 18446744073709551616) := by
  unfold bits_Mul64.f
  rw [and32 x0 x1, and32 y0 y1, u64_mod (x * y)]
  obtain ⟨a, ha⟩ : ∃ a, a = x / 4294967296 := ⟨_, rfl⟩
  obtain ⟨b, hb⟩ : ∃ b, b = x % 4294967296 := ⟨_, rfl⟩
  obtain ⟨c, hc⟩ : ∃ c, c = y / 4294967296 := ⟨_, rfl⟩
  obtain ⟨d, hd⟩ : ∃ d, d = y % 4294967296 := ⟨_, rfl⟩
  rw [← ha, ← hb, ← hc, ← hd]
  have hx : x = a * 4294967296 + b := by omega
  have hy : y = c * 4294967296 + d := by omega
  have e : x * y = a * c * 18446744073709551616 + (a * d + b * c) * 4294967296 + b * d := by
    rw [hx, hy]
    grind
  rw [e]
  have p1 := pb (u := a) (v := c) (by omega) (by omega) (by omega) (by omega)
  have p2 := pb (u := a) (v := d) (by omega) (by omega) (by omega) (by omega)
  have p3 := pb (u := b) (v := c) (by omega) (by omega) (by omega) (by omega)
  have p4 := pb (u := b) (v := d) (by omega) (by omega) (by omega) (by omega)
  generalize a * c = A at p1 ⊢
  generalize a * d = B at p2 ⊢
  generalize b * c = C at p3 ⊢
  generalize b * d = D at p4 ⊢
  clear e ha hb hc hd hx hy x0 x1 y0 y1
  rw [u64_id (x := A) (by omega) (by omega), u64_id (x := D) (by omega) (by omega), u64_id (x := C) (by omega) (by omega), u64_id (x := B) (by omega) (by omega)]
  rw [u64_id (x := B + D / 4294967296) (by omega) (by omega), and32 (y := B + D / 4294967296) (by omega) (by omega)]
  rw [u64_id (x := A + (B + D / 4294967296) / 4294967296) (by omega) (by omega), u64_id (x := (B + D / 4294967296) % 4294967296 + C) (by omega) (by omega)]
  rw [u64_id (x := A + (B + D / 4294967296) / 4294967296 + ((B + D / 4294967296) % 4294967296 + C) / 4294967296) (by omega) (by omega)]
  congr 2
  omega
theorem len_small {c : Int} (c0 : 1 ≤ c) (c1 : c ≤ 1000000000) : ∃ L : Nat, Lib.bitLen c.toNat = L ∧ 1 ≤ L ∧ L ≤ 30 ∧ c < 2 ^ L ∧ 2 ^ (L - 1) ≤ c := by
  have h := Lib.bitLenAux_bounds 64 c.toNat (by omega) (by omega)
  have h2 := Lib.bitLen_le c.toNat 30 (by omega) (by omega)
  refine ⟨Lib.bitLen c.toNat, rfl, h.1, h2, ?_, ?_⟩
  · have h3 : c.toNat < 2 ^ Lib.bitLen c.toNat := h.2.2
    have : ((c.toNat : Nat) : Int) < ((2 ^ Lib.bitLen c.toNat : Nat) : Int) := by omega
    rw [Int.natCast_pow] at this
    have e : ((2 : Nat) : Int) = 2 := rfl
    rw [e] at this
    omega
  · have h3 : 2 ^ (Lib.bitLen c.toNat - 1) ≤ c.toNat := h.2.1
    have : ((2 ^ (Lib.bitLen c.toNat - 1) : Nat) : Int) ≤ ((c.toNat : Nat) : Int) := by omega
    rw [Int.natCast_pow] at this
    have e : ((2 : Nat) : Int) = 2 := rfl
    rw [e] at this
    omega
theorem shl_id {x : Int} {n : Nat} (hn : n ≤ 64) (h0 : 0 ≤ x * 2 ^ n) (h1 : x * 2 ^ n < 18446744073709551616) : shl .u64 x (n : Int) = x * 2 ^ n := by
  unfold shl
  have e : min (n : Int).toNat IntKind.u64.bits = n := by
    show min (n : Int).toNat 64 = n
    omega
  rw [e]
  exact u64_id h0 h1
theorem shl_mod {x : Int} {n : Nat} (hn : n ≤ 64) : shl .u64 x (n : Int) = x * 2 ^ n % 18446744073709551616 := by
  unfold shl
  have e : min (n : Int).toNat IntKind.u64.bits = n := by
    show min (n : Int).toNat 64 = n
    omega
  rw [e]
  exact u64_mod _
theorem shr_id {x : Int} {n : Nat} (hn : n ≤ 64) : shr .u64 x (n : Int) = x / 2 ^ n := by
  unfold shr
  have e : min (n : Int).toNat IntKind.u64.bits = n := by
    show min (n : Int).toNat 64 = n
    omega
  rw [e]
theorem div_eq {a b q r : Int} (h : a = b * q + r) (r0 : 0 ≤ r) (r1 : r < b) : a / b = q ∧ a % b = r := by
  have hb : 0 < b := by omega
  have e1 : a / b = q := by
    rw [h, Int.add_comm, Int.add_mul_ediv_left _ _ (by omega), Int.ediv_eq_zero_of_lt r0 r1]
    omega
  refine ⟨e1, ?_⟩
  have := Int.mul_ediv_add_emod a b
  rw [e1] at this
  omega
theorem div64_rounds (k : Nat) (y s yn1 un32 un1 : Int) (hy : y = yn1 * 4294967296) (n0 : 1 ≤ yn1) (n1 : yn1 < 4294967296) (u0 : 0 ≤ un32) (u1 : un32 < y) (v0 : 0 ≤ un1) (v1 : un1 < 4294967296) (s0 : 0 ≤ s) :
    bits_Div64.l0 (k + 5) y s yn1 0 un32 un1 0 (un32 / yn1) (un32 % yn1) =
      some (un32 / yn1 * 4294967296 + (un32 % yn1 * 4294967296 + un1) / yn1, shr .u64 ((un32 % yn1 * 4294967296 + un1) % yn1 * 4294967296) s) := by
  have q1 : 0 ≤ un32 / yn1 := Int.ediv_nonneg u0 (by omega)
  have q2 : un32 / yn1 < 4294967296 := Int.ediv_lt_of_lt_mul (by omega) (by rw [Int.mul_comm]; omega)
  have r1 := Int.emod_nonneg un32 (b := yn1) (by omega)
  have r2 := Int.emod_lt_of_pos un32 (b := yn1) (by omega)
  have d1 := Int.mul_ediv_add_emod un32 yn1
  obtain ⟨q, hq⟩ : ∃ q, q = un32 / yn1 := ⟨_, rfl⟩
  obtain ⟨r, hr⟩ : ∃ r, r = un32 % yn1 := ⟨_, rfl⟩
  rw [← hq, ← hr] at d1 ⊢
  rw [← hq] at q1 q2
  rw [← hr] at r1 r2
  have w1 : 0 ≤ r * 4294967296 + un1 := by omega
  have w2 : r * 4294967296 + un1 < y := by omega
  have w3 : y < 18446744073709551616 := by omega
  have x1 : 0 ≤ (r * 4294967296 + un1) / yn1 := Int.ediv_nonneg w1 (by omega)
  have x2 : (r * 4294967296 + un1) / yn1 < 4294967296 := Int.ediv_lt_of_lt_mul (by omega) (by rw [Int.mul_comm]; omega)
  have t1 := Int.emod_nonneg (r * 4294967296 + un1) (b := yn1) (by omega)
  have t2 := Int.emod_lt_of_pos (r * 4294967296 + un1) (b := yn1) (by omega)
  have d2 := Int.mul_ediv_add_emod (r * 4294967296 + un1) yn1
  obtain ⟨p, hp⟩ : ∃ p, p = (r * 4294967296 + un1) / yn1 := ⟨_, rfl⟩
  obtain ⟨t, ht⟩ : ∃ t, t = (r * 4294967296 + un1) % yn1 := ⟨_, rfl⟩
  rw [← hp] at x1 x2 d2
  rw [← ht] at t1 t2 d2
  have e0 : IntKind.u64.wrap (q * 0) = 0 := by rw [Int.mul_zero]; exact u64_id (by omega) (by omega)
  have f0 : IntKind.u64.wrap (p * 0) = 0 := by rw [Int.mul_zero]; exact u64_id (by omega) (by omega)
  have e1 : IntKind.u64.wrap ((IntKind.u64.wrap ((IntKind.u64.wrap (un32 * 4294967296)) + un1)) - (IntKind.u64.wrap (q * y))) = r * 4294967296 + un1 := by
    simp only [u64_mod]
    have : un32 * 4294967296 + un1 - q * y = r * 4294967296 + un1 := by
      rw [hy, ← d1]
      grind
    rw [← this] at w1 w2 ⊢
    omega
  have g1 : IntKind.u64.wrap (Int.tdiv (r * 4294967296 + un1) yn1) = p := by
    rw [td w1, ← hp]
    exact u64_id x1 (by omega)
  have g2 : IntKind.u64.wrap ((r * 4294967296 + un1) - (IntKind.u64.wrap (p * yn1))) = t := by
    have b : 0 ≤ p * yn1 := Int.mul_nonneg x1 (by omega)
    have c : p * yn1 = yn1 * p := Int.mul_comm _ _
    rw [u64_id (x := p * yn1) b (by omega)]
    rw [u64_id (by omega) (by omega)]
    omega
  have g3 : IntKind.u64.wrap ((IntKind.u64.wrap ((IntKind.u64.wrap ((r * 4294967296 + un1) * 4294967296)) + 0)) - (IntKind.u64.wrap (p * y))) = t * 4294967296 := by
    simp only [u64_mod]
    have : (r * 4294967296 + un1) * 4294967296 + 0 - p * y = t * 4294967296 := by
      rw [hy, ← d2]
      grind
    have b1 : 0 ≤ t * 4294967296 := by omega
    have b2 : t * 4294967296 < 18446744073709551616 := by omega
    rw [← this] at b1 b2 ⊢
    omega
  have g4 : IntKind.u64.wrap ((IntKind.u64.wrap (q * 4294967296)) + p) = q * 4294967296 + p := by
    rw [u64_id (x := q * 4294967296) (by omega) (by omega), u64_id (by omega) (by omega)]
  rw [bits_Div64.l0]
  refine no (by omega) ?_
  rw [e0, decide_eq_false (by have := (u64_range (IntKind.u64.wrap (4294967296 * r) + un1)).1; omega)]
  rw [bits_Div64.j1]
  refine no (by decide) ?_
  rw [bits_Div64.j2]
  refine no (by omega) ?_
  rw [e1, g1, g2]
  rw [bits_Div64.l1]
  refine no (by omega) ?_
  rw [f0, decide_eq_false (by have := (u64_range (IntKind.u64.wrap (4294967296 * t) + 0)).1; omega)]
  rw [bits_Div64.j4]
  refine no (by decide) ?_
  refine yes s0 ?_
  rw [g3, g4, ← hp, ← ht]
theorem div64 {hi lo c : Int} (c0 : 1 ≤ c) (c1 : c ≤ 1000000000) (h0 : 0 ≤ hi) (h1 : hi < c) (l0 : 0 ≤ lo) (l1 : lo < 18446744073709551616) (k : Nat) :
    bits_Div64.f (k + 5) hi lo c = some ((hi * 18446744073709551616 + lo) / c, (hi * 18446744073709551616 + lo) % c) := by
  unfold bits_Div64.f
  refine no (by omega) ?_
  refine no (by omega) ?_
  by_cases z : hi = 0
  · refine yes z ?_
    rw [td l0, tm l0, z, Int.zero_mul, Int.zero_add, u64_id (Int.ediv_nonneg l0 (by omega))]
    exact Int.lt_of_le_of_lt (Int.ediv_le_self _ l0) l1
  refine no z ?_
  obtain ⟨L, hL, L1, L30, b1, b2⟩ := len_small c0 c1
  obtain ⟨n, hn⟩ : ∃ n : Nat, n + L = 64 := ⟨64 - L, by omega⟩
  have e : bits_LeadingZeros64.f c = some (n : Int) := by
    unfold bits_LeadingZeros64.f
    rw [if_pos (by omega), hL]
    congr 1
    omega
  refine bnd e ?_
  have e1 : IntKind.u64.wrap (n : Int) = (n : Int) := u64_id (by omega) (by omega)
  have e2 : IntKind.u64.wrap (64 - (n : Int)) = (L : Int) := by rw [u64_id (by omega) (by omega)]; omega
  rw [e1, e2]
  refine yes (by omega) ?_
  refine yes (by omega) ?_
  -- 2^n = W * 2^32, 2^n * 2^L = 2^64
  obtain ⟨j, hj⟩ : ∃ j : Nat, n = j + 32 := ⟨n - 32, by omega⟩
  have pW : (2 : Int) ^ n = 2 ^ j * 4294967296 := by rw [hj, Int.pow_add]; rfl
  have pQ : (2 : Int) ^ n * 2 ^ L = 18446744073709551616 := by rw [← Int.pow_add, hn]; rfl
  have W0 : (0 : Int) < 2 ^ j := Int.pow_pos (by decide)
  have Q0 : (0 : Int) < 2 ^ L := Int.pow_pos (by decide)
  have P0 : (0 : Int) < 2 ^ n := Int.pow_pos (by decide)
  obtain ⟨W, hW⟩ : ∃ W : Int, W = 2 ^ j := ⟨_, rfl⟩
  obtain ⟨Q, hQ⟩ : ∃ Q : Int, Q = 2 ^ L := ⟨_, rfl⟩
  obtain ⟨P, hP⟩ : ∃ P : Int, P = 2 ^ n := ⟨_, rfl⟩
  have ypos : 0 ≤ c * P := Int.mul_nonneg (by omega) (by omega)
  have ylt : c * P < 18446744073709551616 := by
    rw [← pQ, ← hP, ← hQ, Int.mul_comm P Q]
    exact Int.mul_lt_mul_of_pos_right (by omega) (by omega)
  have hipos : 0 ≤ hi * P := Int.mul_nonneg h0 (by omega)
  have hilt : hi * P < c * P := Int.mul_lt_mul_of_pos_right h1 (by omega)
  have loq : 0 ≤ lo / Q := Int.ediv_nonneg l0 (by omega)
  have loP : lo / Q < P := Int.ediv_lt_of_lt_mul (by omega) (by rw [hP, hQ, pQ]; exact l1)
  have loS : lo / Q < 18446744073709551616 := Int.lt_of_le_of_lt (Int.ediv_le_self _ l0) l1
  have lor : 0 ≤ lo % Q ∧ lo % Q < Q := ⟨Int.emod_nonneg _ (by omega), Int.emod_lt_of_pos _ (by omega)⟩
  have lod := Int.mul_ediv_add_emod lo Q
  rw [shl_id (x := c) (by omega) (by rw [← hP]; exact ypos) (by rw [← hP]; exact ylt), shl_id (x := hi) (by omega) (by rw [← hP]; exact hipos) (by rw [← hP]; omega), shr_id (x := lo) (by omega), shl_mod (x := lo) (by omega)]
  rw [← hP, ← hQ]
  have hPW : P = W * 4294967296 := by rw [hP, hW]; exact pW
  have hPQ : P * Q = 18446744073709551616 := by rw [hP, hQ]; exact pQ
  have ecW : c * P = c * W * 4294967296 := by rw [hPW]; grind
  have cW0 : 1 ≤ c * W := by
    have := Int.mul_le_mul c0 (show 1 ≤ W by omega) (by decide) (by omega)
    omega
  have ey : c * P / 4294967296 = c * W := by omega
  have em : c * P % 4294967296 = 0 := by omega
  have eor : Go.bits .or .u64 (hi * P) (lo / Q) = hi * P + lo / Q := by
    refine bits_join .u64 64 (by decide) wraps n (hi * P) (lo / Q) hipos ?_ (by omega) loq (by rw [← hP]; exact loP) (by omega)
    rw [← hP]
    exact Int.mul_emod_left _ _
  have hiP : hi * P + P ≤ c * P := by
    have := Int.mul_le_mul_of_nonneg_right (show hi + 1 ≤ c by omega) (show 0 ≤ P by omega)
    rw [Int.add_mul] at this
    omega
  obtain ⟨v, hv⟩ : ∃ v, v = lo % Q := ⟨_, rfl⟩
  rw [← hv] at lor lod
  have vP0 : 0 ≤ v * P := Int.mul_nonneg lor.1 (by omega)
  have vP1 : v * P < 18446744073709551616 := by
    rw [← hPQ, Int.mul_comm P Q]
    exact Int.mul_lt_mul_of_pos_right lor.2 (by omega)
  have elo : lo * P = lo / Q * 18446744073709551616 + v * P := by
    rw [← hPQ]
    conv => lhs; rw [← lod]
    grind
  have em2 : lo * P % 18446744073709551616 = v * P := by omega
  have evW : v * P = v * W * 4294967296 := by rw [hPW]; grind
  rw [em2, ey, and32 ypos ylt, em, eor, and32 vP0 vP1]
  have e3 : v * P / 4294967296 = v * W := by omega
  have e4 : v * P % 4294967296 = 0 := by omega
  rw [e3, e4]
  obtain ⟨u, hu⟩ : ∃ u, u = hi * P + lo / Q := ⟨_, rfl⟩
  rw [← hu]
  have u0 : 0 ≤ u := by omega
  have u1 : u < c * P := by omega
  have q1 : 0 ≤ u / (c * W) := Int.ediv_nonneg u0 (by omega)
  have q2 : u / (c * W) < 4294967296 := Int.ediv_lt_of_lt_mul (by omega) (by rw [Int.mul_comm]; omega)
  have r1 := Int.emod_nonneg u (b := c * W) (by omega)
  have r2 := Int.emod_lt_of_pos u (b := c * W) (by omega)
  have d1 := Int.mul_ediv_add_emod u (c * W)
  have g1 : IntKind.u64.wrap (Int.tdiv u (c * W)) = u / (c * W) := by
    rw [td u0]
    exact u64_id q1 (by omega)
  have g2 : IntKind.u64.wrap (u - IntKind.u64.wrap (u / (c * W) * (c * W))) = u % (c * W) := by
    have b : 0 ≤ u / (c * W) * (c * W) := Int.mul_nonneg q1 (by omega)
    have b2 : u / (c * W) * (c * W) = c * W * (u / (c * W)) := Int.mul_comm _ _
    rw [u64_id (x := u / (c * W) * (c * W)) b (by omega)]
    rw [u64_id (by omega) (by omega)]
    omega
  rw [g1, g2]
  refine no (by omega) ?_
  have un0 : 0 ≤ v * W := by omega
  rw [div64_rounds k (c * P) n (c * W) u (v * W) ecW cW0 (by omega) u0 u1 un0 (by omega) (by omega)]
  rw [shr_id (by omega), ← hP]
  obtain ⟨q, hq⟩ : ∃ q, q = u / (c * W) := ⟨_, rfl⟩
  obtain ⟨r, hr⟩ : ∃ r, r = u % (c * W) := ⟨_, rfl⟩
  rw [← hq, ← hr] at d1 ⊢
  rw [← hr] at r1 r2
  have t1 := Int.emod_nonneg (r * 4294967296 + v * W) (b := c * W) (by omega)
  have t2 := Int.emod_lt_of_pos (r * 4294967296 + v * W) (b := c * W) (by omega)
  have d2 := Int.mul_ediv_add_emod (r * 4294967296 + v * W) (c * W)
  obtain ⟨p, hp⟩ : ∃ p, p = (r * 4294967296 + v * W) / (c * W) := ⟨_, rfl⟩
  obtain ⟨t, ht⟩ : ∃ t, t = (r * 4294967296 + v * W) % (c * W) := ⟨_, rfl⟩
  rw [← hp, ← ht] at d2 ⊢
  rw [← ht] at t1 t2
  obtain ⟨N, hN⟩ : ∃ N, N = hi * 18446744073709551616 + lo := ⟨_, rfl⟩
  rw [← hN]
  have eN : N * W = u * 4294967296 + v * W := by
    have : N * P = u * 18446744073709551616 + v * P := by
      rw [hN, hu]
      have : (hi * 18446744073709551616 + lo) * P = hi * P * 18446744073709551616 + lo * P := by grind
      rw [this, elo]
      grind
    have e5 : N * P = N * W * 4294967296 := by rw [hPW]; grind
    omega
  have et : t = W * (N - c * (q * 4294967296 + p)) := by
    have : t = N * W - c * W * (q * 4294967296 + p) := by
      have : c * W * (q * 4294967296 + p) = c * W * q * 4294967296 + c * W * p := by grind
      omega
    rw [this]
    grind
  obtain ⟨z', hz⟩ : ∃ z', z' = N - c * (q * 4294967296 + p) := ⟨_, rfl⟩
  rw [← hz] at et
  have z0 : 0 ≤ z' := by
    refine Int.le_of_mul_le_mul_left (a := W) ?_ (by omega)
    rw [← et, Int.mul_zero]
    exact t1
  have z1 : z' < c := by
    refine Int.lt_of_mul_lt_mul_left (a := W) ?_ (by omega)
    rw [← et, Int.mul_comm W c]
    exact t2
  obtain ⟨a1, a2⟩ := div_eq (a := N) (b := c) (q := q * 4294967296 + p) (r := z') (by omega) z0 z1
  rw [a1, a2]
  congr 2
  rw [et, show W * z' * 4294967296 = z' * P by rw [hPW]; grind]
  exact Int.mul_ediv_cancel _ (by omega)
end Go.Proofs.YtidlcolgiololaaDoor.Num
namespace Go.Proofs.YtidlcolgiololaaDoor.Days
open Go.RowKit Go.Proofs.YtidlcolgiololaaDoor.S Go.Proofs.YtidlcolgiololaaDoorW.PrintWords Go.Proofs.YtidlcolgiololaaDoor.Cal
set_option linter.unusedVariables false
set_option linter.unusedSimpArgs false
theorem spec_right (a : Int) : spec_l03Right.f a = some (decide (0 ≤ a ∧ a ≤ 36524)) := by
  unfold spec_l03Right.f
  by_cases h : a ≥ 0
  · rw [if_pos h]
    congr 1
    have h' : 0 ≤ a := h
    simp [h']
  · rw [if_neg h]
    congr 1
    have h' : ¬ 0 ≤ a := h
    simp [h']
theorem spec_len {y : Int} (m : Int) (hy : 0 ≤ y) : spec_l03Len.f y m = some (mlen y m) := by
  unfold spec_l03Len.f mlen lp
  rw [tm hy]
  by_cases h2 : m = 2
  · rw [if_pos h2, if_pos h2]
    split <;> rfl
  · rw [if_neg h2, if_neg h2]
    split
    · rfl
    split
    · rfl
    split
    · rfl
    split <;> rfl
theorem spec_head {y : Int} (h0 : 2000 ≤ y) (h1 : y ≤ 1000000) : spec_l03Head.f y = some (hd y) := by
  unfold spec_l03Head.f hd
  simp (disch := omega) only [wid, td]
theorem impl_in_eval (a b c : Int) : impl_in.f a b c = some (decide (b ≤ a ∧ a ≤ c)) := by
  unfold impl_in.f
  by_cases h : b ≤ a
  · rw [if_pos h]
    simp [h]
  · rw [if_neg h]
    simp [h]
theorem impl_isDay_eval (a : Int) : impl_isDay.f a = some (decide (0 ≤ a ∧ a ≤ 36524)) := by
  unfold impl_isDay.f
  rw [impl_in_eval]
  rfl
theorem impl_len {y m : Int} (hy : 0 ≤ y) (h0 : 1 ≤ m) (h1 : m ≤ 12) : impl_daysIn.f y m = some (mlen y m) := by
  unfold impl_daysIn.f mlen lp
  rw [tm hy]
  rcases months h0 h1 with rfl | rfl | rfl | rfl | rfl | rfl | rfl | rfl | rfl | rfl | rfl | rfl <;> simp
  split <;> rfl
theorem impl_start {y : Int} (h0 : 2000 ≤ y) (h1 : y ≤ 1000000) : impl_yearStart.f y = some (hd y) := by
  unfold impl_yearStart.f hd
  simp (disch := omega) only [wid, td]
theorem spec_day_l0 {y m d : Int} (hy0 : 2000 ≤ y) (hy1 : y ≤ 2099) (hm1 : m ≤ 12) (hd0 : 0 ≤ d) (hd1 : d ≤ 1000) (n : Nat) :
    ∀ (k : Nat) (x : Int), 1 ≤ x → x + n = m → n < k → spec_l03Day.l0 k (hd y + cum y x) x y m d = some (num y m d) := by
  have hr := hd_range hy0 (y := y) (by omega)
  induction n with
  | zero =>
    intro k x hx e hk
    obtain ⟨k, rfl⟩ : ∃ j, k = j + 1 := ⟨k - 1, by omega⟩
    have : x = m := by omega
    subst this
    have hc := cum_range y x
    simp only [spec_l03Day.l0]
    rw [if_neg (by omega)]
    unfold num
    simp (disch := omega) only [wid]
  | succ n ih =>
    intro k x hx e hk
    obtain ⟨k, rfl⟩ : ∃ j, k = j + 1 := ⟨k - 1, by omega⟩
    have hc := cum_range y x
    have hl := mlen_range y x
    have e1 := cum_succ y (m := x) hx (by omega)
    simp only [spec_l03Day.l0]
    rw [if_pos (by omega), spec_len x (by omega)]
    simp only [Option.bind_some]
    have := ih k (x + 1) (by omega) (by omega) (by omega)
    rw [e1, ← Int.add_assoc] at this
    rw [wid (by omega) (by omega), wid (by omega) (by omega)]
    exact this
theorem spec_day {y m d : Int} (hy0 : 2000 ≤ y) (hy1 : y ≤ 2099) (hm0 : 1 ≤ m) (hm1 : m ≤ 12) (hd0 : 0 ≤ d) (hd1 : d ≤ 1000) {k : Nat} (hk : 20 ≤ k) : spec_l03Day.f k y m d = some (num y m d) := by
  unfold spec_l03Day.f
  rw [spec_head hy0 (by omega)]
  simp only [Option.bind_some]
  have := spec_day_l0 hy0 hy1 hm1 hd0 hd1 (m - 1).toNat k 1 (by omega) (by omega) (by omega)
  rw [cum_1, Int.add_zero] at this
  exact this
theorem impl_day_l0 {y m d : Int} (hy0 : 2000 ≤ y) (hy1 : y ≤ 2099) (hm1 : m ≤ 12) (hd0 : 0 ≤ d) (hd1 : d ≤ 1000) (n : Nat) :
    ∀ (k : Nat) (x : Int), 1 ≤ x → x + n = m → n < k → impl_Date_day.l0 k (hd y + d - 1 + cum y x) x y m d = some (num y m d) := by
  have hr := hd_range hy0 (y := y) (by omega)
  induction n with
  | zero =>
    intro k x hx e hk
    obtain ⟨k, rfl⟩ : ∃ j, k = j + 1 := ⟨k - 1, by omega⟩
    have : x = m := by omega
    subst this
    simp only [impl_Date_day.l0]
    rw [if_neg (by omega)]
    unfold num
    congr 1
    omega
  | succ n ih =>
    intro k x hx e hk
    obtain ⟨k, rfl⟩ : ∃ j, k = j + 1 := ⟨k - 1, by omega⟩
    have hc := cum_range y x
    have hl := mlen_range y x
    have e1 := cum_succ y (m := x) hx (by omega)
    simp only [impl_Date_day.l0]
    rw [if_pos (by omega), impl_len (by omega) hx (by omega)]
    simp only [Option.bind_some]
    have := ih k (x + 1) (by omega) (by omega) (by omega)
    rw [e1, ← Int.add_assoc] at this
    rw [wid (by omega) (by omega), wid (by omega) (by omega)]
    exact this
theorem impl_day {y m d : Int} (hy0 : 2000 ≤ y) (hy1 : y ≤ 2099) (hm0 : 1 ≤ m) (hm1 : m ≤ 12) (hd0 : 0 ≤ d) (hd1 : d ≤ 1000) {k : Nat} (hk : 20 ≤ k) : impl_Date_day.f k y m d = some (num y m d) := by
  have hr := hd_range hy0 (y := y) (by omega)
  unfold impl_Date_day.f
  rw [impl_start hy0 (by omega)]
  simp only [Option.bind_some]
  have := impl_day_l0 hy0 hy1 hm1 hd0 hd1 (m - 1).toNat k 1 (by omega) (by omega) (by omega)
  rw [cum_1, Int.add_zero] at this
  simp (disch := omega) only [wid]
  exact this
theorem rest_range {y m d : Int} (h : Valid y m d) {x : Int} (hx : 1 ≤ x) (hxm : x ≤ m) : 0 ≤ cum y m + d - 1 - cum y x ∧ cum y m + d - 1 - cum y x ≤ 1000 := by
  have a := cum_mono y hx hxm (by have := h.m1; omega)
  have b := cum_range y m
  have c := cum_range y x
  have := h.d0
  have := d_le h
  omega
theorem spec_date_l1 {y m d : Int} (h : Valid y m d) (n : Nat) :
    ∀ (k : Nat) (x : Int), 1 ≤ x → x + n = m → n < k → spec_DateOf.l1 k y (cum y m + d - 1 - cum y x) x = some (y, m, d) := by
  obtain ⟨y0, y1, m0, m1, d0, d1⟩ := h
  have hv : Valid y m d := ⟨y0, y1, m0, m1, d0, d1⟩
  have d31 := d_le hv
  induction n with
  | zero =>
    intro k x hx e hk
    obtain ⟨k, rfl⟩ : ∃ j, k = j + 1 := ⟨k - 1, by omega⟩
    have : x = m := by omega
    subst this
    simp only [spec_DateOf.l1]
    rw [spec_len x (by omega)]
    simp only [Option.bind_some]
    rw [if_neg (by omega), wid (by omega) (by omega)]
    congr 3
    omega
  | succ n ih =>
    intro k x hx e hk
    obtain ⟨k, rfl⟩ : ∃ j, k = j + 1 := ⟨k - 1, by omega⟩
    have e1 := cum_succ y (m := x) hx (by omega)
    have r1 := rest_range hv (x := x + 1) (by omega) (by omega)
    have r0 := rest_range hv (x := x) (by omega) (by omega)
    simp only [spec_DateOf.l1]
    rw [spec_len x (by omega)]
    simp only [Option.bind_some]
    rw [if_pos (by omega), wid (by omega) (by omega), wid (by omega) (by omega)]
    have := ih k (x + 1) (by omega) (by omega) (by omega)
    rw [e1] at this
    rw [show cum y m + d - 1 - cum y x - mlen y x = cum y m + d - 1 - (cum y x + mlen y x) by omega]
    exact this
theorem spec_date_l0 {y m d : Int} (h : Valid y m d) (n : Nat) :
    ∀ (k : Nat) (x : Int), 2000 ≤ x → x + n = y → n + 13 < k → spec_DateOf.l0 k (num y m d) x = some (y, m, d) := by
  obtain ⟨y0, y1, m0, m1, d0, d1⟩ := h
  have hv : Valid y m d := ⟨y0, y1, m0, m1, d0, d1⟩
  have nb := num_bounds hv
  have nr := num_range hv
  induction n with
  | zero =>
    intro k x hx e hk
    obtain ⟨k, rfl⟩ : ∃ j, k = j + 1 := ⟨k - 1, by omega⟩
    have : x = y := by omega
    subst this
    have hr := hd_range y0 (y := x) (by omega)
    simp only [spec_DateOf.l0]
    rw [wid (x := x + 1) (by omega) (by omega), spec_head (by omega) (by omega)]
    simp only [Option.bind_some]
    rw [if_neg (by omega), spec_head (by omega) (by omega)]
    simp only [Option.bind_some]
    rw [wid (by omega) (by omega)]
    have := spec_date_l1 hv (m - 1).toNat k 1 (by omega) (by omega) (by omega)
    rw [cum_1] at this
    rw [show num x m d - hd x = cum x m + d - 1 - 0 by unfold num; omega]
    exact this
  | succ n ih =>
    intro k x hx e hk
    obtain ⟨k, rfl⟩ : ∃ j, k = j + 1 := ⟨k - 1, by omega⟩
    have := hd_mono (a := x + 1) (b := y) (by omega) (by omega)
    simp only [spec_DateOf.l0]
    rw [wid (x := x + 1) (by omega) (by omega), spec_head (by omega) (by omega)]
    simp only [Option.bind_some]
    rw [if_pos (by omega)]
    exact ih k (x + 1) (by omega) (by omega) (by omega)
theorem spec_date {y m d : Int} (h : Valid y m d) {k : Nat} (hk : 200 ≤ k) : spec_DateOf.f k (num y m d) = some (y, m, d) := by
  have nr := num_range h
  unfold spec_DateOf.f
  rw [spec_right]
  simp only [Option.bind_some]
  rw [decide_eq_true nr, if_pos rfl]
  have y0 := h.y0
  have y1 := h.y1
  exact spec_date_l0 h (y - 2000).toNat k 2000 (by omega) (by omega) (by omega)
theorem impl_date_l1 {y m d : Int} (h : Valid y m d) (z : Int) (n : Nat) :
    ∀ (k : Nat) (x : Int), 1 ≤ x → x + n = m → n < k → impl_date.l1 k (cum y m + d - 1 - cum y x) y x z = some (y, m, d) := by
  obtain ⟨y0, y1, m0, m1, d0, d1⟩ := h
  have hv : Valid y m d := ⟨y0, y1, m0, m1, d0, d1⟩
  have d31 := d_le hv
  induction n with
  | zero =>
    intro k x hx e hk
    obtain ⟨k, rfl⟩ : ∃ j, k = j + 1 := ⟨k - 1, by omega⟩
    have : x = m := by omega
    subst this
    simp only [impl_date.l1]
    rw [impl_len (by omega) hx (by omega)]
    simp only [Option.bind_some]
    rw [if_neg (by omega), wid (by omega) (by omega)]
    congr 3
    omega
  | succ n ih =>
    intro k x hx e hk
    obtain ⟨k, rfl⟩ : ∃ j, k = j + 1 := ⟨k - 1, by omega⟩
    have e1 := cum_succ y (m := x) hx (by omega)
    have r1 := rest_range hv (x := x + 1) (by omega) (by omega)
    have r0 := rest_range hv (x := x) (by omega) (by omega)
    simp only [impl_date.l1]
    rw [impl_len (by omega) hx (by omega)]
    simp only [Option.bind_some]
    rw [if_pos (by omega), wid (by omega) (by omega), wid (by omega) (by omega)]
    have := ih k (x + 1) (by omega) (by omega) (by omega)
    rw [e1] at this
    rw [show cum y m + d - 1 - cum y x - mlen y x = cum y m + d - 1 - (cum y x + mlen y x) by omega]
    exact this
theorem impl_date_l0 {y m d : Int} (h : Valid y m d) (n : Nat) :
    ∀ (k : Nat) (x : Int), 2000 ≤ x → x + n = y → n + 13 < k → impl_date.l0 k (num y m d) x 1 0 = some (y, m, d) := by
  obtain ⟨y0, y1, m0, m1, d0, d1⟩ := h
  have hv : Valid y m d := ⟨y0, y1, m0, m1, d0, d1⟩
  have nb := num_bounds hv
  have nr := num_range hv
  induction n with
  | zero =>
    intro k x hx e hk
    obtain ⟨k, rfl⟩ : ∃ j, k = j + 1 := ⟨k - 1, by omega⟩
    have : x = y := by omega
    subst this
    have hr := hd_range y0 (y := x) (by omega)
    simp only [impl_date.l0]
    rw [wid (x := x + 1) (by omega) (by omega), impl_start (by omega) (by omega)]
    simp only [Option.bind_some]
    rw [if_neg (by omega), impl_start (by omega) (by omega)]
    simp only [Option.bind_some]
    rw [wid (by omega) (by omega)]
    have := impl_date_l1 hv 0 (m - 1).toNat k 1 (by omega) (by omega) (by omega)
    rw [cum_1] at this
    rw [show num x m d - hd x = cum x m + d - 1 - 0 by unfold num; omega]
    exact this
  | succ n ih =>
    intro k x hx e hk
    obtain ⟨k, rfl⟩ : ∃ j, k = j + 1 := ⟨k - 1, by omega⟩
    have := hd_mono (a := x + 1) (b := y) (by omega) (by omega)
    simp only [impl_date.l0]
    rw [wid (x := x + 1) (by omega) (by omega), impl_start (by omega) (by omega)]
    simp only [Option.bind_some]
    rw [if_pos (by omega)]
    exact ih k (x + 1) (by omega) (by omega) (by omega)
theorem guess {y m d : Int} (h : Valid y m d) : 0 ≤ num y m d / 366 ∧ 2000 + num y m d / 366 ≤ y := by
  have nb := num_bounds h
  have nr := num_range h
  have := h.y0
  unfold hd at nb
  omega
theorem impl_date_eval {y m d : Int} (h : Valid y m d) {k : Nat} (hk : 200 ≤ k) : impl_date.f k (num y m d) = some (y, m, d) := by
  have nr := num_range h
  have g := guess h
  unfold impl_date.f
  rw [td nr.1]
  simp (disch := omega) only [wid]
  have y0 := h.y0
  have y1 := h.y1
  exact impl_date_l0 h (y - (2000 + num y m d / 366)).toNat k _ (by omega) (by omega) (by omega)
def mn2 (a b : Int) : Int := if a < b then a else b
theorem mn2_le (a b : Int) : mn2 a b ≤ a ∧ mn2 a b ≤ b ∧ (mn2 a b = a ∨ mn2 a b = b) := by
  unfold mn2
  split <;> omega
def addM (y m d n : Int) : Int × Int :=
  if n < -1200 ∨ 1200 < n then (0, 13) else
  let t := 12 * (y - 2000) + m - 1 + n
  if t < 0 ∨ 1199 < t then (0, 13) else (num (2000 + t / 12) (t % 12 + 1) (mn2 d (mlen (2000 + t / 12) (t % 12 + 1))), 0)
theorem addM_valid {y m d : Int} (h : Valid y m d) {t : Int} (t0 : 0 ≤ t) (t1 : t ≤ 1199) : Valid (2000 + t / 12) (t % 12 + 1) (mn2 d (mlen (2000 + t / 12) (t % 12 + 1))) := by
  have a := mn2_le d (mlen (2000 + t / 12) (t % 12 + 1))
  have b := mlen_range (2000 + t / 12) (t % 12 + 1)
  have := h.d0
  exact ⟨by omega, by omega, by omega, by omega, by omega, by omega⟩
theorem spec_add {y m d : Int} (h : Valid y m d) {n : Int} (n0 : -9223372036854775808 ≤ n) (n1 : n ≤ 9223372036854775807) {k : Nat} (hk : 300 ≤ k) :
    spec_DayAdd.f k (num y m d) n = some (addM y m d n) := by
  have nr := num_range h
  have y0 := h.y0; have y1 := h.y1; have m0 := h.m0; have m1 := h.m1; have d0 := h.d0; have d31 := d_le h
  obtain ⟨k, rfl⟩ : ∃ j, k = j + 2 := ⟨k - 2, by omega⟩
  unfold spec_DayAdd.f
  rw [spec_right]
  simp only [Option.bind_some]
  rw [decide_eq_true nr, if_pos rfl]
  unfold addM
  by_cases c1 : n < -1200
  · rw [if_pos c1, if_pos (Or.inl c1)]
    simp only [spec_DayAdd.j0]
    exact if_pos trivial
  rw [if_neg c1]
  by_cases c2 : 1200 < n
  · rw [if_pos (Or.inr c2)]
    simp only [spec_DayAdd.j0]
    rw [if_pos (decide_eq_true c2)]
  rw [if_neg (by omega)]
  simp only [spec_DayAdd.j0]
  rw [if_neg (by simp; omega), spec_date h (by omega)]
  simp only [Option.bind_some]
  simp (disch := omega) only [wid]
  generalize ht : 12 * (y - 2000) + m - 1 + n = t
  have tb : -1201 ≤ t ∧ t ≤ 2400 := by omega
  clear ht c1 c2
  by_cases c3 : t < 0
  · rw [if_pos c3, if_pos (Or.inl c3)]
    simp only [spec_DayAdd.j1]
    exact if_pos trivial
  rw [if_neg c3]
  by_cases c4 : 1199 < t
  · rw [if_pos (Or.inr c4)]
    simp only [spec_DayAdd.j1]
    rw [if_pos (decide_eq_true (by omega))]
  rw [if_neg (by omega)]
  have hv := addM_valid h (t := t) (by omega) (by omega)
  simp only [spec_DayAdd.j1]
  rw [if_neg (by simp; omega), td (by omega), tm (by omega)]
  simp (disch := omega) only [wid]
  rw [spec_len _ (by omega)]
  simp only [Option.bind_some]
  have e : spec_l01Min.f d (mlen (2000 + t / 12) (t % 12 + 1)) = some (mn2 d (mlen (2000 + t / 12) (t % 12 + 1))) := by
    unfold spec_l01Min.f mn2
    split <;> rfl
  rw [e]
  simp only [Option.bind_some]
  have dv := d_le hv
  rw [spec_day hv.y0 hv.y1 hv.m0 hv.m1 (by have := hv.d0; omega) (by omega) (by omega)]
  rfl
theorem impl_add {y m d : Int} (h : Valid y m d) {n : Int} (n0 : -9223372036854775808 ≤ n) (n1 : n ≤ 9223372036854775807) {k : Nat} (hk : 300 ≤ k) :
    impl_DayAdd.f k (num y m d) n = some (addM y m d n) := by
  have nr := num_range h
  have y0 := h.y0; have y1 := h.y1; have m0 := h.m0; have m1 := h.m1; have d0 := h.d0; have d31 := d_le h
  unfold impl_DayAdd.f
  rw [impl_isDay_eval]
  simp only [Option.bind_some]
  rw [decide_eq_true nr, if_pos rfl, impl_in_eval]
  simp only [Option.bind_some]
  unfold addM
  by_cases c1 : n < -1200 ∨ 1200 < n
  · rw [if_pos c1, if_neg (by simp; omega)]
  rw [if_neg c1, if_pos (by simp; omega), impl_date_eval h (by omega)]
  simp only [Option.bind_some]
  simp (disch := omega) only [wid]
  generalize ht : 12 * (y - 2000) + m - 1 + n = t
  have tb : -1201 ≤ t ∧ t ≤ 2400 := by omega
  clear ht c1
  rw [impl_in_eval]
  simp only [Option.bind_some]
  by_cases c3 : t < 0 ∨ 1199 < t
  · rw [if_pos c3, if_neg (by simp; omega)]
  rw [if_neg c3, if_pos (by simp; omega)]
  have hv := addM_valid h (t := t) (by omega) (by omega)
  have dv := d_le hv
  rw [td (by omega), tm (by omega)]
  simp (disch := omega) only [wid]
  rw [impl_len (by omega) (by omega) (by omega)]
  simp only [Option.bind_some]
  have e : mn d (mlen (2000 + t / 12) (t % 12 + 1)) = mn2 d (mlen (2000 + t / 12) (t % 12 + 1)) := by
    unfold mn mn2
    split <;> split <;> omega
  rw [e, impl_day hv.y0 hv.y1 hv.m0 hv.m1 (by have := hv.d0; omega) (by omega) (by omega)]
  rfl
theorem wf64 {a : Int} (h : (Lit.int .i64 a).wf = true) : -9223372036854775808 ≤ a ∧ a ≤ 9223372036854775807 := by
  have h1 : IntKind.i64.min ≤ a ∧ a ≤ IntKind.i64.max := by simpa [Lit.wf] using h
  have e1 : IntKind.i64.min = -9223372036854775808 := by decide
  have e2 : IntKind.i64.max = 9223372036854775807 := by decide
  omega
theorem dayAdd_no (day n : Int) (h : ¬ (0 ≤ day ∧ day ≤ 36524)) (k : Nat) : spec_DayAdd.f k day n = some (0, 1) ∧ impl_DayAdd.f k day n = some (0, 1) := by
  constructor
  · unfold spec_DayAdd.f
    rw [spec_right, decide_eq_false h]
    simp
  · unfold impl_DayAdd.f
    rw [impl_isDay_eval, decide_eq_false h]
    simp
theorem dayAdd_same (day n : Int) (n0 : -9223372036854775808 ≤ n) (n1 : n ≤ 9223372036854775807) : ∃ r : Int × Int, ∀ k, 300 ≤ k → spec_DayAdd.f k day n = some r ∧ impl_DayAdd.f k day n = some r := by
  by_cases h : 0 ≤ day ∧ day ≤ 36524
  · obtain ⟨y, m, d, hv, rfl⟩ := date_of day h.1 h.2
    exact ⟨addM y m d n, fun k hk => ⟨spec_add hv n0 n1 hk, impl_add hv n0 n1 hk⟩⟩
  · exact ⟨(0, 1), fun k _ => dayAdd_no day n h k⟩
end Go.Proofs.YtidlcolgiololaaDoor.Days
namespace Go.Proofs.YtidlcolgiololaaDoor.MulDiv
open Go.RowKit Go.Proofs.YtidlcolgiololaaDoor.S Go.Proofs.YtidlcolgiololaaDoorW.PrintWords Go.Proofs.YtidlcolgiololaaDoorW.PrintMore Go.Proofs.YtidlcolgiololaaDoor.Cal Go.Proofs.YtidlcolgiololaaDoor.Num
set_option linter.unusedVariables false
set_option linter.unusedSimpArgs false
def up (q r c : Int) : Int := if c < 2 * r then q + 1 else if 2 * r = c then (if q % 2 = 1 then q + 1 else q) else q
theorem up_le (q r c : Int) : q ≤ up q r c ∧ up q r c ≤ q + 1 := by
  unfold up
  split
  · omega
  split
  · split <;> omega
  · omega
theorem up1 {q r c : Int} (h : c < 2 * r) : up q r c = q + 1 := if_pos h
theorem up2 {q r c : Int} (h : 2 * r = c) (o : q % 2 = 1) : up q r c = q + 1 := by
  unfold up
  rw [if_neg (by omega), if_pos h, if_pos o]
theorem up3 {q r c : Int} (h : 2 * r = c) (o : ¬ q % 2 = 1) : up q r c = q := by
  unfold up
  rw [if_neg (by omega), if_pos h, if_neg o]
theorem up4 {q r c : Int} (h : 2 * r < c) : up q r c = q := by
  unfold up
  rw [if_neg (by omega), if_neg (by omega)]
def near (a b c : Int) : Int := up (a * b / c) (a * b % c) c
def md (a b c : Int) : Int × Int := if near a b c ≤ 1000000000000 then (near a b c, 0) else (0, 13)
theorem md_range (a b c : Int) (a0 : 0 ≤ a) (b0 : 0 ≤ b) (c0 : 1 ≤ c) : 0 ≤ (md a b c).1 ∧ (md a b c).1 ≤ 1000000000000 := by
  have h : 0 ≤ a * b / c := Int.ediv_nonneg (Int.mul_nonneg a0 b0) (by omega)
  have := (up_le (a * b / c) (a * b % c) c).1
  unfold md
  split
  · exact ⟨by show 0 ≤ near a b c; unfold near; omega, by show near a b c ≤ _; assumption⟩
  · exact ⟨by decide, by decide⟩
theorem spec_money {a : Int} (a0 : 0 ≤ a) : spec_MoneyRight.f a = some (decide (a ≤ 1000000000000)) := by
  unfold spec_MoneyRight.f
  exact yes (by omega) rfl
theorem spec_out {a : Int} (a0 : 0 ≤ a) : spec_l02Out.f a = some (if a ≤ 1000000000000 then (a, 0) else (0, 13)) := by
  unfold spec_l02Out.f
  refine bnd (spec_money a0) ?_
  by_cases c : a ≤ 1000000000000
  · rw [decide_eq_true c, if_pos rfl, if_pos c]
  · rw [decide_eq_false c, if_neg (by decide), if_neg c]
theorem spec_near {a b c : Int} (a0 : 0 ≤ a) (a1 : a ≤ 1000000000000) (b0 : 0 ≤ b) (b1 : b ≤ 10000000000) (c0 : 1 ≤ c) (c1 : c ≤ 1000000000) :
    ∃ n, spec_l02Near.f a b c = some n ∧ 0 ≤ n ∧ (n = near a b c ∨ (1000000000000 < n ∧ 1000000000000 < near a b c)) := by
  obtain ⟨A, hA⟩ : ∃ A, A = a / 1000000 := ⟨_, rfl⟩
  obtain ⟨B, hB⟩ : ∃ B, B = a % 1000000 := ⟨_, rfl⟩
  have ha : a = A * 1000000 + B := by omega
  have S0 : 0 ≤ A * b := Int.mul_nonneg (by omega) b0
  have S1 : A * b ≤ 1000000 * 10000000000 := Int.mul_le_mul (by omega) b1 b0 (by omega)
  have T0 : 0 ≤ B * b := Int.mul_nonneg (by omega) b0
  have T1 : B * b ≤ 1000000 * 10000000000 := Int.mul_le_mul (by omega) b1 b0 (by omega)
  have h0 : 0 ≤ A * b / c := Int.ediv_nonneg S0 (by omega)
  have h1 : A * b / c ≤ A * b := Int.ediv_le_self _ S0
  have r0 := Int.emod_nonneg (A * b) (b := c) (by omega)
  have r1 := Int.emod_lt_of_pos (A * b) (b := c) (by omega)
  have d1 := Int.mul_ediv_add_emod (A * b) c
  obtain ⟨R, hR⟩ : ∃ R, R = A * b % c * 1000000 + B * b := ⟨_, rfl⟩
  have R0 : 0 ≤ R := by omega
  have R1 : R ≤ 20000000000000000 := by omega
  have p0 : 0 ≤ R / c := Int.ediv_nonneg R0 (by omega)
  have p1 : R / c ≤ R := Int.ediv_le_self _ R0
  have s0 := Int.emod_nonneg R (b := c) (by omega)
  have s1 := Int.emod_lt_of_pos R (b := c) (by omega)
  have d2 := Int.mul_ediv_add_emod R c
  obtain ⟨h, hh⟩ : ∃ h, h = A * b / c := ⟨_, rfl⟩
  obtain ⟨p, hp⟩ : ∃ p, p = R / c := ⟨_, rfl⟩
  obtain ⟨s, hs⟩ : ∃ s, s = R % c := ⟨_, rfl⟩
  obtain ⟨m, hm⟩ : ∃ m, m = A * b % c := ⟨_, rfl⟩
  rw [← hh] at h0 h1 d1
  rw [← hm] at r0 r1 d1 hR
  rw [← hp] at p0 p1 d2
  rw [← hs] at s0 s1 d2
  have eN : a * b = c * (h * 1000000 + p) + s := by
    have e1 : a * b = A * b * 1000000 + B * b := by rw [ha]; grind
    have e2 : c * (h * 1000000 + p) = c * h * 1000000 + c * p := by grind
    omega
  obtain ⟨g1, g2⟩ := div_eq eN s0 s1
  have en : near a b c = up (h * 1000000 + p) s c := by
    unfold near
    rw [g1, g2]
  have e1 : wrap64 (Int.tdiv a 1000000) = A := by rw [td a0, ← hA]; exact wid (by omega) (by omega)
  have e2 : wrap64 (A * b) = A * b := wid (by omega) (by omega)
  have e3 : wrap64 (Int.tdiv (A * b) c) = h := by rw [td S0, ← hh]; exact wid (by omega) (by omega)
  have e4 : Int.tmod (A * b) c = m := by rw [tm S0, ← hm]
  have e5 : wrap64 (m * 1000000) = m * 1000000 := wid (by omega) (by omega)
  have e6 : Int.tmod a 1000000 = B := by rw [tm a0, ← hB]
  have e7 : wrap64 (B * b) = B * b := wid (by omega) (by omega)
  have e8 : wrap64 (m * 1000000 + B * b) = R := by rw [← hR]; exact wid (by omega) (by omega)
  have e9 : Int.tmod R c = s := by rw [tm R0, ← hs]
  have e10 : wrap64 (Int.tdiv R c) = p := by rw [td R0, ← hp]; exact wid (by omega) (by omega)
  have e11 : wrap64 (2 * s) = 2 * s := wid (by omega) (by omega)
  have e12 : wrap64 (p + 1) = p + 1 := wid (by omega) (by omega)
  unfold spec_l02Near.f
  rw [e1, e2, e3, e4, e5, e6, e7, e8, e9, e10, e11, e12, if_neg (by omega)]
  by_cases c2 : h > 2000000
  · rw [if_pos c2]
    refine ⟨_, rfl, by decide, Or.inr ⟨by decide, ?_⟩⟩
    rw [en]
    have := (up_le (h * 1000000 + p) s c).1
    omega
  rw [if_neg c2]
  have e13 : wrap64 (h * 1000000) = h * 1000000 := wid (by omega) (by omega)
  have e14 : wrap64 (h * 1000000 + p) = h * 1000000 + p := wid (by omega) (by omega)
  have e15 : wrap64 (h * 1000000 + (p + 1)) = h * 1000000 + p + 1 := by rw [wid (by omega) (by omega)]; omega
  rw [e13, e14, e15, tm (a := h * 1000000 + p) (by omega)]
  refine ⟨up (h * 1000000 + p) s c, ?_, ?_, Or.inl en.symm⟩
  · by_cases c3 : 2 * s > c
    · rw [if_pos c3, up1 c3]
    rw [if_neg c3]
    by_cases c4 : 2 * s = c
    · rw [if_pos c4]
      by_cases c5 : (h * 1000000 + p) % 2 = 1
      · rw [if_pos c5, up2 c4 c5]
      · rw [if_neg c5, up3 c4 c5]
    · rw [if_neg c4, up4 (by omega)]
  · have := (up_le (h * 1000000 + p) s c).1
    omega
theorem spec_md {a b c : Int} (a0 : 0 ≤ a) (a1 : a ≤ 1000000000000) (b0 : 0 ≤ b) (b1 : b ≤ 10000000000) (c0 : 1 ≤ c) (c1 : c ≤ 1000000000) (k : Nat) :
    spec_MulDiv.f (k + 1) a b c = some (md a b c) := by
  unfold spec_MulDiv.f
  refine bnd (spec_money a0) ?_
  refine yes (decide_eq_true a1) ?_
  refine no (by omega) ?_
  refine no (by omega) ?_
  refine no (by omega) ?_
  rw [decide_eq_false (by omega), spec_MulDiv.j0]
  refine no (by decide) ?_
  have e : spec_l02Abs.f a = some a := by
    unfold spec_l02Abs.f
    exact no (by omega) rfl
  refine bnd e ?_
  obtain ⟨n, hn, n0, hx⟩ := spec_near a0 a1 b0 b1 c0 c1
  refine bnd hn ?_
  refine no (by omega) ?_
  refine bnd (spec_out n0) ?_
  unfold md
  rcases hx with rfl | ⟨x, y⟩
  · split <;> rfl
  · rw [if_neg (by omega), if_neg (by omega)]
theorem in_money {a : Int} (a0 : 0 ≤ a) (a1 : a ≤ 1000000000000) : impl_MoneyRight.f a = some true := by
  unfold impl_MoneyRight.f impl_in.f
  rw [if_pos (by omega), decide_eq_true a1]
  rfl
theorem impl_md {a b c : Int} (a0 : 0 ≤ a) (a1 : a ≤ 1000000000000) (b0 : 0 ≤ b) (b1 : b ≤ 10000000000) (c0 : 1000 ≤ c) (c1 : c ≤ 1000000000) (k : Nat) :
    impl_MulDiv.f (k + 6) a b c = some (md a b c) := by
  have i1 : impl_in.f b 0 10000000000 = some true := by
    unfold impl_in.f
    rw [if_pos b0, decide_eq_true b1]
  have i2 : impl_in.f c 1 1000000000 = some true := by
    unfold impl_in.f
    rw [if_pos (by omega), decide_eq_true c1]
  have N0 : 0 ≤ a * b := Int.mul_nonneg a0 b0
  have N1 : a * b ≤ 1000000000000 * 10000000000 := Int.mul_le_mul a1 b1 b0 (by omega)
  have q0 : 0 ≤ a * b / c := Int.ediv_nonneg N0 (by omega)
  have r0 := Int.emod_nonneg (a * b) (b := c) (by omega)
  have r1 := Int.emod_lt_of_pos (a * b) (b := c) (by omega)
  have q1 : a * b / c < 18446744073709551615 := by
    refine Int.ediv_lt_of_lt_mul (by omega) ?_
    have := Int.mul_le_mul_of_nonneg_left c0 (show (0 : Int) ≤ 18446744073709551615 by decide)
    omega
  have d1 := Int.mul_ediv_add_emod (a * b) c
  have ul := up_le (a * b / c) (a * b % c) c
  unfold impl_MulDiv.f
  refine bnd (in_money a0 a1) ?_
  refine yes rfl ?_
  refine bnd i1 ?_
  refine yes rfl ?_
  refine bnd i2 ?_
  rw [impl_MulDiv.j0]
  refine no (by decide) ?_
  have e1 : IntKind.u64.wrap (mx a (wrap64 (-a))) = a := by
    rw [wid (by omega) (by omega)]
    unfold mx
    split
    · omega
    · exact u64_id a0 (by omega)
  have e2 : IntKind.u64.wrap b = b := u64_id b0 (by omega)
  have e3 : IntKind.u64.wrap c = c := u64_id (by omega) (by omega)
  rw [e1, e2, e3]
  refine bnd (mul64 a0 (by omega) b0 (by omega)) ?_
  simp only []
  by_cases big : a * b / 18446744073709551616 ≥ c
  · rw [if_pos big]
    have h1 : c * 18446744073709551616 ≤ a * b := by omega
    have h2 : 18446744073709551616 ≤ a * b / c := by
      refine Int.le_ediv_of_mul_le (by omega) ?_
      omega
    omega
  rw [if_neg big]
  have hd := div64 (hi := a * b / 18446744073709551616) (lo := a * b % 18446744073709551616) (c := c) (by omega) c1 (by omega) (by omega) (by omega) (by omega) k
  have e4 : a * b / 18446744073709551616 * 18446744073709551616 + a * b % 18446744073709551616 = a * b := by omega
  rw [e4] at hd
  refine bnd hd ?_
  simp only []
  have e5 : IntKind.u64.wrap (2 * (a * b % c)) = 2 * (a * b % c) := u64_id (by omega) (by omega)
  rw [e5]
  have fin : ∀ x, x = near a b c → impl_MulDiv.j2 (k + 4) a x = some (md a b c) := by
    intro x hx
    unfold md
    rw [← hx]
    have x0 : 0 ≤ x := by rw [hx]; unfold near; omega
    rw [impl_MulDiv.j2]
    by_cases c9 : x > 1000000000000
    · rw [if_pos c9, if_neg (by omega)]
    · rw [if_neg c9, if_neg (by omega), if_pos (by omega), wid (by omega) (by omega)]
  have j1t : near a b c = a * b / c + 1 → impl_MulDiv.j1 (k + 5) a (a * b / c) true = some (md a b c) := by
    intro h
    rw [impl_MulDiv.j1]
    refine yes rfl ?_
    rw [u64_id (by omega) (by omega)]
    exact fin _ h.symm
  have j1f : near a b c = a * b / c → impl_MulDiv.j1 (k + 5) a (a * b / c) false = some (md a b c) := by
    intro h
    rw [impl_MulDiv.j1]
    refine no (by decide) ?_
    exact fin _ h.symm
  by_cases c6 : 2 * (a * b % c) > c
  · rw [if_pos c6]
    exact j1t (up1 c6)
  rw [if_neg c6]
  by_cases c7 : 2 * (a * b % c) = c
  · rw [if_pos c7, tm q0]
    by_cases c8 : a * b / c % 2 = 1
    · rw [show (a * b / c % 2 == 1) = true from beq_iff_eq.mpr c8]
      exact j1t (up2 c7 c8)
    · rw [show (a * b / c % 2 == 1) = false from beq_eq_false_iff_ne.mpr c8]
      exact j1f (up3 c7 c8)
  · rw [if_neg c7]
    exact j1f (up4 (by omega))
end Go.Proofs.YtidlcolgiololaaDoor.MulDiv
namespace Go.Proofs.YtidlcolgiololaaDoor.Interest
open Go.RowKit Go.Proofs.YtidlcolgiololaaDoor.S Go.Proofs.YtidlcolgiololaaDoorW.PrintWords Go.Proofs.YtidlcolgiololaaDoorW.PrintMore Go.Proofs.YtidlcolgiololaaDoor.Cal Go.Proofs.YtidlcolgiololaaDoor.Days Go.Proofs.YtidlcolgiololaaDoor.Num Go.Proofs.YtidlcolgiololaaDoor.MulDiv
set_option linter.unusedVariables false
set_option linter.unusedSimpArgs false
theorem spec_j0 (k : Nat) (b x y : Int) : spec_Span.j0 (k + 1) b x y true = some (0, 1) := by
  rw [spec_Span.j0]
  exact yes rfl rfl
theorem impl_j0 (k : Nat) (b x y : Int) : impl_Span.j0 (k + 1) b x y true = some (0, 1) := by
  rw [impl_Span.j0]
  exact yes rfl rfl
theorem span_bad {b x y : Int} (h : ¬ (1 ≤ b ∧ b ≤ 3 ∧ (0 ≤ x ∧ x ≤ 36524) ∧ (0 ≤ y ∧ y ≤ 36524) ∧ x ≤ y)) (k : Nat) :
    spec_Span.f (k + 1) b x y = some (0, 1) ∧ impl_Span.f (k + 1) b x y = some (0, 1) := by
  constructor
  · unfold spec_Span.f
    by_cases c1 : b < 1
    · rw [if_pos c1, spec_j0]
    rw [if_neg c1]
    by_cases c2 : b > 3
    · rw [if_pos c2, spec_j0]
    rw [if_neg c2]
    refine bnd (spec_right x) ?_
    by_cases c3 : 0 ≤ x ∧ x ≤ 36524
    · refine yes (decide_eq_true c3) ?_
      refine bnd (spec_right y) ?_
      by_cases c4 : 0 ≤ y ∧ y ≤ 36524
      · refine yes (decide_eq_true c4) ?_
        rw [decide_eq_true (p := y < x) (by omega), spec_j0]
      · refine no (by rw [decide_eq_false c4]; decide) ?_
        rw [spec_j0]
    · refine no (by rw [decide_eq_false c3]; decide) ?_
      rw [spec_j0]
  · unfold impl_Span.f
    have eb : impl_isBasis.f b = some (decide (1 ≤ b ∧ b ≤ 3)) := by
      unfold impl_isBasis.f
      exact bnd (impl_in_eval b 1 3) rfl
    refine bnd eb ?_
    by_cases c1 : 1 ≤ b ∧ b ≤ 3
    · refine yes (decide_eq_true c1) ?_
      refine bnd (impl_isDay_eval x) ?_
      by_cases c3 : 0 ≤ x ∧ x ≤ 36524
      · refine yes (decide_eq_true c3) ?_
        refine bnd (impl_isDay_eval y) ?_
        by_cases c4 : 0 ≤ y ∧ y ≤ 36524
        · refine yes (decide_eq_true c4) ?_
          rw [decide_eq_true (p := y < x) (by omega), impl_j0]
        · refine no (by rw [decide_eq_false c4]; decide) ?_
          rw [impl_j0]
      · refine no (by rw [decide_eq_false c3]; decide) ?_
        rw [impl_j0]
    · refine no (by rw [decide_eq_false c1]; decide) ?_
      rw [impl_j0]
theorem span_good {b x y : Int} (b0 : 1 ≤ b) (b1 : b ≤ 3) (hx : 0 ≤ x ∧ x ≤ 36524) (hy : 0 ≤ y ∧ y ≤ 36524) (hxy : x ≤ y) (k : Nat) :
    spec_Span.f k b x y = spec_Span.j0 k b x y false ∧ impl_Span.f k b x y = impl_Span.j0 k b x y false := by
  constructor
  · unfold spec_Span.f
    refine no (by omega) ?_
    refine no (by omega) ?_
    refine bnd (spec_right x) ?_
    refine yes (decide_eq_true hx) ?_
    refine bnd (spec_right y) ?_
    refine yes (decide_eq_true hy) ?_
    rw [decide_eq_false (p := y < x) (by omega)]
  · unfold impl_Span.f
    have eb : impl_isBasis.f b = some (decide (1 ≤ b ∧ b ≤ 3)) := by
      unfold impl_isBasis.f
      exact bnd (impl_in_eval b 1 3) rfl
    refine bnd eb ?_
    refine yes (decide_eq_true ⟨b0, b1⟩) ?_
    refine bnd (impl_isDay_eval x) ?_
    refine yes (decide_eq_true hx) ?_
    refine bnd (impl_isDay_eval y) ?_
    refine yes (decide_eq_true hy) ?_
    rw [decide_eq_false (p := y < x) (by omega)]
theorem span12 {b x y : Int} (b0 : 1 ≤ b) (b1 : b ≤ 3) (c : b ≠ 3) (hx : 0 ≤ x ∧ x ≤ 36524) (hy : 0 ≤ y ∧ y ≤ 36524) (hxy : x ≤ y) {k : Nat} (hk : 300 ≤ k) :
    spec_Span.f k b x y = some (y - x, 0) ∧ impl_Span.f k b x y = some (y - x, 0) := by
  obtain ⟨j, rfl⟩ : ∃ j, k = j + 1 := ⟨k - 1, by omega⟩
  obtain ⟨e1, e2⟩ := span_good b0 b1 hx hy hxy (j + 1)
  rw [e1, e2, spec_Span.j0, impl_Span.j0]
  constructor
  · refine no (by decide) ?_
    refine no c ?_
    rw [wid (by omega) (by omega)]
  · refine no (by decide) ?_
    refine no c ?_
    rw [wid (by omega) (by omega)]
def mn30 (d : Int) : Int := if 30 < d then 30 else d
def d360 (y1 m1 d1 y2 m2 d2 : Int) : Int := 360 * (y2 - y1) + 30 * (m2 - m1) + mn30 d2 - mn30 d1
def pos (v : Int) : Int := if 0 > v then 0 else v
theorem span3 {y1 m1 d1 y2 m2 d2 : Int} (h1 : Valid y1 m1 d1) (h2 : Valid y2 m2 d2) (hxy : num y1 m1 d1 ≤ num y2 m2 d2) {k : Nat} (hk : 300 ≤ k) :
    spec_Span.f k 3 (num y1 m1 d1) (num y2 m2 d2) = some (pos (d360 y1 m1 d1 y2 m2 d2), 0) ∧ impl_Span.f k 3 (num y1 m1 d1) (num y2 m2 d2) = some (pos (d360 y1 m1 d1 y2 m2 d2), 0) := by
  have := h1.y0; have := h1.y1; have := h1.m0; have := h1.m1; have := h1.d0; have := d_le h1
  have := h2.y0; have := h2.y1; have := h2.m0; have := h2.m1; have := h2.d0; have := d_le h2
  unfold d360
  obtain ⟨e, he⟩ : ∃ e, e = mn30 d2 := ⟨_, rfl⟩
  obtain ⟨s, hs⟩ : ∃ s, s = mn30 d1 := ⟨_, rfl⟩
  have eb : 1 ≤ e ∧ e ≤ 30 := by rw [he]; unfold mn30; split <;> omega
  have sb : 1 ≤ s ∧ s ≤ 30 := by rw [hs]; unfold mn30; split <;> omega
  rw [← he, ← hs]
  obtain ⟨v, hv⟩ : ∃ v, v = 360 * (y2 - y1) + 30 * (m2 - m1) + e - s := ⟨_, rfl⟩
  have ev : wrap64 ((wrap64 ((wrap64 ((wrap64 (360 * (wrap64 (y2 - y1)))) + (wrap64 (30 * (wrap64 (m2 - m1)))))) + e)) - s) = v := by
    rw [wid (x := y2 - y1) (by omega) (by omega), wid (x := m2 - m1) (by omega) (by omega), wid (x := 360 * (y2 - y1)) (by omega) (by omega), wid (x := 30 * (m2 - m1)) (by omega) (by omega),
      wid (x := 360 * (y2 - y1) + 30 * (m2 - m1)) (by omega) (by omega), wid (x := 360 * (y2 - y1) + 30 * (m2 - m1) + e) (by omega) (by omega), wid (by omega) (by omega), hv]
  rw [← hv]
  obtain ⟨j, rfl⟩ : ∃ j, k = j + 1 := ⟨k - 1, by omega⟩
  obtain ⟨e1, e2⟩ := span_good (b := 3) (by omega) (by omega) (num_range h1) (num_range h2) hxy (j + 1)
  rw [e1, e2, spec_Span.j0, impl_Span.j0]
  constructor
  · refine no (by decide) ?_
    refine yes rfl ?_
    refine bnd (spec_date h1 (by omega)) ?_
    refine bnd (spec_date h2 (by omega)) ?_
    have f1 : spec_l01Min.f 30 d2 = some e := by
      unfold spec_l01Min.f
      rw [he]
      unfold mn30
      split <;> rfl
    have f2 : spec_l01Min.f 30 d1 = some s := by
      unfold spec_l01Min.f
      rw [hs]
      unfold mn30
      split <;> rfl
    refine bnd f1 ?_
    refine bnd f2 ?_
    simp only []
    rw [ev]
    have f3 : spec_l01Max.f 0 v = some (pos v) := by
      unfold spec_l01Max.f pos
      split <;> rfl
    exact bnd f3 rfl
  · refine no (by decide) ?_
    refine yes rfl ?_
    refine bnd (impl_date_eval h1 (by omega)) ?_
    refine bnd (impl_date_eval h2 (by omega)) ?_
    simp only []
    have f1 : mn d2 30 = e := by
      unfold mn
      rw [he]
      rfl
    have f2 : mn d1 30 = s := by
      unfold mn
      rw [hs]
      rfl
    rw [f1, f2, ev]
    rfl
theorem span_same (b x y : Int) : ∃ r : Int × Int, (∀ k, 300 ≤ k → spec_Span.f k b x y = some r ∧ impl_Span.f k b x y = some r) ∧ 0 ≤ r.1 ∧ r.1 ≤ 36600 := by
  by_cases g : 1 ≤ b ∧ b ≤ 3 ∧ (0 ≤ x ∧ x ≤ 36524) ∧ (0 ≤ y ∧ y ≤ 36524) ∧ x ≤ y
  case neg =>
    refine ⟨(0, 1), fun k hk => ?_, by decide, by decide⟩
    obtain ⟨j, rfl⟩ : ∃ j, k = j + 1 := ⟨k - 1, by omega⟩
    exact span_bad g j
  obtain ⟨b0, b1, hx, hy, hxy⟩ := g
  by_cases c : b = 3
  case neg => exact ⟨(y - x, 0), fun k hk => span12 b0 b1 c hx hy hxy hk, by show 0 ≤ y - x; omega, by show y - x ≤ 36600; omega⟩
  subst c
  obtain ⟨y1, m1, d1, h1, rfl⟩ := date_of x hx.1 hx.2
  obtain ⟨y2, m2, d2, h2, rfl⟩ := date_of y hy.1 hy.2
  have := h1.y0; have := h1.y1; have := h1.m0; have := h1.m1; have := h1.d0; have := d_le h1
  have := h2.y0; have := h2.y1; have := h2.m0; have := h2.m1; have := h2.d0; have := d_le h2
  refine ⟨(pos (d360 y1 m1 d1 y2 m2 d2), 0), fun k hk => span3 h1 h2 hxy hk, ?_, ?_⟩
  · show 0 ≤ pos _
    unfold pos
    split <;> omega
  · show pos _ ≤ 36600
    have e1 : mn30 d1 ≥ 0 := by unfold mn30; split <;> omega
    have e2 : mn30 d2 ≤ 30 := by unfold mn30; split <;> omega
    unfold pos d360
    split <;> omega
theorem md_bad {a b c : Int} (a0 : 0 ≤ a) (a1 : a ≤ 1000000000000) (b1 : 10000000000 < b) (k : Nat) :
    spec_MulDiv.f (k + 1) a b c = some (0, 1) ∧ impl_MulDiv.f (k + 1) a b c = some (0, 1) := by
  constructor
  · unfold spec_MulDiv.f
    refine bnd (spec_money a0) ?_
    refine yes (decide_eq_true a1) ?_
    refine no (by omega) ?_
    refine yes (by omega) ?_
    rw [spec_MulDiv.j0]
    exact yes rfl rfl
  · unfold impl_MulDiv.f
    refine bnd (in_money a0 a1) ?_
    refine yes rfl ?_
    refine bnd (impl_in_eval b 0 10000000000) ?_
    refine no (by rw [decide_eq_false (by omega)]; decide) ?_
    rw [impl_MulDiv.j0]
    exact yes rfl rfl
theorem md_same {a b c : Int} (a0 : 0 ≤ a) (a1 : a ≤ 1000000000000) (b0 : 0 ≤ b) (c0 : 1000 ≤ c) (c1 : c ≤ 1000000000) :
    ∃ r : Int × Int, (∀ k, 300 ≤ k → spec_MulDiv.f k a b c = some r ∧ impl_MulDiv.f k a b c = some r) ∧ 0 ≤ r.1 ∧ r.1 ≤ 1000000000000 := by
  by_cases g : b ≤ 10000000000
  · have h := md_range a b c a0 b0 (by omega)
    refine ⟨md a b c, fun k hk => ?_, h.1, h.2⟩
    obtain ⟨j, rfl⟩ : ∃ j, k = j + 6 := ⟨k - 6, by omega⟩
    exact ⟨spec_md a0 a1 b0 g (by omega) c1 (j + 5), impl_md a0 a1 b0 g c0 c1 j⟩
  · refine ⟨(0, 1), fun k hk => ?_, by decide, by decide⟩
    obtain ⟨j, rfl⟩ : ∃ j, k = j + 1 := ⟨k - 1, by omega⟩
    exact md_bad a0 a1 (by omega) j
theorem interest_val {a r b x y n : Int} (a0 : 0 ≤ a) (a1 : a ≤ 1000000000000) (r0 : 0 ≤ r) (r1 : r ≤ 1000000) (rn0 : 0 ≤ r * n) (rn1 : r * n ≤ 10000000000)
    (hs : ∀ k, 300 ≤ k → spec_Span.f k b x y = some (n, 0)) {k : Nat} (hk : 400 ≤ k) :
    spec_Interest.f k a r b x y = some (md a (r * n) (1000000 * (if b = 1 then 365 else 360))) := by
  obtain ⟨j, rfl⟩ : ∃ j, k = j + 2 := ⟨k - 2, by omega⟩
  unfold spec_Interest.f
  refine bnd (spec_money a0) ?_
  refine yes (decide_eq_true a1) ?_
  refine no (by omega) ?_
  refine bnd (a := true) ?_ ?_
  · unfold spec_l03Rate.f
    refine yes (by omega) ?_
    rw [decide_eq_true r1]
  rw [spec_Interest.j0]
  refine no (by decide) ?_
  refine bnd (hs (j + 1) (by omega)) ?_
  refine yes rfl ?_
  obtain ⟨Y, hY⟩ : ∃ Y : Int, Y = if b = 1 then 365 else 360 := ⟨_, rfl⟩
  have Yb : 360 ≤ Y ∧ Y ≤ 365 := by rw [hY]; split <;> omega
  have fy : spec_l03Year.f b = some Y := by
    unfold spec_l03Year.f
    rw [hY]
    split <;> rfl
  refine bnd fy ?_
  rw [← hY]
  simp only []
  rw [wid (x := r * n) (by omega) (by omega), wid (x := 1000000 * Y) (by omega) (by omega)]
  exact bnd (spec_md a0 a1 rn0 rn1 (by omega) (by omega) j) rfl
theorem interest_same (a r b x y : Int) : ∃ z : Int × Int, (∀ k, 400 ≤ k → spec_Interest.f k a r b x y = some z ∧ impl_Interest.f k a r b x y = some z) ∧ 0 ≤ z.1 ∧ z.1 ≤ 1000000000000 := by
  by_cases g : (0 ≤ a ∧ a ≤ 1000000000000) ∧ 0 ≤ r ∧ r ≤ 1000000
  case neg =>
    refine ⟨(0, 1), fun k hk => ?_, by decide, by decide⟩
    obtain ⟨j, rfl⟩ : ∃ j, k = j + 1 := ⟨k - 1, by omega⟩
    have s0 : spec_Interest.j0 (j + 1) a r b x y true = some (0, 1) := by
      rw [spec_Interest.j0]
      exact yes rfl rfl
    have i0 : impl_Interest.j0 (j + 1) a r b x y true = some (0, 1) := by
      rw [impl_Interest.j0]
      exact yes rfl rfl
    constructor
    · unfold spec_Interest.f
      by_cases c1 : a < -1000000000000
      · refine bnd (a := false) ?_ ?_
        · unfold spec_MoneyRight.f
          exact no (by omega) rfl
        · refine no (by decide) ?_
          exact s0
      by_cases c2 : a ≤ 1000000000000
      · refine bnd (a := true) ?_ ?_
        · unfold spec_MoneyRight.f
          refine yes (by omega) ?_
          rw [decide_eq_true c2]
        · refine yes rfl ?_
          by_cases c3 : a < 0
          · exact yes c3 s0
          · refine no c3 ?_
            refine bnd (a := false) ?_ s0
            unfold spec_l03Rate.f
            by_cases c4 : r ≥ 0
            · refine yes c4 ?_
              rw [decide_eq_false (by omega)]
            · exact no c4 rfl
      · refine bnd (a := false) ?_ ?_
        · unfold spec_MoneyRight.f
          refine yes (by omega) ?_
          rw [decide_eq_false c2]
        · refine no (by decide) ?_
          exact s0
    · unfold impl_Interest.f
      refine bnd (impl_in_eval a 0 1000000000000) ?_
      by_cases c1 : 0 ≤ a ∧ a ≤ 1000000000000
      · refine yes (decide_eq_true c1) ?_
        refine bnd (a := false) ?_ i0
        unfold impl_isRate.f
        refine bnd (impl_in_eval r 0 1000000) ?_
        rw [decide_eq_false (by omega)]
      · refine no (by rw [decide_eq_false c1]; decide) ?_
        exact i0
  obtain ⟨⟨a0, a1⟩, r0, r1⟩ := g
  have sf : ∀ k, spec_Interest.f k a r b x y = spec_Interest.j0 k a r b x y false := by
    intro k
    unfold spec_Interest.f
    refine bnd (spec_money a0) ?_
    refine yes (decide_eq_true a1) ?_
    refine no (by omega) ?_
    refine bnd (a := true) ?_ rfl
    unfold spec_l03Rate.f
    refine yes (by omega) ?_
    rw [decide_eq_true r1]
  have imf : ∀ k, impl_Interest.f k a r b x y = impl_Interest.j0 k a r b x y false := by
    intro k
    unfold impl_Interest.f
    refine bnd (impl_in_eval a 0 1000000000000) ?_
    refine yes (decide_eq_true ⟨a0, a1⟩) ?_
    refine bnd (a := true) ?_ rfl
    unfold impl_isRate.f
    refine bnd (impl_in_eval r 0 1000000) ?_
    rw [decide_eq_true ⟨r0, r1⟩]
  obtain ⟨⟨n, c⟩, hsp, n0, n1⟩ := span_same b x y
  simp only [] at n0 n1
  by_cases hc : c = 0
  case neg =>
    refine ⟨(0, c), fun k hk => ?_, by show (0 : Int) ≤ 0; decide, by show (0 : Int) ≤ 1000000000000; decide⟩
    obtain ⟨j, rfl⟩ : ∃ j, k = j + 1 := ⟨k - 1, by omega⟩
    rw [sf, imf, spec_Interest.j0, impl_Interest.j0]
    constructor
    · refine no (by decide) ?_
      refine bnd (hsp j (by omega)).1 ?_
      exact no hc rfl
    · refine no (by decide) ?_
      refine bnd (hsp j (by omega)).2 ?_
      exact no hc rfl
  have rn0 : 0 ≤ r * n := Int.mul_nonneg r0 n0
  have rn1 : r * n ≤ 1000000 * 36600 := Int.mul_le_mul r1 n1 n0 (by omega)
  obtain ⟨Y, hY⟩ : ∃ Y : Int, Y = if b = 1 then 365 else 360 := ⟨_, rfl⟩
  have Yb : 360 ≤ Y ∧ Y ≤ 365 := by rw [hY]; split <;> omega
  obtain ⟨z, hz, z0, z1⟩ := md_same (a := a) (b := r * n) (c := 1000000 * Y) a0 a1 rn0 (by omega) (by omega)
  refine ⟨z, fun k hk => ?_, z0, z1⟩
  obtain ⟨j, rfl⟩ : ∃ j, k = j + 1 := ⟨k - 1, by omega⟩
  have wr : wrap64 (r * n) = r * n := wid (by omega) (by omega)
  rw [sf, imf, spec_Interest.j0, impl_Interest.j0]
  constructor
  · refine no (by decide) ?_
    refine bnd (hsp j (by omega)).1 ?_
    refine yes hc ?_
    have fy : spec_l03Year.f b = some Y := by
      unfold spec_l03Year.f
      rw [hY]
      split <;> rfl
    refine bnd fy ?_
    simp only []
    rw [wr, wid (x := 1000000 * Y) (by omega) (by omega)]
    exact bnd (hz j (by omega)).1 rfl
  · refine no (by decide) ?_
    refine bnd (hsp j (by omega)).2 ?_
    refine yes hc ?_
    simp only []
    rw [wr]
    have h2 := (hz j (by omega)).2
    by_cases c1 : b = 1
    · refine yes c1 ?_
      rw [hY, if_pos c1] at h2
      exact bnd h2 rfl
    · refine no c1 ?_
      rw [hY, if_neg c1] at h2
      exact bnd h2 rfl
end Go.Proofs.YtidlcolgiololaaDoor.Interest
namespace Go.Proofs.YtidlcolgiololaaDoor.Loan
open Go.RowKit Go.Proofs.YtidlcolgiololaaDoor.S Go.Proofs.YtidlcolgiololaaDoorW.PrintWords Go.Proofs.YtidlcolgiololaaDoorW.PrintMore Go.Proofs.YtidlcolgiololaaDoor.Cal Go.Proofs.YtidlcolgiololaaDoor.Days Go.Proofs.YtidlcolgiololaaDoor.Num Go.Proofs.YtidlcolgiololaaDoor.MulDiv Go.Proofs.YtidlcolgiololaaDoor.Interest
set_option linter.unusedVariables false
set_option linter.unusedSimpArgs false
noncomputable def dd (s : Int) (i : Nat) : Int × Int :=
  if h : (i : Int) ≤ 9223372036854775807 then Classical.choose (dayAdd_same s i (by omega) h) else (0, 0)
theorem dd_spec (s : Int) {i : Nat} (hi : i ≤ 1000) {k : Nat} (hk : 300 ≤ k) : spec_DayAdd.f k s i = some (dd s i) ∧ impl_DayAdd.f k s i = some (dd s i) := by
  unfold dd
  rw [dif_pos (by omega)]
  exact Classical.choose_spec (dayAdd_same s i (by omega) (by omega)) k hk
theorem dd_0 {s : Int} (h0 : 0 ≤ s) (h1 : s ≤ 36524) : (dd s 0).1 = s := by
  obtain ⟨y, m, d, hv, rfl⟩ := date_of s h0 h1
  have h := (dd_spec (num y m d) (i := 0) (by omega) (k := 300) (by omega)).1
  rw [show ((0 : Nat) : Int) = 0 from rfl, spec_add hv (by omega) (by omega) (by omega)] at h
  rw [← Option.some.inj h]
  have y0 := hv.y0; have y1 := hv.y1; have m0 := hv.m0; have m1 := hv.m1; have d1 := hv.d1
  unfold addM
  rw [if_neg (by omega)]
  simp only []
  rw [if_neg (by omega)]
  have e1 : 2000 + (12 * (y - 2000) + m - 1 + 0) / 12 = y := by omega
  have e2 : (12 * (y - 2000) + m - 1 + 0) % 12 + 1 = m := by omega
  rw [e1, e2]
  have e3 : mn2 d (mlen y m) = d := by
    unfold mn2
    split <;> omega
  rw [e3]
noncomputable def ir (a r b x y : Int) : Int × Int := Classical.choose (interest_same a r b x y)
theorem ir_spec (a r b x y : Int) : (∀ k, 400 ≤ k → spec_Interest.f k a r b x y = some (ir a r b x y) ∧ impl_Interest.f k a r b x y = some (ir a r b x y)) ∧ 0 ≤ (ir a r b x y).1 ∧ (ir a r b x y).1 ≤ 1000000000000 :=
  Classical.choose_spec (interest_same a r b x y)
def mn3 (a b : Int) : Int := if a < b then a else b
theorem mn3_mn (a b : Int) : mn a b = mn3 a b := by
  unfold mn mn3
  split <;> split <;> omega
noncomputable def iv (r b s : Int) (i : Nat) (l : Int) : Int := (ir l r b (dd s i).1 (dd s (i + 1)).1).1
theorem iv_spec (r b s : Int) (i : Nat) (l : Int) : (∃ c, ∀ k, 400 ≤ k → spec_Interest.f k l r b (dd s i).1 (dd s (i + 1)).1 = some (iv r b s i l, c) ∧ impl_Interest.f k l r b (dd s i).1 (dd s (i + 1)).1 = some (iv r b s i l, c)) ∧ 0 ≤ iv r b s i l ∧ iv r b s i l ≤ 1000000000000 := by
  have h := ir_spec l r b (dd s i).1 (dd s (i + 1)).1
  unfold iv
  generalize ir l r b (dd s i).1 (dd s (i + 1)).1 = z at h
  exact ⟨⟨z.2, h.1⟩, h.2⟩
def nx (q l v : Int) : Int := l + v - mn3 q (l + v)
theorem nx_range {q l v : Int} (q0 : 0 ≤ q) (l0 : 0 ≤ l) (v0 : 0 ≤ v) : (0 ≤ nx q l v ∧ nx q l v ≤ l + v) ∧ 0 ≤ mn3 q (l + v) ∧ mn3 q (l + v) ≤ l + v := by
  unfold nx mn3
  split <;> omega
noncomputable def lf (p r b s q : Int) : Nat → Int
  | 0 => p
  | i + 1 => nx q (lf p r b s q i) (iv r b s i (lf p r b s q i))
noncomputable def rw42 (r b s q : Int) (i : Nat) (l : Int) : S158 := ⟨(dd s (i + 1)).1, iv r b s i l, mn3 q (l + iv r b s i l), nx q l (iv r b s i l)⟩
theorem rw42_3 (r b s q : Int) (i : Nat) (l : Int) : (rw42 r b s q i l).f3 = nx q l (iv r b s i l) := by
  dsimp only [rw42]
theorem lf_0 (p r b s q : Int) : lf p r b s q 0 = p := by rw [lf]
theorem lf_succ (p r b s q : Int) (i : Nat) : lf p r b s q (i + 1) = nx q (lf p r b s q i) (iv r b s i (lf p r b s q i)) := by rw [lf]
theorem lf_range {p r b s q : Int} (p0 : 0 ≤ p) (p1 : p ≤ 10000000000) (q0 : 0 ≤ q) : ∀ i : Nat, 0 ≤ lf p r b s q i ∧ lf p r b s q i ≤ 10000000000 + 1000000000000 * i
  | 0 => by
    rw [lf_0]
    omega
  | i + 1 => by
    have h := lf_range (r := r) (b := b) (s := s) p0 p1 q0 i
    rw [lf_succ]
    generalize lf p r b s q i = u at h
    have h2 := (iv_spec r b s i u).2
    generalize iv r b s i u = v at h2
    have := (nx_range q0 h.1 h2.1).1
    omega
noncomputable def due (s : Int) : Nat → List Int
  | 0 => []
  | n + 1 => due s n ++ [(dd s n).1]
theorem due_length (s : Int) : ∀ n, (due s n).length = n
  | 0 => rfl
  | n + 1 => by
    unfold due
    rw [List.length_append, due_length s n]
    rfl
theorem due_rd (s : Int) : ∀ (n i : Nat), i < n → rd (due s n) i = (dd s i).1
  | 0, i, h => by omega
  | n + 1, i, h => by
    unfold due rd
    rw [List.getD_eq_getElem?_getD, Int.toNat_natCast]
    by_cases c : i = n
    · subst c
      rw [List.getElem?_append_right (by rw [due_length]; exact Nat.le_refl _), due_length, Nat.sub_self]
      rfl
    · rw [List.getElem?_append_left (by rw [due_length]; omega)]
      have := due_rd s n i (by omega)
      unfold rd at this
      rw [List.getD_eq_getElem?_getD, Int.toNat_natCast] at this
      exact this
theorem spec_due (p r b s : Int) (T : Nat) (hT : T ≤ 60) : ∀ (n i k : Nat), i + n = T + 1 → 301 + n ≤ k →
    spec_l04Due.l0 k (due s i) (i : Int) p r b s (T : Int) = some (due s (T + 1))
  | 0, i, k, hi, hk => by
    obtain ⟨j, rfl⟩ : ∃ j, k = j + 1 := ⟨k - 1, by omega⟩
    rw [spec_l04Due.l0]
    refine no (by omega) ?_
    rw [show i = T + 1 by omega]
  | n + 1, i, k, hi, hk => by
    obtain ⟨j, rfl⟩ : ∃ j, k = j + 1 := ⟨k - 1, by omega⟩
    rw [spec_l04Due.l0]
    refine yes (by omega) ?_
    refine bnd (dd_spec s (i := i) (by omega) (k := j) (by omega)).1 ?_
    refine yes (by rw [due_length]; omega) ?_
    have e : wrap64 ((i : Int) + 1) = ((i + 1 : Nat) : Int) := by rw [wid (by omega) (by omega)]; omega
    rw [e]
    exact spec_due p r b s T hT n (i + 1) j (by omega) (by omega)
theorem spec_due_all (p r b s : Int) (T : Nat) (hT : T ≤ 60) {k : Nat} (hk : 400 ≤ k) : spec_l04Due.f k p r b s (T : Int) = some (due s (T + 1)) :=
  spec_due p r b s T hT (T + 1) 0 k (by omega) (by omega)
theorem spec_row (p r b s q : Int) (q0 : 0 ≤ q) (q1 : q ≤ 100000000000) (T i : Nat) (hT : T ≤ 60) (hi : i < T) (t u : Int) (u0 : 0 ≤ u) (u1 : u ≤ 100000000000000) {k : Nat} (hk : 400 ≤ k) :
    spec_l04Row.f k p r b s t (due s (T + 1)) ((i + 1 : Nat) : Int) u q =
      some ((dd s (i + 1)).1, iv r b s i u, mn3 q (u + iv r b s i u), nx q u (iv r b s i u)) := by
  obtain ⟨⟨c, hI⟩, v0, v1⟩ := iv_spec r b s i u
  generalize iv r b s i u = v at hI v0 v1 ⊢
  unfold spec_l04Row.f
  have e : wrap64 (((i + 1 : Nat) : Int) - 1) = (i : Int) := by rw [wid (by omega) (by omega)]; omega
  rw [e]
  refine yes (by omega) ?_
  refine yes (by rw [due_length]; omega) ?_
  refine yes (by omega) ?_
  refine yes (by rw [due_length]; omega) ?_
  rw [due_rd s (T + 1) i (by omega), due_rd s (T + 1) (i + 1) (by omega)]
  generalize (dd s i).1 = d0 at hI ⊢
  generalize (dd s (i + 1)).1 = d1 at hI ⊢
  refine bnd (hI k hk).1 ?_
  have nr := nx_range q0 u0 v0
  unfold nx at nr ⊢
  rw [wid (x := u + v) (by omega) (by omega)]
  have em : spec_l01Min.f q (u + v) = some (mn3 q (u + v)) := by
    unfold spec_l01Min.f mn3
    split <;> rfl
  refine bnd em ?_
  rw [wid (x := u + v - mn3 q (u + v)) (by omega) (by omega)]
theorem spec_left_l0 (p r b s q : Int) (p0 : 0 ≤ p) (p1 : p ≤ 10000000000) (q0 : 0 ≤ q) (q1 : q ≤ 100000000000) (T : Nat) (hT : T ≤ 60) : ∀ (n i k : Nat), i + n = T → 401 + n ≤ k →
    spec_l04Left.l0 k (due s (T + 1)) q (lf p r b s q i) ((i + 1 : Nat) : Int) p r b s (T : Int) = some (lf p r b s q T)
  | 0, i, k, hi, hk => by
    obtain ⟨j, rfl⟩ : ∃ j, k = j + 1 := ⟨k - 1, by omega⟩
    rw [spec_l04Left.l0]
    refine no (by omega) ?_
    rw [show i = T by omega]
  | n + 1, i, k, hi, hk => by
    obtain ⟨j, rfl⟩ : ∃ j, k = j + 1 := ⟨k - 1, by omega⟩
    rw [spec_l04Left.l0]
    refine yes (by omega) ?_
    have lr := lf_range (r := r) (b := b) (s := s) p0 p1 q0 i
    refine bnd (spec_row p r b s q q0 q1 T i hT (by omega) (T : Int) (lf p r b s q i) lr.1 (by omega) (k := j) (by omega)) ?_
    have e : wrap64 (((i + 1 : Nat) : Int) + 1) = ((i + 1 + 1 : Nat) : Int) := by rw [wid (by omega) (by omega)]; omega
    rw [e, ← lf_succ]
    exact spec_left_l0 p r b s q p0 p1 q0 q1 T hT n (i + 1) j (by omega) (by omega)
theorem spec_left (p r b s q : Int) (p0 : 0 ≤ p) (p1 : p ≤ 10000000000) (q0 : 0 ≤ q) (q1 : q ≤ 100000000000) (T : Nat) (hT : T ≤ 60) {k : Nat} (hk : 500 ≤ k) :
    spec_l04Left.f k p r b s (T : Int) (due s (T + 1)) q = some (lf p r b s q T) := by
  have h := spec_left_l0 p r b s q p0 p1 q0 q1 T hT T 0 k (by omega) (by omega)
  have e : lf p r b s q 0 = p := lf_0 p r b s q
  have e2 : ((0 + 1 : Nat) : Int) = 1 := rfl
  rw [e, e2] at h
  unfold spec_l04Left.f
  exact h
noncomputable def rowsF (p r b s q : Int) (i : Nat) : Nat → List S158
  | 0 => []
  | n + 1 => rw42 r b s q i (lf p r b s q i) :: rowsF p r b s q (i + 1) n
theorem rowsF_length (p r b s q : Int) : ∀ (n i : Nat), (rowsF p r b s q i n).length = n
  | 0, i => rfl
  | n + 1, i => by
    unfold rowsF
    rw [List.length_cons, rowsF_length p r b s q n]
theorem rowsF_get (p r b s q : Int) : ∀ (n i j : Nat), j < n → (rowsF p r b s q i n)[j]? = some (rw42 r b s q (i + j) (lf p r b s q (i + j)))
  | 0, i, j, h => by omega
  | n + 1, i, 0, h => rfl
  | n + 1, i, j + 1, h => by
    unfold rowsF
    rw [List.getElem?_cons_succ, rowsF_get p r b s q n (i + 1) j (by omega), show i + 1 + j = i + (j + 1) by omega]
theorem impl_rows_l0 (p r b s q : Int) (p0 : 0 ≤ p) (p1 : p ≤ 10000000000) (q0 : 0 ≤ q) (q1 : q ≤ 100000000000) (T : Nat) (hT : T ≤ 60) : ∀ (n i k : Nat) (acc : List S158), acc.length = i → i + n = T → 401 + n ≤ k →
    impl_Loan_rows.l0 k q acc (lf p r b s q i) (dd s i).1 ((i + 1 : Nat) : Int) p r b s (T : Int) = some (acc ++ rowsF p r b s q i n)
  | 0, i, k, acc, ha, hi, hk => by
    obtain ⟨j, rfl⟩ : ∃ j, k = j + 1 := ⟨k - 1, by omega⟩
    rw [impl_Loan_rows.l0]
    refine no (by omega) ?_
    rw [rowsF, List.append_nil]
  | n + 1, i, k, acc, ha, hi, hk => by
    obtain ⟨j, rfl⟩ : ∃ j, k = j + 1 := ⟨k - 1, by omega⟩
    have ih := impl_rows_l0 p r b s q p0 p1 q0 q1 T hT n (i + 1) j (acc ++ [rw42 r b s q i (lf p r b s q i)]) (by rw [List.length_append, ha]; rfl) (by omega) (by omega)
    rw [List.append_assoc, lf_succ] at ih
    rw [rowsF]
    have lr := lf_range (r := r) (b := b) (s := s) p0 p1 q0 i
    generalize lf p r b s q i = u at lr ih ⊢
    generalize rowsF p r b s q (i + 1) n = rest at ih ⊢
    unfold rw42 at ih ⊢
    obtain ⟨⟨c, hI⟩, v0, v1⟩ := iv_spec r b s i u
    generalize iv r b s i u = v at hI v0 v1 ih ⊢
    have hd := (dd_spec s (i := i + 1) (by omega) (k := j) (by omega)).2
    generalize dd s (i + 1) = d1 at hI hd ih ⊢
    generalize (dd s i).1 = d0 at hI ih ⊢
    rw [impl_Loan_rows.l0]
    refine yes (by omega) ?_
    refine bnd hd ?_
    refine bnd (hI j (by omega)).2 ?_
    refine yes (by omega) ?_
    have e : wrap64 (((i + 1 : Nat) : Int) + 1) = ((i + 1 + 1 : Nat) : Int) := by rw [wid (by omega) (by omega)]; omega
    have nr := nx_range q0 lr.1 v0
    unfold nx at nr ih
    rw [wid (x := u + v) (by omega) (by omega), e, mn3_mn, wid (x := u + v - mn3 q (u + v)) (by omega) (by omega)]
    exact ih
theorem impl_rows (p r b s q : Int) (p0 : 0 ≤ p) (p1 : p ≤ 10000000000) (q0 : 0 ≤ q) (q1 : q ≤ 100000000000) (s0 : 0 ≤ s) (s1 : s ≤ 36524) (T : Nat) (hT : T ≤ 60) {k : Nat} (hk : 500 ≤ k) :
    impl_Loan_rows.f k p r b s (T : Int) q = some (rowsF p r b s q 0 T) := by
  have h := impl_rows_l0 p r b s q p0 p1 q0 q1 T hT T 0 k [] rfl (by omega) (by omega)
  have e : lf p r b s q 0 = p := lf_0 p r b s q
  have e2 : ((0 + 1 : Nat) : Int) = 1 := rfl
  rw [dd_0 s0 s1, List.nil_append, e, e2] at h
  unfold impl_Loan_rows.f
  exact h
theorem impl_left (p r b s q : Int) (p0 : 0 ≤ p) (p1 : p ≤ 10000000000) (q0 : 0 ≤ q) (q1 : q ≤ 100000000000) (s0 : 0 ≤ s) (s1 : s ≤ 36524) (T : Nat) (hT0 : 1 ≤ T) (hT : T ≤ 60) {k : Nat} (hk : 500 ≤ k) :
    impl_Loan_left.f k p r b s (T : Int) q = some (lf p r b s q T) := by
  unfold impl_Loan_left.f
  refine bnd (impl_rows p r b s q p0 p1 q0 q1 s0 s1 T hT hk) ?_
  have e : wrap64 ((T : Int) - 1) = ((T - 1 : Nat) : Int) := by rw [wid (by omega) (by omega)]; omega
  rw [e]
  refine yes (by omega) ?_
  refine yes (by rw [rowsF_length]; omega) ?_
  unfold rd_T158
  rw [List.getD_eq_getElem?_getD, Int.toNat_natCast, rowsF_get p r b s q T 0 (T - 1) (by omega)]
  show some (rw42 r b s q (0 + (T - 1)) (lf p r b s q (0 + (T - 1)))).f3 = _
  rw [rw42_3, ← lf_succ, show 0 + (T - 1) + 1 = T by omega]
theorem right_true {p r b s t : Int} {k : Nat} (h : spec_LoanRight.f k p r b s t = some true) :
    (1 ≤ p ∧ p ≤ 10000000000) ∧ (0 ≤ r ∧ r ≤ 500000) ∧ (1 ≤ b ∧ b ≤ 3) ∧ (1 ≤ t ∧ t ≤ 60) ∧ (0 ≤ s ∧ s ≤ 36524) := by
  unfold spec_LoanRight.f at h
  rw [spec_right] at h
  by_cases c1 : p ≥ 1
  case neg => rw [if_neg c1] at h; simp at h
  rw [if_pos c1] at h
  by_cases c2 : p ≤ 10000000000
  case neg => rw [if_neg c2] at h; simp at h
  rw [if_pos c2] at h
  by_cases c3 : r ≥ 0
  case neg => rw [if_neg c3] at h; simp at h
  rw [if_pos c3] at h
  by_cases c4 : r ≤ 500000
  case neg => rw [if_neg c4] at h; simp at h
  rw [if_pos c4] at h
  by_cases c5 : b ≥ 1
  case neg => rw [if_neg c5] at h; simp at h
  rw [if_pos c5] at h
  by_cases c6 : b ≤ 3
  case neg => rw [if_neg c6] at h; simp at h
  rw [if_pos c6] at h
  by_cases c7 : t ≥ 1
  case neg => rw [if_neg c7] at h; simp at h
  rw [if_pos c7] at h
  by_cases c8 : t ≤ 60
  case neg => rw [if_neg c8] at h; simp at h
  rw [if_pos c8] at h
  by_cases c9 : 0 ≤ s ∧ s ≤ 36524
  case neg =>
    rw [decide_eq_false c9] at h
    simp at h
  exact ⟨⟨c1, c2⟩, ⟨c3, c4⟩, ⟨c5, c6⟩, ⟨c7, c8⟩, c9⟩
end Go.Proofs.YtidlcolgiololaaDoor.Loan
namespace Go.Proofs.YtidlcolgiololaaDoor.Inst
open Go.RowKit Go.Proofs.YtidlcolgiololaaDoor.S Go.Proofs.YtidlcolgiololaaDoorW.PrintWords Go.Proofs.YtidlcolgiololaaDoorW.PrintMore Go.Proofs.YtidlcolgiololaaDoor.Cal Go.Proofs.YtidlcolgiololaaDoor.Days Go.Proofs.YtidlcolgiololaaDoor.Num Go.Proofs.YtidlcolgiololaaDoor.MulDiv Go.Proofs.YtidlcolgiololaaDoor.Interest Go.Proofs.YtidlcolgiololaaDoor.Loan
set_option linter.unusedVariables false
set_option linter.unusedSimpArgs false
theorem month_step {t : Int} (t0 : 0 ≤ t) (t1 : t ≤ 1198) (d1 d2 : Int) :
    num (2000 + (t + 1) / 12) ((t + 1) % 12 + 1) d2 = num (2000 + t / 12) (t % 12 + 1) d1 + mlen (2000 + t / 12) (t % 12 + 1) + d2 - d1 := by
  unfold num
  by_cases c : t % 12 = 11
  · have e1 : (t + 1) / 12 = t / 12 + 1 := by omega
    have e2 : (t + 1) % 12 = 0 := by omega
    rw [e1, e2, c]
    have h1 := cum_succ (2000 + t / 12) (m := 12) (by omega) (by omega)
    have h2 := cum_13 (2000 + t / 12)
    have h3 := hd_succ (y := 2000 + t / 12) (by omega)
    have h4 := cum_1 (2000 + (t / 12 + 1))
    have e3 : 2000 + (t / 12 + 1) = 2000 + t / 12 + 1 := by omega
    rw [e3] at h4 ⊢
    have e4 : (0 : Int) + 1 = 1 := rfl
    have e5 : (11 : Int) + 1 = 12 := rfl
    have e6 : (12 : Int) + 1 = 13 := rfl
    rw [e4, e5]
    rw [e6] at h1
    omega
  · have e1 : (t + 1) / 12 = t / 12 := by omega
    have e2 : (t + 1) % 12 = t % 12 + 1 := by omega
    rw [e1, e2]
    have h1 := cum_succ (2000 + t / 12) (m := t % 12 + 1) (by omega) (by omega)
    omega
theorem due_step {s b : Int} (s0 : 0 ≤ s) (s1 : s ≤ 36524) (b0 : 1 ≤ b) (b1 : b ≤ 3) {T : Nat} (hT : T ≤ 60) (hc : (dd s T).2 = 0) {i : Nat} (hi : i < T) :
    ∃ n, 0 ≤ n ∧ n ≤ 34 ∧ ∀ k, 300 ≤ k → spec_Span.f k b (dd s i).1 (dd s (i + 1)).1 = some (n, 0) := by
  obtain ⟨y, m, d, hv, rfl⟩ := date_of s s0 s1
  have y0 := hv.y0; have y1 := hv.y1; have m0 := hv.m0; have m1 := hv.m1; have d0 := hv.d0; have d31 := d_le hv
  have hdd : ∀ j : Nat, j ≤ 60 → dd (num y m d) j = addM y m d j := by
    intro j hj
    have h := (dd_spec (num y m d) (i := j) (by omega) (k := 300) (by omega)).1
    rw [spec_add hv (by omega) (by omega) (by omega)] at h
    exact (Option.some.inj h).symm
  have hT2 : 12 * (y - 2000) + m - 1 + (T : Int) ≤ 1199 := by
    rw [hdd T hT] at hc
    unfold addM at hc
    rw [if_neg (by omega)] at hc
    simp only [] at hc
    by_cases c : 12 * (y - 2000) + m - 1 + (T : Int) < 0 ∨ 1199 < 12 * (y - 2000) + m - 1 + (T : Int)
    · rw [if_pos c] at hc
      exact absurd hc (by decide)
    · omega
  obtain ⟨t, ht⟩ : ∃ t, t = 12 * (y - 2000) + m - 1 + (i : Int) := ⟨_, rfl⟩
  have ei : (dd (num y m d) i).1 = num (2000 + t / 12) (t % 12 + 1) (mn2 d (mlen (2000 + t / 12) (t % 12 + 1))) := by
    rw [hdd i (by omega)]
    unfold addM
    rw [if_neg (by omega)]
    simp only []
    rw [← ht, if_neg (by omega)]
  have ei1 : (dd (num y m d) (i + 1)).1 = num (2000 + (t + 1) / 12) ((t + 1) % 12 + 1) (mn2 d (mlen (2000 + (t + 1) / 12) ((t + 1) % 12 + 1))) := by
    rw [hdd (i + 1) (by omega)]
    unfold addM
    rw [if_neg (by omega)]
    simp only []
    have e : 12 * (y - 2000) + m - 1 + ((i + 1 : Nat) : Int) = t + 1 := by omega
    rw [e, if_neg (by omega)]
  have v1 := addM_valid hv (t := t) (by omega) (by omega)
  have v2 := addM_valid hv (t := t + 1) (by omega) (by omega)
  have st := month_step (t := t) (by omega) (by omega) (mn2 d (mlen (2000 + t / 12) (t % 12 + 1))) (mn2 d (mlen (2000 + (t + 1) / 12) ((t + 1) % 12 + 1)))
  have l1 := mlen_range (2000 + t / 12) (t % 12 + 1)
  have l2 := mlen_range (2000 + (t + 1) / 12) ((t + 1) % 12 + 1)
  have n1 := num_range v1
  have n2 := num_range v2
  rw [ei, ei1]
  have ym : 360 * (2000 + (t + 1) / 12 - (2000 + t / 12)) + 30 * ((t + 1) % 12 + 1 - (t % 12 + 1)) = 30 := by omega
  generalize mlen (2000 + t / 12) (t % 12 + 1) = L1 at st l1 n1 v1 ⊢
  generalize mlen (2000 + (t + 1) / 12) ((t + 1) % 12 + 1) = L2 at st l2 n2 v2 ⊢
  have df : 0 ≤ L1 + mn2 d L2 - mn2 d L1 ∧ L1 + mn2 d L2 - mn2 d L1 ≤ 34 := by
    unfold mn2
    split <;> split <;> omega
  by_cases c : b = 3
  · subst c
    refine ⟨pos (d360 (2000 + t / 12) (t % 12 + 1) (mn2 d L1) (2000 + (t + 1) / 12) ((t + 1) % 12 + 1) (mn2 d L2)), ?_, ?_, fun k hk => (span3 v1 v2 (by omega) hk).1⟩
    · unfold pos
      split <;> omega
    · have e1 : mn30 (mn2 d L2) - mn30 (mn2 d L1) ≤ 4 := by
        have f1 : mn2 d L2 ≤ mn2 d L1 + 4 := by
          unfold mn2
          split <;> split <;> omega
        have f2 : ∀ x y : Int, x ≤ y + 4 → mn30 x - mn30 y ≤ 4 := by
          intro x y h
          unfold mn30
          split <;> split <;> omega
        exact f2 _ _ f1
      unfold pos d360
      split <;> omega
  · refine ⟨num (2000 + (t + 1) / 12) ((t + 1) % 12 + 1) (mn2 d L2) - num (2000 + t / 12) (t % 12 + 1) (mn2 d L1), by omega, by omega, fun k hk => (span12 b0 b1 c n1 n2 (by omega) hk).1⟩
theorem up_mono {q r q' r' c : Int} (h : q < q' ∨ (q = q' ∧ r ≤ r')) : up q r c ≤ up q' r' c := by
  rcases h with h | ⟨rfl, h⟩
  · have a := (up_le q r c).2
    have b := (up_le q' r' c).1
    omega
  · by_cases c1 : c < 2 * r
    · rw [up1 c1, up1 (by omega)]
      exact Int.le_refl _
    · by_cases c2 : 2 * r = c
      · by_cases c3 : c < 2 * r'
        · rw [up1 c3]
          exact (up_le q r c).2
        · have e : r = r' := by omega
          rw [e]
          exact Int.le_refl _
      · rw [up4 (by omega)]
        exact (up_le q r' c).1
theorem near_mono {a a' b c : Int} (h : a ≤ a') (b0 : 0 ≤ b) (c0 : 1 ≤ c) : near a b c ≤ near a' b c := by
  have hN : a * b ≤ a' * b := Int.mul_le_mul_of_nonneg_right h b0
  have hq : a * b / c ≤ a' * b / c := Int.ediv_le_ediv (by omega) hN
  unfold near
  refine up_mono ?_
  by_cases e : a * b / c = a' * b / c
  · refine Or.inr ⟨e, ?_⟩
    have d1 := Int.mul_ediv_add_emod (a * b) c
    have d2 := Int.mul_ediv_add_emod (a' * b) c
    rw [e] at d1
    omega
  · exact Or.inl (by omega)
theorem near_0 {b c : Int} (c0 : 1 ≤ c) : near 0 b c = 0 := by
  unfold near
  rw [Int.zero_mul, Int.zero_ediv, Int.zero_emod]
  exact up4 (by omega)
theorem near_small {a n c : Int} (a0 : 0 ≤ a) (n0 : 0 ≤ n) (n1 : n ≤ 17000000) (c0 : 360000000 ≤ c) : near a n c * 360 ≤ 17 * a + 360 ∧ 0 ≤ near a n c := by
  have hq : a * n / c * c ≤ a * n := Int.ediv_mul_le _ (by omega)
  have q0 : 0 ≤ a * n / c := Int.ediv_nonneg (Int.mul_nonneg a0 n0) (by omega)
  have h1 : a * n ≤ a * 17000000 := Int.mul_le_mul_of_nonneg_left n1 a0
  have h2 : a * n / c * 360000000 ≤ a * n / c * c := Int.mul_le_mul_of_nonneg_left c0 q0
  have u := up_le (a * n / c) (a * n % c) c
  unfold near
  omega
structure Good (p r b s : Int) (T : Nat) : Prop where
  p0 : 1 ≤ p
  p1 : p ≤ 10000000000
  r0 : 0 ≤ r
  r1 : r ≤ 500000
  b0 : 1 ≤ b
  b1 : b ≤ 3
  s0 : 0 ≤ s
  s1 : s ≤ 36524
  t0 : 1 ≤ T
  t1 : T ≤ 60
  hc : (dd s T).2 = 0
theorem iv_val {p r b s : Int} {T : Nat} (g : Good p r b s T) {i : Nat} (hi : i < T) : ∃ n c, 0 ≤ n ∧ n ≤ 17000000 ∧ 360000000 ≤ c ∧ ∀ l, 0 ≤ l → l ≤ 1000000000000 → iv r b s i l = near l n c := by
  obtain ⟨n, n0, n1, hs⟩ := due_step g.s0 g.s1 g.b0 g.b1 g.t1 g.hc hi
  have r0 := g.r0; have r1 := g.r1
  have m0 : 0 ≤ r * n := Int.mul_nonneg r0 n0
  have m1 : r * n ≤ 500000 * 34 := Int.mul_le_mul r1 n1 n0 (by omega)
  obtain ⟨Y, hY⟩ : ∃ Y : Int, Y = if b = 1 then 365 else 360 := ⟨_, rfl⟩
  have Yb : 360 ≤ Y ∧ Y ≤ 365 := by rw [hY]; split <;> omega
  refine ⟨r * n, 1000000 * Y, m0, by omega, by omega, fun l l0 l1 => ?_⟩
  obtain ⟨⟨c, hI⟩, _⟩ := iv_spec r b s i l
  have h1 := (hI 400 (by omega)).1
  rw [interest_val l0 l1 r0 (by omega) m0 (by omega) hs (by omega), ← hY] at h1
  have h2 := near_small (a := l) (n := r * n) (c := 1000000 * Y) l0 m0 (by omega) (by omega)
  unfold md at h1
  rw [if_pos (by omega)] at h1
  have h3 := Option.some.inj h1
  exact (congrArg Prod.fst h3).symm
def cap : Nat → Int
  | 0 => 10000000000
  | i + 1 => (377 * cap i + 360) / 360 + 1
theorem cap_small : ∀ i : Fin 61, cap i.val ≤ 1000000000000 := by decide +kernel
theorem lf_cap {p r b s q : Int} {T : Nat} (g : Good p r b s T) (q0 : 0 ≤ q) : ∀ i : Nat, i ≤ T → 0 ≤ lf p r b s q i ∧ lf p r b s q i ≤ cap i
  | 0, _ => by
    have := g.p0; have := g.p1
    rw [lf_0, cap]
    omega
  | i + 1, hi => by
    have h := lf_cap g q0 i (by omega)
    have hc := cap_small ⟨i, by have := g.t1; omega⟩
    simp only [] at hc
    obtain ⟨n, c, n0, n1, c0, hv⟩ := iv_val g (i := i) (by omega)
    rw [lf_succ, hv _ h.1 (by omega), cap]
    have h2 := near_small (a := lf p r b s q i) h.1 n0 n1 c0
    have h3 := (nx_range (q := q) (l := lf p r b s q i) (v := near (lf p r b s q i) n c) q0 h.1 h2.2).1
    omega
theorem lf_lt {p r b s q : Int} {T : Nat} (g : Good p r b s T) (q0 : 0 ≤ q) {i : Nat} (hi : i ≤ T) : 0 ≤ lf p r b s q i ∧ lf p r b s q i ≤ 1000000000000 := by
  have h := lf_cap g q0 i hi
  have hc := cap_small ⟨i, by have := g.t1; omega⟩
  simp only [] at hc
  omega
theorem nx_anti {q q' l l' v v' : Int} (hq : q ≤ q') (hl : l' ≤ l) (hv : v' ≤ v) : nx q' l' v' ≤ nx q l v := by
  unfold nx mn3
  split <;> split <;> omega
theorem lf_anti {p r b s q q' : Int} {T : Nat} (g : Good p r b s T) (q0 : 0 ≤ q) (hq : q ≤ q') : ∀ i : Nat, i ≤ T → lf p r b s q' i ≤ lf p r b s q i
  | 0, _ => by rw [lf_0, lf_0]; omega
  | i + 1, hi => by
    have h := lf_anti g q0 hq i (by omega)
    have a := lf_lt g q0 (i := i) (by omega)
    have a' := lf_lt g (q := q') (by omega) (i := i) (by omega)
    obtain ⟨n, c, n0, n1, c0, hv⟩ := iv_val g (i := i) (by omega)
    rw [lf_succ, lf_succ, hv _ a.1 a.2, hv _ a'.1 a'.2]
    exact nx_anti hq h (near_mono h n0 (by omega))
theorem lf_zero {p r b s q : Int} {T : Nat} (g : Good p r b s T) (hq : 20000000000 ≤ q) : ∀ i : Nat, i + 1 ≤ T → lf p r b s q (i + 1) = 0
  | 0, hi => by
    have a := lf_lt g (q := q) (by omega) (i := 0) (by omega)
    obtain ⟨n, c, n0, n1, c0, hv⟩ := iv_val g (i := 0) (by omega)
    rw [lf_succ, hv _ a.1 a.2]
    have h2 := near_small (a := lf p r b s q 0) a.1 n0 n1 c0
    have := g.p1
    have e : lf p r b s q 0 = p := lf_0 p r b s q
    rw [e] at h2 ⊢
    unfold nx mn3
    split <;> omega
  | i + 1, hi => by
    have h := lf_zero g hq i (by omega)
    obtain ⟨n, c, n0, n1, c0, hv⟩ := iv_val g (i := i + 1) (by omega)
    rw [lf_succ, h, hv 0 (by omega) (by omega), near_0 (by omega)]
    unfold nx mn3
    split <;> omega
theorem least (P : Nat → Prop) : ∀ n, P n → ∃ m, m ≤ n ∧ P m ∧ ∀ j, j < m → ¬ P j := by
  intro n
  induction n using Nat.strongRecOn with
  | _ n ih =>
    intro hn
    by_cases c : ∃ j, j < n ∧ P j
    · obtain ⟨j, hj, hP⟩ := c
      obtain ⟨m, h1, h2, h3⟩ := ih j hj hP
      exact ⟨m, by omega, h2, h3⟩
    · exact ⟨n, Nat.le_refl _, hn, fun j hj hP => c ⟨j, hj, hP⟩⟩
theorem least_pay {p r b s : Int} {T : Nat} (g : Good p r b s T) : ∃ X : Int, 0 ≤ X ∧ X ≤ 20000000000 ∧ ∀ q, 0 ≤ q → (lf p r b s q T = 0 ↔ X ≤ q) := by
  obtain ⟨j, hj⟩ : ∃ j, T = j + 1 := ⟨T - 1, by have := g.t0; omega⟩
  have top : lf p r b s ((20000000000 : Nat) : Int) T = 0 := by
    rw [hj]
    exact lf_zero g (by omega) j (by omega)
  obtain ⟨m, h1, h2, h3⟩ := least (fun n => lf p r b s (n : Int) T = 0) 20000000000 top
  refine ⟨m, by omega, by omega, fun q q0 => ⟨fun h => ?_, fun h => ?_⟩⟩
  · by_cases c : (m : Int) ≤ q
    · exact c
    · exfalso
      refine h3 q.toNat (by omega) ?_
      show lf p r b s ((q.toNat : Nat) : Int) T = 0
      rw [Int.toNat_of_nonneg q0]
      exact h
  · have a := lf_anti g (q := (m : Int)) (q' := q) (by omega) h T (Nat.le_refl _)
    have hb := (lf_lt g q0 (i := T) (Nat.le_refl _)).1
    have h2' : lf p r b s (m : Int) T = 0 := h2
    omega
theorem half {lo hi : Int} (h0 : 0 ≤ lo) (h1 : lo < hi) (h2 : hi ≤ 40000000000) : wrap64 (Int.tdiv (wrap64 (lo + hi)) 2) = (lo + hi) / 2 ∧ wrap64 ((lo + hi) / 2 + 1) = (lo + hi) / 2 + 1 := by
  rw [wid (x := lo + hi) (by omega) (by omega), td (by omega)]
  exact ⟨wid (by omega) (by omega), wid (by omega) (by omega)⟩
theorem spec_search {p r b s X : Int} {T : Nat} (g : Good p r b s T) (hX : ∀ q, 0 ≤ q → (lf p r b s q T = 0 ↔ X ≤ q)) : ∀ (n k : Nat) (lo hi : Int), hi - lo < 2 ^ n → 0 ≤ lo → lo ≤ X → X ≤ hi → hi ≤ 40000000000 → 501 + n ≤ k →
    spec_l04Instalment.l0 k (Loan.due s (T + 1)) lo hi p r b s (T : Int) = some X
  | n, k, lo, hi, hn, h0, h1, h2, h3, hk => by
    obtain ⟨j, rfl⟩ : ∃ j, k = j + 1 := ⟨k - 1, by omega⟩
    rw [spec_l04Instalment.l0]
    by_cases c : lo < hi
    · refine yes c ?_
      obtain ⟨e1, e2⟩ := half h0 c h3
      have gp := g.p0; have gp1 := g.p1
      rw [e1, e2]
      refine bnd (spec_left p r b s ((lo + hi) / 2) (by omega) gp1 (by omega) (by omega) T g.t1 (k := j) (by omega)) ?_
      match n, hn with
      | 0, hn =>
        have : (2 : Int) ^ 0 = 1 := rfl
        omega
      | n + 1, hn =>
        have e3 : (2 : Int) ^ (n + 1) = 2 ^ n * 2 := Int.pow_succ _ _
        by_cases z : lf p r b s ((lo + hi) / 2) T = 0
        · refine yes z ?_
          have := (hX _ (by omega)).1 z
          exact spec_search g hX n j lo ((lo + hi) / 2) (by omega) h0 h1 this (by omega) (by omega)
        · refine no z ?_
          have : ¬ X ≤ (lo + hi) / 2 := fun h => z ((hX _ (by omega)).2 h)
          exact spec_search g hX n j ((lo + hi) / 2 + 1) hi (by omega) (by omega) (by omega) h2 h3 (by omega)
    · refine no c ?_
      rw [show lo = X by omega]
theorem impl_search {p r b s X : Int} {T : Nat} (g : Good p r b s T) (hX : ∀ q, 0 ≤ q → (lf p r b s q T = 0 ↔ X ≤ q)) : ∀ (n k : Nat) (lo hi : Int), hi - lo < 2 ^ n → 0 ≤ lo → lo ≤ X → X ≤ hi → hi ≤ 40000000000 → 501 + n ≤ k →
    impl_Loan_instalment.l0 k lo hi p r b s (T : Int) = some X
  | n, k, lo, hi, hn, h0, h1, h2, h3, hk => by
    obtain ⟨j, rfl⟩ : ∃ j, k = j + 1 := ⟨k - 1, by omega⟩
    rw [impl_Loan_instalment.l0]
    by_cases c : lo < hi
    · refine yes c ?_
      obtain ⟨e1, e2⟩ := half h0 c h3
      have gp := g.p0; have gp1 := g.p1
      rw [e1, e2]
      refine bnd (impl_left p r b s ((lo + hi) / 2) (by omega) gp1 (by omega) (by omega) g.s0 g.s1 T g.t0 g.t1 (k := j) (by omega)) ?_
      match n, hn with
      | 0, hn =>
        have : (2 : Int) ^ 0 = 1 := rfl
        omega
      | n + 1, hn =>
        have e3 : (2 : Int) ^ (n + 1) = 2 ^ n * 2 := Int.pow_succ _ _
        by_cases z : lf p r b s ((lo + hi) / 2) T = 0
        · refine yes z ?_
          have := (hX _ (by omega)).1 z
          exact impl_search g hX n j lo ((lo + hi) / 2) (by omega) h0 h1 this (by omega) (by omega)
        · refine no z ?_
          have : ¬ X ≤ (lo + hi) / 2 := fun h => z ((hX _ (by omega)).2 h)
          exact impl_search g hX n j ((lo + hi) / 2 + 1) hi (by omega) (by omega) (by omega) h2 h3 (by omega)
    · refine no c ?_
      rw [show lo = X by omega]
theorem instalment_same {p r b s : Int} {T : Nat} (g : Good p r b s T) : ∃ X : Int, 0 ≤ X ∧ X ≤ 20000000000 ∧ ∀ k, 600 ≤ k →
    spec_l04Instalment.f k p r b s (T : Int) (Loan.due s (T + 1)) = some X ∧ impl_Loan_instalment.f k p r b s (T : Int) = some X := by
  obtain ⟨X, X0, X1, hX⟩ := least_pay g
  refine ⟨X, X0, X1, fun k hk => ?_⟩
  constructor
  · unfold spec_l04Instalment.f
    exact spec_search g hX 36 k 0 20000000000 (by decide) (by omega) X0 X1 (by omega) (by omega)
  · unfold impl_Loan_instalment.f
    exact impl_search g hX 36 k 0 40000000000 (by decide) (by omega) X0 (by omega) (by omega) (by omega)
end Go.Proofs.YtidlcolgiololaaDoor.Inst
namespace Go.Proofs.YtidlcolgiololaaDoor.LoanSame
open Go.RowKit Go.Proofs.YtidlcolgiololaaDoor.S Go.Proofs.YtidlcolgiololaaDoorW.PrintWords Go.Proofs.YtidlcolgiololaaDoor.Cal Go.Proofs.YtidlcolgiololaaDoor.Days
set_option linter.unusedSimpArgs false
theorem loanRight_same (p r b s t : Int) (t0 : -9223372036854775808 ≤ t) (t1 : t ≤ 9223372036854775807) : ∃ x : Bool, ∀ k, 300 ≤ k → spec_LoanRight.f k p r b s t = some x ∧ impl_LoanRight.f k p r b s t = some x := by
  obtain ⟨q, hq⟩ := dayAdd_same s t t0 t1
  refine ⟨decide (1 ≤ p ∧ p ≤ 10000000000 ∧ 0 ≤ r ∧ r ≤ 500000 ∧ 1 ≤ b ∧ b ≤ 3 ∧ 1 ≤ t ∧ t ≤ 60 ∧ q.2 = 0), fun k hk => ?_⟩
  obtain ⟨h1, h2⟩ := hq k hk
  have hday : ¬ (0 ≤ s ∧ s ≤ 36524) → q.2 ≠ 0 := by
    intro h
    have := (dayAdd_no s t h k).1
    rw [h1] at this
    rw [Option.some.inj this]
    decide
  have e : ∀ (c : Prop) [Decidable c] (x : Bool), (if c then some x else some false) = some (decide c && x) := by
    intro c _ x
    split <;> simp_all
  constructor
  · unfold spec_LoanRight.f
    rw [spec_right, h1]
    simp only [Option.bind_some, e]
    congr 1
    by_cases hd : 0 ≤ s ∧ s ≤ 36524
    · rw [Bool.eq_iff_iff]
      simp [hd]
    · have := hday hd
      rw [Bool.eq_iff_iff]
      simp [hd, this]
  · unfold impl_LoanRight.f impl_isBasis.f
    rw [impl_in_eval, impl_in_eval, impl_in_eval, impl_in_eval, h2]
    simp only [Option.bind_some, e]
    congr 1
    rw [Bool.eq_iff_iff]
    simp [and_assoc]
end Go.Proofs.YtidlcolgiololaaDoor.LoanSame
namespace Go.Proofs.YtidlcolgiololaaDoor.LoanGood
open Go.RowKit Go.Proofs.YtidlcolgiololaaDoor.S Go.Proofs.YtidlcolgiololaaDoorW.PrintWords Go.Proofs.YtidlcolgiololaaDoorW.PrintMore Go.Proofs.YtidlcolgiololaaDoor.Cal Go.Proofs.YtidlcolgiololaaDoor.Days Go.Proofs.YtidlcolgiololaaDoor.Num Go.Proofs.YtidlcolgiololaaDoor.MulDiv Go.Proofs.YtidlcolgiololaaDoor.Interest Go.Proofs.YtidlcolgiololaaDoor.Loan Go.Proofs.YtidlcolgiololaaDoor.Inst Go.Proofs.YtidlcolgiololaaDoor.LoanSame
set_option linter.unusedVariables false
set_option linter.unusedSimpArgs false
theorem good_of {p r b s t : Int} (h : spec_LoanRight.f 300 p r b s t = some true) : ∃ T : Nat, t = (T : Int) ∧ Inst.Good p r b s T := by
  obtain ⟨⟨p0, p1⟩, ⟨r0, r1⟩, ⟨b0, b1⟩, ⟨t0, t1⟩, s0, s1⟩ := right_true h
  obtain ⟨T, rfl⟩ : ∃ T : Nat, t = (T : Int) := ⟨t.toNat, by omega⟩
  refine ⟨T, rfl, p0, p1, r0, r1, b0, b1, s0, s1, by omega, by omega, ?_⟩
  unfold spec_LoanRight.f at h
  rw [if_pos (by omega), if_pos p1, if_pos (by omega), if_pos r1, if_pos (by omega), if_pos b1, if_pos (by omega), if_pos t1, spec_right, decide_eq_true ⟨s0, s1⟩] at h
  rw [Option.bind_some, if_pos rfl, (dd_spec s (i := T) (by omega) (k := 300) (by omega)).1, Option.bind_some] at h
  have := Option.some.inj h
  exact beq_iff_eq.mp this
end Go.Proofs.YtidlcolgiololaaDoor.LoanGood
namespace Go.Proofs.YtidlcolgiololaaDoor.Pure
open Go.RowKit Go.Proofs.YtidlcolgiololaaDoor.S Go.Proofs.YtidlcolgiololaaDoorW.PrintWords Go.Proofs.YtidlcolgiololaaDoorW.PrintMore Go.Proofs.YtidlcolgiololaaDoor.Cal Go.Proofs.YtidlcolgiololaaDoor.DiskBase Go.Proofs.YtidlcolgiololaaDoor.Days Go.Proofs.YtidlcolgiololaaDoor.Loan Go.Proofs.YtidlcolgiololaaDoor.Inst Go.Proofs.YtidlcolgiololaaDoor.LoanSame Go.Proofs.YtidlcolgiololaaDoor.LoanGood
set_option linter.unusedSimpArgs false
set_option linter.unusedVariables false
theorem strOfNums_size (l : List Int) : (strOfNums l).size = l.length := by simp [strOfNums, ByteArray.size]
theorem plan_e8 (j : Nat) (D : List Int) (d1 v m w z p r b s t q : Int) (acc : List S158) : spec_Plan.l0 j D (d1,v,m,w).2.2.2 z p r b s t q (acc ++ [⟨(d1,v,m,w).1, (d1,v,m,w).2.1, (d1,v,m,w).2.2.1, (d1,v,m,w).2.2.2⟩]) 0 = spec_Plan.l0 j D w z p r b s t q (acc ++ [⟨d1, v, m, w⟩]) 0 := by dsimp only
theorem plan_e9 (j : Nat) (D : List Int) (d1 v m w u z p r b s t q : Int) (acc : List S158) (h : z ≤ t) (hl : acc.length < 4398046511104) (hr : spec_l04Row.f j p r b s t D z u q = some (d1,v,m,w)) : spec_Plan.l0 (j+1) D u z p r b s t q acc 0 = spec_Plan.l0 j D (d1,v,m,w).2.2.2 (wrap64 (z+1)) p r b s t q (acc ++ [⟨(d1,v,m,w).1, (d1,v,m,w).2.1, (d1,v,m,w).2.2.1, (d1,v,m,w).2.2.2⟩]) 0 := by
  rw [spec_Plan.l0]
  rw [if_pos h, hr, Option.bind_some, if_pos hl]
theorem plan_e11 (j : Nat) (D : List Int) (d1 v m w u z z2 p r b s t q : Int) (acc : List S158) (h : z ≤ t) (hl : acc.length < 4398046511104) (e : wrap64 (z + 1) = z2) (hr : spec_l04Row.f j p r b s t D z u q = some (d1,v,m,w)) : spec_Plan.l0 (j+1) D u z p r b s t q acc 0 = spec_Plan.l0 j D w z2 p r b s t q (acc ++ [⟨d1, v, m, w⟩]) 0 := by
  subst e
  refine Eq.trans (plan_e9 j D d1 v m w u z p r b s t q acc h hl hr) ?_
  exact plan_e8 j D d1 v m w _ p r b s t q acc
theorem plan_step (p r b s q : Int) (q0 : 0 ≤ q) (q1 : q ≤ 100000000000) (T : Nat) (hT : T ≤ 60) (i j : Nat) (acc : List S158) (u : Int) (u0 : 0 ≤ u) (u1 : u ≤ 100000000000000) (ha : acc.length = i) (hi : i < T) (hj : 400 ≤ j) :
    spec_Plan.l0 (j + 1) (Loan.due s (T + 1)) u ((i + 1 : Nat) : Int) p r b s (T : Int) q acc 0 =
      spec_Plan.l0 j (Loan.due s (T + 1)) (nx q u (iv r b s i u)) ((i + 1 + 1 : Nat) : Int) p r b s (T : Int) q (acc ++ [rw42 r b s q i u]) 0 := by
  have e : wrap64 (((i + 1 : Nat) : Int) + 1) = ((i + 1 + 1 : Nat) : Int) := by rw [wid (by omega) (by omega)]; omega
  have hr := spec_row p r b s q q0 q1 T i hT hi (T : Int) u u0 u1 (k := j) hj
  unfold rw42
  exact plan_e11 j _ _ _ _ _ u _ _ p r b s _ q acc (by omega) (by omega) e hr
theorem plan_l0 (p r b s q : Int) (p0 : 0 ≤ p) (p1 : p ≤ 10000000000) (q0 : 0 ≤ q) (q1 : q ≤ 100000000000) (T : Nat) (hT : T ≤ 60) : ∀ (n i k : Nat) (acc : List S158), acc.length = i → i + n = T → 401 + n ≤ k →
    spec_Plan.l0 k (Loan.due s (T + 1)) (lf p r b s q i) ((i + 1 : Nat) : Int) p r b s (T : Int) q acc 0 = some (q, acc ++ rowsF p r b s q i n, 0) := by
  intro n
  induction n with
  | zero =>
    intro i k acc ha hi hk
    obtain ⟨j, rfl⟩ : ∃ j, k = j + 1 := ⟨k - 1, by omega⟩
    rw [spec_Plan.l0, if_neg (by omega), rowsF, List.append_nil]
  | succ n ih =>
    intro i k acc ha hi hk
    obtain ⟨j, rfl⟩ : ∃ j, k = j + 1 := ⟨k - 1, by omega⟩
    have lr := lf_range (r := r) (b := b) (s := s) p0 p1 q0 i
    rw [plan_step p r b s q q0 q1 T hT i j acc (lf p r b s q i) lr.1 (by omega) ha (by omega) (by omega), ← lf_succ]
    rw [ih (i + 1) j (acc ++ [rw42 r b s q i (lf p r b s q i)]) (by rw [List.length_append, ha]; rfl) (by omega) (by omega)]
    rw [rowsF, List.append_assoc, List.singleton_append]
theorem markT_l0 : ∀ (n k : Nat) (x : Int) (t : ByteArray), 0 ≤ x → x < 10 ^ n → x ≤ 9223372036854775807 → t.size + n ≤ 1000 → n + 1 ≤ k → ∃ r, ∀ j, k ≤ j → laws_markText.l0 j x t = some r
  | 0, k, x, t, h0, h1, hx, ht, hk => by
    refine ⟨(⟨#[109]⟩ : ByteArray) ++ t, fun j hj => ?_⟩
    obtain ⟨j, rfl⟩ : ∃ i, j = i + 1 := ⟨j - 1, by omega⟩
    have e : (10 : Int) ^ 0 = 1 := rfl
    rw [laws_markText.l0]
    refine no (by omega) ?_
    exact yes (by omega) rfl
  | n + 1, k, x, t, h0, h1, hx, ht, hk => by
    by_cases c : x > 0
    · have e : (10 : Int) ^ (n + 1) = 10 ^ n * 10 := Int.pow_succ _ _
      have sz : (strOfNums [(wrap64 (48 + (Int.tmod x 10))) % 256]).size = 1 := by rw [strOfNums_size]; rfl
      obtain ⟨r, hr⟩ := markT_l0 n (k - 1) (x / 10) (strOfNums [(wrap64 (48 + (Int.tmod x 10))) % 256] ++ t) (by omega) (by omega) (by omega) (by rw [ByteArray.size_append, sz]; omega) (by omega)
      refine ⟨r, fun j hj => ?_⟩
      obtain ⟨j, rfl⟩ : ∃ i, j = i + 1 := ⟨j - 1, by omega⟩
      rw [laws_markText.l0]
      refine yes c ?_
      rw [Option.bind_some]
      refine yes (by rw [sz]; omega) ?_
      rw [td (by omega), wid (x := x / 10) (by omega) (by omega)]
      exact hr j (by omega)
    · refine ⟨(⟨#[109]⟩ : ByteArray) ++ t, fun j hj => ?_⟩
      obtain ⟨j, rfl⟩ : ∃ i, j = i + 1 := ⟨j - 1, by omega⟩
      rw [laws_markText.l0]
      refine no (by omega) ?_
      exact yes (by omega) rfl
theorem markT_tells (x : Int) (h0 : 0 ≤ x) (h1 : x ≤ 100000000) : ∃ r, ∀ j, 100 ≤ j → laws_markText.f j x = some r := by
  by_cases c : x ≤ 0
  · refine ⟨(⟨#[109, 48]⟩ : ByteArray), fun j hj => ?_⟩
    unfold laws_markText.f
    exact yes c rfl
  · obtain ⟨r, hr⟩ := markT_l0 9 100 x (⟨#[]⟩ : ByteArray) h0 (by have : (10 : Int) ^ 9 = 1000000000 := rfl; omega) (by omega) (by show 0 + 9 ≤ 1000; omega) (by omega)
    refine ⟨r, fun j hj => ?_⟩
    unfold laws_markText.f
    exact no c (hr j hj)
noncomputable def mt (x : Int) : ByteArray := if h : 0 ≤ x ∧ x ≤ 100000000 then Classical.choose (markT_tells x h.1 h.2) else ByteArray.empty
theorem mt_spec {x : Int} (h0 : 0 ≤ x) (h1 : x ≤ 100000000) {j : Nat} (hj : 100 ≤ j) : laws_markText.f j x = some (mt x) := by
  unfold mt
  rw [dif_pos ⟨h0, h1⟩]
  exact Classical.choose_spec (markT_tells x h0 h1) j hj
theorem spec_plan {p r b s : Int} {T : Nat} (g : Inst.Good p r b s T) {X : Int} (X0 : 0 ≤ X) (X1 : X ≤ 20000000000) {k : Nat} (hk : 600 ≤ k) (a1 : spec_LoanRight.f k p r b s (T : Int) = some true) (hX : spec_l04Instalment.f k p r b s (T : Int) (Loan.due s (T + 1)) = some X) :
    spec_Plan.f k p r b s (T : Int) = some (X, rowsF p r b s X 0 T, 0) := by
  have p0 := g.p0; have p1 := g.p1; have t1 := g.t1
  unfold spec_Plan.f
  refine bnd a1 ?_
  refine yes rfl ?_
  refine bnd (spec_due_all p r b s T t1 (by omega)) ?_
  refine bnd hX ?_
  have h := plan_l0 p r b s X (by omega) p1 (by omega) (by omega) T t1 T 0 k [] rfl (by omega) (by omega)
  have e : lf p r b s X 0 = p := lf_0 p r b s X
  have e2 : ((0 + 1 : Nat) : Int) = 1 := rfl
  rw [e, e2, List.nil_append] at h
  exact h
theorem dec_fin : ∀ i : Fin 61, (spec_l01Dec.f 5 (i.val : Int)).map (fun b => b.data.toList) = some (Lib.itoa (i.val : Int)) ∧ (Lib.itoa (i.val : Int)).length ≤ 2 := by decide +kernel
def dc (i : Nat) : ByteArray := ⟨(Lib.itoa (i : Int)).toArray⟩
theorem dc_size {i : Nat} (hi : i ≤ 60) : (dc i).size ≤ 2 := by
  have h := (dec_fin ⟨i, by omega⟩).2
  show (dc i).data.size ≤ 2
  unfold dc
  simpa using h
theorem spec_dec {i : Nat} (hi : i ≤ 60) {k : Nat} (hk : 5 ≤ k) : spec_l01Dec.f k (i : Int) = some (dc i) := by
  obtain ⟨b, hb, e⟩ := Option.map_eq_some_iff.1 (dec_fin ⟨i, by omega⟩).1
  have e2 : b = dc i := dataList_inj (by rw [e]; simp [dc])
  rw [← e2]
  exact at_rounds (spec_l01Dec.mono _) hk hb
theorem impl_dec {i : Nat} (hi : i ≤ 60) : impl_dec.f (i : Int) = some (dc i) := by
  unfold impl_dec.f
  exact yes (by omega) rfl
def ev2 (i : Nat) (x : S158) : List S24 := [⟨4, (⟨#[100]⟩ : ByteArray) ++ dc i, (⟨#[]⟩ : ByteArray), (⟨#[]⟩ : ByteArray), (⟨#[]⟩ : ByteArray), ([] : List Int), 0, x.f0⟩, ⟨3, (⟨#[112]⟩ : ByteArray) ++ dc i, (⟨#[108, 111, 97, 110]⟩ : ByteArray), (⟨#[]⟩ : ByteArray), (⟨#[]⟩ : ByteArray), ([] : List Int), x.f2, 0⟩]
def evs : List S158 → Nat → List S24
  | [], _ => []
  | x :: r, i => ev2 (i + 1) x ++ evs r (i + 1)
theorem evs_length : ∀ (l : List S158) (i : Nat), (evs l i).length = 2 * l.length
  | [], i => rfl
  | x :: r, i => by
    rw [evs, List.length_append, evs_length r, List.length_cons]
    show 2 + _ = _
    omega
theorem evs_nums : ∀ (l : List S158) (i : Nat) (e : S24), e ∈ evs l i → e.f5 = []
  | [], i, e, h => by cases h
  | x :: r, i, e, h => by
    rw [evs] at h
    rcases List.mem_append.1 h with h | h
    · rcases List.mem_cons.1 h with rfl | h
      · rfl
      · rcases List.mem_cons.1 h with rfl | h
        · rfl
        · cases h
    · exact evs_nums r (i + 1) e h
theorem rdr (pre r : List S158) (x : S158) : rd_T158 (pre ++ x :: r) (pre.length : Int) = x := by
  unfold rd_T158
  rw [List.getD_eq_getElem?_getD, Int.toNat_natCast, List.getElem?_append_right (Nat.le_refl _), Nat.sub_self]
  rfl
theorem impl_ev_l0 : ∀ (rest pre : List S158) (acc : List S24) (k : Nat), pre.length + rest.length ≤ 60 → acc.length + 2 * rest.length ≤ 1000 → rest.length + 1 ≤ k →
    impl_Loan_events.l0 k acc (pre ++ rest) ((pre ++ rest).length : Int) pre.length = some (acc ++ evs rest pre.length) := by
  intro rest
  induction rest with
  | nil =>
    intro pre acc k h1 h2 hk
    obtain ⟨k, rfl⟩ : ∃ j, k = j + 1 := ⟨k - 1, by omega⟩
    rw [impl_Loan_events.l0, evs, List.append_nil, List.append_nil]
    exact no (by omega) rfl
  | cons x r ih =>
    intro pre acc k h1 h2 hk
    rw [List.length_cons] at h1 h2 hk
    obtain ⟨k, rfl⟩ : ∃ j, k = j + 1 := ⟨k - 1, by omega⟩
    have hl : (pre ++ x :: r).length = pre.length + (r.length + 1) := by rw [List.length_append, List.length_cons]
    have sz := dc_size (i := pre.length + 1) (by omega)
    have e1 : wrap64 ((pre.length : Int) + 1) = ((pre.length + 1 : Nat) : Int) := by rw [wid (by omega) (by omega)]; omega
    rw [impl_Loan_events.l0, e1, rdr]
    refine yes (by rw [hl]; omega) ?_
    refine yes (by omega) ?_
    refine yes (by rw [hl]; omega) ?_
    refine bnd (impl_dec (by omega)) ?_
    refine yes (by omega) ?_
    refine bnd rfl ?_
    refine yes (by show acc.length + 2 < _; omega) ?_
    have h := ih (pre ++ [x]) (acc ++ ev2 (pre.length + 1) x) k (by rw [List.length_append, List.length_singleton]; omega) (by rw [List.length_append]; show acc.length + 2 + _ ≤ _; omega) (by omega)
    rw [← snoc, show (pre ++ [x]).length = pre.length + 1 by rw [List.length_append]; rfl, List.append_assoc] at h
    exact h
theorem spec_ev_l0 (a c : Int) : ∀ (rest pre : List S158) (acc : List S24) (k : Nat), pre.length + rest.length ≤ 60 → acc.length + 2 * rest.length ≤ 1000 → rest.length + 10 ≤ k →
    spec_LibAnnuity.l0 k acc pre.length a (pre ++ rest) c = some (acc ++ evs rest pre.length) := by
  intro rest
  induction rest with
  | nil =>
    intro pre acc k h1 h2 hk
    obtain ⟨k, rfl⟩ : ∃ j, k = j + 1 := ⟨k - 1, by omega⟩
    rw [spec_LibAnnuity.l0, evs, List.append_nil, List.append_nil]
    exact no (by omega) rfl
  | cons x r ih =>
    intro pre acc k h1 h2 hk
    rw [List.length_cons] at h1 h2 hk
    obtain ⟨k, rfl⟩ : ∃ j, k = j + 1 := ⟨k - 1, by omega⟩
    have hl : (pre ++ x :: r).length = pre.length + (r.length + 1) := by rw [List.length_append, List.length_cons]
    have sz := dc_size (i := pre.length + 1) (by omega)
    have e1 : wrap64 ((pre.length : Int) + 1) = ((pre.length + 1 : Nat) : Int) := by rw [wid (by omega) (by omega)]; omega
    rw [spec_LibAnnuity.l0, e1, rdr]
    refine yes (by rw [hl]; omega) ?_
    refine bnd (spec_dec (by omega) (by omega)) ?_
    refine yes (by omega) ?_
    refine yes (by omega) ?_
    refine bnd rfl ?_
    refine yes (by show acc.length + 2 < _; omega) ?_
    have h := ih (pre ++ [x]) (acc ++ ev2 (pre.length + 1) x) k (by rw [List.length_append, List.length_singleton]; omega) (by rw [List.length_append]; show acc.length + 2 + _ ≤ _; omega) (by omega)
    rw [← snoc, show (pre ++ [x]).length = pre.length + 1 by rw [List.length_append]; rfl, List.append_assoc] at h
    exact h
theorem lib_same : ∃ t, spec_LibText.f (⟨#[97, 110, 110, 117, 105, 116, 121]⟩ : ByteArray) = some t ∧ impl_LibText.f (⟨#[97, 110, 110, 117, 105, 116, 121]⟩ : ByteArray) = some t := by
  have e : (⟨#[97, 110, 110, 117, 105, 116, 121]⟩ : ByteArray).toList = ([97, 110, 110, 117, 105, 116, 121] : List UInt8) := by rw [toList_data]
  refine ⟨⟨impl_LibText.t.toArray⟩, ?_, ?_⟩
  · unfold spec_LibText.f
    exact yes e (by kernel_rfl)
  · unfold impl_LibText.f
    exact yes e rfl
def Okl (l : List S24) : Prop := l.length ≤ 200 ∧ ∀ e ∈ l, e.f5.length ≤ 3
theorem same (p r b s t : Int) (t0 : -9223372036854775808 ≤ t) (t1 : t ≤ 9223372036854775807) {k : Nat} (hk : 2000 ≤ k) : ∃ l, spec_LibAnnuity.f k p r b s t = some l ∧ impl_LibAnnuity.f k p r b s t = some l ∧ Okl l := by
  obtain ⟨x, hx⟩ := loanRight_same p r b s t t0 t1
  obtain ⟨a1, a2⟩ := hx k (by omega)
  obtain ⟨k, rfl⟩ : ∃ j, k = j + 1 := ⟨k - 1, by omega⟩
  have stop : spec_LibAnnuity.j0 (k + 1) true p r b s t = some [] := by
    rw [spec_LibAnnuity.j0]
    exact yes rfl rfl
  have ok0 : Okl [] := ⟨by simp, fun e h => by cases h⟩
  by_cases c : x = true
  case neg =>
    refine ⟨[], ?_, ?_, ok0⟩
    · unfold spec_LibAnnuity.f
      exact bnd a1 (no c stop)
    · unfold impl_LibAnnuity.f impl_Loan_isKept.f
      exact bnd (a := false) (bnd a2 (no c rfl)) (no (by decide) rfl)
  subst c
  by_cases cb : b = 1
  case neg =>
    refine ⟨[], ?_, ?_, ok0⟩
    · unfold spec_LibAnnuity.f
      refine bnd a1 (yes rfl ?_)
      rw [bne_iff_ne.2 cb]
      exact stop
    · unfold impl_LibAnnuity.f impl_Loan_isKept.f
      refine bnd (a := false) (bnd a2 (yes rfl ?_)) (no (by decide) rfl)
      rw [beq_eq_false_iff_ne.2 cb]
  obtain ⟨T, rfl, g⟩ := good_of (hx 300 (by omega)).1
  obtain ⟨X, X0, X1, hX⟩ := instalment_same g
  have gt := g.t1; have p0 := g.p0; have p1 := g.p1
  obtain ⟨tx, l1, l2⟩ := lib_same
  have hl := rowsF_length p r b s X T 0
  have base : ∀ l : List S24, l = [⟨4, (⟨#[97]⟩ : ByteArray), (⟨#[]⟩ : ByteArray), (⟨#[]⟩ : ByteArray), (⟨#[]⟩ : ByteArray), ([] : List Int), 0, s⟩, ⟨1, (⟨#[98]⟩ : ByteArray), (⟨#[]⟩ : ByteArray), (⟨#[]⟩ : ByteArray), tx, ([] : List Int), 0, 0⟩, ⟨2, (⟨#[99]⟩ : ByteArray), (⟨#[108, 111, 97, 110]⟩ : ByteArray), (⟨#[97, 110, 110, 117, 105, 116, 121]⟩ : ByteArray), (⟨#[]⟩ : ByteArray), ([r, (T : Int), s] : List Int), p, 0⟩] →
      Okl (l ++ evs (rowsF p r b s X 0 T) 0) := by
    intro l hl2
    subst hl2
    refine ⟨by rw [List.length_append, evs_length, hl]; show 3 + _ ≤ _; omega, fun e he => ?_⟩
    rcases List.mem_append.1 he with he | he
    · rcases List.mem_cons.1 he with rfl | he
      · simp
      · rcases List.mem_cons.1 he with rfl | he
        · simp
        · rcases List.mem_cons.1 he with rfl | he
          · simp
          · cases he
    · rw [evs_nums _ _ e he]
      simp
  refine ⟨_, ?_, ?_, base _ rfl⟩
  · unfold spec_LibAnnuity.f
    refine bnd a1 (yes rfl ?_)
    rw [bne_eq_false_iff_eq.2 cb, spec_LibAnnuity.j0]
    refine no (by decide) ?_
    refine bnd l1 ?_
    refine bnd rfl ?_
    refine yes (by simp) ?_
    refine bnd (spec_plan g X0 X1 (by omega) (hx k (by omega)).1 (hX k (by omega)).1) ?_
    have h := spec_ev_l0 X 0 (rowsF p r b s X 0 T) [] [⟨4, (⟨#[97]⟩ : ByteArray), (⟨#[]⟩ : ByteArray), (⟨#[]⟩ : ByteArray), (⟨#[]⟩ : ByteArray), ([] : List Int), 0, s⟩, ⟨1, (⟨#[98]⟩ : ByteArray), (⟨#[]⟩ : ByteArray), (⟨#[]⟩ : ByteArray), tx, ([] : List Int), 0, 0⟩, ⟨2, (⟨#[99]⟩ : ByteArray), (⟨#[108, 111, 97, 110]⟩ : ByteArray), (⟨#[97, 110, 110, 117, 105, 116, 121]⟩ : ByteArray), (⟨#[]⟩ : ByteArray), ([r, (T : Int), s] : List Int), p, 0⟩] k (by rw [List.length_nil]; omega) (by show 3 + _ ≤ _; omega) (by omega)
    exact h
  · unfold impl_LibAnnuity.f impl_Loan_isKept.f
    refine bnd (a := true) (bnd a2 (yes rfl ?_)) (yes rfl ?_)
    · rw [beq_iff_eq.2 cb]
    refine bnd ?_ rfl
    unfold impl_Loan_events.f
    refine bnd l2 ?_
    refine bnd (hX (k + 1) (by omega)).2 ?_
    refine bnd (impl_rows p r b s X (by omega) p1 (by omega) (by omega) g.s0 g.s1 T gt (by omega)) ?_
    refine yes (by omega) ?_
    refine yes (by rw [hl]; omega) ?_
    refine bnd rfl ?_
    rw [Int.toNat_natCast, List.take_of_length_le (by rw [hl]; omega)]
    exact impl_ev_l0 (rowsF p r b s X 0 T) [] _ (k + 1) (by rw [List.length_nil]; omega) (by show 3 + _ ≤ _; omega) (by omega)
theorem rd_pre (pre r : List Int) (x : Int) : rd (pre ++ x :: r) (pre.length : Int) = x := by
  unfold rd
  rw [List.getD_eq_getElem?_getD, Int.toNat_natCast, List.getElem?_append_right (Nat.le_refl _), Nat.sub_self]
  rfl
theorem eqn_l0 : ∀ (rest pre : List Int), pre.length + rest.length ≤ 1000 → ∀ k, rest.length + 1 ≤ k → laws_eqInt64S.l0 k (pre ++ rest) (pre ++ rest) (pre.length : Int) = some true := by
  intro rest
  induction rest with
  | nil =>
    intro pre h k hk
    obtain ⟨j, rfl⟩ : ∃ j, k = j + 1 := ⟨k - 1, by omega⟩
    rw [laws_eqInt64S.l0]
    exact no (by simp) rfl
  | cons x r ih =>
    intro pre h k hk
    rw [List.length_cons] at h hk
    obtain ⟨j, rfl⟩ : ∃ j, k = j + 1 := ⟨k - 1, by omega⟩
    rw [laws_eqInt64S.l0]
    refine yes (by rw [List.length_append, List.length_cons]; omega) ?_
    refine yes (by omega) ?_
    refine yes (by rw [List.length_append, List.length_cons]; omega) ?_
    refine yes rfl ?_
    rw [nxt pre x (by omega), snoc pre r x]
    exact ih (pre ++ [x]) (by rw [List.length_append, List.length_singleton]; omega) j (by omega)
theorem rde (pre r : List S24) (x : S24) : rd_T24 (pre ++ x :: r) (pre.length : Int) = x := by
  unfold rd_T24
  rw [List.getD_eq_getElem?_getD, Int.toNat_natCast, List.getElem?_append_right (Nat.le_refl _), Nat.sub_self]
  rfl
theorem sete (pre r : List S24) (x y : S24) : (pre ++ x :: r).set ((pre.length : Int)).toNat y = pre ++ y :: r := by
  rw [Int.toNat_natCast, List.set_append_right _ _ (Nat.le_refl _), Nat.sub_self, List.set_cons_zero]
theorem eqe_l0 : ∀ (rest pre : List S24), pre.length + rest.length ≤ 1000 → (∀ e ∈ rest, e.f5.length ≤ 3) → ∀ k, rest.length + 10 ≤ k → laws_eqEventS.l0 k (pre ++ rest) (pre ++ rest) (pre.length : Int) = some true := by
  intro rest
  induction rest with
  | nil =>
    intro pre h _ k hk
    obtain ⟨j, rfl⟩ : ∃ j, k = j + 1 := ⟨k - 1, by omega⟩
    rw [laws_eqEventS.l0]
    exact no (by simp) rfl
  | cons x r ih =>
    intro pre h h3 k hk
    rw [List.length_cons] at h hk
    obtain ⟨j, rfl⟩ : ∃ j, k = j + 1 := ⟨k - 1, by omega⟩
    have hx := h3 x (List.mem_cons_self ..)
    rw [laws_eqEventS.l0, rde]
    refine yes (by rw [List.length_append, List.length_cons]; omega) ?_
    refine yes (by omega) ?_
    refine yes (by rw [List.length_append, List.length_cons]; omega) ?_
    refine bnd (a := true) ?_ (yes rfl ?_)
    · unfold laws_eqEvent.f laws_eqInt64S.f
      have e := eqn_l0 x.f5 [] (by rw [List.length_nil]; omega) j (by omega)
      exact yes rfl (yes rfl (yes rfl (yes rfl (yes rfl (bnd (yes rfl e) (yes rfl (yes rfl (yes rfl rfl))))))))
    · rw [nxt pre x (by omega), snoc pre r x]
      exact ih (pre ++ [x]) (by rw [List.length_append, List.length_singleton]; omega) (fun e he => h3 e (List.mem_cons_of_mem _ he)) j (by omega)
def iot : Int → Nat → List Int
  | _, 0 => []
  | v, n + 1 => v :: iot (v + 1) n
theorem setn (pre r : List Int) (x y : Int) : (pre ++ x :: r).set ((pre.length : Int)).toNat y = pre ++ y :: r := by
  rw [Int.toNat_natCast, List.set_append_right _ _ (Nat.le_refl _), Nat.sub_self, List.set_cons_zero]
theorem mi_l0 : ∀ (rest pre : List Int) (v : Int), pre.length + rest.length ≤ 1000 → 0 ≤ v → v + rest.length ≤ 1000000 → ∀ k, rest.length + 1 ≤ k → laws_markInt64S.l0 k (pre ++ rest) v (pre.length : Int) = some (v + (rest.length : Int), pre ++ iot v rest.length) := by
  intro rest
  induction rest with
  | nil =>
    intro pre v h v0 v1 k hk
    obtain ⟨j, rfl⟩ : ∃ j, k = j + 1 := ⟨k - 1, by omega⟩
    rw [laws_markInt64S.l0]
    refine no (by simp) ?_
    rw [List.length_nil, iot]
    congr 2
    omega
  | cons x r ih =>
    intro pre v h v0 v1 k hk
    rw [List.length_cons] at h hk v1
    obtain ⟨j, rfl⟩ : ∃ j, k = j + 1 := ⟨k - 1, by omega⟩
    rw [laws_markInt64S.l0]
    refine yes (by rw [List.length_append, List.length_cons]; omega) ?_
    refine yes (by omega) ?_
    rw [setn, wid (x := v + 1) (by omega) (by omega), nxt pre x (by omega)]
    have e := ih (pre ++ [v]) (v + 1) (by rw [List.length_append, List.length_singleton]; omega) (by omega) (by omega) j (by omega)
    rw [← snoc, show ((pre ++ [v]).length : Int) = ((pre ++ [x]).length : Int) by simp] at e
    rw [e, List.length_cons, iot, List.append_assoc]
    congr 2
    omega
theorem hi_l0 : ∀ (n : Nat) (pre : List Int) (v : Int), pre.length + n ≤ 1000 → 0 ≤ v → v + n ≤ 1000000 → ∀ k, n + 1 ≤ k → laws_heldInt64S.l0 k (pre ++ iot v n) v (pre.length : Int) = some (v + (n : Int)) := by
  intro n
  induction n with
  | zero =>
    intro pre v h v0 v1 k hk
    obtain ⟨j, rfl⟩ : ∃ j, k = j + 1 := ⟨k - 1, by omega⟩
    rw [laws_heldInt64S.l0]
    refine no (by rw [iot]; simp) ?_
    congr 1
    omega
  | succ n ih =>
    intro pre v h v0 v1 k hk
    obtain ⟨j, rfl⟩ : ∃ j, k = j + 1 := ⟨k - 1, by omega⟩
    rw [laws_heldInt64S.l0, iot, rd_pre]
    refine yes (by rw [List.length_append, List.length_cons]; omega) ?_
    refine yes (by omega) ?_
    refine yes rfl ?_
    rw [wid (x := v + 1) (by omega) (by omega), nxt pre v (by omega), snoc pre (iot (v + 1) n) v]
    rw [ih (pre ++ [v]) (v + 1) (by rw [List.length_append, List.length_singleton]; omega) (by omega) (by omega) j (by omega)]
    congr 1
    omega
noncomputable def mk1 (v : Int) (n : Nat) : S24 := ⟨v, mt (v + 1), mt (v + 2), mt (v + 3), mt (v + 4), iot (v + 5) n, v + 5 + n, v + 6 + n⟩
noncomputable def mkl : Int → List S24 → List S24
  | _, [] => []
  | v, e :: r => mk1 v e.f5.length :: mkl (v + 7 + e.f5.length) r
def mkn : Int → List S24 → Int
  | v, [] => v
  | v, e :: r => mkn (v + 7 + e.f5.length) r
theorem mkn_le : ∀ (l : List S24) (v : Int), 0 ≤ v → (∀ e ∈ l, e.f5.length ≤ 3) → v ≤ mkn v l ∧ mkn v l ≤ v + 10 * l.length
  | [], v, h0, _ => by simp [mkn]
  | e :: r, v, h0, h3 => by
    have he := h3 e (List.mem_cons_self ..)
    have h := mkn_le r (v + 7 + e.f5.length) (by omega) (fun x hx => h3 x (List.mem_cons_of_mem _ hx))
    rw [mkn, List.length_cons]
    omega
theorem me_l0 : ∀ (rest pre : List S24) (v : Int), pre.length + rest.length ≤ 1000 → (∀ e ∈ rest, e.f5.length ≤ 3) → 0 ≤ v → v + 10 * rest.length ≤ 1000000 → ∀ k, rest.length + 200 ≤ k →
    laws_markEventS.l0 k (pre ++ rest) v (pre.length : Int) = some (mkn v rest, pre ++ mkl v rest) := by
  intro rest
  induction rest with
  | nil =>
    intro pre v h _ v0 v1 k hk
    obtain ⟨j, rfl⟩ : ∃ j, k = j + 1 := ⟨k - 1, by omega⟩
    rw [laws_markEventS.l0]
    exact no (by simp) rfl
  | cons x r ih =>
    intro pre v h h3 v0 v1 k hk
    rw [List.length_cons] at h hk v1
    obtain ⟨j, rfl⟩ : ∃ j, k = j + 1 := ⟨k - 1, by omega⟩
    have hx := h3 x (List.mem_cons_self ..)
    rw [laws_markEventS.l0, rde]
    refine yes (by rw [List.length_append, List.length_cons]; omega) ?_
    refine yes (by omega) ?_
    rw [wid (x := v + 1) (by omega) (by omega), wid (x := v + 1 + 1) (by omega) (by omega), wid (x := v + 1 + 1 + 1) (by omega) (by omega), wid (x := v + 1 + 1 + 1 + 1) (by omega) (by omega), wid (x := v + 1 + 1 + 1 + 1 + 1) (by omega) (by omega)]
    refine bnd (mt_spec (by omega) (by omega) (by omega)) ?_
    refine bnd (mt_spec (by omega) (by omega) (by omega)) ?_
    refine bnd (mt_spec (by omega) (by omega) (by omega)) ?_
    refine bnd (mt_spec (by omega) (by omega) (by omega)) ?_
    have e5 := mi_l0 x.f5 [] (v + 1 + 1 + 1 + 1 + 1) (by rw [List.length_nil]; omega) (by omega) (by omega) j (by omega)
    refine bnd (show laws_markInt64S.f j x.f5 _ = _ from e5) ?_
    dsimp only
    rw [sete, wid (x := v + 1 + 1 + 1 + 1 + 1 + (x.f5.length : Int) + 1) (by omega) (by omega), wid (x := v + 1 + 1 + 1 + 1 + 1 + (x.f5.length : Int) + 1 + 1) (by omega) (by omega), nxt pre x (by omega)]
    have ex : (⟨v, mt (v + 1), mt (v + 1 + 1), mt (v + 1 + 1 + 1), mt (v + 1 + 1 + 1 + 1), [] ++ iot (v + 1 + 1 + 1 + 1 + 1) x.f5.length, v + 1 + 1 + 1 + 1 + 1 + (x.f5.length : Int), v + 1 + 1 + 1 + 1 + 1 + (x.f5.length : Int) + 1⟩ : S24) = mk1 v x.f5.length := by
      unfold mk1
      rw [List.nil_append, show v + 1 + 1 + 1 + 1 + 1 = v + 5 by omega, show v + 1 + 1 + 1 + 1 = v + 4 by omega, show v + 1 + 1 + 1 = v + 3 by omega, show v + 1 + 1 = v + 2 by omega, show v + 5 + (x.f5.length : Int) + 1 = v + 6 + x.f5.length by omega]
    rw [ex]
    have e := ih (pre ++ [mk1 v x.f5.length]) (v + 7 + x.f5.length) (by rw [List.length_append, List.length_singleton]; omega) (fun e he => h3 e (List.mem_cons_of_mem _ he)) (by omega) (by omega) j (by omega)
    rw [← snoc, show ((pre ++ [mk1 v x.f5.length]).length : Int) = ((pre ++ [x]).length : Int) by simp, List.append_assoc] at e
    rw [show v + 1 + 1 + 1 + 1 + 1 + (x.f5.length : Int) + 1 + 1 = v + 7 + x.f5.length by omega]
    exact e
theorem he_l0 : ∀ (rest pre : List S24) (v : Int), pre.length + rest.length ≤ 1000 → (∀ e ∈ rest, e.f5.length ≤ 3) → 0 ≤ v → v + 10 * rest.length ≤ 1000000 → ∀ k, rest.length + 200 ≤ k →
    laws_heldEventS.l0 k (pre ++ mkl v rest) v (pre.length : Int) = some (mkn v rest) := by
  intro rest
  induction rest with
  | nil =>
    intro pre v h _ v0 v1 k hk
    obtain ⟨j, rfl⟩ : ∃ j, k = j + 1 := ⟨k - 1, by omega⟩
    rw [laws_heldEventS.l0, mkl]
    exact no (by simp) rfl
  | cons x r ih =>
    intro pre v h h3 v0 v1 k hk
    rw [List.length_cons] at h hk v1
    obtain ⟨j, rfl⟩ : ∃ j, k = j + 1 := ⟨k - 1, by omega⟩
    have hx := h3 x (List.mem_cons_self ..)
    have i0 : (mk1 v x.f5.length).f0 = v := rfl
    have i1 : (mk1 v x.f5.length).f1 = mt (v + 1) := rfl
    have i2 : (mk1 v x.f5.length).f2 = mt (v + 2) := rfl
    have i3 : (mk1 v x.f5.length).f3 = mt (v + 3) := rfl
    have i4 : (mk1 v x.f5.length).f4 = mt (v + 4) := rfl
    have i5 : (mk1 v x.f5.length).f5 = iot (v + 5) x.f5.length := rfl
    have i6 : (mk1 v x.f5.length).f6 = v + 5 + x.f5.length := rfl
    have i7 : (mk1 v x.f5.length).f7 = v + 6 + x.f5.length := rfl
    rw [laws_heldEventS.l0, mkl, rde, i0, i1, i2, i3, i4, i5, i6, i7]
    refine yes (by rw [List.length_append, List.length_cons]; omega) ?_
    refine yes (by omega) ?_
    rw [wid (x := v + 1) (by omega) (by omega), wid (x := v + 1 + 1) (by omega) (by omega), wid (x := v + 1 + 1 + 1) (by omega) (by omega), wid (x := v + 1 + 1 + 1 + 1) (by omega) (by omega), wid (x := v + 1 + 1 + 1 + 1 + 1) (by omega) (by omega), show v + 1 + 1 + 1 + 1 + 1 = v + 5 by omega, show v + 1 + 1 + 1 + 1 = v + 4 by omega, show v + 1 + 1 + 1 = v + 3 by omega, show v + 1 + 1 = v + 2 by omega]
    refine yes rfl ?_
    refine bnd (mt_spec (by omega) (by omega) (by omega)) ?_
    refine yes rfl ?_
    refine bnd (mt_spec (by omega) (by omega) (by omega)) ?_
    refine yes rfl ?_
    refine bnd (mt_spec (by omega) (by omega) (by omega)) ?_
    refine yes rfl ?_
    refine bnd (mt_spec (by omega) (by omega) (by omega)) ?_
    refine yes rfl ?_
    have e5 := hi_l0 x.f5.length [] (v + 5) (by rw [List.length_nil]; omega) (by omega) (by omega) j (by omega)
    refine bnd (show laws_heldInt64S.f j _ _ = _ from e5) ?_
    refine no (by omega) ?_
    refine yes rfl ?_
    rw [wid (x := v + 5 + (x.f5.length : Int) + 1) (by omega) (by omega), wid (x := v + 5 + (x.f5.length : Int) + 1 + 1) (by omega) (by omega)]
    refine yes (by omega) ?_
    rw [nxt pre (mk1 v x.f5.length) (by omega), snoc pre _ (mk1 v x.f5.length), show v + 5 + (x.f5.length : Int) + 1 + 1 = v + 7 + x.f5.length by omega]
    exact ih (pre ++ [mk1 v x.f5.length]) (v + 7 + x.f5.length) (by rw [List.length_append, List.length_singleton]; omega) (fun e he => h3 e (List.mem_cons_of_mem _ he)) (by omega) (by omega) j (by omega)
theorem FnExactLibAnnuity : StmFnExactLibAnnuity.Pure := by
  intro p r b s t hw
  have w := hw.2.2.2.2
  have w2 := wf64 w
  refine ⟨2000, ?_⟩
  obtain ⟨l, e1, e2, hl, h3⟩ := same p r b s t w2.1 w2.2 (Nat.le_refl 2000)
  have eq : laws_eqEventS.f 2000 l l = some true := by
    unfold laws_eqEventS.f
    exact yes rfl (eqe_l0 l [] (by rw [List.length_nil]; omega) h3 2000 (by omega))
  have mk : laws_markEventS.f 2000 l 1 = some (mkn 1 l, mkl 1 l) := me_l0 l [] 1 (by rw [List.length_nil]; omega) h3 (by omega) (by omega) 2000 (by omega)
  have hd : laws_heldEventS.f 2000 (mkl 1 l) 1 = some (mkn 1 l) := he_l0 l [] 1 (by rw [List.length_nil]; omega) h3 (by omega) (by omega) 2000 (by omega)
  have hn := mkn_le l 1 (by omega) h3
  unfold laws_FnExactLibAnnuity.f
  refine bnd e1 ?_
  refine bnd e2 ?_
  refine bnd eq ?_
  refine yes rfl ?_
  refine bnd mk ?_
  refine bnd hd ?_
  refine no (by omega) ?_
  refine yes rfl ?_
  refine bnd e2 ?_
  refine bnd eq ?_
  refine yes rfl ?_
  refine bnd hd ?_
  refine no (by omega) ?_
  exact yes rfl rfl
end Go.Proofs.YtidlcolgiololaaDoor.Pure
