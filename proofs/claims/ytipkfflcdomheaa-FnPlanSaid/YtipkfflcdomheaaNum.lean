/- Plain laws: whole numbers of 64 bits: their halves, a product of two in two words, a quotient of two words by a small number; no condition beyond each lemma's own. -/
import Derived.Test.YtipkfflcdomheaaCal
import Derived.Laws.BitsLemmas
import Derived.Lib.BitFns
import Derived.Lib.ItoaNum
import Derived.Test.YtipkfflcdomheaaS0
import Derived.Test.YtipkfflcdomheaaS9
namespace Go.Proofs.Ytipkfflcdomheaa.Num
open Go.RowKit Go.Proofs.Ytipkfflcdomheaa.S Go.Proofs.YtipkfflcdomheaaW.PrintWords Go.Proofs.YtipkfflcdomheaaW.PrintMore Go.Proofs.Ytipkfflcdomheaa.Cal
set_option linter.unusedVariables false
set_option linter.unusedSimpArgs false

theorem u64_range (x : Int) : 0 ≤ IntKind.u64.wrap x ∧ IntKind.u64.wrap x < 18446744073709551616 := by
  have e : IntKind.u64.wrap x = x % 18446744073709551616 := by simp [IntKind.wrap, IntKind.signed, IntKind.bits]
  omega
theorem u64_mod (x : Int) : IntKind.u64.wrap x = x % 18446744073709551616 := by simp [IntKind.wrap, IntKind.signed, IntKind.bits]
theorem u64_id {x : Int} (h0 : 0 ≤ x) (h1 : x < 18446744073709551616) : IntKind.u64.wrap x = x := by
  rw [u64_mod]
  omega
theorem wraps (n : Int) (h₀ : 0 ≤ n) (h₁ : n < 2 ^ 64) : IntKind.u64.wrap n = n := u64_id h₀ (by omega)
theorem and32 {y : Int} (h0 : 0 ≤ y) (h1 : y < 18446744073709551616) : Go.bits .and .u64 y 4294967295 = y % 4294967296 := bits_mask .u64 64 (by decide) wraps 32 (by decide) y h0 (by omega)
theorem pb {u v : Int} (u0 : 0 ≤ u) (u1 : u ≤ 4294967295) (v0 : 0 ≤ v) (v1 : v ≤ 4294967295) : 0 ≤ u * v ∧ u * v ≤ 18446744065119617025 :=
  ⟨Int.mul_nonneg u0 v0, Int.le_trans (Int.mul_le_mul u1 v1 v0 (by decide)) (by decide)⟩

theorem mul64 {x y : Int} (x0 : 0 ≤ x) (x1 : x < 18446744073709551616) (y0 : 0 ≤ y) (y1 : y < 18446744073709551616) :
    bits_Mul64.f x y = some (x * y / 18446744073709551616, x * y % 18446744073709551616) := by
  unfold bits_Mul64.f
  rw [and32 x0 x1, and32 y0 y1, u64_mod (x * y)]
  obtain ⟨a, ha⟩ : ∃ a, a = x / 4294967296 := ⟨_, rfl⟩
  obtain ⟨b, hb⟩ : ∃ b, b = x % 4294967296 := ⟨_, rfl⟩
  obtain ⟨c, hc⟩ : ∃ c, c = y / 4294967296 := ⟨_, rfl⟩
  obtain ⟨d, hd⟩ : ∃ d, d = y % 4294967296 := ⟨_, rfl⟩
  rw [← ha, ← hb, ← hc, ← hd]
  have hx : x = a * 4294967296 + b := by omega
  have hy : y = c * 4294967296 + d := by omega
  have e : x * y = a * c * 18446744073709551616 + (a * d + b * c) * 4294967296 + b * d := by
    rw [hx, hy]
    grind
  rw [e]
  have p1 := pb (u := a) (v := c) (by omega) (by omega) (by omega) (by omega)
  have p2 := pb (u := a) (v := d) (by omega) (by omega) (by omega) (by omega)
  have p3 := pb (u := b) (v := c) (by omega) (by omega) (by omega) (by omega)
  have p4 := pb (u := b) (v := d) (by omega) (by omega) (by omega) (by omega)
  generalize a * c = A at p1 ⊢
  generalize a * d = B at p2 ⊢
  generalize b * c = C at p3 ⊢
  generalize b * d = D at p4 ⊢
  clear e ha hb hc hd hx hy x0 x1 y0 y1
  rw [u64_id (x := A) (by omega) (by omega), u64_id (x := D) (by omega) (by omega), u64_id (x := C) (by omega) (by omega), u64_id (x := B) (by omega) (by omega)]
  rw [u64_id (x := B + D / 4294967296) (by omega) (by omega), and32 (y := B + D / 4294967296) (by omega) (by omega)]
  rw [u64_id (x := A + (B + D / 4294967296) / 4294967296) (by omega) (by omega), u64_id (x := (B + D / 4294967296) % 4294967296 + C) (by omega) (by omega)]
  rw [u64_id (x := A + (B + D / 4294967296) / 4294967296 + ((B + D / 4294967296) % 4294967296 + C) / 4294967296) (by omega) (by omega)]
  congr 2
  omega

/-- The length in bits of a small number. -/
theorem len_small {c : Int} (c0 : 1 ≤ c) (c1 : c ≤ 1000000000) : ∃ L : Nat, Lib.bitLen c.toNat = L ∧ 1 ≤ L ∧ L ≤ 30 ∧ c < 2 ^ L ∧ 2 ^ (L - 1) ≤ c := by
  have h := Lib.bitLenAux_bounds 64 c.toNat (by omega) (by omega)
  have h2 := Lib.bitLen_le c.toNat 30 (by omega) (by omega)
  refine ⟨Lib.bitLen c.toNat, rfl, h.1, h2, ?_, ?_⟩
  · have h3 : c.toNat < 2 ^ Lib.bitLen c.toNat := h.2.2
    have : ((c.toNat : Nat) : Int) < ((2 ^ Lib.bitLen c.toNat : Nat) : Int) := by omega
    rw [Int.natCast_pow] at this
    have e : ((2 : Nat) : Int) = 2 := rfl
    rw [e] at this
    omega
  · have h3 : 2 ^ (Lib.bitLen c.toNat - 1) ≤ c.toNat := h.2.1
    have : ((2 ^ (Lib.bitLen c.toNat - 1) : Nat) : Int) ≤ ((c.toNat : Nat) : Int) := by omega
    rw [Int.natCast_pow] at this
    have e : ((2 : Nat) : Int) = 2 := rfl
    rw [e] at this
    omega

theorem shl_id {x : Int} {n : Nat} (hn : n ≤ 64) (h0 : 0 ≤ x * 2 ^ n) (h1 : x * 2 ^ n < 18446744073709551616) : shl .u64 x (n : Int) = x * 2 ^ n := by
  unfold shl
  have e : min (n : Int).toNat IntKind.u64.bits = n := by
    show min (n : Int).toNat 64 = n
    omega
  rw [e]
  exact u64_id h0 h1
theorem shl_mod {x : Int} {n : Nat} (hn : n ≤ 64) : shl .u64 x (n : Int) = x * 2 ^ n % 18446744073709551616 := by
  unfold shl
  have e : min (n : Int).toNat IntKind.u64.bits = n := by
    show min (n : Int).toNat 64 = n
    omega
  rw [e]
  exact u64_mod _
theorem shr_id {x : Int} {n : Nat} (hn : n ≤ 64) : shr .u64 x (n : Int) = x / 2 ^ n := by
  unfold shr
  have e : min (n : Int).toNat IntKind.u64.bits = n := by
    show min (n : Int).toNat 64 = n
    omega
  rw [e]

theorem div_eq {a b q r : Int} (h : a = b * q + r) (r0 : 0 ≤ r) (r1 : r < b) : a / b = q ∧ a % b = r := by
  have hb : 0 < b := by omega
  have e1 : a / b = q := by
    rw [h, Int.add_comm, Int.add_mul_ediv_left _ _ (by omega), Int.ediv_eq_zero_of_lt r0 r1]
    omega
  refine ⟨e1, ?_⟩
  have := Int.mul_ediv_add_emod a b
  rw [e1] at this
  omega

/-- The rounds of a long division by a number whose low half is nothing: no step back. -/
theorem div64_rounds (k : Nat) (y s yn1 un32 un1 : Int) (hy : y = yn1 * 4294967296) (n0 : 1 ≤ yn1) (n1 : yn1 < 4294967296) (u0 : 0 ≤ un32) (u1 : un32 < y) (v0 : 0 ≤ un1) (v1 : un1 < 4294967296) (s0 : 0 ≤ s) :
    bits_Div64.l0 (k + 5) y s yn1 0 un32 un1 0 (un32 / yn1) (un32 % yn1) =
      some (un32 / yn1 * 4294967296 + (un32 % yn1 * 4294967296 + un1) / yn1, shr .u64 ((un32 % yn1 * 4294967296 + un1) % yn1 * 4294967296) s) := by
  have q1 : 0 ≤ un32 / yn1 := Int.ediv_nonneg u0 (by omega)
  have q2 : un32 / yn1 < 4294967296 := Int.ediv_lt_of_lt_mul (by omega) (by rw [Int.mul_comm]; omega)
  have r1 := Int.emod_nonneg un32 (b := yn1) (by omega)
  have r2 := Int.emod_lt_of_pos un32 (b := yn1) (by omega)
  have d1 := Int.mul_ediv_add_emod un32 yn1
  obtain ⟨q, hq⟩ : ∃ q, q = un32 / yn1 := ⟨_, rfl⟩
  obtain ⟨r, hr⟩ : ∃ r, r = un32 % yn1 := ⟨_, rfl⟩
  rw [← hq, ← hr] at d1 ⊢
  rw [← hq] at q1 q2
  rw [← hr] at r1 r2
  have w1 : 0 ≤ r * 4294967296 + un1 := by omega
  have w2 : r * 4294967296 + un1 < y := by omega
  have w3 : y < 18446744073709551616 := by omega
  have x1 : 0 ≤ (r * 4294967296 + un1) / yn1 := Int.ediv_nonneg w1 (by omega)
  have x2 : (r * 4294967296 + un1) / yn1 < 4294967296 := Int.ediv_lt_of_lt_mul (by omega) (by rw [Int.mul_comm]; omega)
  have t1 := Int.emod_nonneg (r * 4294967296 + un1) (b := yn1) (by omega)
  have t2 := Int.emod_lt_of_pos (r * 4294967296 + un1) (b := yn1) (by omega)
  have d2 := Int.mul_ediv_add_emod (r * 4294967296 + un1) yn1
  obtain ⟨p, hp⟩ : ∃ p, p = (r * 4294967296 + un1) / yn1 := ⟨_, rfl⟩
  obtain ⟨t, ht⟩ : ∃ t, t = (r * 4294967296 + un1) % yn1 := ⟨_, rfl⟩
  rw [← hp] at x1 x2 d2
  rw [← ht] at t1 t2 d2
  have e0 : IntKind.u64.wrap (q * 0) = 0 := by rw [Int.mul_zero]; exact u64_id (by omega) (by omega)
  have f0 : IntKind.u64.wrap (p * 0) = 0 := by rw [Int.mul_zero]; exact u64_id (by omega) (by omega)
  have e1 : IntKind.u64.wrap ((IntKind.u64.wrap ((IntKind.u64.wrap (un32 * 4294967296)) + un1)) - (IntKind.u64.wrap (q * y))) = r * 4294967296 + un1 := by
    simp only [u64_mod]
    have : un32 * 4294967296 + un1 - q * y = r * 4294967296 + un1 := by
      rw [hy, ← d1]
      grind
    rw [← this] at w1 w2 ⊢
    omega
  have g1 : IntKind.u64.wrap (Int.tdiv (r * 4294967296 + un1) yn1) = p := by
    rw [td w1, ← hp]
    exact u64_id x1 (by omega)
  have g2 : IntKind.u64.wrap ((r * 4294967296 + un1) - (IntKind.u64.wrap (p * yn1))) = t := by
    have b : 0 ≤ p * yn1 := Int.mul_nonneg x1 (by omega)
    have c : p * yn1 = yn1 * p := Int.mul_comm _ _
    rw [u64_id (x := p * yn1) b (by omega)]
    rw [u64_id (by omega) (by omega)]
    omega
  have g3 : IntKind.u64.wrap ((IntKind.u64.wrap ((IntKind.u64.wrap ((r * 4294967296 + un1) * 4294967296)) + 0)) - (IntKind.u64.wrap (p * y))) = t * 4294967296 := by
    simp only [u64_mod]
    have : (r * 4294967296 + un1) * 4294967296 + 0 - p * y = t * 4294967296 := by
      rw [hy, ← d2]
      grind
    have b1 : 0 ≤ t * 4294967296 := by omega
    have b2 : t * 4294967296 < 18446744073709551616 := by omega
    rw [← this] at b1 b2 ⊢
    omega
  have g4 : IntKind.u64.wrap ((IntKind.u64.wrap (q * 4294967296)) + p) = q * 4294967296 + p := by
    rw [u64_id (x := q * 4294967296) (by omega) (by omega), u64_id (by omega) (by omega)]
  rw [bits_Div64.l0]
  refine no (by omega) ?_
  rw [e0, decide_eq_false (by have := (u64_range (IntKind.u64.wrap (4294967296 * r) + un1)).1; omega)]
  rw [bits_Div64.j1]
  refine no (by decide) ?_
  rw [bits_Div64.j2]
  refine no (by omega) ?_
  rw [e1, g1, g2]
  rw [bits_Div64.l1]
  refine no (by omega) ?_
  rw [f0, decide_eq_false (by have := (u64_range (IntKind.u64.wrap (4294967296 * t) + 0)).1; omega)]
  rw [bits_Div64.j4]
  refine no (by decide) ?_
  refine yes s0 ?_
  rw [g3, g4, ← hp, ← ht]

theorem div64 {hi lo c : Int} (c0 : 1 ≤ c) (c1 : c ≤ 1000000000) (h0 : 0 ≤ hi) (h1 : hi < c) (l0 : 0 ≤ lo) (l1 : lo < 18446744073709551616) (k : Nat) :
    bits_Div64.f (k + 5) hi lo c = some ((hi * 18446744073709551616 + lo) / c, (hi * 18446744073709551616 + lo) % c) := by
  unfold bits_Div64.f
  refine no (by omega) ?_
  refine no (by omega) ?_
  by_cases z : hi = 0
  · refine yes z ?_
    rw [td l0, tm l0, z, Int.zero_mul, Int.zero_add, u64_id (Int.ediv_nonneg l0 (by omega))]
    exact Int.lt_of_le_of_lt (Int.ediv_le_self _ l0) l1
  refine no z ?_
  obtain ⟨L, hL, L1, L30, b1, b2⟩ := len_small c0 c1
  obtain ⟨n, hn⟩ : ∃ n : Nat, n + L = 64 := ⟨64 - L, by omega⟩
  have e : bits_LeadingZeros64.f c = some (n : Int) := by
    unfold bits_LeadingZeros64.f
    rw [if_pos (by omega), hL]
    congr 1
    omega
  refine bnd e ?_
  have e1 : IntKind.u64.wrap (n : Int) = (n : Int) := u64_id (by omega) (by omega)
  have e2 : IntKind.u64.wrap (64 - (n : Int)) = (L : Int) := by rw [u64_id (by omega) (by omega)]; omega
  rw [e1, e2]
  refine yes (by omega) ?_
  refine yes (by omega) ?_
  -- 2^n = W * 2^32, 2^n * 2^L = 2^64
  obtain ⟨j, hj⟩ : ∃ j : Nat, n = j + 32 := ⟨n - 32, by omega⟩
  have pW : (2 : Int) ^ n = 2 ^ j * 4294967296 := by rw [hj, Int.pow_add]; rfl
  have pQ : (2 : Int) ^ n * 2 ^ L = 18446744073709551616 := by rw [← Int.pow_add, hn]; rfl
  have W0 : (0 : Int) < 2 ^ j := Int.pow_pos (by decide)
  have Q0 : (0 : Int) < 2 ^ L := Int.pow_pos (by decide)
  have P0 : (0 : Int) < 2 ^ n := Int.pow_pos (by decide)
  obtain ⟨W, hW⟩ : ∃ W : Int, W = 2 ^ j := ⟨_, rfl⟩
  obtain ⟨Q, hQ⟩ : ∃ Q : Int, Q = 2 ^ L := ⟨_, rfl⟩
  obtain ⟨P, hP⟩ : ∃ P : Int, P = 2 ^ n := ⟨_, rfl⟩
  have ypos : 0 ≤ c * P := Int.mul_nonneg (by omega) (by omega)
  have ylt : c * P < 18446744073709551616 := by
    rw [← pQ, ← hP, ← hQ, Int.mul_comm P Q]
    exact Int.mul_lt_mul_of_pos_right (by omega) (by omega)
  have hipos : 0 ≤ hi * P := Int.mul_nonneg h0 (by omega)
  have hilt : hi * P < c * P := Int.mul_lt_mul_of_pos_right h1 (by omega)
  have loq : 0 ≤ lo / Q := Int.ediv_nonneg l0 (by omega)
  have loP : lo / Q < P := Int.ediv_lt_of_lt_mul (by omega) (by rw [hP, hQ, pQ]; exact l1)
  have loS : lo / Q < 18446744073709551616 := Int.lt_of_le_of_lt (Int.ediv_le_self _ l0) l1
  have lor : 0 ≤ lo % Q ∧ lo % Q < Q := ⟨Int.emod_nonneg _ (by omega), Int.emod_lt_of_pos _ (by omega)⟩
  have lod := Int.mul_ediv_add_emod lo Q
  rw [shl_id (x := c) (by omega) (by rw [← hP]; exact ypos) (by rw [← hP]; exact ylt), shl_id (x := hi) (by omega) (by rw [← hP]; exact hipos) (by rw [← hP]; omega), shr_id (x := lo) (by omega), shl_mod (x := lo) (by omega)]
  rw [← hP, ← hQ]
  have hPW : P = W * 4294967296 := by rw [hP, hW]; exact pW
  have hPQ : P * Q = 18446744073709551616 := by rw [hP, hQ]; exact pQ
  have ecW : c * P = c * W * 4294967296 := by rw [hPW]; grind
  have cW0 : 1 ≤ c * W := by
    have := Int.mul_le_mul c0 (show 1 ≤ W by omega) (by decide) (by omega)
    omega
  have ey : c * P / 4294967296 = c * W := by omega
  have em : c * P % 4294967296 = 0 := by omega
  have eor : Go.bits .or .u64 (hi * P) (lo / Q) = hi * P + lo / Q := by
    refine bits_join .u64 64 (by decide) wraps n (hi * P) (lo / Q) hipos ?_ (by omega) loq (by rw [← hP]; exact loP) (by omega)
    rw [← hP]
    exact Int.mul_emod_left _ _
  have hiP : hi * P + P ≤ c * P := by
    have := Int.mul_le_mul_of_nonneg_right (show hi + 1 ≤ c by omega) (show 0 ≤ P by omega)
    rw [Int.add_mul] at this
    omega
  obtain ⟨v, hv⟩ : ∃ v, v = lo % Q := ⟨_, rfl⟩
  rw [← hv] at lor lod
  have vP0 : 0 ≤ v * P := Int.mul_nonneg lor.1 (by omega)
  have vP1 : v * P < 18446744073709551616 := by
    rw [← hPQ, Int.mul_comm P Q]
    exact Int.mul_lt_mul_of_pos_right lor.2 (by omega)
  have elo : lo * P = lo / Q * 18446744073709551616 + v * P := by
    rw [← hPQ]
    conv => lhs; rw [← lod]
    grind
  have em2 : lo * P % 18446744073709551616 = v * P := by omega
  have evW : v * P = v * W * 4294967296 := by rw [hPW]; grind
  rw [em2, ey, and32 ypos ylt, em, eor, and32 vP0 vP1]
  have e3 : v * P / 4294967296 = v * W := by omega
  have e4 : v * P % 4294967296 = 0 := by omega
  rw [e3, e4]
  obtain ⟨u, hu⟩ : ∃ u, u = hi * P + lo / Q := ⟨_, rfl⟩
  rw [← hu]
  have u0 : 0 ≤ u := by omega
  have u1 : u < c * P := by omega
  have q1 : 0 ≤ u / (c * W) := Int.ediv_nonneg u0 (by omega)
  have q2 : u / (c * W) < 4294967296 := Int.ediv_lt_of_lt_mul (by omega) (by rw [Int.mul_comm]; omega)
  have r1 := Int.emod_nonneg u (b := c * W) (by omega)
  have r2 := Int.emod_lt_of_pos u (b := c * W) (by omega)
  have d1 := Int.mul_ediv_add_emod u (c * W)
  have g1 : IntKind.u64.wrap (Int.tdiv u (c * W)) = u / (c * W) := by
    rw [td u0]
    exact u64_id q1 (by omega)
  have g2 : IntKind.u64.wrap (u - IntKind.u64.wrap (u / (c * W) * (c * W))) = u % (c * W) := by
    have b : 0 ≤ u / (c * W) * (c * W) := Int.mul_nonneg q1 (by omega)
    have b2 : u / (c * W) * (c * W) = c * W * (u / (c * W)) := Int.mul_comm _ _
    rw [u64_id (x := u / (c * W) * (c * W)) b (by omega)]
    rw [u64_id (by omega) (by omega)]
    omega
  rw [g1, g2]
  refine no (by omega) ?_
  have un0 : 0 ≤ v * W := by omega
  rw [div64_rounds k (c * P) n (c * W) u (v * W) ecW cW0 (by omega) u0 u1 un0 (by omega) (by omega)]
  rw [shr_id (by omega), ← hP]
  obtain ⟨q, hq⟩ : ∃ q, q = u / (c * W) := ⟨_, rfl⟩
  obtain ⟨r, hr⟩ : ∃ r, r = u % (c * W) := ⟨_, rfl⟩
  rw [← hq, ← hr] at d1 ⊢
  rw [← hr] at r1 r2
  have t1 := Int.emod_nonneg (r * 4294967296 + v * W) (b := c * W) (by omega)
  have t2 := Int.emod_lt_of_pos (r * 4294967296 + v * W) (b := c * W) (by omega)
  have d2 := Int.mul_ediv_add_emod (r * 4294967296 + v * W) (c * W)
  obtain ⟨p, hp⟩ : ∃ p, p = (r * 4294967296 + v * W) / (c * W) := ⟨_, rfl⟩
  obtain ⟨t, ht⟩ : ∃ t, t = (r * 4294967296 + v * W) % (c * W) := ⟨_, rfl⟩
  rw [← hp, ← ht] at d2 ⊢
  rw [← ht] at t1 t2
  obtain ⟨N, hN⟩ : ∃ N, N = hi * 18446744073709551616 + lo := ⟨_, rfl⟩
  rw [← hN]
  have eN : N * W = u * 4294967296 + v * W := by
    have : N * P = u * 18446744073709551616 + v * P := by
      rw [hN, hu]
      have : (hi * 18446744073709551616 + lo) * P = hi * P * 18446744073709551616 + lo * P := by grind
      rw [this, elo]
      grind
    have e5 : N * P = N * W * 4294967296 := by rw [hPW]; grind
    omega
  have et : t = W * (N - c * (q * 4294967296 + p)) := by
    have : t = N * W - c * W * (q * 4294967296 + p) := by
      have : c * W * (q * 4294967296 + p) = c * W * q * 4294967296 + c * W * p := by grind
      omega
    rw [this]
    grind
  obtain ⟨z', hz⟩ : ∃ z', z' = N - c * (q * 4294967296 + p) := ⟨_, rfl⟩
  rw [← hz] at et
  have z0 : 0 ≤ z' := by
    refine Int.le_of_mul_le_mul_left (a := W) ?_ (by omega)
    rw [← et, Int.mul_zero]
    exact t1
  have z1 : z' < c := by
    refine Int.lt_of_mul_lt_mul_left (a := W) ?_ (by omega)
    rw [← et, Int.mul_comm W c]
    exact t2
  obtain ⟨a1, a2⟩ := div_eq (a := N) (b := c) (q := q * 4294967296 + p) (r := z') (by omega) z0 z1
  rw [a1, a2]
  congr 2
  rw [et, show W * z' * 4294967296 = z' * P by rw [hPW]; grind]
  exact Int.mul_ediv_cancel _ (by omega)
end Go.Proofs.Ytipkfflcdomheaa.Num
