/- Proved: the program's ModuleRead answers as the reference's does, at every text, and its instructions are its own; no condition. -/
import Derived.Test.YtidlcolgiololaaS0
import Derived.Laws.BitsLemmas
import Derived.Test.YtidlcolgiololaaS1
import Derived.Test.YtidlcolgiololaaS14
import Derived.Test.YtidlcolgiololaaS10
import Derived.Test.YtidlcolgiololaaS11
import Derived.Test.YtidlcolgiololaaS4
import Derived.Test.YtidlcolgiololaaS5
import Derived.Test.YtidlcolgiololaaS6
import Derived.Test.YtidlcolgiololaaS8
import Derived.Test.YtidlcolgiololaaS9
import Derived.Test.YtidlcolgiololaaS12
import Derived.Test.YtidlcolgiololaaS13
import Derived.Test.YtidlcolgiololaaS2
import Derived.Test.YtidlcolgiololaaS3
import Derived.Test.YtidlcolgiololaaS7
import Derived.Test.YtidlcolgiololaaS15
import Derived.Test.YtidlcolgiololaaS16
import Derived.Test.YtidlcolgiololaaS17
namespace Go.Proofs.Ytidlcolgiololaa.Cal
open Go.RowKit Go.Proofs.YtidlcolgiololaaW.PrintWords
set_option linter.unusedVariables false

/-! steps: a call's answer, a test -/
theorem bnd {α β : Type} {o : Option α} {a : α} {f : α → Option β} {r : Option β} (h : o = some a) (k : f a = r) : o.bind f = r := by
  rw [h]
  exact k
theorem yes {α : Type} {c : Prop} [Decidable c] {x y r : α} (h : c) (k : x = r) : (if c then x else y) = r := by
  rw [if_pos h]
  exact k
theorem no {α : Type} {c : Prop} [Decidable c] {x y r : α} (h : ¬ c) (k : y = r) : (if c then x else y) = r := by
  rw [if_neg h]
  exact k
theorem wid {x : Int} (h : -9223372036854775808 ≤ x) (h' : x ≤ 9223372036854775807) : wrap64 x = x := by
  unfold wrap64
  omega
theorem td {a b : Int} (h : 0 ≤ a) : Int.tdiv a b = a / b := Int.tdiv_eq_ediv_of_nonneg h
theorem tm {a b : Int} (h : 0 ≤ a) : Int.tmod a b = a % b := Int.tmod_eq_emod_of_nonneg h

def lp (y : Int) : Int := if y % 4 = 0 then 1 else 0
theorem lp01 (y : Int) : 0 ≤ lp y ∧ lp y ≤ 1 := by
  unfold lp
  split <;> omega
def mlen (y m : Int) : Int :=
  if m = 2 then 28 + lp y else if m = 4 then 30 else if m = 6 then 30 else if m = 9 then 30 else if m = 11 then 30 else 31
/-- The days of a year ahead of a month. -/
def cum (y m : Int) : Int :=
  if m = 1 then 0 else if m = 2 then 31 else if m = 3 then 59 + lp y else if m = 4 then 90 + lp y else if m = 5 then 120 + lp y else if m = 6 then 151 + lp y
  else if m = 7 then 181 + lp y else if m = 8 then 212 + lp y else if m = 9 then 243 + lp y else if m = 10 then 273 + lp y else if m = 11 then 304 + lp y
  else if m = 12 then 334 + lp y else 365 + lp y
def hd (y : Int) : Int := 365 * (y - 2000) + (y - 2000 + 3) / 4
theorem months {m : Int} (h0 : 1 ≤ m) (h1 : m ≤ 12) : m = 1 ∨ m = 2 ∨ m = 3 ∨ m = 4 ∨ m = 5 ∨ m = 6 ∨ m = 7 ∨ m = 8 ∨ m = 9 ∨ m = 10 ∨ m = 11 ∨ m = 12 := by omega
theorem cum_succ (y : Int) {m : Int} (h0 : 1 ≤ m) (h1 : m ≤ 12) : cum y (m + 1) = cum y m + mlen y m := by
  rcases months h0 h1 with rfl | rfl | rfl | rfl | rfl | rfl | rfl | rfl | rfl | rfl | rfl | rfl <;> simp [cum, mlen] <;> omega
theorem rng_ite {c : Prop} [Decidable c] {a b lo hi : Int} (h : lo ≤ a ∧ a ≤ hi) (k : lo ≤ b ∧ b ≤ hi) : lo ≤ (if c then a else b) ∧ (if c then a else b) ≤ hi := by
  split
  · exact h
  · exact k
theorem mlen_range (y m : Int) : 28 ≤ mlen y m ∧ mlen y m ≤ 31 := by
  have := lp01 y
  unfold mlen
  repeat' (refine rng_ite ?_ ?_)
  all_goals omega
theorem cum_range (y m : Int) : 0 ≤ cum y m ∧ cum y m ≤ 366 := by
  have := lp01 y
  unfold cum
  repeat' (refine rng_ite ?_ ?_)
  all_goals omega
theorem cum_13 (y : Int) : cum y 13 = 365 + lp y := by simp [cum]
theorem cum_1 (y : Int) : cum y 1 = 0 := by simp [cum]
theorem cum_mono (y : Int) {a b : Int} (h0 : 1 ≤ a) (hab : a ≤ b) (h1 : b ≤ 13) : cum y a ≤ cum y b := by
  obtain ⟨n, hn⟩ : ∃ n : Nat, b = a + n := ⟨(b - a).toNat, by omega⟩
  subst hn
  induction n with
  | zero => simp
  | succ n ih =>
    have e := cum_succ y (m := a + n) (by omega) (by omega)
    have r := mlen_range y (a + n)
    have i := ih (by omega) (by omega)
    have e2 : a + ((n + 1 : Nat) : Int) = a + n + 1 := by omega
    rw [e2, e]
    omega
theorem hd_succ {y : Int} (h : 2000 ≤ y) : hd (y + 1) = hd y + 365 + lp y := by
  unfold hd lp
  split <;> omega
theorem hd_mono {a b : Int} (h0 : 2000 ≤ a) (hab : a ≤ b) : hd a ≤ hd b := by
  unfold hd
  omega
theorem hd_lt {a b : Int} (h0 : 2000 ≤ a) (hab : a < b) : hd a + 365 ≤ hd b := by
  unfold hd
  omega
theorem hd_range {y : Int} (h0 : 2000 ≤ y) (h1 : y ≤ 2100) : 0 ≤ hd y ∧ hd y ≤ 36525 := by
  unfold hd
  omega
structure Valid (y m d : Int) : Prop where
  y0 : 2000 ≤ y
  y1 : y ≤ 2099
  m0 : 1 ≤ m
  m1 : m ≤ 12
  d0 : 1 ≤ d
  d1 : d ≤ mlen y m
def num (y m d : Int) : Int := hd y + cum y m + d - 1
theorem num_bounds {y m d : Int} (h : Valid y m d) : hd y ≤ num y m d ∧ num y m d < hd (y + 1) := by
  have := cum_succ y h.m0 h.m1
  have := cum_mono y (a := m + 1) (b := 13) (by have := h.m0; omega) (by have := h.m1; omega) (by omega)
  have := cum_13 y
  have := hd_succ h.y0
  have := cum_range y m
  have := h.d0
  have := h.d1
  unfold num
  omega
theorem num_range {y m d : Int} (h : Valid y m d) : 0 ≤ num y m d ∧ num y m d ≤ 36524 := by
  have a := num_bounds h
  have b := hd_range (y := y) h.y0 (by have := h.y1; omega)
  have c := hd_mono (a := y + 1) (b := 2100) (by have := h.y0; omega) (by have := h.y1; omega)
  have d : hd 2100 = 36525 := by decide
  omega
theorem d_le {y m d : Int} (h : Valid y m d) : d ≤ 31 := by
  have := mlen_range y m
  have := h.d1
  omega
/-- Each day has a date. -/
theorem month_of (y r : Int) (h0 : 0 ≤ r) (h1 : r < 365 + lp y) : ∃ m d, 1 ≤ m ∧ m ≤ 12 ∧ 1 ≤ d ∧ d ≤ mlen y m ∧ r = cum y m + d - 1 := by
  have key : ∀ n : Nat, n ≤ 12 → r < cum y (n + 1) → ∃ m d, 1 ≤ m ∧ m ≤ 12 ∧ 1 ≤ d ∧ d ≤ mlen y m ∧ r = cum y m + d - 1 := by
    intro n
    induction n with
    | zero =>
      intro _ h
      rw [show ((0 : Nat) : Int) + 1 = 1 from rfl, cum_1] at h
      omega
    | succ n ih =>
      intro hn h
      by_cases c : r < cum y (n + 1)
      · exact ih (by omega) c
      · have e := cum_succ y (m := (n : Int) + 1) (by omega) (by omega)
        refine ⟨(n : Int) + 1, r - cum y (n + 1) + 1, by omega, by omega, by omega, ?_, by omega⟩
        have e2 : ((n + 1 : Nat) : Int) + 1 = (n : Int) + 1 + 1 := by omega
        rw [e2, e] at h
        omega
  have h12 := key 12 (by omega)
  rw [show ((12 : Nat) : Int) + 1 = 13 from rfl, cum_13] at h12
  exact h12 h1
theorem date_of (day : Int) (h0 : 0 ≤ day) (h1 : day ≤ 36524) : ∃ y m d, Valid y m d ∧ day = num y m d := by
  have hy : ∃ y, 2000 ≤ y ∧ y ≤ 2099 ∧ hd y ≤ day ∧ day < hd (y + 1) := by
    refine ⟨2000 + 4 * (day / 1461) + (if day % 1461 < 366 then 0 else 1 + (day % 1461 - 366) / 365), ?_⟩
    unfold hd
    split <;> omega
  obtain ⟨y, hy0, hy1, a, b⟩ := hy
  rw [hd_succ hy0] at b
  obtain ⟨m, d, m0, m1, d0, d1, e⟩ := month_of y (day - hd y) (by omega) (by omega)
  exact ⟨y, m, d, ⟨hy0, hy1, m0, m1, d0, d1⟩, by unfold num; omega⟩
/-- A later date is a greater number. -/
theorem num_lt {y m d y' m' d' : Int} (h : Valid y m d) (h' : Valid y' m' d') (hlt : 12 * y + m < 12 * y' + m') : num y m d < num y' m' d' := by
  have a := num_bounds h
  have b := num_bounds h'
  by_cases c : y < y'
  · have := hd_mono (a := y + 1) (b := y') (by have := h.y0; omega) (by omega)
    omega
  · have e : y = y' := by
      have := h.m0; have := h'.m1; omega
    subst e
    have e := cum_succ y h.m0 h.m1
    have f := cum_mono y (a := m + 1) (b := m') (by have := h.m0; omega) (by omega) (by have := h'.m1; omega)
    have := h.d1
    have := h'.d0
    unfold num
    omega
theorem num_inj {y m d y' m' d' : Int} (h : Valid y m d) (h' : Valid y' m' d') (e : num y m d = num y' m' d') : y = y' ∧ m = m' ∧ d = d' := by
  have a : ¬ 12 * y + m < 12 * y' + m' := fun c => by have := num_lt h h' c; omega
  have b : ¬ 12 * y' + m' < 12 * y + m := fun c => by have := num_lt h' h c; omega
  have := h.m0; have := h.m1; have := h'.m0; have := h'.m1
  have hy : y = y' := by omega
  have hm : m = m' := by omega
  subst hy hm
  unfold num at e
  exact ⟨rfl, rfl, by omega⟩
end Go.Proofs.Ytidlcolgiololaa.Cal
namespace Go.Proofs.Ytidlcolgiololaa.DiskBase
open Go.RowKit Go.Proofs.Ytidlcolgiololaa.S Go.Proofs.YtidlcolgiololaaW.PrintWords Go.Proofs.Ytidlcolgiololaa.Cal
set_option linter.unusedVariables false
set_option linter.unusedSimpArgs false

def tot : List ByteArray → Nat
  | [] => 0
  | x :: r => x.size + tot r
theorem tot_append : ∀ a b : List ByteArray, tot (a ++ b) = tot a + tot b
  | [], b => by simp [tot]
  | x :: r, b => by
    rw [List.cons_append, tot, tot, tot_append r b]
    omega
theorem tot_mem : ∀ {l : List ByteArray} {x : ByteArray}, x ∈ l → x.size ≤ tot l
  | y :: r, x, h => by
    rw [tot]
    rcases List.mem_cons.1 h with rfl | h
    · omega
    · have := tot_mem h
      omega
theorem rdo (pre tl : List ByteArray) (x : ByteArray) : rdOf ByteArray.empty (pre ++ x :: tl) (pre.length : Int) = x := by
  unfold rdOf
  rw [List.getD_eq_getElem?_getD, Int.toNat_natCast, List.getElem?_append_right (Nat.le_refl _), Nat.sub_self]
  rfl
theorem nxt {α : Type} (pre : List α) (x : α) (h : pre.length ≤ 100000000) : wrap64 ((pre.length : Int) + 1) = ((pre ++ [x]).length : Int) := by
  rw [wid (by omega) (by omega), List.length_append]
  rfl
theorem snoc {α : Type} (pre tl : List α) (x : α) : pre ++ x :: tl = (pre ++ [x]) ++ tl := by rw [List.append_assoc]; rfl
theorem dataList_inj {a b : ByteArray} (h : a.data.toList = b.data.toList) : a = b := by
  obtain ⟨⟨a⟩⟩ := a
  obtain ⟨⟨b⟩⟩ := b
  simp at h
  rw [h]
theorem toList_data (s : ByteArray) : s.toList = s.data.toList := Lib.toList_data s
theorem toList_ne {s : ByteArray} : s.toList = ([] : List UInt8) ↔ s.size = 0 := by
  rw [toList_data]
  constructor
  · intro h
    have := congrArg List.length h
    rw [data_length] at this
    exact this
  · intro h
    apply List.eq_nil_of_length_eq_zero
    rw [data_length, h]

end Go.Proofs.Ytidlcolgiololaa.DiskBase
namespace Go.Proofs.Ytidlcolgiololaa.EvText
open Go.RowKit Go.Proofs.Ytidlcolgiololaa.S Go.Proofs.YtidlcolgiololaaW.PrintWords Go.Proofs.YtidlcolgiololaaW.PrintMore Go.Proofs.Ytidlcolgiololaa.Cal
set_option linter.unusedVariables false
set_option linter.unusedSimpArgs false

theorem u64_range (x : Int) : 0 ≤ IntKind.u64.wrap x ∧ IntKind.u64.wrap x < 18446744073709551616 := by
  have e : IntKind.u64.wrap x = x % 18446744073709551616 := by simp [IntKind.wrap, IntKind.signed, IntKind.bits]
  omega
theorem u64_id {x : Int} (h0 : 0 ≤ x) (h1 : x < 18446744073709551616) : IntKind.u64.wrap x = x := by
  have e : IntKind.u64.wrap x = x % 18446744073709551616 := by simp [IntKind.wrap, IntKind.signed, IntKind.bits]
  omega
/-! bits -/
theorem wraps_u64 (n : Int) (h₀ : 0 ≤ n) (h₁ : n < 2 ^ 64) : IntKind.u64.wrap n = n := u64_id h₀ (by omega)
theorem or_comm' (k : IntKind) (a b : Int) : Go.bits .or k a b = Go.bits .or k b a := by
  simp only [Go.bits]
  rw [BitVec.or_comm]
theorem or128 {y : Int} (h0 : 0 ≤ y) (h1 : y < 256) : Go.bits .or .u8 y 128 = y % 128 + 128 := by
  obtain ⟨a, rfl⟩ := Int.eq_ofNat_of_zero_le h0
  have h := (bits_nat .u8 8 (by decide) wraps_u8 a 128 (by omega) (by decide)).2
  have e : ∀ a : Nat, a < 256 → a ||| 128 = a % 128 + 128 := by decide +kernel
  have := e a (by omega)
  rw [this] at h
  have h' : Go.bits .or .u8 (a : Int) 128 = ((a % 128 + 128 : Nat) : Int) := h
  rw [h']
  simp
theorem and127 {y : Int} (h0 : 0 ≤ y) (h1 : y < 256) : Go.bits .and .u8 y 127 = y % 128 := bits_mask .u8 8 (by decide) wraps_u8 7 (by decide) y h0 (by omega)
theorem and1 {y : Int} (h0 : 0 ≤ y) (h1 : y < 18446744073709551616) : Go.bits .and .u64 y 1 = y % 2 := bits_mask .u64 64 (by decide) wraps_u64 1 (by decide) y h0 (by omega)
theorem or_join {a h : Int} (i : Nat) (hi : i ≤ 64) (a0 : 0 ≤ a) (a1 : a < 2 ^ i) (h0 : 0 ≤ h) (hm : h % 2 ^ i = 0) (h1 : h < 18446744073709551616) : Go.bits .or .u64 a h = a + h := by
  have hp : (2 : Int) ^ i ≤ 2 ^ 64 := by exact_mod_cast Nat.pow_le_pow_right (by decide) hi
  rw [or_comm', bits_join .u64 64 (by decide) wraps_u64 i h a h0 hm (by omega) a0 a1 (by omega)]
  omega
theorem xor_u0 {a : Int} (h0 : 0 ≤ a) (h1 : a < 18446744073709551616) : Go.bits .xor .u64 a 0 = a := by
  obtain ⟨n, rfl⟩ := Int.eq_ofNat_of_zero_le h0
  simp only [Go.bits, BitVec.ofInt_natCast]
  have e : (BitVec.ofInt IntKind.u64.bits 0) = 0#(IntKind.u64.bits) := by decide
  rw [e, BitVec.xor_zero, BitVec.toNat_ofNat]
  have e2 : n % 2 ^ IntKind.u64.bits = n := Nat.mod_eq_of_lt (by show n < 18446744073709551616; omega)
  rw [e2]
  exact u64_id h0 h1
theorem xor_u1 {a : Int} (h0 : 0 ≤ a) (h1 : a < 18446744073709551616) : Go.bits .xor .u64 a 18446744073709551615 = 18446744073709551615 - a := by
  obtain ⟨n, rfl⟩ := Int.eq_ofNat_of_zero_le h0
  simp only [Go.bits, BitVec.ofInt_natCast]
  have e : (BitVec.ofInt IntKind.u64.bits 18446744073709551615) = BitVec.allOnes IntKind.u64.bits := by decide
  rw [e, BitVec.xor_allOnes, BitVec.toNat_not, BitVec.toNat_ofNat]
  have e2 : n % 2 ^ IntKind.u64.bits = n := Nat.mod_eq_of_lt (by show n < 18446744073709551616; omega)
  rw [e2]
  have e3 : (((2 ^ IntKind.u64.bits - 1 - n : Nat)) : Int) = 18446744073709551615 - n := by
    have : (2 ^ IntKind.u64.bits - 1 : Nat) = 18446744073709551615 := by decide
    rw [this]
    omega
  rw [e3]
  exact u64_id (by omega) (by omega)
theorem xor_i0 {a : Int} (h0 : 0 ≤ a) (h1 : a ≤ 9223372036854775807) : Go.bits .xor .i64 a 0 = a := by
  obtain ⟨n, rfl⟩ := Int.eq_ofNat_of_zero_le h0
  simp only [Go.bits, BitVec.ofInt_natCast]
  have e : (BitVec.ofInt IntKind.i64.bits 0) = 0#(IntKind.i64.bits) := by decide
  rw [e, BitVec.xor_zero, BitVec.toNat_ofNat]
  have e2 : n % 2 ^ IntKind.i64.bits = n := Nat.mod_eq_of_lt (by show n < 18446744073709551616; omega)
  rw [e2, IntKind.wrap_i64]
  omega
theorem xor_i1 {a : Int} (h0 : 0 ≤ a) (h1 : a ≤ 9223372036854775807) : Go.bits .xor .i64 a (-1) = -a - 1 := by
  obtain ⟨n, rfl⟩ := Int.eq_ofNat_of_zero_le h0
  simp only [Go.bits, BitVec.ofInt_natCast]
  have e : (BitVec.ofInt IntKind.i64.bits (-1)) = BitVec.allOnes IntKind.i64.bits := by decide
  rw [e, BitVec.xor_allOnes, BitVec.toNat_not, BitVec.toNat_ofNat]
  have e2 : n % 2 ^ IntKind.i64.bits = n := Nat.mod_eq_of_lt (by show n < 18446744073709551616; omega)
  rw [e2]
  have e3 : (((2 ^ IntKind.i64.bits - 1 - n : Nat)) : Int) = 18446744073709551615 - n := by
    have : (2 ^ IntKind.i64.bits - 1 : Nat) = 18446744073709551615 := by decide
    rw [this]
    omega
  rw [e3, IntKind.wrap_i64]
  omega

/-! the bytes of a number -/
def zig (n : Int) : Int := if n < 0 then -2 * n - 1 else 2 * n
def unzig (u : Int) : Int := if u % 2 = 0 then u / 2 else -(u / 2) - 1
theorem unzig_zig (n : Int) : unzig (zig n) = n := by
  unfold unzig zig
  split <;> split <;> omega
theorem zig_range {n : Int} (h0 : -9223372036854775808 ≤ n) (h1 : n ≤ 9223372036854775807) : 0 ≤ zig n ∧ zig n < 18446744073709551616 := by
  unfold zig
  split <;> omega
def enc (u : Nat) : List Int := if u < 128 then [(u : Int)] else ((u % 128 + 128 : Nat) : Int) :: enc (u / 128)
termination_by u
decreasing_by omega
theorem enc_small {u : Nat} (h : u < 128) : enc u = [(u : Int)] := by
  rw [enc, if_pos h]
theorem enc_big {u : Nat} (h : ¬ u < 128) : enc u = ((u % 128 + 128 : Nat) : Int) :: enc (u / 128) := by
  rw [enc, if_neg h]
theorem enc_len (n : Nat) : ∀ u : Nat, u < 128 ^ n → 0 < n → (enc u).length ≤ n ∧ 1 ≤ (enc u).length := by
  induction n with
  | zero => intro u _ h; omega
  | succ n ih =>
    intro u hu _
    by_cases h : u < 128
    · rw [enc_small h]
      simp
    · rw [enc_big h, List.length_cons]
      have hn : 0 < n := by
        rcases Nat.eq_zero_or_pos n with h0 | h0
        · subst h0; simp at hu; omega
        · exact h0
      have := ih (u / 128) (by rw [Nat.div_lt_iff_lt_mul (by decide)]; rw [Nat.pow_succ] at hu; exact hu) hn
      omega
theorem enc_byte : ∀ (u : Nat), ∀ x ∈ enc u, 0 ≤ x ∧ x < 256 := by
  intro u
  induction u using Nat.strongRecOn with
  | _ u ih =>
    intro x hx
    by_cases h : u < 128
    · rw [enc_small h, List.mem_singleton] at hx
      omega
    · rw [enc_big h, List.mem_cons] at hx
      rcases hx with rfl | hx
      · omega
      · exact ih (u / 128) (by omega) x hx
theorem str_size (l : List Int) : (strOfNums l).size = l.length := by simp [strOfNums, ByteArray.size]
theorem app_size (a b : ByteArray) : (a ++ b).size = a.size + b.size := ByteArray.size_append
end Go.Proofs.Ytidlcolgiololaa.EvText
namespace Go.Proofs.Ytidlcolgiololaa.MdGet
open Go.RowKit Go.Proofs.Ytidlcolgiololaa.S Go.Proofs.YtidlcolgiololaaW.PrintWords Go.Proofs.YtidlcolgiololaaW.PrintMore Go.Proofs.Ytidlcolgiololaa.Cal Go.Proofs.Ytidlcolgiololaa.DiskBase Go.Proofs.Ytidlcolgiololaa.EvText
set_option linter.unusedVariables false
set_option linter.unusedSimpArgs false

def In (n : Int) : Prop := -9223372036854775808 ≤ n ∧ n ≤ 9223372036854775807
theorem told {u : Int} (h0 : 0 ≤ u) (h1 : u < 18446744073709551616) :
    Go.bits .xor .i64 (wrap64 (u / 2)) (wrap64 (-(wrap64 (Go.bits .and .u64 u 1)))) = unzig u := by
  rw [and1 h0 h1, wid (x := u / 2) (by omega) (by omega), wid (x := u % 2) (by omega) (by omega), wid (x := -(u % 2)) (by omega) (by omega)]
  unfold unzig
  by_cases h : u % 2 = 0
  · rw [if_pos h, h, Int.neg_zero, xor_i0 (by omega) (by omega)]
  · rw [if_neg h, show u % 2 = 1 by omega, xor_i1 (by omega) (by omega)]
theorem pow_le {j : Nat} (h : j ≤ 9) : (1 : Int) ≤ 2 ^ (7 * j) := by
  have : (1 : Nat) ≤ 2 ^ (7 * j) := Nat.one_le_two_pow
  exact_mod_cast this
theorem pow_next (j : Nat) : (2 : Int) ^ (7 * (j + 1)) = 2 ^ (7 * j) * 128 := by
  rw [show 7 * (j + 1) = 7 * j + 7 by omega, Int.pow_add]
  rfl
theorem pow9 : (2 : Int) ^ (7 * 9) = 9223372036854775808 := by decide
theorem pow_top {j : Nat} (h : j ≤ 8) : (2 : Int) ^ (7 * j) * 128 ≤ 9223372036854775808 := by
  rw [← pow_next, ← pow9]
  have : (2 : Nat) ^ (7 * (j + 1)) ≤ 2 ^ (7 * 9) := Nat.pow_le_pow_right (by decide) (by omega)
  exact_mod_cast this
theorem shl_pow {d : Int} {j : Nat} (hj : j ≤ 9) (h0 : 0 ≤ d * 2 ^ (7 * j)) (h1 : d * 2 ^ (7 * j) < 18446744073709551616) : shl .u64 d ((7 * j : Nat) : Int) = d * 2 ^ (7 * j) := by
  unfold shl
  have e1 : ((7 * j : Nat) : Int).toNat = 7 * j := by omega
  have e2 : min (7 * j) IntKind.u64.bits = 7 * j := Nat.min_eq_left (by show 7 * j ≤ 64; omega)
  rw [e1, e2]
  exact u64_id h0 h1
/-- What is read of a number from its j-th byte on: n bytes may come. -/
def gl : Nat → ByteArray → Int → Int → Nat → Int × Int × Int
  | 0, _, _, _, _ => (0, 0, 3)
  | n + 1, s, p, u, j => if p ≥ (s.size : Int) - j then (0, 0, 4) else
    if (j = 9 ∧ bt s (p + j) > 1) ∨ (0 < j ∧ bt s (p + j) = 0) then (0, 0, 3) else
    if bt s (p + j) < 128 then (unzig (u + bt s (p + j) % 128 * 2 ^ (7 * j)), p + j + 1, 0) else gl n s p (u + bt s (p + j) % 128 * 2 ^ (7 * j)) (j + 1)
theorem acc_next {s : ByteArray} {p u : Int} {j : Nat} (hj : j ≤ 9) (u0 : 0 ≤ u) (u1 : u < 2 ^ (7 * j)) (c : Int) (c0 : 0 ≤ c) (c1 : c < 256) (h9 : j = 9 → c ≤ 1) :
    0 ≤ c % 128 * 2 ^ (7 * j) ∧ u + c % 128 * 2 ^ (7 * j) < 18446744073709551616 ∧ (j ≤ 8 → u + c % 128 * 2 ^ (7 * j) < 2 ^ (7 * (j + 1))) := by
  have p1 := pow_le hj
  have hm : 0 ≤ c % 128 * (2 : Int) ^ (7 * j) := Int.mul_nonneg (by omega) (by omega)
  refine ⟨hm, ?_, fun h8 => ?_⟩
  · by_cases h8 : j ≤ 8
    · have := pow_top h8
      have : c % 128 * (2 : Int) ^ (7 * j) ≤ 127 * 2 ^ (7 * j) := Int.mul_le_mul_of_nonneg_right (by omega) (by omega)
      omega
    · have e : j = 9 := by omega
      subst e
      rw [pow9] at u1 hm ⊢
      have := h9 rfl
      omega
  · rw [pow_next]
    have : c % 128 * (2 : Int) ^ (7 * j) ≤ 127 * 2 ^ (7 * j) := Int.mul_le_mul_of_nonneg_right (by omega) (by omega)
    omega
theorem impl_gl {s : ByteArray} (hs : s.size ≤ 1048576) {p : Int} (hp : 0 ≤ p) : ∀ (n j k : Nat) (u : Int), n + j = 10 → 2 * n < k → 0 ≤ u → (j ≤ 9 → u < 2 ^ (7 * j)) → impl_getNum.l0 k s p u (j : Int) = some (gl n s p u j) := by
  intro n
  induction n with
  | zero =>
    intro j k u hj hk u0 u1
    obtain ⟨k, rfl⟩ : ∃ i, k = i + 1 := ⟨k - 1, by omega⟩
    rw [impl_getNum.l0]
    exact no (by omega) rfl
  | succ n ih =>
    intro j k u hj hk u0 u1
    have h9 : j ≤ 9 := by omega
    have hu := u1 h9
    obtain ⟨k, rfl⟩ : ∃ i, k = i + 2 := ⟨k - 2, by omega⟩
    rw [impl_getNum.l0, gl]
    refine yes (by omega) ?_
    rw [wid (x := (s.size : Int) - j) (by omega) (by omega)]
    by_cases c : p ≥ (s.size : Int) - j
    · rw [if_pos c, if_pos c]
    rw [if_neg c, if_neg c, wid (x := p + j) (by omega) (by omega)]
    refine yes (by omega) ?_
    refine yes (by omega) ?_
    have hb := bt_range s (p + j)
    generalize bt s (p + j) = b at hb ⊢
    have w7 : wrap64 (7 * (j : Int)) = ((7 * j : Nat) : Int) := by rw [wid (by omega) (by omega)]; omega
    have body : ¬ ((j = 9 ∧ b > 1) ∨ (0 < j ∧ b = 0)) → impl_getNum.j1 (k + 1) s p u j b false = some (if b < 128 then (unzig (u + b % 128 * 2 ^ (7 * j)), p + j + 1, 0) else gl n s p (u + b % 128 * 2 ^ (7 * j)) (j + 1)) := by
      intro hn
      obtain ⟨a0, a1, a2⟩ := acc_next (s := s) (p := p) h9 u0 hu b (by omega) (by omega) (fun h => by omega)
      have e : Go.bits .or .u64 u (shl .u64 (IntKind.u64.wrap (Go.bits .and .u8 b 127)) ((7 * j : Nat) : Int)) = u + b % 128 * 2 ^ (7 * j) := by
        rw [and127 (by omega) (by omega), u64_id (x := b % 128) (by omega) (by omega), shl_pow h9 a0 (by omega)]
        exact or_join (7 * j) (by omega) u0 hu a0 (Int.mul_emod_left _ _) (by omega)
      rw [impl_getNum.j1]
      refine no (by decide) ?_
      rw [w7, e]
      have v0 : 0 ≤ u + b % 128 * 2 ^ (7 * j) := Int.add_nonneg u0 a0
      generalize u + b % 128 * 2 ^ (7 * j) = v at v0 a1 a2 ⊢
      have a2' : j + 1 ≤ 9 → v < 2 ^ (7 * (j + 1)) := fun h => a2 (Nat.le_of_succ_le_succ h)
      clear a0 a2 e hu u1
      refine yes (by omega) ?_
      by_cases c2 : b < 128
      · rw [if_pos c2, if_pos c2, told v0 a1, wid (x := p + j) (by omega) (by omega), wid (by omega) (by omega)]
      · rw [if_neg c2, if_neg c2]
        have w1 : wrap64 ((j : Int) + 1) = ((j + 1 : Nat) : Int) := by rw [wid (by omega) (by omega)]; omega
        rw [w1]
        exact ih (j + 1) k _ (by omega) (by omega) v0 a2'
    have stop : impl_getNum.j1 (k + 1) s p u j b true = some (0, 0, 3) := by
      rw [impl_getNum.j1]
      exact yes rfl rfl
    by_cases d : (j = 9 ∧ b > 1) ∨ (0 < j ∧ b = 0)
    · rw [if_pos d]
      by_cases e9 : (j : Int) = 9
      · refine yes e9 ?_
        by_cases e1 : b > 1
        · exact yes e1 stop
        · refine no e1 ?_
          refine yes (by omega) ?_
          rw [show (b == 0) = true from beq_iff_eq.2 (by omega)]
          exact stop
      · refine no e9 ?_
        refine yes (by omega) ?_
        rw [show (b == 0) = true from beq_iff_eq.2 (by omega)]
        exact stop
    · rw [if_neg d]
      by_cases e9 : (j : Int) = 9
      · refine yes e9 ?_
        refine no (by omega) ?_
        refine yes (by omega) ?_
        rw [show (b == 0) = false from beq_eq_false_iff_ne.2 (by omega)]
        exact body d
      · refine no e9 ?_
        by_cases e0 : (j : Int) > 0
        · refine yes e0 ?_
          rw [show (b == 0) = false from beq_eq_false_iff_ne.2 (by omega)]
          exact body d
        · exact no e0 (body d)
theorem spec_gl {s : ByteArray} (hs : s.size ≤ 1048576) {p : Int} (hp : 0 ≤ p) : ∀ (n j k : Nat) (u : Int), n + j = 10 → 3 * n < k → 0 ≤ u → (j ≤ 9 → u < 2 ^ (7 * j)) → spec_GetNum.l0 k s p u (j : Int) = some (gl n s p u j) := by
  intro n
  induction n with
  | zero =>
    intro j k u hj hk u0 u1
    obtain ⟨k, rfl⟩ : ∃ i, k = i + 1 := ⟨k - 1, by omega⟩
    rw [spec_GetNum.l0]
    exact no (by omega) rfl
  | succ n ih =>
    intro j k u hj hk u0 u1
    have h9 : j ≤ 9 := by omega
    have hu := u1 h9
    obtain ⟨k, rfl⟩ : ∃ i, k = i + 3 := ⟨k - 3, by omega⟩
    rw [spec_GetNum.l0, gl]
    refine yes (by omega) ?_
    rw [wid (x := (s.size : Int) - j) (by omega) (by omega)]
    by_cases c : p ≥ (s.size : Int) - j
    · rw [if_pos c, if_pos c]
    rw [if_neg c, if_neg c, wid (x := p + j) (by omega) (by omega)]
    refine yes (by omega) ?_
    refine yes (by omega) ?_
    have hb := bt_range s (p + j)
    generalize bt s (p + j) = b at hb ⊢
    rw [u64_id (x := b) (by omega) (by omega)]
    have w7 : IntKind.u64.wrap (wrap64 (7 * (j : Int))) = ((7 * j : Nat) : Int) := by rw [wid (by omega) (by omega), u64_id (by omega) (by omega)]; omega
    have body : ¬ (j = 9 ∧ b > 1) → spec_GetNum.j1 (k + 2) s p u j b false = some (if (j = 9 ∧ b > 1) ∨ (0 < j ∧ b = 0) then (0, 0, 3) else if b < 128 then (unzig (u + b % 128 * 2 ^ (7 * j)), p + j + 1, 0) else gl n s p (u + b % 128 * 2 ^ (7 * j)) (j + 1)) := by
      intro hn
      obtain ⟨a0, a1, a2⟩ := acc_next (s := s) (p := p) h9 u0 hu b (by omega) (by omega) (fun h => by omega)
      have e : IntKind.u64.wrap (u + shl .u64 (Int.tmod b 128) ((7 * j : Nat) : Int)) = u + b % 128 * 2 ^ (7 * j) := by
        rw [tm (by omega), shl_pow h9 a0 (by omega), u64_id (by omega) a1]
      rw [spec_GetNum.j1]
      refine no (by decide) ?_
      rw [w7, e]
      refine yes (by omega) ?_
      have v0 : 0 ≤ u + b % 128 * 2 ^ (7 * j) := Int.add_nonneg u0 a0
      generalize u + b % 128 * 2 ^ (7 * j) = v at v0 a1 a2 ⊢
      have a2' : j + 1 ≤ 9 → v < 2 ^ (7 * (j + 1)) := fun h => a2 (Nat.le_of_succ_le_succ h)
      clear a0 a2 e hu u1
      by_cases c2 : b < 128
      · refine yes c2 ?_
        have fin : spec_GetNum.j2 (k + 1) p v j false = some (unzig v, p + j + 1, 0) := by
          rw [spec_GetNum.j2]
          refine no (by decide) ?_
          rw [tm v0, td v0, wid (x := p + j) (by omega) (by omega), wid (x := p + j + 1) (by omega) (by omega), u64_id (x := v / 2) (by omega) (by omega), wid (x := v / 2) (by omega) (by omega), wid (x := -(v / 2)) (by omega) (by omega), wid (x := -(v / 2) - 1) (by omega) (by omega)]
          unfold unzig
          by_cases h2 : v % 2 = 1
          · rw [if_pos h2, if_neg (by omega)]
          · rw [if_neg h2, if_pos (by omega)]
        by_cases c0 : b = 0
        · refine yes c0 ?_
          by_cases cj : (j : Int) > 0
          · rw [show decide ((j : Int) > 0) = true from decide_eq_true cj, if_pos (Or.inr ⟨by omega, c0⟩), spec_GetNum.j2]
            exact yes rfl rfl
          · rw [show decide ((j : Int) > 0) = false from decide_eq_false cj, if_neg (by omega), if_pos c2]
            exact fin
        · refine no c0 ?_
          rw [if_neg (by omega), if_pos c2]
          exact fin
      · refine no c2 ?_
        rw [if_neg (by omega), if_neg c2]
        have w1 : wrap64 ((j : Int) + 1) = ((j + 1 : Nat) : Int) := by rw [wid (by omega) (by omega)]; omega
        rw [w1]
        exact ih (j + 1) (k + 1) _ (by omega) (by omega) v0 a2'
    by_cases e9 : (j : Int) = 9
    · refine yes e9 ?_
      by_cases e1 : b > 1
      · rw [show decide (b > 1) = true from decide_eq_true e1, if_pos (Or.inl ⟨by omega, e1⟩), spec_GetNum.j1]
        exact yes rfl rfl
      · rw [show decide (b > 1) = false from decide_eq_false e1]
        exact body (by omega)
    · exact no e9 (body (by omega))
theorem unzig_in {u : Int} (h0 : 0 ≤ u) (h1 : u < 18446744073709551616) : In (unzig u) := by
  unfold In unzig
  split <;> omega
theorem gl_facts {s : ByteArray} {p : Int} (hp : 0 ≤ p) : ∀ (n j : Nat) (u : Int), n + j = 10 → 0 ≤ u → (j ≤ 9 → u < 2 ^ (7 * j)) → ∀ r, gl n s p u j = r →
    (r.2.2 = 0 → p < r.2.1 ∧ r.2.1 ≤ s.size ∧ In r.1) ∧ (r.2.2 ≠ 0 → r.1 = 0 ∧ r.2.1 = 0) := by
  intro n
  induction n with
  | zero =>
    intro j u hj u0 u1 r e
    subst e
    exact ⟨fun h => absurd (show (3 : Int) = 0 from h) (by decide), fun _ => ⟨rfl, rfl⟩⟩
  | succ n ih =>
    intro j u hj u0 u1 r e
    have h9 : j ≤ 9 := by omega
    have hu := u1 h9
    rw [gl] at e
    have hb := bt_range s (p + j)
    generalize bt s (p + j) = b at hb e
    by_cases c : p ≥ (s.size : Int) - j
    · rw [if_pos c] at e
      subst e
      exact ⟨fun h => absurd h (by decide), fun _ => ⟨rfl, rfl⟩⟩
    rw [if_neg c] at e
    by_cases d : (j = 9 ∧ b > 1) ∨ (0 < j ∧ b = 0)
    · rw [if_pos d] at e
      subst e
      exact ⟨fun h => absurd h (by decide), fun _ => ⟨rfl, rfl⟩⟩
    rw [if_neg d] at e
    obtain ⟨a0, a1, a2⟩ := acc_next (s := s) (p := p) h9 u0 hu b (by omega) (by omega) (fun h => by omega)
    by_cases c2 : b < 128
    · rw [if_pos c2] at e
      subst e
      exact ⟨fun _ => ⟨by show p < p + j + 1; omega, by show p + j + 1 ≤ s.size; omega, unzig_in (Int.add_nonneg u0 a0) a1⟩, fun h => absurd rfl h⟩
    · rw [if_neg c2] at e
      exact ih (j + 1) _ (by omega) (Int.add_nonneg u0 a0) (fun h => a2 (Nat.le_of_succ_le_succ h)) r e
/-- The number at a place, the place behind it, and 0 or the code. -/
def gn (s : ByteArray) (p : Int) : Int × Int × Int := gl 10 s p 0 0
theorem gn_facts {s : ByteArray} {p : Int} (hp : 0 ≤ p) : ((gn s p).2.2 = 0 → p < (gn s p).2.1 ∧ (gn s p).2.1 ≤ s.size ∧ In (gn s p).1) ∧ ((gn s p).2.2 ≠ 0 → (gn s p).1 = 0 ∧ (gn s p).2.1 = 0) :=
  gl_facts hp 10 0 0 rfl (by decide) (fun _ => by decide) _ rfl
theorem gn_in {s : ByteArray} {p : Int} (hp : 0 ≤ p) : In (gn s p).1 ∧ 0 ≤ (gn s p).2.1 ∧ (gn s p).2.1 ≤ s.size := by
  obtain ⟨h1, h2⟩ := gn_facts (s := s) hp
  by_cases c : (gn s p).2.2 = 0
  · obtain ⟨a, b, d⟩ := h1 c
    exact ⟨d, by omega, b⟩
  · obtain ⟨a, b⟩ := h2 c
    rw [a, b]
    exact ⟨by unfold In; omega, by omega, by omega⟩
theorem impl_num {s : ByteArray} (hs : s.size ≤ 1048576) {p : Int} (hp : 0 ≤ p) {k : Nat} (hk : 40 ≤ k) : impl_getNum.f k s p = some (gn s p) := by
  unfold impl_getNum.f
  exact no (by omega) (impl_gl hs hp 10 0 k 0 rfl (by omega) (by decide) (fun _ => by decide))
theorem spec_num {s : ByteArray} (hs : s.size ≤ 20000) {p : Int} (hp : 0 ≤ p) {k : Nat} (hk : 40 ≤ k) : spec_GetNum.f k s p = some (gn s p) := by
  unfold spec_GetNum.f
  refine no (by omega) ?_
  exact no (by omega) (spec_gl (by omega) hp 10 0 k 0 rfl (by omega) (by decide) (fun _ => by decide))
end Go.Proofs.Ytidlcolgiololaa.MdGet
namespace Go.Proofs.Ytidlcolgiololaa.MdHts
open Go.RowKit Go.Proofs.Ytidlcolgiololaa.S Go.Proofs.YtidlcolgiololaaW.PrintWords Go.Proofs.Ytidlcolgiololaa.Cal Go.Proofs.Ytidlcolgiololaa.DiskBase Go.Proofs.Ytidlcolgiololaa.EvText
set_option linter.unusedVariables false
set_option linter.unusedSimpArgs false

def negs (h : List Int) : Nat := h.countP (fun x => decide (x < 0))
theorem negs_set : ∀ {h : List Int} {t : Nat} {v : Int}, t < h.length → h.getD t 0 < 0 → 0 ≤ v → negs (h.set t v) + 1 = negs h
  | x :: r, 0, v, _, h0, hv => by
    have h0' : x < 0 := h0
    unfold negs
    rw [List.set_cons_zero, List.countP_cons, List.countP_cons, if_neg (by simp; omega), if_pos (by simp; omega)]
  | x :: r, t + 1, v, ht, h0, hv => by
    have ih := negs_set (h := r) (t := t) (v := v) (by simpa using ht) (by simpa using h0) hv
    unfold negs at ih ⊢
    rw [List.set_cons_succ, List.countP_cons, List.countP_cons]
    omega
theorem negs_le (h : List Int) : negs h ≤ h.length := List.countP_le_length
theorem rd_set_eq {h : List Int} {t : Int} (v : Int) (h0 : 0 ≤ t) (h1 : t < h.length) : rd (h.set t.toNat v) t = v := by
  unfold rd
  rw [List.getD_eq_getElem?_getD, List.getElem?_set_self (by omega)]
  rfl
theorem rd_set_ne {h : List Int} {t j : Int} (v : Int) (h0 : 0 ≤ t) (j0 : 0 ≤ j) (hn : j ≠ t) : rd (h.set t.toNat v) j = rd h j := by
  unfold rd
  rw [List.getD_eq_getElem?_getD, List.getD_eq_getElem?_getD, List.getElem?_set_ne (by omega)]
/-- The places that are told their height by an instruction at a place. -/
def vis (n hi : Int) : List Int → List Int → List Int → Option (List Int × List Int)
  | [], h, q => some (h, q)
  | t :: ts, h, q => if t ≥ n ∨ hi > 60 ∨ (rd h t ≥ 0 ∧ rd h t ≠ hi) then none else if rd h t < 0 then vis n hi ts (h.set t.toNat hi) (q ++ [t]) else vis n hi ts h q
/-- What stands of the heights and of the places that wait. -/
structure Hts (n : Nat) (h q : List Int) : Prop where
  len : h.length = n
  hi : ∀ j : Int, 0 ≤ j → j < n → -1 ≤ rd h j ∧ rd h j ≤ 60
  q0 : ∀ t ∈ q, 0 ≤ t ∧ t < n ∧ 0 ≤ rd h t
theorem Hts.put {n : Nat} {h q : List Int} (H : Hts n h q) {t v : Int} (t0 : 0 ≤ t) (t1 : t < n) (v0 : 0 ≤ v) (v1 : v ≤ 60) : Hts n (h.set t.toNat v) (q ++ [t]) := by
  have hl := H.len
  refine ⟨by rw [List.length_set]; exact hl, fun j j0 j1 => ?_, fun x hx => ?_⟩
  · by_cases c : j = t
    · rw [c, rd_set_eq v t0 (by omega)]
      omega
    · rw [rd_set_ne v t0 j0 c]
      exact H.hi j j0 j1
  · by_cases c : x = t
    · rw [c, rd_set_eq v t0 (by omega)]
      exact ⟨t0, t1, v0⟩
    · rcases List.mem_append.1 hx with hx | hx
      · obtain ⟨a, b, d⟩ := H.q0 x hx
        rw [rd_set_ne v t0 a c]
        exact ⟨a, b, d⟩
      · exact absurd (List.mem_singleton.1 hx) c
theorem vis_inv {n : Nat} {hi : Int} (v0 : 0 ≤ hi) : ∀ (ts h q h' q' : List Int), (∀ t ∈ ts, 0 ≤ t) → Hts n h q → vis n hi ts h q = some (h', q') → Hts n h' q' ∧ negs h' + q'.length = negs h + q.length := by
  intro ts
  induction ts with
  | nil =>
    intro h q h' q' _ H e
    simp only [vis, Option.some.injEq, Prod.mk.injEq] at e
    obtain ⟨rfl, rfl⟩ := e
    exact ⟨H, rfl⟩
  | cons t ts ih =>
    intro h q h' q' h0 H e
    rw [vis] at e
    have t0 := h0 t (List.mem_cons_self ..)
    have hr : ∀ x ∈ ts, 0 ≤ x := fun x hx => h0 x (List.mem_cons_of_mem _ hx)
    split at e
    · cases e
    · rename_i c
      split at e
      · rename_i d
        have hl := H.len
        obtain ⟨a, b⟩ := ih _ _ _ _ hr (H.put t0 (by omega) v0 (by omega)) e
        have f := negs_set (h := h) (t := t.toNat) (v := hi) (by omega) d v0
        rw [List.length_append, List.length_singleton] at b
        exact ⟨a, by omega⟩
      · exact ih _ _ _ _ hr H e
theorem vis_len {n : Nat} {hi : Int} : ∀ (ts h q h' q' : List Int), vis n hi ts h q = some (h', q') → h'.length = h.length ∧ q'.length ≤ q.length + ts.length := by
  intro ts
  induction ts with
  | nil =>
    intro h q h' q' e
    simp only [vis, Option.some.injEq, Prod.mk.injEq] at e
    obtain ⟨rfl, rfl⟩ := e
    exact ⟨rfl, by simp⟩
  | cons t ts ih =>
    intro h q h' q' e
    rw [vis] at e
    split at e
    · cases e
    · split at e
      · obtain ⟨a, b⟩ := ih _ _ _ _ e
        rw [List.length_append, List.length_singleton] at b
        exact ⟨by rw [a, List.length_set], by rw [List.length_cons]; omega⟩
      · obtain ⟨a, b⟩ := ih _ _ _ _ e
        exact ⟨a, by rw [List.length_cons]; omega⟩

theorem rd_pre (pre r : List Int) (x : Int) : rd (pre ++ x :: r) (pre.length : Int) = x := by
  unfold rd
  rw [List.getD_eq_getElem?_getD, Int.toNat_natCast, List.getElem?_append_right (Nat.le_refl _), Nat.sub_self]
  rfl
theorem spec_vis {n : Nat} {hi : Int} (a b c d : Int) (code : List S64) : ∀ (rest pre h q : List Int) (k : Nat), (∀ t ∈ rest, 0 ≤ t) → h.length = n → pre.length + rest.length ≤ 1000 → q.length + rest.length ≤ 1000000 →
    (∀ h' q', vis n hi rest h q = some (h', q') → spec_l10Heights.l2 (k + 2 * rest.length + 1) n h q hi (pre ++ rest) pre.length a b c d code = spec_l10Heights.l1 k n h' q' a b c d code) ∧
    (vis n hi rest h q = none → ∃ x, spec_l10Heights.l2 (k + 2 * rest.length + 1) n h q hi (pre ++ rest) pre.length a b c d code = some (x, false)) := by
  intro rest
  induction rest with
  | nil =>
    intro pre h q k _ hl hp hq
    refine ⟨fun h' q' e => ?_, fun e => by cases e⟩
    simp only [vis, Option.some.injEq, Prod.mk.injEq] at e
    obtain ⟨rfl, rfl⟩ := e
    show spec_l10Heights.l2 (k + 1) _ _ _ _ _ _ _ _ _ _ _ = _
    rw [List.append_nil, spec_l10Heights.l2]
    exact no (by omega) rfl
  | cons t ts ih =>
    intro pre h q k h0 hl hp hq
    rw [List.length_cons] at hp hq
    have t0 := h0 t (List.mem_cons_self ..)
    have ht : ∀ x ∈ ts, 0 ≤ x := fun x hx => h0 x (List.mem_cons_of_mem _ hx)
    have ek : k + 2 * (t :: ts).length + 1 = (k + 2 * ts.length + 1) + 1 + 1 := by rw [List.length_cons]; omega
    have hlen : (pre ++ t :: ts).length = pre.length + (ts.length + 1) := by rw [List.length_append, List.length_cons]
    have hr := rd_pre pre ts t
    have stop : spec_l10Heights.j7 (k + 2 * ts.length + 1 + 1) n h q hi (pre ++ t :: ts) pre.length true a b c d code = some (h, false) := by
      rw [spec_l10Heights.j7]
      exact yes rfl rfl
    have go : ¬ t ≥ n → spec_l10Heights.j7 (k + 2 * ts.length + 1 + 1) n h q hi (pre ++ t :: ts) pre.length false a b c d code =
        if rd h t < 0 then spec_l10Heights.l2 (k + 2 * ts.length + 1) n (h.set t.toNat hi) (q ++ [t]) hi ((pre ++ [t]) ++ ts) ((pre ++ [t]).length : Int) a b c d code
        else spec_l10Heights.l2 (k + 2 * ts.length + 1) n h q hi ((pre ++ [t]) ++ ts) ((pre ++ [t]).length : Int) a b c d code := by
      intro hn
      rw [spec_l10Heights.j7]
      refine no (by decide) ?_
      refine yes (by omega) ?_
      refine yes (by rw [hlen]; omega) ?_
      rw [hr]
      refine yes t0 ?_
      refine yes (by omega) ?_
      rw [nxt pre t (by omega), snoc pre ts t]
      by_cases c : rd h t < 0
      · rw [if_pos c, if_pos c]
        exact yes (by omega) rfl
      · rw [if_neg c, if_neg c]
    have key : spec_l10Heights.l2 (k + 2 * (t :: ts).length + 1) n h q hi (pre ++ t :: ts) pre.length a b c d code = if t ≥ n ∨ hi > 60 ∨ (rd h t ≥ 0 ∧ rd h t ≠ hi) then some (h, false) else
        if rd h t < 0 then spec_l10Heights.l2 (k + 2 * ts.length + 1) n (h.set t.toNat hi) (q ++ [t]) hi ((pre ++ [t]) ++ ts) ((pre ++ [t]).length : Int) a b c d code
        else spec_l10Heights.l2 (k + 2 * ts.length + 1) n h q hi ((pre ++ [t]) ++ ts) ((pre ++ [t]).length : Int) a b c d code := by
      rw [ek, spec_l10Heights.l2]
      refine yes (by rw [hlen]; omega) ?_
      refine yes (by omega) ?_
      rw [hr]
      by_cases c1 : t ≥ n
      · rw [if_pos (Or.inl c1)]
        exact yes c1 stop
      refine no c1 ?_
      by_cases c2 : hi > 60
      · rw [if_pos (Or.inr (Or.inl c2))]
        exact yes c2 stop
      refine no c2 ?_
      refine yes t0 ?_
      refine yes (by omega) ?_
      by_cases c3 : rd h t ≥ 0
      · refine yes c3 ?_
        by_cases c4 : rd h t = hi
        · rw [if_neg (by omega), show (rd h t != hi) = false from bne_eq_false_iff_eq.2 c4]
          exact go c1
        · rw [if_pos (Or.inr (Or.inr ⟨c3, c4⟩)), show (rd h t != hi) = true from bne_iff_ne.2 c4]
          exact stop
      · refine no c3 ?_
        rw [if_neg (by omega)]
        exact go c1
    have lp : (pre ++ [t]).length = pre.length + 1 := by rw [List.length_append]; rfl
    have lq : (q ++ [t]).length = q.length + 1 := by rw [List.length_append]; rfl
    rw [key, vis]
    by_cases c1 : t ≥ n ∨ hi > 60 ∨ (rd h t ≥ 0 ∧ rd h t ≠ hi)
    · rw [if_pos c1, if_pos c1]
      exact ⟨fun _ _ e => (by cases e), fun _ => ⟨h, rfl⟩⟩
    · rw [if_neg c1, if_neg c1]
      by_cases c2 : rd h t < 0
      · rw [if_pos c2, if_pos c2]
        exact ih (pre ++ [t]) _ _ k ht (by rw [List.length_set]; exact hl) (by omega) (by omega)
      · rw [if_neg c2, if_neg c2]
        exact ih (pre ++ [t]) _ _ k ht hl (by omega) (by omega)
theorem impl_vis {n : Nat} {hi : Int} (a b c d : Int) (code : List S64) (hc : code.length = n) (h60 : hi ≤ 60) : ∀ (rest pre h q : List Int) (k : Nat), (∀ t ∈ rest, 0 ≤ t ∧ t ≤ n) → h.length = n → pre.length + rest.length ≤ 1000 → q.length + rest.length ≤ 1000000 →
    (∀ h' q', vis n hi rest h q = some (h', q') → impl_Module_heights.l1 (k + 2 * rest.length + 1) h q hi (pre ++ rest) ((pre ++ rest).length : Int) pre.length a b c d code = impl_Module_heights.l0 k h' q' a b c d code) ∧
    (vis n hi rest h q = none → ∃ x, impl_Module_heights.l1 (k + 2 * rest.length + 1) h q hi (pre ++ rest) ((pre ++ rest).length : Int) pre.length a b c d code = some (x, false)) := by
  intro rest
  induction rest with
  | nil =>
    intro pre h q k _ hl hp hq
    refine ⟨fun h' q' e => ?_, fun e => by cases e⟩
    simp only [vis, Option.some.injEq, Prod.mk.injEq] at e
    obtain ⟨rfl, rfl⟩ := e
    show impl_Module_heights.l1 (k + 1) _ _ _ _ _ _ _ _ _ _ _ = _
    rw [List.append_nil, impl_Module_heights.l1]
    exact no (by omega) rfl
  | cons t ts ih =>
    intro pre h q k h0 hl hp hq
    rw [List.length_cons] at hp hq
    have t0 := h0 t (List.mem_cons_self ..)
    have ht : ∀ x ∈ ts, 0 ≤ x ∧ x ≤ n := fun x hx => h0 x (List.mem_cons_of_mem _ hx)
    have ek : k + 2 * (t :: ts).length + 1 = (k + 2 * ts.length + 1) + 1 + 1 := by rw [List.length_cons]; omega
    have hlen : (pre ++ t :: ts).length = pre.length + (ts.length + 1) := by rw [List.length_append, List.length_cons]
    have hr := rd_pre pre ts t
    have stop : impl_Module_heights.j7 (k + 2 * ts.length + 1 + 1) h q hi t (pre ++ t :: ts) ((pre ++ t :: ts).length : Int) pre.length true a b c d code = some ([], false) := by
      rw [impl_Module_heights.j7]
      exact yes rfl rfl
    have go : ¬ t ≥ n → impl_Module_heights.j7 (k + 2 * ts.length + 1 + 1) h q hi t (pre ++ t :: ts) ((pre ++ t :: ts).length : Int) pre.length false a b c d code =
        if rd h t < 0 then impl_Module_heights.l1 (k + 2 * ts.length + 1) (h.set t.toNat hi) (q ++ [t]) hi ((pre ++ [t]) ++ ts) (((pre ++ [t]) ++ ts).length : Int) ((pre ++ [t]).length : Int) a b c d code
        else impl_Module_heights.l1 (k + 2 * ts.length + 1) h q hi ((pre ++ [t]) ++ ts) (((pre ++ [t]) ++ ts).length : Int) ((pre ++ [t]).length : Int) a b c d code := by
      intro hn
      rw [impl_Module_heights.j7]
      refine no (by decide) ?_
      refine yes t0.1 ?_
      refine yes (by omega) ?_
      rw [nxt pre t (by omega), snoc pre ts t]
      by_cases c : rd h t < 0
      · rw [if_pos c, if_pos c]
        exact yes (by omega) rfl
      · rw [if_neg c, if_neg c]
    have key : impl_Module_heights.l1 (k + 2 * (t :: ts).length + 1) h q hi (pre ++ t :: ts) ((pre ++ t :: ts).length : Int) pre.length a b c d code = if t ≥ n ∨ hi > 60 ∨ (rd h t ≥ 0 ∧ rd h t ≠ hi) then some ([], false) else
        if rd h t < 0 then impl_Module_heights.l1 (k + 2 * ts.length + 1) (h.set t.toNat hi) (q ++ [t]) hi ((pre ++ [t]) ++ ts) (((pre ++ [t]) ++ ts).length : Int) ((pre ++ [t]).length : Int) a b c d code
        else impl_Module_heights.l1 (k + 2 * ts.length + 1) h q hi ((pre ++ [t]) ++ ts) (((pre ++ [t]) ++ ts).length : Int) ((pre ++ [t]).length : Int) a b c d code := by
      rw [ek, impl_Module_heights.l1]
      refine yes (by rw [hlen]; omega) ?_
      refine yes (by omega) ?_
      refine yes (by rw [hlen]; omega) ?_
      rw [hr]
      by_cases c1 : t ≥ n
      · rw [if_pos (Or.inl c1)]
        exact yes (by omega) stop
      refine no (by omega) ?_
      refine yes t0.1 ?_
      refine yes (by omega) ?_
      by_cases c3 : rd h t ≥ 0
      · refine yes c3 ?_
        by_cases c4 : rd h t = hi
        · rw [if_neg (by omega), show (rd h t != hi) = false from bne_eq_false_iff_eq.2 c4]
          exact go c1
        · rw [if_pos (Or.inr (Or.inr ⟨c3, c4⟩)), show (rd h t != hi) = true from bne_iff_ne.2 c4]
          exact stop
      · refine no c3 ?_
        rw [if_neg (by omega)]
        exact go c1
    have lp : (pre ++ [t]).length = pre.length + 1 := by rw [List.length_append]; rfl
    have lq : (q ++ [t]).length = q.length + 1 := by rw [List.length_append]; rfl
    rw [key, vis]
    by_cases c1 : t ≥ n ∨ hi > 60 ∨ (rd h t ≥ 0 ∧ rd h t ≠ hi)
    · rw [if_pos c1, if_pos c1]
      exact ⟨fun _ _ e => (by cases e), fun _ => ⟨[], rfl⟩⟩
    · rw [if_neg c1, if_neg c1]
      by_cases c2 : rd h t < 0
      · rw [if_pos c2, if_pos c2]
        exact ih (pre ++ [t]) _ _ k ht (by rw [List.length_set]; exact hl) (by omega) (by omega)
      · rw [if_neg c2, if_neg c2]
        exact ih (pre ++ [t]) _ _ k ht hl (by omega) (by omega)
/-- Where an instruction leads. -/
def tgs (o A p : Int) : List Int := (if o = 22 ∨ o = 24 ∨ o = 26 then [] else [p + 1]) ++ (if o = 21 ∨ o = 22 then [A] else [])
theorem spec_tgs {n : Nat} {h q : List Int} {hi p o A B : Int} (p0 : 0 ≤ p) (p1 : p ≤ 100000) (a b c d : Int) (code : List S64) (k : Nat) (e : Bool) (he : e = !decide (o = 22 ∨ o = 24 ∨ o = 26)) :
    spec_l10Heights.j2 (k + 9) n h q p hi [] e a b c d code o A B = spec_l10Heights.l2 (k + 5) n h q hi (tgs o A p) 0 a b c d code := by
  have w : wrap64 (p + 1) = p + 1 := wid (by omega) (by omega)
  have st : ∀ l : List Int, l.length ≤ 5 → spec_l10Heights.j3 (k + 8) n h q hi l a b c d code o A B = spec_l10Heights.l2 (k + 5) n h q hi (l ++ (if o = 21 ∨ o = 22 then [A] else [])) 0 a b c d code := by
    intro l hl
    have f4 : spec_l10Heights.j4 (k + 7) n h q hi l true a b c d code o A B = spec_l10Heights.l2 (k + 5) n h q hi (l ++ [A]) 0 a b c d code := by
      rw [spec_l10Heights.j4]
      refine yes rfl ?_
      refine yes (by omega) ?_
      rw [spec_l10Heights.j5]
    rw [spec_l10Heights.j3]
    by_cases o1 : o = 21
    · rw [if_pos o1, if_pos (Or.inl o1)]
      exact f4
    · rw [if_neg o1]
      by_cases o2 : o = 22
      · rw [if_pos (Or.inr o2), show (o == 22) = true from beq_iff_eq.2 o2]
        exact f4
      · rw [if_neg (by omega), show (o == 22) = false from beq_eq_false_iff_ne.2 o2, spec_l10Heights.j4]
        refine no (by decide) ?_
        rw [spec_l10Heights.j5, List.append_nil]
  rw [spec_l10Heights.j2, he, w]
  unfold tgs
  by_cases oc : o = 22 ∨ o = 24 ∨ o = 26
  · rw [if_neg (by simp [oc]), if_pos oc]
    exact st [] (by simp)
  · rw [if_pos (by simp [oc]), if_neg oc]
    refine yes (by simp) ?_
    exact st [p + 1] (by simp)
theorem impl_tgs {h q : List Int} {hi p o A B : Int} (p0 : 0 ≤ p) (p1 : p ≤ 100000) (a b c d : Int) (code : List S64) (k : Nat) (e : Bool) (he : e = !decide (o = 22 ∨ o = 24 ∨ o = 26)) :
    impl_Module_heights.j2 (k + 9) h q p hi [] e a b c d code o A B = impl_Module_heights.l1 (k + 5) h q hi (tgs o A p) ((tgs o A p).length : Int) 0 a b c d code := by
  have w : wrap64 (p + 1) = p + 1 := wid (by omega) (by omega)
  have st : ∀ l : List Int, l.length ≤ 5 → impl_Module_heights.j3 (k + 8) h q hi l a b c d code o A B = impl_Module_heights.l1 (k + 5) h q hi (l ++ (if o = 21 ∨ o = 22 then [A] else [])) ((l ++ (if o = 21 ∨ o = 22 then [A] else [])).length : Int) 0 a b c d code := by
    intro l hl
    have f4 : impl_Module_heights.j4 (k + 7) h q hi l true a b c d code o A B = impl_Module_heights.l1 (k + 5) h q hi (l ++ [A]) ((l ++ [A]).length : Int) 0 a b c d code := by
      rw [impl_Module_heights.j4]
      refine yes rfl ?_
      refine yes (by omega) ?_
      rw [impl_Module_heights.j5]
    rw [impl_Module_heights.j3]
    by_cases o1 : o = 21
    · rw [if_pos o1, if_pos (Or.inl o1)]
      exact f4
    · rw [if_neg o1]
      by_cases o2 : o = 22
      · rw [if_pos (Or.inr o2), show (o == 22) = true from beq_iff_eq.2 o2]
        exact f4
      · rw [if_neg (by omega), show (o == 22) = false from beq_eq_false_iff_ne.2 o2, impl_Module_heights.j4]
        refine no (by decide) ?_
        rw [impl_Module_heights.j5, List.append_nil]
  rw [impl_Module_heights.j2, he, w]
  unfold tgs
  by_cases oc : o = 22 ∨ o = 24 ∨ o = 26
  · rw [if_neg (by simp [oc]), if_pos oc]
    exact st [] (by simp)
  · rw [if_pos (by simp [oc]), if_neg oc]
    refine yes (by simp) ?_
    exact st [p + 1] (by simp)
/-- What is known of an instruction that is right. -/
structure OkI (n o A : Int) : Prop where
  o0 : 1 ≤ o
  o1 : o ≤ 26
  call : o = 20 → 1 ≤ A ∧ A ≤ 7
  jump : o = 21 ∨ o = 22 → 0 ≤ A ∧ A < n
def tk (o A : Int) : Int × Int := if o = 2 ∨ o = 3 ∨ (5 ≤ o ∧ o ≤ 10) then (0, 1) else if o = 4 ∨ o = 21 ∨ o = 23 ∨ o = 25 then (1, 0) else if 11 ≤ o ∧ o ≤ 18 then (2, 1) else if o = 19 then (1, 1) else if o = 20 then ((if A ≤ 2 then 4 else 2), 1) else (0, 0)
theorem ops {o : Int} (h0 : 1 ≤ o) (h1 : o ≤ 26) : o = 1 ∨ o = 2 ∨ o = 3 ∨ o = 4 ∨ o = 5 ∨ o = 6 ∨ o = 7 ∨ o = 8 ∨ o = 9 ∨ o = 10 ∨ o = 11 ∨ o = 12 ∨ o = 13 ∨ o = 14 ∨ o = 15 ∨ o = 16 ∨ o = 17 ∨ o = 18 ∨ o = 19 ∨ o = 20 ∨ o = 21 ∨ o = 22 ∨ o = 23 ∨ o = 24 ∨ o = 25 ∨ o = 26 := by omega
theorem tk_range (o A : Int) : 0 ≤ (tk o A).1 ∧ (tk o A).1 ≤ 4 ∧ 0 ≤ (tk o A).2 ∧ (tk o A).2 ≤ 1 := by
  unfold tk
  repeat' split
  all_goals simp
theorem spec_takes {n o A : Int} (ok : OkI n o A) (B : Int) (k : Nat) : spec_l10Takes.f (k + 4) o A B = some (tk o A) := by
  by_cases c : o = 20
  · obtain ⟨a0, a1⟩ := ok.call c
    subst c
    have hA : A = 1 ∨ A = 2 ∨ A = 3 ∨ A = 4 ∨ A = 5 ∨ A = 6 ∨ A = 7 := by omega
    rcases hA with rfl | rfl | rfl | rfl | rfl | rfl | rfl <;> simp [spec_l10Takes.f, spec_l10Takes.j0, spec_l10Takes.j1, spec_l10Takes.j2, spec_l10Calls.f, spec_CallTypes.f, spec_CallTypes.j0, rdOf, toList_data, tk, wrap64]
  · rcases ops ok.o0 ok.o1 with rfl | rfl | rfl | rfl | rfl | rfl | rfl | rfl | rfl | rfl | rfl | rfl | rfl | rfl | rfl | rfl | rfl | rfl | rfl | rfl | rfl | rfl | rfl | rfl | rfl | rfl <;> first | rfl | exact absurd rfl c
theorem impl_takes {n o A : Int} (ok : OkI n o A) (B : Int) (k : Nat) : impl_Ins_takes.f (k + 4) o A B = some (tk o A) := by
  by_cases c : o = 20
  · obtain ⟨a0, a1⟩ := ok.call c
    subst c
    have hA : A = 1 ∨ A = 2 ∨ A = 3 ∨ A = 4 ∨ A = 5 ∨ A = 6 ∨ A = 7 := by omega
    rcases hA with rfl | rfl | rfl | rfl | rfl | rfl | rfl <;> simp [impl_Ins_takes.f, impl_in.f, impl_functions.f, impl_CallTypes.f, impl_CallTypes.j0, rdOf, toList_data, tk, wrap64]
  · rcases ops ok.o0 ok.o1 with rfl | rfl | rfl | rfl | rfl | rfl | rfl | rfl | rfl | rfl | rfl | rfl | rfl | rfl | rfl | rfl | rfl | rfl | rfl | rfl | rfl | rfl | rfl | rfl | rfl | rfl <;> first | rfl | exact absurd rfl c
section
variable {n : Nat} {code : List S64} {h q0 : List Int} {p : Int}
theorem spec_round (a b c d : Int) (k : Nat) (p0 : 0 ≤ p) (p1 : p < n) (hn : n ≤ 2000) (hl : h.length = n) (hc : code.length = n) (hq : q0.length ≤ 100000) (ok : OkI n (rd_T64 code p).f0 (rd_T64 code p).f1) (r0 : 0 ≤ rd h p) (r1 : rd h p ≤ 60) :
    spec_l10Heights.l1 (k + 10) n h (q0 ++ [p]) a b c d code = if rd h p < (tk (rd_T64 code p).f0 (rd_T64 code p).f1).1 then some (h, false) else
      spec_l10Heights.l2 (k + 5) n h q0 (rd h p - (tk (rd_T64 code p).f0 (rd_T64 code p).f1).1 + (tk (rd_T64 code p).f0 (rd_T64 code p).f1).2) (tgs (rd_T64 code p).f0 (rd_T64 code p).f1 p) 0 a b c d code := by
  have hL : ((q0 ++ [p]).length : Int) = q0.length + 1 := by rw [List.length_append]; rfl
  have hw : wrap64 (((q0 ++ [p]).length : Int) - 1) = (q0.length : Int) := by rw [hL, wid (by omega) (by omega)]; omega
  have hr : rd (q0 ++ [p]) (q0.length : Int) = p := rd_pre q0 [] p
  have ht : (q0 ++ [p]).take ((q0.length : Int)).toNat = q0 := by rw [Int.toNat_natCast]; exact List.take_left' rfl
  have hk := tk_range (rd_T64 code p).f0 (rd_T64 code p).f1
  rw [spec_l10Heights.l1, hw, hr, ht]
  refine yes (by omega) ?_
  refine yes (by omega) ?_
  refine yes (by omega) ?_
  refine yes (by omega) ?_
  refine bnd rfl ?_
  refine yes p0 ?_
  refine yes (by omega) ?_
  refine bnd (spec_takes ok _ (k + 5)) ?_
  refine yes (by omega) ?_
  generalize tk (rd_T64 code p).f0 (rd_T64 code p).f1 = z at hk ⊢
  by_cases c1 : rd h p < z.1
  · rw [if_pos c1, if_pos c1]
  rw [if_neg c1, if_neg c1]
  refine bnd rfl ?_
  rw [wid (x := rd h p - z.1) (by omega) (by omega), wid (by omega) (by omega)]
  by_cases c2 : (rd_T64 code p).f0 = 22
  · refine yes c2 ?_
    exact spec_tgs p0 (by omega) a b c d code k _ (by simp [c2])
  refine no c2 ?_
  by_cases c3 : (rd_T64 code p).f0 = 24
  · refine yes c3 ?_
    exact spec_tgs p0 (by omega) a b c d code k _ (by simp [c3])
  refine no c3 ?_
  refine spec_tgs p0 (by omega) a b c d code k _ ?_
  by_cases c4 : (rd_T64 code p).f0 = 26
  · simp [c4]
  · simp [c2, c3, c4, bne]
theorem impl_round (a b c d : Int) (k : Nat) (p0 : 0 ≤ p) (p1 : p < n) (hn : n ≤ 2000) (hl : h.length = n) (hc : code.length = n) (hq : q0.length ≤ 100000) (ok : OkI n (rd_T64 code p).f0 (rd_T64 code p).f1) (r0 : 0 ≤ rd h p) (r1 : rd h p ≤ 60) :
    impl_Module_heights.l0 (k + 11) h (q0 ++ [p]) a b c d code = if rd h p < (tk (rd_T64 code p).f0 (rd_T64 code p).f1).1 ∨ rd h p - (tk (rd_T64 code p).f0 (rd_T64 code p).f1).1 + (tk (rd_T64 code p).f0 (rd_T64 code p).f1).2 > 60 then some ([], false) else
      impl_Module_heights.l1 (k + 5) h q0 (rd h p - (tk (rd_T64 code p).f0 (rd_T64 code p).f1).1 + (tk (rd_T64 code p).f0 (rd_T64 code p).f1).2) (tgs (rd_T64 code p).f0 (rd_T64 code p).f1 p) ((tgs (rd_T64 code p).f0 (rd_T64 code p).f1 p).length : Int) 0 a b c d code := by
  have hL : ((q0 ++ [p]).length : Int) = q0.length + 1 := by rw [List.length_append]; rfl
  have hw : wrap64 (((q0 ++ [p]).length : Int) - 1) = (q0.length : Int) := by rw [hL, wid (by omega) (by omega)]; omega
  have hr : rd (q0 ++ [p]) (q0.length : Int) = p := rd_pre q0 [] p
  have ht : (q0 ++ [p]).take ((q0.length : Int)).toNat = q0 := by rw [Int.toNat_natCast]; exact List.take_left' rfl
  have hk := tk_range (rd_T64 code p).f0 (rd_T64 code p).f1
  rw [impl_Module_heights.l0, hw, hr, ht]
  refine yes (by omega) ?_
  refine yes (by omega) ?_
  refine yes (by omega) ?_
  refine yes (by omega) ?_
  refine bnd rfl ?_
  refine yes p0 ?_
  refine yes (by omega) ?_
  refine bnd (impl_takes ok _ (k + 6)) ?_
  refine yes (by omega) ?_
  generalize tk (rd_T64 code p).f0 (rd_T64 code p).f1 = z at hk ⊢
  rw [wid (x := rd h p - z.1) (by omega) (by omega), wid (x := rd h p - z.1 + z.2) (by omega) (by omega)]
  by_cases c1 : rd h p < z.1
  · rw [if_pos c1, if_pos (Or.inl c1), impl_Module_heights.j1]
    exact yes rfl rfl
  rw [if_neg c1]
  by_cases c5 : rd h p - z.1 + z.2 > 60
  · rw [if_pos (Or.inr c5), show decide (rd h p - z.1 + z.2 > 60) = true from decide_eq_true c5, impl_Module_heights.j1]
    exact yes rfl rfl
  rw [if_neg (by omega), show decide (rd h p - z.1 + z.2 > 60) = false from decide_eq_false c5, impl_Module_heights.j1]
  refine no (by decide) ?_
  refine bnd rfl ?_
  by_cases c2 : (rd_T64 code p).f0 = 22
  · refine yes c2 ?_
    exact impl_tgs p0 (by omega) a b c d code k _ (by simp [c2])
  refine no c2 ?_
  by_cases c3 : (rd_T64 code p).f0 = 24
  · refine yes c3 ?_
    exact impl_tgs p0 (by omega) a b c d code k _ (by simp [c3])
  refine no c3 ?_
  refine impl_tgs p0 (by omega) a b c d code k _ ?_
  by_cases c4 : (rd_T64 code p).f0 = 26
  · simp [c4]
  · simp [c2, c3, c4, bne]
end
theorem tgs_in {n : Nat} {o A p : Int} (ok : OkI n o A) (p0 : 0 ≤ p) (p1 : p < n) : (∀ t ∈ tgs o A p, 0 ≤ t ∧ t ≤ n) ∧ (tgs o A p).length ≤ 2 := by
  unfold tgs
  refine ⟨fun t ht => ?_, ?_⟩
  · rcases List.mem_append.1 ht with h | h
    · split at h
      · cases h
      · have := List.mem_singleton.1 h
        omega
    · split at h
      · rename_i c
        have := List.mem_singleton.1 h
        have := ok.jump c
        omega
      · cases h
  · split <;> split <;> simp
theorem tgs_nil {n o A p : Int} (ok : OkI n o A) (e : tgs o A p = []) : tk o A = (0, 0) := by
  unfold tgs at e
  have hc : o = 24 ∨ o = 26 := by
    split at e
    · split at e
      · cases e
      · omega
    · cases e
  rcases hc with rfl | rfl <;> rfl
/-- The heights are told alike. -/
theorem walk (n : Nat) (a b c d : Int) (code : List S64) (hn : n ≤ 2000) (hc : code.length = n) (hok : ∀ p : Int, 0 ≤ p → p < n → OkI n (rd_T64 code p).f0 (rd_T64 code p).f1) : ∀ (m : Nat) (h q : List Int), m ≤ 10000 → Hts n h q → negs h + q.length ≤ m → ∀ k k', 20 * m + 20 ≤ k → 20 * m + 20 ≤ k' →
    ∃ r x y, spec_l10Heights.l1 k n h q a b c d code = some (x, r) ∧ impl_Module_heights.l0 k' h q a b c d code = some (y, r) := by
  intro m
  induction m with
  | zero =>
    intro h q hmm H hm k k' hk hk'
    obtain ⟨k, rfl⟩ : ∃ i, k = i + 1 := ⟨k - 1, by omega⟩
    obtain ⟨k', rfl⟩ : ∃ i, k' = i + 1 := ⟨k' - 1, by omega⟩
    have e : q = [] := List.eq_nil_of_length_eq_zero (by omega)
    subst e
    refine ⟨true, h, h, ?_, ?_⟩
    · rw [spec_l10Heights.l1]
      exact no (by simp) rfl
    · rw [impl_Module_heights.l0]
      exact no (by simp) rfl
  | succ m ih =>
    intro h q hmm H hm k k' hk hk'
    rcases List.eq_nil_or_concat q with e | ⟨q0, p, e⟩
    · obtain ⟨k, rfl⟩ : ∃ i, k = i + 1 := ⟨k - 1, by omega⟩
      obtain ⟨k', rfl⟩ : ∃ i, k' = i + 1 := ⟨k' - 1, by omega⟩
      subst e
      refine ⟨true, h, h, ?_, ?_⟩
      · rw [spec_l10Heights.l1]
        exact no (by simp) rfl
      · rw [impl_Module_heights.l0]
        exact no (by simp) rfl
    · rw [List.concat_eq_append] at e
      subst e
      obtain ⟨p0, p1, r0⟩ := H.q0 p (by simp)
      obtain ⟨_, r1⟩ := H.hi p p0 p1
      have ok := hok p p0 p1
      have hl := H.len
      have lq : (q0 ++ [p]).length = q0.length + 1 := by rw [List.length_append]; rfl
      have ng := negs_le h
      have H0 : Hts n h q0 := ⟨H.len, H.hi, fun t ht => H.q0 t (List.mem_append_left _ ht)⟩
      obtain ⟨t1, t2⟩ := tgs_in ok p0 p1
      have hk1 := tk_range (rd_T64 code p).f0 (rd_T64 code p).f1
      have ht0 : ∀ t ∈ tgs (rd_T64 code p).f0 (rd_T64 code p).f1 p, 0 ≤ t := fun t ht => (t1 t ht).1
      generalize hT : tgs (rd_T64 code p).f0 (rd_T64 code p).f1 p = T at t1 t2 ht0
      obtain ⟨ki, hki⟩ : ∃ i, k = i + 2 * T.length + 6 := ⟨k - 2 * T.length - 6, by omega⟩
      obtain ⟨kj, hkj⟩ : ∃ i, k' = i + 2 * T.length + 7 := ⟨k' - 2 * T.length - 7, by omega⟩
      have R1 := spec_round a b c d (ki + 2 * T.length - 4) p0 p1 hn hl hc (q0 := q0) (by omega) ok r0 r1
      have R2 := impl_round a b c d (kj + 2 * T.length - 4) p0 p1 hn hl hc (q0 := q0) (by omega) ok r0 r1
      rw [show ki + 2 * T.length - 4 + 10 = k by omega, show ki + 2 * T.length - 4 + 5 = ki + 2 * T.length + 1 by omega, hT] at R1
      rw [show kj + 2 * T.length - 4 + 11 = k' by omega, show kj + 2 * T.length - 4 + 5 = kj + 2 * T.length + 1 by omega, hT] at R2
      generalize hz : tk (rd_T64 code p).f0 (rd_T64 code p).f1 = z at hk1 R1 R2
      rw [R1, R2]
      by_cases c1 : rd h p < z.1
      · rw [if_pos c1, if_pos (Or.inl c1)]
        exact ⟨false, h, [], rfl, rfl⟩
      rw [if_neg c1]
      have V1 : (∀ h' q', vis n (rd h p - z.1 + z.2) T h q0 = some (h', q') → spec_l10Heights.l2 (ki + 2 * T.length + 1) n h q0 (rd h p - z.1 + z.2) T 0 a b c d code = spec_l10Heights.l1 ki n h' q' a b c d code) ∧
          (vis n (rd h p - z.1 + z.2) T h q0 = none → ∃ x, spec_l10Heights.l2 (ki + 2 * T.length + 1) n h q0 (rd h p - z.1 + z.2) T 0 a b c d code = some (x, false)) :=
        spec_vis a b c d code T [] h q0 ki ht0 hl (by rw [List.length_nil]; omega) (by omega)
      by_cases c2 : rd h p - z.1 + z.2 > 60
      · rw [if_pos (Or.inr c2)]
        have hne : T ≠ [] := by
          intro e
          have := tgs_nil ok (hT.trans e)
          rw [this] at hz
          subst hz
          simp at c2
          omega
        have hv : vis n (rd h p - z.1 + z.2) T h q0 = none := by
          cases T with
          | nil => exact absurd rfl hne
          | cons t ts =>
            rw [vis]
            exact if_pos (Or.inr (Or.inl c2))
        obtain ⟨x, e⟩ := V1.2 hv
        exact ⟨false, x, [], e, rfl⟩
      rw [if_neg (by omega)]
      have V2 : (∀ h' q', vis n (rd h p - z.1 + z.2) T h q0 = some (h', q') → impl_Module_heights.l1 (kj + 2 * T.length + 1) h q0 (rd h p - z.1 + z.2) T (T.length : Int) 0 a b c d code = impl_Module_heights.l0 kj h' q' a b c d code) ∧
          (vis n (rd h p - z.1 + z.2) T h q0 = none → ∃ x, impl_Module_heights.l1 (kj + 2 * T.length + 1) h q0 (rd h p - z.1 + z.2) T (T.length : Int) 0 a b c d code = some (x, false)) :=
        impl_vis a b c d code hc (by omega) T [] h q0 kj t1 hl (by rw [List.length_nil]; omega) (by omega)
      rcases hv : vis n (rd h p - z.1 + z.2) T h q0 with _ | ⟨h', q'⟩
      · obtain ⟨x, e⟩ := V1.2 hv
        obtain ⟨y, e'⟩ := V2.2 hv
        exact ⟨false, x, y, e, e'⟩
      · obtain ⟨H', hm'⟩ := vis_inv (by omega) T h q0 h' q' ht0 H0 hv
        rw [V1.1 h' q' hv, V2.1 h' q' hv]
        exact ih h' q' (by omega) H' (by omega) ki kj (by omega) (by omega)
theorem fill (n : Nat) (a b c d : Int) (code : List S64) (hn0 : 1 ≤ n) (hn : n ≤ 2000) : ∀ (e i k : Nat), i + e = n → spec_l10Heights.l0 (k + e + 1) n (List.replicate i (-1) ++ List.replicate e 0) i a b c d code = spec_l10Heights.l1 k n ((List.replicate n (-1)).set 0 0) [0] a b c d code := by
  intro e
  induction e with
  | zero =>
    intro i k hi
    obtain rfl : i = n := by omega
    show spec_l10Heights.l0 (k + 1) _ _ _ _ _ _ _ _ = _
    rw [spec_l10Heights.l0, List.replicate_zero, List.append_nil]
    refine no (by omega) ?_
    exact yes (by rw [List.length_replicate]; omega) rfl
  | succ e ih =>
    intro i k hi
    rw [show k + (e + 1) + 1 = (k + e + 1) + 1 by omega, spec_l10Heights.l0]
    refine yes (by omega) ?_
    refine yes (by omega) ?_
    refine yes (by rw [List.length_append, List.length_replicate, List.length_replicate]; omega) ?_
    have e1 : (List.replicate i (-1 : Int) ++ List.replicate (e + 1) 0).set ((i : Int)).toNat (-1) = List.replicate (i + 1) (-1) ++ List.replicate e 0 := by
      rw [Int.toNat_natCast, List.set_append_right _ _ (by rw [List.length_replicate]; omega), List.length_replicate, Nat.sub_self, List.replicate_succ, List.set_cons_zero, List.replicate_succ', List.append_assoc]
      rfl
    have e2 : wrap64 ((i : Int) + 1) = ((i + 1 : Nat) : Int) := by rw [wid (by omega) (by omega)]; omega
    rw [e1, e2]
    exact ih (i + 1) k (by omega)
theorem and32 {y : Int} (h0 : 0 ≤ y) (h1 : y < 18446744073709551616) : Go.bits .and .u64 y 4294967295 = y % 4294967296 := bits_mask .u64 64 (by decide) wraps_u64 32 (by decide) y h0 (by omega)
theorem mul1 {n : Int} (h0 : 0 ≤ n) (h1 : n ≤ 2000) : bits_Mul.f 1 n = some (0, n) := by
  have a1 : Go.bits .and .u64 n 4294967295 = n := by rw [and32 h0 (by omega)]; omega
  have a2 : Go.bits .and .u64 1 4294967295 = 1 := by rw [and32 (by omega) (by omega)]; omega
  have a0 : Go.bits .and .u64 0 4294967295 = 0 := by rw [and32 (by omega) (by omega)]; omega
  have d : n / 4294967296 = 0 := by omega
  have d1 : (1 : Int) / 4294967296 = 0 := rfl
  have d0 : (0 : Int) / 4294967296 = 0 := rfl
  have wn : IntKind.u64.wrap n = n := u64_id h0 (by omega)
  have w0 : IntKind.u64.wrap 0 = 0 := rfl
  unfold bits_Mul.f bits_Mul64.f
  simp only [a1, a2, a0, d, d1, d0, wn, w0, Int.mul_zero, Int.zero_mul, Int.one_mul, Int.add_zero, Int.zero_add, Option.bind_some]
theorem heights_same {n : Nat} (a b c d : Int) (code : List S64) (hn0 : 1 ≤ n) (hn : n ≤ 2000) (hc : code.length = n) (hok : ∀ p : Int, 0 ≤ p → p < n → OkI n (rd_T64 code p).f0 (rd_T64 code p).f1) {k : Nat} (hk : 50000 ≤ k) :
    ∃ r x y, spec_l10Heights.f k a b c d code = some (x, r) ∧ impl_Module_heights.f k a b c d code = some (y, r) := by
  have hr : ∀ j : Int, 0 ≤ j → j < n → rd (List.replicate n (-1)) j = -1 := by
    intro j j0 j1
    unfold rd
    rw [List.getD_eq_getElem?_getD, List.getElem?_replicate, if_pos (by omega)]
    rfl
  have H : Hts n (List.replicate n (-1)) [] := ⟨List.length_replicate, fun j j0 j1 => by rw [hr j j0 j1]; omega, fun t ht => by cases ht⟩
  have H1 : Hts n ((List.replicate n (-1)).set 0 0) [0] := H.put (t := 0) (v := 0) (by omega) (by omega) (by omega) (by omega)
  have ng := negs_le ((List.replicate n (-1 : Int)).set 0 0)
  rw [List.length_set, List.length_replicate] at ng
  obtain ⟨r, x, y, e1, e2⟩ := walk n a b c d code hn hc hok (n + 1) _ _ (by omega) H1 (by rw [List.length_singleton]; omega) (k - n - 1) k (by omega) (by omega)
  refine ⟨r, x, y, ?_, ?_⟩
  · unfold spec_l10Heights.f
    rw [hc]
    refine yes (by omega) ?_
    refine yes (by omega) ?_
    rw [Int.toNat_natCast]
    have f := fill n a b c d code hn0 hn n 0 (k - n - 1) (by omega)
    rw [show k - n - 1 + n + 1 = k by omega, List.replicate_zero, List.nil_append] at f
    exact f.trans e1
  · unfold impl_Module_heights.f slices_Repeat_int64_int64.f
    rw [hc]
    refine bnd (yes ⟨rfl, by omega, by omega, mul1 (by omega) (by omega)⟩ rfl) ?_
    rw [Int.toNat_natCast]
    refine yes (by rw [List.length_replicate]; omega) ?_
    exact e2
end Go.Proofs.Ytidlcolgiololaa.MdHts
namespace Go.Proofs.Ytidlcolgiololaa.MdRight
open Go.RowKit Go.Proofs.Ytidlcolgiololaa.S Go.Proofs.YtidlcolgiololaaW.PrintWords Go.Proofs.Ytidlcolgiololaa.Cal Go.Proofs.Ytidlcolgiololaa.DiskBase Go.Proofs.Ytidlcolgiololaa.MdHts
set_option linter.unusedVariables false
set_option linter.unusedSimpArgs false

theorem in_val (a b c : Int) : impl_in.f a b c = some (decide (b ≤ a ∧ a ≤ c)) := by
  unfold impl_in.f
  by_cases h : b ≤ a
  · refine yes h ?_
    simp [h]
  · refine no h ?_
    simp [h]
theorem l10in_val (a b c : Int) : spec_l10In.f a b c = some (decide (b ≤ a ∧ a ≤ c)) := by
  unfold spec_l10In.f
  by_cases h : a ≥ b
  · refine yes h ?_
    simp [show b ≤ a from h]
  · refine no h ?_
    simp [show ¬ b ≤ a from h]
theorem spec_money (a : Int) : spec_MoneyRight.f a = some (decide (-1000000000000 ≤ a ∧ a ≤ 1000000000000)) := by
  unfold spec_MoneyRight.f
  by_cases h : a ≥ -1000000000000
  · refine yes h ?_
    simp [show -1000000000000 ≤ a from h]
  · refine no h ?_
    simp [show ¬ -1000000000000 ≤ a from h]
theorem impl_money (a : Int) : impl_MoneyRight.f a = some (decide (-1000000000000 ≤ a ∧ a ≤ 1000000000000)) := by
  unfold impl_MoneyRight.f
  exact bnd (in_val _ _ _) rfl
/-- An instruction that is right, in a module with so many slots, spots, params, places. -/
def Right (s p q n o A B : Int) : Prop := 1 ≤ o ∧ o ≤ 26 ∧ (if o = 23 then (0 ≤ A ∧ A < p ∧ 0 ≤ B ∧ B < p) else if o = 2 then (B = 0 ∧ -1000000000000 ≤ A ∧ A ≤ 1000000000000) else if o = 3 ∨ o = 4 then (B = 0 ∧ 0 ≤ A ∧ A ≤ 49) else if o = 5 then (B = 0 ∧ 0 ≤ A ∧ A < q) else
  if o = 6 then (B = 0 ∧ 0 ≤ A ∧ A < s) else if o = 20 then (B = 0 ∧ 1 ≤ A ∧ A ≤ 7) else if o = 21 ∨ o = 22 then (B = 0 ∧ 0 ≤ A ∧ A < n) else if o = 24 then (B = 0 ∧ 1 ≤ A ∧ A ≤ 99) else (B = 0 ∧ A = 0))
theorem Right.ok {s p q n o A B : Int} (h : Right s p q n o A B) : OkI n o A := by
  obtain ⟨h0, h1, h2⟩ := h
  refine ⟨h0, h1, fun e => ?_, fun e => ?_⟩
  · rw [if_neg (show ¬ o = 23 by omega), if_neg (show ¬ o = 2 by omega), if_neg (show ¬ (o = 3 ∨ o = 4) by omega), if_neg (show ¬ o = 5 by omega), if_neg (show ¬ o = 6 by omega), if_pos e] at h2
    exact h2.2
  · rw [if_neg (show ¬ o = 23 by omega), if_neg (show ¬ o = 2 by omega), if_neg (show ¬ (o = 3 ∨ o = 4) by omega), if_neg (show ¬ o = 5 by omega), if_neg (show ¬ o = 6 by omega), if_neg (show ¬ o = 20 by omega), if_pos e] at h2
    exact h2.2
theorem Right.b {s p q n o A B : Int} (h : Right s p q n o A B) (e : o ≠ 23) : B = 0 := by
  obtain ⟨h0, h1, h2⟩ := h
  rw [if_neg e] at h2
  revert h2
  repeat' split
  all_goals exact fun h => h.1
theorem of_iff {x : Option Bool} {P : Prop} [Decidable P] {b : Bool} (h : x = some b) (e : b = true ↔ P) : x = some (decide P) := by
  rw [h]
  congr 1
  rw [Bool.eq_iff_iff, e, decide_eq_true_iff]
instance (s p q n o A B : Int) : Decidable (Right s p q n o A B) := by
  unfold Right
  infer_instance
theorem spec_ins (b s p q : Int) (code : List S64) (o A B : Int) (k : Nat) : spec_InsRight.f (k + 4) b s p q code o A B = some (decide (Right s p q code.length o A B)) := by
  unfold spec_InsRight.f
  by_cases o23 : o = 23
  · subst o23
    refine of_iff (b := decide (A ≥ 0 ∧ A < p ∧ B ≥ 0 ∧ B < p)) ?_ (by rw [decide_eq_true_iff]; unfold Right; rw [if_pos rfl]; omega)
    refine yes rfl ?_
    rw [spec_InsRight.j0]
    refine no (by decide) ?_
    refine no (by decide) ?_
    refine no (by decide) ?_
    rw [spec_InsRight.j1]
    refine no (by decide) ?_
    refine no (by decide) ?_
    refine no (by decide) ?_
    refine no (by decide) ?_
    refine no (by decide) ?_
    rw [spec_InsRight.j2]
    refine no (by decide) ?_
    refine yes rfl ?_
    by_cases c1 : A ≥ 0
    · refine yes c1 ?_
      by_cases c2 : A < p
      · refine yes c2 ?_
        by_cases c3 : B ≥ 0
        · refine yes c3 ?_
          congr 1
          exact decide_eq_decide.2 ⟨fun h => ⟨c1, c2, c3, h⟩, fun h => h.2.2.2⟩
        · exact no c3 (by congr 1; exact (decide_eq_false (fun h => c3 h.2.2.1)).symm)
      · exact no c2 (by congr 1; exact (decide_eq_false (fun h => c2 h.2.1)).symm)
    · exact no c1 (by congr 1; exact (decide_eq_false (fun h => c1 h.1)).symm)
  refine no o23 ?_
  rw [spec_InsRight.j0]
  by_cases hB : B = 0
  case neg =>
    refine of_iff (b := false) ?_ ⟨fun h => (by cases h), fun h => absurd (h.b o23) hB⟩
    exact yes (bne_iff_ne.2 hB) rfl
  refine no (by rw [bne_eq_false_iff_eq.2 hB]; decide) ?_
  by_cases o2 : o = 2
  · refine yes o2 ?_
    refine of_iff (bnd (spec_money _) rfl) ?_
    rw [decide_eq_true_iff]
    unfold Right; rw [if_neg (show ¬ (o = 23) by omega), if_pos (show o = 2 by omega)]; omega
  refine no o2 ?_
  have f34 : ∀ e : Bool, e = decide (o = 3 ∨ o = 4) → spec_InsRight.j1 (k + 3) o e b s p q code o A B = some (decide (Right s p q code.length o A B)) := by
    intro e he
    rw [spec_InsRight.j1, he]
    by_cases c : o = 3 ∨ o = 4
    · refine yes (decide_eq_true c) ?_
      refine of_iff (bnd (l10in_val _ _ _) rfl) ?_
      rw [decide_eq_true_iff]
      unfold Right; rw [if_neg (show ¬ (o = 23) by omega), if_neg (show ¬ (o = 2) by omega), if_pos (show o = 3 ∨ o = 4 by omega)]; omega
    refine no (by rw [decide_eq_true_iff]; exact c) ?_
    by_cases o5 : o = 5
    · refine yes o5 ?_
      refine of_iff (b := decide (A ≥ 0 ∧ A < q)) ?_ (by rw [decide_eq_true_iff]; unfold Right; rw [if_neg (show ¬ (o = 23) by omega), if_neg (show ¬ (o = 2) by omega), if_neg (show ¬ (o = 3 ∨ o = 4) by omega), if_pos (show o = 5 by omega)]; omega)
      by_cases c1 : A ≥ 0
      · refine yes c1 ?_
        congr 1
        exact decide_eq_decide.2 ⟨fun h => ⟨c1, h⟩, fun h => h.2⟩
      · exact no c1 (by congr 1; exact (decide_eq_false (fun h => c1 h.1)).symm)
    refine no o5 ?_
    by_cases o6 : o = 6
    · refine yes o6 ?_
      refine of_iff (b := decide (A ≥ 0 ∧ A < s)) ?_ (by rw [decide_eq_true_iff]; unfold Right; rw [if_neg (show ¬ (o = 23) by omega), if_neg (show ¬ (o = 2) by omega), if_neg (show ¬ (o = 3 ∨ o = 4) by omega), if_neg (show ¬ (o = 5) by omega), if_pos (show o = 6 by omega)]; omega)
      by_cases c1 : A ≥ 0
      · refine yes c1 ?_
        congr 1
        exact decide_eq_decide.2 ⟨fun h => ⟨c1, h⟩, fun h => h.2⟩
      · exact no c1 (by congr 1; exact (decide_eq_false (fun h => c1 h.1)).symm)
    refine no o6 ?_
    by_cases o20 : o = 20
    · refine yes o20 ?_
      refine of_iff (bnd (l10in_val _ _ _) rfl) ?_
      rw [decide_eq_true_iff]
      unfold Right; rw [if_neg (show ¬ (o = 23) by omega), if_neg (show ¬ (o = 2) by omega), if_neg (show ¬ (o = 3 ∨ o = 4) by omega), if_neg (show ¬ (o = 5) by omega), if_neg (show ¬ (o = 6) by omega), if_pos (show o = 20 by omega)]; omega
    refine no o20 ?_
    have f2 : ∀ e : Bool, e = decide (o = 21 ∨ o = 22) → spec_InsRight.j2 (k + 2) o e b s p q code o A B = some (decide (Right s p q code.length o A B)) := by
      intro e he
      rw [spec_InsRight.j2, he]
      by_cases c : o = 21 ∨ o = 22
      · refine yes (decide_eq_true c) ?_
        refine of_iff (b := decide (A ≥ 0 ∧ A < (code.length : Int))) ?_ (by rw [decide_eq_true_iff]; unfold Right; rw [if_neg (show ¬ (o = 23) by omega), if_neg (show ¬ (o = 2) by omega), if_neg (show ¬ (o = 3 ∨ o = 4) by omega), if_neg (show ¬ (o = 5) by omega), if_neg (show ¬ (o = 6) by omega), if_neg (show ¬ (o = 20) by omega), if_pos (show o = 21 ∨ o = 22 by omega)]; omega)
        by_cases c1 : A ≥ 0
        · refine yes c1 ?_
          congr 1
          exact decide_eq_decide.2 ⟨fun h => ⟨c1, h⟩, fun h => h.2⟩
        · exact no c1 (by congr 1; exact (decide_eq_false (fun h => c1 h.1)).symm)
      refine no (by rw [decide_eq_true_iff]; exact c) ?_
      refine no o23 ?_
      by_cases o24 : o = 24
      · refine yes o24 ?_
        refine of_iff (bnd (l10in_val _ _ _) rfl) ?_
        rw [decide_eq_true_iff]
        unfold Right; rw [if_neg (show ¬ (o = 23) by omega), if_neg (show ¬ (o = 2) by omega), if_neg (show ¬ (o = 3 ∨ o = 4) by omega), if_neg (show ¬ (o = 5) by omega), if_neg (show ¬ (o = 6) by omega), if_neg (show ¬ (o = 20) by omega), if_neg (show ¬ (o = 21 ∨ o = 22) by omega), if_pos (show o = 24 by omega)]; omega
      refine no o24 ?_
      refine of_iff (b := decide (o ≥ 1 ∧ o ≤ 26 ∧ A = 0)) ?_ (by rw [decide_eq_true_iff]; unfold Right; rw [if_neg (show ¬ (o = 23) by omega), if_neg (show ¬ (o = 2) by omega), if_neg (show ¬ (o = 3 ∨ o = 4) by omega), if_neg (show ¬ (o = 5) by omega), if_neg (show ¬ (o = 6) by omega), if_neg (show ¬ (o = 20) by omega), if_neg (show ¬ (o = 21 ∨ o = 22) by omega), if_neg (show ¬ (o = 24) by omega)]; omega)
      by_cases c1 : o ≥ 1
      · refine yes c1 ?_
        by_cases c2 : o ≤ 26
        · refine yes c2 ?_
          congr 1
          rw [Bool.eq_iff_iff, beq_iff_eq, decide_eq_true_iff]
          exact ⟨fun h => ⟨c1, c2, h⟩, fun h => h.2.2⟩
        · exact no c2 (by congr 1; exact (decide_eq_false (fun h => c2 h.2.1)).symm)
      · exact no c1 (by congr 1; exact (decide_eq_false (fun h => c1 h.1)).symm)
    by_cases o21 : o = 21
    · exact yes o21 (f2 _ (by rw [beq_iff_eq.2 o21, decide_eq_true (Or.inl o21)]))
    · exact no o21 (f2 _ (by rw [Bool.eq_iff_iff, beq_iff_eq, decide_eq_true_iff]; omega))
  by_cases o3 : o = 3
  · exact yes o3 (f34 _ (by rw [beq_iff_eq.2 o3, decide_eq_true (Or.inl o3)]))
  · exact no o3 (f34 _ (by rw [Bool.eq_iff_iff, beq_iff_eq, decide_eq_true_iff]; omega))
theorem three {x y z : Bool} : (if x = true then (if y = true then some z else some false) else some false) = some (x && (y && z)) := by
  cases x <;> cases y <;> rfl
theorem impl_ins {b s p q : Int} {code : List S64} {o A B : Int} (hs : 0 ≤ s ∧ s ≤ 100) (hp : 0 ≤ p ∧ p ≤ 100) (hq : 0 ≤ q ∧ q ≤ 100) (hn : code.length ≤ 2000) (k : Nat) : impl_InsRight.f (k + 4) b s p q code o A B = some (decide (Right s p q code.length o A B)) := by
  unfold impl_InsRight.f
  by_cases o2 : o = 2
  · refine yes o2 ?_
    refine of_iff (bnd (impl_money _) (bnd (in_val _ _ _) three)) ?_
    rw [Bool.and_eq_true, Bool.and_eq_true, decide_eq_true_iff, decide_eq_true_iff, beq_iff_eq]
    unfold Right; rw [if_neg (show ¬ (o = 23) by omega), if_pos (show o = 2 by omega)]; omega
  refine no o2 ?_
  have f0 : ∀ e : Bool, e = decide (o = 3 ∨ o = 4) → impl_InsRight.j0 (k + 4) (A == 0) (B == 0) o e b s p q code o A B = some (decide (Right s p q code.length o A B)) := by
    intro e he
    rw [impl_InsRight.j0, he, wid (x := q - 1) (by omega) (by omega), wid (x := s - 1) (by omega) (by omega)]
    by_cases c : o = 3 ∨ o = 4
    · refine yes (decide_eq_true c) ?_
      refine of_iff (bnd (in_val _ _ _) (bnd (in_val _ _ _) three)) ?_
      rw [Bool.and_eq_true, Bool.and_eq_true, decide_eq_true_iff, decide_eq_true_iff, beq_iff_eq]
      unfold Right; rw [if_neg (show ¬ (o = 23) by omega), if_neg (show ¬ (o = 2) by omega), if_pos (show o = 3 ∨ o = 4 by omega)]; omega
    refine no (by rw [decide_eq_true_iff]; exact c) ?_
    by_cases o5 : o = 5
    · refine yes o5 ?_
      refine of_iff (bnd (in_val _ _ _) (bnd (in_val _ _ _) three)) ?_
      rw [Bool.and_eq_true, Bool.and_eq_true, decide_eq_true_iff, decide_eq_true_iff, beq_iff_eq]
      unfold Right; rw [if_neg (show ¬ (o = 23) by omega), if_neg (show ¬ (o = 2) by omega), if_neg (show ¬ (o = 3 ∨ o = 4) by omega), if_pos (show o = 5 by omega)]; omega
    refine no o5 ?_
    by_cases o6 : o = 6
    · refine yes o6 ?_
      refine of_iff (bnd (in_val _ _ _) (bnd (in_val _ _ _) three)) ?_
      rw [Bool.and_eq_true, Bool.and_eq_true, decide_eq_true_iff, decide_eq_true_iff, beq_iff_eq]
      unfold Right; rw [if_neg (show ¬ (o = 23) by omega), if_neg (show ¬ (o = 2) by omega), if_neg (show ¬ (o = 3 ∨ o = 4) by omega), if_neg (show ¬ (o = 5) by omega), if_pos (show o = 6 by omega)]; omega
    refine no o6 ?_
    by_cases o20 : o = 20
    · refine yes o20 ?_
      refine of_iff (bnd (in_val _ _ _) (bnd (in_val _ _ _) three)) ?_
      rw [Bool.and_eq_true, Bool.and_eq_true, decide_eq_true_iff, decide_eq_true_iff, beq_iff_eq]
      unfold Right; rw [if_neg (show ¬ (o = 23) by omega), if_neg (show ¬ (o = 2) by omega), if_neg (show ¬ (o = 3 ∨ o = 4) by omega), if_neg (show ¬ (o = 5) by omega), if_neg (show ¬ (o = 6) by omega), if_pos (show o = 20 by omega)]; omega
    refine no o20 ?_
    have f1 : ∀ e : Bool, e = decide (o = 21 ∨ o = 22) → impl_InsRight.j1 (k + 3) (A == 0) (B == 0) o e b s p q code o A B = some (decide (Right s p q code.length o A B)) := by
      intro e he
      rw [impl_InsRight.j1, he, wid (x := (code.length : Int) - 1) (by omega) (by omega), wid (x := p - 1) (by omega) (by omega)]
      by_cases c : o = 21 ∨ o = 22
      · refine yes (decide_eq_true c) ?_
        refine of_iff (bnd (in_val _ _ _) (bnd (in_val _ _ _) three)) ?_
        rw [Bool.and_eq_true, Bool.and_eq_true, decide_eq_true_iff, decide_eq_true_iff, beq_iff_eq]
        unfold Right; rw [if_neg (show ¬ (o = 23) by omega), if_neg (show ¬ (o = 2) by omega), if_neg (show ¬ (o = 3 ∨ o = 4) by omega), if_neg (show ¬ (o = 5) by omega), if_neg (show ¬ (o = 6) by omega), if_neg (show ¬ (o = 20) by omega), if_pos (show o = 21 ∨ o = 22 by omega)]; omega
      refine no (by rw [decide_eq_true_iff]; exact c) ?_
      by_cases o23 : o = 23
      · refine yes o23 ?_
        refine of_iff (bnd (in_val _ _ _) (bnd (in_val _ _ _) (bnd (in_val _ _ _) three))) ?_
        rw [Bool.and_eq_true, Bool.and_eq_true, decide_eq_true_iff, decide_eq_true_iff, decide_eq_true_iff]
        unfold Right; rw [if_pos (show o = 23 by omega)]; omega
      refine no o23 ?_
      by_cases o24 : o = 24
      · refine yes o24 ?_
        refine of_iff (bnd (in_val _ _ _) (bnd (in_val _ _ _) three)) ?_
        rw [Bool.and_eq_true, Bool.and_eq_true, decide_eq_true_iff, decide_eq_true_iff, beq_iff_eq]
        unfold Right; rw [if_neg (show ¬ (o = 23) by omega), if_neg (show ¬ (o = 2) by omega), if_neg (show ¬ (o = 3 ∨ o = 4) by omega), if_neg (show ¬ (o = 5) by omega), if_neg (show ¬ (o = 6) by omega), if_neg (show ¬ (o = 20) by omega), if_neg (show ¬ (o = 21 ∨ o = 22) by omega), if_pos (show o = 24 by omega)]; omega
      refine no o24 ?_
      refine of_iff (bnd (in_val _ _ _) three) ?_
      rw [Bool.and_eq_true, Bool.and_eq_true, decide_eq_true_iff, beq_iff_eq, beq_iff_eq]
      unfold Right; rw [if_neg (show ¬ (o = 23) by omega), if_neg (show ¬ (o = 2) by omega), if_neg (show ¬ (o = 3 ∨ o = 4) by omega), if_neg (show ¬ (o = 5) by omega), if_neg (show ¬ (o = 6) by omega), if_neg (show ¬ (o = 20) by omega), if_neg (show ¬ (o = 21 ∨ o = 22) by omega), if_neg (show ¬ (o = 24) by omega)]; omega
    by_cases o21 : o = 21
    · exact yes o21 (f1 _ (by rw [beq_iff_eq.2 o21, decide_eq_true (Or.inl o21)]))
    · exact no o21 (f1 _ (by rw [Bool.eq_iff_iff, beq_iff_eq, decide_eq_true_iff]; omega))
  by_cases o3 : o = 3
  · exact yes o3 (f0 _ (by rw [beq_iff_eq.2 o3, decide_eq_true (Or.inl o3)]))
  · exact no o3 (f0 _ (by rw [Bool.eq_iff_iff, beq_iff_eq, decide_eq_true_iff]; omega))
theorem spec_ins' (b s p q : Int) (code : List S64) (o A B : Int) {k : Nat} (hk : 4 ≤ k) : spec_InsRight.f k b s p q code o A B = some (decide (Right s p q code.length o A B)) := by
  obtain ⟨j, rfl⟩ : ∃ j, k = j + 4 := ⟨k - 4, by omega⟩
  exact spec_ins b s p q code o A B j
theorem impl_ins' {b s p q : Int} {code : List S64} {o A B : Int} (hs : 0 ≤ s ∧ s ≤ 100) (hp : 0 ≤ p ∧ p ≤ 100) (hq : 0 ≤ q ∧ q ≤ 100) (hn : code.length ≤ 2000) {k : Nat} (hk : 4 ≤ k) : impl_InsRight.f k b s p q code o A B = some (decide (Right s p q code.length o A B)) := by
  obtain ⟨j, rfl⟩ : ∃ j, k = j + 4 := ⟨k - 4, by omega⟩
  exact impl_ins hs hp hq hn j
/-- The instruction at a place is right. -/
def At (s p q : Int) (code : List S64) (j : Int) : Prop := Right s p q code.length (rd_T64 code j).f0 (rd_T64 code j).f1 (rd_T64 code j).f2
instance (s p q : Int) (code : List S64) (j : Int) : Decidable (At s p q code j) := by
  unfold At
  infer_instance
theorem spec_loop (b s p q : Int) (code : List S64) (hn : code.length ≤ 2000) : ∀ (e i k : Nat), i + e = code.length → 10 ≤ k →
    ((∀ j : Int, i ≤ j → j < code.length → At s p q code j) → spec_ModuleRight.l0 (k + e + 1) i b s p q code = (spec_l10Heights.f k b s p q code).bind fun bt => some bt.2) ∧
    ((¬ ∀ j : Int, i ≤ j → j < code.length → At s p q code j) → spec_ModuleRight.l0 (k + e + 1) i b s p q code = some false) := by
  intro e
  induction e with
  | zero =>
    intro i k hi hk
    refine ⟨fun _ => ?_, fun h => absurd (fun j h1 h2 => by omega) h⟩
    show spec_ModuleRight.l0 (k + 1) _ _ _ _ _ _ = _
    rw [spec_ModuleRight.l0]
    exact no (by omega) rfl
  | succ e ih =>
    intro i k hi hk
    have key : spec_ModuleRight.l0 (k + (e + 1) + 1) i b s p q code = if At s p q code i then spec_ModuleRight.l0 (k + e + 1) ((i + 1 : Nat) : Int) b s p q code else some false := by
      rw [show k + (e + 1) + 1 = (k + e + 1) + 1 by omega, spec_ModuleRight.l0]
      refine yes (by omega) ?_
      refine yes (by omega) ?_
      refine bnd (spec_ins' b s p q code _ _ _ (by omega)) ?_
      have e2 : wrap64 ((i : Int) + 1) = ((i + 1 : Nat) : Int) := by rw [wid (by omega) (by omega)]; omega
      rw [e2]
      by_cases c : At s p q code i
      · rw [if_pos c]
        exact yes (decide_eq_true c) rfl
      · rw [if_neg c]
        exact no (by rw [decide_eq_true_iff]; exact c) rfl
    obtain ⟨i1, i2⟩ := ih (i + 1) k (by omega) hk
    rw [key]
    refine ⟨fun h => ?_, fun h => ?_⟩
    · rw [if_pos (h i (by omega) (by omega))]
      exact i1 (fun j h1 h2 => h j (by omega) h2)
    · by_cases c : At s p q code i
      · rw [if_pos c]
        refine i2 (fun g => h (fun j h1 h2 => ?_))
        by_cases z : j = i
        · rw [z]; exact c
        · exact g j (by omega) h2
      · rw [if_neg c]
theorem impl_loop {b s p q : Int} {code : List S64} (hs : 0 ≤ s ∧ s ≤ 100) (hp : 0 ≤ p ∧ p ≤ 100) (hq : 0 ≤ q ∧ q ≤ 100) (hn : code.length ≤ 2000) : ∀ (e i k : Nat), i + e = code.length → 10 ≤ k →
    ((∀ j : Int, i ≤ j → j < code.length → At s p q code j) → impl_Ins_88.l0 b s p q code (k + e + 1) code (code.length : Int) i = some (-1)) ∧
    ((¬ ∀ j : Int, i ≤ j → j < code.length → At s p q code j) → ∃ j : Int, 0 ≤ j ∧ impl_Ins_88.l0 b s p q code (k + e + 1) code (code.length : Int) i = some j) := by
  intro e
  induction e with
  | zero =>
    intro i k hi hk
    refine ⟨fun _ => ?_, fun h => absurd (fun j h1 h2 => by omega) h⟩
    show impl_Ins_88.l0 _ _ _ _ _ (k + 1) _ _ _ = _
    rw [impl_Ins_88.l0]
    exact no (by omega) rfl
  | succ e ih =>
    intro i k hi hk
    have key : impl_Ins_88.l0 b s p q code (k + (e + 1) + 1) code (code.length : Int) i = if At s p q code i then impl_Ins_88.l0 b s p q code (k + e + 1) code (code.length : Int) ((i + 1 : Nat) : Int) else some (i : Int) := by
      rw [show k + (e + 1) + 1 = (k + e + 1) + 1 by omega, impl_Ins_88.l0]
      refine yes (by omega) ?_
      refine yes (by omega) ?_
      refine yes (by omega) ?_
      refine bnd (impl_ins' hs hp hq hn (by omega)) ?_
      have e2 : wrap64 ((i : Int) + 1) = ((i + 1 : Nat) : Int) := by rw [wid (by omega) (by omega)]; omega
      rw [e2]
      by_cases c : At s p q code i
      · rw [if_pos c]
        exact no (by rw [decide_eq_true (show Right _ _ _ _ _ _ _ from c)]; decide) rfl
      · rw [if_neg c]
        exact yes (decide_eq_false c) rfl
    obtain ⟨i1, i2⟩ := ih (i + 1) k (by omega) hk
    rw [key]
    refine ⟨fun h => ?_, fun h => ?_⟩
    · rw [if_pos (h i (by omega) (by omega))]
      exact i1 (fun j h1 h2 => h j (by omega) h2)
    · by_cases c : At s p q code i
      · rw [if_pos c]
        refine i2 (fun g => h (fun j h1 h2 => ?_))
        by_cases z : j = i
        · rw [z]; exact c
        · exact g j (by omega) h2
      · rw [if_neg c]
        exact ⟨i, by omega, rfl⟩
/-- Whether a module is right is told alike. -/
theorem right_same (b s p q : Int) (code : List S64) {k : Nat} (hk : 60000 ≤ k) : ∃ r, spec_ModuleRight.f k b s p q code = some r ∧ impl_ModuleRight.f k b s p q code = some r := by
  obtain ⟨k, rfl⟩ : ∃ j, k = j + 1 := ⟨k - 1, by omega⟩
  have st : spec_ModuleRight.j0 (k + 1) true b s p q code = some false := by
    rw [spec_ModuleRight.j0]
    exact yes rfl rfl
  have it : impl_ModuleRight.j0 (k + 1) true b s p q code = some false := by
    rw [impl_ModuleRight.j0]
    exact yes rfl rfl
  have iB : impl_isBasis.f b = some (decide (1 ≤ b ∧ b ≤ 3)) := by
    unfold impl_isBasis.f
    exact bnd (in_val _ _ _) rfl
  unfold spec_ModuleRight.f impl_ModuleRight.f
  by_cases c1 : 1 ≤ b ∧ b ≤ 3
  case neg => exact ⟨false, bnd (l10in_val _ _ _) (no (by rw [decide_eq_true_iff]; exact c1) st), bnd iB (no (by rw [decide_eq_true_iff]; exact c1) it)⟩
  by_cases c2 : 1 ≤ s ∧ s ≤ 6
  case neg => exact ⟨false, bnd (l10in_val _ _ _) (yes (decide_eq_true c1) (bnd (l10in_val _ _ _) (no (by rw [decide_eq_true_iff]; exact c2) st))), bnd iB (yes (decide_eq_true c1) (bnd (in_val _ _ _) (no (by rw [decide_eq_true_iff]; exact c2) it)))⟩
  by_cases c3 : s ≤ p ∧ p ≤ 10
  case neg => exact ⟨false, bnd (l10in_val _ _ _) (yes (decide_eq_true c1) (bnd (l10in_val _ _ _) (yes (decide_eq_true c2) (bnd (l10in_val _ _ _) (no (by rw [decide_eq_true_iff]; exact c3) st))))), bnd iB (yes (decide_eq_true c1) (bnd (in_val _ _ _) (yes (decide_eq_true c2) (bnd (in_val _ _ _) (no (by rw [decide_eq_true_iff]; exact c3) it)))))⟩
  by_cases c4 : 0 ≤ q ∧ q ≤ 8
  case neg => exact ⟨false, bnd (l10in_val _ _ _) (yes (decide_eq_true c1) (bnd (l10in_val _ _ _) (yes (decide_eq_true c2) (bnd (l10in_val _ _ _) (yes (decide_eq_true c3) (bnd (l10in_val _ _ _) (no (by rw [decide_eq_true_iff]; exact c4) st))))))), bnd iB (yes (decide_eq_true c1) (bnd (in_val _ _ _) (yes (decide_eq_true c2) (bnd (in_val _ _ _) (yes (decide_eq_true c3) (bnd (in_val _ _ _) (no (by rw [decide_eq_true_iff]; exact c4) it)))))))⟩
  suffices S : ∃ r, (if (code.length : Int) < 1 then spec_ModuleRight.j0 (k + 1) true b s p q code else spec_ModuleRight.j0 (k + 1) (decide ((code.length : Int) > 2000)) b s p q code) = some r ∧ impl_ModuleRight.j0 (k + 1) (!decide (1 ≤ (code.length : Int) ∧ (code.length : Int) ≤ 2000)) b s p q code = some r by
    obtain ⟨r, h1, h2⟩ := S
    exact ⟨r, bnd (l10in_val _ _ _) (yes (decide_eq_true c1) (bnd (l10in_val _ _ _) (yes (decide_eq_true c2) (bnd (l10in_val _ _ _) (yes (decide_eq_true c3) (bnd (l10in_val _ _ _) (yes (decide_eq_true c4) h1))))))), bnd iB (yes (decide_eq_true c1) (bnd (in_val _ _ _) (yes (decide_eq_true c2) (bnd (in_val _ _ _) (yes (decide_eq_true c3) (bnd (in_val _ _ _) (yes (decide_eq_true c4) (bnd (in_val _ _ _) h2))))))))⟩
  by_cases c5 : 1 ≤ (code.length : Int) ∧ (code.length : Int) ≤ 2000
  case neg =>
    refine ⟨false, ?_, by rw [decide_eq_false c5]; exact it⟩
    by_cases c6 : (code.length : Int) < 1
    · exact yes c6 st
    · refine no c6 ?_
      rw [show decide ((code.length : Int) > 2000) = true from decide_eq_true (by omega)]
      exact st
  have hn : code.length ≤ 2000 := by omega
  rw [decide_eq_true c5, if_neg (show ¬ (code.length : Int) < 1 by omega), show decide ((code.length : Int) > 2000) = false from decide_eq_false (by omega)]
  obtain ⟨s1, s2⟩ := spec_loop b s p q code hn code.length 0 (k - code.length - 1) (by omega) (by omega)
  obtain ⟨i1, i2⟩ := impl_loop (b := b) (s := s) (p := p) (q := q) (code := code) (by omega) (by omega) (by omega) hn code.length 0 (k - code.length - 1) (by omega) (by omega)
  rw [show k - code.length - 1 + code.length + 1 = k by omega] at s1 s2 i1 i2
  have sj : ∀ x, spec_ModuleRight.l0 k 0 b s p q code = x → spec_ModuleRight.j0 (k + 1) false b s p q code = x := by
    intro x hx
    rw [spec_ModuleRight.j0]
    exact no (by decide) hx
  by_cases ca : ∀ j : Int, ((0 : Nat) : Int) ≤ j → j < code.length → At s p q code j
  · obtain ⟨r, x, y, e1, e2⟩ := heights_same (n := code.length) b s p q code (by omega) hn rfl (fun j h1 h2 => (ca j h1 h2).ok) (k := k) (by omega)
    obtain ⟨r', x', y', e1', e2'⟩ := heights_same (n := code.length) b s p q code (by omega) hn rfl (fun j h1 h2 => (ca j h1 h2).ok) (k := k - code.length - 1) (by omega)
    have hm : spec_l10Heights.f k b s p q code = some (x', r') := at_rounds (spec_l10Heights.mono b s p q code) (by omega) e1'
    rw [e1] at hm
    simp only [Option.some.injEq, Prod.mk.injEq] at hm
    refine ⟨r, sj _ ((s1 ca).trans (bnd e1' ?_)), ?_⟩
    · show some r' = some r
      rw [hm.2]
    · rw [impl_ModuleRight.j0]
      refine no (by decide) ?_
      refine bnd (a := false) ?_ (no (by decide) (bnd e2 rfl))
      unfold impl_Ins_54.f impl_Ins_88.f
      exact bnd (i1 ca) rfl
  · obtain ⟨j, j0, hj⟩ := i2 ca
    refine ⟨false, sj _ (s2 ca), ?_⟩
    rw [impl_ModuleRight.j0]
    refine no (by decide) ?_
    refine bnd (a := true) ?_ (yes rfl rfl)
    unfold impl_Ins_54.f impl_Ins_88.f
    exact bnd hj (by rw [decide_eq_true (show j ≥ 0 from j0)])
end Go.Proofs.Ytidlcolgiololaa.MdRight
namespace Go.Proofs.Ytidlcolgiololaa.MdRead
open Go.RowKit Go.Proofs.Ytidlcolgiololaa.S Go.Proofs.YtidlcolgiololaaW.PrintWords Go.Proofs.Ytidlcolgiololaa.Cal Go.Proofs.Ytidlcolgiololaa.DiskBase Go.Proofs.Ytidlcolgiololaa.MdGet Go.Proofs.Ytidlcolgiololaa.MdHts Go.Proofs.Ytidlcolgiololaa.MdRight
set_option linter.unusedVariables false
set_option linter.unusedSimpArgs false

abbrev Out := Int × Int × Int × Int × List S64 × Int × Int
def bad (p c : Int) : Out := (0, 0, 0, 0, [], p, c)
section
variable {s : ByteArray} {p fr : Int} {k : Nat}
theorem num_ok (hs : s.size ≤ 20000) (hp : 0 ≤ p) (hk : 40 ≤ k) (h : (gn s p).2.2 = 0) : l10n.f k s p fr 0 (-1) = some ((gn s p).1, s, (gn s p).2.1, p, 0, -1) := by
  unfold l10n.f spec_l10Reader_num.f
  exact bnd (a := ((gn s p).1, s, (gn s p).2.1, p, 0)) (yes rfl (bnd (spec_num hs hp hk) (yes h rfl))) rfl
theorem num_bad (hs : s.size ≤ 20000) (hp : 0 ≤ p) (hk : 40 ≤ k) (h : ¬ (gn s p).2.2 = 0) : l10n.f k s p fr 0 (-1) = some (0, s, p, p, (gn s p).2.2, p) := by
  unfold l10n.f spec_l10Reader_num.f
  refine bnd (a := (0, s, p, p, (gn s p).2.2)) (yes rfl (bnd (spec_num hs hp hk) (no h rfl))) ?_
  show some (0, s, p, p, (gn s p).2.2, if (gn s p).2.2 = 0 then (-1 : Int) else if (-1 : Int) < 0 then p else -1) = _
  rw [if_neg h, if_pos (by decide)]
theorem num_over {c b : Int} (hc : ¬ c = 0) (hb : 0 ≤ b) : l10n.f k s p fr c b = some (0, s, p, p, c, b) := by
  unfold l10n.f spec_l10Reader_num.f
  refine bnd (a := (0, s, p, p, c)) (no hc rfl) ?_
  show some (0, s, p, p, c, if c = 0 then b else if b < 0 then p else b) = _
  rw [if_neg hc, if_neg (by omega)]
end
theorem stop (x : ByteArray) (b s p q n : Int) {k : Nat} (hk : 0 < k) (i : Int) (acc : List S64) (t : ByteArray) (a f : Int) {c d : Int} (hc : ¬ c = 0) : mr.l0 x b s p q n k i acc t a f c d = some (bad d c) := by
  obtain ⟨k, rfl⟩ : ∃ j, k = j + 1 := ⟨k - 1, by omega⟩
  rw [mr.l0]
  by_cases h : i < n
  · exact yes h (no hc (no hc rfl))
  · exact no h (no hc rfl)
/-- One number more. -/
theorem impl_step {s : ByteArray} (hs : s.size ≤ 20000) {nums : List Int} {p due : Int} (hp : 0 ≤ p) (hl : nums.length ≤ 100000) (hd : (nums.length : Int) < due) (h0 : due ≤ 100000) {k : Nat} (hk : 40 ≤ k) : impl_ModuleRead.l0 (k + 1) s nums p due = if (gn s p).2.2 = 0 then
      (if nums.length = 4 then (if 1 ≤ (gn s p).1 ∧ (gn s p).1 ≤ 2000 then impl_ModuleRead.l0 k s (nums ++ [(gn s p).1]) (gn s p).2.1 (due + 3 * (gn s p).1) else some (bad p 1)) else impl_ModuleRead.l0 k s (nums ++ [(gn s p).1]) (gn s p).2.1 due)
    else some (bad p (gn s p).2.2) := by
  have hn := gn_in (s := s) hp
  have lq : (nums ++ [(gn s p).1]).length = nums.length + 1 := by rw [List.length_append]; rfl
  rw [impl_ModuleRead.l0]
  refine yes hd ?_
  refine bnd (impl_num (by omega) hp hk) ?_
  by_cases c : (gn s p).2.2 = 0
  · rw [if_pos c, if_pos c]
    refine yes (by omega) ?_
    refine bnd rfl ?_
    by_cases c4 : nums.length = 4
    · rw [if_pos c4]
      refine yes (by rw [lq]; omega) ?_
      refine bnd (in_val _ _ _) ?_
      by_cases c5 : 1 ≤ (gn s p).1 ∧ (gn s p).1 ≤ 2000
      · rw [if_pos c5]
        refine yes (decide_eq_true c5) ?_
        rw [wid (x := 3 * (gn s p).1) (by omega) (by omega), wid (by omega) (by omega)]
      · rw [if_neg c5]
        exact no (by rw [decide_eq_true_iff]; exact c5) rfl
    · rw [if_neg c4]
      exact no (by rw [lq]; omega) rfl
  · rw [if_neg c, if_neg c]
    rfl
def flat : List S64 → List Int
  | [] => []
  | x :: r => x.f0 :: x.f1 :: x.f2 :: flat r
theorem flat_len : ∀ l : List S64, (flat l).length = 3 * l.length
  | [] => rfl
  | x :: r => by
    rw [flat, List.length_cons, List.length_cons, List.length_cons, List.length_cons, flat_len r]
    omega
theorem flat_app : ∀ a b : List S64, flat (a ++ b) = flat a ++ flat b
  | [], b => rfl
  | x :: r, b => by
    rw [List.cons_append, flat, flat, flat_app r b]
    rfl
theorem rd_at (pre tl : List Int) (j : Nat) {i : Int} (hi : i = (pre.length : Int) + j) : rd (pre ++ tl) i = tl.getD j 0 := by
  unfold rd
  have e : i.toNat = pre.length + j := by omega
  rw [e, List.getD_eq_getElem?_getD, List.getElem?_append_right (by omega), Nat.add_sub_cancel_left, List.getD_eq_getElem?_getD]
/-- The module that is made of the numbers. -/
def made (k : Nat) (b s p q : Int) (acc : List S64) : Option Out := (impl_ModuleRight.f k b s p q acc).bind fun t => if t = true then some (b, s, p, q, acc, 0, 0) else some (bad 0 1)
theorem impl_make (n5 b s p q : Int) (k : Nat) : ∀ (rest done : List S64) (pre : List Int), pre.length = 5 → done.length + rest.length ≤ 2000 →
    impl_ModuleRead.l1 (k + rest.length + 1) (pre ++ flat (done ++ rest)) (5 + 3 * ((done.length + rest.length : Nat) : Int)) (5 + 3 * (done.length : Int)) b s p q done = made k b s p q (done ++ rest) := by
  intro rest
  induction rest with
  | nil =>
    intro done pre hp hd
    show impl_ModuleRead.l1 (k + 1) _ _ _ _ _ _ _ _ = _
    rw [impl_ModuleRead.l1, List.append_nil]
    refine no (by rw [List.length_nil]; omega) ?_
    rfl
  | cons x r ih =>
    intro done pre hp hd
    rw [List.length_cons] at hd
    have fl := flat_len done
    have e : pre ++ flat (done ++ x :: r) = (pre ++ flat done) ++ (x.f0 :: x.f1 :: x.f2 :: flat r) := by rw [flat_app, List.append_assoc]; rfl
    have lp : (pre ++ flat done).length = 5 + 3 * done.length := by rw [List.length_append]; omega
    have lt : (pre ++ flat (done ++ x :: r)).length = 5 + 3 * done.length + (3 + 3 * r.length) := by rw [e, List.length_append, lp, List.length_cons, List.length_cons, List.length_cons, flat_len]; omega
    have r0 : rd (pre ++ flat (done ++ x :: r)) (5 + 3 * (done.length : Int)) = x.f0 := by rw [e]; exact rd_at _ _ 0 (by omega)
    have r1 : rd (pre ++ flat (done ++ x :: r)) (5 + 3 * (done.length : Int) + 1) = x.f1 := by rw [e]; exact rd_at _ _ 1 (by omega)
    have r2 : rd (pre ++ flat (done ++ x :: r)) (5 + 3 * (done.length : Int) + 2) = x.f2 := by rw [e]; exact rd_at _ _ 2 (by omega)
    rw [List.length_cons, show k + (r.length + 1) + 1 = (k + r.length + 1) + 1 by omega, impl_ModuleRead.l1]
    rw [wid (x := 5 + 3 * (done.length : Int) + 1) (by omega) (by omega), wid (x := 5 + 3 * (done.length : Int) + 2) (by omega) (by omega), wid (x := 5 + 3 * (done.length : Int) + 3) (by omega) (by omega), r0, r1, r2]
    refine yes (by omega) ?_
    refine yes (by omega) ?_
    refine yes (by rw [lt]; omega) ?_
    refine yes (by omega) ?_
    refine yes (by rw [lt]; omega) ?_
    refine yes (by omega) ?_
    refine yes (by rw [lt]; omega) ?_
    refine yes (by omega) ?_
    have h := ih (done ++ [x]) pre hp (by rw [List.length_append, List.length_singleton]; omega)
    rw [List.length_append, List.length_singleton, ← snoc done r x] at h
    rw [show 5 + 3 * ((done.length + (r.length + 1) : Nat) : Int) = 5 + 3 * ((done.length + 1 + r.length : Nat) : Int) by omega, show 5 + 3 * (done.length : Int) + 3 = 5 + 3 * ((done.length + 1 : Nat) : Int) by omega]
    exact h
theorem loop_same {s : ByteArray} (hs : s.size ≤ 20000) (b sl sp pa : Int) (n : Nat) (hn : n ≤ 2000) : ∀ (e i : Nat), i + e = n → ∀ (acc : List S64) (p fr : Int), acc.length = i → 0 ≤ p → ∀ ks ki, 70000 + 10 * e ≤ ks → 70000 + 10 * e ≤ ki →
    ∃ z : Out, mr.l0 s b sl sp pa n ks i acc s p fr 0 (-1) = some z ∧ impl_ModuleRead.l0 ki s ([b, sl, sp, pa, (n : Int)] ++ flat acc) p (5 + 3 * (n : Int)) = some z ∧ z.2.2.2.2.1.length ≤ 2000 := by
  intro e
  induction e with
  | zero =>
    intro i hi acc p fr ha hp ks ki hks hki
    obtain ⟨ks, rfl⟩ : ∃ j, ks = j + 1 := ⟨ks - 1, by omega⟩
    obtain ⟨ki, rfl⟩ : ∃ j, ki = j + 1 := ⟨ki - 1, by omega⟩
    have fl := flat_len acc
    have ll : ([b, sl, sp, pa, (n : Int)] ++ flat acc).length = 5 + 3 * n := by rw [List.length_append, fl]; show 5 + _ = _; omega
    rw [mr.l0, impl_ModuleRead.l0, if_neg (by omega), if_neg (by rw [ll]; omega)]
    unfold mr.fin
    by_cases c : p < (s.size : Int)
    · exact ⟨bad p 3, yes rfl (yes c rfl), yes c rfl, Nat.zero_le _⟩
    obtain ⟨r, e1, e2⟩ := right_same b sl sp pa acc (k := ks) (by omega)
    obtain ⟨r', e1', e2'⟩ := right_same b sl sp pa acc (k := ki - n - 1) (by omega)
    have hr : r' = r := by
      have h1 := at_rounds (spec_ModuleRight.mono b sl sp pa acc) (show ks ≤ ks + ki by omega) e1
      have h2 := at_rounds (spec_ModuleRight.mono b sl sp pa acc) (show ki - n - 1 ≤ ks + ki by omega) e1'
      exact Option.some.inj (h2.symm.trans h1)
    subst hr
    have mk := impl_make n b sl sp pa (ki - n - 1) acc [] [b, sl, sp, pa, (n : Int)] rfl (by rw [List.length_nil]; omega)
    rw [List.nil_append, List.length_nil, Nat.zero_add, show ki - n - 1 + acc.length + 1 = ki by omega, ha, show i = n by omega] at mk
    have go : ∀ z, made (ki - n - 1) b sl sp pa acc = some z → (if p < (s.size : Int) then some ((0, 0, 0, 0, ([] : List S64), p, 3) : Out) else if 0 < ((([b, sl, sp, pa, (n : Int)] ++ flat acc).length : Nat) : Int) then if 1 < ((([b, sl, sp, pa, (n : Int)] ++ flat acc).length : Nat) : Int) then if 2 < ((([b, sl, sp, pa, (n : Int)] ++ flat acc).length : Nat) : Int) then if 3 < ((([b, sl, sp, pa, (n : Int)] ++ flat acc).length : Nat) : Int) then
        impl_ModuleRead.l1 ki ([b, sl, sp, pa, (n : Int)] ++ flat acc) (5 + 3 * (n : Int)) 5 (rd ([b, sl, sp, pa, (n : Int)] ++ flat acc) 0) (rd ([b, sl, sp, pa, (n : Int)] ++ flat acc) 1) (rd ([b, sl, sp, pa, (n : Int)] ++ flat acc) 2) (rd ([b, sl, sp, pa, (n : Int)] ++ flat acc) 3) [] else none else none else none else none) = some z := by
      intro z hz
      refine no c ?_
      rw [ll]
      refine yes (by omega) ?_
      refine yes (by omega) ?_
      refine yes (by omega) ?_
      refine yes (by omega) ?_
      exact mk.trans hz
    cases r' with
    | true => exact ⟨(b, sl, sp, pa, acc, 0, 0), yes rfl (no c (bnd e1 rfl)), go _ (bnd e2' rfl), by show acc.length ≤ 2000; omega⟩
    | false => exact ⟨bad 0 1, yes rfl (no c (bnd e1 rfl)), go _ (bnd e2' rfl), Nat.zero_le _⟩
  | succ e ih =>
    intro i hi acc p fr ha hp ks ki hks hki
    obtain ⟨ks, rfl⟩ : ∃ j, ks = j + 1 := ⟨ks - 1, by omega⟩
    obtain ⟨ki, rfl⟩ : ∃ j, ki = j + 3 := ⟨ki - 3, by omega⟩
    have fl := flat_len acc
    have ll : ([b, sl, sp, pa, (n : Int)] ++ flat acc).length = 5 + 3 * i := by rw [List.length_append, fl]; show 5 + _ = _; omega
    have st := impl_step hs (nums := [b, sl, sp, pa, (n : Int)] ++ flat acc) (p := p) (due := 5 + 3 * (n : Int)) hp (by rw [ll]; omega) (by rw [ll]; omega) (by omega) (k := ki + 2) (by omega)
    rw [if_neg (show ¬ ([b, sl, sp, pa, (n : Int)] ++ flat acc).length = 4 by rw [ll]; omega)] at st
    rw [mr.l0, if_pos (show (i : Int) < (n : Int) by omega), if_pos rfl, st]
    have al : acc.length < 1000000 := by omega
    by_cases c1 : (gn s p).2.2 = 0
    case neg =>
      rw [if_neg c1]
      exact ⟨bad p (gn s p).2.2, bnd (num_bad hs hp (by omega) c1) (bnd (num_over c1 hp) (bnd (num_over c1 hp) (yes al (stop _ _ _ _ _ _ (by omega) _ _ _ _ _ c1)))), rfl, Nat.zero_le _⟩
    rw [if_pos c1]
    have h1 := gn_in (s := s) hp
    have l1 : ([b, sl, sp, pa, (n : Int)] ++ flat acc ++ [(gn s p).1]).length = 6 + 3 * i := by rw [List.length_append, ll, List.length_singleton]; omega
    have st1 := impl_step hs (nums := [b, sl, sp, pa, (n : Int)] ++ flat acc ++ [(gn s p).1]) (p := (gn s p).2.1) (due := 5 + 3 * (n : Int)) h1.2.1 (by rw [l1]; omega) (by rw [l1]; omega) (by omega) (k := ki + 1) (by omega)
    rw [if_neg (show ¬ ([b, sl, sp, pa, (n : Int)] ++ flat acc ++ [(gn s p).1]).length = 4 by rw [l1]; omega)] at st1
    rw [st1]
    by_cases c2 : (gn s (gn s p).2.1).2.2 = 0
    case neg =>
      rw [if_neg c2]
      exact ⟨bad (gn s p).2.1 (gn s (gn s p).2.1).2.2, bnd (num_ok hs hp (by omega) c1) (bnd (num_bad hs h1.2.1 (by omega) c2) (bnd (num_over c2 h1.2.1) (yes al (stop _ _ _ _ _ _ (by omega) _ _ _ _ _ c2)))), rfl, Nat.zero_le _⟩
    rw [if_pos c2]
    have h2 := gn_in (s := s) h1.2.1
    have l2 : ([b, sl, sp, pa, (n : Int)] ++ flat acc ++ [(gn s p).1] ++ [(gn s (gn s p).2.1).1]).length = 7 + 3 * i := by rw [List.length_append, l1, List.length_singleton]; omega
    have st2 := impl_step hs (nums := [b, sl, sp, pa, (n : Int)] ++ flat acc ++ [(gn s p).1] ++ [(gn s (gn s p).2.1).1]) (p := (gn s (gn s p).2.1).2.1) (due := 5 + 3 * (n : Int)) h2.2.1 (by rw [l2]; omega) (by rw [l2]; omega) (by omega) (k := ki) (by omega)
    rw [if_neg (show ¬ ([b, sl, sp, pa, (n : Int)] ++ flat acc ++ [(gn s p).1] ++ [(gn s (gn s p).2.1).1]).length = 4 by rw [l2]; omega)] at st2
    rw [st2]
    by_cases c3 : (gn s (gn s (gn s p).2.1).2.1).2.2 = 0
    case neg =>
      rw [if_neg c3]
      exact ⟨bad (gn s (gn s p).2.1).2.1 (gn s (gn s (gn s p).2.1).2.1).2.2, bnd (num_ok hs hp (by omega) c1) (bnd (num_ok hs h1.2.1 (by omega) c2) (bnd (num_bad hs h2.2.1 (by omega) c3) (yes al (stop _ _ _ _ _ _ (by omega) _ _ _ _ _ c3)))), rfl, Nat.zero_le _⟩
    rw [if_pos c3]
    have h3 := gn_in (s := s) h2.2.1
    obtain ⟨z, z1, z2, z3⟩ := ih (i + 1) (by omega) (acc ++ [⟨(gn s p).1, (gn s (gn s p).2.1).1, (gn s (gn s (gn s p).2.1).2.1).1⟩]) (gn s (gn s (gn s p).2.1).2.1).2.1 (gn s (gn s p).2.1).2.1 (by rw [List.length_append, List.length_singleton]; omega) h3.2.1 ks ki (by omega) (by omega)
    refine ⟨z, ?_, ?_, z3⟩
    · refine bnd (num_ok hs hp (by omega) c1) (bnd (num_ok hs h1.2.1 (by omega) c2) (bnd (num_ok hs h2.2.1 (by omega) c3) (yes al ?_)))
      have e2 : wrap64 ((i : Int) + 1) = ((i + 1 : Nat) : Int) := by rw [wid (by omega) (by omega)]; omega
      rw [e2]
      exact z1
    · rw [flat_app] at z2
      rw [List.append_assoc, List.append_assoc, List.append_assoc, ← List.append_assoc (flat acc)]
      rw [List.append_assoc, ← List.append_assoc [b, sl, sp, pa, (n : Int)]]
      have q : ∀ (x y u : Int) (f : List Int), ([b, sl, sp, pa, (n : Int)] ++ f) ++ ([x] ++ ([y] ++ [u])) = [b, sl, sp, pa, (n : Int)] ++ (f ++ flat [⟨x, y, u⟩]) := fun x y u f => by
        rw [List.append_assoc]
        rfl
      rw [q]
      exact z2
theorem same (s : ByteArray) {k : Nat} (hk : 200000 ≤ k) : ∃ z : Out, spec_ModuleRead.f k s = some z ∧ impl_ModuleRead.f k s = some z ∧ z.2.2.2.2.1.length ≤ 2000 := by
  unfold spec_ModuleRead.f impl_ModuleRead.f
  by_cases hs' : (s.size : Int) > 20000
  · exact ⟨bad 0 2, yes hs' rfl, yes hs' rfl, Nat.zero_le _⟩
  rw [if_neg hs', if_neg hs']
  have hs : s.size ≤ 20000 := by omega
  obtain ⟨ki, rfl⟩ : ∃ j, k = j + 5 := ⟨k - 5, by omega⟩
  have p0 : (0 : Int) ≤ 0 := by decide
  have h1 := gn_in (s := s) p0
  have h2 := gn_in (s := s) h1.2.1
  have h3 := gn_in (s := s) h2.2.1
  have h4 := gn_in (s := s) h3.2.1
  have h5 := gn_in (s := s) h4.2.1
  have t0 := impl_step hs (nums := []) (p := 0) (due := 5) p0 (by simp) (by simp) (by omega) (k := ki + 4) (by omega)
  rw [if_neg (show ¬ ([] : List Int).length = 4 by simp)] at t0
  rw [t0]
  by_cases c1 : (gn s 0).2.2 = 0
  case neg =>
    rw [if_neg c1]
    exact ⟨bad 0 (gn s 0).2.2, bnd (num_bad hs p0 (by omega) c1) (bnd (num_over c1 p0) (bnd (num_over c1 p0) (bnd (num_over c1 p0) (bnd (num_over c1 p0) (no (fun h => c1 h.1) (stop _ _ _ _ _ _ (by omega) _ _ _ _ _ c1)))))), rfl, Nat.zero_le _⟩
  rw [if_pos c1]
  generalize hx1 : gn s 0 = x1 at *
  have t1 := impl_step hs (nums := [] ++ [x1.1]) (p := x1.2.1) (due := 5) h1.2.1 (by simp) (by simp) (by omega) (k := ki + 3) (by omega)
  rw [if_neg (show ¬ (([] : List Int) ++ [x1.1]).length = 4 by simp)] at t1
  rw [t1]
  have n1 : l10n.f (ki + 5) s 0 0 0 (-1) = some (x1.1, s, x1.2.1, 0, 0, -1) := by rw [← hx1]; exact num_ok hs p0 (by omega) (by rw [hx1]; exact c1)
  by_cases c2 : (gn s x1.2.1).2.2 = 0
  case neg =>
    rw [if_neg c2]
    exact ⟨bad x1.2.1 (gn s x1.2.1).2.2, bnd n1 (bnd (num_bad hs h1.2.1 (by omega) c2) (bnd (num_over c2 h1.2.1) (bnd (num_over c2 h1.2.1) (bnd (num_over c2 h1.2.1) (no (fun h => c2 h.1) (stop _ _ _ _ _ _ (by omega) _ _ _ _ _ c2)))))), rfl, Nat.zero_le _⟩
  rw [if_pos c2]
  have n2 : l10n.f (ki + 5) s x1.2.1 0 0 (-1) = _ := num_ok hs h1.2.1 (by omega) c2
  generalize hx2 : gn s x1.2.1 = x2 at *
  have t2 := impl_step hs (nums := [] ++ [x1.1] ++ [x2.1]) (p := x2.2.1) (due := 5) h2.2.1 (by simp) (by simp) (by omega) (k := ki + 2) (by omega)
  rw [if_neg (show ¬ (([] : List Int) ++ [x1.1] ++ [x2.1]).length = 4 by simp)] at t2
  rw [t2]
  by_cases c3 : (gn s x2.2.1).2.2 = 0
  case neg =>
    rw [if_neg c3]
    exact ⟨bad x2.2.1 (gn s x2.2.1).2.2, bnd n1 (bnd n2 (bnd (num_bad hs h2.2.1 (by omega) c3) (bnd (num_over c3 h2.2.1) (bnd (num_over c3 h2.2.1) (no (fun h => c3 h.1) (stop _ _ _ _ _ _ (by omega) _ _ _ _ _ c3)))))), rfl, Nat.zero_le _⟩
  rw [if_pos c3]
  have n3 : l10n.f (ki + 5) s x2.2.1 x1.2.1 0 (-1) = _ := num_ok hs h2.2.1 (by omega) c3
  generalize hx3 : gn s x2.2.1 = x3 at *
  have t3 := impl_step hs (nums := [] ++ [x1.1] ++ [x2.1] ++ [x3.1]) (p := x3.2.1) (due := 5) h3.2.1 (by simp) (by simp) (by omega) (k := ki + 1) (by omega)
  rw [if_neg (show ¬ (([] : List Int) ++ [x1.1] ++ [x2.1] ++ [x3.1]).length = 4 by simp)] at t3
  rw [t3]
  by_cases c4 : (gn s x3.2.1).2.2 = 0
  case neg =>
    rw [if_neg c4]
    exact ⟨bad x3.2.1 (gn s x3.2.1).2.2, bnd n1 (bnd n2 (bnd n3 (bnd (num_bad hs h3.2.1 (by omega) c4) (bnd (num_over c4 h3.2.1) (no (fun h => c4 h.1) (stop _ _ _ _ _ _ (by omega) _ _ _ _ _ c4)))))), rfl, Nat.zero_le _⟩
  rw [if_pos c4]
  have n4 : l10n.f (ki + 5) s x3.2.1 x2.2.1 0 (-1) = _ := num_ok hs h3.2.1 (by omega) c4
  generalize hx4 : gn s x3.2.1 = x4 at *
  have t4 := impl_step hs (nums := [] ++ [x1.1] ++ [x2.1] ++ [x3.1] ++ [x4.1]) (p := x4.2.1) (due := 5) h4.2.1 (by simp) (by simp) (by omega) (k := ki) (by omega)
  rw [if_pos (show (([] : List Int) ++ [x1.1] ++ [x2.1] ++ [x3.1] ++ [x4.1]).length = 4 by simp)] at t4
  rw [t4]
  by_cases c5 : (gn s x4.2.1).2.2 = 0
  case neg =>
    rw [if_neg c5]
    exact ⟨bad x4.2.1 (gn s x4.2.1).2.2, bnd n1 (bnd n2 (bnd n3 (bnd n4 (bnd (num_bad hs h4.2.1 (by omega) c5) (no (fun h => c5 h.1) (stop _ _ _ _ _ _ (by omega) _ _ _ _ _ c5)))))), rfl, Nat.zero_le _⟩
  rw [if_pos c5]
  have n5 : l10n.f (ki + 5) s x4.2.1 x3.2.1 0 (-1) = _ := num_ok hs h4.2.1 (by omega) c5
  generalize hx5 : gn s x4.2.1 = x5 at *
  by_cases c6 : 1 ≤ x5.1 ∧ x5.1 ≤ 2000
  case neg =>
    rw [if_neg c6]
    exact ⟨bad x4.2.1 1, bnd n1 (bnd n2 (bnd n3 (bnd n4 (bnd n5 (yes ⟨rfl, by show x5.1 < 1 ∨ 2000 < x5.1; omega⟩ rfl))))), rfl, Nat.zero_le _⟩
  rw [if_pos c6]
  obtain ⟨n, hn⟩ : ∃ n : Nat, x5.1 = n := ⟨x5.1.toNat, by omega⟩
  obtain ⟨z, z1, z2, z3⟩ := loop_same hs x1.1 x2.1 x3.1 x4.1 n (by omega) n 0 (by omega) [] x5.2.1 x4.2.1 rfl h5.2.1 (ki + 5) ki (by omega) (by omega)
  refine ⟨z, bnd n1 (bnd n2 (bnd n3 (bnd n4 (bnd n5 (no (fun h => by have := h.2; simp only at this; omega) ?_))))), ?_, z3⟩
  · show mr.l0 s x1.1 x2.1 x3.1 x4.1 x5.1 (ki + 5) 0 [] s x5.2.1 x4.2.1 0 (-1) = _
    rw [hn]
    exact z1
  · rw [hn]
    exact z2
end Go.Proofs.Ytidlcolgiololaa.MdRead
namespace Go.Proofs.Ytidlcolgiololaa.Pure
open Go.RowKit Go.Proofs.Ytidlcolgiololaa.S Go.Proofs.YtidlcolgiololaaW.PrintWords Go.Proofs.Ytidlcolgiololaa.Cal Go.Proofs.Ytidlcolgiololaa.DiskBase Go.Proofs.Ytidlcolgiololaa.MdRead
set_option linter.unusedVariables false
set_option linter.unusedSimpArgs false

theorem rdi (pre r : List S64) (x : S64) : rd_T64 (pre ++ x :: r) (pre.length : Int) = x := by
  unfold rd_T64
  rw [List.getD_eq_getElem?_getD, Int.toNat_natCast, List.getElem?_append_right (Nat.le_refl _), Nat.sub_self]
  rfl
theorem seti (pre r : List S64) (x y : S64) : (pre ++ x :: r).set ((pre.length : Int)).toNat y = pre ++ y :: r := by
  rw [Int.toNat_natCast, List.set_append_right _ _ (Nat.le_refl _), Nat.sub_self, List.set_cons_zero]
theorem eq_l0 : ∀ (rest pre : List S64), pre.length + rest.length ≤ 100000 → ∀ k, rest.length + 1 ≤ k → laws_eqInsS.l0 k (pre ++ rest) (pre ++ rest) (pre.length : Int) = some true := by
  intro rest
  induction rest with
  | nil =>
    intro pre h k hk
    obtain ⟨j, rfl⟩ : ∃ j, k = j + 1 := ⟨k - 1, by omega⟩
    rw [laws_eqInsS.l0]
    exact no (by simp) rfl
  | cons x r ih =>
    intro pre h k hk
    rw [List.length_cons] at h hk
    obtain ⟨j, rfl⟩ : ∃ j, k = j + 1 := ⟨k - 1, by omega⟩
    rw [laws_eqInsS.l0]
    refine yes (by rw [List.length_append, List.length_cons]; omega) ?_
    refine yes (by omega) ?_
    refine yes (by rw [List.length_append, List.length_cons]; omega) ?_
    refine bnd (a := true) ?_ (yes rfl ?_)
    · unfold laws_eqIns.f
      exact yes rfl (yes rfl (yes rfl rfl))
    · rw [nxt pre x (by omega), snoc pre r x]
      exact ih (pre ++ [x]) (by rw [List.length_append, List.length_singleton]; omega) j (Nat.le_of_succ_le_succ hk)
def mks : Int → Nat → List S64
  | _, 0 => []
  | v, n + 1 => ⟨v, v + 1, v + 2⟩ :: mks (v + 3) n
theorem mk_l0 : ∀ (rest pre : List S64) (v : Int), pre.length + rest.length ≤ 100000 → 0 ≤ v → v + 3 * rest.length ≤ 1000000000 → ∀ k, rest.length + 1 ≤ k →
    laws_markInsS.l0 k (pre ++ rest) v (pre.length : Int) = some (v + 3 * (rest.length : Int), pre ++ mks v rest.length) := by
  intro rest
  induction rest with
  | nil =>
    intro pre v h v0 v1 k hk
    obtain ⟨j, rfl⟩ : ∃ j, k = j + 1 := ⟨k - 1, by omega⟩
    rw [laws_markInsS.l0]
    refine no (by simp) ?_
    rw [List.length_nil, mks]
    congr 2
    omega
  | cons x r ih =>
    intro pre v h v0 v1 k hk
    rw [List.length_cons] at h hk v1
    obtain ⟨j, rfl⟩ : ∃ j, k = j + 1 := ⟨k - 1, by omega⟩
    rw [laws_markInsS.l0]
    refine yes (by rw [List.length_append, List.length_cons]; omega) ?_
    refine yes (by omega) ?_
    simp only [Option.bind_some, rdi, seti]
    rw [wid (x := v + 1) (by omega) (by omega), wid (x := v + 1 + 1) (by omega) (by omega), wid (x := v + 1 + 1 + 1) (by omega) (by omega), nxt pre x (by omega)]
    have e := ih (pre ++ [⟨v, v + 1, v + 1 + 1⟩]) (v + 1 + 1 + 1) (by rw [List.length_append, List.length_singleton]; omega) (by omega) (by omega) j (Nat.le_of_succ_le_succ hk)
    rw [← snoc] at e
    rw [show ((pre ++ [(⟨v, v + 1, v + 1 + 1⟩ : S64)]).length : Int) = ((pre ++ [x]).length : Int) by simp] at e
    rw [e, List.length_cons, mks, show v + 1 + 1 = v + 2 by omega, show v + 2 + 1 = v + 3 by omega, List.append_assoc]
    congr 2
    omega
theorem hd_l0 : ∀ (n : Nat) (pre : List S64) (v : Int), pre.length + n ≤ 100000 → 0 ≤ v → v + 3 * n ≤ 1000000000 → ∀ k, n + 1 ≤ k → laws_heldInsS.l0 k (pre ++ mks v n) v (pre.length : Int) = some (v + 3 * (n : Int)) := by
  intro n
  induction n with
  | zero =>
    intro pre v h v0 v1 k hk
    obtain ⟨j, rfl⟩ : ∃ j, k = j + 1 := ⟨k - 1, by omega⟩
    rw [laws_heldInsS.l0]
    refine no (by rw [mks]; simp) ?_
    congr 1
    omega
  | succ n ih =>
    intro pre v h v0 v1 k hk
    obtain ⟨j, rfl⟩ : ∃ j, k = j + 1 := ⟨k - 1, by omega⟩
    rw [laws_heldInsS.l0, mks, rdi]
    refine yes (by rw [List.length_append, List.length_cons]; omega) ?_
    refine yes (by omega) ?_
    rw [wid (x := v + 1) (by omega) (by omega), wid (x := v + 1 + 1) (by omega) (by omega), wid (x := v + 1 + 1 + 1) (by omega) (by omega)]
    refine yes rfl ?_
    refine yes rfl ?_
    refine yes (by show v + 2 = v + 1 + 1; omega) ?_
    rw [nxt pre (⟨v, v + 1, v + 2⟩ : S64) (by omega), snoc pre (mks (v + 3) n), show v + 1 + 1 + 1 = v + 3 by omega]
    have e := ih (pre ++ [⟨v, v + 1, v + 2⟩]) (v + 3) (by rw [List.length_append, List.length_singleton]; omega) (by omega) (by omega) j (Nat.le_of_succ_le_succ hk)
    rw [e]
    congr 1
    omega
theorem eq_out (z : Out) (h : z.2.2.2.2.1.length ≤ 2000) {k : Nat} (hk : 5000 ≤ k) : laws_eqModuleOut.f k z.1 z.2.1 z.2.2.1 z.2.2.2.1 z.2.2.2.2.1 z.2.2.2.2.2.1 z.2.2.2.2.2.2 z.1 z.2.1 z.2.2.1 z.2.2.2.1 z.2.2.2.2.1 z.2.2.2.2.2.1 z.2.2.2.2.2.2 = some true := by
  have e := eq_l0 z.2.2.2.2.1 [] (by rw [List.length_nil]; omega) k (by omega)
  unfold laws_eqModuleOut.f laws_eqModule.f laws_eqInsS.f
  refine bnd (a := true) ?_ (yes rfl (yes rfl (yes rfl rfl)))
  exact yes rfl (yes rfl (yes rfl (yes rfl (bnd (yes rfl e) (yes rfl rfl)))))
theorem mark_out (z : Out) (h : z.2.2.2.2.1.length ≤ 2000) {k : Nat} (hk : 5000 ≤ k) : laws_markModuleOut.f k z.1 z.2.1 z.2.2.1 z.2.2.2.1 z.2.2.2.2.1 z.2.2.2.2.2.1 z.2.2.2.2.2.2 1 = some (1 + 3 * (z.2.2.2.2.1.length : Int), mks 1 z.2.2.2.2.1.length) := by
  have e := mk_l0 z.2.2.2.2.1 [] 1 (by rw [List.length_nil]; omega) (by omega) (by omega) k (by omega)
  unfold laws_markModuleOut.f laws_markModule.f laws_markInsS.f
  exact bnd (bnd e rfl) rfl
theorem held_out (z : Out) {n : Nat} (h : n ≤ 2000) {k : Nat} (hk : 5000 ≤ k) : laws_heldModuleOut.f k z.1 z.2.1 z.2.2.1 z.2.2.2.1 (mks 1 n) z.2.2.2.2.2.1 z.2.2.2.2.2.2 1 = some (1 + 3 * (n : Int)) := by
  have e := hd_l0 n [] 1 (by rw [List.length_nil]; omega) (by omega) (by omega) k (by omega)
  unfold laws_heldModuleOut.f laws_heldModule.f laws_heldInsS.f
  exact bnd (bnd e (no (by omega) rfl)) (no (by omega) rfl)
theorem FnExactModuleRead : laws_FnExactModuleRead.Pure := by
  intro s hs
  refine ⟨200000, ?_⟩
  unfold laws_FnExactModuleRead.f
  by_cases c : (s.size : Int) > 1048576
  · exact yes c rfl
  refine no c ?_
  obtain ⟨z, e1, e2, e3⟩ := same s (Nat.le_refl 200000)
  have h0 := held_out z (n := z.2.2.2.2.1.length) (k := 200000) e3 (by omega)
  refine bnd e1 ?_
  refine bnd e2 ?_
  refine bnd (eq_out z e3 (by omega)) ?_
  refine yes rfl ?_
  refine bnd (mark_out z e3 (by omega)) ?_
  refine bnd h0 ?_
  refine no (by omega) ?_
  refine yes rfl ?_
  refine bnd e2 ?_
  refine bnd (eq_out z e3 (by omega)) ?_
  refine yes rfl ?_
  refine bnd h0 ?_
  refine no (by omega) ?_
  exact yes rfl rfl
end Go.Proofs.Ytidlcolgiololaa.Pure
