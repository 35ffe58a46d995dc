/- Plain laws: numbers and texts in bytes, how they are put; no condition beyond each lemma's own. -/
import Derived.Test.YtipkfflcdomheaaDoorCal
import Derived.Laws.BitsLemmas
import Derived.Test.YtipkfflcdomheaaDoorS0
import Derived.Test.YtipkfflcdomheaaDoorS3
import Derived.Test.YtipkfflcdomheaaDoorS4
import Derived.Test.YtipkfflcdomheaaDoorS8
namespace Go.Proofs.YtipkfflcdomheaaDoor.EvText
open Go.RowKit Go.Proofs.YtipkfflcdomheaaDoor.S Go.Proofs.YtipkfflcdomheaaDoorW.PrintWords Go.Proofs.YtipkfflcdomheaaDoorW.PrintMore Go.Proofs.YtipkfflcdomheaaDoor.Cal
set_option linter.unusedVariables false
set_option linter.unusedSimpArgs false

theorem u64_range (x : Int) : 0 ≤ IntKind.u64.wrap x ∧ IntKind.u64.wrap x < 18446744073709551616 := by
  have e : IntKind.u64.wrap x = x % 18446744073709551616 := by simp [IntKind.wrap, IntKind.signed, IntKind.bits]
  omega
theorem u64_id {x : Int} (h0 : 0 ≤ x) (h1 : x < 18446744073709551616) : IntKind.u64.wrap x = x := by
  have e : IntKind.u64.wrap x = x % 18446744073709551616 := by simp [IntKind.wrap, IntKind.signed, IntKind.bits]
  omega
/-! bits -/
theorem wraps_u64 (n : Int) (h₀ : 0 ≤ n) (h₁ : n < 2 ^ 64) : IntKind.u64.wrap n = n := u64_id h₀ (by omega)
theorem or_comm' (k : IntKind) (a b : Int) : Go.bits .or k a b = Go.bits .or k b a := by
  simp only [Go.bits]
  rw [BitVec.or_comm]
theorem or128 {y : Int} (h0 : 0 ≤ y) (h1 : y < 256) : Go.bits .or .u8 y 128 = y % 128 + 128 := by
  obtain ⟨a, rfl⟩ := Int.eq_ofNat_of_zero_le h0
  have h := (bits_nat .u8 8 (by decide) wraps_u8 a 128 (by omega) (by decide)).2
  have e : ∀ a : Nat, a < 256 → a ||| 128 = a % 128 + 128 := by decide +kernel
  have := e a (by omega)
  rw [this] at h
  have h' : Go.bits .or .u8 (a : Int) 128 = ((a % 128 + 128 : Nat) : Int) := h
  rw [h']
  simp
theorem and127 {y : Int} (h0 : 0 ≤ y) (h1 : y < 256) : Go.bits .and .u8 y 127 = y % 128 := bits_mask .u8 8 (by decide) wraps_u8 7 (by decide) y h0 (by omega)
theorem and1 {y : Int} (h0 : 0 ≤ y) (h1 : y < 18446744073709551616) : Go.bits .and .u64 y 1 = y % 2 := bits_mask .u64 64 (by decide) wraps_u64 1 (by decide) y h0 (by omega)
theorem or_join {a h : Int} (i : Nat) (hi : i ≤ 64) (a0 : 0 ≤ a) (a1 : a < 2 ^ i) (h0 : 0 ≤ h) (hm : h % 2 ^ i = 0) (h1 : h < 18446744073709551616) : Go.bits .or .u64 a h = a + h := by
  have hp : (2 : Int) ^ i ≤ 2 ^ 64 := by exact_mod_cast Nat.pow_le_pow_right (by decide) hi
  rw [or_comm', bits_join .u64 64 (by decide) wraps_u64 i h a h0 hm (by omega) a0 a1 (by omega)]
  omega
theorem xor_u0 {a : Int} (h0 : 0 ≤ a) (h1 : a < 18446744073709551616) : Go.bits .xor .u64 a 0 = a := by
  obtain ⟨n, rfl⟩ := Int.eq_ofNat_of_zero_le h0
  simp only [Go.bits, BitVec.ofInt_natCast]
  have e : (BitVec.ofInt IntKind.u64.bits 0) = 0#(IntKind.u64.bits) := by decide
  rw [e, BitVec.xor_zero, BitVec.toNat_ofNat]
  have e2 : n % 2 ^ IntKind.u64.bits = n := Nat.mod_eq_of_lt (by show n < 18446744073709551616; omega)
  rw [e2]
  exact u64_id h0 h1
theorem xor_u1 {a : Int} (h0 : 0 ≤ a) (h1 : a < 18446744073709551616) : Go.bits .xor .u64 a 18446744073709551615 = 18446744073709551615 - a := by
  obtain ⟨n, rfl⟩ := Int.eq_ofNat_of_zero_le h0
  simp only [Go.bits, BitVec.ofInt_natCast]
  have e : (BitVec.ofInt IntKind.u64.bits 18446744073709551615) = BitVec.allOnes IntKind.u64.bits := by decide
  rw [e, BitVec.xor_allOnes, BitVec.toNat_not, BitVec.toNat_ofNat]
  have e2 : n % 2 ^ IntKind.u64.bits = n := Nat.mod_eq_of_lt (by show n < 18446744073709551616; omega)
  rw [e2]
  have e3 : (((2 ^ IntKind.u64.bits - 1 - n : Nat)) : Int) = 18446744073709551615 - n := by
    have : (2 ^ IntKind.u64.bits - 1 : Nat) = 18446744073709551615 := by decide
    rw [this]
    omega
  rw [e3]
  exact u64_id (by omega) (by omega)
theorem xor_i0 {a : Int} (h0 : 0 ≤ a) (h1 : a ≤ 9223372036854775807) : Go.bits .xor .i64 a 0 = a := by
  obtain ⟨n, rfl⟩ := Int.eq_ofNat_of_zero_le h0
  simp only [Go.bits, BitVec.ofInt_natCast]
  have e : (BitVec.ofInt IntKind.i64.bits 0) = 0#(IntKind.i64.bits) := by decide
  rw [e, BitVec.xor_zero, BitVec.toNat_ofNat]
  have e2 : n % 2 ^ IntKind.i64.bits = n := Nat.mod_eq_of_lt (by show n < 18446744073709551616; omega)
  rw [e2, IntKind.wrap_i64]
  omega
theorem xor_i1 {a : Int} (h0 : 0 ≤ a) (h1 : a ≤ 9223372036854775807) : Go.bits .xor .i64 a (-1) = -a - 1 := by
  obtain ⟨n, rfl⟩ := Int.eq_ofNat_of_zero_le h0
  simp only [Go.bits, BitVec.ofInt_natCast]
  have e : (BitVec.ofInt IntKind.i64.bits (-1)) = BitVec.allOnes IntKind.i64.bits := by decide
  rw [e, BitVec.xor_allOnes, BitVec.toNat_not, BitVec.toNat_ofNat]
  have e2 : n % 2 ^ IntKind.i64.bits = n := Nat.mod_eq_of_lt (by show n < 18446744073709551616; omega)
  rw [e2]
  have e3 : (((2 ^ IntKind.i64.bits - 1 - n : Nat)) : Int) = 18446744073709551615 - n := by
    have : (2 ^ IntKind.i64.bits - 1 : Nat) = 18446744073709551615 := by decide
    rw [this]
    omega
  rw [e3, IntKind.wrap_i64]
  omega

/-! the bytes of a number -/
def zig (n : Int) : Int := if n < 0 then -2 * n - 1 else 2 * n
def unzig (u : Int) : Int := if u % 2 = 0 then u / 2 else -(u / 2) - 1
theorem unzig_zig (n : Int) : unzig (zig n) = n := by
  unfold unzig zig
  split <;> split <;> omega
theorem zig_range {n : Int} (h0 : -9223372036854775808 ≤ n) (h1 : n ≤ 9223372036854775807) : 0 ≤ zig n ∧ zig n < 18446744073709551616 := by
  unfold zig
  split <;> omega
def enc (u : Nat) : List Int := if u < 128 then [(u : Int)] else ((u % 128 + 128 : Nat) : Int) :: enc (u / 128)
termination_by u
decreasing_by omega
theorem enc_small {u : Nat} (h : u < 128) : enc u = [(u : Int)] := by
  rw [enc, if_pos h]
theorem enc_big {u : Nat} (h : ¬ u < 128) : enc u = ((u % 128 + 128 : Nat) : Int) :: enc (u / 128) := by
  rw [enc, if_neg h]
theorem enc_len (n : Nat) : ∀ u : Nat, u < 128 ^ n → 0 < n → (enc u).length ≤ n ∧ 1 ≤ (enc u).length := by
  induction n with
  | zero => intro u _ h; omega
  | succ n ih =>
    intro u hu _
    by_cases h : u < 128
    · rw [enc_small h]
      simp
    · rw [enc_big h, List.length_cons]
      have hn : 0 < n := by
        rcases Nat.eq_zero_or_pos n with h0 | h0
        · subst h0; simp at hu; omega
        · exact h0
      have := ih (u / 128) (by rw [Nat.div_lt_iff_lt_mul (by decide)]; rw [Nat.pow_succ] at hu; exact hu) hn
      omega
theorem enc_byte : ∀ (u : Nat), ∀ x ∈ enc u, 0 ≤ x ∧ x < 256 := by
  intro u
  induction u using Nat.strongRecOn with
  | _ u ih =>
    intro x hx
    by_cases h : u < 128
    · rw [enc_small h, List.mem_singleton] at hx
      omega
    · rw [enc_big h, List.mem_cons] at hx
      rcases hx with rfl | hx
      · omega
      · exact ih (u / 128) (by omega) x hx
theorem numBytes_l0 (n : Nat) : ∀ (k : Nat) (u : Nat) (acc : List Int), u < 128 ^ n → 0 < n → n < k → acc.length + n ≤ 140737488355000 → impl_numBytes.l0 k (u : Int) acc = some (acc ++ enc u) := by
  induction n with
  | zero => intro k u acc _ h; omega
  | succ n ih =>
    intro k u acc hu _ hk hl
    obtain ⟨k, rfl⟩ : ∃ j, k = j + 1 := ⟨k - 1, by omega⟩
    simp only [impl_numBytes.l0]
    by_cases h : u < 128
    · rw [if_neg (by omega), if_pos (by omega), enc_small h]
      congr 2
      rw [Int.emod_eq_of_lt (by omega) (by omega)]
    · have hn : 0 < n := by
        rcases Nat.eq_zero_or_pos n with h0 | h0
        · subst h0; simp at hu; omega
        · exact h0
      rw [if_pos (by omega), if_pos (by omega), or128 (by omega) (by omega), enc_big h]
      have := ih k (u / 128) (acc ++ [((u % 128 + 128 : Nat) : Int)]) (by rw [Nat.div_lt_iff_lt_mul (by decide)]; rw [Nat.pow_succ] at hu; exact hu) hn (by omega) (by simp; omega)
      rw [List.append_assoc, List.singleton_append] at this
      rw [← this]
      congr 2
      congr 1
      omega
theorem numBytes {n : Int} (h0 : -9223372036854775808 ≤ n) (h1 : n ≤ 9223372036854775807) {k : Nat} (hk : 20 ≤ k) : impl_numBytes.f k n = some (enc (zig n).toNat) := by
  have z := zig_range h0 h1
  have e : Go.bits .xor .u64 (IntKind.u64.wrap ((IntKind.u64.wrap (n)) * 2)) (IntKind.u64.wrap (n / 9223372036854775808)) = ((zig n).toNat : Int) := by
    rw [Int.toNat_of_nonneg z.1]
    have w : ∀ x : Int, IntKind.u64.wrap x = x % 18446744073709551616 := fun x => by simp [IntKind.wrap, IntKind.signed, IntKind.bits]
    by_cases hn : n < 0
    · have a : IntKind.u64.wrap (n / 9223372036854775808) = 18446744073709551615 := by rw [w]; omega
      have b : IntKind.u64.wrap ((IntKind.u64.wrap (n)) * 2) = 2 * n + 18446744073709551616 := by rw [w, w]; omega
      rw [a, b, xor_u1 (by omega) (by omega)]
      unfold zig
      rw [if_pos hn]
      omega
    · have a : IntKind.u64.wrap (n / 9223372036854775808) = 0 := by rw [w]; omega
      have b : IntKind.u64.wrap ((IntKind.u64.wrap (n)) * 2) = 2 * n := by rw [w, w]; omega
      rw [a, b, xor_u0 (by omega) (by omega)]
      unfold zig
      rw [if_neg hn]
  unfold impl_numBytes.f
  rw [e]
  have hp : (128 : Nat) ^ 10 = 1180591620717411303424 := by decide
  have := numBytes_l0 10 k (zig n).toNat [] (by omega) (by omega) (by omega) (by simp)
  simpa using this
theorem impl_putNum {n : Int} (h0 : -9223372036854775808 ≤ n) (h1 : n ≤ 9223372036854775807) {k : Nat} (hk : 20 ≤ k) : impl_PutNum.f k n = some (strOfNums (enc (zig n).toNat)) := by
  unfold impl_PutNum.f
  rw [numBytes h0 h1 hk]
  rfl
theorem spec_putNum_l0 (n : Nat) : ∀ (k : Nat) (u : Nat) (acc : List Int), u < 128 ^ n → u < 18446744073709551616 → 0 < n → n < k → acc.length + n ≤ 140737488355000 → spec_PutNum.l0 k (u : Int) acc = some (strOfNums (acc ++ enc u)) := by
  induction n with
  | zero => intro k u acc _ _ h; omega
  | succ n ih =>
    intro k u acc hu hu2 _ hk hl
    obtain ⟨k, rfl⟩ : ∃ j, k = j + 1 := ⟨k - 1, by omega⟩
    simp only [spec_PutNum.l0]
    by_cases h : u < 128
    · rw [if_neg (by omega), if_pos (by omega), enc_small h]
      congr 3
      rw [Int.emod_eq_of_lt (by omega) (by omega)]
    · have hn : 0 < n := by
        rcases Nat.eq_zero_or_pos n with h0 | h0
        · subst h0; simp at hu; omega
        · exact h0
      rw [if_pos (by omega), if_pos (by omega), td (by omega), tm (by omega), u64_id (x := (u : Int) / 128) (by omega) (by omega), u64_id (x := (u : Int) % 128 + 128) (by omega) (by omega), enc_big h]
      have := ih k (u / 128) (acc ++ [((u % 128 + 128 : Nat) : Int)]) (by rw [Nat.div_lt_iff_lt_mul (by decide)]; rw [Nat.pow_succ] at hu; exact hu) (by omega) hn (by omega) (by simp; omega)
      rw [List.append_assoc, List.singleton_append] at this
      rw [← this]
      congr 2
      congr 1
      omega
theorem spec_putNum {n : Int} (h0 : -9223372036854775808 ≤ n) (h1 : n ≤ 9223372036854775807) {k : Nat} (hk : 20 ≤ k) : spec_PutNum.f k n = some (strOfNums (enc (zig n).toNat)) := by
  have z := zig_range h0 h1
  have e : spec_l01Fold.f n = some ((zig n).toNat : Int) := by
    rw [Int.toNat_of_nonneg z.1]
    unfold spec_l01Fold.f zig
    by_cases hn : n < 0
    · rw [if_pos hn, if_pos hn, wid (x := n + 1) (by omega) (by omega), wid (by omega) (by omega), u64_id (x := -(n + 1)) (by omega) (by omega), u64_id (x := 2 * -(n + 1)) (by omega) (by omega), u64_id (by omega) (by omega)]
      congr 1
      omega
    · rw [if_neg hn, if_neg hn, u64_id (x := n) (by omega) (by omega), u64_id (by omega) (by omega)]
  unfold spec_PutNum.f
  rw [e]
  simp only [Option.bind_some]
  have hp : (128 : Nat) ^ 10 = 1180591620717411303424 := by decide
  have := spec_putNum_l0 10 k (zig n).toNat [] (by omega) (by omega) (by omega) (by omega) (by simp)
  simpa using this
theorem str_size (l : List Int) : (strOfNums l).size = l.length := by simp [strOfNums, ByteArray.size]
theorem app_size (a b : ByteArray) : (a ++ b).size = a.size + b.size := ByteArray.size_append
/-- From place i on all bytes are 32 to 126. -/
def Shown (s : ByteArray) (i : Int) : Prop := ∀ j : Int, i ≤ j → j < s.size → 32 ≤ bt s j ∧ bt s j ≤ 126
theorem shown_end {s : ByteArray} {i : Int} (h : (s.size : Int) ≤ i) : Shown s i := fun j h1 h2 => by omega
theorem shown_next {s : ByteArray} {i : Int} (h : i < s.size) (a : ¬ bt s i < 32) (b : ¬ bt s i > 126) : Shown s i ↔ Shown s (i + 1) :=
  ⟨fun q j h1 h2 => q j (by omega) h2, fun q j h1 h2 => by
    by_cases e : j = i
    · subst e; omega
    · exact q j (by omega) h2⟩
open Classical in
theorem plain_l0 (s : ByteArray) (hs : s.size ≤ 140737488351232) (n : Nat) : ∀ (k : Nat) (i : Int), 0 ≤ i → i + n = s.size → n < k → spec_l01Plain.l0 k s i = some (decide (Shown s i)) := by
  induction n with
  | zero =>
    intro k i h0 e hk
    obtain ⟨k, rfl⟩ : ∃ j, k = j + 1 := ⟨k - 1, by omega⟩
    simp only [spec_l01Plain.l0]
    rw [if_neg (by omega), decide_eq_true (shown_end (by omega))]
  | succ n ih =>
    intro k i h0 e hk
    obtain ⟨k, rfl⟩ : ∃ j, k = j + 1 := ⟨k - 1, by omega⟩
    simp only [spec_l01Plain.l0]
    rw [if_pos (by omega), if_pos h0]
    by_cases a : bt s i < 32
    · rw [if_pos a, decide_eq_false (fun q => by have := q i (by omega) (by omega); omega)]
    rw [if_neg a]
    by_cases b : bt s i > 126
    · rw [if_pos b, decide_eq_false (fun q => by have := q i (by omega) (by omega); omega)]
    rw [if_neg b, wid (by omega) (by omega), ih k (i + 1) (by omega) (by omega) (by omega)]
    congr 1
    exact decide_eq_decide.2 (shown_next (by omega) a b).symm
open Classical in
theorem isShown_l0 (s : ByteArray) (hs : s.size ≤ 140737488351232) (n : Nat) : ∀ (k : Nat) (i : Int), 0 ≤ i → i + n = s.size → n < k → impl_isShown.l0 k s (s.size : Int) i = some (decide (Shown s i)) := by
  induction n with
  | zero =>
    intro k i h0 e hk
    obtain ⟨k, rfl⟩ : ∃ j, k = j + 1 := ⟨k - 1, by omega⟩
    simp only [impl_isShown.l0]
    rw [if_neg (by omega), decide_eq_true (shown_end (by omega))]
  | succ n ih =>
    intro k i h0 e hk
    obtain ⟨k, rfl⟩ : ∃ j, k = j + 1 := ⟨k - 1, by omega⟩
    simp only [impl_isShown.l0]
    rw [if_pos (by omega), if_pos h0, if_pos (by omega)]
    by_cases a : bt s i < 32
    · rw [if_pos a, decide_eq_false (fun q => by have := q i (by omega) (by omega); omega)]
    rw [if_neg a]
    by_cases b : bt s i > 126
    · rw [if_pos b, decide_eq_false (fun q => by have := q i (by omega) (by omega); omega)]
    rw [if_neg b, wid (by omega) (by omega), ih k (i + 1) (by omega) (by omega) (by omega)]
    congr 1
    exact decide_eq_decide.2 (shown_next (by omega) a b).symm
open Classical in
theorem plain {s : ByteArray} (hs : s.size ≤ 140737488351232) {k : Nat} (hk : s.size < k) : spec_l01Plain.f k s = some (decide (Shown s 0)) := by
  unfold spec_l01Plain.f
  exact plain_l0 s hs s.size k 0 (Int.le_refl 0) (by omega) hk
open Classical in
theorem isShown {s : ByteArray} (hs : s.size ≤ 140737488351232) {k : Nat} (hk : s.size < k) : impl_isShown.f k s = some (decide (Shown s 0)) := by
  unfold impl_isShown.f
  exact isShown_l0 s hs s.size k 0 (Int.le_refl 0) (by omega) hk
/-- Can a text be put? -/
def Puts (s : ByteArray) : Prop := s.size ≤ 200 ∧ Shown s 0
/-- A text as it is put. -/
def put (s : ByteArray) : ByteArray := strOfNums (enc (zig s.size).toNat) ++ s
open Classical in
theorem impl_put {s : ByteArray} (h : Puts s) {k : Nat} (hk : 300 ≤ k) : impl_PutText.f k s = some (put s) := by
  have hl := h.1
  unfold impl_PutText.f
  rw [if_neg (by omega), isShown (by omega) (by omega), decide_eq_true h.2]
  simp only [Option.bind_some, if_true]
  rw [impl_putNum (by omega) (by omega) (by omega)]
  simp only [Option.bind_some]
  have z := zig_range (n := (s.size : Int)) (by omega) (by omega)
  have hp10 : (128 : Nat) ^ 10 = 1180591620717411303424 := by decide
  have := enc_len 10 (zig (s.size : Int)).toNat (by omega) (by omega)
  rw [if_pos (by rw [str_size]; omega)]
  rfl
open Classical in
theorem impl_put_no {s : ByteArray} (h : ¬ Puts s) (hs : s.size ≤ 140737488351232) {k : Nat} (hk : 300 ≤ k) : impl_PutText.f k s = some (⟨#[]⟩ : ByteArray) := by
  unfold impl_PutText.f
  by_cases hl : (s.size : Int) > 200
  · rw [if_pos hl]
  · rw [if_neg hl, isShown (by omega) (by omega), decide_eq_false (fun q => h ⟨by omega, q⟩)]
    simp
open Classical in
theorem spec_put {s : ByteArray} (h : Puts s) {k : Nat} (hk : 300 ≤ k) : spec_PutText.f k s = some (put s) := by
  have hl := h.1
  unfold spec_PutText.f
  rw [if_neg (by omega), plain (by omega) (by omega), decide_eq_true h.2]
  simp only [Option.bind_some, if_true]
  rw [spec_putNum (by omega) (by omega) (by omega)]
  simp only [Option.bind_some]
  have z := zig_range (n := (s.size : Int)) (by omega) (by omega)
  have hp10 : (128 : Nat) ^ 10 = 1180591620717411303424 := by decide
  have := enc_len 10 (zig (s.size : Int)).toNat (by omega) (by omega)
  rw [if_pos (by rw [str_size]; omega)]
  rfl
open Classical in
theorem spec_put_no {s : ByteArray} (h : ¬ Puts s) (hs : s.size ≤ 140737488351232) {k : Nat} (hk : 300 ≤ k) : spec_PutText.f k s = some (⟨#[]⟩ : ByteArray) := by
  unfold spec_PutText.f
  by_cases hl : (s.size : Int) > 200
  · rw [if_pos hl]
  · rw [if_neg hl, plain (by omega) (by omega), decide_eq_false (fun q => h ⟨by omega, q⟩)]
    simp
theorem head_len {n : Int} (h0 : 0 ≤ n) (h1 : n ≤ 200) : 1 ≤ (enc (zig n).toNat).length ∧ (enc (zig n).toNat).length ≤ 2 := by
  have e : (zig n).toNat < 128 ^ 2 := by
    have : (128 : Nat) ^ 2 = 16384 := by decide
    unfold zig
    rw [if_neg (by omega)]
    omega
  have := enc_len 2 (zig n).toNat e (by omega)
  omega
theorem put_size {s : ByteArray} (h : Puts s) : (put s).size = (enc (zig s.size).toNat).length + s.size := by
  unfold put
  rw [app_size, str_size]
theorem put_small {s : ByteArray} (h : Puts s) : s.size + 1 ≤ (put s).size ∧ (put s).size ≤ s.size + 2 := by
  have := head_len (n := (s.size : Int)) (by omega) (by have := h.1; omega)
  rw [put_size h]
  omega

theorem son_app (a b : List Int) : strOfNums (a ++ b) = strOfNums a ++ strOfNums b := by
  apply ByteArray.ext
  apply Array.ext'
  simp [strOfNums, ByteArray.data_append]
theorem son_bytes (t : ByteArray) : strOfNums (bytesOf t) = t := by
  apply ByteArray.ext
  apply Array.ext'
  simp [strOfNums, bytesOf, Function.comp_def]
/-- What both put of a text. -/
theorem put_both {s : ByteArray} (hs : s.size ≤ 1048576) : ∃ p : ByteArray, p.size ≤ 202 ∧ ∀ k, 300 ≤ k → impl_PutText.f k s = some p ∧ spec_PutText.f k s = some p := by
  by_cases h : Puts s
  · have a := put_small h
    have b := h.1
    exact ⟨put s, by omega, fun k hk => ⟨impl_put h hk, spec_put h hk⟩⟩
  · exact ⟨⟨#[]⟩, by decide, fun k hk => ⟨impl_put_no h (by omega) hk, spec_put_no h (by omega) hk⟩⟩
def nb (n : Int) : List Int := enc (zig n).toNat
theorem num_len {n : Int} (h0 : -9223372036854775808 ≤ n) (h1 : n ≤ 9223372036854775807) : (nb n).length ≤ 10 := by
  have z := zig_range h0 h1
  have hp10 : (128 : Nat) ^ 10 = 1180591620717411303424 := by decide
  exact (enc_len 10 (zig n).toNat (by omega) (by omega)).1
end Go.Proofs.YtipkfflcdomheaaDoor.EvText
