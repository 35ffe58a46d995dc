/- Plain laws: a number is got back from its bytes, wherever they stand; no condition beyond each lemma's own. -/
import Derived.Test.YtahkejppfhonhaaVarint
import Derived.Test.YtahkejppfhonhaaS0
import Derived.Test.YtahkejppfhonhaaS7
namespace Go.Proofs.Ytahkejppfhonhaa.Varint
open Go.RowKit Go.Proofs.Ytahkejppfhonhaa.S Go.Proofs.YtahkejppfhonhaaW.PrintWords Go.Proofs.YtahkejppfhonhaaW.PrintMore Go.Proofs.Ytahkejppfhonhaa.Cal Go.Proofs.Ytahkejppfhonhaa.Draws
set_option linter.unusedVariables false
set_option linter.unusedSimpArgs false

/-! bytes of texts -/
theorem str_size (l : List Int) : (strOfNums l).size = l.length := by simp [strOfNums, ByteArray.size]
theorem bt_str {l : List Int} (h : ∀ x ∈ l, 0 ≤ x ∧ x < 256) {j : Nat} {x : Int} (hj : l[j]? = some x) : bt (strOfNums l) (j : Int) = x := by
  have hl : j < l.length := (List.getElem?_eq_some_iff.1 hj).1
  have hx : l[j] = x := (List.getElem?_eq_some_iff.1 hj).2
  have hr := h x (hx ▸ List.getElem_mem hl)
  have hs : (j : Int).toNat < (strOfNums l).size := by rw [str_size]; omega
  unfold bt
  rw [dif_pos hs]
  have e : (strOfNums l)[(j : Int).toNat]'hs = UInt8.ofNat x.toNat := by
    show (strOfNums l).data[(j : Int).toNat]'_ = _
    simp [strOfNums, hx]
  rw [e]
  simp
  omega
theorem app_size (a b : ByteArray) : (a ++ b).size = a.size + b.size := ByteArray.size_append
theorem bt_left {a b : ByteArray} {i : Int} (h0 : 0 ≤ i) (h : i < (a.size : Int)) : bt (a ++ b) i = bt a i := by
  have h1 : i.toNat < a.size := by omega
  have h2 : i.toNat < (a ++ b).size := by rw [app_size]; omega
  unfold bt
  rw [dif_pos h1, dif_pos h2]
  congr 1
  congr 1
  exact ByteArray.getElem_append_left h1
theorem bt_right {a b : ByteArray} {i : Int} (h0 : 0 ≤ i) : bt (a ++ b) ((a.size : Int) + i) = bt b i := by
  unfold bt
  have e : ((a.size : Int) + i).toNat = a.size + i.toNat := by omega
  rw [e]
  by_cases h : i.toNat < b.size
  · have h2 : a.size + i.toNat < (a ++ b).size := by rw [app_size]; omega
    rw [dif_pos h, dif_pos h2]
    congr 1
    congr 1
    rw [ByteArray.getElem_append_right (by omega)]
    congr 1
    omega
  · have h2 : ¬ a.size + i.toNat < (a ++ b).size := by rw [app_size]; omega
    rw [dif_neg h, dif_neg h2]
/-- Such numbers stand at a place of a text. -/
structure At (s : ByteArray) (p : Int) (l : List Int) : Prop where
  get : ∀ (j : Nat) (x : Int), l[j]? = some x → bt s (p + j) = x
  fit : p + l.length ≤ s.size
theorem At.tail {s : ByteArray} {p : Int} {a : Int} {l : List Int} (h : At s p (a :: l)) : At s (p + 1) l :=
  ⟨fun j x hj => by
    have := h.get (j + 1) x (by simpa using hj)
    rw [← this]
    congr 1
    omega, by have := h.fit; simp at this; omega⟩
theorem At.head {s : ByteArray} {p : Int} {a : Int} {l : List Int} (h : At s p (a :: l)) : bt s p = a := by
  have := h.get 0 a rfl
  simpa using this
theorem at_left {l : List Int} (h : ∀ x ∈ l, 0 ≤ x ∧ x < 256) (b : ByteArray) : At (strOfNums l ++ b) 0 l :=
  ⟨fun j x hj => by
    have hl : j < l.length := (List.getElem?_eq_some_iff.1 hj).1
    rw [Int.zero_add, bt_left (by omega) (by rw [str_size]; omega), bt_str h hj], by rw [app_size, str_size]; omega⟩
theorem At.shift {s : ByteArray} {p : Int} {l : List Int} (a : ByteArray) (hp : 0 ≤ p) (h : At s p l) : At (a ++ s) ((a.size : Int) + p) l :=
  ⟨fun j x hj => by
    rw [Int.add_assoc, bt_right (by omega), h.get j x hj], by rw [app_size]; have := h.fit; omega⟩
theorem At.more {s : ByteArray} {p : Int} {l : List Int} (b : ByteArray) (hp : 0 ≤ p) (h : At s p l) : At (s ++ b) p l :=
  ⟨fun j x hj => by
    have hl : j < l.length := (List.getElem?_eq_some_iff.1 hj).1
    have := h.fit
    rw [bt_left (by omega) (by omega), h.get j x hj], by rw [app_size]; have := h.fit; omega⟩

/-! the number that is told -/
theorem told {u : Int} (h0 : 0 ≤ u) (h1 : u < 18446744073709551616) :
    Go.bits .xor .i64 (wrap64 (u / 2)) (wrap64 (-(wrap64 (Go.bits .and .u64 u 1)))) = unzig u := by
  rw [and1 h0 h1, wid (x := u / 2) (by omega) (by omega), wid (x := u % 2) (by omega) (by omega), wid (x := -(u % 2)) (by omega) (by omega)]
  unfold unzig
  by_cases h : u % 2 = 0
  · rw [if_pos h, h, Int.neg_zero, xor_i0 (by omega) (by omega)]
  · rw [if_neg h, show u % 2 = 1 by omega, xor_i1 (by omega) (by omega)]
theorem pow_le {j : Nat} (h : j ≤ 9) : (1 : Int) ≤ 2 ^ (7 * j) := by
  have : (1 : Nat) ≤ 2 ^ (7 * j) := Nat.one_le_two_pow
  exact_mod_cast this
theorem pow_next (j : Nat) : (2 : Int) ^ (7 * (j + 1)) = 2 ^ (7 * j) * 128 := by
  rw [show 7 * (j + 1) = 7 * j + 7 by omega, Int.pow_add]
  rfl
theorem shifted {A d : Int} {j : Nat} (hj : j ≤ 9) (a0 : 0 ≤ A) (a1 : A < 2 ^ (7 * j)) (d0 : 0 ≤ d) (d1 : d < 256) (hd : A + (d % 128) * 2 ^ (7 * j) < 18446744073709551616) :
    Go.bits .or .u64 A (shl .u64 (IntKind.u64.wrap (Go.bits .and .u8 d 127)) (wrap64 (7 * (j : Int)))) = A + (d % 128) * 2 ^ (7 * j) := by
  have p1 := pow_le hj
  have hm : 0 ≤ (d % 128) * (2 : Int) ^ (7 * j) := Int.mul_nonneg (by omega) (by omega)
  have e : shl .u64 (IntKind.u64.wrap (Go.bits .and .u8 d 127)) (wrap64 (7 * (j : Int))) = (d % 128) * 2 ^ (7 * j) := by
    rw [and127 d0 d1, u64_id (x := d % 128) (by omega) (by omega), wid (by omega) (by omega)]
    unfold shl
    have e1 : (7 * (j : Int)).toNat = 7 * j := by omega
    have e2 : min (7 * j) IntKind.u64.bits = 7 * j := Nat.min_eq_left (by show 7 * j ≤ 64; omega)
    rw [e1, e2]
    exact u64_id hm (by omega)
  rw [e]
  exact or_join (7 * j) (by omega) a0 a1 hm (Int.mul_emod_left _ _) (by omega)
theorem getNum_loop (s : ByteArray) (hs : s.size ≤ 140737488351232) {p : Int} (hp : 0 ≤ p) (n : Nat) : ∀ (k w j : Nat) (A : Int), (enc w).length ≤ n → 2 * n < k → j + (enc w).length ≤ 10 → 0 ≤ A → A < 2 ^ (7 * j) →
    A + (w : Int) * 2 ^ (7 * j) < 18446744073709551616 → (0 < j → w ≠ 0) → At s (p + j) (enc w) →
    impl_getNum.l0 k s p A j = some (unzig (A + (w : Int) * 2 ^ (7 * j)), p + j + (enc w).length, 0) := by
  induction n with
  | zero =>
    intro k w j A hl
    have := (enc_len (w + 1) w (by
      have : w < 2 ^ w := Nat.lt_two_pow_self
      have h2 : 2 ^ w ≤ 128 ^ w := Nat.pow_le_pow_left (by decide) w
      have h3 : 128 ^ w ≤ 128 ^ (w + 1) := Nat.pow_le_pow_right (by decide) (by omega)
      omega) (by omega)).2
    omega
  | succ n ih =>
    intro k w j A hl hk hj a0 a1 hu hz hat
    have p1 := pow_le (j := j) (by
      have : 1 ≤ (enc w).length := by
        by_cases h : w < 128
        · rw [enc_small h]; simp
        · rw [enc_big h]; simp
      omega)
    have lenp : 1 ≤ (enc w).length := by
      by_cases h : w < 128
      · rw [enc_small h]; simp
      · rw [enc_big h]; simp
    have hfit := hat.fit
    obtain ⟨k, rfl⟩ : ∃ i, k = i + 2 := ⟨k - 2, by omega⟩
    have d0 : ∃ c : Int, bt s (p + j) = c ∧ 0 ≤ c ∧ c < 256 ∧ c % 128 = (w : Int) % 128 ∧ (c < 128 ↔ w < 128) ∧ (0 < j → c ≠ 0) ∧ (j = 9 → c ≤ 1) := by
      by_cases h : w < 128
      · refine ⟨w, ?_, by omega, by omega, rfl, by omega, fun hj0 => by have := hz hj0; omega, fun h9 => ?_⟩
        · rw [enc_small h] at hat
          exact hat.head
        · subst h9
          have : (2 : Int) ^ (7 * 9) = 9223372036854775808 := by decide
          rw [this] at hu
          omega
      · refine ⟨((w % 128 + 128 : Nat) : Int), ?_, by omega, by omega, by omega, by omega, fun _ => by omega, fun h9 => ?_⟩
        · rw [enc_big h] at hat
          exact hat.head
        · rw [enc_big h, List.length_cons] at hj
          have : 1 ≤ (enc (w / 128)).length := by
            by_cases h : w / 128 < 128
            · rw [enc_small h]; simp
            · rw [enc_big h]; simp
          omega
    obtain ⟨c, hc, c0, c1, cm, cl, cz, c9⟩ := d0
    have enter : impl_getNum.l0 (k + 2) s p A j = impl_getNum.j1 (k + 1) s p A j c false := by
      simp only [impl_getNum.l0]
      rw [if_pos (by omega), wid (x := (s.size : Int) - j) (by omega) (by omega), if_neg (by omega), wid (x := p + j) (by omega) (by omega), if_pos (by omega), if_pos (by omega), hc]
      have hb : 0 < j → (c == 0) = false := fun h => by simp [cz h]
      by_cases h9 : (j : Int) = 9
      · rw [if_pos h9, if_neg (by have := c9 (by omega); omega), if_pos (by omega), hb (by omega)]
      · rw [if_neg h9]
        by_cases h0 : (j : Int) > 0
        · rw [if_pos h0, hb (by omega)]
        · rw [if_neg h0]
    rw [enter]
    simp only [impl_getNum.j1]
    have dle : (c % 128) * (2 : Int) ^ (7 * j) ≤ (w : Int) * 2 ^ (7 * j) := Int.mul_le_mul_of_nonneg_right (by omega) (by omega)
    rw [if_neg (by decide), wid (x := 7 * (j : Int)) (by omega) (by omega), if_pos (by omega)]
    have sh := shifted (A := A) (d := c) (j := j) (by omega) a0 a1 c0 c1 (by omega)
    rw [wid (x := 7 * (j : Int)) (by omega) (by omega)] at sh
    rw [sh]
    by_cases h : w < 128
    · rw [if_pos (cl.2 h)]
      have e : c % 128 = (w : Int) := by omega
      have m0 : 0 ≤ (w : Int) * (2 : Int) ^ (7 * j) := Int.mul_nonneg (by omega) (by omega)
      rw [e, told (by omega) hu, wid (x := p + j) (by omega) (by omega), wid (by omega) (by omega), enc_small h]
      simp
    · rw [if_neg (fun q => h (cl.1 q)), wid (x := (j : Int) + 1) (by omega) (by omega)]
      have big := hat
      rw [enc_big h] at big hl hj
      rw [List.length_cons] at hl hj
      have hw : (w : Int) = 128 * ((w / 128 : Nat) : Int) + c % 128 := by omega
      have split : (w : Int) * 2 ^ (7 * j) = ((w / 128 : Nat) : Int) * 2 ^ (7 * (j + 1)) + (c % 128) * 2 ^ (7 * j) := by
        rw [pow_next]
        generalize (2 : Int) ^ (7 * j) = P
        rw [hw, Int.add_mul]
        congr 1
        rw [Int.mul_comm 128, Int.mul_assoc, Int.mul_comm 128 P]
      have top : (c % 128) * (2 : Int) ^ (7 * j) ≤ 127 * 2 ^ (7 * j) := Int.mul_le_mul_of_nonneg_right (by omega) (by omega)
      have m0 : 0 ≤ (c % 128) * (2 : Int) ^ (7 * j) := Int.mul_nonneg (by omega) (by omega)
      have := ih (k + 0) (w / 128) (j + 1) (A + (c % 128) * 2 ^ (7 * j)) (by omega) (by omega) (by omega) (by omega) (by rw [pow_next]; omega) (by omega) (fun _ => by omega) (by
        have := big.tail
        rw [show p + ((j + 1 : Nat) : Int) = p + j + 1 by omega]
        exact this)
      rw [Nat.add_zero] at this
      rw [show ((j : Int) + 1) = ((j + 1 : Nat) : Int) by omega, this, enc_big h, List.length_cons, split]
      congr 2
      · congr 1
        omega
      · congr 1
        omega
theorem getNum {s : ByteArray} (hs : s.size ≤ 140737488351232) {p : Int} (hp : 0 ≤ p) {n : Int} (h0 : -9223372036854775808 ≤ n) (h1 : n ≤ 9223372036854775807) (hat : At s p (enc (zig n).toNat)) {k : Nat} (hk : 30 ≤ k) :
    impl_getNum.f k s p = some (n, p + (enc (zig n).toNat).length, 0) := by
  have z := zig_range h0 h1
  have hp10 : (128 : Nat) ^ 10 = 1180591620717411303424 := by decide
  have hl := enc_len 10 (zig n).toNat (by omega) (by omega)
  unfold impl_getNum.f
  rw [if_neg (by omega)]
  have := getNum_loop s hs hp 10 k (zig n).toNat 0 0 hl.1 (by omega) (by omega) (Int.le_refl 0) (by decide) (by simp; omega) (fun h => absurd h (by decide)) (by simpa using hat)
  rw [show ((0 : Nat) : Int) = 0 from rfl] at this
  rw [this]
  congr 2
  · simp
    rw [Int.max_eq_left z.1]
    exact unzig_zig n
  · simp
end Go.Proofs.Ytahkejppfhonhaa.Varint
