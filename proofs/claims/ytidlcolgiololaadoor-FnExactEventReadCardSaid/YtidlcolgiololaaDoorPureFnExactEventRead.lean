/- Proved: the program's EventRead answers as the reference's does, at every text, and its numbers are its own; no condition. -/
import Derived.Test.YtidlcolgiololaaDoorS0
import Derived.Lib.SlTrimSet
import Derived.Test.YtidlcolgiololaaDoorS14
import Derived.Test.YtidlcolgiololaaDoorS5
import Derived.Test.YtidlcolgiololaaDoorS19
import Derived.Test.YtidlcolgiololaaDoorS12
import Derived.Test.YtidlcolgiololaaDoorS15
import Derived.Test.YtidlcolgiololaaDoorS6
import Derived.Laws.BitsLemmas
import Derived.Test.YtidlcolgiololaaDoorS16
import Derived.Test.YtidlcolgiololaaDoorS3
import Derived.Test.YtidlcolgiololaaDoorS7
import Derived.Test.YtidlcolgiololaaDoorS17
import Derived.Test.YtidlcolgiololaaDoorS8
import Derived.Test.YtidlcolgiololaaDoorS1
import Derived.Test.YtidlcolgiololaaDoorS10
import Derived.Test.YtidlcolgiololaaDoorS11
import Derived.Test.YtidlcolgiololaaDoorS13
import Derived.Test.YtidlcolgiololaaDoorS18
import Derived.Test.YtidlcolgiololaaDoorS2
import Derived.Test.YtidlcolgiololaaDoorS4
import Derived.Test.YtidlcolgiololaaDoorS9
import Derived.Test.YtidlcolgiololaaDoorStmFnExactEventRead
import Derived.Test.YtidlcolgiololaaDoorS20
namespace Go.Proofs.YtidlcolgiololaaDoor.Cal
open Go.RowKit Go.Proofs.YtidlcolgiololaaDoorW.PrintWords
set_option linter.unusedVariables false

/-! steps: a call's answer, a test -/
theorem bnd {α β : Type} {o : Option α} {a : α} {f : α → Option β} {r : Option β} (h : o = some a) (k : f a = r) : o.bind f = r := by
  rw [h]
  exact k
theorem yes {α : Type} {c : Prop} [Decidable c] {x y r : α} (h : c) (k : x = r) : (if c then x else y) = r := by
  rw [if_pos h]
  exact k
theorem no {α : Type} {c : Prop} [Decidable c] {x y r : α} (h : ¬ c) (k : y = r) : (if c then x else y) = r := by
  rw [if_neg h]
  exact k
theorem wid {x : Int} (h : -9223372036854775808 ≤ x) (h' : x ≤ 9223372036854775807) : wrap64 x = x := by
  unfold wrap64
  omega
theorem td {a b : Int} (h : 0 ≤ a) : Int.tdiv a b = a / b := Int.tdiv_eq_ediv_of_nonneg h
theorem tm {a b : Int} (h : 0 ≤ a) : Int.tmod a b = a % b := Int.tmod_eq_emod_of_nonneg h

def lp (y : Int) : Int := if y % 4 = 0 then 1 else 0
theorem lp01 (y : Int) : 0 ≤ lp y ∧ lp y ≤ 1 := by
  unfold lp
  split <;> omega
def mlen (y m : Int) : Int :=
  if m = 2 then 28 + lp y else if m = 4 then 30 else if m = 6 then 30 else if m = 9 then 30 else if m = 11 then 30 else 31
/-- The days of a year ahead of a month. -/
def cum (y m : Int) : Int :=
  if m = 1 then 0 else if m = 2 then 31 else if m = 3 then 59 + lp y else if m = 4 then 90 + lp y else if m = 5 then 120 + lp y else if m = 6 then 151 + lp y
  else if m = 7 then 181 + lp y else if m = 8 then 212 + lp y else if m = 9 then 243 + lp y else if m = 10 then 273 + lp y else if m = 11 then 304 + lp y
  else if m = 12 then 334 + lp y else 365 + lp y
def hd (y : Int) : Int := 365 * (y - 2000) + (y - 2000 + 3) / 4
theorem months {m : Int} (h0 : 1 ≤ m) (h1 : m ≤ 12) : m = 1 ∨ m = 2 ∨ m = 3 ∨ m = 4 ∨ m = 5 ∨ m = 6 ∨ m = 7 ∨ m = 8 ∨ m = 9 ∨ m = 10 ∨ m = 11 ∨ m = 12 := by omega
theorem cum_succ (y : Int) {m : Int} (h0 : 1 ≤ m) (h1 : m ≤ 12) : cum y (m + 1) = cum y m + mlen y m := by
  rcases months h0 h1 with rfl | rfl | rfl | rfl | rfl | rfl | rfl | rfl | rfl | rfl | rfl | rfl <;> simp [cum, mlen] <;> omega
theorem rng_ite {c : Prop} [Decidable c] {a b lo hi : Int} (h : lo ≤ a ∧ a ≤ hi) (k : lo ≤ b ∧ b ≤ hi) : lo ≤ (if c then a else b) ∧ (if c then a else b) ≤ hi := by
  split
  · exact h
  · exact k
theorem mlen_range (y m : Int) : 28 ≤ mlen y m ∧ mlen y m ≤ 31 := by
  have := lp01 y
  unfold mlen
  repeat' (refine rng_ite ?_ ?_)
  all_goals omega
theorem cum_range (y m : Int) : 0 ≤ cum y m ∧ cum y m ≤ 366 := by
  have := lp01 y
  unfold cum
  repeat' (refine rng_ite ?_ ?_)
  all_goals omega
theorem cum_13 (y : Int) : cum y 13 = 365 + lp y := by simp [cum]
theorem cum_1 (y : Int) : cum y 1 = 0 := by simp [cum]
theorem cum_mono (y : Int) {a b : Int} (h0 : 1 ≤ a) (hab : a ≤ b) (h1 : b ≤ 13) : cum y a ≤ cum y b := by
  obtain ⟨n, hn⟩ : ∃ n : Nat, b = a + n := ⟨(b - a).toNat, by omega⟩
  subst hn
  induction n with
  | zero => simp
  | succ n ih =>
    have e := cum_succ y (m := a + n) (by omega) (by omega)
    have r := mlen_range y (a + n)
    have i := ih (by omega) (by omega)
    have e2 : a + ((n + 1 : Nat) : Int) = a + n + 1 := by omega
    rw [e2, e]
    omega
theorem hd_succ {y : Int} (h : 2000 ≤ y) : hd (y + 1) = hd y + 365 + lp y := by
  unfold hd lp
  split <;> omega
theorem hd_mono {a b : Int} (h0 : 2000 ≤ a) (hab : a ≤ b) : hd a ≤ hd b := by
  unfold hd
  omega
theorem hd_lt {a b : Int} (h0 : 2000 ≤ a) (hab : a < b) : hd a + 365 ≤ hd b := by
  unfold hd
  omega
theorem hd_range {y : Int} (h0 : 2000 ≤ y) (h1 : y ≤ 2100) : 0 ≤ hd y ∧ hd y ≤ 36525 := by
  unfold hd
  omega
structure Valid (y m d : Int) : Prop where
  y0 : 2000 ≤ y
  y1 : y ≤ 2099
  m0 : 1 ≤ m
  m1 : m ≤ 12
  d0 : 1 ≤ d
  d1 : d ≤ mlen y m
def num (y m d : Int) : Int := hd y + cum y m + d - 1
theorem num_bounds {y m d : Int} (h : Valid y m d) : hd y ≤ num y m d ∧ num y m d < hd (y + 1) := by
  have := cum_succ y h.m0 h.m1
  have := cum_mono y (a := m + 1) (b := 13) (by have := h.m0; omega) (by have := h.m1; omega) (by omega)
  have := cum_13 y
  have := hd_succ h.y0
  have := cum_range y m
  have := h.d0
  have := h.d1
  unfold num
  omega
theorem num_range {y m d : Int} (h : Valid y m d) : 0 ≤ num y m d ∧ num y m d ≤ 36524 := by
  have a := num_bounds h
  have b := hd_range (y := y) h.y0 (by have := h.y1; omega)
  have c := hd_mono (a := y + 1) (b := 2100) (by have := h.y0; omega) (by have := h.y1; omega)
  have d : hd 2100 = 36525 := by decide
  omega
theorem d_le {y m d : Int} (h : Valid y m d) : d ≤ 31 := by
  have := mlen_range y m
  have := h.d1
  omega
/-- Each day has a date. -/
theorem month_of (y r : Int) (h0 : 0 ≤ r) (h1 : r < 365 + lp y) : ∃ m d, 1 ≤ m ∧ m ≤ 12 ∧ 1 ≤ d ∧ d ≤ mlen y m ∧ r = cum y m + d - 1 := by
  have key : ∀ n : Nat, n ≤ 12 → r < cum y (n + 1) → ∃ m d, 1 ≤ m ∧ m ≤ 12 ∧ 1 ≤ d ∧ d ≤ mlen y m ∧ r = cum y m + d - 1 := by
    intro n
    induction n with
    | zero =>
      intro _ h
      rw [show ((0 : Nat) : Int) + 1 = 1 from rfl, cum_1] at h
      omega
    | succ n ih =>
      intro hn h
      by_cases c : r < cum y (n + 1)
      · exact ih (by omega) c
      · have e := cum_succ y (m := (n : Int) + 1) (by omega) (by omega)
        refine ⟨(n : Int) + 1, r - cum y (n + 1) + 1, by omega, by omega, by omega, ?_, by omega⟩
        have e2 : ((n + 1 : Nat) : Int) + 1 = (n : Int) + 1 + 1 := by omega
        rw [e2, e] at h
        omega
  have h12 := key 12 (by omega)
  rw [show ((12 : Nat) : Int) + 1 = 13 from rfl, cum_13] at h12
  exact h12 h1
theorem date_of (day : Int) (h0 : 0 ≤ day) (h1 : day ≤ 36524) : ∃ y m d, Valid y m d ∧ day = num y m d := by
  have hy : ∃ y, 2000 ≤ y ∧ y ≤ 2099 ∧ hd y ≤ day ∧ day < hd (y + 1) := by
    refine ⟨2000 + 4 * (day / 1461) + (if day % 1461 < 366 then 0 else 1 + (day % 1461 - 366) / 365), ?_⟩
    unfold hd
    split <;> omega
  obtain ⟨y, hy0, hy1, a, b⟩ := hy
  rw [hd_succ hy0] at b
  obtain ⟨m, d, m0, m1, d0, d1, e⟩ := month_of y (day - hd y) (by omega) (by omega)
  exact ⟨y, m, d, ⟨hy0, hy1, m0, m1, d0, d1⟩, by unfold num; omega⟩
/-- A later date is a greater number. -/
theorem num_lt {y m d y' m' d' : Int} (h : Valid y m d) (h' : Valid y' m' d') (hlt : 12 * y + m < 12 * y' + m') : num y m d < num y' m' d' := by
  have a := num_bounds h
  have b := num_bounds h'
  by_cases c : y < y'
  · have := hd_mono (a := y + 1) (b := y') (by have := h.y0; omega) (by omega)
    omega
  · have e : y = y' := by
      have := h.m0; have := h'.m1; omega
    subst e
    have e := cum_succ y h.m0 h.m1
    have f := cum_mono y (a := m + 1) (b := m') (by have := h.m0; omega) (by omega) (by have := h'.m1; omega)
    have := h.d1
    have := h'.d0
    unfold num
    omega
theorem num_inj {y m d y' m' d' : Int} (h : Valid y m d) (h' : Valid y' m' d') (e : num y m d = num y' m' d') : y = y' ∧ m = m' ∧ d = d' := by
  have a : ¬ 12 * y + m < 12 * y' + m' := fun c => by have := num_lt h h' c; omega
  have b : ¬ 12 * y' + m' < 12 * y + m := fun c => by have := num_lt h' h c; omega
  have := h.m0; have := h.m1; have := h'.m0; have := h'.m1
  have hy : y = y' := by omega
  have hm : m = m' := by omega
  subst hy hm
  unfold num at e
  exact ⟨rfl, rfl, by omega⟩
end Go.Proofs.YtidlcolgiololaaDoor.Cal
namespace Go.Proofs.YtidlcolgiololaaDoor.DiskBase
open Go.RowKit Go.Proofs.YtidlcolgiololaaDoor.S Go.Proofs.YtidlcolgiololaaDoorW.PrintWords Go.Proofs.YtidlcolgiololaaDoor.Cal
set_option linter.unusedVariables false
set_option linter.unusedSimpArgs false

def tot : List ByteArray → Nat
  | [] => 0
  | x :: r => x.size + tot r
theorem tot_append : ∀ a b : List ByteArray, tot (a ++ b) = tot a + tot b
  | [], b => by simp [tot]
  | x :: r, b => by
    rw [List.cons_append, tot, tot, tot_append r b]
    omega
theorem tot_mem : ∀ {l : List ByteArray} {x : ByteArray}, x ∈ l → x.size ≤ tot l
  | y :: r, x, h => by
    rw [tot]
    rcases List.mem_cons.1 h with rfl | h
    · omega
    · have := tot_mem h
      omega
theorem rdo (pre tl : List ByteArray) (x : ByteArray) : rdOf ByteArray.empty (pre ++ x :: tl) (pre.length : Int) = x := by
  unfold rdOf
  rw [List.getD_eq_getElem?_getD, Int.toNat_natCast, List.getElem?_append_right (Nat.le_refl _), Nat.sub_self]
  rfl
theorem nxt {α : Type} (pre : List α) (x : α) (h : pre.length ≤ 100000000) : wrap64 ((pre.length : Int) + 1) = ((pre ++ [x]).length : Int) := by
  rw [wid (by omega) (by omega), List.length_append]
  rfl
theorem snoc {α : Type} (pre tl : List α) (x : α) : pre ++ x :: tl = (pre ++ [x]) ++ tl := by rw [List.append_assoc]; rfl
theorem dataList_inj {a b : ByteArray} (h : a.data.toList = b.data.toList) : a = b := by
  obtain ⟨⟨a⟩⟩ := a
  obtain ⟨⟨b⟩⟩ := b
  simp at h
  rw [h]
theorem toList_data (s : ByteArray) : s.toList = s.data.toList := Lib.toList_data s
theorem toList_ne {s : ByteArray} : s.toList = ([] : List UInt8) ↔ s.size = 0 := by
  rw [toList_data]
  constructor
  · intro h
    have := congrArg List.length h
    rw [data_length] at this
    exact this
  · intro h
    apply List.eq_nil_of_length_eq_zero
    rw [data_length, h]

end Go.Proofs.YtidlcolgiololaaDoor.DiskBase
namespace Go.Proofs.YtidlcolgiololaaDoor.NameSame
open Go.RowKit Go.Proofs.YtidlcolgiololaaDoor.S Go.Proofs.YtidlcolgiololaaDoorW.PrintWords Go.Proofs.YtidlcolgiololaaDoor.Cal Go.Proofs.YtidlcolgiololaaDoor.DiskBase
set_option linter.unusedVariables false
set_option linter.unusedSimpArgs false

def letters : List UInt8 := [97, 98, 99, 100, 101, 102, 103, 104, 105, 106, 107, 108, 109, 110, 111, 112, 113, 114, 115, 116, 117, 118, 119, 120, 121, 122]
def signs : List UInt8 := [97, 98, 99, 100, 101, 102, 103, 104, 105, 106, 107, 108, 109, 110, 111, 112, 113, 114, 115, 116, 117, 118, 119, 120, 121, 122, 48, 49, 50, 51, 52, 53, 54, 55, 56, 57, 95]
def ok1 (b : UInt8) : Bool := decide (97 ≤ b.toNat ∧ b.toNat ≤ 122)
def ok2 (b : UInt8) : Bool := decide ((97 ≤ b.toNat ∧ b.toNat ≤ 122) ∨ (48 ≤ b.toNat ∧ b.toNat ≤ 57) ∨ b.toNat = 95)
theorem ok12 {b : UInt8} (h : ok1 b = true) : ok2 b = true := by
  unfold ok1 at h
  unfold ok2
  rw [decide_eq_true_eq] at h ⊢
  exact Or.inl h
theorem all_bytes {p : UInt8 → Bool} (h : ∀ n : Nat, n < 256 → p (UInt8.ofNat n) = true) (b : UInt8) : p b = true := by
  have := h b.toNat b.toNat_lt
  rwa [UInt8.ofNat_toNat] at this
theorem letters_ok (b : UInt8) : letters.contains b = ok1 b := by
  have := all_bytes (p := fun b => letters.contains b == ok1 b) (by decide +kernel) b
  exact beq_iff_eq.1 this
theorem signs_ok (b : UInt8) : signs.contains b = ok2 b := by
  have := all_bytes (p := fun b => signs.contains b == ok2 b) (by decide +kernel) b
  exact beq_iff_eq.1 this
theorem dw_all {p : UInt8 → Bool} : ∀ l : List UInt8, (l.dropWhile p).all p = true → l.all p = true
  | [], _ => rfl
  | x :: r, h => by
    cases hx : p x with
    | false =>
      rw [List.dropWhile_cons_of_neg (by simp [hx])] at h
      exact h
    | true =>
      rw [List.dropWhile_cons_of_pos hx] at h
      rw [List.all_cons, hx, dw_all r h]
      rfl
theorem dw_nil {p : UInt8 → Bool} : ∀ l : List UInt8, l.all p = true → l.dropWhile p = []
  | [], _ => rfl
  | x :: r, h => by
    rw [List.all_cons, Bool.and_eq_true] at h
    rw [List.dropWhile_cons_of_pos h.1]
    exact dw_nil r h.2
theorem trim_nil (l cs : List UInt8) : Lib.trimS l cs = [] ↔ l.all (fun b => cs.contains b) = true := by
  unfold Lib.trimS Lib.trimLeftS Lib.trimRightS
  constructor
  · intro h
    have h1 := dw_all (p := fun b => cs.contains b) ((l.reverse.dropWhile (fun b => cs.contains b)).reverse) (by rw [h]; rfl)
    rw [List.all_reverse] at h1
    have h2 := dw_all _ h1
    rwa [List.all_reverse] at h2
  · intro h
    have h1 : l.reverse.all (fun b => cs.contains b) = true := by rw [List.all_reverse]; exact h
    rw [dw_nil _ h1]
    rfl
/-- What both say of a text's bytes. -/
def nm : List UInt8 → Bool
  | [] => false
  | x :: r => decide (r.length ≤ 19) && (ok1 x && r.all ok2)
theorem nm_cons (x : UInt8) (r : List UInt8) : nm (x :: r) = (decide (r.length ≤ 19) && (ok1 x && r.all ok2)) := rfl
theorem size_data (s : ByteArray) : s.size = s.data.toList.length := by
  rw [Array.length_toList]
  rfl
theorem trim_val {s c : ByteArray} (h : s.size ≤ 1048576) (hc : c.size ≤ 100) (ha : (c.data.toList.all fun b => decide (b.toNat < 128)) = true) : strings_Trim.f s c = some ⟨(Lib.trimS s.data.toList c.data.toList).toArray⟩ := by
  unfold strings_Trim.f
  exact if_pos ⟨by omega, by omega, ha⟩
theorem impl_name {s : ByteArray} (h : s.size ≤ 1048576) : impl_NameRight.f s = some (nm s.data.toList) := by
  unfold impl_NameRight.f
  have hz := size_data s
  cases hl : s.data.toList with
  | nil =>
    rw [hl] at hz
    have hz' : s.size = 0 := hz
    refine yes (by omega) ?_
    refine bnd (a := false) ?_ rfl
    unfold impl_isWord.f
    exact yes (by rw [toList_data, hl]) rfl
  | cons x r =>
    rw [hl] at hz
    have hz' : s.size = r.length + 1 := hz
    by_cases c : r.length ≤ 19
    case neg =>
      refine no (by omega) ?_
      rw [nm_cons]
      rw [decide_eq_false c]
      rfl
    refine yes (by omega) ?_
    refine bnd (a := nm (x :: r)) ?_ rfl
    unfold impl_isWord.f
    refine no (by rw [toList_data, hl]; exact List.cons_ne_nil _ _) ?_
    refine yes (by omega) ?_
    refine yes (by omega) ?_
    have e1 : (s.extract 0 1).data.toList = [x] := by
      simp only [ByteArray.data_extract, Array.toList_extract, List.extract_eq_take_drop, hl]
      rfl
    have t1 := trim_val (s := s.extract 0 1) (c := ⟨#[97, 98, 99, 100, 101, 102, 103, 104, 105, 106, 107, 108, 109, 110, 111, 112, 113, 114, 115, 116, 117, 118, 119, 120, 121, 122]⟩) (by rw [size_data, e1]; simp) (by decide) (by decide)
    refine bnd t1 ?_
    rw [e1]
    have g1 := trim_nil [x] letters
    have e2 : [x].all (fun b => letters.contains b) = ok1 x := by rw [List.all_cons, letters_ok]; simp
    rw [e2] at g1
    have t2 := trim_val (s := s) (c := ⟨#[97, 98, 99, 100, 101, 102, 103, 104, 105, 106, 107, 108, 109, 110, 111, 112, 113, 114, 115, 116, 117, 118, 119, 120, 121, 122, 48, 49, 50, 51, 52, 53, 54, 55, 56, 57, 95]⟩) h (by decide) (by decide)
    have g2 := trim_nil (x :: r) signs
    have e3 : (x :: r).all (fun b => signs.contains b) = (x :: r).all ok2 := by congr 1; funext b; exact signs_ok b
    rw [e3] at g2
    by_cases o : ok1 x = true
    · refine yes (by rw [toList_data]; exact g1.2 o) ?_
      refine bnd t2 ?_
      rw [hl, toList_data]
      show some (Lib.trimS (x :: r) signs == []) = some (nm (x :: r))
      have v : nm (x :: r) = r.all ok2 := by
        rw [nm_cons]
        rw [decide_eq_true c, o]
        rfl
      rw [v]
      rw [List.all_cons, ok12 o, Bool.true_and] at g2
      cases w : r.all ok2 with
      | true => rw [beq_iff_eq.2 (g2.2 w)]
      | false =>
        have : ¬ Lib.trimS (x :: r) signs = [] := fun z => by rw [g2.1 z] at w; cases w
        rw [beq_eq_false_iff_ne.2 this]
    · refine no (by rw [toList_data]; exact fun z => o (g1.1 z)) ?_
      rw [nm_cons]
      have o' : ok1 x = false := by simpa using o
      rw [o', Bool.false_and, Bool.and_false]
theorem bt_pre {s : ByteArray} {pre r : List UInt8} {x : UInt8} (h : s.data.toList = pre ++ x :: r) : bt s (pre.length : Int) = (x.toNat : Int) := by
  unfold bt
  have hz := size_data s
  rw [h, List.length_append, List.length_cons] at hz
  rw [Int.toNat_natCast, dif_pos (by omega)]
  have e : s[pre.length]'(by omega) = x := by
    have : s[pre.length]'(by omega) = s.data.toList[pre.length]'(by rw [h]; simp) := rfl
    rw [this]
    simp [h]
  rw [e]
theorem j2_step {s : ByteArray} {k : Nat} {i : Int} (b : Bool) : spec_NameRight.j2 (k + 1) s i b = if b = true then some false else spec_NameRight.l0 k s (wrap64 (i + 1)) := by
  rw [spec_NameRight.j2]
theorem l0_at {s : ByteArray} {pre r : List UInt8} {x : UInt8} (h : s.data.toList = pre ++ x :: r) (hs : s.size ≤ 100) (k : Nat) : spec_NameRight.l0 (k + 2) s (pre.length : Int) = if (if pre = [] then ok1 x else ok2 x) = true then spec_NameRight.l0 k s ((pre ++ [x]).length : Int) else some false := by
  have hz := size_data s
  rw [h, List.length_append, List.length_cons] at hz
  have hw := nxt pre x (by omega)
  rw [spec_NameRight.l0, bt_pre h]
  refine yes (by omega) ?_
  refine yes (by omega) ?_
  simp only [j2_step, hw]
  unfold ok1 ok2
  rcases pre with _ | ⟨p, q⟩
  · simp only [List.length_nil]
    by_cases c1 : 97 ≤ x.toNat
    · by_cases c2 : x.toNat ≤ 122
      · rw [if_pos (by omega), if_pos (by omega)]
        simp [c1, c2]
      · rw [if_pos (by omega), if_neg (by omega)]
        simp [c1, c2]
    · rw [if_neg (by omega)]
      simp [c1]
  · have n0 : ¬ (((p :: q).length : Nat) : Int) = 0 := by simp; omega
    by_cases c1 : 97 ≤ x.toNat
    · by_cases c2 : x.toNat ≤ 122
      · rw [if_pos (by omega), if_pos (by omega)]
        simp [c1, c2]
      · rw [if_pos (by omega), if_neg (by omega), if_neg n0, if_pos (by omega), if_neg (by omega)]
        have a3 : ((x.toNat : Int) != 95) = true := by rw [bne_iff_ne]; omega
        have a4 : ¬ x.toNat ≤ 57 := by omega
        have a5 : ¬ x.toNat = 95 := by omega
        simp [c1, c2, a3, a4, a5]
    · rw [if_neg (by omega), if_neg n0]
      by_cases c3 : 48 ≤ x.toNat
      · by_cases c4 : x.toNat ≤ 57
        · rw [if_pos (by omega), if_pos (by omega)]
          simp [c3, c4]
        · rw [if_pos (by omega), if_neg (by omega)]
          by_cases c5 : x.toNat = 95
          · have a3 : ((x.toNat : Int) != 95) = false := by rw [bne_eq_false_iff_eq]; omega
            simp [c5, a3]
          · have a3 : ((x.toNat : Int) != 95) = true := by rw [bne_iff_ne]; omega
            simp [c1, c4, c5, a3]
      · rw [if_neg (by omega)]
        have c5 : ¬ x.toNat = 95 := by omega
        have a3 : ((x.toNat : Int) != 95) = true := by rw [bne_iff_ne]; omega
        simp [c1, c3, c5, a3]
theorem l0_rest {s : ByteArray} (hs : s.size ≤ 100) : ∀ (r pre : List UInt8), pre ≠ [] → s.data.toList = pre ++ r → ∀ k, 2 * r.length + 1 ≤ k → spec_NameRight.l0 k s (pre.length : Int) = some (r.all ok2) := by
  intro r
  induction r with
  | nil =>
    intro pre hp h k hk
    obtain ⟨j, rfl⟩ : ∃ j, k = j + 1 := ⟨k - 1, by omega⟩
    have hz := size_data s
    rw [h, List.append_nil] at hz
    rw [spec_NameRight.l0]
    exact no (by omega) rfl
  | cons x r ih =>
    intro pre hp h k hk
    rw [List.length_cons] at hk
    obtain ⟨j, rfl⟩ : ∃ j, k = j + 2 := ⟨k - 2, by omega⟩
    rw [l0_at h hs, if_neg hp, List.all_cons]
    cases o : ok2 x with
    | false => rfl
    | true =>
      rw [if_pos rfl, Bool.true_and]
      exact ih (pre ++ [x]) (by simp) (by rw [h, ← snoc]) j (by omega)
theorem spec_name {s : ByteArray} (h : s.size ≤ 1048576) {k : Nat} (hk : 100 ≤ k) : spec_NameRight.f k s = some (nm s.data.toList) := by
  obtain ⟨j, rfl⟩ : ∃ j, k = j + 1 := ⟨k - 1, by omega⟩
  unfold spec_NameRight.f
  have hz := size_data s
  cases hl : s.data.toList with
  | nil =>
    rw [hl] at hz
    have hz' : s.size = 0 := hz
    refine yes (by omega) ?_
    rw [spec_NameRight.j0]
    rfl
  | cons x r =>
    rw [hl] at hz
    have hz' : s.size = r.length + 1 := hz
    refine no (by omega) ?_
    rw [spec_NameRight.j0]
    by_cases c : r.length ≤ 19
    case neg =>
      refine yes (decide_eq_true (by omega)) ?_
      rw [nm_cons]
      rw [decide_eq_false c]
      rfl
    refine no (by rw [decide_eq_true_eq]; omega) ?_
    obtain ⟨i, rfl⟩ : ∃ i, j = i + 2 := ⟨j - 2, by omega⟩
    have e := l0_at (s := s) (pre := []) (r := r) (x := x) hl (by omega) i
    have e' : spec_NameRight.l0 (i + 2) s 0 = if (if ([] : List UInt8) = [] then ok1 x else ok2 x) = true then spec_NameRight.l0 i s ((([] : List UInt8) ++ [x]).length : Int) else some false := e
    rw [e', if_pos rfl]
    rw [nm_cons]
    rw [decide_eq_true c, Bool.true_and]
    cases o : ok1 x with
    | false => rfl
    | true =>
      rw [if_pos rfl, Bool.true_and]
      exact l0_rest (by omega) r ([] ++ [x]) (by simp) (by rw [hl]; rfl) i (by omega)
end Go.Proofs.YtidlcolgiololaaDoor.NameSame
namespace Go.Proofs.YtidlcolgiololaaDoor.EvNums
open Go.RowKit Go.Proofs.YtidlcolgiololaaDoor.S Go.Proofs.YtidlcolgiololaaDoorW.PrintWords Go.Proofs.YtidlcolgiololaaDoor.Cal Go.Proofs.YtidlcolgiololaaDoor.DiskBase
set_option linter.unusedVariables false
set_option linter.unusedSimpArgs false

theorem its {c : Prop} [Decidable c] {x : Option Bool} {b : Bool} (h : x = some b) : (if c then x else some false) = some (decide c && b) := by
  by_cases k : c
  · rw [if_pos k, h, decide_eq_true k, Bool.true_and]
  · rw [if_neg k, decide_eq_false k, Bool.false_and]
theorem itb {t : Bool} {x : Option Bool} {b : Bool} (h : x = some b) : (if t = true then x else some false) = some (t && b) := by
  cases t with
  | true => rw [if_pos rfl, h, Bool.true_and]
  | false => rw [if_neg (by simp), Bool.false_and]
theorem rd_pre (pre r : List Int) (x : Int) : rd (pre ++ x :: r) (pre.length : Int) = x := by
  unfold rd
  rw [List.getD_eq_getElem?_getD, Int.toNat_natCast, List.getElem?_append_right (Nat.le_refl _), Nat.sub_self]
  rfl
theorem set_pre (pre : List Int) (x : Int) (n : Nat) : (pre ++ List.replicate (n + 1) 0).set ((pre.length : Int)).toNat x = (pre ++ [x]) ++ List.replicate n 0 := by
  rw [Int.toNat_natCast, List.set_append_right _ _ (Nat.le_refl _), Nat.sub_self, List.replicate_succ, List.set_cons_zero, List.append_assoc]
  rfl
theorem eq_l0 : ∀ (rest pre : List Int), pre.length + rest.length ≤ 100000000 → ∀ k, rest.length + 1 ≤ k → laws_eqInt64S.l0 k (pre ++ rest) (pre ++ rest) (pre.length : Int) = some true := by
  intro rest
  induction rest with
  | nil =>
    intro pre h k hk
    obtain ⟨j, rfl⟩ : ∃ j, k = j + 1 := ⟨k - 1, by omega⟩
    rw [laws_eqInt64S.l0]
    exact no (by simp) rfl
  | cons x r ih =>
    intro pre h k hk
    rw [List.length_cons] at h hk
    obtain ⟨j, rfl⟩ : ∃ j, k = j + 1 := ⟨k - 1, by omega⟩
    have e3 := nxt pre x (by omega)
    rw [laws_eqInt64S.l0]
    refine yes (by rw [List.length_append, List.length_cons]; omega) ?_
    refine yes (by omega) ?_
    refine yes (by rw [List.length_append, List.length_cons]; omega) ?_
    refine yes rfl ?_
    rw [e3, snoc pre r x]
    exact ih (pre ++ [x]) (by rw [List.length_append, List.length_singleton]; omega) j (Nat.le_of_succ_le_succ hk)
theorem eq_ints {l : List Int} (h : l.length ≤ 1048577) {k : Nat} (hk : 2000000 ≤ k) : laws_eqInt64S.f k l l = some true := by
  unfold laws_eqInt64S.f
  refine yes rfl ?_
  exact eq_l0 l [] (by rw [List.length_nil]; omega) k (by omega)
theorem eq_event {K A D : Int} {I N P T : ByteArray} {l : List Int} (h : l.length ≤ 1048577) {k : Nat} (hk : 2000000 ≤ k) : laws_eqEvent.f k K I N P T l A D K I N P T l A D = some true := by
  unfold laws_eqEvent.f
  refine yes rfl ?_
  refine yes rfl ?_
  refine yes rfl ?_
  refine yes rfl ?_
  refine yes rfl ?_
  refine bnd (eq_ints h hk) ?_
  refine yes rfl ?_
  refine yes rfl ?_
  exact yes rfl rfl
end Go.Proofs.YtidlcolgiololaaDoor.EvNums
namespace Go.Proofs.YtidlcolgiololaaDoor.EvSame
open Go.RowKit Go.Proofs.YtidlcolgiololaaDoor.S Go.Proofs.YtidlcolgiololaaDoorW.PrintWords Go.Proofs.YtidlcolgiololaaDoor.Cal Go.Proofs.YtidlcolgiololaaDoor.DiskBase Go.Proofs.YtidlcolgiololaaDoor.NameSame Go.Proofs.YtidlcolgiololaaDoor.EvNums
set_option linter.unusedVariables false
set_option linter.unusedSimpArgs false

def money (x : Int) : Bool := decide (-1000000000000 ≤ x ∧ x ≤ 1000000000000)
theorem in_val (a b c : Int) : impl_in.f a b c = some (decide (b ≤ a ∧ a ≤ c)) := by
  unfold impl_in.f
  by_cases h : b ≤ a
  · rw [if_pos h]
    simp [h]
  · rw [if_neg h]
    simp [h]
theorem spec_money (a : Int) : spec_MoneyRight.f a = some (money a) := by
  unfold spec_MoneyRight.f money
  by_cases h : a ≥ (-1000000000000)
  · rw [if_pos h]
    have : (-1000000000000 ≤ a) := h
    simp [this]
  · rw [if_neg h]
    have : ¬ (-1000000000000 ≤ a) := h
    simp [this]
theorem emp : (⟨#[]⟩ : ByteArray).toList = ([] : List UInt8) := by rw [toList_data]
theorem same_nums {l : List Int} {k : Nat} (hk : 1 ≤ k) : spec_l13SameNums.f k [] l = some (decide (l.length = 0)) := by
  obtain ⟨j, rfl⟩ : ∃ j, k = j + 1 := ⟨k - 1, by omega⟩
  unfold spec_l13SameNums.f
  by_cases c : l.length = 0
  · refine yes (by rw [c]; rfl) ?_
    rw [spec_l13SameNums.l0, decide_eq_true c]
    exact no (by simp) rfl
  · refine no (by rw [List.length_nil]; omega) ?_
    rw [decide_eq_false c]
def eb (a b : ByteArray) : Bool := decide (a.toList = b.toList)
theorem same_ev (K A A' D D' : Int) (I N N' P P' T T' : ByteArray) (l : List Int) {k : Nat} (hk : 1 ≤ k) : spec_l13SameEvent.f k K I N P T [] A D K I N' P' T' l A' D' = some (eb N N' && (eb P P' && (eb T T' && (decide (A = A') && (decide (D = D') && decide (l.length = 0)))))) := by
  unfold spec_l13SameEvent.f
  refine yes rfl ?_
  refine yes rfl ?_
  refine its ?_
  refine its ?_
  refine its ?_
  refine its ?_
  refine its ?_
  exact bnd (same_nums hk) rfl
theorem spec_amount (K A D : Int) (I N P T : ByteArray) (l : List Int) : spec_l13Amount.f K I N P T l A D = some (decide (A ≥ 0) && money A) := by
  unfold spec_l13Amount.f
  refine its ?_
  exact bnd (spec_money A) rfl
theorem spec_nums (K A D : Int) {I N P T : ByteArray} (hN : N.size ≤ 1048576) (hP : P.size ≤ 1048576) : ∀ (rest pre : List Int), pre.length + rest.length ≤ 100000000 → ∀ k, rest.length + 200 ≤ k →
    spec_EventRight.l0 k (pre.length : Int) K I N P T (pre ++ rest) A D = some (rest.all money && (nm N.data.toList && (nm P.data.toList && (decide (((pre ++ rest).length : Int) ≤ 8) && ((decide (A ≥ 0) && money A) && (decide (T.toList = ([] : List UInt8)) && (D == 0))))))) := by
  intro rest
  induction rest with
  | nil =>
    intro pre h k hk
    obtain ⟨j, rfl⟩ : ∃ j, k = j + 1 := ⟨k - 1, by omega⟩
    rw [spec_EventRight.l0]
    refine no (by rw [List.append_nil]; omega) ?_
    have n1 := spec_name hN (k := j) (by rw [List.length_nil] at hk; omega)
    have n2 := spec_name hP (k := j) (by rw [List.length_nil] at hk; omega)
    refine bnd n1 ?_
    rw [List.all_nil, Bool.true_and]
    refine itb ?_
    refine bnd n2 ?_
    refine itb ?_
    refine its ?_
    refine bnd (spec_amount K A D I N P T _) ?_
    refine itb ?_
    exact its rfl
  | cons x r ih =>
    intro pre h k hk
    rw [List.length_cons] at h hk
    obtain ⟨j, rfl⟩ : ∃ j, k = j + 1 := ⟨k - 1, by omega⟩
    have e3 := nxt pre x (by omega)
    rw [spec_EventRight.l0]
    refine yes (by rw [List.length_append, List.length_cons]; omega) ?_
    refine yes (by omega) ?_
    rw [rd_pre]
    refine bnd (spec_money x) ?_
    rw [List.all_cons, Bool.and_assoc]
    refine itb ?_
    rw [e3, snoc pre r x]
    exact ih (pre ++ [x]) (by rw [List.length_append, List.length_singleton]; omega) j (by omega)
theorem impl_tail (b1 b2 b3 b4 b5 b6 : Bool) (K A D : Int) {I N P T : ByteArray} (l : List Int) (hI : I.size ≤ 1048576) {k : Nat} (hk : 1 ≤ k) :
    impl_EventRight.j0 k b1 b2 b3 b4 b5 b6 K I N P T l A D = some (decide (1 ≤ K ∧ K ≤ 4) && (nm I.data.toList && (b1 && (b2 && (b3 && (b4 && (b5 && b6))))))) := by
  obtain ⟨j, rfl⟩ : ∃ j, k = j + 1 := ⟨k - 1, by omega⟩
  rw [impl_EventRight.j0]
  refine bnd (in_val K 1 4) ?_
  refine itb ?_
  refine bnd (impl_name hI) ?_
  refine itb ?_
  refine itb ?_
  refine itb ?_
  refine itb ?_
  refine itb ?_
  exact itb rfl
theorem contains_val (l : List Int) : slices_ContainsFunc_int64_int64.f l 136 = some (l.any slices_ContainsFunc_int64_int64.p) := by
  unfold slices_ContainsFunc_int64_int64.f
  exact if_pos rfl
theorem not_any (l : List Int) : (!l.any slices_ContainsFunc_int64_int64.p) = l.all money := by
  rw [List.not_any_eq_all_not]
  congr 1
  funext x
  unfold slices_ContainsFunc_int64_int64.p money
  rw [Bool.not_not]
theorem b_nil (a : ByteArray) : (a.toList == ([] : List UInt8)) = decide (a.toList = ([] : List UInt8)) := by
  by_cases c : a.toList = ([] : List UInt8)
  · rw [c]
    rfl
  · rw [decide_eq_false c, beq_eq_false_iff_ne.2 c]
theorem eb_nil (a : ByteArray) : eb (⟨#[]⟩ : ByteArray) a = decide (a.toList = ([] : List UInt8)) := by
  unfold eb
  rw [emp]
  by_cases c : a.toList = ([] : List UInt8)
  · rw [decide_eq_true c, decide_eq_true c.symm]
  · rw [decide_eq_false c, decide_eq_false (fun e => c e.symm)]
theorem eb_self (a : ByteArray) : eb a a = true := decide_eq_true rfl
theorem i_nil (a : Int) : (a == 0) = decide (a = 0) := by
  by_cases c : a = 0
  · rw [c]
    rfl
  · rw [decide_eq_false c, beq_eq_false_iff_ne.2 c]
theorem i_nil' (a : Int) : decide (0 = a) = decide (a = 0) := decide_eq_decide.2 ⟨fun h => h.symm, fun h => h.symm⟩
theorem l_nil (l : List Int) : ((l.length : Int) == 0) = decide (l.length = 0) := by
  rw [i_nil]
  exact decide_eq_decide.2 (by omega)
theorem amt (A : Int) : decide (0 ≤ A ∧ A ≤ 1000000000000) = (decide (A ≥ 0) && money A) := by
  unfold money
  rw [← Bool.decide_and]
  exact decide_eq_decide.2 (by omega)
theorem same_EventRight (K A D : Int) {I N P T : ByteArray} {l : List Int} (h1 : I.size ≤ 1048576) (h2 : N.size ≤ 1048576) (h3 : P.size ≤ 1048576) (h4 : T.size ≤ 1048576) (h5 : l.length ≤ 1048576) :
    ∃ b : Bool, (∀ k, 2000000 ≤ k → spec_EventRight.f k K I N P T l A D = some b) ∧ (∀ k, 2000000 ≤ k → impl_EventRight.f k K I N P T l A D = some b) := by
  by_cases c1 : K = 1
  · refine ⟨nm I.data.toList && (decide ((T.size : Int) ≥ 1) && (decide ((T.size : Int) ≤ 8000) && (eb ⟨#[]⟩ N && (eb ⟨#[]⟩ P && (eb T T && (decide (0 = A) && (decide (0 = D) && decide (l.length = 0)))))))), fun k hk => ?_, fun k hk => ?_⟩
    · unfold spec_EventRight.f
      refine bnd (spec_name h1 (by omega)) ?_
      refine itb ?_
      refine yes c1 ?_
      refine its ?_
      refine its ?_
      exact bnd (same_ev K 0 A 0 D I ⟨#[]⟩ N ⟨#[]⟩ P T T l (by omega)) rfl
    · unfold impl_EventRight.f
      refine yes c1 ?_
      refine bnd (in_val _ _ _) ?_
      rw [impl_tail _ _ _ _ _ _ K A D l h1 (by omega)]
      rw [eb_nil, eb_nil, eb_self, i_nil', i_nil', b_nil, b_nil, l_nil, i_nil, i_nil, decide_eq_true (show 1 ≤ K ∧ K ≤ 4 by omega)]
      have e : decide (1 ≤ (T.size : Int) ∧ (T.size : Int) ≤ 8000) = (decide ((T.size : Int) ≥ 1) && decide ((T.size : Int) ≤ 8000)) := by rw [← Bool.decide_and]
      rw [e]
      generalize decide ((T.size : Int) ≥ 1) = q1
      generalize decide ((T.size : Int) ≤ 8000) = q2
      generalize decide (N.toList = ([] : List UInt8)) = q3
      generalize decide (P.toList = ([] : List UInt8)) = q4
      generalize decide (l.length = 0) = q5
      generalize decide (A = 0) = q6
      generalize decide (D = 0) = q7
      generalize nm I.data.toList = q8
      cases q1 <;> cases q2 <;> cases q3 <;> cases q4 <;> cases q5 <;> cases q6 <;> cases q7 <;> cases q8 <;> rfl
  by_cases c2 : K = 2
  · refine ⟨nm I.data.toList && (l.all money && (nm N.data.toList && (nm P.data.toList && (decide ((l.length : Int) ≤ 8) && ((decide (A ≥ 0) && money A) && (decide (T.toList = ([] : List UInt8)) && (D == 0))))))), fun k hk => ?_, fun k hk => ?_⟩
    · unfold spec_EventRight.f
      refine bnd (spec_name h1 (by omega)) ?_
      refine itb ?_
      refine no c1 ?_
      refine yes c2 ?_
      exact spec_nums K A D h2 h3 l [] (by rw [List.length_nil]; omega) k (by omega)
    · unfold impl_EventRight.f
      refine no c1 ?_
      refine yes c2 ?_
      refine bnd (impl_name h2) ?_
      refine bnd (impl_name h3) ?_
      refine bnd (in_val _ _ _) ?_
      rw [amt]
      by_cases c : (l.length : Int) ≤ 8
      · refine yes c ?_
        refine bnd (contains_val l) ?_
        rw [impl_tail _ _ _ _ _ _ K A D l h1 (by omega)]
        rw [not_any, b_nil, decide_eq_true (show 1 ≤ K ∧ K ≤ 4 by omega), decide_eq_true c]
        generalize l.all money = q1
        generalize nm N.data.toList = q2
        generalize nm P.data.toList = q3
        generalize decide (T.toList = ([] : List UInt8)) = q4
        generalize (decide (A ≥ 0) && money A) = q5
        generalize (D == 0) = q6
        generalize nm I.data.toList = q8
        cases q1 <;> cases q2 <;> cases q3 <;> cases q4 <;> cases q5 <;> cases q6 <;> cases q8 <;> rfl
      · refine no c ?_
        rw [impl_tail _ _ _ _ _ _ K A D l h1 (by omega)]
        rw [b_nil, decide_eq_true (show 1 ≤ K ∧ K ≤ 4 by omega), decide_eq_false c]
        generalize l.all money = q1
        generalize nm N.data.toList = q2
        generalize nm P.data.toList = q3
        generalize decide (T.toList = ([] : List UInt8)) = q4
        generalize nm I.data.toList = q8
        cases q1 <;> cases q2 <;> cases q3 <;> cases q4 <;> cases q8 <;> rfl
  by_cases c3 : K = 3
  · refine ⟨nm I.data.toList && (nm N.data.toList && ((decide (A ≥ 0) && money A) && (eb N N && (eb ⟨#[]⟩ P && (eb ⟨#[]⟩ T && (decide (A = A) && (decide (0 = D) && decide (l.length = 0)))))))), fun k hk => ?_, fun k hk => ?_⟩
    · unfold spec_EventRight.f
      refine bnd (spec_name h1 (by omega)) ?_
      refine itb ?_
      refine no c1 ?_
      refine no c2 ?_
      refine yes c3 ?_
      refine bnd (spec_name h2 (by omega)) ?_
      refine itb ?_
      refine bnd (spec_amount K A D I N P T l) ?_
      refine itb ?_
      exact bnd (same_ev K A A 0 D I N N ⟨#[]⟩ P ⟨#[]⟩ T l (by omega)) rfl
    · unfold impl_EventRight.f
      refine no c1 ?_
      refine no c2 ?_
      refine yes c3 ?_
      refine bnd (impl_name h2) ?_
      refine bnd (in_val _ _ _) ?_
      rw [impl_tail _ _ _ _ _ _ K A D l h1 (by omega)]
      rw [amt, eb_nil, eb_nil, eb_self, i_nil', b_nil, b_nil, l_nil, i_nil, decide_eq_true (show 1 ≤ K ∧ K ≤ 4 by omega), decide_eq_true (rfl : A = A)]
      generalize (decide (A ≥ 0) && money A) = q1
      generalize nm N.data.toList = q2
      generalize decide (T.toList = ([] : List UInt8)) = q3
      generalize decide (P.toList = ([] : List UInt8)) = q4
      generalize decide (l.length = 0) = q5
      generalize decide (D = 0) = q7
      generalize nm I.data.toList = q8
      cases q1 <;> cases q2 <;> cases q3 <;> cases q4 <;> cases q5 <;> cases q7 <;> cases q8 <;> rfl
  by_cases c4 : K = 4
  · refine ⟨nm I.data.toList && (decide (0 ≤ D ∧ D ≤ 36524) && (eb ⟨#[]⟩ N && (eb ⟨#[]⟩ P && (eb ⟨#[]⟩ T && (decide (0 = A) && (decide (D = D) && decide (l.length = 0))))))), fun k hk => ?_, fun k hk => ?_⟩
    · unfold spec_EventRight.f
      refine bnd (spec_name h1 (by omega)) ?_
      refine itb ?_
      refine no c1 ?_
      refine no c2 ?_
      refine no c3 ?_
      refine yes c4 ?_
      refine bnd (a := decide (0 ≤ D ∧ D ≤ 36524)) ?_ ?_
      · unfold spec_l03Right.f
        by_cases g : D ≥ 0
        · rw [if_pos g]
          have : 0 ≤ D := g
          simp [this]
        · rw [if_neg g]
          have : ¬ 0 ≤ D := g
          simp [this]
      refine itb ?_
      exact bnd (same_ev K 0 A D D I ⟨#[]⟩ N ⟨#[]⟩ P ⟨#[]⟩ T l (by omega)) rfl
    · unfold impl_EventRight.f
      refine no c1 ?_
      refine no c2 ?_
      refine no c3 ?_
      refine yes c4 ?_
      refine bnd (a := decide (0 ≤ D ∧ D ≤ 36524)) ?_ ?_
      · unfold impl_isDay.f
        exact bnd (in_val _ _ _) rfl
      rw [impl_tail _ _ _ _ _ _ K A D l h1 (by omega)]
      rw [eb_nil, eb_nil, eb_nil, i_nil', b_nil, b_nil, b_nil, l_nil, i_nil, decide_eq_true (show 1 ≤ K ∧ K ≤ 4 by omega), decide_eq_true (rfl : D = D)]
      generalize decide (0 ≤ D ∧ D ≤ 36524) = q1
      generalize decide (N.toList = ([] : List UInt8)) = q2
      generalize decide (T.toList = ([] : List UInt8)) = q3
      generalize decide (P.toList = ([] : List UInt8)) = q4
      generalize decide (l.length = 0) = q5
      generalize decide (A = 0) = q7
      generalize nm I.data.toList = q8
      cases q1 <;> cases q2 <;> cases q3 <;> cases q4 <;> cases q5 <;> cases q7 <;> cases q8 <;> rfl
  · refine ⟨false, fun k hk => ?_, fun k hk => ?_⟩
    · unfold spec_EventRight.f
      refine bnd (spec_name h1 (by omega)) ?_
      have e : ∀ t : Bool, (if t = true then (some false : Option Bool) else some false) = some false := fun t => by cases t <;> rfl
      rw [if_neg c1, if_neg c2, if_neg c3, if_neg c4]
      exact e _
    · unfold impl_EventRight.f
      rw [if_neg c1, if_neg c2, if_neg c3, if_neg c4, impl_tail _ _ _ _ _ _ K A D l h1 (by omega), decide_eq_false (show ¬ (1 ≤ K ∧ K ≤ 4) by omega)]
      rfl
end Go.Proofs.YtidlcolgiololaaDoor.EvSame
namespace Go.Proofs.YtidlcolgiololaaDoor.EvText
open Go.RowKit Go.Proofs.YtidlcolgiololaaDoor.S Go.Proofs.YtidlcolgiololaaDoorW.PrintWords Go.Proofs.YtidlcolgiololaaDoorW.PrintMore Go.Proofs.YtidlcolgiololaaDoor.Cal
set_option linter.unusedVariables false
set_option linter.unusedSimpArgs false

theorem u64_range (x : Int) : 0 ≤ IntKind.u64.wrap x ∧ IntKind.u64.wrap x < 18446744073709551616 := by
  have e : IntKind.u64.wrap x = x % 18446744073709551616 := by simp [IntKind.wrap, IntKind.signed, IntKind.bits]
  omega
theorem u64_id {x : Int} (h0 : 0 ≤ x) (h1 : x < 18446744073709551616) : IntKind.u64.wrap x = x := by
  have e : IntKind.u64.wrap x = x % 18446744073709551616 := by simp [IntKind.wrap, IntKind.signed, IntKind.bits]
  omega
/-! bits -/
theorem wraps_u64 (n : Int) (h₀ : 0 ≤ n) (h₁ : n < 2 ^ 64) : IntKind.u64.wrap n = n := u64_id h₀ (by omega)
theorem or_comm' (k : IntKind) (a b : Int) : Go.bits .or k a b = Go.bits .or k b a := by
  simp only [Go.bits]
  rw [BitVec.or_comm]
theorem or128 {y : Int} (h0 : 0 ≤ y) (h1 : y < 256) : Go.bits .or .u8 y 128 = y % 128 + 128 := by
  obtain ⟨a, rfl⟩ := Int.eq_ofNat_of_zero_le h0
  have h := (bits_nat .u8 8 (by decide) wraps_u8 a 128 (by omega) (by decide)).2
  have e : ∀ a : Nat, a < 256 → a ||| 128 = a % 128 + 128 := by decide +kernel
  have := e a (by omega)
  rw [this] at h
  have h' : Go.bits .or .u8 (a : Int) 128 = ((a % 128 + 128 : Nat) : Int) := h
  rw [h']
  simp
theorem and127 {y : Int} (h0 : 0 ≤ y) (h1 : y < 256) : Go.bits .and .u8 y 127 = y % 128 := bits_mask .u8 8 (by decide) wraps_u8 7 (by decide) y h0 (by omega)
theorem and1 {y : Int} (h0 : 0 ≤ y) (h1 : y < 18446744073709551616) : Go.bits .and .u64 y 1 = y % 2 := bits_mask .u64 64 (by decide) wraps_u64 1 (by decide) y h0 (by omega)
theorem or_join {a h : Int} (i : Nat) (hi : i ≤ 64) (a0 : 0 ≤ a) (a1 : a < 2 ^ i) (h0 : 0 ≤ h) (hm : h % 2 ^ i = 0) (h1 : h < 18446744073709551616) : Go.bits .or .u64 a h = a + h := by
  have hp : (2 : Int) ^ i ≤ 2 ^ 64 := by exact_mod_cast Nat.pow_le_pow_right (by decide) hi
  rw [or_comm', bits_join .u64 64 (by decide) wraps_u64 i h a h0 hm (by omega) a0 a1 (by omega)]
  omega
theorem xor_u0 {a : Int} (h0 : 0 ≤ a) (h1 : a < 18446744073709551616) : Go.bits .xor .u64 a 0 = a := by
  obtain ⟨n, rfl⟩ := Int.eq_ofNat_of_zero_le h0
  simp only [Go.bits, BitVec.ofInt_natCast]
  have e : (BitVec.ofInt IntKind.u64.bits 0) = 0#(IntKind.u64.bits) := by decide
  rw [e, BitVec.xor_zero, BitVec.toNat_ofNat]
  have e2 : n % 2 ^ IntKind.u64.bits = n := Nat.mod_eq_of_lt (by show n < 18446744073709551616; omega)
  rw [e2]
  exact u64_id h0 h1
theorem xor_u1 {a : Int} (h0 : 0 ≤ a) (h1 : a < 18446744073709551616) : Go.bits .xor .u64 a 18446744073709551615 = 18446744073709551615 - a := by
  obtain ⟨n, rfl⟩ := Int.eq_ofNat_of_zero_le h0
  simp only [Go.bits, BitVec.ofInt_natCast]
  have e : (BitVec.ofInt IntKind.u64.bits 18446744073709551615) = BitVec.allOnes IntKind.u64.bits := by decide
  rw [e, BitVec.xor_allOnes, BitVec.toNat_not, BitVec.toNat_ofNat]
  have e2 : n % 2 ^ IntKind.u64.bits = n := Nat.mod_eq_of_lt (by show n < 18446744073709551616; omega)
  rw [e2]
  have e3 : (((2 ^ IntKind.u64.bits - 1 - n : Nat)) : Int) = 18446744073709551615 - n := by
    have : (2 ^ IntKind.u64.bits - 1 : Nat) = 18446744073709551615 := by decide
    rw [this]
    omega
  rw [e3]
  exact u64_id (by omega) (by omega)
theorem xor_i0 {a : Int} (h0 : 0 ≤ a) (h1 : a ≤ 9223372036854775807) : Go.bits .xor .i64 a 0 = a := by
  obtain ⟨n, rfl⟩ := Int.eq_ofNat_of_zero_le h0
  simp only [Go.bits, BitVec.ofInt_natCast]
  have e : (BitVec.ofInt IntKind.i64.bits 0) = 0#(IntKind.i64.bits) := by decide
  rw [e, BitVec.xor_zero, BitVec.toNat_ofNat]
  have e2 : n % 2 ^ IntKind.i64.bits = n := Nat.mod_eq_of_lt (by show n < 18446744073709551616; omega)
  rw [e2, IntKind.wrap_i64]
  omega
theorem xor_i1 {a : Int} (h0 : 0 ≤ a) (h1 : a ≤ 9223372036854775807) : Go.bits .xor .i64 a (-1) = -a - 1 := by
  obtain ⟨n, rfl⟩ := Int.eq_ofNat_of_zero_le h0
  simp only [Go.bits, BitVec.ofInt_natCast]
  have e : (BitVec.ofInt IntKind.i64.bits (-1)) = BitVec.allOnes IntKind.i64.bits := by decide
  rw [e, BitVec.xor_allOnes, BitVec.toNat_not, BitVec.toNat_ofNat]
  have e2 : n % 2 ^ IntKind.i64.bits = n := Nat.mod_eq_of_lt (by show n < 18446744073709551616; omega)
  rw [e2]
  have e3 : (((2 ^ IntKind.i64.bits - 1 - n : Nat)) : Int) = 18446744073709551615 - n := by
    have : (2 ^ IntKind.i64.bits - 1 : Nat) = 18446744073709551615 := by decide
    rw [this]
    omega
  rw [e3, IntKind.wrap_i64]
  omega

/-! the bytes of a number -/
def zig (n : Int) : Int := if n < 0 then -2 * n - 1 else 2 * n
def unzig (u : Int) : Int := if u % 2 = 0 then u / 2 else -(u / 2) - 1
theorem unzig_zig (n : Int) : unzig (zig n) = n := by
  unfold unzig zig
  split <;> split <;> omega
theorem zig_range {n : Int} (h0 : -9223372036854775808 ≤ n) (h1 : n ≤ 9223372036854775807) : 0 ≤ zig n ∧ zig n < 18446744073709551616 := by
  unfold zig
  split <;> omega
def enc (u : Nat) : List Int := if u < 128 then [(u : Int)] else ((u % 128 + 128 : Nat) : Int) :: enc (u / 128)
termination_by u
decreasing_by omega
theorem enc_small {u : Nat} (h : u < 128) : enc u = [(u : Int)] := by
  rw [enc, if_pos h]
theorem enc_big {u : Nat} (h : ¬ u < 128) : enc u = ((u % 128 + 128 : Nat) : Int) :: enc (u / 128) := by
  rw [enc, if_neg h]
theorem enc_len (n : Nat) : ∀ u : Nat, u < 128 ^ n → 0 < n → (enc u).length ≤ n ∧ 1 ≤ (enc u).length := by
  induction n with
  | zero => intro u _ h; omega
  | succ n ih =>
    intro u hu _
    by_cases h : u < 128
    · rw [enc_small h]
      simp
    · rw [enc_big h, List.length_cons]
      have hn : 0 < n := by
        rcases Nat.eq_zero_or_pos n with h0 | h0
        · subst h0; simp at hu; omega
        · exact h0
      have := ih (u / 128) (by rw [Nat.div_lt_iff_lt_mul (by decide)]; rw [Nat.pow_succ] at hu; exact hu) hn
      omega
theorem enc_byte : ∀ (u : Nat), ∀ x ∈ enc u, 0 ≤ x ∧ x < 256 := by
  intro u
  induction u using Nat.strongRecOn with
  | _ u ih =>
    intro x hx
    by_cases h : u < 128
    · rw [enc_small h, List.mem_singleton] at hx
      omega
    · rw [enc_big h, List.mem_cons] at hx
      rcases hx with rfl | hx
      · omega
      · exact ih (u / 128) (by omega) x hx
theorem numBytes_l0 (n : Nat) : ∀ (k : Nat) (u : Nat) (acc : List Int), u < 128 ^ n → 0 < n → n < k → acc.length + n ≤ 140737488355000 → impl_numBytes.l0 k (u : Int) acc = some (acc ++ enc u) := by
  induction n with
  | zero => intro k u acc _ h; omega
  | succ n ih =>
    intro k u acc hu _ hk hl
    obtain ⟨k, rfl⟩ : ∃ j, k = j + 1 := ⟨k - 1, by omega⟩
    simp only [impl_numBytes.l0]
    by_cases h : u < 128
    · rw [if_neg (by omega), if_pos (by omega), enc_small h]
      congr 2
      rw [Int.emod_eq_of_lt (by omega) (by omega)]
    · have hn : 0 < n := by
        rcases Nat.eq_zero_or_pos n with h0 | h0
        · subst h0; simp at hu; omega
        · exact h0
      rw [if_pos (by omega), if_pos (by omega), or128 (by omega) (by omega), enc_big h]
      have := ih k (u / 128) (acc ++ [((u % 128 + 128 : Nat) : Int)]) (by rw [Nat.div_lt_iff_lt_mul (by decide)]; rw [Nat.pow_succ] at hu; exact hu) hn (by omega) (by simp; omega)
      rw [List.append_assoc, List.singleton_append] at this
      rw [← this]
      congr 2
      congr 1
      omega
theorem numBytes {n : Int} (h0 : -9223372036854775808 ≤ n) (h1 : n ≤ 9223372036854775807) {k : Nat} (hk : 20 ≤ k) : impl_numBytes.f k n = some (enc (zig n).toNat) := by
  have z := zig_range h0 h1
  have e : Go.bits .xor .u64 (IntKind.u64.wrap ((IntKind.u64.wrap (n)) * 2)) (IntKind.u64.wrap (n / 9223372036854775808)) = ((zig n).toNat : Int) := by
    rw [Int.toNat_of_nonneg z.1]
    have w : ∀ x : Int, IntKind.u64.wrap x = x % 18446744073709551616 := fun x => by simp [IntKind.wrap, IntKind.signed, IntKind.bits]
    by_cases hn : n < 0
    · have a : IntKind.u64.wrap (n / 9223372036854775808) = 18446744073709551615 := by rw [w]; omega
      have b : IntKind.u64.wrap ((IntKind.u64.wrap (n)) * 2) = 2 * n + 18446744073709551616 := by rw [w, w]; omega
      rw [a, b, xor_u1 (by omega) (by omega)]
      unfold zig
      rw [if_pos hn]
      omega
    · have a : IntKind.u64.wrap (n / 9223372036854775808) = 0 := by rw [w]; omega
      have b : IntKind.u64.wrap ((IntKind.u64.wrap (n)) * 2) = 2 * n := by rw [w, w]; omega
      rw [a, b, xor_u0 (by omega) (by omega)]
      unfold zig
      rw [if_neg hn]
  unfold impl_numBytes.f
  rw [e]
  have hp : (128 : Nat) ^ 10 = 1180591620717411303424 := by decide
  have := numBytes_l0 10 k (zig n).toNat [] (by omega) (by omega) (by omega) (by simp)
  simpa using this
theorem impl_putNum {n : Int} (h0 : -9223372036854775808 ≤ n) (h1 : n ≤ 9223372036854775807) {k : Nat} (hk : 20 ≤ k) : impl_PutNum.f k n = some (strOfNums (enc (zig n).toNat)) := by
  unfold impl_PutNum.f
  rw [numBytes h0 h1 hk]
  rfl
theorem spec_putNum_l0 (n : Nat) : ∀ (k : Nat) (u : Nat) (acc : List Int), u < 128 ^ n → u < 18446744073709551616 → 0 < n → n < k → acc.length + n ≤ 140737488355000 → spec_PutNum.l0 k (u : Int) acc = some (strOfNums (acc ++ enc u)) := by
  induction n with
  | zero => intro k u acc _ _ h; omega
  | succ n ih =>
    intro k u acc hu hu2 _ hk hl
    obtain ⟨k, rfl⟩ : ∃ j, k = j + 1 := ⟨k - 1, by omega⟩
    simp only [spec_PutNum.l0]
    by_cases h : u < 128
    · rw [if_neg (by omega), if_pos (by omega), enc_small h]
      congr 3
      rw [Int.emod_eq_of_lt (by omega) (by omega)]
    · have hn : 0 < n := by
        rcases Nat.eq_zero_or_pos n with h0 | h0
        · subst h0; simp at hu; omega
        · exact h0
      rw [if_pos (by omega), if_pos (by omega), td (by omega), tm (by omega), u64_id (x := (u : Int) / 128) (by omega) (by omega), u64_id (x := (u : Int) % 128 + 128) (by omega) (by omega), enc_big h]
      have := ih k (u / 128) (acc ++ [((u % 128 + 128 : Nat) : Int)]) (by rw [Nat.div_lt_iff_lt_mul (by decide)]; rw [Nat.pow_succ] at hu; exact hu) (by omega) hn (by omega) (by simp; omega)
      rw [List.append_assoc, List.singleton_append] at this
      rw [← this]
      congr 2
      congr 1
      omega
theorem spec_putNum {n : Int} (h0 : -9223372036854775808 ≤ n) (h1 : n ≤ 9223372036854775807) {k : Nat} (hk : 20 ≤ k) : spec_PutNum.f k n = some (strOfNums (enc (zig n).toNat)) := by
  have z := zig_range h0 h1
  have e : spec_l01Fold.f n = some ((zig n).toNat : Int) := by
    rw [Int.toNat_of_nonneg z.1]
    unfold spec_l01Fold.f zig
    by_cases hn : n < 0
    · rw [if_pos hn, if_pos hn, wid (x := n + 1) (by omega) (by omega), wid (by omega) (by omega), u64_id (x := -(n + 1)) (by omega) (by omega), u64_id (x := 2 * -(n + 1)) (by omega) (by omega), u64_id (by omega) (by omega)]
      congr 1
      omega
    · rw [if_neg hn, if_neg hn, u64_id (x := n) (by omega) (by omega), u64_id (by omega) (by omega)]
  unfold spec_PutNum.f
  rw [e]
  simp only [Option.bind_some]
  have hp : (128 : Nat) ^ 10 = 1180591620717411303424 := by decide
  have := spec_putNum_l0 10 k (zig n).toNat [] (by omega) (by omega) (by omega) (by omega) (by simp)
  simpa using this
theorem str_size (l : List Int) : (strOfNums l).size = l.length := by simp [strOfNums, ByteArray.size]
theorem app_size (a b : ByteArray) : (a ++ b).size = a.size + b.size := ByteArray.size_append
/-- From place i on all bytes are 32 to 126. -/
def Shown (s : ByteArray) (i : Int) : Prop := ∀ j : Int, i ≤ j → j < s.size → 32 ≤ bt s j ∧ bt s j ≤ 126
theorem shown_end {s : ByteArray} {i : Int} (h : (s.size : Int) ≤ i) : Shown s i := fun j h1 h2 => by omega
theorem shown_next {s : ByteArray} {i : Int} (h : i < s.size) (a : ¬ bt s i < 32) (b : ¬ bt s i > 126) : Shown s i ↔ Shown s (i + 1) :=
  ⟨fun q j h1 h2 => q j (by omega) h2, fun q j h1 h2 => by
    by_cases e : j = i
    · subst e; omega
    · exact q j (by omega) h2⟩
open Classical in
theorem plain_l0 (s : ByteArray) (hs : s.size ≤ 140737488351232) (n : Nat) : ∀ (k : Nat) (i : Int), 0 ≤ i → i + n = s.size → n < k → spec_l01Plain.l0 k s i = some (decide (Shown s i)) := by
  induction n with
  | zero =>
    intro k i h0 e hk
    obtain ⟨k, rfl⟩ : ∃ j, k = j + 1 := ⟨k - 1, by omega⟩
    simp only [spec_l01Plain.l0]
    rw [if_neg (by omega), decide_eq_true (shown_end (by omega))]
  | succ n ih =>
    intro k i h0 e hk
    obtain ⟨k, rfl⟩ : ∃ j, k = j + 1 := ⟨k - 1, by omega⟩
    simp only [spec_l01Plain.l0]
    rw [if_pos (by omega), if_pos h0]
    by_cases a : bt s i < 32
    · rw [if_pos a, decide_eq_false (fun q => by have := q i (by omega) (by omega); omega)]
    rw [if_neg a]
    by_cases b : bt s i > 126
    · rw [if_pos b, decide_eq_false (fun q => by have := q i (by omega) (by omega); omega)]
    rw [if_neg b, wid (by omega) (by omega), ih k (i + 1) (by omega) (by omega) (by omega)]
    congr 1
    exact decide_eq_decide.2 (shown_next (by omega) a b).symm
open Classical in
theorem isShown_l0 (s : ByteArray) (hs : s.size ≤ 140737488351232) (n : Nat) : ∀ (k : Nat) (i : Int), 0 ≤ i → i + n = s.size → n < k → impl_isShown.l0 k s (s.size : Int) i = some (decide (Shown s i)) := by
  induction n with
  | zero =>
    intro k i h0 e hk
    obtain ⟨k, rfl⟩ : ∃ j, k = j + 1 := ⟨k - 1, by omega⟩
    simp only [impl_isShown.l0]
    rw [if_neg (by omega), decide_eq_true (shown_end (by omega))]
  | succ n ih =>
    intro k i h0 e hk
    obtain ⟨k, rfl⟩ : ∃ j, k = j + 1 := ⟨k - 1, by omega⟩
    simp only [impl_isShown.l0]
    rw [if_pos (by omega), if_pos h0, if_pos (by omega)]
    by_cases a : bt s i < 32
    · rw [if_pos a, decide_eq_false (fun q => by have := q i (by omega) (by omega); omega)]
    rw [if_neg a]
    by_cases b : bt s i > 126
    · rw [if_pos b, decide_eq_false (fun q => by have := q i (by omega) (by omega); omega)]
    rw [if_neg b, wid (by omega) (by omega), ih k (i + 1) (by omega) (by omega) (by omega)]
    congr 1
    exact decide_eq_decide.2 (shown_next (by omega) a b).symm
open Classical in
theorem plain {s : ByteArray} (hs : s.size ≤ 140737488351232) {k : Nat} (hk : s.size < k) : spec_l01Plain.f k s = some (decide (Shown s 0)) := by
  unfold spec_l01Plain.f
  exact plain_l0 s hs s.size k 0 (Int.le_refl 0) (by omega) hk
open Classical in
theorem isShown {s : ByteArray} (hs : s.size ≤ 140737488351232) {k : Nat} (hk : s.size < k) : impl_isShown.f k s = some (decide (Shown s 0)) := by
  unfold impl_isShown.f
  exact isShown_l0 s hs s.size k 0 (Int.le_refl 0) (by omega) hk
/-- Can a text be put? -/
def Puts (s : ByteArray) : Prop := s.size ≤ 200 ∧ Shown s 0
/-- A text as it is put. -/
def put (s : ByteArray) : ByteArray := strOfNums (enc (zig s.size).toNat) ++ s
open Classical in
theorem impl_put {s : ByteArray} (h : Puts s) {k : Nat} (hk : 300 ≤ k) : impl_PutText.f k s = some (put s) := by
  have hl := h.1
  unfold impl_PutText.f
  rw [if_neg (by omega), isShown (by omega) (by omega), decide_eq_true h.2]
  simp only [Option.bind_some, if_true]
  rw [impl_putNum (by omega) (by omega) (by omega)]
  simp only [Option.bind_some]
  have z := zig_range (n := (s.size : Int)) (by omega) (by omega)
  have hp10 : (128 : Nat) ^ 10 = 1180591620717411303424 := by decide
  have := enc_len 10 (zig (s.size : Int)).toNat (by omega) (by omega)
  rw [if_pos (by rw [str_size]; omega)]
  rfl
open Classical in
theorem impl_put_no {s : ByteArray} (h : ¬ Puts s) (hs : s.size ≤ 140737488351232) {k : Nat} (hk : 300 ≤ k) : impl_PutText.f k s = some (⟨#[]⟩ : ByteArray) := by
  unfold impl_PutText.f
  by_cases hl : (s.size : Int) > 200
  · rw [if_pos hl]
  · rw [if_neg hl, isShown (by omega) (by omega), decide_eq_false (fun q => h ⟨by omega, q⟩)]
    simp
open Classical in
theorem spec_put {s : ByteArray} (h : Puts s) {k : Nat} (hk : 300 ≤ k) : spec_PutText.f k s = some (put s) := by
  have hl := h.1
  unfold spec_PutText.f
  rw [if_neg (by omega), plain (by omega) (by omega), decide_eq_true h.2]
  simp only [Option.bind_some, if_true]
  rw [spec_putNum (by omega) (by omega) (by omega)]
  simp only [Option.bind_some]
  have z := zig_range (n := (s.size : Int)) (by omega) (by omega)
  have hp10 : (128 : Nat) ^ 10 = 1180591620717411303424 := by decide
  have := enc_len 10 (zig (s.size : Int)).toNat (by omega) (by omega)
  rw [if_pos (by rw [str_size]; omega)]
  rfl
open Classical in
theorem spec_put_no {s : ByteArray} (h : ¬ Puts s) (hs : s.size ≤ 140737488351232) {k : Nat} (hk : 300 ≤ k) : spec_PutText.f k s = some (⟨#[]⟩ : ByteArray) := by
  unfold spec_PutText.f
  by_cases hl : (s.size : Int) > 200
  · rw [if_pos hl]
  · rw [if_neg hl, plain (by omega) (by omega), decide_eq_false (fun q => h ⟨by omega, q⟩)]
    simp
theorem head_len {n : Int} (h0 : 0 ≤ n) (h1 : n ≤ 200) : 1 ≤ (enc (zig n).toNat).length ∧ (enc (zig n).toNat).length ≤ 2 := by
  have e : (zig n).toNat < 128 ^ 2 := by
    have : (128 : Nat) ^ 2 = 16384 := by decide
    unfold zig
    rw [if_neg (by omega)]
    omega
  have := enc_len 2 (zig n).toNat e (by omega)
  omega
theorem put_size {s : ByteArray} (h : Puts s) : (put s).size = (enc (zig s.size).toNat).length + s.size := by
  unfold put
  rw [app_size, str_size]
theorem put_small {s : ByteArray} (h : Puts s) : s.size + 1 ≤ (put s).size ∧ (put s).size ≤ s.size + 2 := by
  have := head_len (n := (s.size : Int)) (by omega) (by have := h.1; omega)
  rw [put_size h]
  omega

theorem son_app (a b : List Int) : strOfNums (a ++ b) = strOfNums a ++ strOfNums b := by
  apply ByteArray.ext
  apply Array.ext'
  simp [strOfNums, ByteArray.data_append]
theorem son_bytes (t : ByteArray) : strOfNums (bytesOf t) = t := by
  apply ByteArray.ext
  apply Array.ext'
  simp [strOfNums, bytesOf, Function.comp_def]
/-- What both put of a text. -/
theorem put_both {s : ByteArray} (hs : s.size ≤ 1048576) : ∃ p : ByteArray, p.size ≤ 202 ∧ ∀ k, 300 ≤ k → impl_PutText.f k s = some p ∧ spec_PutText.f k s = some p := by
  by_cases h : Puts s
  · have a := put_small h
    have b := h.1
    exact ⟨put s, by omega, fun k hk => ⟨impl_put h hk, spec_put h hk⟩⟩
  · exact ⟨⟨#[]⟩, by decide, fun k hk => ⟨impl_put_no h (by omega) hk, spec_put_no h (by omega) hk⟩⟩
def nb (n : Int) : List Int := enc (zig n).toNat
theorem num_len {n : Int} (h0 : -9223372036854775808 ≤ n) (h1 : n ≤ 9223372036854775807) : (nb n).length ≤ 10 := by
  have z := zig_range h0 h1
  have hp10 : (128 : Nat) ^ 10 = 1180591620717411303424 := by decide
  exact (enc_len 10 (zig n).toNat (by omega) (by omega)).1
end Go.Proofs.YtidlcolgiololaaDoor.EvText
namespace Go.Proofs.YtidlcolgiololaaDoor.EvBytes
open Go.RowKit Go.Proofs.YtidlcolgiololaaDoor.S Go.Proofs.YtidlcolgiololaaDoorW.PrintWords Go.Proofs.YtidlcolgiololaaDoor.Cal Go.Proofs.YtidlcolgiololaaDoor.DiskBase Go.Proofs.YtidlcolgiololaaDoor.NameSame Go.Proofs.YtidlcolgiololaaDoor.EvNums Go.Proofs.YtidlcolgiololaaDoor.EvSame Go.Proofs.YtidlcolgiololaaDoor.EvText
set_option linter.unusedVariables false
set_option linter.unusedSimpArgs false

def In (n : Int) : Prop := -9223372036854775808 ≤ n ∧ n ≤ 9223372036854775807
theorem ib {n : Int} (h : In n) {k : Nat} (hk : 20 ≤ k) : impl_numBytes.f k n = some (nb n) := numBytes h.1 h.2 hk
theorem sb {n : Int} (h : In n) {k : Nat} (hk : 20 ≤ k) : spec_PutNum.f k n = some (strOfNums (nb n)) := spec_putNum h.1 h.2 hk
/-- What stands behind the numbers. -/
def rest (acc l : List Int) (A D : Int) : List Int := match l with
  | [] => (acc ++ nb A) ++ nb D
  | x :: r => rest (acc ++ nb x) r A D
theorem len_num {acc : List Int} {x : Int} (h : In x) : (acc ++ nb x).length ≤ acc.length + 10 := by
  have := num_len h.1 h.2
  rw [List.length_append]
  omega
theorem impl_l1 (K A D : Int) (I N P T : ByteArray) (l0 : List Int) (hA : In A) (hD : In D) : ∀ (r pre acc : List Int), (∀ x ∈ r, In x) → pre.length + r.length ≤ 2000000 → acc.length + 10 * r.length ≤ 100000000 → ∀ k, r.length + 50 ≤ k →
    impl_EventBytes.l1 k acc (pre ++ r) ((pre ++ r).length : Int) (pre.length : Int) K I N P T l0 A D = some (strOfNums (rest acc r A D)) := by
  intro r
  induction r with
  | nil =>
    intro pre acc hw h ha k hk
    obtain ⟨j, rfl⟩ : ∃ j, k = j + 1 := ⟨k - 1, by omega⟩
    rw [List.length_nil] at ha hk
    rw [impl_EventBytes.l1]
    refine no (by rw [List.append_nil]; omega) ?_
    refine bnd (ib hA (by omega)) ?_
    have h1 := len_num (acc := acc) hA
    have n1 := num_len hA.1 hA.2
    have n2 := num_len hD.1 hD.2
    refine yes (by omega) ?_
    refine bnd rfl ?_
    refine bnd (ib hD (by omega)) ?_
    exact yes (by omega) rfl
  | cons x r ih =>
    intro pre acc hw h ha k hk
    rw [List.length_cons] at h ha hk
    obtain ⟨j, rfl⟩ : ∃ j, k = j + 1 := ⟨k - 1, by omega⟩
    have hx : In x := hw x (List.mem_cons_self)
    have e3 := nxt pre x (by omega)
    have h1 := len_num (acc := acc) hx
    have n1 := num_len hx.1 hx.2
    have hl : (pre ++ x :: r).length = pre.length + (r.length + 1) := by rw [List.length_append, List.length_cons]
    rw [impl_EventBytes.l1]
    refine yes (by omega) ?_
    refine yes (by omega) ?_
    refine yes (by omega) ?_
    rw [rd_pre]
    refine bnd (ib hx (by omega)) ?_
    refine yes (by omega) ?_
    rw [e3, snoc pre r x]
    exact ih (pre ++ [x]) (acc ++ nb x) (fun y hy => hw y (List.mem_cons_of_mem _ hy)) (by rw [List.length_append, List.length_singleton]; omega) (by omega) j (by omega)
theorem spec_l0 (K A D : Int) (I N P T : ByteArray) (hA : In A) (hD : In D) : ∀ (r pre acc : List Int), (∀ x ∈ r, In x) → pre.length + r.length ≤ 2000000 → acc.length + 10 * r.length ≤ 100000000 → ∀ k, r.length + 50 ≤ k →
    spec_EventBytes.l0 k (strOfNums acc) (pre.length : Int) K I N P T (pre ++ r) A D = some (strOfNums (rest acc r A D)) := by
  intro r
  induction r with
  | nil =>
    intro pre acc hw h ha k hk
    obtain ⟨j, rfl⟩ : ∃ j, k = j + 1 := ⟨k - 1, by omega⟩
    rw [List.length_nil] at ha hk
    have h1 := len_num (acc := acc) hA
    have n1 := num_len hA.1 hA.2
    have n2 := num_len hD.1 hD.2
    rw [spec_EventBytes.l0]
    refine no (by rw [List.append_nil]; omega) ?_
    refine bnd (sb hA (by omega)) ?_
    refine yes (by rw [str_size, str_size]; omega) ?_
    refine bnd (sb hD (by omega)) ?_
    rw [← son_app]
    refine yes (by rw [str_size, str_size]; omega) ?_
    rw [← son_app]
    rfl
  | cons x r ih =>
    intro pre acc hw h ha k hk
    rw [List.length_cons] at h ha hk
    obtain ⟨j, rfl⟩ : ∃ j, k = j + 1 := ⟨k - 1, by omega⟩
    have hx : In x := hw x (List.mem_cons_self)
    have e3 := nxt pre x (by omega)
    have h1 := len_num (acc := acc) hx
    have n1 := num_len hx.1 hx.2
    have hl : (pre ++ x :: r).length = pre.length + (r.length + 1) := by rw [List.length_append, List.length_cons]
    rw [spec_EventBytes.l0]
    refine yes (by omega) ?_
    refine yes (by omega) ?_
    rw [rd_pre]
    refine bnd (sb hx (by omega)) ?_
    refine yes (by rw [str_size, str_size]; omega) ?_
    rw [e3, snoc pre r x, ← son_app]
    exact ih (pre ++ [x]) (acc ++ nb x) (fun y hy => hw y (List.mem_cons_of_mem _ hy)) (by rw [List.length_append, List.length_singleton]; omega) (by omega) j (by omega)
theorem wr1 : wrap64 ((0 : Int) + 1) = 1 := wid (by omega) (by omega)
theorem wr2 : wrap64 ((1 : Int) + 1) = 2 := wid (by omega) (by omega)
theorem wr3 : wrap64 ((2 : Int) + 1) = 3 := wid (by omega) (by omega)
theorem same_EventBytes (K A D : Int) {I N P T : ByteArray} {l : List Int} (h1 : I.size ≤ 1048576) (h2 : N.size ≤ 1048576) (h3 : P.size ≤ 1048576) (h4 : T.size ≤ 1048576) (h5 : l.length ≤ 1048576)
    (hK : In K) (hA : In A) (hD : In D) (hw : ∀ x ∈ l, In x) :
    ∃ s : ByteArray, ∀ k, 2000010 ≤ k → spec_EventBytes.f k K I N P T l A D = some s ∧ impl_EventBytes.f k K I N P T l A D = some s := by
  obtain ⟨b, e1, e2⟩ := same_EventRight K A D (I := I) (N := N) (P := P) (T := T) (l := l) h1 h2 h3 h4 h5
  cases b with
  | false =>
    refine ⟨⟨#[]⟩, fun k hk => ⟨?_, ?_⟩⟩
    · unfold spec_EventBytes.f
      exact bnd (e1 k (by omega)) (no (by simp) rfl)
    · unfold impl_EventBytes.f
      exact bnd (e2 k (by omega)) (no (by simp) rfl)
  | true =>
    obtain ⟨p1, z1, f1⟩ := put_both h1
    obtain ⟨p2, z2, f2⟩ := put_both h2
    obtain ⟨p3, z3, f3⟩ := put_both h3
    have hT : In (T.size : Int) := ⟨by omega, by omega⟩
    have hL : In (l.length : Int) := ⟨by omega, by omega⟩
    have nK := num_len hK.1 hK.2
    have nT := num_len hT.1 hT.2
    have nL := num_len hL.1 hL.2
    have b1 := bytesOf_length p1
    have b2 := bytesOf_length p2
    have b3 := bytesOf_length p3
    have bT := bytesOf_length T
    have c1 : (nb K ++ bytesOf p1).length ≤ 212 := by rw [List.length_append]; omega
    have c2 : ((nb K ++ bytesOf p1) ++ bytesOf p2).length ≤ 414 := by rw [List.length_append]; omega
    have c3 : (((nb K ++ bytesOf p1) ++ bytesOf p2) ++ bytesOf p3).length ≤ 616 := by rw [List.length_append]; omega
    have c4 : ((((nb K ++ bytesOf p1) ++ bytesOf p2) ++ bytesOf p3) ++ nb (T.size : Int)).length ≤ 626 := by rw [List.length_append]; omega
    have c5 : (((((nb K ++ bytesOf p1) ++ bytesOf p2) ++ bytesOf p3) ++ nb (T.size : Int)) ++ bytesOf T).length ≤ 1049202 := by rw [List.length_append]; omega
    have c6 : ((((((nb K ++ bytesOf p1) ++ bytesOf p2) ++ bytesOf p3) ++ nb (T.size : Int)) ++ bytesOf T) ++ nb (l.length : Int)).length ≤ 1049212 := by rw [List.length_append]; omega
    refine ⟨strOfNums (rest ((((((nb K ++ bytesOf p1) ++ bytesOf p2) ++ bytesOf p3) ++ nb (T.size : Int)) ++ bytesOf T) ++ nb (l.length : Int)) l A D), fun k hk => ⟨?_, ?_⟩⟩
    · unfold spec_EventBytes.f
      refine bnd (e1 k (by omega)) ?_
      refine yes rfl ?_
      refine bnd (sb hK (by omega)) ?_
      refine bnd (f1 k (by omega)).2 ?_
      refine yes (by rw [str_size]; omega) ?_
      refine bnd (f2 k (by omega)).2 ?_
      have s1 : strOfNums (nb K) ++ p1 = strOfNums (nb K ++ bytesOf p1) := by rw [son_app, son_bytes]
      have s2 : strOfNums (nb K ++ bytesOf p1) ++ p2 = strOfNums ((nb K ++ bytesOf p1) ++ bytesOf p2) := by rw [son_app, son_app, son_app, son_bytes, son_bytes]
      have s3 : strOfNums ((nb K ++ bytesOf p1) ++ bytesOf p2) ++ p3 = strOfNums (((nb K ++ bytesOf p1) ++ bytesOf p2) ++ bytesOf p3) := by rw [son_app _ (bytesOf p3), son_bytes]
      have s5 : strOfNums ((((nb K ++ bytesOf p1) ++ bytesOf p2) ++ bytesOf p3) ++ nb (T.size : Int)) ++ T = strOfNums (((((nb K ++ bytesOf p1) ++ bytesOf p2) ++ bytesOf p3) ++ nb (T.size : Int)) ++ bytesOf T) := by rw [son_app _ (bytesOf T), son_bytes]
      rw [s1]
      refine yes (by rw [str_size]; omega) ?_
      refine bnd (f3 k (by omega)).2 ?_
      rw [s2]
      refine yes (by rw [str_size]; omega) ?_
      refine bnd (sb hT (by omega)) ?_
      rw [s3]
      refine yes (by rw [str_size, str_size]; omega) ?_
      rw [← son_app]
      refine yes (by rw [str_size]; omega) ?_
      refine bnd (sb hL (by omega)) ?_
      rw [s5]
      refine yes (by rw [str_size, str_size]; omega) ?_
      rw [← son_app]
      exact spec_l0 K A D I N P T hA hD l [] _ hw (by rw [List.length_nil]; omega) (by omega) k (by omega)
    · unfold impl_EventBytes.f
      refine bnd (e2 k (by omega)) ?_
      refine yes rfl ?_
      refine bnd (ib hK (by omega)) ?_
      refine bnd rfl ?_
      obtain ⟨j, rfl⟩ : ∃ j, k = j + 4 := ⟨k - 4, by omega⟩
      have g0 : ((([I, N, P] : List ByteArray).length : Nat) : Int) = 3 := rfl
      rw [g0, impl_EventBytes.l0]
      refine yes (by omega) ?_
      refine yes (by omega) ?_
      refine yes (by rw [g0]; omega) ?_
      refine bnd (f1 (j + 3) (by omega)).1 ?_
      refine yes (by omega) ?_
      rw [wr1, impl_EventBytes.l0]
      refine yes (by omega) ?_
      refine yes (by omega) ?_
      refine yes (by rw [g0]; omega) ?_
      refine bnd (f2 (j + 2) (by omega)).1 ?_
      refine yes (by omega) ?_
      rw [wr2, impl_EventBytes.l0]
      refine yes (by omega) ?_
      refine yes (by omega) ?_
      refine yes (by rw [g0]; omega) ?_
      refine bnd (f3 (j + 1) (by omega)).1 ?_
      refine yes (by omega) ?_
      rw [wr3, impl_EventBytes.l0]
      refine no (by omega) ?_
      refine bnd (ib hT (by omega)) ?_
      refine yes (by omega) ?_
      refine bnd rfl ?_
      refine yes (by omega) ?_
      refine bnd rfl ?_
      refine bnd (ib hL (by omega)) ?_
      refine yes (by omega) ?_
      exact impl_l1 K A D I N P T l hA hD l [] _ hw (by rw [List.length_nil]; omega) (by omega) j (by omega)
end Go.Proofs.YtidlcolgiololaaDoor.EvBytes
namespace Go.Proofs.YtidlcolgiololaaDoor.EvGet
open Go.RowKit Go.Proofs.YtidlcolgiololaaDoor.S Go.Proofs.YtidlcolgiololaaDoorW.PrintWords Go.Proofs.YtidlcolgiololaaDoorW.PrintMore Go.Proofs.YtidlcolgiololaaDoor.Cal Go.Proofs.YtidlcolgiololaaDoor.DiskBase Go.Proofs.YtidlcolgiololaaDoor.EvText Go.Proofs.YtidlcolgiololaaDoor.EvNums Go.Proofs.YtidlcolgiololaaDoor.EvSame Go.Proofs.YtidlcolgiololaaDoor.EvBytes
set_option linter.unusedVariables false
set_option linter.unusedSimpArgs false

theorem told {u : Int} (h0 : 0 ≤ u) (h1 : u < 18446744073709551616) :
    Go.bits .xor .i64 (wrap64 (u / 2)) (wrap64 (-(wrap64 (Go.bits .and .u64 u 1)))) = unzig u := by
  rw [and1 h0 h1, wid (x := u / 2) (by omega) (by omega), wid (x := u % 2) (by omega) (by omega), wid (x := -(u % 2)) (by omega) (by omega)]
  unfold unzig
  by_cases h : u % 2 = 0
  · rw [if_pos h, h, Int.neg_zero, xor_i0 (by omega) (by omega)]
  · rw [if_neg h, show u % 2 = 1 by omega, xor_i1 (by omega) (by omega)]
theorem pow_le {j : Nat} (h : j ≤ 9) : (1 : Int) ≤ 2 ^ (7 * j) := by
  have : (1 : Nat) ≤ 2 ^ (7 * j) := Nat.one_le_two_pow
  exact_mod_cast this
theorem pow_next (j : Nat) : (2 : Int) ^ (7 * (j + 1)) = 2 ^ (7 * j) * 128 := by
  rw [show 7 * (j + 1) = 7 * j + 7 by omega, Int.pow_add]
  rfl
theorem pow9 : (2 : Int) ^ (7 * 9) = 9223372036854775808 := by decide
theorem pow_top {j : Nat} (h : j ≤ 8) : (2 : Int) ^ (7 * j) * 128 ≤ 9223372036854775808 := by
  rw [← pow_next, ← pow9]
  have : (2 : Nat) ^ (7 * (j + 1)) ≤ 2 ^ (7 * 9) := Nat.pow_le_pow_right (by decide) (by omega)
  exact_mod_cast this
theorem shl_pow {d : Int} {j : Nat} (hj : j ≤ 9) (h0 : 0 ≤ d * 2 ^ (7 * j)) (h1 : d * 2 ^ (7 * j) < 18446744073709551616) : shl .u64 d ((7 * j : Nat) : Int) = d * 2 ^ (7 * j) := by
  unfold shl
  have e1 : ((7 * j : Nat) : Int).toNat = 7 * j := by omega
  have e2 : min (7 * j) IntKind.u64.bits = 7 * j := Nat.min_eq_left (by show 7 * j ≤ 64; omega)
  rw [e1, e2]
  exact u64_id h0 h1
/-- What is read of a number from its j-th byte on: n bytes may come. -/
def gl : Nat → ByteArray → Int → Int → Nat → Int × Int × Int
  | 0, _, _, _, _ => (0, 0, 3)
  | n + 1, s, p, u, j => if p ≥ (s.size : Int) - j then (0, 0, 4) else
    if (j = 9 ∧ bt s (p + j) > 1) ∨ (0 < j ∧ bt s (p + j) = 0) then (0, 0, 3) else
    if bt s (p + j) < 128 then (unzig (u + bt s (p + j) % 128 * 2 ^ (7 * j)), p + j + 1, 0) else gl n s p (u + bt s (p + j) % 128 * 2 ^ (7 * j)) (j + 1)
theorem acc_next {s : ByteArray} {p u : Int} {j : Nat} (hj : j ≤ 9) (u0 : 0 ≤ u) (u1 : u < 2 ^ (7 * j)) (c : Int) (c0 : 0 ≤ c) (c1 : c < 256) (h9 : j = 9 → c ≤ 1) :
    0 ≤ c % 128 * 2 ^ (7 * j) ∧ u + c % 128 * 2 ^ (7 * j) < 18446744073709551616 ∧ (j ≤ 8 → u + c % 128 * 2 ^ (7 * j) < 2 ^ (7 * (j + 1))) := by
  have p1 := pow_le hj
  have hm : 0 ≤ c % 128 * (2 : Int) ^ (7 * j) := Int.mul_nonneg (by omega) (by omega)
  refine ⟨hm, ?_, fun h8 => ?_⟩
  · by_cases h8 : j ≤ 8
    · have := pow_top h8
      have : c % 128 * (2 : Int) ^ (7 * j) ≤ 127 * 2 ^ (7 * j) := Int.mul_le_mul_of_nonneg_right (by omega) (by omega)
      omega
    · have e : j = 9 := by omega
      subst e
      rw [pow9] at u1 hm ⊢
      have := h9 rfl
      omega
  · rw [pow_next]
    have : c % 128 * (2 : Int) ^ (7 * j) ≤ 127 * 2 ^ (7 * j) := Int.mul_le_mul_of_nonneg_right (by omega) (by omega)
    omega
theorem impl_gl {s : ByteArray} (hs : s.size ≤ 1048576) {p : Int} (hp : 0 ≤ p) : ∀ (n j k : Nat) (u : Int), n + j = 10 → 2 * n < k → 0 ≤ u → (j ≤ 9 → u < 2 ^ (7 * j)) → impl_getNum.l0 k s p u (j : Int) = some (gl n s p u j) := by
  intro n
  induction n with
  | zero =>
    intro j k u hj hk u0 u1
    obtain ⟨k, rfl⟩ : ∃ i, k = i + 1 := ⟨k - 1, by omega⟩
    rw [impl_getNum.l0]
    exact no (by omega) rfl
  | succ n ih =>
    intro j k u hj hk u0 u1
    have h9 : j ≤ 9 := by omega
    have hu := u1 h9
    obtain ⟨k, rfl⟩ : ∃ i, k = i + 2 := ⟨k - 2, by omega⟩
    rw [impl_getNum.l0, gl]
    refine yes (by omega) ?_
    rw [wid (x := (s.size : Int) - j) (by omega) (by omega)]
    by_cases c : p ≥ (s.size : Int) - j
    · rw [if_pos c, if_pos c]
    rw [if_neg c, if_neg c, wid (x := p + j) (by omega) (by omega)]
    refine yes (by omega) ?_
    refine yes (by omega) ?_
    have hb := bt_range s (p + j)
    generalize bt s (p + j) = b at hb ⊢
    have w7 : wrap64 (7 * (j : Int)) = ((7 * j : Nat) : Int) := by rw [wid (by omega) (by omega)]; omega
    have body : ¬ ((j = 9 ∧ b > 1) ∨ (0 < j ∧ b = 0)) → impl_getNum.j1 (k + 1) s p u j b false = some (if b < 128 then (unzig (u + b % 128 * 2 ^ (7 * j)), p + j + 1, 0) else gl n s p (u + b % 128 * 2 ^ (7 * j)) (j + 1)) := by
      intro hn
      obtain ⟨a0, a1, a2⟩ := acc_next (s := s) (p := p) h9 u0 hu b (by omega) (by omega) (fun h => by omega)
      have e : Go.bits .or .u64 u (shl .u64 (IntKind.u64.wrap (Go.bits .and .u8 b 127)) ((7 * j : Nat) : Int)) = u + b % 128 * 2 ^ (7 * j) := by
        rw [and127 (by omega) (by omega), u64_id (x := b % 128) (by omega) (by omega), shl_pow h9 a0 (by omega)]
        exact or_join (7 * j) (by omega) u0 hu a0 (Int.mul_emod_left _ _) (by omega)
      rw [impl_getNum.j1]
      refine no (by decide) ?_
      rw [w7, e]
      have v0 : 0 ≤ u + b % 128 * 2 ^ (7 * j) := Int.add_nonneg u0 a0
      generalize u + b % 128 * 2 ^ (7 * j) = v at v0 a1 a2 ⊢
      have a2' : j + 1 ≤ 9 → v < 2 ^ (7 * (j + 1)) := fun h => a2 (Nat.le_of_succ_le_succ h)
      clear a0 a2 e hu u1
      refine yes (by omega) ?_
      by_cases c2 : b < 128
      · rw [if_pos c2, if_pos c2, told v0 a1, wid (x := p + j) (by omega) (by omega), wid (by omega) (by omega)]
      · rw [if_neg c2, if_neg c2]
        have w1 : wrap64 ((j : Int) + 1) = ((j + 1 : Nat) : Int) := by rw [wid (by omega) (by omega)]; omega
        rw [w1]
        exact ih (j + 1) k _ (by omega) (by omega) v0 a2'
    have stop : impl_getNum.j1 (k + 1) s p u j b true = some (0, 0, 3) := by
      rw [impl_getNum.j1]
      exact yes rfl rfl
    by_cases d : (j = 9 ∧ b > 1) ∨ (0 < j ∧ b = 0)
    · rw [if_pos d]
      by_cases e9 : (j : Int) = 9
      · refine yes e9 ?_
        by_cases e1 : b > 1
        · exact yes e1 stop
        · refine no e1 ?_
          refine yes (by omega) ?_
          rw [show (b == 0) = true from beq_iff_eq.2 (by omega)]
          exact stop
      · refine no e9 ?_
        refine yes (by omega) ?_
        rw [show (b == 0) = true from beq_iff_eq.2 (by omega)]
        exact stop
    · rw [if_neg d]
      by_cases e9 : (j : Int) = 9
      · refine yes e9 ?_
        refine no (by omega) ?_
        refine yes (by omega) ?_
        rw [show (b == 0) = false from beq_eq_false_iff_ne.2 (by omega)]
        exact body d
      · refine no e9 ?_
        by_cases e0 : (j : Int) > 0
        · refine yes e0 ?_
          rw [show (b == 0) = false from beq_eq_false_iff_ne.2 (by omega)]
          exact body d
        · exact no e0 (body d)
theorem spec_gl {s : ByteArray} (hs : s.size ≤ 1048576) {p : Int} (hp : 0 ≤ p) : ∀ (n j k : Nat) (u : Int), n + j = 10 → 3 * n < k → 0 ≤ u → (j ≤ 9 → u < 2 ^ (7 * j)) → spec_GetNum.l0 k s p u (j : Int) = some (gl n s p u j) := by
  intro n
  induction n with
  | zero =>
    intro j k u hj hk u0 u1
    obtain ⟨k, rfl⟩ : ∃ i, k = i + 1 := ⟨k - 1, by omega⟩
    rw [spec_GetNum.l0]
    exact no (by omega) rfl
  | succ n ih =>
    intro j k u hj hk u0 u1
    have h9 : j ≤ 9 := by omega
    have hu := u1 h9
    obtain ⟨k, rfl⟩ : ∃ i, k = i + 3 := ⟨k - 3, by omega⟩
    rw [spec_GetNum.l0, gl]
    refine yes (by omega) ?_
    rw [wid (x := (s.size : Int) - j) (by omega) (by omega)]
    by_cases c : p ≥ (s.size : Int) - j
    · rw [if_pos c, if_pos c]
    rw [if_neg c, if_neg c, wid (x := p + j) (by omega) (by omega)]
    refine yes (by omega) ?_
    refine yes (by omega) ?_
    have hb := bt_range s (p + j)
    generalize bt s (p + j) = b at hb ⊢
    rw [u64_id (x := b) (by omega) (by omega)]
    have w7 : IntKind.u64.wrap (wrap64 (7 * (j : Int))) = ((7 * j : Nat) : Int) := by rw [wid (by omega) (by omega), u64_id (by omega) (by omega)]; omega
    have body : ¬ (j = 9 ∧ b > 1) → spec_GetNum.j1 (k + 2) s p u j b false = some (if (j = 9 ∧ b > 1) ∨ (0 < j ∧ b = 0) then (0, 0, 3) else if b < 128 then (unzig (u + b % 128 * 2 ^ (7 * j)), p + j + 1, 0) else gl n s p (u + b % 128 * 2 ^ (7 * j)) (j + 1)) := by
      intro hn
      obtain ⟨a0, a1, a2⟩ := acc_next (s := s) (p := p) h9 u0 hu b (by omega) (by omega) (fun h => by omega)
      have e : IntKind.u64.wrap (u + shl .u64 (Int.tmod b 128) ((7 * j : Nat) : Int)) = u + b % 128 * 2 ^ (7 * j) := by
        rw [tm (by omega), shl_pow h9 a0 (by omega), u64_id (by omega) a1]
      rw [spec_GetNum.j1]
      refine no (by decide) ?_
      rw [w7, e]
      refine yes (by omega) ?_
      have v0 : 0 ≤ u + b % 128 * 2 ^ (7 * j) := Int.add_nonneg u0 a0
      generalize u + b % 128 * 2 ^ (7 * j) = v at v0 a1 a2 ⊢
      have a2' : j + 1 ≤ 9 → v < 2 ^ (7 * (j + 1)) := fun h => a2 (Nat.le_of_succ_le_succ h)
      clear a0 a2 e hu u1
      by_cases c2 : b < 128
      · refine yes c2 ?_
        have fin : spec_GetNum.j2 (k + 1) p v j false = some (unzig v, p + j + 1, 0) := by
          rw [spec_GetNum.j2]
          refine no (by decide) ?_
          rw [tm v0, td v0, wid (x := p + j) (by omega) (by omega), wid (x := p + j + 1) (by omega) (by omega), u64_id (x := v / 2) (by omega) (by omega), wid (x := v / 2) (by omega) (by omega), wid (x := -(v / 2)) (by omega) (by omega), wid (x := -(v / 2) - 1) (by omega) (by omega)]
          unfold unzig
          by_cases h2 : v % 2 = 1
          · rw [if_pos h2, if_neg (by omega)]
          · rw [if_neg h2, if_pos (by omega)]
        by_cases c0 : b = 0
        · refine yes c0 ?_
          by_cases cj : (j : Int) > 0
          · rw [show decide ((j : Int) > 0) = true from decide_eq_true cj, if_pos (Or.inr ⟨by omega, c0⟩), spec_GetNum.j2]
            exact yes rfl rfl
          · rw [show decide ((j : Int) > 0) = false from decide_eq_false cj, if_neg (by omega), if_pos c2]
            exact fin
        · refine no c0 ?_
          rw [if_neg (by omega), if_pos c2]
          exact fin
      · refine no c2 ?_
        rw [if_neg (by omega), if_neg c2]
        have w1 : wrap64 ((j : Int) + 1) = ((j + 1 : Nat) : Int) := by rw [wid (by omega) (by omega)]; omega
        rw [w1]
        exact ih (j + 1) (k + 1) _ (by omega) (by omega) v0 a2'
    by_cases e9 : (j : Int) = 9
    · refine yes e9 ?_
      by_cases e1 : b > 1
      · rw [show decide (b > 1) = true from decide_eq_true e1, if_pos (Or.inl ⟨by omega, e1⟩), spec_GetNum.j1]
        exact yes rfl rfl
      · rw [show decide (b > 1) = false from decide_eq_false e1]
        exact body (by omega)
    · exact no e9 (body (by omega))
theorem unzig_in {u : Int} (h0 : 0 ≤ u) (h1 : u < 18446744073709551616) : In (unzig u) := by
  unfold In unzig
  split <;> omega
theorem gl_facts {s : ByteArray} {p : Int} (hp : 0 ≤ p) : ∀ (n j : Nat) (u : Int), n + j = 10 → 0 ≤ u → (j ≤ 9 → u < 2 ^ (7 * j)) → ∀ r, gl n s p u j = r →
    (r.2.2 = 0 → p < r.2.1 ∧ r.2.1 ≤ s.size ∧ In r.1) ∧ (r.2.2 ≠ 0 → r.1 = 0 ∧ r.2.1 = 0) := by
  intro n
  induction n with
  | zero =>
    intro j u hj u0 u1 r e
    subst e
    exact ⟨fun h => absurd (show (3 : Int) = 0 from h) (by decide), fun _ => ⟨rfl, rfl⟩⟩
  | succ n ih =>
    intro j u hj u0 u1 r e
    have h9 : j ≤ 9 := by omega
    have hu := u1 h9
    rw [gl] at e
    have hb := bt_range s (p + j)
    generalize bt s (p + j) = b at hb e
    by_cases c : p ≥ (s.size : Int) - j
    · rw [if_pos c] at e
      subst e
      exact ⟨fun h => absurd h (by decide), fun _ => ⟨rfl, rfl⟩⟩
    rw [if_neg c] at e
    by_cases d : (j = 9 ∧ b > 1) ∨ (0 < j ∧ b = 0)
    · rw [if_pos d] at e
      subst e
      exact ⟨fun h => absurd h (by decide), fun _ => ⟨rfl, rfl⟩⟩
    rw [if_neg d] at e
    obtain ⟨a0, a1, a2⟩ := acc_next (s := s) (p := p) h9 u0 hu b (by omega) (by omega) (fun h => by omega)
    by_cases c2 : b < 128
    · rw [if_pos c2] at e
      subst e
      exact ⟨fun _ => ⟨by show p < p + j + 1; omega, by show p + j + 1 ≤ s.size; omega, unzig_in (Int.add_nonneg u0 a0) a1⟩, fun h => absurd rfl h⟩
    · rw [if_neg c2] at e
      exact ih (j + 1) _ (by omega) (Int.add_nonneg u0 a0) (fun h => a2 (Nat.le_of_succ_le_succ h)) r e
/-- The number at a place, the place behind it, and 0 or the code. -/
def gn (s : ByteArray) (p : Int) : Int × Int × Int := gl 10 s p 0 0
theorem gn_facts {s : ByteArray} {p : Int} (hp : 0 ≤ p) : ((gn s p).2.2 = 0 → p < (gn s p).2.1 ∧ (gn s p).2.1 ≤ s.size ∧ In (gn s p).1) ∧ ((gn s p).2.2 ≠ 0 → (gn s p).1 = 0 ∧ (gn s p).2.1 = 0) :=
  gl_facts hp 10 0 0 rfl (by decide) (fun _ => by decide) _ rfl
theorem gn_in {s : ByteArray} {p : Int} (hp : 0 ≤ p) : In (gn s p).1 ∧ 0 ≤ (gn s p).2.1 ∧ (gn s p).2.1 ≤ s.size := by
  obtain ⟨h1, h2⟩ := gn_facts (s := s) hp
  by_cases c : (gn s p).2.2 = 0
  · obtain ⟨a, b, d⟩ := h1 c
    exact ⟨d, by omega, b⟩
  · obtain ⟨a, b⟩ := h2 c
    rw [a, b]
    exact ⟨by unfold In; omega, by omega, by omega⟩
theorem impl_num {s : ByteArray} (hs : s.size ≤ 1048576) {p : Int} (hp : 0 ≤ p) {k : Nat} (hk : 40 ≤ k) : impl_getNum.f k s p = some (gn s p) := by
  unfold impl_getNum.f
  exact no (by omega) (impl_gl hs hp 10 0 k 0 rfl (by omega) (by decide) (fun _ => by decide))
theorem spec_num {s : ByteArray} (hs : s.size ≤ 20000) {p : Int} (hp : 0 ≤ p) {k : Nat} (hk : 40 ≤ k) : spec_GetNum.f k s p = some (gn s p) := by
  unfold spec_GetNum.f
  refine no (by omega) ?_
  exact no (by omega) (spec_gl (by omega) hp 10 0 k 0 rfl (by omega) (by decide) (fun _ => by decide))
open Classical in
/-- The text at a place, the place behind it, and 0 or the code. -/
noncomputable def gt (s : ByteArray) (p : Int) : ByteArray × Int × Int :=
  if (gn s p).2.2 = 0 then
    if (gn s p).1 < 0 ∨ (gn s p).1 > 200 then (⟨#[]⟩, 0, 3) else
    if (gn s p).2.1 + (gn s p).1 > s.size then (⟨#[]⟩, 0, 4) else
    if Shown (s.extract (gn s p).2.1.toNat ((gn s p).2.1 + (gn s p).1).toNat) 0 then (s.extract (gn s p).2.1.toNat ((gn s p).2.1 + (gn s p).1).toNat, (gn s p).2.1 + (gn s p).1, 0) else (⟨#[]⟩, 0, 3)
  else (⟨#[]⟩, 0, (gn s p).2.2)
theorem ext_size (s : ByteArray) (a b : Nat) : (s.extract a b).size = min b s.size - a := ByteArray.size_extract
theorem gt_facts {s : ByteArray} {p : Int} (hp : 0 ≤ p) : (gt s p).1.size ≤ s.size ∧ 0 ≤ (gt s p).2.1 ∧ (gt s p).2.1 ≤ s.size ∧ ((gt s p).2.2 ≠ 0 → (gt s p).2.1 = 0) := by
  have h := gn_in (s := s) hp
  have f := gn_facts (s := s) hp
  unfold gt
  generalize gn s p = x at h f ⊢
  have z : (⟨#[]⟩ : ByteArray).size = 0 := rfl
  split
  · split
    · exact ⟨by show (⟨#[]⟩ : ByteArray).size ≤ _; omega, by show (0 : Int) ≤ 0; omega, by show (0 : Int) ≤ _; omega, fun _ => rfl⟩
    · split
      · exact ⟨by show (⟨#[]⟩ : ByteArray).size ≤ _; omega, by show (0 : Int) ≤ 0; omega, by show (0 : Int) ≤ _; omega, fun _ => rfl⟩
      · split
        · refine ⟨by show (s.extract _ _).size ≤ _; rw [ext_size]; omega, by show 0 ≤ x.2.1 + x.1; omega, by show x.2.1 + x.1 ≤ _; omega, fun h => absurd rfl h⟩
        · exact ⟨by show (⟨#[]⟩ : ByteArray).size ≤ _; omega, by show (0 : Int) ≤ 0; omega, by show (0 : Int) ≤ _; omega, fun _ => rfl⟩
  · exact ⟨by show (⟨#[]⟩ : ByteArray).size ≤ _; omega, by show (0 : Int) ≤ 0; omega, by show (0 : Int) ≤ _; omega, fun _ => rfl⟩
open Classical in
theorem impl_text {s : ByteArray} (hs : s.size ≤ 20000) {p : Int} (hp : 0 ≤ p) {k : Nat} (hk : 21000 ≤ k) : impl_GetText.f k s p = some (gt s p) := by
  have h := gn_in (s := s) hp
  have e : impl_GetNum.f k s p = some (gn s p) := by
    unfold impl_GetNum.f
    refine no (by omega) ?_
    exact bnd (impl_num (by omega) hp (by omega)) rfl
  unfold impl_GetText.f gt
  refine bnd e ?_
  generalize gn s p = x at h ⊢
  have hI := h.1
  unfold In at hI
  by_cases c : x.2.2 = 0
  · refine yes c ?_
    rw [if_pos c]
    refine bnd (in_val x.1 0 200) ?_
    by_cases d : x.1 < 0 ∨ x.1 > 200
    · rw [if_pos d]
      exact no (by intro q; have := of_decide_eq_true q; omega) rfl
    · rw [if_neg d]
      refine yes (decide_eq_true (by omega)) ?_
      rw [wid (x := x.2.1 + x.1) (by omega) (by omega)]
      by_cases g : x.2.1 + x.1 > s.size
      · rw [if_pos g, if_pos g]
      · rw [if_neg g, if_neg g]
        refine yes (by omega) ?_
        refine yes (by omega) ?_
        refine yes (by omega) ?_
        have z : (s.extract x.2.1.toNat (x.2.1 + x.1).toNat).size ≤ s.size := by rw [ext_size]; omega
        refine bnd (isShown (by omega) (by omega)) ?_
        by_cases q : Shown (s.extract x.2.1.toNat (x.2.1 + x.1).toNat) 0
        · rw [if_pos q]
          exact yes (decide_eq_true q) rfl
        · rw [if_neg q]
          exact no (by simp [q]) rfl
  · refine no c ?_
    rw [if_neg c]
open Classical in
theorem spec_text {s : ByteArray} (hs : s.size ≤ 20000) {p : Int} (hp : 0 ≤ p) {k : Nat} (hk : 21001 ≤ k) : spec_GetText.f k s p = some (gt s p) := by
  have h := gn_in (s := s) hp
  obtain ⟨k, rfl⟩ : ∃ i, k = i + 1 := ⟨k - 1, by omega⟩
  unfold spec_GetText.f gt
  refine bnd (spec_num hs hp (by omega)) ?_
  generalize gn s p = x at h ⊢
  have hI := h.1
  unfold In at hI
  by_cases c : x.2.2 = 0
  · refine yes c ?_
    rw [if_pos c]
    by_cases d1 : x.1 < 0
    · refine yes d1 ?_
      rw [if_pos (Or.inl d1), spec_GetText.j0]
      exact yes rfl rfl
    refine no d1 ?_
    by_cases d2 : x.1 > 200
    · rw [if_pos (Or.inr d2), spec_GetText.j0, show decide (x.1 > 200) = true from decide_eq_true d2]
      exact yes rfl rfl
    rw [if_neg (by omega), spec_GetText.j0, show decide (x.1 > 200) = false from decide_eq_false d2]
    refine no (by decide) ?_
    rw [wid (x := (s.size : Int) - x.1) (by omega) (by omega), wid (x := x.2.1 + x.1) (by omega) (by omega)]
    by_cases g : x.2.1 + x.1 > s.size
    · rw [if_pos g]
      exact yes (by omega) rfl
    · rw [if_neg g]
      refine no (by omega) ?_
      refine yes (by omega) ?_
      refine yes (by omega) ?_
      refine yes (by omega) ?_
      have z : (s.extract x.2.1.toNat (x.2.1 + x.1).toNat).size ≤ s.size := by rw [ext_size]; omega
      refine bnd (plain (by omega) (by omega)) ?_
      by_cases q : Shown (s.extract x.2.1.toNat (x.2.1 + x.1).toNat) 0
      · rw [if_pos q]
        exact yes (decide_eq_true q) rfl
      · rw [if_neg q]
        exact no (by simp [q]) rfl
  · refine no c ?_
    rw [if_neg c]
end Go.Proofs.YtidlcolgiololaaDoor.EvGet
namespace Go.Proofs.YtidlcolgiololaaDoor.EvRead
open Go.RowKit Go.Proofs.YtidlcolgiololaaDoor.S Go.Proofs.YtidlcolgiololaaDoorW.PrintWords Go.Proofs.YtidlcolgiololaaDoorW.PrintMore Go.Proofs.YtidlcolgiololaaDoor.Cal Go.Proofs.YtidlcolgiololaaDoor.DiskBase Go.Proofs.YtidlcolgiololaaDoor.EvText Go.Proofs.YtidlcolgiololaaDoor.EvNums Go.Proofs.YtidlcolgiololaaDoor.EvSame Go.Proofs.YtidlcolgiololaaDoor.EvBytes Go.Proofs.YtidlcolgiololaaDoor.EvGet
set_option linter.unusedVariables false
set_option linter.unusedSimpArgs false

/-- The program's place and fault, and the reference's place and code. -/
structure Rel (sz a : Int) (b : Bool) (a' c : Int) : Prop where
  i1 : 0 ≤ a
  i2 : a ≤ sz
  j1 : 0 ≤ a'
  j2 : a' ≤ sz
  ok : (b = false ∧ c = 0 ∧ a = a') ∨ (b = true ∧ c ≠ 0)
theorem num_step {s : ByteArray} (hs : s.size ≤ 20000) {a : Int} {b : Bool} {a' c : Int} (fr : Int) (h : Rel s.size a b a' c) : ∃ (n x : Int) (b2 : Bool) (m y z c2 : Int), (∀ k, 30000 ≤ k → impl_taker_num.f k s a b = some (n, s, x, b2)) ∧
    (∀ k, 30000 ≤ k → spec_l10Reader_num.f k s a' fr c = some (m, s, y, z, c2)) ∧ Rel s.size x b2 y c2 ∧ In n ∧ In m ∧ (b = false → n = m) ∧ (b = true → b2 = true) := by
  obtain ⟨i1, i2, j1, j2, ok⟩ := h
  have g := gn_in (s := s) i1
  have f := gn_facts (s := s) i1
  rcases ok with ⟨rfl, rfl, rfl⟩ | ⟨rfl, hc⟩
  · by_cases e : (gn s a).2.2 = 0
    · refine ⟨(gn s a).1, (gn s a).2.1, false, (gn s a).1, (gn s a).2.1, a, 0, fun k hk => ?_, fun k hk => ?_, ⟨g.2.1, g.2.2, g.2.1, g.2.2, Or.inl ⟨rfl, rfl, rfl⟩⟩, g.1, g.1, fun _ => rfl, fun h => absurd h (by decide)⟩
      · unfold impl_taker_num.f
        refine bnd (impl_num (by omega) i1 (by omega)) ?_
        refine no (by decide) ?_
        rw [show ((gn s a).2.2 != 0) = false by rw [e]; rfl]
      · unfold spec_l10Reader_num.f
        refine yes rfl ?_
        refine bnd (spec_num hs i1 (by omega)) ?_
        exact yes e rfl
    · obtain ⟨e1, e2⟩ := f.2 e
      refine ⟨0, 0, true, 0, a, a, (gn s a).2.2, fun k hk => ?_, fun k hk => ?_, ⟨by omega, by omega, i1, i2, Or.inr ⟨rfl, e⟩⟩, by unfold In; omega, by unfold In; omega, fun _ => rfl, fun _ => rfl⟩
      · unfold impl_taker_num.f
        refine bnd (impl_num (by omega) i1 (by omega)) ?_
        refine no (by decide) ?_
        rw [show ((gn s a).2.2 != 0) = true from bne_iff_ne.2 e, e1, e2]
      · unfold spec_l10Reader_num.f
        refine yes rfl ?_
        refine bnd (spec_num hs i1 (by omega)) ?_
        exact no e rfl
  · refine ⟨(gn s a).1, (gn s a).2.1, true, 0, a', a', c, fun k hk => ?_, fun k hk => ?_, ⟨g.2.1, g.2.2, j1, j2, Or.inr ⟨rfl, hc⟩⟩, g.1, by unfold In; omega, fun h => absurd h (by decide), fun _ => rfl⟩
    · unfold impl_taker_num.f
      refine bnd (impl_num (by omega) i1 (by omega)) ?_
      exact yes rfl rfl
    · unfold spec_l10Reader_num.f
      exact no hc rfl
theorem name_step {s : ByteArray} (hs : s.size ≤ 20000) {a : Int} {b : Bool} {a' c : Int} (fr : Int) (h : Rel s.size a b a' c) : ∃ (n : ByteArray) (x : Int) (b2 : Bool) (m : ByteArray) (y c2 : Int), (∀ k, 30000 ≤ k → impl_taker_name.f k s a b = some (n, s, x, b2)) ∧
    (∀ k, 30000 ≤ k → spec_l10Reader_text.f k s a' fr c = some (m, s, y, fr, c2)) ∧ Rel s.size x b2 y c2 ∧ n.size ≤ 20000 ∧ (b = false → n = m) ∧ (b = true → b2 = true) := by
  obtain ⟨i1, i2, j1, j2, ok⟩ := h
  have g := gt_facts (s := s) i1
  rcases ok with ⟨rfl, rfl, rfl⟩ | ⟨rfl, hc⟩
  · by_cases e : (gt s a).2.2 = 0
    · refine ⟨(gt s a).1, (gt s a).2.1, false, (gt s a).1, (gt s a).2.1, 0, fun k hk => ?_, fun k hk => ?_, ⟨g.2.1, g.2.2.1, g.2.1, g.2.2.1, Or.inl ⟨rfl, rfl, rfl⟩⟩, by omega, fun _ => rfl, fun h => absurd h (by decide)⟩
      · unfold impl_taker_name.f
        refine bnd (impl_text hs i1 (by omega)) ?_
        refine no (by decide) ?_
        rw [show ((gt s a).2.2 != 0) = false by rw [e]; rfl]
      · unfold spec_l10Reader_text.f
        refine yes rfl ?_
        refine bnd (spec_text hs i1 (by omega)) ?_
        exact yes e rfl
    · have e1 : (gt s a).1 = (⟨#[]⟩ : ByteArray) := by
        unfold gt at e ⊢
        split
        · rename_i q
          rw [if_pos q] at e
          split
          · rfl
          · rename_i q2
            rw [if_neg q2] at e
            split
            · rfl
            · rename_i q3
              rw [if_neg q3] at e
              split
              · rename_i q4
                rw [if_pos q4] at e
                exact absurd rfl e
              · rfl
        · rfl
      have e2 := g.2.2.2 e
      refine ⟨⟨#[]⟩, 0, true, ⟨#[]⟩, a, (gt s a).2.2, fun k hk => ?_, fun k hk => ?_, ⟨by omega, by omega, i1, i2, Or.inr ⟨rfl, e⟩⟩, by decide, fun _ => rfl, fun _ => rfl⟩
      · unfold impl_taker_name.f
        refine bnd (impl_text hs i1 (by omega)) ?_
        refine no (by decide) ?_
        rw [show ((gt s a).2.2 != 0) = true from bne_iff_ne.2 e, e1, e2]
      · unfold spec_l10Reader_text.f
        refine yes rfl ?_
        refine bnd (spec_text hs i1 (by omega)) ?_
        exact no e rfl
  · refine ⟨(gt s a).1, (gt s a).2.1, true, ⟨#[]⟩, a', c, fun k hk => ?_, fun k hk => ?_, ⟨g.2.1, g.2.2.1, j1, j2, Or.inr ⟨rfl, hc⟩⟩, by omega, fun h => absurd h (by decide), fun _ => rfl⟩
    · unfold impl_taker_name.f
      refine bnd (impl_text hs i1 (by omega)) ?_
      exact yes rfl rfl
    · unfold spec_l10Reader_text.f
      exact no hc rfl
abbrev Ev := Int × ByteArray × ByteArray × ByteArray × ByteArray × List Int × Int × Int × Bool
abbrev Out := Int × ByteArray × ByteArray × ByteArray × ByteArray × List Int × Int × Int × Int
def err : Out := (0, ⟨#[]⟩, ⟨#[]⟩, ⟨#[]⟩, ⟨#[]⟩, [], 0, 0, 3)
theorem num_bad {s : ByteArray} (hs : s.size ≤ 20000) {a : Int} (h0 : 0 ≤ a) (h1 : a ≤ s.size) : ∃ n x : Int, (∀ k, 30000 ≤ k → impl_taker_num.f k s a true = some (n, s, x, true)) ∧ 0 ≤ x ∧ x ≤ s.size := by
  obtain ⟨n, x, b2, m, y, z, c2, e1, _, r, _, _, _, hb⟩ := num_step hs 0 (⟨h0, h1, h0, h1, Or.inr ⟨rfl, by decide⟩⟩ : Rel s.size a true a 1)
  have := hb rfl
  subst this
  exact ⟨n, x, e1, r.i1, r.i2⟩
theorem impl_j1_bad {s : ByteArray} (hs : s.size ≤ 20000) {a : Int} (h0 : 0 ≤ a) (h1 : a ≤ s.size) (x5 K A D : Int) (I N P T : ByteArray) (l : List Int) {k : Nat} (hk : 30010 ≤ k) :
    impl_EventRead.j1 k s x5 false s a true K I N P T l A D = some err := by
  obtain ⟨k, rfl⟩ : ∃ i, k = i + 2 := ⟨k - 2, by omega⟩
  obtain ⟨n, x, e, x0, x1⟩ := num_bad hs h0 h1
  obtain ⟨n2, x2, e2, _, _⟩ := num_bad hs x0 x1
  rw [impl_EventRead.j1]
  refine no (by decide) ?_
  refine bnd (e (k + 1) (by omega)) ?_
  refine bnd (e2 (k + 1) (by omega)) ?_
  refine yes rfl ?_
  rw [impl_EventRead.j2]
  exact yes rfl rfl
theorem impl_l0_bad {s : ByteArray} (hs : s.size ≤ 20000) {a : Int} (h0 : 0 ≤ a) (h1 : a ≤ s.size) (x5 K A D : Int) (I N P T : ByteArray) (l : List Int) {k : Nat} (hk : 30011 ≤ k) :
    impl_EventRead.l0 k s x5 s a true K I N P T l A D = some err := by
  obtain ⟨k, rfl⟩ : ∃ i, k = i + 1 := ⟨k - 1, by omega⟩
  rw [impl_EventRead.l0]
  by_cases c : x5 > 0
  · refine yes c ?_
    refine yes rfl ?_
    exact impl_j1_bad hs h0 h1 _ _ _ _ _ _ _ _ _ (by omega)
  · refine no c ?_
    exact impl_j1_bad hs h0 h1 _ _ _ _ _ _ _ _ _ (by omega)
theorem spec_num_bad {s : ByteArray} (a fr : Int) {c : Int} (hc : c ≠ 0) (k : Nat) : spec_l10Reader_num.f k s a fr c = some (0, s, a, a, c) := by
  unfold spec_l10Reader_num.f
  exact no hc rfl
theorem spec_j2_bad {s : ByteArray} (a fr : Int) {c : Int} (hc : c ≠ 0) (K A D : Int) (I N P T : ByteArray) (l : List Int) {k : Nat} (hk : 1 ≤ k) :
    spec_l14Read.j2 k s s a fr c K I N P T l A D = some (K, I, N, P, T, l, 0, 0, false) := by
  obtain ⟨k, rfl⟩ : ∃ i, k = i + 1 := ⟨k - 1, by omega⟩
  rw [spec_l14Read.j2]
  refine bnd (spec_num_bad a fr hc k) ?_
  refine bnd (spec_num_bad a a hc k) ?_
  exact no hc rfl
theorem spec_l0_bad {s : ByteArray} {c : Int} (hc : c ≠ 0) (K A D : Int) (I N P T : ByteArray) (many : Int) : ∀ (d i : Nat) (l : List Int) (a fr : Int) (k : Nat), i + d = 9 → l.length ≤ 100 + i → d + 2 ≤ k →
    ∃ z : Ev, spec_l14Read.l0 k s many (i : Int) s a fr c K I N P T l A D = some z ∧ z.2.2.2.2.2.2.2.2 = false := by
  intro d
  induction d with
  | zero =>
    intro i l a fr k hi hl hk
    obtain ⟨k, rfl⟩ : ∃ i, k = i + 1 := ⟨k - 1, by omega⟩
    refine ⟨(K, I, N, P, T, l, 0, 0, false), ?_, rfl⟩
    · rw [spec_l14Read.l0]
      by_cases c1 : (i : Int) < many
      · refine yes c1 ?_
        exact no (by omega) (spec_j2_bad a fr hc K A D I N P T l (by omega))
      · exact no c1 (spec_j2_bad a fr hc K A D I N P T l (by omega))
  | succ d ih =>
    intro i l a fr k hi hl hk
    obtain ⟨k, rfl⟩ : ∃ i, k = i + 1 := ⟨k - 1, by omega⟩
    by_cases c1 : (i : Int) < many
    · obtain ⟨z, e, hz⟩ := ih (i + 1) (l ++ [0]) a a k (by omega) (by rw [List.length_append, List.length_singleton]; omega) (by omega)
      refine ⟨z, ?_, hz⟩
      rw [spec_l14Read.l0]
      refine yes c1 ?_
      refine yes (by omega) ?_
      refine bnd (spec_num_bad a fr hc k) ?_
      refine yes (by omega) ?_
      rw [show wrap64 ((i : Int) + 1) = ((i + 1 : Nat) : Int) by rw [wid (by omega) (by omega)]; omega]
      exact e
    · refine ⟨(K, I, N, P, T, l, 0, 0, false), ?_, rfl⟩
      rw [spec_l14Read.l0]
      exact no c1 (spec_j2_bad a fr hc K A D I N P T l (by omega))
def fin (z : Ev) : Out := if z.2.2.2.2.2.2.2.2 = true then (z.1, z.2.1, z.2.2.1, z.2.2.2.1, z.2.2.2.2.1, z.2.2.2.2.2.1, z.2.2.2.2.2.2.1, z.2.2.2.2.2.2.2.1, 0) else err
theorem fin_bad {z : Ev} (h : z.2.2.2.2.2.2.2.2 = false) : fin z = err := by
  unfold fin
  rw [if_neg (by rw [h]; decide)]
theorem tail_same {s : ByteArray} (hs : s.size ≤ 20000) {a : Int} (h0 : 0 ≤ a) (h1 : a ≤ s.size) (fr x5 K A D : Int) {I N P T : ByteArray} {l : List Int} (hI : I.size ≤ 20000) (hN : N.size ≤ 20000) (hP : P.size ≤ 20000) (hT : T.size ≤ 20000) (hK : In K)
    (hl : l.length ≤ 9) (hw : ∀ x ∈ l, In x) {k1 k2 : Nat} (hk1 : 2000100 ≤ k1) (hk2 : 2000100 ≤ k2) :
    ∃ z : Ev, spec_l14Read.j2 k2 s s a fr 0 K I N P T l A D = some z ∧ impl_EventRead.j1 k1 s x5 false s a false K I N P T l A D = some (fin z) ∧ z.2.2.2.2.2.1.length ≤ 9 := by
  obtain ⟨k1, rfl⟩ : ∃ i, k1 = i + 2 := ⟨k1 - 2, by omega⟩
  obtain ⟨k2, rfl⟩ : ∃ i, k2 = i + 1 := ⟨k2 - 1, by omega⟩
  obtain ⟨n, x, b, m, y, z, c, e1, e2, r, hn, hm, hv, _⟩ := num_step hs fr (⟨h0, h1, h0, h1, Or.inl ⟨rfl, rfl, rfl⟩⟩ : Rel s.size a false a 0)
  obtain ⟨n', x', b', m', y', z', c', e1', e2', r', hn', hm', hv', hb'⟩ := num_step hs z r
  have hv := hv rfl
  subst hv
  by_cases cb : b' = true
  · subst cb
    have hc' : c' ≠ 0 := by
      rcases r'.ok with h | h
      · exact absurd h.1 (by decide)
      · exact h.2
    refine ⟨(K, I, N, P, T, l, n, m', false), ?_, ?_, hl⟩
    · rw [spec_l14Read.j2]
      refine bnd (e2 k2 (by omega)) ?_
      refine bnd (e2' k2 (by omega)) ?_
      exact no hc' rfl
    · rw [impl_EventRead.j1]
      refine no (by decide) ?_
      refine bnd (e1 (k1 + 1) (by omega)) ?_
      refine bnd (e1' (k1 + 1) (by omega)) ?_
      refine yes rfl ?_
      rw [impl_EventRead.j2]
      exact yes rfl rfl
  · have cb' : b' = false := by simpa using cb
    subst cb'
    have hb0 : b = false := by
      cases b with
      | false => rfl
      | true => exact absurd (hb' rfl) (by decide)
    subst hb0
    have hv' := hv' rfl
    subst hv'
    have hc' : c' = 0 := by
      rcases r'.ok with h | h
      · exact h.2.1
      · exact absurd h.1 (by decide)
    subst hc'
    obtain ⟨q, q1, q2⟩ := same_EventRight K n n' (I := I) (N := N) (P := P) (T := T) (l := l) (by omega) (by omega) (by omega) (by omega) (by omega)
    obtain ⟨t, ht⟩ := same_EventBytes K n n' (I := I) (N := N) (P := P) (T := T) (l := l) (by omega) (by omega) (by omega) (by omega) (by omega) hK hn hn' hw
    by_cases cq : q = true
    · subst cq
      refine ⟨(K, I, N, P, T, l, n, n', (t.toList == s.toList)), ?_, ?_, hl⟩
      · rw [spec_l14Read.j2]
        refine bnd (e2 k2 (by omega)) ?_
        refine bnd (e2' k2 (by omega)) ?_
        refine yes rfl ?_
        refine bnd (q1 k2 (by omega)) ?_
        refine yes rfl ?_
        exact bnd (ht k2 (by omega)).1 rfl
      · rw [impl_EventRead.j1]
        refine no (by decide) ?_
        refine bnd (e1 (k1 + 1) (by omega)) ?_
        refine bnd (e1' (k1 + 1) (by omega)) ?_
        refine no (show ¬ (false = true) by decide) ?_
        refine bnd (q2 (k1 + 1) (by omega)) ?_
        refine yes rfl ?_
        refine bnd (ht (k1 + 1) (by omega)).2 ?_
        rw [impl_EventRead.j2]
        unfold fin
        by_cases ce : t.toList = s.toList
        · rw [show (t.toList != s.toList) = false from bne_eq_false_iff_eq.2 ce]
          refine no (by decide) ?_
          rw [if_pos (show (t.toList == s.toList) = true from beq_iff_eq.2 ce)]
        · rw [show (t.toList != s.toList) = true from bne_iff_ne.2 ce]
          refine yes rfl ?_
          rw [if_neg (show ¬ (t.toList == s.toList) = true by rw [beq_iff_eq]; exact ce)]
          rfl
    · refine ⟨(K, I, N, P, T, l, n, n', false), ?_, ?_, hl⟩
      · rw [spec_l14Read.j2]
        refine bnd (e2 k2 (by omega)) ?_
        refine bnd (e2' k2 (by omega)) ?_
        refine yes rfl ?_
        refine bnd (q1 k2 (by omega)) ?_
        exact no cq rfl
      · rw [impl_EventRead.j1]
        refine no (by decide) ?_
        refine bnd (e1 (k1 + 1) (by omega)) ?_
        refine bnd (e1' (k1 + 1) (by omega)) ?_
        refine no (show ¬ (false = true) by decide) ?_
        refine bnd (q2 (k1 + 1) (by omega)) ?_
        refine no cq ?_
        rw [impl_EventRead.j2]
        exact yes rfl rfl
theorem loop_same {s : ByteArray} (hs : s.size ≤ 20000) (K : Int) {I N P T : ByteArray} (hI : I.size ≤ 20000) (hN : N.size ≤ 20000) (hP : P.size ≤ 20000) (hT : T.size ≤ 20000) (hK : In K) (many : Int) (hm : In many) :
    ∀ (d i : Nat) (l : List Int) (a fr : Int) (k1 k2 : Nat), i + d = 9 → l.length = i → (∀ x ∈ l, In x) → (i : Int) ≤ many ∨ i = 0 → 0 ≤ a → a ≤ s.size → 2000110 + 2 * d ≤ k1 → 2000110 + 2 * d ≤ k2 →
    ∃ z : Ev, spec_l14Read.l0 k2 s many (i : Int) s a fr 0 K I N P T l 0 0 = some z ∧ impl_EventRead.l0 k1 s (many - i) s a false K I N P T l 0 0 = some (fin z) ∧ (fin z).2.2.2.2.2.1.length ≤ 9 := by
  intro d
  have leave : ∀ (i : Nat) (l : List Int) (a fr x5 : Int) (k1 k2 : Nat), l.length ≤ 9 → (∀ x ∈ l, In x) → 0 ≤ a → a ≤ s.size → 2000100 ≤ k1 → 2000100 ≤ k2 →
      ∃ z : Ev, spec_l14Read.j2 k2 s s a fr 0 K I N P T l 0 0 = some z ∧ impl_EventRead.j1 k1 s x5 false s a false K I N P T l 0 0 = some (fin z) ∧ (fin z).2.2.2.2.2.1.length ≤ 9 := by
    intro i l a fr x5 k1 k2 hl hw h0 h1 hk1 hk2
    obtain ⟨z, e1, e2, e3⟩ := tail_same hs h0 h1 fr x5 K 0 0 hI hN hP hT hK hl hw hk1 hk2
    refine ⟨z, e1, e2, ?_⟩
    unfold fin
    split
    · exact e3
    · exact Nat.zero_le _
  unfold In at hm
  induction d with
  | zero =>
    intro i l a fr k1 k2 hi hl hw hmi h0 h1 hk1 hk2
    obtain ⟨k1, rfl⟩ : ∃ i, k1 = i + 1 := ⟨k1 - 1, by omega⟩
    obtain ⟨k2, rfl⟩ : ∃ i, k2 = i + 1 := ⟨k2 - 1, by omega⟩
    obtain ⟨z, e1, e2, e3⟩ := leave i l a fr (many - i) k1 k2 (by omega) hw h0 h1 (by omega) (by omega)
    refine ⟨z, ?_, ?_, e3⟩
    · rw [spec_l14Read.l0]
      by_cases c1 : (i : Int) < many
      · refine yes c1 ?_
        exact no (by omega) e1
      · exact no c1 e1
    · rw [impl_EventRead.l0]
      by_cases c1 : many - (i : Int) > 0
      · refine yes c1 ?_
        refine no (by decide) ?_
        rw [show decide ((l.length : Int) ≤ 8) = false from decide_eq_false (by omega)]
        exact e2
      · exact no c1 e2
  | succ d ih =>
    intro i l a fr k1 k2 hi hl hw hmi h0 h1 hk1 hk2
    obtain ⟨k1, rfl⟩ : ∃ i, k1 = i + 2 := ⟨k1 - 2, by omega⟩
    obtain ⟨k2, rfl⟩ : ∃ i, k2 = i + 1 := ⟨k2 - 1, by omega⟩
    by_cases c1 : (i : Int) < many
    · obtain ⟨n, x, b, m, y, z, c, e1, e2, r, hn, hm', hv, _⟩ := num_step hs fr (⟨h0, h1, h0, h1, Or.inl ⟨rfl, rfl, rfl⟩⟩ : Rel s.size a false a 0)
      have hv := hv rfl
      subst hv
      have es : ∀ w, spec_l14Read.l0 k2 s many ((i + 1 : Nat) : Int) s y z c K I N P T (l ++ [n]) 0 0 = some w → spec_l14Read.l0 (k2 + 1) s many (i : Int) s a fr 0 K I N P T l 0 0 = some w := by
        intro w hw
        rw [spec_l14Read.l0]
        refine yes c1 ?_
        refine yes (by omega) ?_
        refine bnd (e2 k2 (by omega)) ?_
        refine yes (by omega) ?_
        rw [show wrap64 ((i : Int) + 1) = ((i + 1 : Nat) : Int) by rw [wid (by omega) (by omega)]; omega]
        exact hw
      have ei : ∀ w, impl_EventRead.l0 k1 s (many - ((i + 1 : Nat) : Int)) s x b K I N P T (l ++ [n]) 0 0 = some w → impl_EventRead.l0 (k1 + 2) s (many - i) s a false K I N P T l 0 0 = some w := by
        intro w hw
        rw [impl_EventRead.l0]
        refine yes (by omega) ?_
        refine no (by decide) ?_
        rw [show decide ((l.length : Int) ≤ 8) = true from decide_eq_true (by omega), impl_EventRead.j1]
        refine yes rfl ?_
        refine bnd (e1 k1 (by omega)) ?_
        refine yes (by omega) ?_
        rw [show wrap64 (many - (i : Int) - 1) = many - ((i + 1 : Nat) : Int) by rw [wid (by omega) (by omega)]; omega]
        exact hw
      cases b with
      | false =>
        have hc : c = 0 ∧ x = y := by
          rcases r.ok with h | h
          · exact h.2
          · exact absurd h.1 (by decide)
        obtain ⟨rfl, rfl⟩ := hc
        obtain ⟨w, f1, f2, f3⟩ := ih (i + 1) (l ++ [n]) x z k1 k2 (by omega) (by rw [List.length_append, List.length_singleton]; omega) (fun q hq => by
          rcases List.mem_append.1 hq with h | h
          · exact hw q h
          · rw [List.mem_singleton.1 h]; exact hn) (by omega) r.i1 r.i2 (by omega) (by omega)
        exact ⟨w, es _ f1, ei _ f2, f3⟩
      | true =>
        have hc : c ≠ 0 := by
          rcases r.ok with h | h
          · exact absurd h.1 (by decide)
          · exact h.2
        obtain ⟨w, f1, f2⟩ := spec_l0_bad hc K 0 0 I N P T many (s := s) d (i + 1) (l ++ [n]) y z k2 (by omega) (by rw [List.length_append, List.length_singleton]; omega) (by omega)
        refine ⟨w, es _ f1, ?_, ?_⟩
        · rw [fin_bad f2]
          exact ei _ (impl_l0_bad hs r.i1 r.i2 _ _ _ _ _ _ _ _ _ (by omega))
        · rw [fin_bad f2]
          exact Nat.zero_le _
    · obtain ⟨z, e1, e2, e3⟩ := leave i l a fr (many - i) (k1 + 1) k2 (by omega) hw h0 h1 (by omega) (by omega)
      refine ⟨z, ?_, ?_, e3⟩
      · rw [spec_l14Read.l0]
        exact no c1 e1
      · rw [impl_EventRead.l0]
        exact no (by omega) e2
def out2 (z : Ev) : Out := fin z
theorem read_same {s : ByteArray} (hs : s.size ≤ 20000) {k : Nat} (hk : 2000200 ≤ k) : ∃ z : Ev, spec_l14Read.f k s = some z ∧ impl_EventRead.f k s = some (fin z) ∧ (fin z).2.2.2.2.2.1.length ≤ 9 := by
  obtain ⟨K, x1, b1, K', y1, z1, c1, e1, f1, r1, hK, _, v1, _⟩ := num_step hs 0 (⟨by omega, by omega, by omega, by omega, Or.inl ⟨rfl, rfl, rfl⟩⟩ : Rel s.size 0 false 0 0)
  obtain ⟨I, x2, b2, I', y2, c2, e2, f2, r2, hI, v2, m2⟩ := name_step hs z1 r1
  obtain ⟨N, x3, b3, N', y3, c3, e3, f3, r3, hN, v3, m3⟩ := name_step hs z1 r2
  obtain ⟨P, x4, b4, P', y4, c4, e4, f4, r4, hP, v4, m4⟩ := name_step hs z1 r3
  obtain ⟨n, x5, b5, n', y5, z5, c5, e5, f5, r5, hn, _, v5, m5⟩ := num_step hs z1 r4
  have out : ∀ (T : ByteArray) (x : Int) (b : Bool), impl_taker_raw.f k s x5 b5 n = some (T, s, x, b) → (∀ (m x' : Int) (b' : Bool) (res : Out), impl_taker_num.f k s x b = some (m, s, x', b') → impl_EventRead.l0 k s m s x' b' K I N P T [] 0 0 = some res → impl_EventRead.f k s = some res) := by
    intro T x b hr m x' b' res hm hl
    unfold impl_EventRead.f
    refine no (by omega) ?_
    refine bnd (e1 k (by omega)) ?_
    refine bnd (e2 k (by omega)) ?_
    refine bnd (e3 k (by omega)) ?_
    refine bnd (e4 k (by omega)) ?_
    refine bnd (e5 k (by omega)) ?_
    refine bnd hr ?_
    refine bnd hm ?_
    exact hl
  have bad : (∃ (T : ByteArray) (x : Int), impl_taker_raw.f k s x5 b5 n = some (T, s, x, true) ∧ 0 ≤ x ∧ x ≤ s.size) → impl_EventRead.f k s = some err := by
    rintro ⟨T, x, hr, x0, x1⟩
    obtain ⟨m, x', hm, q0, q1⟩ := num_bad hs x0 x1
    exact out T x true hr m x' true err (hm k (by omega)) (impl_l0_bad hs q0 q1 _ _ _ _ _ _ _ _ _ (by omega))
  have sp : ∀ w, (if c5 = 0 then (if n' < 0 then (spec_l14Read.j0 k s n' true s y5 z5 c5 K' I' N' P' (⟨#[]⟩ : ByteArray) 0 0) else (spec_l14Read.j0 k s n' (decide (n' > (wrap64 ((s.size : Int) - y5)))) s y5 z5 c5 K' I' N' P' (⟨#[]⟩ : ByteArray) 0 0)) else (spec_l14Read.j0 k s n' true s y5 z5 c5 K' I' N' P' (⟨#[]⟩ : ByteArray) 0 0)) = some w → spec_l14Read.f k s = some w := by
    intro w hw
    unfold spec_l14Read.f
    refine bnd (f1 k (by omega)) ?_
    refine bnd (f2 k (by omega)) ?_
    refine bnd (f3 k (by omega)) ?_
    refine bnd (f4 k (by omega)) ?_
    refine bnd (f5 k (by omega)) ?_
    exact hw
  obtain ⟨k, rfl⟩ : ∃ i, k = i + 1 := ⟨k - 1, by omega⟩
  have sbad : spec_l14Read.j0 (k + 1) s n' true s y5 z5 c5 K' I' N' P' (⟨#[]⟩ : ByteArray) 0 0 = some (K', I', N', P', ⟨#[]⟩, [], 0, 0, false) := by
    rw [spec_l14Read.j0]
    exact yes rfl rfl
  unfold In at hn
  have q1 := r5.i1
  have q2 := r5.i2
  cases hb : b5 with
  | true =>
    subst hb
    have hc : c5 ≠ 0 := by
      rcases r5.ok with h | h
      · exact absurd h.1 (by decide)
      · exact h.2
    refine ⟨(K', I', N', P', ⟨#[]⟩, [], 0, 0, false), sp _ (no hc sbad), ?_, Nat.zero_le _⟩
    refine bad ⟨⟨#[]⟩, x5, ?_, q1, q2⟩
    unfold impl_taker_raw.f
    refine yes rfl ?_
    rw [impl_taker_raw.j0]
    exact yes rfl rfl
  | false =>
    subst hb
    have hc : c5 = 0 ∧ x5 = y5 := by
      rcases r5.ok with h | h
      · exact h.2
      · exact absurd h.1 (by decide)
    obtain ⟨rfl, rfl⟩ := hc
    have g4 : b4 = false := by
      cases b4 with
      | false => rfl
      | true => exact absurd (m5 rfl) (by decide)
    subst g4
    have g3 : b3 = false := by
      cases b3 with
      | false => rfl
      | true => exact absurd (m4 rfl) (by decide)
    subst g3
    have g2 : b2 = false := by
      cases b2 with
      | false => rfl
      | true => exact absurd (m3 rfl) (by decide)
    subst g2
    have g1 : b1 = false := by
      cases b1 with
      | false => rfl
      | true => exact absurd (m2 rfl) (by decide)
    subst g1
    have v1 := v1 rfl
    have v2 := v2 rfl
    have v3 := v3 rfl
    have v4 := v4 rfl
    have v5 := v5 rfl
    subst v1
    subst v2
    subst v3
    subst v4
    subst v5
    by_cases d1 : n < 0
    · refine ⟨(K, I, N, P, ⟨#[]⟩, [], 0, 0, false), sp _ (yes rfl (yes d1 sbad)), ?_, Nat.zero_le _⟩
      refine bad ⟨⟨#[]⟩, x5, ?_, q1, q2⟩
      unfold impl_taker_raw.f
      refine no (by decide) ?_
      refine yes d1 ?_
      rw [impl_taker_raw.j0]
      exact yes rfl rfl
    by_cases d2 : n > (s.size : Int) - x5
    · refine ⟨(K, I, N, P, ⟨#[]⟩, [], 0, 0, false), sp _ (yes rfl (no d1 ?_)), ?_, Nat.zero_le _⟩
      · rw [wid (x := (s.size : Int) - x5) (by omega) (by omega), show decide (n > (s.size : Int) - x5) = true from decide_eq_true d2]
        exact sbad
      refine bad ⟨⟨#[]⟩, x5, ?_, q1, q2⟩
      unfold impl_taker_raw.f
      refine no (by decide) ?_
      refine no d1 ?_
      rw [wid (x := (s.size : Int) - x5) (by omega) (by omega), show decide (n > (s.size : Int) - x5) = true from decide_eq_true d2, impl_taker_raw.j0]
      exact yes rfl rfl
    have w5 : wrap64 (x5 + n) = x5 + n := wid (by omega) (by omega)
    have w6 : wrap64 (x5 + n - n) = x5 := by rw [wid (by omega) (by omega)]; omega
    have hT : (s.extract x5.toNat (x5 + n).toNat).size ≤ 20000 := by rw [ext_size]; omega
    have hr : impl_taker_raw.f (k + 1) s x5 false n = some (s.extract x5.toNat (x5 + n).toNat, s, x5 + n, false) := by
      unfold impl_taker_raw.f
      refine no (by decide) ?_
      refine no d1 ?_
      rw [wid (x := (s.size : Int) - x5) (by omega) (by omega), show decide (n > (s.size : Int) - x5) = false from decide_eq_false d2, impl_taker_raw.j0]
      refine no (by decide) ?_
      rw [w5, w6]
      refine yes (by omega) ?_
      refine yes (by omega) ?_
      exact yes (by omega) rfl
    have hsp : ∀ (m x' z' c' : Int) (w : Ev), spec_l10Reader_num.f k s (x5 + n) z5 0 = some (m, s, x', z', c') → spec_l14Read.l0 k s m ((0 : Nat) : Int) s x' z' c' K I N P (s.extract x5.toNat (x5 + n).toNat) [] 0 0 = some w → spec_l14Read.f (k + 1) s = some w := by
      intro m x' z' c' w hm hw
      refine sp _ (yes rfl (no d1 ?_))
      rw [wid (x := (s.size : Int) - x5) (by omega) (by omega), show decide (n > (s.size : Int) - x5) = false from decide_eq_false d2, spec_l14Read.j0]
      refine no (by decide) ?_
      rw [w5]
      refine yes (by omega) ?_
      refine yes (by omega) ?_
      refine yes (by omega) ?_
      refine bnd hm ?_
      exact hw
    generalize s.extract x5.toNat (x5 + n).toNat = T at hT hr hsp
    obtain ⟨m, x', b', m', y', z', c', e', f', r', hm, _, v', _⟩ := num_step hs z5 (⟨by omega, by omega, by omega, by omega, Or.inl ⟨rfl, rfl, rfl⟩⟩ : Rel s.size (x5 + n) false (x5 + n) 0)
    have v' := v' rfl
    subst v'
    cases b' with
    | true =>
      have hc : c' ≠ 0 := by
        rcases r'.ok with h | h
        · exact absurd h.1 (by decide)
        · exact h.2
      obtain ⟨w, g1, g2⟩ := spec_l0_bad hc K 0 0 I N P T m (s := s) 9 0 [] y' z' k rfl (Nat.zero_le _) (by omega)
      refine ⟨w, hsp _ _ _ _ _ (f' k (by omega)) g1, ?_, ?_⟩
      · rw [fin_bad g2]
        exact out T _ false hr m x' true err (e' (k + 1) (by omega)) (impl_l0_bad hs r'.i1 r'.i2 _ _ _ _ _ _ _ _ _ (by omega))
      · rw [fin_bad g2]
        exact Nat.zero_le _
    | false =>
      have hc : c' = 0 ∧ x' = y' := by
        rcases r'.ok with h | h
        · exact h.2
        · exact absurd h.1 (by decide)
      obtain ⟨rfl, rfl⟩ := hc
      obtain ⟨w, g1, g2, g3⟩ := loop_same hs K hI hN hP hT hK m hm 9 0 [] x' z' (k + 1) k rfl rfl (fun q h => absurd h (by simp)) (Or.inr rfl) r'.i1 r'.i2 (by omega) (by omega)
      have e0 : m - ((0 : Nat) : Int) = m := by omega
      rw [e0] at g2
      exact ⟨w, hsp _ _ _ _ _ (f' k (by omega)) g1, out T _ false hr m x' false _ (e' (k + 1) (by omega)) g2, g3⟩
/-! marked numbers -/
def iota : Int → Nat → List Int
  | _, 0 => []
  | a, n + 1 => a :: iota (a + 1) n
theorem mark_l0 : ∀ (rest pre : List Int) (a : Int), pre.length + rest.length ≤ 1000000 → 0 ≤ a → a + rest.length ≤ 1000000 → ∀ k, rest.length + 1 ≤ k → laws_markInt64S.l0 k (pre ++ rest) a (pre.length : Int) = some (a + rest.length, pre ++ iota a rest.length) := by
  intro rest
  induction rest with
  | nil =>
    intro pre a h a0 a1 k hk
    obtain ⟨k, rfl⟩ : ∃ i, k = i + 1 := ⟨k - 1, by omega⟩
    rw [laws_markInt64S.l0, List.append_nil]
    refine no (by omega) ?_
    simp [iota]
  | cons x r ih =>
    intro pre a h a0 a1 k hk
    rw [List.length_cons] at h hk
    obtain ⟨k, rfl⟩ : ∃ i, k = i + 1 := ⟨k - 1, by omega⟩
    have hl : (pre ++ x :: r).length = pre.length + (r.length + 1) := by rw [List.length_append, List.length_cons]
    rw [laws_markInt64S.l0]
    refine yes (by omega) ?_
    refine yes (by omega) ?_
    have e1 : (pre ++ x :: r).set ((pre.length : Int)).toNat a = (pre ++ [a]) ++ r := by
      rw [Int.toNat_natCast, List.set_append_right _ _ (Nat.le_refl _), Nat.sub_self, List.set_cons_zero, List.append_assoc]
      rfl
    rw [List.length_cons] at a1
    rw [e1, nxt pre a (by omega), wid (x := a + 1) (by omega) (by omega)]
    rw [ih (pre ++ [a]) (a + 1) (by rw [List.length_append, List.length_singleton]; omega) (by omega) (by omega) k (by omega)]
    rw [List.length_cons, iota, List.append_assoc, show a + 1 + (r.length : Int) = a + ((r.length + 1 : Nat) : Int) by omega]
    rfl
theorem iota_length (n : Nat) : ∀ a, (iota a n).length = n := by
  induction n with
  | zero => intro a; rfl
  | succ n ih => intro a; rw [iota, List.length_cons, ih]
theorem held_l0 : ∀ (n : Nat) (pre : List Int) (a : Int), pre.length + n ≤ 1000000 → 0 ≤ a → a + n ≤ 1000000 → ∀ k, n + 1 ≤ k → laws_heldInt64S.l0 k (pre ++ iota a n) a (pre.length : Int) = some (a + n) := by
  intro n
  induction n with
  | zero =>
    intro pre a h a0 a1 k hk
    obtain ⟨k, rfl⟩ : ∃ i, k = i + 1 := ⟨k - 1, by omega⟩
    rw [laws_heldInt64S.l0, iota, List.append_nil]
    refine no (by omega) ?_
    simp
  | succ n ih =>
    intro pre a h a0 a1 k hk
    obtain ⟨k, rfl⟩ : ∃ i, k = i + 1 := ⟨k - 1, by omega⟩
    have hl : (pre ++ iota a (n + 1)).length = pre.length + (n + 1) := by rw [List.length_append, iota_length]
    rw [laws_heldInt64S.l0]
    refine yes (by omega) ?_
    refine yes (by omega) ?_
    rw [iota, rd_pre]
    refine yes rfl ?_
    rw [nxt pre a (by omega), wid (x := a + 1) (by omega) (by omega), snoc pre _ a]
    rw [ih (pre ++ [a]) (a + 1) (by rw [List.length_append, List.length_singleton]; omega) (by omega) (by omega) k (by omega)]
    congr 1
    omega
end Go.Proofs.YtidlcolgiololaaDoor.EvRead
namespace Go.Proofs.YtidlcolgiololaaDoor.Pure
open Go.RowKit Go.Proofs.YtidlcolgiololaaDoor.S Go.Proofs.YtidlcolgiololaaDoorW.PrintWords Go.Proofs.YtidlcolgiololaaDoor.Cal Go.Proofs.YtidlcolgiololaaDoor.DiskBase Go.Proofs.YtidlcolgiololaaDoor.EvNums Go.Proofs.YtidlcolgiololaaDoor.EvBytes Go.Proofs.YtidlcolgiololaaDoor.EvRead
set_option linter.unusedVariables false
set_option linter.unusedSimpArgs false

theorem eq_out (z : Out) (h : z.2.2.2.2.2.1.length ≤ 1000) {k : Nat} (hk : 2000000 ≤ k) : laws_eqEventOut.f k z.1 z.2.1 z.2.2.1 z.2.2.2.1 z.2.2.2.2.1 z.2.2.2.2.2.1 z.2.2.2.2.2.2.1 z.2.2.2.2.2.2.2.1 z.2.2.2.2.2.2.2.2 z.1 z.2.1 z.2.2.1 z.2.2.2.1 z.2.2.2.2.1 z.2.2.2.2.2.1 z.2.2.2.2.2.2.1 z.2.2.2.2.2.2.2.1 z.2.2.2.2.2.2.2.2 = some true := by
  unfold laws_eqEventOut.f
  refine bnd (eq_event (by omega) hk) ?_
  exact yes rfl (yes rfl rfl)
theorem mark_out (z : Out) (h : z.2.2.2.2.2.1.length ≤ 1000) {k : Nat} (hk : 2000000 ≤ k) : laws_markEventOut.f k z.1 z.2.1 z.2.2.1 z.2.2.2.1 z.2.2.2.2.1 z.2.2.2.2.2.1 z.2.2.2.2.2.2.1 z.2.2.2.2.2.2.2.1 z.2.2.2.2.2.2.2.2 1 = some (1 + (z.2.2.2.2.2.1.length : Int), iota 1 z.2.2.2.2.2.1.length) := by
  unfold laws_markEventOut.f laws_markEvent.f laws_markInt64S.f
  have e := mark_l0 z.2.2.2.2.2.1 [] 1 (by rw [List.length_nil]; omega) (by omega) (by omega) k (by omega)
  rw [List.nil_append, List.nil_append] at e
  refine bnd (bnd e rfl) ?_
  rfl
theorem held_out (z : Out) {n : Nat} (h : n ≤ 1000) {k : Nat} (hk : 2000000 ≤ k) : laws_heldEventOut.f k z.1 z.2.1 z.2.2.1 z.2.2.2.1 z.2.2.2.2.1 (iota 1 n) z.2.2.2.2.2.2.1 z.2.2.2.2.2.2.2.1 z.2.2.2.2.2.2.2.2 1 = some (1 + (n : Int)) := by
  unfold laws_heldEventOut.f laws_heldEvent.f laws_heldInt64S.f
  have e := held_l0 n [] 1 (by rw [List.length_nil]; omega) (by omega) (by omega) k (by omega)
  rw [List.nil_append] at e
  refine bnd (bnd e (no (by omega) rfl)) ?_
  exact no (by omega) rfl
theorem spec_out {s : ByteArray} {k : Nat} {z : Ev} (hs : s.size ≤ 20000) (h : spec_l14Read.f k s = some z) : spec_EventRead.f k s = some (fin z) := by
  unfold spec_EventRead.f
  refine no (by omega) ?_
  refine bnd h ?_
  unfold fin
  by_cases c : z.2.2.2.2.2.2.2.2 = true
  · refine yes c ?_
    rw [if_pos c]
  · refine no c ?_
    rw [if_neg c]
    rfl
theorem same {s : ByteArray} {k : Nat} (hk : 2000200 ≤ k) : ∃ z : Out, spec_EventRead.f k s = some z ∧ impl_EventRead.f k s = some z ∧ z.2.2.2.2.2.1.length ≤ 9 := by
  by_cases c : s.size ≤ 20000
  · obtain ⟨z, e1, e2, e3⟩ := read_same c hk
    exact ⟨fin z, spec_out c e1, e2, e3⟩
  · refine ⟨(0, ⟨#[]⟩, ⟨#[]⟩, ⟨#[]⟩, ⟨#[]⟩, [], 0, 0, 2), ?_, ?_, Nat.zero_le _⟩
    · unfold spec_EventRead.f
      exact yes (by omega) rfl
    · unfold impl_EventRead.f
      exact yes (by omega) rfl
theorem FnExactEventRead : StmFnExactEventRead.Pure := by
  intro s hs
  refine ⟨2000200, ?_⟩
  unfold laws_FnExactEventRead.f
  by_cases c : (s.size : Int) > 1048576
  · exact yes c rfl
  refine no c ?_
  obtain ⟨z, e1, e2, e3⟩ := same (s := s) (Nat.le_refl 2000200)
  have h0 := held_out z (n := z.2.2.2.2.2.1.length) (k := 2000200) (by omega) (by omega)
  refine bnd e1 ?_
  refine bnd e2 ?_
  refine bnd (eq_out z (by omega) (by omega)) ?_
  refine yes rfl ?_
  refine bnd (mark_out z (by omega) (by omega)) ?_
  refine bnd h0 ?_
  refine no (by omega) ?_
  refine yes rfl ?_
  refine bnd e2 ?_
  refine bnd (eq_out z (by omega) (by omega)) ?_
  refine yes rfl ?_
  refine bnd h0 ?_
  refine no (by omega) ?_
  exact yes rfl rfl
end Go.Proofs.YtidlcolgiololaaDoor.Pure
