/- Proved: the program's EngineSame answers as the reference's does, at every two engines, and writes into none; no condition. -/
import Derived.Test.YtidlcolgiololaaS0
import Derived.Test.YtidlcolgiololaaS4
import Derived.Test.YtidlcolgiololaaS5
import Derived.Test.YtidlcolgiololaaS10
import Derived.Test.YtidlcolgiololaaS11
import Derived.Test.YtidlcolgiololaaS12
import Derived.Test.YtidlcolgiololaaS13
import Derived.Test.YtidlcolgiololaaS6
import Derived.Test.YtidlcolgiololaaS8
import Derived.Test.YtidlcolgiololaaS7
import Derived.Test.YtidlcolgiololaaS9
import Derived.Test.YtidlcolgiololaaStmFnExactEngineSame
import Derived.Test.YtidlcolgiololaaS14
import Derived.Test.YtidlcolgiololaaS15
import Derived.Test.YtidlcolgiololaaS16
import Derived.Test.YtidlcolgiololaaS17
import Derived.Test.YtidlcolgiololaaS18
import Derived.Test.YtidlcolgiololaaS19
namespace Go.Proofs.Ytidlcolgiololaa.Cal
open Go.RowKit Go.Proofs.YtidlcolgiololaaW.PrintWords
set_option linter.unusedVariables false

/-! steps: a call's answer, a test -/
theorem bnd {α β : Type} {o : Option α} {a : α} {f : α → Option β} {r : Option β} (h : o = some a) (k : f a = r) : o.bind f = r := by
  rw [h]
  exact k
theorem yes {α : Type} {c : Prop} [Decidable c] {x y r : α} (h : c) (k : x = r) : (if c then x else y) = r := by
  rw [if_pos h]
  exact k
theorem no {α : Type} {c : Prop} [Decidable c] {x y r : α} (h : ¬ c) (k : y = r) : (if c then x else y) = r := by
  rw [if_neg h]
  exact k
theorem wid {x : Int} (h : -9223372036854775808 ≤ x) (h' : x ≤ 9223372036854775807) : wrap64 x = x := by
  unfold wrap64
  omega
theorem td {a b : Int} (h : 0 ≤ a) : Int.tdiv a b = a / b := Int.tdiv_eq_ediv_of_nonneg h
theorem tm {a b : Int} (h : 0 ≤ a) : Int.tmod a b = a % b := Int.tmod_eq_emod_of_nonneg h

def lp (y : Int) : Int := if y % 4 = 0 then 1 else 0
theorem lp01 (y : Int) : 0 ≤ lp y ∧ lp y ≤ 1 := by
  unfold lp
  split <;> omega
def mlen (y m : Int) : Int :=
  if m = 2 then 28 + lp y else if m = 4 then 30 else if m = 6 then 30 else if m = 9 then 30 else if m = 11 then 30 else 31
/-- The days of a year ahead of a month. -/
def cum (y m : Int) : Int :=
  if m = 1 then 0 else if m = 2 then 31 else if m = 3 then 59 + lp y else if m = 4 then 90 + lp y else if m = 5 then 120 + lp y else if m = 6 then 151 + lp y
  else if m = 7 then 181 + lp y else if m = 8 then 212 + lp y else if m = 9 then 243 + lp y else if m = 10 then 273 + lp y else if m = 11 then 304 + lp y
  else if m = 12 then 334 + lp y else 365 + lp y
def hd (y : Int) : Int := 365 * (y - 2000) + (y - 2000 + 3) / 4
theorem months {m : Int} (h0 : 1 ≤ m) (h1 : m ≤ 12) : m = 1 ∨ m = 2 ∨ m = 3 ∨ m = 4 ∨ m = 5 ∨ m = 6 ∨ m = 7 ∨ m = 8 ∨ m = 9 ∨ m = 10 ∨ m = 11 ∨ m = 12 := by omega
theorem cum_succ (y : Int) {m : Int} (h0 : 1 ≤ m) (h1 : m ≤ 12) : cum y (m + 1) = cum y m + mlen y m := by
  rcases months h0 h1 with rfl | rfl | rfl | rfl | rfl | rfl | rfl | rfl | rfl | rfl | rfl | rfl <;> simp [cum, mlen] <;> omega
theorem rng_ite {c : Prop} [Decidable c] {a b lo hi : Int} (h : lo ≤ a ∧ a ≤ hi) (k : lo ≤ b ∧ b ≤ hi) : lo ≤ (if c then a else b) ∧ (if c then a else b) ≤ hi := by
  split
  · exact h
  · exact k
theorem mlen_range (y m : Int) : 28 ≤ mlen y m ∧ mlen y m ≤ 31 := by
  have := lp01 y
  unfold mlen
  repeat' (refine rng_ite ?_ ?_)
  all_goals omega
theorem cum_range (y m : Int) : 0 ≤ cum y m ∧ cum y m ≤ 366 := by
  have := lp01 y
  unfold cum
  repeat' (refine rng_ite ?_ ?_)
  all_goals omega
theorem cum_13 (y : Int) : cum y 13 = 365 + lp y := by simp [cum]
theorem cum_1 (y : Int) : cum y 1 = 0 := by simp [cum]
theorem cum_mono (y : Int) {a b : Int} (h0 : 1 ≤ a) (hab : a ≤ b) (h1 : b ≤ 13) : cum y a ≤ cum y b := by
  obtain ⟨n, hn⟩ : ∃ n : Nat, b = a + n := ⟨(b - a).toNat, by omega⟩
  subst hn
  induction n with
  | zero => simp
  | succ n ih =>
    have e := cum_succ y (m := a + n) (by omega) (by omega)
    have r := mlen_range y (a + n)
    have i := ih (by omega) (by omega)
    have e2 : a + ((n + 1 : Nat) : Int) = a + n + 1 := by omega
    rw [e2, e]
    omega
theorem hd_succ {y : Int} (h : 2000 ≤ y) : hd (y + 1) = hd y + 365 + lp y := by
  unfold hd lp
  split <;> omega
theorem hd_mono {a b : Int} (h0 : 2000 ≤ a) (hab : a ≤ b) : hd a ≤ hd b := by
  unfold hd
  omega
theorem hd_lt {a b : Int} (h0 : 2000 ≤ a) (hab : a < b) : hd a + 365 ≤ hd b := by
  unfold hd
  omega
theorem hd_range {y : Int} (h0 : 2000 ≤ y) (h1 : y ≤ 2100) : 0 ≤ hd y ∧ hd y ≤ 36525 := by
  unfold hd
  omega
structure Valid (y m d : Int) : Prop where
  y0 : 2000 ≤ y
  y1 : y ≤ 2099
  m0 : 1 ≤ m
  m1 : m ≤ 12
  d0 : 1 ≤ d
  d1 : d ≤ mlen y m
def num (y m d : Int) : Int := hd y + cum y m + d - 1
theorem num_bounds {y m d : Int} (h : Valid y m d) : hd y ≤ num y m d ∧ num y m d < hd (y + 1) := by
  have := cum_succ y h.m0 h.m1
  have := cum_mono y (a := m + 1) (b := 13) (by have := h.m0; omega) (by have := h.m1; omega) (by omega)
  have := cum_13 y
  have := hd_succ h.y0
  have := cum_range y m
  have := h.d0
  have := h.d1
  unfold num
  omega
theorem num_range {y m d : Int} (h : Valid y m d) : 0 ≤ num y m d ∧ num y m d ≤ 36524 := by
  have a := num_bounds h
  have b := hd_range (y := y) h.y0 (by have := h.y1; omega)
  have c := hd_mono (a := y + 1) (b := 2100) (by have := h.y0; omega) (by have := h.y1; omega)
  have d : hd 2100 = 36525 := by decide
  omega
theorem d_le {y m d : Int} (h : Valid y m d) : d ≤ 31 := by
  have := mlen_range y m
  have := h.d1
  omega
/-- Each day has a date. -/
theorem month_of (y r : Int) (h0 : 0 ≤ r) (h1 : r < 365 + lp y) : ∃ m d, 1 ≤ m ∧ m ≤ 12 ∧ 1 ≤ d ∧ d ≤ mlen y m ∧ r = cum y m + d - 1 := by
  have key : ∀ n : Nat, n ≤ 12 → r < cum y (n + 1) → ∃ m d, 1 ≤ m ∧ m ≤ 12 ∧ 1 ≤ d ∧ d ≤ mlen y m ∧ r = cum y m + d - 1 := by
    intro n
    induction n with
    | zero =>
      intro _ h
      rw [show ((0 : Nat) : Int) + 1 = 1 from rfl, cum_1] at h
      omega
    | succ n ih =>
      intro hn h
      by_cases c : r < cum y (n + 1)
      · exact ih (by omega) c
      · have e := cum_succ y (m := (n : Int) + 1) (by omega) (by omega)
        refine ⟨(n : Int) + 1, r - cum y (n + 1) + 1, by omega, by omega, by omega, ?_, by omega⟩
        have e2 : ((n + 1 : Nat) : Int) + 1 = (n : Int) + 1 + 1 := by omega
        rw [e2, e] at h
        omega
  have h12 := key 12 (by omega)
  rw [show ((12 : Nat) : Int) + 1 = 13 from rfl, cum_13] at h12
  exact h12 h1
theorem date_of (day : Int) (h0 : 0 ≤ day) (h1 : day ≤ 36524) : ∃ y m d, Valid y m d ∧ day = num y m d := by
  have hy : ∃ y, 2000 ≤ y ∧ y ≤ 2099 ∧ hd y ≤ day ∧ day < hd (y + 1) := by
    refine ⟨2000 + 4 * (day / 1461) + (if day % 1461 < 366 then 0 else 1 + (day % 1461 - 366) / 365), ?_⟩
    unfold hd
    split <;> omega
  obtain ⟨y, hy0, hy1, a, b⟩ := hy
  rw [hd_succ hy0] at b
  obtain ⟨m, d, m0, m1, d0, d1, e⟩ := month_of y (day - hd y) (by omega) (by omega)
  exact ⟨y, m, d, ⟨hy0, hy1, m0, m1, d0, d1⟩, by unfold num; omega⟩
/-- A later date is a greater number. -/
theorem num_lt {y m d y' m' d' : Int} (h : Valid y m d) (h' : Valid y' m' d') (hlt : 12 * y + m < 12 * y' + m') : num y m d < num y' m' d' := by
  have a := num_bounds h
  have b := num_bounds h'
  by_cases c : y < y'
  · have := hd_mono (a := y + 1) (b := y') (by have := h.y0; omega) (by omega)
    omega
  · have e : y = y' := by
      have := h.m0; have := h'.m1; omega
    subst e
    have e := cum_succ y h.m0 h.m1
    have f := cum_mono y (a := m + 1) (b := m') (by have := h.m0; omega) (by omega) (by have := h'.m1; omega)
    have := h.d1
    have := h'.d0
    unfold num
    omega
theorem num_inj {y m d y' m' d' : Int} (h : Valid y m d) (h' : Valid y' m' d') (e : num y m d = num y' m' d') : y = y' ∧ m = m' ∧ d = d' := by
  have a : ¬ 12 * y + m < 12 * y' + m' := fun c => by have := num_lt h h' c; omega
  have b : ¬ 12 * y' + m' < 12 * y + m := fun c => by have := num_lt h' h c; omega
  have := h.m0; have := h.m1; have := h'.m0; have := h'.m1
  have hy : y = y' := by omega
  have hm : m = m' := by omega
  subst hy hm
  unfold num at e
  exact ⟨rfl, rfl, by omega⟩
end Go.Proofs.Ytidlcolgiololaa.Cal
namespace Go.Proofs.Ytidlcolgiololaa.EgSame
open Go.RowKit Go.Proofs.Ytidlcolgiololaa.S Go.Proofs.YtidlcolgiololaaW.PrintWords Go.Proofs.YtidlcolgiololaaW.PrintMore Go.Proofs.Ytidlcolgiololaa.Cal
set_option linter.unusedVariables false
set_option linter.unusedSimpArgs false

/-! loops of one kind, told once -/
open Classical in
/-- All of the first n. -/
noncomputable def allB (n : Nat) (e : Nat → Bool) : Bool := decide (∀ j, j < n → e j = true)
theorem allB_true {n : Nat} {e : Nat → Bool} (h : ∀ j, j < n → e j = true) : allB n e = true := decide_eq_true h
theorem nxt (i : Nat) (h : i ≤ 100000000) : wrap64 ((i : Int) + 1) = ((i + 1 : Nat) : Int) := by
  rw [wid (by omega) (by omega)]
  omega
open Classical in
theorem all_from (L : Nat → Int → Option Bool) (s n K : Nat) (e : Nat → Bool) (r : Bool) (hn : n ≤ 10000000) (hs : ∀ k i, i < n → K ≤ k → L (k + s) (i : Int) = if e i = true then L k ((i + 1 : Nat) : Int) else some false)
    (he : ∀ k, K ≤ k → L (k + s) (n : Int) = some r) : ∀ d i k, i + d = n → K + s * (d + 1) ≤ k → L k (i : Int) = some (decide (∀ j, i ≤ j → j < n → e j = true) && r) := by
  intro d
  induction d with
  | zero =>
    intro i k hi hk
    obtain ⟨k, rfl⟩ : ∃ q, k = q + s := ⟨k - s, by omega⟩
    have e0 : i = n := by omega
    subst e0
    rw [he k (by omega), show decide (∀ j, i ≤ j → j < i → e j = true) = true from decide_eq_true (fun j h1 h2 => by omega), Bool.true_and]
  | succ d ih =>
    intro i k hi hk
    have hk' : K + (s * (d + 1) + s) ≤ k := by rw [Nat.mul_succ] at hk; exact hk
    obtain ⟨k, rfl⟩ : ∃ q, k = q + s := ⟨k - s, by omega⟩
    rw [hs k i (by omega) (by omega)]
    by_cases c : e i = true
    · rw [if_pos c, ih (i + 1) k (by omega) (by omega)]
      congr 2
      refine decide_eq_decide.2 ⟨fun h j h1 h2 => ?_, fun h j h1 h2 => h j (by omega) h2⟩
      by_cases q : j = i
      · rw [q]; exact c
      · exact h j (by omega) h2
    · rw [if_neg c, show decide (∀ j, i ≤ j → j < n → e j = true) = false from decide_eq_false (fun h => c (h i (Nat.le_refl _) (by omega))), Bool.false_and]
theorem all_loop {L : Nat → Int → Option Bool} {s n K : Nat} {e : Nat → Bool} {r : Bool} (hn : n ≤ 10000000) (hs : ∀ k i, i < n → K ≤ k → L (k + s) (i : Int) = if e i = true then L k ((i + 1 : Nat) : Int) else some false)
    (he : ∀ k, K ≤ k → L (k + s) (n : Int) = some r) {k : Nat} (hk : K + s * (n + 1) ≤ k) : L k 0 = some (allB n e && r) := by
  have h := all_from L s n K e r hn hs he n 0 k (by omega) hk
  rw [show ((0 : Nat) : Int) = 0 from rfl] at h
  rw [h]
  congr 2
  unfold allB
  exact decide_eq_decide.2 ⟨fun h j h2 => h j (Nat.zero_le _) h2, fun h j _ h2 => h j h2⟩
theorem make_from {β : Type} (L : Nat → List β → Int → Option (List β)) (n K : Nat) (P : β → Prop) (hn : n ≤ 10000000)
    (hs : ∀ k i (x : List β), i < n → x.length = n → K ≤ k → ∃ v, P v ∧ L (k + 1) x (i : Int) = L k (x.set i v) ((i + 1 : Nat) : Int)) (he : ∀ k x, x.length = n → L (k + 1) x (n : Int) = some x) :
    ∀ d i k (x : List β), i + d = n → K + d + 1 ≤ k → x.length = n → (∀ e ∈ x, P e) → ∃ r, L k x (i : Int) = some r ∧ r.length = n ∧ ∀ e ∈ r, P e := by
  intro d
  induction d with
  | zero =>
    intro i k x hi hk hx hp
    obtain ⟨k, rfl⟩ : ∃ q, k = q + 1 := ⟨k - 1, by omega⟩
    have e0 : i = n := by omega
    subst e0
    exact ⟨x, he k x hx, hx, hp⟩
  | succ d ih =>
    intro i k x hi hk hx hp
    obtain ⟨k, rfl⟩ : ∃ q, k = q + 1 := ⟨k - 1, by omega⟩
    obtain ⟨v, hv, e⟩ := hs k i x (by omega) hx (by omega)
    obtain ⟨r, h1, h2, h3⟩ := ih (i + 1) k (x.set i v) (by omega) (by omega) (by rw [List.length_set]; exact hx) (fun e he => by
      rcases List.mem_or_eq_of_mem_set he with h | h
      · exact hp e h
      · rw [h]; exact hv)
    exact ⟨r, e.trans h1, h2, h3⟩
theorem make_loop {β : Type} {L : Nat → List β → Int → Option (List β)} {n K : Nat} {P : β → Prop} {z : β} (hz : P z) (hn : n ≤ 10000000)
    (hs : ∀ k i (x : List β), i < n → x.length = n → K ≤ k → ∃ v, P v ∧ L (k + 1) x (i : Int) = L k (x.set i v) ((i + 1 : Nat) : Int)) (he : ∀ k x, x.length = n → L (k + 1) x (n : Int) = some x) {k : Nat} (hk : K + n + 1 ≤ k) :
    ∃ r, L k (List.replicate n z) 0 = some r ∧ r.length = n ∧ ∀ e ∈ r, P e :=
  make_from L n K P hn hs he n 0 k (List.replicate n z) (by omega) hk List.length_replicate (fun e h => by rw [(List.mem_replicate.1 h).2]; exact hz)
theorem size_from (L : Nat → Int → Int → Option Int) (n K : Nat) (Q : Nat → Prop) (B : Int) (hn : n ≤ 10000000)
    (hs : ∀ k i v, i < n → K ≤ k → 0 ≤ v → v ≤ B → ∃ v', (L (k + 1) v (i : Int) = if v' < 0 then some (-1) else L k v' ((i + 1 : Nat) : Int)) ∧ (v' < 0 ∨ (0 ≤ v' ∧ v' ≤ v ∧ Q i))) (he : ∀ k v, L (k + 1) v (n : Int) = some v) :
    ∀ d i k v, i + d = n → K + d + 1 ≤ k → 0 ≤ v → v ≤ B → ∃ r, L k v (i : Int) = some r ∧ (r < 0 ∨ (0 ≤ r ∧ r ≤ v ∧ ∀ j, i ≤ j → j < n → Q j)) := by
  intro d
  induction d with
  | zero =>
    intro i k v hi hk v0 v1
    obtain ⟨k, rfl⟩ : ∃ q, k = q + 1 := ⟨k - 1, by omega⟩
    have e0 : i = n := by omega
    subst e0
    exact ⟨v, he k v, Or.inr ⟨v0, Int.le_refl _, fun j h1 h2 => by omega⟩⟩
  | succ d ih =>
    intro i k v hi hk v0 v1
    obtain ⟨k, rfl⟩ : ∃ q, k = q + 1 := ⟨k - 1, by omega⟩
    obtain ⟨v', e, hv⟩ := hs k i v (by omega) (by omega) v0 v1
    rcases hv with hv | ⟨h0, h1, hq⟩
    · rw [if_pos hv] at e
      exact ⟨-1, e, Or.inl (by decide)⟩
    · rw [if_neg (by omega)] at e
      obtain ⟨r, e2, hr⟩ := ih (i + 1) k v' (by omega) (by omega) h0 (by omega)
      refine ⟨r, e.trans e2, ?_⟩
      rcases hr with hr | ⟨a, b, c⟩
      · exact Or.inl hr
      · refine Or.inr ⟨a, by omega, fun j j1 j2 => ?_⟩
        by_cases q : j = i
        · rw [q]; exact hq
        · exact c j (by omega) j2
theorem size_loop {L : Nat → Int → Int → Option Int} {n K : Nat} {Q : Nat → Prop} (hn : n ≤ 10000000)
    (hs : ∀ k i v, i < n → K ≤ k → 0 ≤ v → v ≤ 1048576 → ∃ v', (L (k + 1) v (i : Int) = if v' < 0 then some (-1) else L k v' ((i + 1 : Nat) : Int)) ∧ (v' < 0 ∨ (0 ≤ v' ∧ v' ≤ v ∧ Q i))) (he : ∀ k v, L (k + 1) v (n : Int) = some v)
    {k : Nat} (hk : K + n + 1 ≤ k) {v : Int} (v0 : 0 ≤ v) (v1 : v ≤ 1048576) : ∃ r, L k v 0 = some r ∧ (r < 0 ∨ (0 ≤ r ∧ r ≤ v ∧ ∀ j, j < n → Q j)) := by
  obtain ⟨r, e, h⟩ := size_from L n K Q 1048576 hn hs he n 0 k v (by omega) hk v0 v1
  exact ⟨r, e, h.imp id fun ⟨a, b, c⟩ => ⟨a, b, fun j hj => c j (Nat.zero_le _) hj⟩⟩
theorem get_mem {α : Type} {l : List α} {z : α} {i : Nat} (h : i < l.length) : l.getD ((i : Int)).toNat z ∈ l := by
  rw [Int.toNat_natCast, List.getD_eq_getElem?_getD, List.getElem?_eq_getElem h]
  exact List.getElem_mem h
/-- What is left of a number of bytes. -/
def Left (v r : Int) (Q : Prop) : Prop := r < 0 ∨ (0 ≤ r ∧ r ≤ v ∧ Q)
theorem Left.mono {v r : Int} {Q Q' : Prop} (h : Left v r Q) (k : Q → Q') : Left v r Q' := h.imp id fun ⟨a, b, c⟩ => ⟨a, b, k c⟩

/-! sizes -/
theorem sz_texts {l : List ByteArray} (hl : l.length * 16 ≤ 140737488351232) (hw : ∀ x ∈ l, x.size ≤ 140737488351232) {k : Nat} (hk : 1050000 ≤ k) {v : Int} (v0 : 0 ≤ v) (v1 : v ≤ 1048576) :
    ∃ r, laws_szStringS.f k l v = some r ∧ Left v r (l.length ≤ 1048576) := by
  unfold laws_szStringS.f
  rw [wid (x := v - (l.length : Int)) (by omega) (by omega)]
  by_cases c : v - (l.length : Int) < 0
  · exact ⟨-1, yes c rfl, Or.inl (by decide)⟩
  obtain ⟨r, e, h⟩ := size_loop (L := fun k v i => laws_szStringS.l0 k l v i) (n := l.length) (K := 0) (Q := fun _ => True) (by omega)
    (fun k i u hi _ u0 u1 => by
      have hm := hw _ (get_mem (z := ByteArray.empty) hi)
      refine ⟨u - ((rdOf ByteArray.empty l (i : Int)).size : Int), ?_, ?_⟩
      · show laws_szStringS.l0 (k + 1) l u (i : Int) = _
        rw [laws_szStringS.l0]
        refine yes (by omega) ?_
        refine yes (by omega) ?_
        have hm' : (rdOf ByteArray.empty l (i : Int)).size ≤ 140737488351232 := hm
        rw [wid (x := u - ((rdOf ByteArray.empty l (i : Int)).size : Int)) (by omega) (by omega), nxt i (by omega)]
      · by_cases q : u - ((rdOf ByteArray.empty l (i : Int)).size : Int) < 0
        · exact Or.inl q
        · exact Or.inr ⟨by omega, by omega, trivial⟩)
    (fun k u => by
      show laws_szStringS.l0 (k + 1) l u _ = _
      rw [laws_szStringS.l0]
      exact no (by omega) rfl) (k := k) (by omega) (v := v - (l.length : Int)) (by omega) (by omega)
  exact ⟨r, no c e, h.imp id fun ⟨a, b, _⟩ => ⟨a, by omega, by omega⟩⟩
theorem sz_params {l : List S181} (hl : l.length * 40 ≤ 140737488351232) (hw : ∀ x ∈ l, x.f0.size ≤ 140737488351232) {k : Nat} (hk : 1050000 ≤ k) {v : Int} (v0 : 0 ≤ v) (v1 : v ≤ 1048576) :
    ∃ r, laws_szParamS.f k l v = some r ∧ Left v r (l.length ≤ 1048576) := by
  unfold laws_szParamS.f
  rw [wid (x := v - (l.length : Int)) (by omega) (by omega)]
  by_cases c : v - (l.length : Int) < 0
  · exact ⟨-1, yes c rfl, Or.inl (by decide)⟩
  obtain ⟨r, e, h⟩ := size_loop (L := fun k v i => laws_szParamS.l0 k l v i) (n := l.length) (K := 0) (Q := fun _ => True) (by omega)
    (fun k i u hi _ u0 u1 => by
      have hm : (rd_T181 l (i : Int)).f0.size ≤ 140737488351232 := hw _ (get_mem (z := z181) hi)
      have e : ∃ t : Int, laws_szParam.f ((rd_T181 l (i : Int)).f0) ((rd_T181 l (i : Int)).f1) ((rd_T181 l (i : Int)).f2) ((rd_T181 l (i : Int)).f3) u = some t ∧ Left u t True := by
        unfold laws_szParam.f
        rw [wid (x := u - ((rd_T181 l (i : Int)).f0.size : Int)) (by omega) (by omega)]
        by_cases q : u - ((rd_T181 l (i : Int)).f0.size : Int) < 0
        · exact ⟨-1, yes q rfl, Or.inl (by decide)⟩
        · exact ⟨_, no q rfl, Or.inr ⟨by omega, by omega, trivial⟩⟩
      obtain ⟨t, e1, e2⟩ := e
      refine ⟨t, ?_, e2⟩
      show laws_szParamS.l0 (k + 1) l u (i : Int) = _
      rw [laws_szParamS.l0]
      refine yes (by omega) ?_
      refine yes (by omega) ?_
      refine bnd e1 ?_
      rw [nxt i (by omega)])
    (fun k u => by
      show laws_szParamS.l0 (k + 1) l u _ = _
      rw [laws_szParamS.l0]
      exact no (by omega) rfl) (k := k) (by omega) (v := v - (l.length : Int)) (by omega) (by omega)
  exact ⟨r, no c e, h.imp id fun ⟨a, b, _⟩ => ⟨a, by omega, by omega⟩⟩
theorem sz_nodes {l : List S183} (hl : l.length * 56 ≤ 140737488351232) (hw : ∀ x ∈ l, x.f1.size ≤ 140737488351232 ∧ x.f2.size ≤ 140737488351232) {k : Nat} (hk : 1050000 ≤ k) {v : Int} (v0 : 0 ≤ v) (v1 : v ≤ 1048576) :
    ∃ r, laws_szNodeS.f k l v = some r ∧ Left v r (l.length ≤ 1048576) := by
  unfold laws_szNodeS.f
  rw [wid (x := v - (l.length : Int)) (by omega) (by omega)]
  by_cases c : v - (l.length : Int) < 0
  · exact ⟨-1, yes c rfl, Or.inl (by decide)⟩
  obtain ⟨r, e, h⟩ := size_loop (L := fun k v i => laws_szNodeS.l0 k l v i) (n := l.length) (K := 0) (Q := fun _ => True) (by omega)
    (fun k i u hi _ u0 u1 => by
      have hm : (rd_T183 l (i : Int)).f1.size ≤ 140737488351232 ∧ (rd_T183 l (i : Int)).f2.size ≤ 140737488351232 := hw _ (get_mem (z := z183) hi)
      have e : ∃ t : Int, laws_szNode.f ((rd_T183 l (i : Int)).f0) ((rd_T183 l (i : Int)).f1) ((rd_T183 l (i : Int)).f2) ((rd_T183 l (i : Int)).f3) ((rd_T183 l (i : Int)).f4) u = some t ∧ Left u t True := by
        unfold laws_szNode.f
        rw [wid (x := u - ((rd_T183 l (i : Int)).f1.size : Int)) (by omega) (by omega)]
        by_cases q : u - ((rd_T183 l (i : Int)).f1.size : Int) < 0
        · exact ⟨-1, yes q rfl, Or.inl (by decide)⟩
        · rw [wid (x := u - ((rd_T183 l (i : Int)).f1.size : Int) - ((rd_T183 l (i : Int)).f2.size : Int)) (by omega) (by omega)]
          by_cases q2 : u - ((rd_T183 l (i : Int)).f1.size : Int) - ((rd_T183 l (i : Int)).f2.size : Int) < 0
          · exact ⟨-1, no q (yes q2 rfl), Or.inl (by decide)⟩
          · exact ⟨_, no q (no q2 rfl), Or.inr ⟨by omega, by omega, trivial⟩⟩
      obtain ⟨t, e1, e2⟩ := e
      refine ⟨t, ?_, e2⟩
      show laws_szNodeS.l0 (k + 1) l u (i : Int) = _
      rw [laws_szNodeS.l0]
      refine yes (by omega) ?_
      refine yes (by omega) ?_
      refine bnd e1 ?_
      rw [nxt i (by omega)])
    (fun k u => by
      show laws_szNodeS.l0 (k + 1) l u _ = _
      rw [laws_szNodeS.l0]
      exact no (by omega) rfl) (k := k) (by omega) (v := v - (l.length : Int)) (by omega) (by omega)
  exact ⟨r, no c e, h.imp id fun ⟨a, b, _⟩ => ⟨a, by omega, by omega⟩⟩
/-- How long a product's rows may be. -/
def Fit (p : S120) : Prop := p.f2.length ≤ 1048576 ∧ p.f3.length ≤ 1048576 ∧ p.f4.length ≤ 1048576 ∧ p.f5.length ≤ 1048576 ∧ p.f6.length ≤ 1048576 ∧ p.f7.length ≤ 1048576
/-- What reads as data is not longer than memory. -/
structure Mem (p : S120) : Prop where
  h0 : p.f0.size ≤ 140737488351232
  h2 : p.f2.length * 16 ≤ 140737488351232 ∧ ∀ x ∈ p.f2, x.size ≤ 140737488351232
  h3 : p.f3.length * 16 ≤ 140737488351232 ∧ ∀ x ∈ p.f3, x.size ≤ 140737488351232
  h4 : p.f4.length * 40 ≤ 140737488351232 ∧ ∀ x ∈ p.f4, x.f0.size ≤ 140737488351232
  h5 : p.f5.length * 56 ≤ 140737488351232 ∧ ∀ x ∈ p.f5, x.f1.size ≤ 140737488351232 ∧ x.f2.size ≤ 140737488351232
  h6 : p.f6.length * 56 ≤ 140737488351232 ∧ ∀ x ∈ p.f6, x.f1.size ≤ 140737488351232 ∧ x.f2.size ≤ 140737488351232
  h7 : p.f7.length * 56 ≤ 140737488351232 ∧ ∀ x ∈ p.f7, x.f1.size ≤ 140737488351232 ∧ x.f2.size ≤ 140737488351232
theorem sz_product {p : S120} (hp : Mem p) {k : Nat} (hk : 1050000 ≤ k) {v : Int} (v0 : 0 ≤ v) (v1 : v ≤ 1048576) :
    ∃ r, laws_szProduct.f k p.f0 p.f1 p.f2 p.f3 p.f4 p.f5 p.f6 p.f7 v = some r ∧ Left v r (Fit p) := by
  unfold laws_szProduct.f
  have h0 := hp.h0
  rw [wid (x := v - (p.f0.size : Int)) (by omega) (by omega)]
  by_cases c : v - (p.f0.size : Int) < 0
  · exact ⟨-1, yes c rfl, Or.inl (by decide)⟩
  obtain ⟨r2, e2, g2⟩ := sz_texts hp.h2.1 hp.h2.2 hk (v := v - (p.f0.size : Int)) (by omega) (by omega)
  rcases g2 with g2 | ⟨a2, b2, q2⟩
  · exact ⟨-1, no c (bnd e2 (yes g2 rfl)), Or.inl (by decide)⟩
  obtain ⟨r3, e3, g3⟩ := sz_texts hp.h3.1 hp.h3.2 hk (v := r2) (by omega) (by omega)
  rcases g3 with g3 | ⟨a3, b3, q3⟩
  · exact ⟨-1, no c (bnd e2 (no (by omega) (bnd e3 (yes g3 rfl)))), Or.inl (by decide)⟩
  obtain ⟨r4, e4, g4⟩ := sz_params hp.h4.1 hp.h4.2 hk (v := r3) (by omega) (by omega)
  rcases g4 with g4 | ⟨a4, b4, q4⟩
  · exact ⟨-1, no c (bnd e2 (no (by omega) (bnd e3 (no (by omega) (bnd e4 (yes g4 rfl)))))), Or.inl (by decide)⟩
  obtain ⟨r5, e5, g5⟩ := sz_nodes hp.h5.1 hp.h5.2 hk (v := r4) (by omega) (by omega)
  rcases g5 with g5 | ⟨a5, b5, q5⟩
  · exact ⟨-1, no c (bnd e2 (no (by omega) (bnd e3 (no (by omega) (bnd e4 (no (by omega) (bnd e5 (yes g5 rfl)))))))), Or.inl (by decide)⟩
  obtain ⟨r6, e6, g6⟩ := sz_nodes hp.h6.1 hp.h6.2 hk (v := r5) (by omega) (by omega)
  rcases g6 with g6 | ⟨a6, b6, q6⟩
  · exact ⟨-1, no c (bnd e2 (no (by omega) (bnd e3 (no (by omega) (bnd e4 (no (by omega) (bnd e5 (no (by omega) (bnd e6 (yes g6 rfl)))))))))), Or.inl (by decide)⟩
  obtain ⟨r7, e7, g7⟩ := sz_nodes hp.h7.1 hp.h7.2 hk (v := r6) (by omega) (by omega)
  rcases g7 with g7 | ⟨a7, b7, q7⟩
  · exact ⟨-1, no c (bnd e2 (no (by omega) (bnd e3 (no (by omega) (bnd e4 (no (by omega) (bnd e5 (no (by omega) (bnd e6 (no (by omega) (bnd e7 (yes g7 rfl)))))))))))), Or.inl (by decide)⟩
  · exact ⟨r7, no c (bnd e2 (no (by omega) (bnd e3 (no (by omega) (bnd e4 (no (by omega) (bnd e5 (no (by omega) (bnd e6 (no (by omega) (bnd e7 (no (by omega) rfl)))))))))))), Or.inr ⟨by omega, by omega, q2, q3, q4, q5, q6, q7⟩⟩
theorem sz_products {l : List S120} (hl : l.length * 168 ≤ 140737488351232) (hw : ∀ x ∈ l, Mem x) {k : Nat} (hk : 2110000 ≤ k) {v : Int} (v0 : 0 ≤ v) (v1 : v ≤ 1048576) :
    ∃ r, laws_szProductS.f k l v = some r ∧ Left v r (l.length ≤ 1048576 ∧ ∀ j : Nat, j < l.length → Fit (rd_T120 l (j : Int))) := by
  unfold laws_szProductS.f
  rw [wid (x := v - (l.length : Int)) (by omega) (by omega)]
  by_cases c : v - (l.length : Int) < 0
  · exact ⟨-1, yes c rfl, Or.inl (by decide)⟩
  obtain ⟨r, e, h⟩ := size_loop (L := fun k v i => laws_szProductS.l0 k l v i) (n := l.length) (K := 1050000) (Q := fun j => Fit (rd_T120 l (j : Int))) (by omega)
    (fun k i u hi hk u0 u1 => by
      have hm : Mem (rd_T120 l (i : Int)) := hw _ (get_mem (z := z120) hi)
      obtain ⟨t, e1, e2⟩ := sz_product hm hk u0 u1
      refine ⟨t, ?_, e2⟩
      show laws_szProductS.l0 (k + 1) l u (i : Int) = _
      rw [laws_szProductS.l0]
      refine yes (by omega) ?_
      refine yes (by omega) ?_
      refine bnd e1 ?_
      rw [nxt i (by omega)])
    (fun k u => by
      show laws_szProductS.l0 (k + 1) l u _ = _
      rw [laws_szProductS.l0]
      exact no (by omega) rfl) (k := k) (by omega) (v := v - (l.length : Int)) (by omega) (by omega)
  exact ⟨r, no c e, h.imp id fun ⟨a, b, q⟩ => ⟨a, by omega, by omega, q⟩⟩
theorem sz_account {p : S122} (h0 : p.f0.size ≤ 140737488351232) (h1 : p.f1.size ≤ 140737488351232) (h2 : p.f2.length * 8 ≤ 140737488351232) {v : Int} (v0 : 0 ≤ v) (v1 : v ≤ 1048576) :
    ∃ r, laws_szAccount.f p.f0 p.f1 p.f2 p.f3 p.f4 p.f5 p.f6 v = some r ∧ Left v r (p.f2.length ≤ 1048576) := by
  unfold laws_szAccount.f laws_szInt64S.f
  rw [wid (x := v - (p.f0.size : Int)) (by omega) (by omega)]
  by_cases c : v - (p.f0.size : Int) < 0
  · exact ⟨-1, yes c rfl, Or.inl (by decide)⟩
  rw [wid (x := v - (p.f0.size : Int) - (p.f1.size : Int)) (by omega) (by omega)]
  by_cases c1 : v - (p.f0.size : Int) - (p.f1.size : Int) < 0
  · exact ⟨-1, no c (yes c1 rfl), Or.inl (by decide)⟩
  rw [wid (x := v - (p.f0.size : Int) - (p.f1.size : Int) - (p.f2.length : Int)) (by omega) (by omega)]
  by_cases c2 : v - (p.f0.size : Int) - (p.f1.size : Int) - (p.f2.length : Int) < 0
  · refine ⟨-1, no c (no c1 ?_), Or.inl (by decide)⟩
    rw [if_pos c2]
    exact bnd rfl (yes (by decide) rfl)
  · refine ⟨v - (p.f0.size : Int) - (p.f1.size : Int) - (p.f2.length : Int), no c (no c1 ?_), Or.inr ⟨by omega, by omega, by omega⟩⟩
    rw [if_neg c2]
    exact bnd rfl (no c2 rfl)
theorem sz_accounts {l : List S122} (hl : l.length * 88 ≤ 140737488351232) (hw : ∀ x ∈ l, x.f0.size ≤ 140737488351232 ∧ x.f1.size ≤ 140737488351232 ∧ x.f2.length * 8 ≤ 140737488351232) {k : Nat} (hk : 1050000 ≤ k) {v : Int} (v0 : 0 ≤ v) (v1 : v ≤ 1048576) :
    ∃ r, laws_szAccountS.f k l v = some r ∧ Left v r (l.length ≤ 1048576 ∧ ∀ j : Nat, j < l.length → (rd_T122 l (j : Int)).f2.length ≤ 1048576) := by
  unfold laws_szAccountS.f
  rw [wid (x := v - (l.length : Int)) (by omega) (by omega)]
  by_cases c : v - (l.length : Int) < 0
  · exact ⟨-1, yes c rfl, Or.inl (by decide)⟩
  obtain ⟨r, e, h⟩ := size_loop (L := fun k v i => laws_szAccountS.l0 k l v i) (n := l.length) (K := 0) (Q := fun j => (rd_T122 l (j : Int)).f2.length ≤ 1048576) (by omega)
    (fun k i u hi hk u0 u1 => by
      have hm := hw _ (get_mem (z := z122) hi)
      obtain ⟨t, e1, e2⟩ := sz_account (p := rd_T122 l (i : Int)) hm.1 hm.2.1 hm.2.2 u0 u1
      refine ⟨t, ?_, e2⟩
      show laws_szAccountS.l0 (k + 1) l u (i : Int) = _
      rw [laws_szAccountS.l0]
      refine yes (by omega) ?_
      refine yes (by omega) ?_
      refine bnd e1 ?_
      rw [nxt i (by omega)])
    (fun k u => by
      show laws_szAccountS.l0 (k + 1) l u _ = _
      rw [laws_szAccountS.l0]
      exact no (by omega) rfl) (k := k) (by omega) (v := v - (l.length : Int)) (by omega) (by omega)
  exact ⟨r, no c e, h.imp id fun ⟨a, b, q⟩ => ⟨a, by omega, by omega, q⟩⟩
theorem sz_lines {l : List S152} (hl : l.length * 40 ≤ 140737488351232) (hw : ∀ x ∈ l, x.f0.f0.size ≤ 140737488351232 ∧ x.f0.f1.size ≤ 140737488351232) {k : Nat} (hk : 1050000 ≤ k) {v : Int} (v0 : 0 ≤ v) (v1 : v ≤ 1048576) :
    ∃ r, laws_szLineS.f k l v = some r ∧ Left v r (l.length ≤ 1048576) := by
  unfold laws_szLineS.f
  rw [wid (x := v - (l.length : Int)) (by omega) (by omega)]
  by_cases c : v - (l.length : Int) < 0
  · exact ⟨-1, yes c rfl, Or.inl (by decide)⟩
  obtain ⟨r, e, h⟩ := size_loop (L := fun k v i => laws_szLineS.l0 k l v i) (n := l.length) (K := 0) (Q := fun _ => True) (by omega)
    (fun k i u hi _ u0 u1 => by
      have hm : (rd_T152 l (i : Int)).f0.f0.size ≤ 140737488351232 ∧ (rd_T152 l (i : Int)).f0.f1.size ≤ 140737488351232 := hw _ (get_mem (z := z152) hi)
      have e : ∃ t : Int, laws_szLine.f ((rd_T152 l (i : Int)).f0.f0) ((rd_T152 l (i : Int)).f0.f1) ((rd_T152 l (i : Int)).f1) u = some t ∧ Left u t True := by
        unfold laws_szLine.f laws_szSpot.f
        rw [wid (x := u - ((rd_T152 l (i : Int)).f0.f0.size : Int)) (by omega) (by omega)]
        by_cases q : u - ((rd_T152 l (i : Int)).f0.f0.size : Int) < 0
        · exact ⟨-1, bnd (yes q rfl) (yes (by decide) rfl), Or.inl (by decide)⟩
        · rw [wid (x := u - ((rd_T152 l (i : Int)).f0.f0.size : Int) - ((rd_T152 l (i : Int)).f0.f1.size : Int)) (by omega) (by omega)]
          by_cases q2 : u - ((rd_T152 l (i : Int)).f0.f0.size : Int) - ((rd_T152 l (i : Int)).f0.f1.size : Int) < 0
          · exact ⟨-1, bnd (no q (yes q2 rfl)) (yes (by decide) rfl), Or.inl (by decide)⟩
          · exact ⟨_, bnd (no q (no q2 rfl)) (no q2 rfl), Or.inr ⟨by omega, by omega, trivial⟩⟩
      obtain ⟨t, e1, e2⟩ := e
      refine ⟨t, ?_, e2⟩
      show laws_szLineS.l0 (k + 1) l u (i : Int) = _
      rw [laws_szLineS.l0]
      refine yes (by omega) ?_
      refine yes (by omega) ?_
      refine bnd e1 ?_
      rw [nxt i (by omega)])
    (fun k u => by
      show laws_szLineS.l0 (k + 1) l u _ = _
      rw [laws_szLineS.l0]
      exact no (by omega) rfl) (k := k) (by omega) (v := v - (l.length : Int)) (by omega) (by omega)
  exact ⟨r, no c e, h.imp id fun ⟨a, b, _⟩ => ⟨a, by omega, by omega⟩⟩
end Go.Proofs.Ytidlcolgiololaa.EgSame
namespace Go.Proofs.Ytidlcolgiololaa.EgTell
open Go.RowKit Go.Proofs.Ytidlcolgiololaa.S Go.Proofs.YtidlcolgiololaaW.PrintWords Go.Proofs.YtidlcolgiololaaW.PrintMore Go.Proofs.Ytidlcolgiololaa.Cal Go.Proofs.Ytidlcolgiololaa.EgSame
set_option linter.unusedVariables false
set_option linter.unusedSimpArgs false

/-! laid anew -/
theorem nat_int (n : Nat) : ((n : Int)).toNat = n := Int.toNat_natCast n
theorem to_texts {l : List ByteArray} (hl : l.length ≤ 1048576) {k : Nat} (hk : 1050000 ≤ k) : ∃ r, laws_toStringS.f k l = some r ∧ r.length = l.length := by
  obtain ⟨r, e, h, _⟩ := make_loop (L := fun k x i => laws_toStringS.l0 k l x i) (n := l.length) (K := 0) (P := fun _ => True) (z := (⟨#[]⟩ : ByteArray)) trivial (by omega)
    (fun k i x hi hx _ => ⟨rdOf ByteArray.empty l (i : Int), trivial, by
      show laws_toStringS.l0 (k + 1) l x (i : Int) = _
      rw [laws_toStringS.l0]
      refine yes (by omega) ?_
      refine yes (by omega) ?_
      refine yes (by omega) ?_
      rw [nxt i (by omega), nat_int]⟩)
    (fun k x hx => by
      show laws_toStringS.l0 (k + 1) l x _ = _
      rw [laws_toStringS.l0]
      exact no (by omega) rfl) (k := k) (by omega)
  refine ⟨r, ?_, h⟩
  unfold laws_toStringS.f
  refine yes (by omega) ?_
  rw [nat_int]
  exact yes (by omega) e
theorem to_params {l : List S181} (hl : l.length ≤ 1048576) {k : Nat} (hk : 1050000 ≤ k) : ∃ r, laws_toParamS.f k l = some r ∧ r.length = l.length := by
  obtain ⟨r, e, h, _⟩ := make_loop (L := fun k x i => laws_toParamS.l0 k l x i) (n := l.length) (K := 0) (P := fun _ => True) (z := z126) trivial (by omega)
    (fun k i x hi hx _ => ⟨⟨(rd_T181 l (i : Int)).f0, (rd_T181 l (i : Int)).f1, (rd_T181 l (i : Int)).f2, (rd_T181 l (i : Int)).f3⟩, trivial, by
      show laws_toParamS.l0 (k + 1) l x (i : Int) = _
      rw [laws_toParamS.l0]
      refine yes (by omega) ?_
      refine yes (by omega) ?_
      refine bnd rfl ?_
      refine yes (by omega) ?_
      rw [nxt i (by omega), nat_int]⟩)
    (fun k x hx => by
      show laws_toParamS.l0 (k + 1) l x _ = _
      rw [laws_toParamS.l0]
      exact no (by omega) rfl) (k := k) (by omega)
  refine ⟨r, ?_, h⟩
  unfold laws_toParamS.f
  refine yes (by omega) ?_
  rw [nat_int]
  exact yes (by omega) e
theorem to_nodes {l : List S183} (hl : l.length ≤ 1048576) {k : Nat} (hk : 1050000 ≤ k) : ∃ r, laws_toNodeS.f k l = some r ∧ r.length = l.length := by
  obtain ⟨r, e, h, _⟩ := make_loop (L := fun k x i => laws_toNodeS.l0 k l x i) (n := l.length) (K := 0) (P := fun _ => True) (z := z133) trivial (by omega)
    (fun k i x hi hx _ => ⟨⟨(rd_T183 l (i : Int)).f0, (rd_T183 l (i : Int)).f1, (rd_T183 l (i : Int)).f2, (rd_T183 l (i : Int)).f3, (rd_T183 l (i : Int)).f4⟩, trivial, by
      show laws_toNodeS.l0 (k + 1) l x (i : Int) = _
      rw [laws_toNodeS.l0]
      refine yes (by omega) ?_
      refine yes (by omega) ?_
      refine bnd rfl ?_
      refine yes (by omega) ?_
      rw [nxt i (by omega), nat_int]⟩)
    (fun k x hx => by
      show laws_toNodeS.l0 (k + 1) l x _ = _
      rw [laws_toNodeS.l0]
      exact no (by omega) rfl) (k := k) (by omega)
  refine ⟨r, ?_, h⟩
  unfold laws_toNodeS.f
  refine yes (by omega) ?_
  rw [nat_int]
  exact yes (by omega) e
theorem to_ints {l : List Int} (hl : l.length ≤ 1048576) {k : Nat} (hk : 1050000 ≤ k) : ∃ r, laws_toInt64S.f k l = some r ∧ r.length = l.length := by
  obtain ⟨r, e, h, _⟩ := make_loop (L := fun k x i => laws_toInt64S.l0 k l x i) (n := l.length) (K := 0) (P := fun _ => True) (z := (0 : Int)) trivial (by omega)
    (fun k i x hi hx _ => ⟨rd l (i : Int), trivial, by
      show laws_toInt64S.l0 (k + 1) l x (i : Int) = _
      rw [laws_toInt64S.l0]
      refine yes (by omega) ?_
      refine yes (by omega) ?_
      refine yes (by omega) ?_
      rw [nxt i (by omega), nat_int]⟩)
    (fun k x hx => by
      show laws_toInt64S.l0 (k + 1) l x _ = _
      rw [laws_toInt64S.l0]
      exact no (by omega) rfl) (k := k) (by omega)
  refine ⟨r, ?_, h⟩
  unfold laws_toInt64S.f
  refine yes (by omega) ?_
  rw [nat_int]
  exact yes (by omega) e
def Fit79 (p : S79) : Prop := p.f2.length ≤ 1048576 ∧ p.f3.length ≤ 1048576 ∧ p.f4.length ≤ 1048576 ∧ p.f5.length ≤ 1048576 ∧ p.f6.length ≤ 1048576 ∧ p.f7.length ≤ 1048576
theorem to_product {p : S120} (h : Fit p) {k : Nat} (hk : 1050000 ≤ k) : ∃ q : S79, laws_toProduct.f k p.f0 p.f1 p.f2 p.f3 p.f4 p.f5 p.f6 p.f7 = some (q.f0, q.f1, q.f2, q.f3, q.f4, q.f5, q.f6, q.f7) ∧ Fit79 q := by
  obtain ⟨h2, h3, h4, h5, h6, h7⟩ := h
  obtain ⟨r2, e2, g2⟩ := to_texts h2 hk
  obtain ⟨r3, e3, g3⟩ := to_texts h3 hk
  obtain ⟨r4, e4, g4⟩ := to_params h4 hk
  obtain ⟨r5, e5, g5⟩ := to_nodes h5 hk
  obtain ⟨r6, e6, g6⟩ := to_nodes h6 hk
  obtain ⟨r7, e7, g7⟩ := to_nodes h7 hk
  refine ⟨⟨p.f0, p.f1, r2, r3, r4, r5, r6, r7⟩, ?_, by show r2.length ≤ _; omega, by show r3.length ≤ _; omega, by show r4.length ≤ _; omega, by show r5.length ≤ _; omega, by show r6.length ≤ _; omega, by show r7.length ≤ _; omega⟩
  unfold laws_toProduct.f
  exact bnd e2 (bnd e3 (bnd e4 (bnd e5 (bnd e6 (bnd e7 rfl)))))
theorem to_products {l : List S120} (hl : l.length ≤ 1048576) (hw : ∀ j : Nat, j < l.length → Fit (rd_T120 l (j : Int))) {k : Nat} (hk : 2110000 ≤ k) : ∃ r, laws_toProductS.f k l = some r ∧ r.length = l.length ∧ ∀ e ∈ r, Fit79 e := by
  obtain ⟨r, e, h, hp⟩ := make_loop (L := fun k x i => laws_toProductS.l0 k l x i) (n := l.length) (K := 1050000) (P := Fit79) (z := z79) (by unfold Fit79 z79; decide) (by omega)
    (fun k i x hi hx hk => by
      obtain ⟨q, e, hq⟩ := to_product (hw i hi) hk
      refine ⟨q, hq, ?_⟩
      show laws_toProductS.l0 (k + 1) l x (i : Int) = _
      rw [laws_toProductS.l0]
      refine yes (by omega) ?_
      refine yes (by omega) ?_
      refine bnd e ?_
      refine yes (by omega) ?_
      rw [nxt i (by omega), nat_int])
    (fun k x hx => by
      show laws_toProductS.l0 (k + 1) l x _ = _
      rw [laws_toProductS.l0]
      exact no (by omega) rfl) (k := k) (by omega)
  refine ⟨r, ?_, h, hp⟩
  unfold laws_toProductS.f
  refine yes (by omega) ?_
  rw [nat_int]
  exact yes (by omega) e
theorem to_accounts {l : List S122} (hl : l.length ≤ 1048576) (hw : ∀ j : Nat, j < l.length → (rd_T122 l (j : Int)).f2.length ≤ 1048576) {k : Nat} (hk : 2110000 ≤ k) : ∃ r, laws_toAccountS.f k l = some r ∧ r.length = l.length ∧ ∀ e ∈ r, e.f2.length ≤ 1048576 := by
  obtain ⟨r, e, h, hp⟩ := make_loop (L := fun k x i => laws_toAccountS.l0 k l x i) (n := l.length) (K := 1050000) (P := fun a : S81 => a.f2.length ≤ 1048576) (z := z81) (by decide) (by omega)
    (fun k i x hi hx hk => by
      obtain ⟨q, e, hq⟩ := to_ints (hw i hi) hk
      refine ⟨⟨(rd_T122 l (i : Int)).f0, (rd_T122 l (i : Int)).f1, q, (rd_T122 l (i : Int)).f3, (rd_T122 l (i : Int)).f4, (rd_T122 l (i : Int)).f5, (rd_T122 l (i : Int)).f6⟩, (by show q.length ≤ _; have := hw i hi; omega), ?_⟩
      show laws_toAccountS.l0 (k + 1) l x (i : Int) = _
      rw [laws_toAccountS.l0]
      refine yes (by omega) ?_
      refine yes (by omega) ?_
      refine bnd (show laws_toAccount.f _ _ _ _ _ _ _ _ = _ from bnd e rfl) ?_
      refine yes (by omega) ?_
      rw [nxt i (by omega), nat_int])
    (fun k x hx => by
      show laws_toAccountS.l0 (k + 1) l x _ = _
      rw [laws_toAccountS.l0]
      exact no (by omega) rfl) (k := k) (by omega)
  refine ⟨r, ?_, h, hp⟩
  unfold laws_toAccountS.f
  refine yes (by omega) ?_
  rw [nat_int]
  exact yes (by omega) e
theorem to_lines {l : List S152} (hl : l.length ≤ 1048576) {k : Nat} (hk : 1050000 ≤ k) : ∃ r, laws_toLineS.f k l = some r ∧ r.length = l.length := by
  obtain ⟨r, e, h, _⟩ := make_loop (L := fun k x i => laws_toLineS.l0 k l x i) (n := l.length) (K := 0) (P := fun _ => True) (z := z93) trivial (by omega)
    (fun k i x hi hx _ => ⟨⟨⟨(rd_T152 l (i : Int)).f0.f0, (rd_T152 l (i : Int)).f0.f1⟩, (rd_T152 l (i : Int)).f1⟩, trivial, by
      show laws_toLineS.l0 (k + 1) l x (i : Int) = _
      rw [laws_toLineS.l0]
      refine yes (by omega) ?_
      refine yes (by omega) ?_
      refine bnd (show laws_toLine.f _ _ _ = _ from bnd rfl rfl) ?_
      refine yes (by omega) ?_
      rw [nxt i (by omega), nat_int]⟩)
    (fun k x hx => by
      show laws_toLineS.l0 (k + 1) l x _ = _
      rw [laws_toLineS.l0]
      exact no (by omega) rfl) (k := k) (by omega)
  refine ⟨r, ?_, h⟩
  unfold laws_toLineS.f
  refine yes (by omega) ?_
  rw [nat_int]
  exact yes (by omega) e

/-! told as the same -/
def sm (a b : Nat) (x : Bool) : Bool := decide (a = b) && x
theorem sm_yes {a b : Nat} {x : Bool} (h : a = b) : sm a b x = x := by unfold sm; rw [decide_eq_true h, Bool.true_and]
theorem sm_no {a b : Nat} {x : Bool} (h : ¬ a = b) : sm a b x = false := by unfold sm; rw [decide_eq_false h, Bool.false_and]
def eT (a b : List ByteArray) (j : Nat) : Bool := decide ((rdOf ByteArray.empty a (j : Int)).toList = (rdOf ByteArray.empty b (j : Int)).toList)
noncomputable def sT (a b : List ByteArray) : Bool := sm a.length b.length (allB a.length (eT a b))
def eI (a b : List Int) (j : Nat) : Bool := decide (rd a (j : Int) = rd b (j : Int))
noncomputable def sI (a b : List Int) : Bool := sm a.length b.length (allB a.length (eI a b))
def eP (a b : List S126) (j : Nat) : Bool := !(!((((rd_T126 a (j : Int)).f0).toList) == (((rd_T126 b (j : Int)).f0).toList)) || (!(((rd_T126 a (j : Int)).f1) == ((rd_T126 b (j : Int)).f1)) || (!(((rd_T126 a (j : Int)).f2) == ((rd_T126 b (j : Int)).f2)) || (!(((rd_T126 a (j : Int)).f3) == ((rd_T126 b (j : Int)).f3))))))
noncomputable def sP (a b : List S126) : Bool := sm a.length b.length (allB a.length (eP a b))
def eN (a b : List S133) (j : Nat) : Bool := !(!(((rd_T133 a (j : Int)).f0) == ((rd_T133 b (j : Int)).f0)) || (!((((rd_T133 a (j : Int)).f1).toList) == (((rd_T133 b (j : Int)).f1).toList)) || (!((((rd_T133 a (j : Int)).f2).toList) == (((rd_T133 b (j : Int)).f2).toList)) || (!(((rd_T133 a (j : Int)).f3) == ((rd_T133 b (j : Int)).f3)) || (!(((rd_T133 a (j : Int)).f4) == ((rd_T133 b (j : Int)).f4)))))))
noncomputable def sN (a b : List S133) : Bool := sm a.length b.length (allB a.length (eN a b))
def eL (a b : List S93) (j : Nat) : Bool := !((!((((rd_T93 a (j : Int)).f0.f0).toList) == (((rd_T93 b (j : Int)).f0.f0).toList)) || (!((((rd_T93 a (j : Int)).f0.f1).toList) == (((rd_T93 b (j : Int)).f0.f1).toList)))) || (!(((rd_T93 a (j : Int)).f1) == ((rd_T93 b (j : Int)).f1))))
noncomputable def sL (a b : List S93) : Bool := sm a.length b.length (allB a.length (eL a b))
theorem ite_dec {α : Type} {p : Prop} [Decidable p] {x y : α} : (if p then x else y) = if decide p = true then x else y := by
  by_cases h : p
  · rw [if_pos h, if_pos (decide_eq_true h)]
  · rw [if_neg h, if_neg (by rw [decide_eq_false h]; decide)]
theorem ite_not {α : Type} {p : Bool} {x y : α} : (if p = true then x else y) = if (!p) = true then y else x := by
  cases p <;> rfl
theorem T_impl {a b : List ByteArray} (ha : a.length ≤ 1048576) {k : Nat} (hk : 1050000 ≤ k) : slices_Equal_string_string.f k a b = some (sT a b) := by
  unfold slices_Equal_string_string.f sT
  by_cases c : a.length = b.length
  · refine yes (by omega) ?_
    rw [sm_yes c]
    have h := all_loop (L := fun k i => slices_Equal_string_string.l0 k a b (a.length : Int) i) (s := 1) (n := a.length) (K := 0) (e := eT a b) (r := true) (by omega)
      (fun k i hi _ => by
        show slices_Equal_string_string.l0 (k + 1) a b _ (i : Int) = _
        rw [slices_Equal_string_string.l0]
        refine yes (by omega) ?_
        refine yes (by omega) ?_
        refine yes (by omega) ?_
        refine yes (by omega) ?_
        rw [nxt i (by omega)]
        exact ite_dec)
      (fun k _ => by
        show slices_Equal_string_string.l0 (k + 1) a b _ _ = _
        rw [slices_Equal_string_string.l0]
        exact no (by omega) rfl) (k := k) (by omega)
    rw [Bool.and_true] at h
    exact h
  · refine no (by omega) ?_
    rw [sm_no c]
theorem T_spec {a b : List ByteArray} (ha : a.length ≤ 1048576) {k : Nat} (hk : 1050000 ≤ k) : spec_l07SameTexts.f k a b = some (sT a b) := by
  unfold spec_l07SameTexts.f sT
  by_cases c : a.length = b.length
  · refine yes (by omega) ?_
    rw [sm_yes c]
    have h := all_loop (L := fun k i => spec_l07SameTexts.l0 k a b i) (s := 1) (n := a.length) (K := 0) (e := eT a b) (r := true) (by omega)
      (fun k i hi _ => by
        show spec_l07SameTexts.l0 (k + 1) a b (i : Int) = _
        rw [spec_l07SameTexts.l0]
        refine yes (by omega) ?_
        refine yes (by omega) ?_
        refine yes (by omega) ?_
        rw [nxt i (by omega)]
        exact ite_dec)
      (fun k _ => by
        show spec_l07SameTexts.l0 (k + 1) a b _ = _
        rw [spec_l07SameTexts.l0]
        exact no (by omega) rfl) (k := k) (by omega)
    rw [Bool.and_true] at h
    exact h
  · refine no (by omega) ?_
    rw [sm_no c]
theorem I_impl {a b : List Int} (ha : a.length ≤ 1048576) {k : Nat} (hk : 1050000 ≤ k) : slices_Equal_int64_int64.f k a b = some (sI a b) := by
  unfold slices_Equal_int64_int64.f sI
  by_cases c : a.length = b.length
  · refine yes (by omega) ?_
    rw [sm_yes c]
    have h := all_loop (L := fun k i => slices_Equal_int64_int64.l0 k a b (a.length : Int) i) (s := 1) (n := a.length) (K := 0) (e := eI a b) (r := true) (by omega)
      (fun k i hi _ => by
        show slices_Equal_int64_int64.l0 (k + 1) a b _ (i : Int) = _
        rw [slices_Equal_int64_int64.l0]
        refine yes (by omega) ?_
        refine yes (by omega) ?_
        refine yes (by omega) ?_
        refine yes (by omega) ?_
        rw [nxt i (by omega)]
        exact ite_dec)
      (fun k _ => by
        show slices_Equal_int64_int64.l0 (k + 1) a b _ _ = _
        rw [slices_Equal_int64_int64.l0]
        exact no (by omega) rfl) (k := k) (by omega)
    rw [Bool.and_true] at h
    exact h
  · refine no (by omega) ?_
    rw [sm_no c]
theorem I_spec {a b : List Int} (ha : a.length ≤ 1048576) {k : Nat} (hk : 1050000 ≤ k) : spec_l13SameNums.f k a b = some (sI a b) := by
  unfold spec_l13SameNums.f sI
  by_cases c : a.length = b.length
  · refine yes (by omega) ?_
    rw [sm_yes c]
    have h := all_loop (L := fun k i => spec_l13SameNums.l0 k a b i) (s := 1) (n := a.length) (K := 0) (e := eI a b) (r := true) (by omega)
      (fun k i hi _ => by
        show spec_l13SameNums.l0 (k + 1) a b (i : Int) = _
        rw [spec_l13SameNums.l0]
        refine yes (by omega) ?_
        refine yes (by omega) ?_
        refine yes (by omega) ?_
        rw [nxt i (by omega)]
        exact ite_dec)
      (fun k _ => by
        show spec_l13SameNums.l0 (k + 1) a b _ = _
        rw [spec_l13SameNums.l0]
        exact no (by omega) rfl) (k := k) (by omega)
    rw [Bool.and_true] at h
    exact h
  · refine no (by omega) ?_
    rw [sm_no c]
theorem P_impl {a b : List S126} (ha : a.length ≤ 1048576) {k : Nat} (hk : 1050000 ≤ k) : impl_Param.f k a b = some (sP a b) := by
  unfold impl_Param.f sP
  by_cases c : a.length = b.length
  · refine yes (by omega) ?_
    rw [sm_yes c]
    have h := all_loop (L := fun k i => impl_Param.l0 k a b (a.length : Int) i) (s := 1) (n := a.length) (K := 0) (e := eP a b) (r := true) (by omega)
      (fun k i hi _ => by
        show impl_Param.l0 (k + 1) a b _ (i : Int) = _
        rw [impl_Param.l0]
        refine yes (by omega) ?_
        refine yes (by omega) ?_
        refine yes (by omega) ?_
        refine yes (by omega) ?_
        rw [nxt i (by omega)]
        exact ite_not)
      (fun k _ => by
        show impl_Param.l0 (k + 1) a b _ _ = _
        rw [impl_Param.l0]
        exact no (by omega) rfl) (k := k) (by omega)
    rw [Bool.and_true] at h
    exact h
  · refine no (by omega) ?_
    rw [sm_no c]
theorem N_impl {a b : List S133} (ha : a.length ≤ 1048576) {k : Nat} (hk : 1050000 ≤ k) : impl_Node.f k a b = some (sN a b) := by
  unfold impl_Node.f sN
  by_cases c : a.length = b.length
  · refine yes (by omega) ?_
    rw [sm_yes c]
    have h := all_loop (L := fun k i => impl_Node.l0 k a b (a.length : Int) i) (s := 1) (n := a.length) (K := 0) (e := eN a b) (r := true) (by omega)
      (fun k i hi _ => by
        show impl_Node.l0 (k + 1) a b _ (i : Int) = _
        rw [impl_Node.l0]
        refine yes (by omega) ?_
        refine yes (by omega) ?_
        refine yes (by omega) ?_
        refine yes (by omega) ?_
        rw [nxt i (by omega)]
        exact ite_not)
      (fun k _ => by
        show impl_Node.l0 (k + 1) a b _ _ = _
        rw [impl_Node.l0]
        exact no (by omega) rfl) (k := k) (by omega)
    rw [Bool.and_true] at h
    exact h
  · refine no (by omega) ?_
    rw [sm_no c]
theorem N_spec {a b : List S133} (ha : a.length ≤ 1048576) {k : Nat} (hk : 1050000 ≤ k) : spec_l07SameNodes.f k a b = some (sN a b) := by
  unfold spec_l07SameNodes.f sN
  by_cases c : a.length = b.length
  · refine yes (by omega) ?_
    rw [sm_yes c]
    have h := all_loop (L := fun k i => spec_l07SameNodes.l0 k a b i) (s := 1) (n := a.length) (K := 0) (e := eN a b) (r := true) (by omega)
      (fun k i hi _ => by
        show spec_l07SameNodes.l0 (k + 1) a b (i : Int) = _
        rw [spec_l07SameNodes.l0]
        refine yes (by omega) ?_
        refine yes (by omega) ?_
        refine yes (by omega) ?_
        rw [nxt i (by omega)]
        exact ite_not)
      (fun k _ => by
        show spec_l07SameNodes.l0 (k + 1) a b _ = _
        rw [spec_l07SameNodes.l0]
        exact no (by omega) rfl) (k := k) (by omega)
    rw [Bool.and_true] at h
    exact h
  · refine no (by omega) ?_
    rw [sm_no c]
theorem L_impl {a b : List S93} (ha : a.length ≤ 1048576) {k : Nat} (hk : 1050000 ≤ k) : impl_Line.f k a b = some (sL a b) := by
  unfold impl_Line.f sL
  by_cases c : a.length = b.length
  · refine yes (by omega) ?_
    rw [sm_yes c]
    have h := all_loop (L := fun k i => impl_Line.l0 k a b (a.length : Int) i) (s := 1) (n := a.length) (K := 0) (e := eL a b) (r := true) (by omega)
      (fun k i hi _ => by
        show impl_Line.l0 (k + 1) a b _ (i : Int) = _
        rw [impl_Line.l0]
        refine yes (by omega) ?_
        refine yes (by omega) ?_
        refine yes (by omega) ?_
        refine yes (by omega) ?_
        rw [nxt i (by omega)]
        exact ite_not)
      (fun k _ => by
        show impl_Line.l0 (k + 1) a b _ _ = _
        rw [impl_Line.l0]
        exact no (by omega) rfl) (k := k) (by omega)
    rw [Bool.and_true] at h
    exact h
  · refine no (by omega) ?_
    rw [sm_no c]
end Go.Proofs.Ytidlcolgiololaa.EgTell
namespace Go.Proofs.Ytidlcolgiololaa.EgAll
open Go.RowKit Go.Proofs.Ytidlcolgiololaa.S Go.Proofs.YtidlcolgiololaaW.PrintWords Go.Proofs.YtidlcolgiololaaW.PrintMore Go.Proofs.Ytidlcolgiololaa.Cal Go.Proofs.Ytidlcolgiololaa.EgSame Go.Proofs.Ytidlcolgiololaa.EgTell
set_option linter.unusedVariables false
set_option linter.unusedSimpArgs false

theorem its {c : Prop} [Decidable c] {x : Option Bool} {b : Bool} (h : x = some b) : (if c then x else some false) = some (decide c && b) := by
  by_cases q : c
  · rw [if_pos q, decide_eq_true q, Bool.true_and, h]
  · rw [if_neg q, decide_eq_false q, Bool.false_and]
theorem itb {t : Bool} {x : Option Bool} {b : Bool} (h : x = some b) : (if t = true then x else some false) = some (t && b) := by
  cases t with
  | true => rw [if_pos rfl, Bool.true_and, h]
  | false => rw [if_neg (by decide), Bool.false_and]
noncomputable def pS (x y : S79) : Bool := decide (x.f0.toList = y.f0.toList) && (decide (x.f1 = y.f1) && (sT x.f2 y.f2 && (sT x.f3 y.f3 && (sP x.f4 y.f4 && (sN x.f5 y.f5 && (sN x.f6 y.f6 && sN x.f7 y.f7))))))
theorem impl_prod {x y : S79} (h : Fit79 x) {k : Nat} (hk : 1050000 ≤ k) : impl_ProductSame.f k x.f0 x.f1 x.f2 x.f3 x.f4 x.f5 x.f6 x.f7 y.f0 y.f1 y.f2 y.f3 y.f4 y.f5 y.f6 y.f7 = some (pS x y) := by
  obtain ⟨h2, h3, h4, h5, h6, h7⟩ := h
  have e : impl_sameFace.f k x.f0 x.f1 x.f2 x.f3 x.f4 x.f5 x.f6 x.f7 y.f0 y.f1 y.f2 y.f3 y.f4 y.f5 y.f6 y.f7 = some (decide (x.f1 = y.f1) && (sT x.f2 y.f2 && (sT x.f3 y.f3 && sP x.f4 y.f4))) := by
    unfold impl_sameFace.f
    exact its (bnd (T_impl h2 hk) (itb (bnd (T_impl h3 hk) (itb (bnd (P_impl h4 hk) rfl)))))
  unfold impl_ProductSame.f
  refine (its (bnd e (itb (bnd (N_impl h5 hk) (itb (bnd (N_impl h6 hk) (itb (bnd (N_impl h7 hk) rfl)))))))).trans ?_
  unfold pS
  simp only [Bool.and_assoc]
theorem spec_prod_no (k : Nat) (x y : S79) : spec_ProductSame.j0 (k + 1) true x.f0 x.f1 x.f2 x.f3 x.f4 x.f5 x.f6 x.f7 y.f0 y.f1 y.f2 y.f3 y.f4 y.f5 y.f6 y.f7 = some false := by
  rw [spec_ProductSame.j0]
  exact yes rfl rfl
theorem spec_prod {x y : S79} (h : Fit79 x) {k : Nat} (hk : 2110000 ≤ k) : spec_ProductSame.f k x.f0 x.f1 x.f2 x.f3 x.f4 x.f5 x.f6 x.f7 y.f0 y.f1 y.f2 y.f3 y.f4 y.f5 y.f6 y.f7 = some (pS x y) := by
  obtain ⟨h2, h3, h4, h5, h6, h7⟩ := h
  obtain ⟨k, rfl⟩ : ∃ q, k = q + 1 := ⟨k - 1, by omega⟩
  have no_ := spec_prod_no k x y
  unfold spec_ProductSame.f
  by_cases c0 : x.f0.toList = y.f0.toList
  case neg =>
    refine no c0 (no_.trans ?_)
    unfold pS
    rw [decide_eq_false c0, Bool.false_and]
  refine yes c0 ?_
  by_cases c1 : x.f1 = y.f1
  case neg =>
    refine no c1 (no_.trans ?_)
    unfold pS
    rw [decide_eq_false c1, Bool.false_and, Bool.and_false]
  refine yes c1 ?_
  refine bnd (T_spec h2 (by omega)) ?_
  by_cases c2 : sT x.f2 y.f2 = true
  case neg =>
    refine no c2 (no_.trans ?_)
    unfold pS
    rw [show sT x.f2 y.f2 = false by simpa using c2, Bool.false_and, Bool.and_false, Bool.and_false]
  refine yes c2 ?_
  refine bnd (T_spec h3 (by omega)) ?_
  by_cases c3 : sT x.f3 y.f3 = true
  case neg =>
    refine no c3 (no_.trans ?_)
    unfold pS
    rw [show sT x.f3 y.f3 = false by simpa using c3, Bool.false_and, Bool.and_false, Bool.and_false, Bool.and_false]
  refine yes c3 ?_
  rw [spec_ProductSame.j0]
  unfold pS sP
  rw [decide_eq_true c0, decide_eq_true c1, c2, c3]
  simp only [Bool.true_and]
  by_cases c4 : x.f4.length = y.f4.length
  case neg =>
    refine yes (bne_iff_ne.2 (by omega)) ?_
    rw [sm_no c4, Bool.false_and]
  refine no (by rw [bne_iff_ne]; omega) ?_
  rw [sm_yes c4]
  exact all_loop (L := fun k i => spec_ProductSame.l0 k i x.f0 x.f1 x.f2 x.f3 x.f4 x.f5 x.f6 x.f7 y.f0 y.f1 y.f2 y.f3 y.f4 y.f5 y.f6 y.f7) (s := 1) (n := x.f4.length) (K := 1050000) (e := eP x.f4 y.f4) (r := sN x.f5 y.f5 && (sN x.f6 y.f6 && sN x.f7 y.f7)) (by omega)
    (fun k i hi _ => by
      show spec_ProductSame.l0 (k + 1) (i : Int) _ _ _ _ _ _ _ _ _ _ _ _ _ _ _ _ = _
      rw [spec_ProductSame.l0]
      refine yes (by omega) ?_
      refine yes (by omega) ?_
      refine yes (by omega) ?_
      rw [nxt i (by omega)]
      exact ite_not)
    (fun k hk => by
      show spec_ProductSame.l0 (k + 1) _ _ _ _ _ _ _ _ _ _ _ _ _ _ _ _ _ = _
      rw [spec_ProductSame.l0]
      refine no (by omega) ?_
      exact bnd (N_spec h5 (by omega)) (itb (bnd (N_spec h6 (by omega)) (itb (bnd (N_spec h7 (by omega)) rfl))))) (k := k) (by omega)
theorem fit_at {a : List S79} (h : ∀ e ∈ a, Fit79 e) {j : Nat} (hj : j < a.length) : Fit79 (rd_T79 a (j : Int)) := h _ (get_mem (z := z79) hj)
noncomputable def eR (a b : List S79) (j : Nat) : Bool := pS (rd_T79 a (j : Int)) (rd_T79 b (j : Int))
noncomputable def sR (a b : List S79) : Bool := sm a.length b.length (allB a.length (eR a b))
theorem R_impl {a b : List S79} (ha : a.length ≤ 1048576) (hf : ∀ e ∈ a, Fit79 e) {k : Nat} (hk : 2110000 ≤ k) : impl_Product.f k a b 39 = some (sR a b) := by
  unfold impl_Product.f sR
  refine yes rfl ?_
  by_cases c : a.length = b.length
  · refine yes (by omega) ?_
    rw [sm_yes c]
    have h := all_loop (L := fun k i => impl_Product.l0 k b a (a.length : Int) i) (s := 1) (n := a.length) (K := 1050000) (e := eR a b) (r := true) (by omega)
      (fun k i hi hk => by
        show impl_Product.l0 (k + 1) b a _ (i : Int) = _
        rw [impl_Product.l0]
        refine yes (by omega) ?_
        refine yes (by omega) ?_
        refine yes (by omega) ?_
        refine yes (by omega) ?_
        refine bnd (impl_prod (fit_at hf hi) hk) ?_
        rw [nxt i (by omega)]
        rfl)
      (fun k _ => by
        show impl_Product.l0 (k + 1) b a _ _ = _
        rw [impl_Product.l0]
        exact no (by omega) rfl) (k := k) (by omega)
    rw [Bool.and_true] at h
    exact h
  · refine no (by omega) ?_
    rw [sm_no c]
noncomputable def aS (x y : S81) : Bool := decide (x.f0.toList = y.f0.toList) && (decide (x.f1.toList = y.f1.toList) && (sI x.f2 y.f2 && (decide (x.f3 = y.f3) && (decide (x.f4 = y.f4) && (decide (x.f5 = y.f5) && (x.f6 == y.f6))))))
theorem impl_acc {x y : S81} (h : x.f2.length ≤ 1048576) {k : Nat} (hk : 1050000 ≤ k) : impl_EngineSame_1.f k x.f0 x.f1 x.f2 x.f3 x.f4 x.f5 x.f6 y.f0 y.f1 y.f2 y.f3 y.f4 y.f5 y.f6 = some (aS x y) := by
  unfold impl_EngineSame_1.f aS
  exact its (its (bnd (I_impl h hk) (itb (its (its (its rfl))))))
noncomputable def eA (a b : List S81) (j : Nat) : Bool := aS (rd_T81 a (j : Int)) (rd_T81 b (j : Int))
noncomputable def sA (a b : List S81) : Bool := sm a.length b.length (allB a.length (eA a b))
theorem A_impl {a b : List S81} (ha : a.length ≤ 1048576) (hf : ∀ e ∈ a, e.f2.length ≤ 1048576) {k : Nat} (hk : 2110000 ≤ k) : impl_Account.f k a b 41 = some (sA a b) := by
  unfold impl_Account.f sA
  refine yes rfl ?_
  by_cases c : a.length = b.length
  · refine yes (by omega) ?_
    rw [sm_yes c]
    have h := all_loop (L := fun k i => impl_Account.l0 k b a (a.length : Int) i) (s := 1) (n := a.length) (K := 1050000) (e := eA a b) (r := true) (by omega)
      (fun k i hi hk => by
        show impl_Account.l0 (k + 1) b a _ (i : Int) = _
        rw [impl_Account.l0]
        refine yes (by omega) ?_
        refine yes (by omega) ?_
        refine yes (by omega) ?_
        refine yes (by omega) ?_
        refine bnd (impl_acc (hf _ (get_mem (z := z81) hi)) hk) ?_
        rw [nxt i (by omega)]
        rfl)
      (fun k _ => by
        show impl_Account.l0 (k + 1) b a _ _ = _
        rw [impl_Account.l0]
        exact no (by omega) rfl) (k := k) (by omega)
    rw [Bool.and_true] at h
    exact h
  · refine no (by omega) ?_
    rw [sm_no c]
theorem B_spec {a b : List S93} {c d : List ByteArray} (ha : a.length ≤ 1048576) (hc : c.length ≤ 1048576) {k : Nat} (hk : 1060000 ≤ k) : spec_l13SameBook.f k a c b d = some (sL a b && sT c d) := by
  obtain ⟨k, rfl⟩ : ∃ q, k = q + 1 := ⟨k - 1, by omega⟩
  unfold spec_l13SameBook.f sL
  by_cases q : a.length = b.length
  case neg =>
    refine no (by omega) ?_
    rw [spec_l13SameBook.j0, sm_no q, Bool.false_and]
    exact yes rfl rfl
  refine yes (by omega) ?_
  refine bnd (T_spec hc (by omega)) ?_
  rw [spec_l13SameBook.j0, sm_yes q]
  cases sT c d with
  | false =>
    refine yes rfl ?_
    rw [Bool.and_false]
  | true =>
    refine no (by decide) ?_
    exact all_loop (L := fun k i => spec_l13SameBook.l0 k i a c b d) (s := 1) (n := a.length) (K := 0) (e := eL a b) (r := true) (by omega)
      (fun k i hi _ => by
        show spec_l13SameBook.l0 (k + 1) (i : Int) a c b d = _
        rw [spec_l13SameBook.l0]
        refine yes (by omega) ?_
        refine yes (by omega) ?_
        refine yes (by omega) ?_
        rw [nxt i (by omega)]
        exact ite_not)
      (fun k _ => by
        show spec_l13SameBook.l0 (k + 1) _ a c b d = _
        rw [spec_l13SameBook.l0]
        exact no (by omega) rfl) (k := k) (by omega)
noncomputable def gS (a0 b0 : Int) (p q : List S79) (a b : List S81) (l m : List S93) (c d : List ByteArray) : Bool := decide (a0 = b0) && (sR p q && (sA a b && (sL l m && sT c d)))
theorem impl_all {a0 b0 : Int} {p q : List S79} {a b : List S81} {l m : List S93} {c d : List ByteArray} (hp : p.length ≤ 1048576) (fp : ∀ e ∈ p, Fit79 e) (ha : a.length ≤ 1048576) (fa : ∀ e ∈ a, e.f2.length ≤ 1048576) (hl : l.length ≤ 1048576) (hc : c.length ≤ 1048576) {k : Nat} (hk : 2110000 ≤ k) :
    impl_EngineSame.f k a0 p a l c b0 q b m d = some (gS a0 b0 p q a b l m c d) := by
  unfold impl_EngineSame.f gS
  exact its (bnd (R_impl hp fp hk) (itb (bnd (A_impl ha fa hk) (itb (bnd (L_impl hl (by omega)) (itb (bnd (T_impl hc (by omega)) rfl)))))))
theorem spec_all {a0 b0 : Int} {p q : List S79} {a b : List S81} {l m : List S93} {c d : List ByteArray} (hp : p.length ≤ 1048576) (fp : ∀ e ∈ p, Fit79 e) (ha : a.length ≤ 1048576) (fa : ∀ e ∈ a, e.f2.length ≤ 1048576) (hl : l.length ≤ 1048576) (hc : c.length ≤ 1048576) {k : Nat} (hk : 7000000 ≤ k) :
    spec_EngineSame.f k a0 p a l c b0 q b m d = some (gS a0 b0 p q a b l m c d) := by
  obtain ⟨k, rfl⟩ : ∃ q, k = q + 1 := ⟨k - 1, by omega⟩
  have no_ : spec_EngineSame.j0 (k + 1) true a0 p a l c b0 q b m d = some false := by
    rw [spec_EngineSame.j0]
    exact yes rfl rfl
  unfold spec_EngineSame.f gS sR sA
  by_cases c0 : a0 = b0
  case neg =>
    refine no c0 (no_.trans ?_)
    rw [decide_eq_false c0, Bool.false_and]
  refine yes c0 ?_
  by_cases c1 : p.length = q.length
  case neg =>
    refine no (by omega) (no_.trans ?_)
    rw [sm_no c1, Bool.false_and, Bool.and_false]
  refine yes (by omega) ?_
  by_cases c2 : a.length = b.length
  case neg =>
    refine no (by omega) (no_.trans ?_)
    rw [sm_no c2, Bool.false_and, Bool.and_false, Bool.and_false]
  refine yes (by omega) ?_
  refine bnd (B_spec hl hc (by omega)) ?_
  rw [sm_yes c1, sm_yes c2, decide_eq_true c0, Bool.true_and]
  cases sL l m && sT c d with
  | false =>
    refine no_.trans ?_
    rw [Bool.and_false, Bool.and_false]
  | true =>
    rw [spec_EngineSame.j0]
    refine no (by decide) ?_
    refine all_loop (L := fun k i => spec_EngineSame.l0 k i a0 p a l c b0 q b m d) (s := 1) (n := p.length) (K := 5000000) (e := eR p q) (r := allB a.length (eA a b) && true) (by omega)
      (fun k i hi hk => by
        show spec_EngineSame.l0 (k + 1) (i : Int) _ _ _ _ _ _ _ _ _ _ = _
        rw [spec_EngineSame.l0]
        refine yes (by omega) ?_
        refine yes (by omega) ?_
        refine yes (by omega) ?_
        refine bnd (spec_prod (fit_at fp hi) (by omega)) ?_
        rw [nxt i (by omega)]
        rfl)
      (fun k hk => by
        show spec_EngineSame.l0 (k + 1) _ _ _ _ _ _ _ _ _ _ _ = _
        rw [spec_EngineSame.l0]
        refine no (by omega) ?_
        exact all_loop (L := fun k i => spec_EngineSame.l1 k i a0 p a l c b0 q b m d) (s := 2) (n := a.length) (K := 1050000) (e := eA a b) (r := true) (by omega)
          (fun k i hi hk => by
            have hf := fa _ (get_mem (z := z81) hi)
            have no2 : spec_EngineSame.j3 (k + 1) (i : Int) true a0 p a l c b0 q b m d = some false := by
              rw [spec_EngineSame.j3]
              exact yes rfl rfl
            have e : eA a b i = aS (rd_T81 a (i : Int)) (rd_T81 b (i : Int)) := rfl
            show spec_EngineSame.l1 (k + 1 + 1) (i : Int) _ _ _ _ _ _ _ _ _ _ = _
            rw [spec_EngineSame.l1, e]
            refine yes (by omega) ?_
            refine yes (by omega) ?_
            refine yes (by omega) ?_
            have hf' : (rd_T81 a (i : Int)).f2.length ≤ 1048576 := hf
            generalize rd_T81 a (i : Int) = x at hf' ⊢
            generalize rd_T81 b (i : Int) = y
            unfold aS
            by_cases d0 : x.f0.toList = y.f0.toList
            case neg =>
              refine no d0 (no2.trans ?_)
              rw [decide_eq_false d0, Bool.false_and, if_neg (by decide)]
            refine yes d0 ?_
            by_cases d1 : x.f1.toList = y.f1.toList
            case neg =>
              refine no d1 (no2.trans ?_)
              rw [decide_eq_false d1, Bool.false_and, Bool.and_false, if_neg (by decide)]
            refine yes d1 ?_
            refine bnd (I_spec hf' (by omega)) ?_
            rw [decide_eq_true d0, decide_eq_true d1, Bool.true_and, Bool.true_and]
            cases sI x.f2 y.f2 with
            | false =>
              refine no (by decide) (no2.trans ?_)
              rw [Bool.false_and, if_neg (by decide)]
            | true =>
              refine yes rfl ?_
              rw [Bool.true_and]
              by_cases d3 : x.f3 = y.f3
              case neg =>
                refine no d3 (no2.trans ?_)
                rw [decide_eq_false d3, Bool.false_and, if_neg (by decide)]
              refine yes d3 ?_
              by_cases d4 : x.f4 = y.f4
              case neg =>
                refine no d4 (no2.trans ?_)
                rw [decide_eq_false d4, Bool.false_and, Bool.and_false, if_neg (by decide)]
              refine yes d4 ?_
              by_cases d5 : x.f5 = y.f5
              case neg =>
                refine no d5 (no2.trans ?_)
                rw [decide_eq_false d5, Bool.false_and, Bool.and_false, Bool.and_false, if_neg (by decide)]
              refine yes d5 ?_
              rw [decide_eq_true d3, decide_eq_true d4, decide_eq_true d5, Bool.true_and, Bool.true_and, Bool.true_and, spec_EngineSame.j3, nxt i (by omega)]
              cases x.f6 <;> cases y.f6 <;> rfl)
          (fun k _ => by
            show spec_EngineSame.l1 (k + 1 + 1) _ _ _ _ _ _ _ _ _ _ _ = _
            rw [spec_EngineSame.l1]
            exact no (by omega) rfl) (k := k) (by omega)) (k := k) (by omega)
end Go.Proofs.Ytidlcolgiololaa.EgAll
namespace Go.Proofs.Ytidlcolgiololaa.Pure
open Go.RowKit Go.Proofs.Ytidlcolgiololaa.S Go.Proofs.YtidlcolgiololaaW.PrintWords Go.Proofs.YtidlcolgiololaaW.PrintMore Go.Proofs.Ytidlcolgiololaa.Cal Go.Proofs.Ytidlcolgiololaa.EgSame Go.Proofs.Ytidlcolgiololaa.EgTell Go.Proofs.Ytidlcolgiololaa.EgAll Go.Proofs.Ytidlcolgiololaa.StmFnExactEngineSame
set_option linter.unusedVariables false
set_option linter.unusedSimpArgs false

/-! a value is the same as itself -/
theorem true_loop {L : Nat → Int → Option Bool} {n K : Nat} (hn : n ≤ 10000000) (hs : ∀ k i, i < n → K ≤ k → L (k + 1) (i : Int) = L k ((i + 1 : Nat) : Int)) (he : ∀ k, L (k + 1) (n : Int) = some true) {k : Nat} (hk : K + (n + 1) ≤ k) : L k 0 = some true := by
  have h := all_loop (L := L) (s := 1) (n := n) (K := K) (e := fun _ => true) (r := true) hn (fun k i hi hk => by rw [hs k i hi hk, if_pos rfl]) (fun k _ => he k) (k := k) (by omega)
  rw [h, allB_true (fun _ _ => rfl)]
  rfl
theorem eq_texts {l : List ByteArray} (hl : l.length ≤ 1048576) {k : Nat} (hk : 1050000 ≤ k) : laws_eqStringS.f k l l = some true := by
  unfold laws_eqStringS.f
  refine yes rfl ?_
  exact true_loop (L := fun k i => laws_eqStringS.l0 k l l i) (n := l.length) (K := 0) (by omega)
    (fun k i hi _ => by
      show laws_eqStringS.l0 (k + 1) l l (i : Int) = _
      rw [laws_eqStringS.l0]
      refine yes (by omega) (yes (by omega) (yes (by omega) (yes rfl ?_)))
      rw [nxt i (by omega)])
    (fun k => by
      show laws_eqStringS.l0 (k + 1) l l _ = _
      rw [laws_eqStringS.l0]
      exact no (by omega) rfl) (by omega)
theorem eq_ints {l : List Int} (hl : l.length ≤ 1048576) {k : Nat} (hk : 1050000 ≤ k) : laws_eqInt64S.f k l l = some true := by
  unfold laws_eqInt64S.f
  refine yes rfl ?_
  exact true_loop (L := fun k i => laws_eqInt64S.l0 k l l i) (n := l.length) (K := 0) (by omega)
    (fun k i hi _ => by
      show laws_eqInt64S.l0 (k + 1) l l (i : Int) = _
      rw [laws_eqInt64S.l0]
      refine yes (by omega) (yes (by omega) (yes (by omega) (yes rfl ?_)))
      rw [nxt i (by omega)])
    (fun k => by
      show laws_eqInt64S.l0 (k + 1) l l _ = _
      rw [laws_eqInt64S.l0]
      exact no (by omega) rfl) (by omega)
theorem eq_params {l : List S126} (hl : l.length ≤ 1048576) {k : Nat} (hk : 1050000 ≤ k) : laws_eqParamS.f k l l = some true := by
  unfold laws_eqParamS.f
  refine yes rfl ?_
  exact true_loop (L := fun k i => laws_eqParamS.l0 k l l i) (n := l.length) (K := 0) (by omega)
    (fun k i hi _ => by
      show laws_eqParamS.l0 (k + 1) l l (i : Int) = _
      rw [laws_eqParamS.l0]
      refine yes (by omega) (yes (by omega) (yes (by omega) (bnd (show laws_eqParam.f _ _ _ _ _ _ _ _ = some true from yes rfl (yes rfl (yes rfl (yes rfl rfl)))) (yes rfl ?_))))
      rw [nxt i (by omega)])
    (fun k => by
      show laws_eqParamS.l0 (k + 1) l l _ = _
      rw [laws_eqParamS.l0]
      exact no (by omega) rfl) (by omega)
theorem eq_nodes {l : List S133} (hl : l.length ≤ 1048576) {k : Nat} (hk : 1050000 ≤ k) : laws_eqNodeS.f k l l = some true := by
  unfold laws_eqNodeS.f
  refine yes rfl ?_
  exact true_loop (L := fun k i => laws_eqNodeS.l0 k l l i) (n := l.length) (K := 0) (by omega)
    (fun k i hi _ => by
      show laws_eqNodeS.l0 (k + 1) l l (i : Int) = _
      rw [laws_eqNodeS.l0]
      refine yes (by omega) (yes (by omega) (yes (by omega) (bnd (show laws_eqNode.f _ _ _ _ _ _ _ _ _ _ = some true from yes rfl (yes rfl (yes rfl (yes rfl (yes rfl rfl))))) (yes rfl ?_))))
      rw [nxt i (by omega)])
    (fun k => by
      show laws_eqNodeS.l0 (k + 1) l l _ = _
      rw [laws_eqNodeS.l0]
      exact no (by omega) rfl) (by omega)
theorem eq_product {x : S79} (h : Fit79 x) {k : Nat} (hk : 1050000 ≤ k) : laws_eqProduct.f k x.f0 x.f1 x.f2 x.f3 x.f4 x.f5 x.f6 x.f7 x.f0 x.f1 x.f2 x.f3 x.f4 x.f5 x.f6 x.f7 = some true := by
  obtain ⟨h2, h3, h4, h5, h6, h7⟩ := h
  unfold laws_eqProduct.f
  exact yes rfl (yes rfl (bnd (eq_texts h2 hk) (yes rfl (bnd (eq_texts h3 hk) (yes rfl (bnd (eq_params h4 hk) (yes rfl (bnd (eq_nodes h5 hk) (yes rfl (bnd (eq_nodes h6 hk) (yes rfl (bnd (eq_nodes h7 hk) (yes rfl rfl)))))))))))))
theorem eq_products {l : List S79} (hl : l.length ≤ 1048576) (hf : ∀ e ∈ l, Fit79 e) {k : Nat} (hk : 2110000 ≤ k) : laws_eqProductS.f k l l = some true := by
  unfold laws_eqProductS.f
  refine yes rfl ?_
  exact true_loop (L := fun k i => laws_eqProductS.l0 k l l i) (n := l.length) (K := 1050000) (by omega)
    (fun k i hi hk => by
      show laws_eqProductS.l0 (k + 1) l l (i : Int) = _
      rw [laws_eqProductS.l0]
      refine yes (by omega) (yes (by omega) (yes (by omega) (bnd (eq_product (fit_at hf hi) hk) (yes rfl ?_))))
      rw [nxt i (by omega)])
    (fun k => by
      show laws_eqProductS.l0 (k + 1) l l _ = _
      rw [laws_eqProductS.l0]
      exact no (by omega) rfl) (by omega)
theorem eq_account {x : S81} (h : x.f2.length ≤ 1048576) {k : Nat} (hk : 1050000 ≤ k) : laws_eqAccount.f k x.f0 x.f1 x.f2 x.f3 x.f4 x.f5 x.f6 x.f0 x.f1 x.f2 x.f3 x.f4 x.f5 x.f6 = some true := by
  unfold laws_eqAccount.f
  exact yes rfl (yes rfl (bnd (eq_ints h hk) (yes rfl (yes rfl (yes rfl (yes rfl (no (by simp) rfl)))))))
theorem eq_accounts {l : List S81} (hl : l.length ≤ 1048576) (hf : ∀ e ∈ l, e.f2.length ≤ 1048576) {k : Nat} (hk : 2110000 ≤ k) : laws_eqAccountS.f k l l = some true := by
  unfold laws_eqAccountS.f
  refine yes rfl ?_
  exact true_loop (L := fun k i => laws_eqAccountS.l0 k l l i) (n := l.length) (K := 1050000) (by omega)
    (fun k i hi hk => by
      show laws_eqAccountS.l0 (k + 1) l l (i : Int) = _
      rw [laws_eqAccountS.l0]
      refine yes (by omega) (yes (by omega) (yes (by omega) (bnd (eq_account (hf _ (get_mem (z := z81) hi)) hk) (yes rfl ?_))))
      rw [nxt i (by omega)])
    (fun k => by
      show laws_eqAccountS.l0 (k + 1) l l _ = _
      rw [laws_eqAccountS.l0]
      exact no (by omega) rfl) (by omega)
theorem eq_lines {l : List S93} (hl : l.length ≤ 1048576) {k : Nat} (hk : 1050000 ≤ k) : laws_eqLineS.f k l l = some true := by
  unfold laws_eqLineS.f
  refine yes rfl ?_
  exact true_loop (L := fun k i => laws_eqLineS.l0 k l l i) (n := l.length) (K := 0) (by omega)
    (fun k i hi _ => by
      show laws_eqLineS.l0 (k + 1) l l (i : Int) = _
      rw [laws_eqLineS.l0]
      refine yes (by omega) (yes (by omega) (yes (by omega) (bnd (show laws_eqLine.f _ _ _ _ _ _ = some true from bnd (show laws_eqSpot.f _ _ _ _ = some true from yes rfl (yes rfl rfl)) (yes rfl (yes rfl rfl))) (yes rfl ?_))))
      rw [nxt i (by omega)])
    (fun k => by
      show laws_eqLineS.l0 (k + 1) l l _ = _
      rw [laws_eqLineS.l0]
      exact no (by omega) rfl) (by omega)
/-- An engine that is laid anew. -/
structure Eng where
  p : List S79
  a : List S81
  l : List S93
  c : List ByteArray
structure Eng.Ok (g : Eng) : Prop where
  hp : g.p.length ≤ 1048576
  fp : ∀ e ∈ g.p, Fit79 e
  ha : g.a.length ≤ 1048576
  fa : ∀ e ∈ g.a, e.f2.length ≤ 1048576
  hl : g.l.length ≤ 1048576
  hc : g.c.length ≤ 1048576
theorem eq_engine (n : Int) {g : Eng} (h : g.Ok) {k : Nat} (hk : 2110000 ≤ k) : laws_eqEngine.f k n g.p g.a g.l g.c n g.p g.a g.l g.c = some true := by
  unfold laws_eqEngine.f
  refine yes rfl (bnd (eq_products h.hp h.fp hk) (yes rfl (bnd (eq_accounts h.ha h.fa hk) (yes rfl (bnd (show laws_eqBook.f _ _ _ _ _ = some true from ?_) (yes rfl rfl))))))
  unfold laws_eqBook.f
  exact bnd (eq_lines h.hl (by omega)) (yes rfl (bnd (eq_texts h.hc (by omega)) (yes rfl rfl)))
/-- What reads as data: an engine's rows. -/
structure Came (p : List S120) (a : List S122) (l : List S152) (c : List ByteArray) : Prop where
  p1 : p.length * 168 ≤ 140737488351232
  p2 : ∀ x ∈ p, Mem x
  a1 : a.length * 88 ≤ 140737488351232
  a2 : ∀ x ∈ a, x.f0.size ≤ 140737488351232 ∧ x.f1.size ≤ 140737488351232 ∧ x.f2.length * 8 ≤ 140737488351232
  l1 : l.length * 40 ≤ 140737488351232
  l2 : ∀ x ∈ l, x.f0.f0.size ≤ 140737488351232 ∧ x.f0.f1.size ≤ 140737488351232
  c1 : c.length * 16 ≤ 140737488351232
  c2 : ∀ x ∈ c, x.size ≤ 140737488351232
theorem sz_engine (n : Int) {p : List S120} {a : List S122} {l : List S152} {c : List ByteArray} (h : Came p a l c) {k : Nat} (hk : 2110000 ≤ k) {v : Int} (v0 : 0 ≤ v) (v1 : v ≤ 1048576) :
    ∃ r, laws_szEngine.f k n p a l c v = some r ∧ (r < 0 ∨ (0 ≤ r ∧ r ≤ v ∧ ∃ g : Eng, g.Ok ∧ ∀ k, 2110000 ≤ k → ∃ g : Eng, g.Ok ∧ laws_toEngine.f k n p a l c = some (n, g.p, g.a, g.l, g.c))) := by
  unfold laws_szEngine.f
  obtain ⟨r1, e1, g1⟩ := sz_products h.p1 h.p2 hk v0 v1
  rcases g1 with g1 | ⟨x1, y1, q1, w1⟩
  · exact ⟨-1, bnd e1 (yes g1 rfl), Or.inl (by decide)⟩
  obtain ⟨r2, e2, g2⟩ := sz_accounts h.a1 h.a2 (k := k) (by omega) (v := r1) (by omega) (by omega)
  rcases g2 with g2 | ⟨x2, y2, q2, w2⟩
  · exact ⟨-1, bnd e1 (no (by omega) (bnd e2 (yes g2 rfl))), Or.inl (by decide)⟩
  obtain ⟨r3, e3, g3⟩ := sz_lines h.l1 h.l2 (k := k) (by omega) (v := r2) (by omega) (by omega)
  rcases g3 with g3 | ⟨x3, y3, q3⟩
  · refine ⟨-1, bnd e1 (no (by omega) (bnd e2 (no (by omega) (bnd (show laws_szBook.f k l c r2 = some (-1) from ?_) (yes (by decide) rfl))))), Or.inl (by decide)⟩
    unfold laws_szBook.f
    exact bnd e3 (yes g3 rfl)
  obtain ⟨r4, e4, g4⟩ := sz_texts h.c1 h.c2 (k := k) (by omega) (v := r3) (by omega) (by omega)
  rcases g4 with g4 | ⟨x4, y4, q4⟩
  · refine ⟨-1, bnd e1 (no (by omega) (bnd e2 (no (by omega) (bnd (show laws_szBook.f k l c r2 = some (-1) from ?_) (yes (by decide) rfl))))), Or.inl (by decide)⟩
    unfold laws_szBook.f
    exact bnd e3 (no (by omega) (bnd e4 (yes g4 rfl)))
  have all : ∀ k, 2110000 ≤ k → ∃ g : Eng, g.Ok ∧ laws_toEngine.f k n p a l c = some (n, g.p, g.a, g.l, g.c) := by
    intro k hk
    obtain ⟨s1, f1, l1, m1⟩ := to_products q1 w1 hk
    obtain ⟨s2, f2, l2, m2⟩ := to_accounts q2 w2 hk
    obtain ⟨s3, f3, l3⟩ := to_lines q3 (k := k) (by omega)
    obtain ⟨s4, f4, l4⟩ := to_texts q4 (k := k) (by omega)
    refine ⟨⟨s1, s2, s3, s4⟩, ⟨by show s1.length ≤ _; omega, m1, by show s2.length ≤ _; omega, m2, by show s3.length ≤ _; omega, by show s4.length ≤ _; omega⟩, ?_⟩
    unfold laws_toEngine.f
    exact bnd f1 (bnd f2 (bnd (show laws_toBook.f k l c = some (s3, s4) from bnd f3 (bnd f4 rfl)) rfl))
  refine ⟨r4, bnd e1 (no (by omega) (bnd e2 (no (by omega) (bnd (show laws_szBook.f k l c r2 = some r4 from ?_) (no (by omega) rfl))))), Or.inr ⟨by omega, by omega, ?_⟩⟩
  · unfold laws_szBook.f
    exact bnd e3 (no (by omega) (bnd e4 (no (by omega) rfl)))
  · obtain ⟨g, hg, _⟩ := all 2110000 (Nat.le_refl _)
    exact ⟨g, hg, all⟩
theorem came {n : Int} {p : List S120} {a : List S122} {l : List S152} {c : List ByteArray}
    (h : (p.length * 168 ≤ 140737488351232 ∧ ∀ y ∈ p, Ok120 y) ∧ (a.length * 88 ≤ 140737488351232 ∧ ∀ y ∈ a, Ok122 y) ∧ (l.length * 40 ≤ 140737488351232 ∧ ∀ y ∈ l, Ok152 y) ∧ (c.length * 16 ≤ 140737488351232 ∧ ∀ y ∈ c, y.size ≤ 140737488351232)) : Came p a l c := by
  obtain ⟨⟨p1, p2⟩, ⟨a1, a2⟩, ⟨l1, l2⟩, ⟨c1, c2⟩⟩ := h
  refine ⟨p1, fun x hx => ?_, a1, fun x hx => ?_, l1, fun x hx => ?_, c1, c2⟩
  · obtain ⟨h0, _, h2, h3, ⟨h4, w4⟩, ⟨h5, w5⟩, ⟨h6, w6⟩, ⟨h7, w7⟩⟩ := p2 x hx
    exact ⟨h0, h2, h3, ⟨h4, fun y hy => (w4 y hy).1⟩, ⟨h5, fun y hy => ⟨(w5 y hy).2.1, (w5 y hy).2.2.1⟩⟩, ⟨h6, fun y hy => ⟨(w6 y hy).2.1, (w6 y hy).2.2.1⟩⟩, ⟨h7, fun y hy => ⟨(w7 y hy).2.1, (w7 y hy).2.2.1⟩⟩⟩
  · obtain ⟨h0, h1, ⟨h2, _⟩, _⟩ := a2 x hx
    exact ⟨h0, h1, h2⟩
  · obtain ⟨⟨h0, h1⟩, _⟩ := l2 x hx
    exact ⟨h0, h1⟩
theorem FnExactEngineSame : StmFnExactEngineSame.Pure := by
  intro n p a l c n' p' a' l' c' hx hy
  have hc : Came p a l c := came (n := n) hx.2
  have hc' : Came p' a' l' c' := came (n := n') hy.2
  clear hx hy
  refine ⟨7000000, ?_⟩
  unfold laws_FnExactEngineSame.f
  obtain ⟨r, e, h⟩ := sz_engine n hc (k := 7000000) (by omega) (v := 1048576) (by omega) (by omega)
  rcases h with h | ⟨r0, r1, _, _, tt⟩
  · exact bnd e (yes h rfl)
  obtain ⟨r', e', h'⟩ := sz_engine n' hc' (k := 7000000) (by omega) (v := r) (by omega) (by omega)
  rcases h' with h' | ⟨r0', r1', _, _, tt'⟩
  · exact bnd e (no (by omega) (bnd e' (yes h' rfl)))
  obtain ⟨g, hg, f⟩ := tt 7000000 (by omega)
  obtain ⟨g', hg', f'⟩ := tt' 7000000 (by omega)
  have s := spec_all (a0 := n) (b0 := n') (q := g'.p) (b := g'.a) (m := g'.l) (d := g'.c) hg.hp hg.fp hg.ha hg.fa hg.hl hg.hc (k := 7000000) (by omega)
  have i := impl_all (a0 := n) (b0 := n') (q := g'.p) (b := g'.a) (m := g'.l) (d := g'.c) hg.hp hg.fp hg.ha hg.fa hg.hl hg.hc (k := 7000000) (by omega)
  have q := eq_engine n hg (k := 7000000) (by omega)
  have q' := eq_engine n' hg' (k := 7000000) (by omega)
  refine bnd e (no (by omega) (bnd e' (no (by omega) ?_)))
  refine bnd f (bnd f' (bnd s (bnd f (bnd f' (bnd i ?_)))))
  refine no (by simp) ?_
  exact bnd f (bnd q (yes rfl (bnd f' (bnd q' (yes rfl rfl)))))
end Go.Proofs.Ytidlcolgiololaa.Pure
