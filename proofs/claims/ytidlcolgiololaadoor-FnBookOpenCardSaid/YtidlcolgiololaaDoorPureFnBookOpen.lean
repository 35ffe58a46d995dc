/- Proved: the law BookOpen, in plain Lean: a line opened in a drawn book that is right has the balance nought, and all others are as they were; no condition. -/
import Derived.Test.YtidlcolgiololaaDoorS0
import Derived.Lib.SlTrimSet
import Derived.Test.YtidlcolgiololaaDoorS14
import Derived.Test.YtidlcolgiololaaDoorS3
import Derived.Test.YtidlcolgiololaaDoorS15
import Derived.Test.YtidlcolgiololaaDoorS4
import Derived.Test.YtidlcolgiololaaDoorS5
import Derived.Test.YtidlcolgiololaaDoorS16
import Derived.Test.YtidlcolgiololaaDoorS17
import Derived.Test.YtidlcolgiololaaDoorS18
import Derived.Test.YtidlcolgiololaaDoorS6
import Derived.Test.YtidlcolgiololaaDoorS7
import Derived.Test.YtidlcolgiololaaDoorS8
import Derived.Test.YtidlcolgiololaaDoorS11
import Derived.Test.YtidlcolgiololaaDoorS12
import Derived.Test.YtidlcolgiololaaDoorS10
import Derived.Test.YtidlcolgiololaaDoorS9
import Derived.Test.YtidlcolgiololaaDoorS13
import Derived.Test.YtidlcolgiololaaDoorStmFnBookOpen
import Derived.Test.YtidlcolgiololaaDoorS19
namespace Go.Proofs.YtidlcolgiololaaDoor.Cal
open Go.RowKit Go.Proofs.YtidlcolgiololaaDoorW.PrintWords
set_option linter.unusedVariables false
theorem bnd {α β : Type} {o : Option α} {a : α} {f : α → Option β} {r : Option β} (h : o = some a) (k : f a = r) : o.bind f = r := by
  rw [h]
  exact k
theorem yes {α : Type} {c : Prop} [Decidable c] {x y r : α} (h : c) (k : x = r) : (if c then x else y) = r := by
  rw [if_pos h]
  exact k
theorem no {α : Type} {c : Prop} [Decidable c] {x y r : α} (h : ¬ c) (k : y = r) : (if c then x else y) = r := by
  rw [if_neg h]
  exact k
theorem wid {x : Int} (h : -9223372036854775808 ≤ x) (h' : x ≤ 9223372036854775807) : wrap64 x = x := by
  unfold wrap64
  omega
theorem tm {a b : Int} (h : 0 ≤ a) : Int.tmod a b = a % b := Int.tmod_eq_emod_of_nonneg h
end Go.Proofs.YtidlcolgiololaaDoor.Cal
namespace Go.Proofs.YtidlcolgiololaaDoor.DiskBase
open Go.RowKit Go.Proofs.YtidlcolgiololaaDoor.S Go.Proofs.YtidlcolgiololaaDoorW.PrintWords Go.Proofs.YtidlcolgiololaaDoor.Cal
set_option linter.unusedVariables false
set_option linter.unusedSimpArgs false
def tot : List ByteArray → Nat
  | [] => 0
  | x :: r => x.size + tot r
theorem nxt {α : Type} (pre : List α) (x : α) (h : pre.length ≤ 100000000) : wrap64 ((pre.length : Int) + 1) = ((pre ++ [x]).length : Int) := by
  rw [wid (by omega) (by omega), List.length_append]
  rfl
theorem snoc {α : Type} (pre tl : List α) (x : α) : pre ++ x :: tl = (pre ++ [x]) ++ tl := by rw [List.append_assoc]; rfl
theorem toList_data (s : ByteArray) : s.toList = s.data.toList := Lib.toList_data s
end Go.Proofs.YtidlcolgiololaaDoor.DiskBase
namespace Go.Proofs.YtidlcolgiololaaDoor.BkLoops
def Fit (a b : ByteArray) : Prop := a.size ≤ 1048576 ∧ b.size ≤ 1048576
end Go.Proofs.YtidlcolgiololaaDoor.BkLoops
namespace Go.Proofs.YtidlcolgiololaaDoor.Bk
open Go Go.RowKit
set_option linter.unusedVariables false
set_option linter.unusedSimpArgs false
abbrev lt (x y : List UInt8) : Bool := Op.bytesLess x y
theorem lt_irrefl : ∀ x : List UInt8, lt x x = false
  | [] => rfl
  | a :: x => by
    have h2 : ¬ a < a := fun q => by have := UInt8.lt_iff_toNat_lt.1 q; omega
    have ih := lt_irrefl x
    simp only [lt, Op.bytesLess] at ih ⊢
    simp [h2, ih]
theorem lt_cons {a b : UInt8} {x y : List UInt8} : lt (a :: x) (b :: y) = true ↔ a.toNat < b.toNat ∨ (a = b ∧ lt x y = true) := by
  simp only [lt, Op.bytesLess, Bool.or_eq_true, Bool.and_eq_true, decide_eq_true_eq, beq_iff_eq, UInt8.lt_iff_toNat_lt]
theorem lt_trans : ∀ {x y z : List UInt8}, lt x y = true → lt y z = true → lt x z = true
  | [], [], _, h, _ => by cases h
  | _ :: _, [], _, h, _ => by cases h
  | _, _ :: _, [], _, h => by cases h
  | [], _ :: _, _ :: _, _, _ => rfl
  | a :: x, b :: y, c :: z, h, h' => by
    rw [lt_cons] at h h' ⊢
    rcases h with h | ⟨rfl, h⟩
    · rcases h' with h' | ⟨rfl, h'⟩
      · exact .inl (by omega)
      · exact .inl h
    · rcases h' with h' | ⟨rfl, h'⟩
      · exact .inl h'
      · exact .inr ⟨rfl, lt_trans h h'⟩
theorem lt_total : ∀ {x y : List UInt8}, lt x y = false → lt y x = false → x = y
  | [], [], _, _ => rfl
  | [], _ :: _, h, _ => by cases h
  | _ :: _, [], _, h => by cases h
  | a :: x, b :: y, h, h' => by
    have g : ¬ (a.toNat < b.toNat ∨ (a = b ∧ lt x y = true)) := fun q => by rw [← lt_cons] at q; rw [q] at h; cases h
    have g' : ¬ (b.toNat < a.toNat ∨ (b = a ∧ lt y x = true)) := fun q => by rw [← lt_cons] at q; rw [q] at h'; cases h'
    have e : a = b := UInt8.toNat_inj.1 (by omega)
    subst e
    rw [lt_total (x := x) (y := y) (by cases q : lt x y with | false => rfl | true => exact absurd (.inr ⟨rfl, q⟩) g) (by cases q : lt y x with | false => rfl | true => exact absurd (.inr ⟨rfl, q⟩) g')]
def sl (a b c d : List UInt8) : Bool := lt a c || (decide (a = c) && lt b d)
theorem sl_iff {a b c d : List UInt8} : sl a b c d = true ↔ lt a c = true ∨ (a = c ∧ lt b d = true) := by
  unfold sl
  simp only [Bool.or_eq_true, Bool.and_eq_true, decide_eq_true_eq]
theorem sl_trans {a b c d e f : List UInt8} (h : sl a b c d = true) (h' : sl c d e f = true) : sl a b e f = true := by
  rw [sl_iff] at h h' ⊢
  rcases h with h | ⟨rfl, h⟩
  · rcases h' with h' | ⟨rfl, h'⟩
    · exact .inl (lt_trans h h')
    · exact .inl h
  · rcases h' with h' | ⟨rfl, h'⟩
    · exact .inl h'
    · exact .inr ⟨rfl, lt_trans h h'⟩
theorem sl_irrefl (a b : List UInt8) : sl a b a b = false := by
  cases q : sl a b a b with
  | false => rfl
  | true =>
    rw [sl_iff, lt_irrefl, lt_irrefl] at q
    rcases q with q | ⟨_, q⟩ <;> cases q
def cp (x y : List UInt8) : Int := if lt x y = true then -1 else if lt y x = true then 1 else 0
def od (a b c d : List UInt8) : Int := if cp a c = 0 then cp b d else cp a c
theorem cp_neg {x y : List UInt8} : cp x y < 0 ↔ lt x y = true := by
  unfold cp
  split
  · exact ⟨fun _ => ‹_›, fun _ => by decide⟩
  · split
    · exact ⟨fun h => absurd h (by decide), fun h => absurd h ‹_›⟩
    · exact ⟨fun h => absurd h (by decide), fun h => absurd h ‹_›⟩
theorem cp_zero {x y : List UInt8} : cp x y = 0 ↔ x = y := by
  unfold cp
  constructor
  · intro h
    split at h
    · cases h
    · split at h
      · cases h
      · exact lt_total (by simpa using ‹¬ lt x y = true›) (by simpa using ‹¬ lt y x = true›)
  · rintro rfl
    rw [lt_irrefl]
    rfl
theorem od_neg {a b c d : List UInt8} : od a b c d < 0 ↔ sl a b c d = true := by
  rw [sl_iff]
  unfold od
  by_cases h : cp a c = 0
  · rw [if_pos h, cp_neg]
    have e := cp_zero.1 h
    subst e
    rw [lt_irrefl]
    exact ⟨fun q => .inr ⟨rfl, q⟩, fun q => q.elim (fun z => by cases z) (fun z => z.2)⟩
  · rw [if_neg h, cp_neg]
    exact ⟨.inl, fun q => q.elim id (fun z => absurd (cp_zero.2 z.1) h)⟩
theorem od_zero {a b c d : List UInt8} : od a b c d = 0 ↔ a = c ∧ b = d := by
  unfold od
  by_cases h : cp a c = 0
  · rw [if_pos h, cp_zero]
    exact ⟨fun q => ⟨cp_zero.1 h, q⟩, fun q => q.2⟩
  · rw [if_neg h]
    exact ⟨fun q => absurd q h, fun q => absurd (cp_zero.2 q.1) h⟩
end Go.Proofs.YtidlcolgiololaaDoor.Bk
namespace Go.Proofs.YtidlcolgiololaaDoor.NameSame
open Go.RowKit Go.Proofs.YtidlcolgiololaaDoor.S Go.Proofs.YtidlcolgiololaaDoorW.PrintWords Go.Proofs.YtidlcolgiololaaDoor.Cal Go.Proofs.YtidlcolgiololaaDoor.DiskBase
set_option linter.unusedVariables false
set_option linter.unusedSimpArgs false
def letters : List UInt8 := [97, 98, 99, 100, 101, 102, 103, 104, 105, 106, 107, 108, 109, 110, 111, 112, 113, 114, 115, 116, 117, 118, 119, 120, 121, 122]
def signs : List UInt8 := [97, 98, 99, 100, 101, 102, 103, 104, 105, 106, 107, 108, 109, 110, 111, 112, 113, 114, 115, 116, 117, 118, 119, 120, 121, 122, 48, 49, 50, 51, 52, 53, 54, 55, 56, 57, 95]
def ok1 (b : UInt8) : Bool := decide (97 ≤ b.toNat ∧ b.toNat ≤ 122)
def ok2 (b : UInt8) : Bool := decide ((97 ≤ b.toNat ∧ b.toNat ≤ 122) ∨ (48 ≤ b.toNat ∧ b.toNat ≤ 57) ∨ b.toNat = 95)
theorem ok12 {b : UInt8} (h : ok1 b = true) : ok2 b = true := by
  unfold ok1 at h
  unfold ok2
  rw [decide_eq_true_eq] at h ⊢
  exact Or.inl h
theorem all_bytes {p : UInt8 → Bool} (h : ∀ n : Nat, n < 256 → p (UInt8.ofNat n) = true) (b : UInt8) : p b = true := by
  have := h b.toNat b.toNat_lt
  rwa [UInt8.ofNat_toNat] at this
theorem letters_ok (b : UInt8) : letters.contains b = ok1 b := by
  have := all_bytes (p := fun b => letters.contains b == ok1 b) (by decide +kernel) b
  exact beq_iff_eq.1 this
theorem signs_ok (b : UInt8) : signs.contains b = ok2 b := by
  have := all_bytes (p := fun b => signs.contains b == ok2 b) (by decide +kernel) b
  exact beq_iff_eq.1 this
theorem dw_all {p : UInt8 → Bool} : ∀ l : List UInt8, (l.dropWhile p).all p = true → l.all p = true
  | [], _ => rfl
  | x :: r, h => by
    cases hx : p x with
    | false =>
      rw [List.dropWhile_cons_of_neg (by simp [hx])] at h
      exact h
    | true =>
      rw [List.dropWhile_cons_of_pos hx] at h
      rw [List.all_cons, hx, dw_all r h]
      rfl
theorem dw_nil {p : UInt8 → Bool} : ∀ l : List UInt8, l.all p = true → l.dropWhile p = []
  | [], _ => rfl
  | x :: r, h => by
    rw [List.all_cons, Bool.and_eq_true] at h
    rw [List.dropWhile_cons_of_pos h.1]
    exact dw_nil r h.2
theorem trim_nil (l cs : List UInt8) : Lib.trimS l cs = [] ↔ l.all (fun b => cs.contains b) = true := by
  unfold Lib.trimS Lib.trimLeftS Lib.trimRightS
  constructor
  · intro h
    have h1 := dw_all (p := fun b => cs.contains b) ((l.reverse.dropWhile (fun b => cs.contains b)).reverse) (by rw [h]; rfl)
    rw [List.all_reverse] at h1
    have h2 := dw_all _ h1
    rwa [List.all_reverse] at h2
  · intro h
    have h1 : l.reverse.all (fun b => cs.contains b) = true := by rw [List.all_reverse]; exact h
    rw [dw_nil _ h1]
    rfl
def nm : List UInt8 → Bool
  | [] => false
  | x :: r => decide (r.length ≤ 19) && (ok1 x && r.all ok2)
theorem nm_cons (x : UInt8) (r : List UInt8) : nm (x :: r) = (decide (r.length ≤ 19) && (ok1 x && r.all ok2)) := rfl
theorem size_data (s : ByteArray) : s.size = s.data.toList.length := by
  rw [Array.length_toList]
  rfl
theorem trim_val {s c : ByteArray} (h : s.size ≤ 1048576) (hc : c.size ≤ 100) (ha : (c.data.toList.all fun b => decide (b.toNat < 128)) = true) : strings_Trim.f s c = some ⟨(Lib.trimS s.data.toList c.data.toList).toArray⟩ := by
  unfold strings_Trim.f
  exact if_pos ⟨by omega, by omega, ha⟩
theorem impl_name {s : ByteArray} (h : s.size ≤ 1048576) : impl_NameRight.f s = some (nm s.data.toList) := by
  unfold impl_NameRight.f
  have hz := size_data s
  cases hl : s.data.toList with
  | nil =>
    rw [hl] at hz
    have hz' : s.size = 0 := hz
    refine yes (by omega) ?_
    refine bnd (a := false) ?_ rfl
    unfold impl_isWord.f
    exact yes (by rw [toList_data, hl]) rfl
  | cons x r =>
    rw [hl] at hz
    have hz' : s.size = r.length + 1 := hz
    by_cases c : r.length ≤ 19
    case neg =>
      refine no (by omega) ?_
      rw [nm_cons]
      rw [decide_eq_false c]
      rfl
    refine yes (by omega) ?_
    refine bnd (a := nm (x :: r)) ?_ rfl
    unfold impl_isWord.f
    refine no (by rw [toList_data, hl]; exact List.cons_ne_nil _ _) ?_
    refine yes (by omega) ?_
    refine yes (by omega) ?_
    have e1 : (s.extract 0 1).data.toList = [x] := by
      simp only [ByteArray.data_extract, Array.toList_extract, List.extract_eq_take_drop, hl]
      rfl
    have t1 := trim_val (s := s.extract 0 1) (c := ⟨#[97, 98, 99, 100, 101, 102, 103, 104, 105, 106, 107, 108, 109, 110, 111, 112, 113, 114, 115, 116, 117, 118, 119, 120, 121, 122]⟩) (by rw [size_data, e1]; simp) (by decide) (by decide)
    refine bnd t1 ?_
    rw [e1]
    have g1 := trim_nil [x] letters
    have e2 : [x].all (fun b => letters.contains b) = ok1 x := by rw [List.all_cons, letters_ok]; simp
    rw [e2] at g1
    have t2 := trim_val (s := s) (c := ⟨#[97, 98, 99, 100, 101, 102, 103, 104, 105, 106, 107, 108, 109, 110, 111, 112, 113, 114, 115, 116, 117, 118, 119, 120, 121, 122, 48, 49, 50, 51, 52, 53, 54, 55, 56, 57, 95]⟩) h (by decide) (by decide)
    have g2 := trim_nil (x :: r) signs
    have e3 : (x :: r).all (fun b => signs.contains b) = (x :: r).all ok2 := by congr 1; funext b; exact signs_ok b
    rw [e3] at g2
    by_cases o : ok1 x = true
    · refine yes (by rw [toList_data]; exact g1.2 o) ?_
      refine bnd t2 ?_
      rw [hl, toList_data]
      show some (Lib.trimS (x :: r) signs == []) = some (nm (x :: r))
      have v : nm (x :: r) = r.all ok2 := by
        rw [nm_cons]
        rw [decide_eq_true c, o]
        rfl
      rw [v]
      rw [List.all_cons, ok12 o, Bool.true_and] at g2
      cases w : r.all ok2 with
      | true => rw [beq_iff_eq.2 (g2.2 w)]
      | false =>
        have : ¬ Lib.trimS (x :: r) signs = [] := fun z => by rw [g2.1 z] at w; cases w
        rw [beq_eq_false_iff_ne.2 this]
    · refine no (by rw [toList_data]; exact fun z => o (g1.1 z)) ?_
      rw [nm_cons]
      have o' : ok1 x = false := by simpa using o
      rw [o', Bool.false_and, Bool.and_false]
theorem bt_pre {s : ByteArray} {pre r : List UInt8} {x : UInt8} (h : s.data.toList = pre ++ x :: r) : bt s (pre.length : Int) = (x.toNat : Int) := by
  unfold bt
  have hz := size_data s
  rw [h, List.length_append, List.length_cons] at hz
  rw [Int.toNat_natCast, dif_pos (by omega)]
  have e : s[pre.length]'(by omega) = x := by
    have : s[pre.length]'(by omega) = s.data.toList[pre.length]'(by rw [h]; simp) := rfl
    rw [this]
    simp [h]
  rw [e]
theorem j2_step {s : ByteArray} {k : Nat} {i : Int} (b : Bool) : spec_NameRight.j2 (k + 1) s i b = if b = true then some false else spec_NameRight.l0 k s (wrap64 (i + 1)) := by
  rw [spec_NameRight.j2]
theorem l0_at {s : ByteArray} {pre r : List UInt8} {x : UInt8} (h : s.data.toList = pre ++ x :: r) (hs : s.size ≤ 100) (k : Nat) : spec_NameRight.l0 (k + 2) s (pre.length : Int) = if (if pre = [] then ok1 x else ok2 x) = true then spec_NameRight.l0 k s ((pre ++ [x]).length : Int) else some false := by
  have hz := size_data s
  rw [h, List.length_append, List.length_cons] at hz
  have hw := nxt pre x (by omega)
  rw [spec_NameRight.l0, bt_pre h]
  refine yes (by omega) ?_
  refine yes (by omega) ?_
  simp only [j2_step, hw]
  unfold ok1 ok2
  rcases pre with _ | ⟨p, q⟩
  · simp only [List.length_nil]
    by_cases c1 : 97 ≤ x.toNat
    · by_cases c2 : x.toNat ≤ 122
      · rw [if_pos (by omega), if_pos (by omega)]
        simp [c1, c2]
      · rw [if_pos (by omega), if_neg (by omega)]
        simp [c1, c2]
    · rw [if_neg (by omega)]
      simp [c1]
  · have n0 : ¬ (((p :: q).length : Nat) : Int) = 0 := by simp; omega
    by_cases c1 : 97 ≤ x.toNat
    · by_cases c2 : x.toNat ≤ 122
      · rw [if_pos (by omega), if_pos (by omega)]
        simp [c1, c2]
      · rw [if_pos (by omega), if_neg (by omega), if_neg n0, if_pos (by omega), if_neg (by omega)]
        have a3 : ((x.toNat : Int) != 95) = true := by rw [bne_iff_ne]; omega
        have a4 : ¬ x.toNat ≤ 57 := by omega
        have a5 : ¬ x.toNat = 95 := by omega
        simp [c1, c2, a3, a4, a5]
    · rw [if_neg (by omega), if_neg n0]
      by_cases c3 : 48 ≤ x.toNat
      · by_cases c4 : x.toNat ≤ 57
        · rw [if_pos (by omega), if_pos (by omega)]
          simp [c3, c4]
        · rw [if_pos (by omega), if_neg (by omega)]
          by_cases c5 : x.toNat = 95
          · have a3 : ((x.toNat : Int) != 95) = false := by rw [bne_eq_false_iff_eq]; omega
            simp [c5, a3]
          · have a3 : ((x.toNat : Int) != 95) = true := by rw [bne_iff_ne]; omega
            simp [c1, c4, c5, a3]
      · rw [if_neg (by omega)]
        have c5 : ¬ x.toNat = 95 := by omega
        have a3 : ((x.toNat : Int) != 95) = true := by rw [bne_iff_ne]; omega
        simp [c1, c3, c5, a3]
theorem l0_rest {s : ByteArray} (hs : s.size ≤ 100) : ∀ (r pre : List UInt8), pre ≠ [] → s.data.toList = pre ++ r → ∀ k, 2 * r.length + 1 ≤ k → spec_NameRight.l0 k s (pre.length : Int) = some (r.all ok2) := by
  intro r
  induction r with
  | nil =>
    intro pre hp h k hk
    obtain ⟨j, rfl⟩ : ∃ j, k = j + 1 := ⟨k - 1, by omega⟩
    have hz := size_data s
    rw [h, List.append_nil] at hz
    rw [spec_NameRight.l0]
    exact no (by omega) rfl
  | cons x r ih =>
    intro pre hp h k hk
    rw [List.length_cons] at hk
    obtain ⟨j, rfl⟩ : ∃ j, k = j + 2 := ⟨k - 2, by omega⟩
    rw [l0_at h hs, if_neg hp, List.all_cons]
    cases o : ok2 x with
    | false => rfl
    | true =>
      rw [if_pos rfl, Bool.true_and]
      exact ih (pre ++ [x]) (by simp) (by rw [h, ← snoc]) j (by omega)
theorem spec_name {s : ByteArray} (h : s.size ≤ 1048576) {k : Nat} (hk : 100 ≤ k) : spec_NameRight.f k s = some (nm s.data.toList) := by
  obtain ⟨j, rfl⟩ : ∃ j, k = j + 1 := ⟨k - 1, by omega⟩
  unfold spec_NameRight.f
  have hz := size_data s
  cases hl : s.data.toList with
  | nil =>
    rw [hl] at hz
    have hz' : s.size = 0 := hz
    refine yes (by omega) ?_
    rw [spec_NameRight.j0]
    rfl
  | cons x r =>
    rw [hl] at hz
    have hz' : s.size = r.length + 1 := hz
    refine no (by omega) ?_
    rw [spec_NameRight.j0]
    by_cases c : r.length ≤ 19
    case neg =>
      refine yes (decide_eq_true (by omega)) ?_
      rw [nm_cons]
      rw [decide_eq_false c]
      rfl
    refine no (by rw [decide_eq_true_eq]; omega) ?_
    obtain ⟨i, rfl⟩ : ∃ i, j = i + 2 := ⟨j - 2, by omega⟩
    have e := l0_at (s := s) (pre := []) (r := r) (x := x) hl (by omega) i
    have e' : spec_NameRight.l0 (i + 2) s 0 = if (if ([] : List UInt8) = [] then ok1 x else ok2 x) = true then spec_NameRight.l0 i s ((([] : List UInt8) ++ [x]).length : Int) else some false := e
    rw [e', if_pos rfl]
    rw [nm_cons]
    rw [decide_eq_true c, Bool.true_and]
    cases o : ok1 x with
    | false => rfl
    | true =>
      rw [if_pos rfl, Bool.true_and]
      exact l0_rest (by omega) r ([] ++ [x]) (by simp) (by rw [hl]; rfl) i (by omega)
end Go.Proofs.YtidlcolgiololaaDoor.NameSame
namespace Go.Proofs.YtidlcolgiololaaDoor.BkRight
open Go.RowKit Go.Proofs.YtidlcolgiololaaDoor.S Go.Proofs.YtidlcolgiololaaDoorW.PrintWords Go.Proofs.YtidlcolgiololaaDoor.Cal Go.Proofs.YtidlcolgiololaaDoor.Bk Go.Proofs.YtidlcolgiololaaDoor.BkLoops Go.Proofs.YtidlcolgiololaaDoor.NameSame
set_option linter.unusedVariables false
set_option linter.unusedSimpArgs false
open Classical in
noncomputable def allB (n : Nat) (e : Nat → Bool) : Bool := decide (∀ j, j < n → e j = true)
theorem allB_iff {n : Nat} {e : Nat → Bool} : allB n e = true ↔ ∀ j, j < n → e j = true := by unfold allB; exact decide_eq_true_iff
theorem nx (i : Nat) (h : i ≤ 100000000) : wrap64 ((i : Int) + 1) = ((i + 1 : Nat) : Int) := by
  rw [wid (by omega) (by omega)]
  omega
open Classical in
theorem all_from (L : Nat → Int → Option Bool) (s n K : Nat) (e : Nat → Bool) (r : Bool) (hn : n ≤ 10000000) (hs : ∀ k i, i < n → K ≤ k → L (k + s) (i : Int) = if e i = true then L k ((i + 1 : Nat) : Int) else some false)
    (he : ∀ k, K ≤ k → L (k + s) (n : Int) = some r) : ∀ d i k, i + d = n → K + s * (d + 1) ≤ k → L k (i : Int) = some (decide (∀ j, i ≤ j → j < n → e j = true) && r) := by
  intro d
  induction d with
  | zero =>
    intro i k hi hk
    obtain ⟨k, rfl⟩ : ∃ q, k = q + s := ⟨k - s, by omega⟩
    have e0 : i = n := by omega
    subst e0
    rw [he k (by omega), show decide (∀ j, i ≤ j → j < i → e j = true) = true from decide_eq_true (fun j h1 h2 => by omega), Bool.true_and]
  | succ d ih =>
    intro i k hi hk
    have hk' : K + (s * (d + 1) + s) ≤ k := by rw [Nat.mul_succ] at hk; exact hk
    obtain ⟨k, rfl⟩ : ∃ q, k = q + s := ⟨k - s, by omega⟩
    rw [hs k i (by omega) (by omega)]
    by_cases c : e i = true
    · rw [if_pos c, ih (i + 1) k (by omega) (by omega)]
      congr 2
      refine decide_eq_decide.2 ⟨fun h j h1 h2 => ?_, fun h j h1 h2 => h j (by omega) h2⟩
      by_cases q : j = i
      · rw [q]; exact c
      · exact h j (by omega) h2
    · rw [if_neg c, show decide (∀ j, i ≤ j → j < n → e j = true) = false from decide_eq_false (fun h => c (h i (Nat.le_refl _) (by omega))), Bool.false_and]
theorem all_loop {L : Nat → Int → Option Bool} {s n K : Nat} {e : Nat → Bool} {r : Bool} (hn : n ≤ 10000000) (hs : ∀ k i, i < n → K ≤ k → L (k + s) (i : Int) = if e i = true then L k ((i + 1 : Nat) : Int) else some false)
    (he : ∀ k, K ≤ k → L (k + s) (n : Int) = some r) {k : Nat} (hk : K + s * (n + 1) ≤ k) : L k 0 = some (allB n e && r) := by
  have h := all_from L s n K e r hn hs he n 0 k (by omega) hk
  rw [show ((0 : Nat) : Int) = 0 from rfl] at h
  rw [h]
  congr 2
  unfold allB
  exact decide_eq_decide.2 ⟨fun h j h2 => h j (Nat.zero_le _) h2, fun h j _ h2 => h j h2⟩
def nb (s : ByteArray) : Bool := nm s.data.toList
theorem spec_names {a b : ByteArray} (h : Fit a b) {k : Nat} (hk : 100 ≤ k) : spec_l05Names.f k a b = some (nb a && nb b) := by
  unfold spec_l05Names.f
  refine bnd (spec_name h.1 hk) ?_
  by_cases c : nb a = true
  · refine yes c (bnd (spec_name h.2 hk) ?_)
    rw [c, Bool.true_and]
    rfl
  · rw [show nb a = false by simpa using c, Bool.false_and]
    exact no (by simpa [nb] using c) rfl
theorem impl_names {a b : ByteArray} (h : Fit a b) : impl_Spot_isRight.f a b = some (nb a && nb b) := by
  unfold impl_Spot_isRight.f
  refine bnd (impl_name h.1) ?_
  by_cases c : nb a = true
  · refine yes c (bnd (impl_name h.2) ?_)
    rw [c, Bool.true_and]
    rfl
  · rw [show nb a = false by simpa using c, Bool.false_and]
    exact no (by simpa [nb] using c) rfl
def mon (x : Int) : Bool := decide (-1000000000000 ≤ x ∧ x ≤ 1000000000000)
theorem spec_mon (x : Int) : spec_MoneyRight.f x = some (mon x) := by
  unfold spec_MoneyRight.f mon
  by_cases c : x ≥ -1000000000000
  · rw [if_pos c]
    congr 1
    exact decide_eq_decide.2 ⟨fun h => ⟨c, h⟩, fun h => h.2⟩
  · rw [if_neg c, decide_eq_false (by omega)]
theorem impl_mon (x : Int) : impl_MoneyRight.f x = some (mon x) := by
  unfold impl_MoneyRight.f impl_in.f mon
  by_cases c : -1000000000000 ≤ x
  · rw [if_pos c]
    refine bnd rfl ?_
    congr 1
    exact decide_eq_decide.2 ⟨fun h => ⟨c, h⟩, fun h => h.2⟩
  · rw [if_neg c, decide_eq_false (by omega)]
    rfl
def ss (a b c d : ByteArray) : Bool := sl a.toList b.toList c.toList d.toList
def so (a b c d : ByteArray) : Int := od a.toList b.toList c.toList d.toList
theorem spec_less (a b c d : ByteArray) : spec_l05Less.f a b c d = some (ss a b c d) := by
  unfold spec_l05Less.f ss sl lt
  by_cases h : Op.bytesLess a.toList c.toList = true
  · rw [if_pos h, h]
    rfl
  · rw [if_neg h, show Op.bytesLess a.toList c.toList = false by simpa using h, Bool.false_or]
    by_cases e : a.toList = c.toList
    · rw [if_pos e, decide_eq_true e, Bool.true_and]
    · rw [if_neg e, decide_eq_false e, Bool.false_and]
theorem impl_cmp (a b : ByteArray) : cmp_Compare_string.f a b = some (cp a.toList b.toList) := by
  unfold cmp_Compare_string.f cmp_isNaN_string.f cp lt
  refine bnd rfl (bnd rfl ?_)
  refine no (by simp) (no (by simp) ?_)
  split
  · rfl
  · split <;> rfl
theorem impl_or (x y : Int) {k : Nat} (hk : 5 ≤ k) : cmp_Or_int.f k [x, y] = some (if x = 0 then y else x) := by
  obtain ⟨k, rfl⟩ : ∃ j, k = j + 3 := ⟨k - 3, by omega⟩
  unfold cmp_Or_int.f
  simp only [cmp_Or_int.l0]
  refine yes (by simp) (yes (by simp) (yes (by simp) ?_))
  show (if x = 0 then _ else some x) = _
  by_cases c : x = 0
  · rw [if_pos c, if_pos c, wid (by omega) (by omega)]
    refine yes (by simp) (yes (by simp) (yes (by simp) ?_))
    show (if y = 0 then _ else some y) = _
    by_cases d : y = 0
    · rw [if_pos d, wid (by omega) (by omega), d]
      exact no (by simp) rfl
    · rw [if_neg d]
  · rw [if_neg c, if_neg c]
theorem impl_ord (a b c d : ByteArray) {k : Nat} (hk : 5 ≤ k) : impl_Spot_order.f k a b c d = some (so a b c d) := by
  unfold impl_Spot_order.f so od
  refine bnd (impl_cmp a c) (bnd (impl_cmp b d) (bnd (impl_or _ _ hk) ?_))
  rfl
def okI (l : List ByteArray) (j : Nat) : Bool := nb (rdOf ByteArray.empty l (j : Int)) && (decide (j = 0) || lt (rdOf ByteArray.empty l ((j : Int) - 1)).toList (rdOf ByteArray.empty l (j : Int)).toList)
theorem mem_rdo {l : List ByteArray} {i : Nat} (h : i < l.length) : rdOf ByteArray.empty l (i : Int) ∈ l := by
  unfold rdOf
  rw [Int.toNat_natCast, List.getD_eq_getElem?_getD, List.getElem?_eq_getElem h]
  exact List.getElem_mem h
theorem mem_rdl {l : List S48} {i : Nat} (h : i < l.length) : rd_T48 l (i : Int) ∈ l := by
  unfold rd_T48
  rw [Int.toNat_natCast, List.getD_eq_getElem?_getD, List.getElem?_eq_getElem h]
  exact List.getElem_mem h
theorem spec_ids {l : List ByteArray} (hl : l.length ≤ 1048576) (hn : ∀ y ∈ l, y.size ≤ 1048576) {k : Nat} (hk : 2100000 ≤ k) : spec_l05Ids.f k l = some (allB l.length (okI l)) := by
  have j1 : ∀ (k i : Nat) (b : Bool), i < l.length → spec_l05Ids.j1 (k + 1) l (i : Int) b = if b = true then some false else spec_l05Ids.l0 k l ((i + 1 : Nat) : Int) := by
    intro k i b hi
    simp only [spec_l05Ids.j1]
    rw [nx i (by omega)]
  have h := all_loop (L := fun k i => spec_l05Ids.l0 k l i) (s := 2) (n := l.length) (K := 100) (e := okI l) (r := true) (by omega) (fun k i hi hk => by
      show spec_l05Ids.l0 (k + 1 + 1) l (i : Int) = _
      rw [spec_l05Ids.l0]
      refine yes (by omega) (yes (by omega) ?_)
      refine bnd (spec_name (hn _ (mem_rdo hi)) (by omega)) ?_
      unfold okI
      by_cases c : nb (rdOf ByteArray.empty l (i : Int)) = true
      · rw [c, Bool.true_and]
        refine yes c ?_
        by_cases z : i = 0
        · subst z
          refine no (by decide) ?_
          rw [j1 k 0 false hi]
          rfl
        · refine yes (by omega) ?_
          rw [wid (x := (i : Int) - 1) (by omega) (by omega)]
          refine yes (by omega) (yes (by omega) ?_)
          rw [j1 k i _ hi, decide_eq_false z, Bool.false_or]
          unfold lt
          cases Op.bytesLess (rdOf ByteArray.empty l ((i : Int) - 1)).toList (rdOf ByteArray.empty l (i : Int)).toList <;> rfl
      · rw [show nb (rdOf ByteArray.empty l (i : Int)) = false by simpa using c, Bool.false_and]
        refine no (by simpa [nb] using c) ?_
        rw [j1 k i true hi]
        rfl) (fun k hk => by
      show spec_l05Ids.l0 (k + 1 + 1) l (l.length : Int) = _
      rw [spec_l05Ids.l0]
      exact no (by omega) rfl) (k := k) (by omega)
  unfold spec_l05Ids.f
  rw [Bool.and_true] at h
  exact h
def okL (l : List S48) (j : Nat) : Bool := (nb (rd_T48 l (j : Int)).f0.f0 && nb (rd_T48 l (j : Int)).f0.f1) && (mon (rd_T48 l (j : Int)).f1 && (decide (j = 0) || ss (rd_T48 l ((j : Int) - 1)).f0.f0 (rd_T48 l ((j : Int) - 1)).f0.f1 (rd_T48 l (j : Int)).f0.f0 (rd_T48 l (j : Int)).f0.f1))
def sumTo (l : List S48) : Nat → Int
  | 0 => 0
  | i + 1 => wrap64 (sumTo l i + (rd_T48 l (i : Int)).f1)
noncomputable def bR (l : List S48) (ids : List ByteArray) : Bool := decide (l.length ≤ 60) && (decide (ids.length ≤ 100) && (allB ids.length (okI ids) && (allB l.length (okL l) && decide (sumTo l l.length = 0))))
structure Sm (l : List S48) (ids : List ByteArray) : Prop where
  h0 : l.length ≤ 1048576
  h1 : ids.length ≤ 1048576
  h2 : ∀ y ∈ l, Fit y.f0.f0 y.f0.f1
  h3 : ∀ y ∈ ids, y.size ≤ 1048576
theorem spec_right {l : List S48} {ids : List ByteArray} (h : Sm l ids) {k : Nat} (hk : 5000000 ≤ k) : spec_BookRight.f k l ids = some (bR l ids) := by
  have j0 : ∀ b : Bool, spec_BookRight.j0 k b l ids = if b = true then some false else spec_BookRight.l0 (k - 1) 0 0 l ids := by
    intro b
    obtain ⟨k, rfl⟩ : ∃ j, k = j + 1 := ⟨k - 1, by omega⟩
    rfl
  unfold spec_BookRight.f bR
  by_cases c1 : (l.length : Int) > 60
  · rw [if_pos c1, j0, decide_eq_false (by omega : ¬ l.length ≤ 60), Bool.false_and]
    rfl
  rw [if_neg c1, decide_eq_true (by omega : l.length ≤ 60), Bool.true_and]
  by_cases c2 : (ids.length : Int) > 100
  · rw [if_pos c2, j0, decide_eq_false (by omega : ¬ ids.length ≤ 100), Bool.false_and]
    rfl
  rw [if_neg c2, decide_eq_true (by omega : ids.length ≤ 100), Bool.true_and]
  refine bnd (spec_ids h.h1 h.h3 (by omega)) ?_
  rw [j0]
  cases allB ids.length (okI ids) with
  | false => rfl
  | true =>
    rw [Bool.true_and]
    show spec_BookRight.l0 (k - 1) 0 0 l ids = _
    have j2 : ∀ (k i : Nat) (b : Bool), i < l.length → spec_BookRight.j2 (k + 1) (sumTo l i) (i : Int) b l ids (rd_T48 l (i : Int)).f0.f0 (rd_T48 l (i : Int)).f0.f1 (rd_T48 l (i : Int)).f1 = if b = true then some false else spec_BookRight.l0 k (sumTo l (i + 1)) ((i + 1 : Nat) : Int) l ids := by
      intro k i b hi
      simp only [spec_BookRight.j2]
      rw [nx i (by have := h.h0; omega)]
      rfl
    exact all_loop (L := fun k i => spec_BookRight.l0 k (sumTo l i.toNat) i l ids) (s := 2) (n := l.length) (K := 100) (e := okL l) (r := decide (sumTo l l.length = 0)) (by have := h.h0; omega) (fun k i hi hk => by
      show spec_BookRight.l0 (k + 1 + 1) (sumTo l (i : Int).toNat) (i : Int) l ids = _
      rw [Int.toNat_natCast, Int.toNat_natCast, spec_BookRight.l0]
      refine yes (by omega) (yes (by omega) ?_)
      refine bnd (spec_names (h.h2 _ (mem_rdl hi)) (by omega)) ?_
      unfold okL
      by_cases c : (nb (rd_T48 l (i : Int)).f0.f0 && nb (rd_T48 l (i : Int)).f0.f1) = true
      · rw [c, Bool.true_and]
        refine yes rfl (bnd (spec_mon _) ?_)
        by_cases m : mon (rd_T48 l (i : Int)).f1 = true
        · rw [m, Bool.true_and]
          refine yes rfl ?_
          by_cases z : i = 0
          · subst z
            refine no (by decide) ?_
            rw [j2 k 0 false hi]
            rfl
          · refine yes (by omega) ?_
            rw [wid (x := (i : Int) - 1) (by have := h.h0; omega) (by have := h.h0; omega)]
            refine yes (by omega) (yes (by omega) (bnd (spec_less _ _ _ _) ?_))
            rw [j2 k i _ hi, decide_eq_false z, Bool.false_or]
            cases ss (rd_T48 l ((i : Int) - 1)).f0.f0 (rd_T48 l ((i : Int) - 1)).f0.f1 (rd_T48 l (i : Int)).f0.f0 (rd_T48 l (i : Int)).f0.f1 <;> rfl
        · rw [show mon (rd_T48 l (i : Int)).f1 = false by simpa using m, Bool.false_and]
          refine no (by decide) ?_
          rw [j2 k i true hi]
          rfl
      · rw [show (nb (rd_T48 l (i : Int)).f0.f0 && nb (rd_T48 l (i : Int)).f0.f1) = false by simpa using c, Bool.false_and]
        refine no (by decide) ?_
        rw [j2 k i true hi]
        rfl) (fun k hk => by
      show spec_BookRight.l0 (k + 1 + 1) (sumTo l (l.length : Int).toNat) (l.length : Int) l ids = _
      rw [Int.toNat_natCast, spec_BookRight.l0]
      refine no (by omega) ?_
      congr 1) (k := k - 1) (by have := h.h0; omega)
theorem impl_right {l : List S48} {ids : List ByteArray} (h : Sm l ids) {k : Nat} (hk : 5000000 ≤ k) : impl_BookRight.f k l ids = some (bR l ids) := by
  have hl := h.h0
  have j3 : ∀ (k i : Nat) (t : Int) (b : Bool), i < ids.length → impl_BookRight.j3 (k + 1) t ids (ids.length : Int) (i : Int) b l ids = if b = true then some false else impl_BookRight.l1 k t ids (ids.length : Int) ((i + 1 : Nat) : Int) l ids := by
    intro k i t b hi
    simp only [impl_BookRight.j3]
    rw [nx i (by have := h.h1; omega)]
  have j1 : ∀ (k i : Nat) (b : Bool), i < l.length → impl_BookRight.j1 (k + 1) (sumTo l i) l (l.length : Int) (i : Int) b l ids (rd_T48 l (i : Int)).f0.f0 (rd_T48 l (i : Int)).f0.f1 (rd_T48 l (i : Int)).f1 = if b = true then some false else impl_BookRight.l0 k (sumTo l (i + 1)) l (l.length : Int) ((i + 1 : Nat) : Int) l ids := by
    intro k i b hi
    simp only [impl_BookRight.j1]
    rw [nx i (by omega)]
    rfl
  have last : ∀ (t : Int) (k : Nat), 2100000 ≤ k → impl_BookRight.l1 k t ids (ids.length : Int) 0 l ids = some (allB ids.length (okI ids) && (decide (t = 0) && decide (ids.length ≤ 100))) := by
    intro t k hk
    exact all_loop (L := fun k i => impl_BookRight.l1 k t ids (ids.length : Int) i l ids) (s := 2) (n := ids.length) (K := 100) (e := okI ids) (r := decide (t = 0) && decide (ids.length ≤ 100)) (by have := h.h1; omega) (fun k i hi hk => by
      show impl_BookRight.l1 (k + 1 + 1) t ids (ids.length : Int) (i : Int) l ids = _
      have hi1 := h.h1
      rw [impl_BookRight.l1]
      refine yes (by omega) (yes (by omega) (yes (by omega) ?_))
      refine bnd (impl_name (h.h3 _ (mem_rdo hi))) ?_
      unfold okI
      by_cases c : nb (rdOf ByteArray.empty ids (i : Int)) = true
      · rw [c, Bool.true_and]
        refine yes c ?_
        by_cases z : i = 0
        · subst z
          refine no (by decide) ?_
          rw [j3 k 0 t false hi]
          rfl
        · refine yes (by omega) ?_
          rw [wid (x := (i : Int) - 1) (by omega) (by omega)]
          refine yes (by omega) (yes (by omega) ?_)
          rw [j3 k i t _ hi, decide_eq_false z, Bool.false_or]
          unfold lt
          cases Op.bytesLess (rdOf ByteArray.empty ids ((i : Int) - 1)).toList (rdOf ByteArray.empty ids (i : Int)).toList <;> rfl
      · rw [show nb (rdOf ByteArray.empty ids (i : Int)) = false by simpa using c, Bool.false_and]
        refine no (by simpa [nb] using c) ?_
        rw [j3 k i t true hi]
        rfl) (fun k hk => by
      show impl_BookRight.l1 (k + 1 + 1) t ids (ids.length : Int) (ids.length : Int) l ids = _
      rw [impl_BookRight.l1]
      refine no (by omega) ?_
      by_cases z : t = 0
      · rw [if_pos z, decide_eq_true z, Bool.true_and]
        congr 1
        exact decide_eq_decide.2 ⟨fun h => by omega, fun h => by omega⟩
      · rw [if_neg z, decide_eq_false z, Bool.false_and]) (k := k) (by have := h.h1; omega)
  have main := all_loop (L := fun k i => impl_BookRight.l0 k (sumTo l i.toNat) l (l.length : Int) i l ids) (s := 2) (n := l.length) (K := 2200000) (e := fun i => okL l i && decide (i < 60)) (r := allB ids.length (okI ids) && (decide (sumTo l l.length = 0) && decide (ids.length ≤ 100))) (by omega) (fun k i hi hk => by
      show impl_BookRight.l0 (k + 1 + 1) (sumTo l (i : Int).toNat) l (l.length : Int) (i : Int) l ids = _
      rw [Int.toNat_natCast, Int.toNat_natCast, impl_BookRight.l0]
      refine yes (by omega) (yes (by omega) (yes (by omega) ?_))
      refine bnd (impl_names (h.h2 _ (mem_rdl hi))) ?_
      have d60 : decide ((i : Int) ≥ 60) = !decide (i < 60) := by
        by_cases q : i < 60
        · rw [decide_eq_true q, decide_eq_false (by omega)]
          rfl
        · rw [decide_eq_false q, decide_eq_true (by omega)]
          rfl
      unfold okL
      by_cases c : (nb (rd_T48 l (i : Int)).f0.f0 && nb (rd_T48 l (i : Int)).f0.f1) = true
      · rw [c, Bool.true_and]
        refine yes rfl (bnd (impl_mon _) ?_)
        by_cases m : mon (rd_T48 l (i : Int)).f1 = true
        · rw [m, Bool.true_and]
          refine yes rfl ?_
          by_cases z : i = 0
          · subst z
            refine no (by decide) ?_
            rw [j1 k 0 _ hi]
            rfl
          · refine yes (by omega) ?_
            rw [wid (x := (i : Int) - 1) (by omega) (by omega)]
            refine yes (by omega) (yes (by omega) (bnd (impl_ord _ _ _ _ (by omega)) ?_))
            rw [decide_eq_false z, Bool.false_or]
            have on := od_neg (a := (rd_T48 l ((i : Int) - 1)).f0.f0.toList) (b := (rd_T48 l ((i : Int) - 1)).f0.f1.toList) (c := (rd_T48 l (i : Int)).f0.f0.toList) (d := (rd_T48 l (i : Int)).f0.f1.toList)
            by_cases o : so (rd_T48 l ((i : Int) - 1)).f0.f0 (rd_T48 l ((i : Int) - 1)).f0.f1 (rd_T48 l (i : Int)).f0.f0 (rd_T48 l (i : Int)).f0.f1 ≥ 0
            · rw [if_pos o, j1 k i true hi, show ss (rd_T48 l ((i : Int) - 1)).f0.f0 (rd_T48 l ((i : Int) - 1)).f0.f1 (rd_T48 l (i : Int)).f0.f0 (rd_T48 l (i : Int)).f0.f1 = false from by
                cases q : ss (rd_T48 l ((i : Int) - 1)).f0.f0 (rd_T48 l ((i : Int) - 1)).f0.f1 (rd_T48 l (i : Int)).f0.f0 (rd_T48 l (i : Int)).f0.f1 with
                | false => rfl
                | true => exact absurd (on.2 q) (by unfold so at o; omega)]
              rfl
            · rw [if_neg o, j1 k i _ hi, show ss (rd_T48 l ((i : Int) - 1)).f0.f0 (rd_T48 l ((i : Int) - 1)).f0.f1 (rd_T48 l (i : Int)).f0.f0 (rd_T48 l (i : Int)).f0.f1 = true from on.1 (by unfold so at o; omega), Bool.true_and, d60]
              cases decide (i < 60) <;> rfl
        · rw [show mon (rd_T48 l (i : Int)).f1 = false by simpa using m, Bool.false_and, Bool.false_and]
          refine no (by decide) ?_
          rw [j1 k i true hi]
          rfl
      · rw [show (nb (rd_T48 l (i : Int)).f0.f0 && nb (rd_T48 l (i : Int)).f0.f1) = false by simpa using c, Bool.false_and, Bool.false_and]
        refine no (by decide) ?_
        rw [j1 k i true hi]
        rfl) (fun k hk => by
      show impl_BookRight.l0 (k + 1 + 1) (sumTo l (l.length : Int).toNat) l (l.length : Int) (l.length : Int) l ids = _
      rw [Int.toNat_natCast, impl_BookRight.l0]
      refine no (by omega) ?_
      exact last _ _ (by omega)) (k := k) (by omega)
  unfold impl_BookRight.f
  refine main.trans ?_
  congr 1
  unfold bR
  by_cases c1 : l.length ≤ 60
  · rw [decide_eq_true c1, Bool.true_and]
    have e : allB l.length (fun i => okL l i && decide (i < 60)) = allB l.length (okL l) := by
      unfold allB
      exact decide_eq_decide.2 ⟨fun h j hj => by have := h j hj; rw [Bool.and_eq_true] at this; exact this.1, fun h j hj => by rw [Bool.and_eq_true]; exact ⟨h j hj, decide_eq_true (by omega)⟩⟩
    rw [e]
    cases allB l.length (okL l) <;> cases allB ids.length (okI ids) <;> cases decide (sumTo l l.length = 0) <;> cases decide (ids.length ≤ 100) <;> rfl
  · rw [decide_eq_false c1, Bool.false_and]
    have e : allB l.length (fun i => okL l i && decide (i < 60)) = false := by
      unfold allB
      refine decide_eq_false (fun h => ?_)
      have := h 60 (by omega)
      rw [Bool.and_eq_true] at this
      exact absurd (of_decide_eq_true this.2) (by decide)
    rw [e, Bool.false_and]
theorem right_says {l : List S48} {ids : List ByteArray} (h : bR l ids = true) : l.length ≤ 60 ∧ ids.length ≤ 100 ∧ ∀ j, 0 < j → j < l.length → ss (rd_T48 l ((j : Int) - 1)).f0.f0 (rd_T48 l ((j : Int) - 1)).f0.f1 (rd_T48 l (j : Int)).f0.f0 (rd_T48 l (j : Int)).f0.f1 = true := by
  unfold bR at h
  simp only [Bool.and_eq_true, decide_eq_true_eq] at h
  refine ⟨h.1, h.2.1, fun j h0 hj => ?_⟩
  have := (allB_iff.1 h.2.2.2.1) j hj
  unfold okL at this
  simp only [Bool.and_eq_true, Bool.or_eq_true, decide_eq_true_eq] at this
  exact this.2.2.resolve_left (by omega)
end Go.Proofs.YtidlcolgiololaaDoor.BkRight
namespace Go.Proofs.YtidlcolgiololaaDoor.BkFind
open Go.RowKit Go.Proofs.YtidlcolgiololaaDoor.S Go.Proofs.YtidlcolgiololaaDoorW.PrintWords Go.Proofs.YtidlcolgiololaaDoor.Cal Go.Proofs.YtidlcolgiololaaDoor.Bk Go.Proofs.YtidlcolgiololaaDoor.BkLoops Go.Proofs.YtidlcolgiololaaDoor.BkRight
set_option linter.unusedVariables false
set_option linter.unusedSimpArgs false
def Sorted (l : List S48) : Prop := ∀ j : Nat, 0 < j → j < l.length → ss (rd_T48 l ((j : Int) - 1)).f0.f0 (rd_T48 l ((j : Int) - 1)).f0.f1 (rd_T48 l (j : Int)).f0.f0 (rd_T48 l (j : Int)).f0.f1 = true
def cb (l : List S48) (a b : ByteArray) (j : Nat) : Bool := ss (rd_T48 l (j : Int)).f0.f0 (rd_T48 l (j : Int)).f0.f1 a b
theorem ss_trans {a b c d e f : ByteArray} (h : ss a b c d = true) (h' : ss c d e f = true) : ss a b e f = true := sl_trans h h'
theorem sorted_lt {l : List S48} (h : Sorted l) {i : Nat} : ∀ (d j : Nat), j = i + 1 + d → j < l.length → ss (rd_T48 l (i : Int)).f0.f0 (rd_T48 l (i : Int)).f0.f1 (rd_T48 l (j : Int)).f0.f0 (rd_T48 l (j : Int)).f0.f1 = true
  | 0, j, e, hj => by
    have := h j (by omega) hj
    rw [show ((j : Int) - 1) = (i : Int) by omega] at this
    exact this
  | d + 1, j, e, hj => by
    have h1 := sorted_lt h (i := i) d (j - 1) (by omega) (by omega)
    have h2 := h j (by omega) hj
    rw [show ((j : Int) - 1) = ((j - 1 : Nat) : Int) by omega] at h2
    exact ss_trans h1 h2
theorem cb_mono {l : List S48} (h : Sorted l) {a b : ByteArray} {i j : Nat} (hij : i < j) (hj : j < l.length) (hc : cb l a b j = true) : cb l a b i = true :=
  ss_trans (sorted_lt h (i := i) (j - i - 1) j (by omega) hj) hc
structure Place (l : List S48) (a b : ByteArray) (p : Nat) : Prop where
  le : p ≤ l.length
  before : ∀ j, j < p → cb l a b j = true
  behind : ∀ j, p ≤ j → j < l.length → cb l a b j = false
theorem place_ex {l : List S48} (h : Sorted l) (a b : ByteArray) : ∃ p, Place l a b p := by
  have key : ∀ m, m ≤ l.length → ∃ p, p ≤ m ∧ (∀ j, j < p → cb l a b j = true) ∧ ∀ j, p ≤ j → j < m → cb l a b j = false := by
    intro m
    induction m with
    | zero => exact fun _ => ⟨0, Nat.le_refl _, fun j h => by omega, fun j h1 h2 => by omega⟩
    | succ m ih =>
      intro hm
      obtain ⟨p, hp, h1, h2⟩ := ih (by omega)
      by_cases c : cb l a b m = true
      · refine ⟨m + 1, Nat.le_refl _, fun j hj => ?_, fun j q1 q2 => by omega⟩
        by_cases e : j = m
        · rw [e]; exact c
        · exact cb_mono h (by omega) (by omega) c
      · refine ⟨p, by omega, h1, fun j q1 q2 => ?_⟩
        by_cases e : j = m
        · rw [e]; simpa using c
        · exact h2 j q1 (by omega)
  obtain ⟨p, hp, h1, h2⟩ := key l.length (Nat.le_refl _)
  exact ⟨p, hp, h1, h2⟩
def at_ (l : List S48) (a b : ByteArray) (j : Nat) : Bool := decide ((rd_T48 l (j : Int)).f0.f0.toList = a.toList ∧ (rd_T48 l (j : Int)).f0.f1.toList = b.toList)
def fnd (l : List S48) (a b : ByteArray) (p : Nat) : Bool := decide (p < l.length) && at_ l a b p
theorem at_only {l : List S48} (h : Sorted l) {a b : ByteArray} {p : Nat} (hp : Place l a b p) {i : Nat} (hi : i < l.length) (e : at_ l a b i = true) : i = p := by
  unfold at_ at e
  have e := of_decide_eq_true e
  have self : cb l a b i = false := by
    unfold cb ss
    rw [e.1, e.2]
    exact sl_irrefl _ _
  rcases Nat.lt_trichotomy i p with q | q | q
  · rw [hp.before i q] at self
    cases self
  · exact q
  · have h1 := sorted_lt h (i := p) (i - p - 1) i (by omega) hi
    have h2 : cb l a b p = true := by
      unfold cb
      unfold ss at h1 ⊢
      rw [← e.1, ← e.2]
      exact h1
    rw [hp.behind p (Nat.le_refl _) (by omega)] at h2
    cases h2
theorem fnd_at {l : List S48} (h : Sorted l) {a b : ByteArray} {p : Nat} (hp : Place l a b p) {i : Nat} (hi : i < l.length) : at_ l a b i = (decide (i = p) && fnd l a b p) := by
  by_cases q : i = p
  · subst q
    unfold fnd
    rw [decide_eq_true rfl, Bool.true_and, decide_eq_true hi, Bool.true_and]
  · rw [decide_eq_false q, Bool.false_and]
    cases e : at_ l a b i with
    | false => rfl
    | true => exact absurd (at_only h hp hi e) q
theorem spec_find {l : List S48} {ids : List ByteArray} (hl : l.length ≤ 60) (h : Sorted l) {a b : ByteArray} {p : Nat} (hp : Place l a b p) {k : Nat} (hk : 200 ≤ k) :
    spec_l05Find.f k l ids a b = some (if fnd l a b p = true then (p : Int) else -1) := by
  have key : ∀ (d i k : Nat), i + d = l.length → d + 1 ≤ k → (fnd l a b p = true → i ≤ p) → spec_l05Find.l0 k (i : Int) l ids a b = some (if fnd l a b p = true then (p : Int) else -1) := by
    intro d
    induction d with
    | zero =>
      intro i k hi hk hf
      obtain ⟨k, rfl⟩ : ∃ j, k = j + 1 := ⟨k - 1, by omega⟩
      simp only [spec_l05Find.l0]
      refine no (by omega) ?_
      by_cases f : fnd l a b p = true
      · have q := hf f
        unfold fnd at f
        simp only [Bool.and_eq_true, decide_eq_true_eq] at f
        omega
      · rw [if_neg f]
    | succ d ih =>
      intro i k hi hk hf
      obtain ⟨k, rfl⟩ : ∃ j, k = j + 1 := ⟨k - 1, by omega⟩
      simp only [spec_l05Find.l0]
      refine yes (by omega) (yes (by omega) ?_)
      have e : ((rd_T48 l (i : Int)).f0.f0.toList == a.toList && ((rd_T48 l (i : Int)).f0.f1.toList == b.toList)) = at_ l a b i := by
        unfold at_
        rw [Bool.eq_iff_iff]
        simp only [Bool.and_eq_true, beq_iff_eq, decide_eq_true_eq]
      rw [e, fnd_at h hp (by omega)]
      by_cases q : i = p
      · subst q
        rw [decide_eq_true rfl, Bool.true_and]
        by_cases f : fnd l a b i = true
        · rw [if_pos f, if_pos f]
        · rw [if_neg f, nx i (by omega)]
          exact ih (i + 1) k (by omega) (by omega) (fun f' => absurd f' f)
      · rw [decide_eq_false q, Bool.false_and, nx i (by omega)]
        refine no (by decide) ?_
        exact ih (i + 1) k (by omega) (by omega) (fun f => by have := hf f; omega)
  unfold spec_l05Find.f
  exact key l.length 0 k (by omega) (by omega) (fun _ => Nat.zero_le _)
theorem so_neg {a b c d : ByteArray} : so a b c d < 0 ↔ ss a b c d = true := od_neg
theorem impl_place {l : List S48} {ids : List ByteArray} (hl : l.length ≤ 60) (h : Sorted l) {a b : ByteArray} {p : Nat} (hp : Place l a b p) {k : Nat} (hk : 200 ≤ k) :
    impl_Book_place.f k l ids a b = some ((p : Int), fnd l a b p) := by
  have ord : ∀ (j k : Nat), 5 ≤ k → impl_Book_place_1.f k (rd_T48 l (j : Int)).f0.f0 (rd_T48 l (j : Int)).f0.f1 (rd_T48 l (j : Int)).f1 a b = some (so (rd_T48 l (j : Int)).f0.f0 (rd_T48 l (j : Int)).f0.f1 a b) := by
    intro j k hk
    unfold impl_Book_place_1.f
    exact bnd (impl_ord _ _ _ _ hk) rfl
  have key : ∀ (d i j k : Nat), j - i ≤ d → i ≤ p → p ≤ j → j ≤ l.length → d + 10 ≤ k → impl_Spot.l0 k l (l.length : Int) (i : Int) (j : Int) a b = some ((p : Int), fnd l a b p) := by
    intro d
    induction d with
    | zero =>
      intro i j k hd hi hj hn hk
      obtain ⟨k, rfl⟩ : ∃ q, k = q + 1 := ⟨k - 1, by omega⟩
      have e1 : i = p := by omega
      have e2 : j = p := by omega
      subst e1
      subst e2
      simp only [impl_Spot.l0]
      refine no (by omega) ?_
      unfold fnd
      by_cases c : j < l.length
      · refine yes (by omega) (yes (by omega) (yes (by omega) (bnd (ord j k (by omega)) ?_)))
        rw [decide_eq_true c, Bool.true_and]
        congr 2
        unfold at_ so
        rw [Bool.eq_iff_iff]
        simp only [beq_iff_eq, decide_eq_true_eq]
        exact od_zero
      · rw [decide_eq_false c, Bool.false_and]
        exact no (by omega) rfl
    | succ d ih =>
      intro i j k hd hi hj hn hk
      by_cases lt : i < j
      case neg => exact ih i j k (by omega) hi hj hn (by omega)
      obtain ⟨k, rfl⟩ : ∃ q, k = q + 1 := ⟨k - 1, by omega⟩
      have e : wrap64 ((IntKind.u64.wrap (wrap64 ((i : Int) + (j : Int)))) / 2) = (((i + j) / 2 : Nat) : Int) := by
        rw [wid (x := (i : Int) + (j : Int)) (by omega) (by omega)]
        have w : IntKind.u64.wrap ((i : Int) + (j : Int)) = (i : Int) + (j : Int) := by
          have q : IntKind.u64.wrap ((i : Int) + (j : Int)) = ((i : Int) + (j : Int)) % 18446744073709551616 := by simp [IntKind.wrap, IntKind.signed, IntKind.bits]
          omega
        rw [w, wid (by omega) (by omega)]
        omega
      simp only [impl_Spot.l0]
      refine yes (by omega) ?_
      rw [e]
      refine yes (by omega) (yes (by omega) (bnd (ord _ k (by omega)) ?_))
      by_cases c : so (rd_T48 l (((i + j) / 2 : Nat) : Int)).f0.f0 (rd_T48 l (((i + j) / 2 : Nat) : Int)).f0.f1 a b < 0
      · rw [if_pos c, nx _ (by omega)]
        have c' := so_neg.1 c
        refine ih ((i + j) / 2 + 1) j k (by omega) ?_ hj hn (by omega)
        apply Decidable.byContradiction
        intro q
        have := hp.behind ((i + j) / 2) (by omega) (by omega)
        unfold cb at this
        rw [c'] at this
        cases this
      · rw [if_neg c]
        refine ih i ((i + j) / 2) k (by omega) hi ?_ (by omega) (by omega)
        apply Decidable.byContradiction
        intro q
        have := hp.before ((i + j) / 2) (by omega)
        unfold cb at this
        exact c (so_neg.2 this)
  unfold impl_Book_place.f impl_Spot.f
  refine bnd (yes rfl (key l.length 0 l.length k (by omega) (Nat.zero_le _) hp.le (Nat.le_refl _) (by omega))) rfl
def opened (l : List S48) (a b : ByteArray) (p : Nat) : List S48 := l.take p ++ [⟨⟨a, b⟩, 0⟩] ++ l.drop p
theorem spec_put {l : List S48} {ids : List ByteArray} (hl : l.length ≤ 60) {a b : ByteArray} {p : Nat} (hp : Place l a b p) (r : List ByteArray) {k : Nat} (hk : 200 ≤ k) :
    spec_l05Open.l0 k 0 l ids a b r = some (opened l a b p, r, 0, 0) := by
  have fin : ∀ (q : Nat), q = p → (if 0 ≤ (q : Int) then (if (q : Int) ≤ (l.length : Int) then ((some (l.take (q : Int).toNat : List S48)).bind fun y151 => (if ([] : List (S48)).length + y151.length < 3518437208883 then ((some (([] : List (S48)) ++ y151 : List (S48))).bind fun y155 => (if y155.length < 3518437208883 then ((some (y155 ++ [(⟨(⟨a, b⟩ : S37), 0⟩ : S48)] : List (S48))).bind fun y158 => ((some (l.drop (q : Int).toNat : List (S48))).bind fun y161 => (if y158.length + y161.length < 3518437208883 then (some ((y158 ++ y161), r, (0 : Int), (0 : Int))) else (none)))) else (none))) else (none))) else (none)) else (none)) = some (opened l a b p, r, 0, 0) := by
    intro q e
    subst e
    have hq := hp.le
    refine yes (by omega) (yes (by omega) ?_)
    rw [Int.toNat_natCast, Option.bind_some]
    have e1 : (l.take q).length ≤ 60 := by rw [List.length_take]; omega
    have e2 : (l.drop q).length ≤ 60 := by rw [List.length_drop]; omega
    refine yes (by simp only [List.length_nil]; omega) ?_
    rw [Option.bind_some, List.nil_append]
    refine yes (by omega) ?_
    rw [Option.bind_some, Option.bind_some]
    refine yes (by rw [List.length_append, List.length_singleton]; omega) rfl
  have key : ∀ (d i k : Nat), i + d = p → d + 1 ≤ k → spec_l05Open.l0 k (i : Int) l ids a b r = some (opened l a b p, r, 0, 0) := by
    intro d
    induction d with
    | zero =>
      intro i k hi hk
      obtain ⟨k, rfl⟩ : ∃ j, k = j + 1 := ⟨k - 1, by omega⟩
      have e : i = p := by omega
      simp only [spec_l05Open.l0]
      by_cases c : (i : Int) < (l.length : Int)
      · refine yes c (yes (by omega) (bnd (spec_less _ _ _ _) ?_))
        have q := hp.behind i (by omega) (by omega)
        unfold cb at q
        rw [q]
        refine no (by decide) ?_
        have f := fin i e
        rw [if_pos (show 0 ≤ (i : Int) by omega)] at f
        exact f
      · exact no c (fin i e)
    | succ d ih =>
      intro i k hi hk
      obtain ⟨k, rfl⟩ : ∃ j, k = j + 1 := ⟨k - 1, by omega⟩
      have hq := hp.le
      simp only [spec_l05Open.l0]
      refine yes (by omega) (yes (by omega) (bnd (spec_less _ _ _ _) ?_))
      have q := hp.before i (by omega)
      unfold cb at q
      rw [q, nx i (by omega)]
      exact yes rfl (ih (i + 1) k (by omega) (by omega))
  have hq := hp.le
  exact key p 0 k (by omega) (by omega)
noncomputable def answer (l : List S48) (ids : List ByteArray) (a b : ByteArray) (p : Nat) : List S48 × List ByteArray × Int × Int :=
  if bR l ids = true then (if (nb a && nb b) = true then (if fnd l a b p = true then ([], [], 0, 7) else if l.length = 60 then ([], [], 0, 16) else (opened l a b p, ids, 0, 0)) else ([], [], 0, 1)) else ([], [], 0, 1)
theorem both {l : List S48} {ids : List ByteArray} (h : Sm l ids) {a b : ByteArray} (hf : Fit a b) : ∃ r : List S48 × List ByteArray × Int × Int, r.1.length ≤ 1048577 ∧ r.2.1.length ≤ 1048577 ∧ ∀ k, 5000000 ≤ k → spec_BookOpen.f k l ids a b = some r ∧ impl_BookOpen.f k l ids a b = some r := by
  by_cases c1 : bR l ids = true
  case neg =>
    have c1 : bR l ids = false := by simpa using c1
    refine ⟨([], [], 0, 1), by simp, by simp, fun k hk => ⟨?_, ?_⟩⟩
    · unfold spec_BookOpen.f
      refine bnd (spec_right h hk) ?_
      rw [c1]
      exact no (by decide) rfl
    · unfold impl_BookOpen.f
      refine bnd (impl_right h hk) ?_
      rw [c1]
      exact no (by decide) rfl
  by_cases c2 : (nb a && nb b) = true
  case neg =>
    have c2 : (nb a && nb b) = false := by simpa using c2
    refine ⟨([], [], 0, 1), by simp, by simp, fun k hk => ⟨?_, ?_⟩⟩
    · unfold spec_BookOpen.f
      refine bnd (spec_right h hk) ?_
      rw [c1]
      refine yes rfl (bnd (spec_names hf (by omega)) ?_)
      rw [c2]
      exact no (by decide) rfl
    · unfold impl_BookOpen.f
      refine bnd (impl_right h hk) ?_
      rw [c1]
      refine yes rfl (bnd (impl_names hf) ?_)
      rw [c2]
      exact no (by decide) rfl
  obtain ⟨n60, i100, hs⟩ := right_says c1
  obtain ⟨p, hp⟩ := place_ex hs a b
  have copied : impl_Book_copied.f l ids = some (l, ids) := by
    unfold impl_Book_copied.f impl_Line.f slices_Clone_string_string.f
    rw [if_pos (by omega), if_pos (by omega)]
    rfl
  have hsp : ∀ k, 5000000 ≤ k → ∀ r, spec_l05Open.f k l ids a b = some r → spec_BookOpen.f k l ids a b = some r := by
    intro k hk r e
    unfold spec_BookOpen.f
    refine bnd (spec_right h hk) ?_
    rw [c1]
    refine yes rfl (bnd (spec_names hf (by omega)) ?_)
    rw [c2]
    exact yes rfl (bnd e rfl)
  have him : ∀ k, 5000000 ≤ k → impl_BookOpen.f k l ids a b = if fnd l a b p = true then some ([], [], 0, 7) else if l.length = 60 then some ([], [], 0, 16) else
      if 0 ≤ (p : Int) then (if (p : Int) ≤ (l.length : Int) then (if (l.length + 1) * 40 ≤ 140737488355328 then some (l.take (p : Int).toNat ++ [⟨⟨a, b⟩, 0⟩] ++ l.drop (p : Int).toNat, ids, 0, 0) else none) else none) else none := by
    intro k hk
    unfold impl_BookOpen.f
    refine bnd (impl_right h hk) ?_
    rw [c1]
    refine yes rfl (bnd (impl_names hf) ?_)
    rw [c2]
    refine yes rfl (bnd copied (bnd (impl_place n60 hs hp (by omega)) rfl))
  by_cases f : fnd l a b p = true
  · refine ⟨([], [], 0, 7), by simp, by simp, fun k hk => ⟨hsp k hk _ ?_, ?_⟩⟩
    · unfold spec_l05Open.f
      refine bnd (spec_find n60 hs hp (by omega)) ?_
      rw [if_pos f]
      exact yes (by omega) rfl
    · rw [him k hk, if_pos f]
  by_cases c60 : l.length = 60
  · refine ⟨([], [], 0, 16), by simp, by simp, fun k hk => ⟨hsp k hk _ ?_, ?_⟩⟩
    · unfold spec_l05Open.f
      refine bnd (spec_find n60 hs hp (by omega)) ?_
      rw [if_neg f]
      exact no (by decide) (yes (by omega) rfl)
    · rw [him k hk, if_neg f, if_pos c60]
  · have hq := hp.le
    refine ⟨(opened l a b p, ids, 0, 0), by unfold opened; simp only [List.length_append, List.length_take, List.length_drop, List.length_singleton]; omega, by simp; omega, fun k hk => ⟨hsp k hk _ ?_, ?_⟩⟩
    · unfold spec_l05Open.f
      refine bnd (spec_find n60 hs hp (by omega)) ?_
      rw [if_neg f]
      refine no (by decide) (no (by omega) ?_)
      rw [Option.bind_some, List.nil_append]
      refine yes (by simp; omega) ?_
      exact spec_put n60 hp ids (by omega)
    · rw [him k hk, if_neg f, if_neg c60, if_pos (by omega), if_pos (by omega), if_pos (by omega), Int.toNat_natCast]
      rfl
end Go.Proofs.YtidlcolgiololaaDoor.BkFind
namespace Go.Proofs.YtidlcolgiololaaDoor.Draws
open Go.RowKit Go.Proofs.YtidlcolgiololaaDoor.S Go.Proofs.YtidlcolgiololaaDoorW.PrintWords Go.Proofs.YtidlcolgiololaaDoor.Cal
set_option linter.unusedVariables false
set_option linter.unusedSimpArgs false
theorem u64_range (x : Int) : 0 ≤ IntKind.u64.wrap x ∧ IntKind.u64.wrap x < 18446744073709551616 := by
  have e : IntKind.u64.wrap x = x % 18446744073709551616 := by simp [IntKind.wrap, IntKind.signed, IntKind.bits]
  omega
theorem u64_id {x : Int} (h0 : 0 ≤ x) (h1 : x < 18446744073709551616) : IntKind.u64.wrap x = x := by
  have e : IntKind.u64.wrap x = x % 18446744073709551616 := by simp [IntKind.wrap, IntKind.signed, IntKind.bits]
  omega
theorem rd_all {P : Int → Prop} {l : List Int} (h : ∀ x ∈ l, P x) {i : Int} (h0 : 0 ≤ i) (h1 : i < (l.length : Int)) : P (rd l i) := by
  unfold rd
  rw [List.getD_eq_getElem?_getD, List.getElem?_eq_getElem (by omega)]
  exact h _ (List.getElem_mem _)
theorem draw_n (b : List Int) {at_ : Int} (mx sz : Int) {most : Int} (hb : b.length ≤ 140737488351232) (ha : 0 ≤ at_) (hm : most ≤ 9223372036854775807) :
    ∃ r a' m', spec_l01Src_n.f b at_ mx sz most = some (r, a', m', sz) ∧ 0 ≤ r ∧ (1 ≤ most → r < most) ∧ 0 ≤ a' := by
  unfold spec_l01Src_n.f
  by_cases c1 : most ≤ 1
  · rw [if_pos c1]
    exact ⟨0, at_, mx, rfl, Int.le_refl _, fun h => by omega, ha⟩
  rw [if_neg c1]
  have e := u64_id (x := most) (by omega) (by omega)
  rw [if_neg (by omega)]
  have tell : ∀ v m : Int, 0 ≤ spec_l01Src_n.tell v m most ∧ spec_l01Src_n.tell v m most < most := by
    intro v m
    unfold spec_l01Src_n.tell
    rw [e]
    have r := u64_range (v + m / 1048576)
    rw [tm r.1]
    have := Int.emod_nonneg (IntKind.u64.wrap (v + m / 1048576)) (b := most) (by omega)
    have := Int.emod_lt_of_pos (IntKind.u64.wrap (v + m / 1048576)) (b := most) (by omega)
    rw [wid (by omega) (by omega)]
    omega
  by_cases c2 : at_ < (b.length : Int)
  · rw [if_pos c2, if_pos ha]
    refine ⟨_, _, _, rfl, (tell _ _).1, fun _ => (tell _ _).2, ?_⟩
    rw [wid (by omega) (by omega)]
    omega
  · rw [if_neg c2]
    exact ⟨_, _, _, rfl, (tell _ _).1, fun _ => (tell _ _).2, ha⟩
theorem draw_one (b : List Int) {at_ : Int} (mx sz : Int) {most : Int} (hb : b.length ≤ 140737488351232) (ha : 0 ≤ at_) (hm : most ≤ 9223372036854775807) :
    ∃ (r : Bool) (a' m' : Int), spec_l01Src_one.f b at_ mx sz most = some (r, a', m', sz) ∧ 0 ≤ a' := by
  obtain ⟨r, a', m', e, _, _, h⟩ := draw_n b mx sz hb ha hm
  refine ⟨r == 0, a', m', ?_, h⟩
  unfold spec_l01Src_one.f
  rw [e]
  rfl
theorem draw_edge (b : List Int) {at_ : Int} (mx sz : Int) (hb : b.length ≤ 140737488351232) (ha : 0 ≤ at_) :
    ∃ (r a' m' : Int), spec_l01Src_edge.f b at_ mx sz = some (r, a', m', sz) ∧ -9223372036854775808 ≤ r ∧ r ≤ 9223372036854775807 ∧ 0 ≤ a' := by
  obtain ⟨i, a', m', e, h0, h1, h⟩ := draw_n b mx sz (most := 14) hb ha (by omega)
  unfold spec_l01Src_edge.f
  simp only [Option.bind_some]
  rw [e]
  simp only [Option.bind_some]
  have h1' := h1 (by omega)
  rw [if_pos h0, if_pos (by simp; omega)]
  refine ⟨_, a', m', rfl, ?_⟩
  have := rd_all (P := fun r => -9223372036854775808 ≤ r ∧ r ≤ 9223372036854775807) (l := [0, 1, (-1), 2, 1000, 1001, 2147483648, 2147483647, (-2147483648), 4611686018427387904, 9223372036854775807, (-9223372036854775808), 1000000, 1000001]) (by decide) h0 (by simp; omega)
  exact ⟨this.1, this.2, h⟩
theorem source_l0 (b : List Int) (hb : b.length ≤ 140737488351232) (n : Nat) : ∀ (k : Nat) (i mx : Int), 0 ≤ i → i + n = 64 → n + 1 < k →
    ∃ m' sz, spec_l01Source.l0 k b i b 0 mx 0 = some (b, 0, m', sz) ∧ 0 ≤ sz ∧ sz ≤ 12 := by
  have last : ∃ sz, (if (wrap64 ((b.length : Int) / 20)) > 12 then (12 : Int) else wrap64 ((b.length : Int) / 20)) = sz ∧ 0 ≤ sz ∧ sz ≤ 12 := by
    rw [wid (by omega) (by omega)]
    split
    · exact ⟨12, rfl, by omega, by omega⟩
    · exact ⟨_, rfl, by omega, by omega⟩
  obtain ⟨sz, hsz, s0, s1⟩ := last
  have fin : ∀ (mx : Int) (j : Nat), 1 ≤ j → spec_l01Source.j1 j b b 0 mx 0 = some (b, 0, mx, sz) := by
    intro mx j hj
    obtain ⟨j, rfl⟩ : ∃ q, j = q + 1 := ⟨j - 1, by omega⟩
    simp only [spec_l01Source.j1]
    rw [← hsz]
    split <;> rfl
  induction n with
  | zero =>
    intro k i mx h0 e hk
    obtain ⟨k, rfl⟩ : ∃ j, k = j + 1 := ⟨k - 1, by omega⟩
    simp only [spec_l01Source.l0]
    by_cases c : i < (b.length : Int)
    · rw [if_pos c, if_neg (by omega)]
      exact ⟨mx, sz, fin mx k (by omega), s0, s1⟩
    · rw [if_neg c]
      exact ⟨mx, sz, fin mx k (by omega), s0, s1⟩
  | succ n ih =>
    intro k i mx h0 e hk
    obtain ⟨k, rfl⟩ : ∃ j, k = j + 1 := ⟨k - 1, by omega⟩
    simp only [spec_l01Source.l0]
    by_cases c : i < (b.length : Int)
    · rw [if_pos c, if_pos (by omega), if_pos h0, wid (x := i + 1) (by omega) (by omega)]
      exact ih k (i + 1) _ (by omega) (by omega) (by omega)
    · rw [if_neg c]
      exact ⟨mx, sz, fin mx k (by omega), s0, s1⟩
theorem source (b : List Int) (hb : b.length ≤ 140737488351232) : ∃ m' sz, (∀ k, 100 ≤ k → spec_l01Source.f k b = some (b, 0, m', sz)) ∧ 0 ≤ sz ∧ sz ≤ 12 := by
  obtain ⟨m', sz, h, h0, h1⟩ := source_l0 b hb 64 100 0 88172645463325252 (by omega) (by omega) (by omega)
  exact ⟨m', sz, fun k hk => at_rounds (g := fun k => spec_l01Source.f k b) (fun k => spec_l01Source.mono b k) hk h, h0, h1⟩
end Go.Proofs.YtidlcolgiololaaDoor.Draws
namespace Go.Proofs.YtidlcolgiololaaDoor.BkOpens
open Go.RowKit Go.Proofs.YtidlcolgiololaaDoor.S Go.Proofs.YtidlcolgiololaaDoorW.PrintWords Go.Proofs.YtidlcolgiololaaDoor.Cal Go.Proofs.YtidlcolgiololaaDoor.Bk Go.Proofs.YtidlcolgiololaaDoor.BkLoops Go.Proofs.YtidlcolgiololaaDoor.BkRight Go.Proofs.YtidlcolgiololaaDoor.BkFind
set_option linter.unusedVariables false
set_option linter.unusedSimpArgs false
structure Opened (l : List S48) (ids : List ByteArray) (a b : ByteArray) (r : List S48 × List ByteArray × Int × Int) : Prop where
  right : bR l ids = true
  names : (nb a && nb b) = true
  short : l.length < 60
  p : ∃ p, BkFind.Place l a b p ∧ fnd l a b p = false ∧ r = (opened l a b p, ids, 0, 0)
theorem opens {l : List S48} {ids : List ByteArray} (h : Sm l ids) {a b : ByteArray} (hf : Fit a b) : ∃ r : List S48 × List ByteArray × Int × Int, (r.2.2.2 = 0 → Opened l ids a b r) ∧ ∀ k, 5000000 ≤ k → spec_BookOpen.f k l ids a b = some r ∧ impl_BookOpen.f k l ids a b = some r := by
  obtain ⟨r, _, _, hr⟩ := both h hf
  refine ⟨r, fun hz => ?_, hr⟩
  have e := (hr 5000000 (Nat.le_refl _)).1
  generalize hk : (5000000 : Nat) = k at e
  have hk0 : 5000000 ≤ k := by omega
  clear hk hr
  unfold spec_BookOpen.f at e
  rw [spec_right h hk0, Option.bind_some] at e
  by_cases c1 : bR l ids = true
  case neg =>
    rw [if_neg c1] at e
    obtain rfl := Option.some.inj e
    exact absurd hz (by decide)
  rw [if_pos c1, spec_names hf (by omega), Option.bind_some] at e
  by_cases c2 : (nb a && nb b) = true
  case neg =>
    rw [if_neg c2] at e
    obtain rfl := Option.some.inj e
    exact absurd hz (by decide)
  rw [if_pos c2] at e
  obtain ⟨n60, i100, hs⟩ := right_says c1
  obtain ⟨p, hp⟩ := place_ex hs a b
  unfold spec_l05Open.f at e
  rw [spec_find n60 hs hp (by omega), Option.bind_some] at e
  by_cases f : fnd l a b p = true
  · rw [if_pos f, if_pos (by omega), Option.bind_some] at e
    obtain rfl := Option.some.inj e
    exact absurd hz (by decide)
  rw [if_neg f, if_neg (by decide)] at e
  by_cases c60 : (l.length : Int) ≥ 60
  · rw [if_pos c60, Option.bind_some] at e
    obtain rfl := Option.some.inj e
    exact absurd hz (by decide)
  rw [if_neg c60, Option.bind_some, List.nil_append] at e
  rw [if_pos (by simp; omega), spec_put n60 hp ids (by omega), Option.bind_some] at e
  exact ⟨c1, c2, by omega, p, hp, by simpa using f, (Option.some.inj e).symm⟩
theorem opened_length {l : List S48} {a b : ByteArray} {p : Nat} (hp : p ≤ l.length) : (opened l a b p).length = l.length + 1 := by
  unfold opened
  simp only [List.length_append, List.length_take, List.length_drop, List.length_singleton]
  omega
theorem rd_eq {l : List S48} {i : Nat} (h : i < l.length) : rd_T48 l (i : Int) = l[i] := by
  unfold rd_T48
  rw [Int.toNat_natCast, List.getD_eq_getElem?_getD, List.getElem?_eq_getElem h]
  rfl
theorem rd_lt {l : List S48} {a b : ByteArray} {p j : Nat} (hp : p ≤ l.length) (h : j < p) : rd_T48 (opened l a b p) (j : Int) = rd_T48 l (j : Int) := by
  rw [rd_eq (by rw [opened_length hp]; omega), rd_eq (by omega)]
  unfold opened
  rw [List.getElem_append_left (by simp only [List.length_append, List.length_take, List.length_singleton]; omega), List.getElem_append_left (by rw [List.length_take]; omega), List.getElem_take]
theorem rd_at {l : List S48} {a b : ByteArray} {p : Nat} (hp : p ≤ l.length) : rd_T48 (opened l a b p) (p : Int) = ⟨⟨a, b⟩, 0⟩ := by
  rw [rd_eq (by rw [opened_length hp]; omega)]
  unfold opened
  rw [List.getElem_append_left (by simp only [List.length_append, List.length_take, List.length_singleton]; omega), List.getElem_append_right (by rw [List.length_take]; omega)]
  simp
theorem rd_gt {l : List S48} {a b : ByteArray} {p j : Nat} (hp : p ≤ l.length) (h : p ≤ j) (hj : j < l.length) : rd_T48 (opened l a b p) ((j + 1 : Nat) : Int) = rd_T48 l (j : Int) := by
  rw [rd_eq (by rw [opened_length hp]; omega), rd_eq hj]
  unfold opened
  rw [List.getElem_append_right (by simp only [List.length_append, List.length_take, List.length_singleton]; omega), List.getElem_drop]
  congr 1
  simp only [List.length_append, List.length_take, List.length_singleton]
  omega
def sh (p i : Nat) : Nat := if i < p then i else i + 1
theorem rd_sh {l : List S48} {a b : ByteArray} {p i : Nat} (hp : p ≤ l.length) (hi : i < l.length) : rd_T48 (opened l a b p) (sh p i : Nat) = rd_T48 l (i : Int) := by
  unfold sh
  by_cases c : i < p
  · rw [if_pos c]
    exact rd_lt hp c
  · rw [if_neg c]
    exact rd_gt hp (by omega) hi
theorem sh_lt {l : List S48} {a b : ByteArray} {p i : Nat} (hp : p ≤ l.length) (hi : i < l.length) : sh p i < (opened l a b p).length := by
  rw [opened_length hp]
  unfold sh
  split <;> omega
theorem sorted_opened {l : List S48} (hs : Sorted l) {a b : ByteArray} {p : Nat} (hp : BkFind.Place l a b p) (hf : fnd l a b p = false) : Sorted (opened l a b p) := by
  intro j h0 hj
  have le := hp.le
  rw [opened_length le] at hj
  have ej : ((j : Int) - 1) = ((j - 1 : Nat) : Int) := by omega
  rw [ej]
  rcases Nat.lt_trichotomy j p with q | q | q
  · rw [rd_lt le q, rd_lt le (by omega)]
    have := hs j h0 (by omega)
    rwa [ej] at this
  · subst q
    rw [rd_at le, rd_lt le (by omega)]
    exact hp.before (j - 1) (by omega)
  · have e1 : rd_T48 (opened l a b p) (j : Int) = rd_T48 l ((j - 1 : Nat) : Int) := by
      have := rd_gt (a := a) (b := b) le (j := j - 1) (by omega) (by omega)
      rwa [show j - 1 + 1 = j by omega] at this
    rw [e1]
    by_cases c : j - 1 = p
    · rw [c, rd_at le]
      have h1 := hp.behind p (Nat.le_refl _) (by omega)
      unfold fnd at hf
      rw [decide_eq_true (by omega), Bool.true_and] at hf
      unfold at_ at hf
      have hf := of_decide_eq_false hf
      unfold cb ss at h1
      unfold ss
      rw [sl_iff]
      have h1 : ¬ (lt (rd_T48 l (p : Int)).f0.f0.toList a.toList = true ∨ ((rd_T48 l (p : Int)).f0.f0.toList = a.toList ∧ lt (rd_T48 l (p : Int)).f0.f1.toList b.toList = true)) := by
        rw [← sl_iff, h1]
        decide
      cases x : lt a.toList (rd_T48 l (p : Int)).f0.f0.toList with
      | true => exact .inl rfl
      | false =>
        cases y : lt (rd_T48 l (p : Int)).f0.f0.toList a.toList with
        | true => exact absurd (.inl y) h1
        | false =>
          have e := lt_total x y
          refine .inr ⟨e, ?_⟩
          cases z : lt b.toList (rd_T48 l (p : Int)).f0.f1.toList with
          | true => rfl
          | false =>
            cases t : lt (rd_T48 l (p : Int)).f0.f1.toList b.toList with
            | true => exact absurd (.inr ⟨e.symm, t⟩) h1
            | false => exact absurd ⟨e.symm, (lt_total z t).symm⟩ hf
    · have e2 : rd_T48 (opened l a b p) ((j - 1 : Nat) : Int) = rd_T48 l ((j - 2 : Nat) : Int) := by
        have := rd_gt (a := a) (b := b) le (j := j - 2) (by omega) (by omega)
        rwa [show j - 2 + 1 = j - 1 by omega] at this
      rw [e2]
      have := hs (j - 1) (by omega) (by omega)
      rwa [show (((j - 1 : Nat) : Int) - 1) = ((j - 2 : Nat) : Int) by omega] at this
theorem sum_range (l : List S48) : ∀ n, wrap64 (sumTo l n + 0) = sumTo l n
  | 0 => by simp only [sumTo]; exact wid (by omega) (by omega)
  | n + 1 => by
    simp only [sumTo]
    generalize (sumTo l n + (rd_T48 l (n : Int)).f1) = x
    unfold wrap64
    omega
theorem sum_le {l : List S48} {a b : ByteArray} {p : Nat} (hp : p ≤ l.length) : ∀ j, j ≤ p → sumTo (opened l a b p) j = sumTo l j
  | 0, _ => rfl
  | j + 1, h => by
    simp only [sumTo]
    rw [sum_le hp j (by omega), rd_lt hp (by omega)]
theorem sum_gt {l : List S48} {a b : ByteArray} {p : Nat} (hp : p ≤ l.length) (d : Nat) : p + d ≤ l.length → sumTo (opened l a b p) (p + d + 1) = sumTo l (p + d) := by
  induction d with
  | zero =>
    intro _
    show sumTo (opened l a b p) (p + 1) = sumTo l p
    simp only [sumTo]
    rw [sum_le hp p (Nat.le_refl _), rd_at hp]
    exact sum_range l p
  | succ d ih =>
    intro h
    show wrap64 (sumTo (opened l a b p) (p + d + 1) + (rd_T48 (opened l a b p) ((p + d + 1 : Nat) : Int)).f1) = wrap64 (sumTo l (p + d) + (rd_T48 l ((p + d : Nat) : Int)).f1)
    rw [ih (by omega), rd_gt hp (by omega) (by omega)]
theorem right_opened {l : List S48} {ids : List ByteArray} {a b : ByteArray} {p : Nat} (h : bR l ids = true) (hn : (nb a && nb b) = true) (h6 : l.length < 60) (hp : BkFind.Place l a b p) (hf : fnd l a b p = false) : bR (opened l a b p) ids = true := by
  obtain ⟨_, _, hs⟩ := right_says h
  have so := sorted_opened hs hp hf
  have le := hp.le
  unfold bR at h ⊢
  simp only [Bool.and_eq_true, decide_eq_true_eq] at h ⊢
  obtain ⟨h1, h2, h3, h4, h5⟩ := h
  refine ⟨by rw [opened_length le]; omega, h2, h3, ?_, ?_⟩
  · rw [allB_iff] at h4 ⊢
    intro j hj
    have ord : (decide (j = 0) || ss (rd_T48 (opened l a b p) ((j : Int) - 1)).f0.f0 (rd_T48 (opened l a b p) ((j : Int) - 1)).f0.f1 (rd_T48 (opened l a b p) (j : Int)).f0.f0 (rd_T48 (opened l a b p) (j : Int)).f0.f1) = true := by
      by_cases c : j = 0
      · rw [decide_eq_true c, Bool.true_or]
      · rw [so j (by omega) hj, Bool.or_true]
    unfold okL
    rw [ord, Bool.and_true]
    rw [opened_length le] at hj
    rcases Nat.lt_trichotomy j p with q | q | q
    · rw [rd_lt le q]
      have := h4 j (by omega)
      unfold okL at this
      simp only [Bool.and_eq_true] at this ⊢
      exact ⟨this.1, this.2.1⟩
    · subst q
      rw [rd_at le]
      simp only [Bool.and_eq_true] at hn ⊢
      exact ⟨hn, by decide⟩
    · have e1 : rd_T48 (opened l a b p) (j : Int) = rd_T48 l ((j - 1 : Nat) : Int) := by
        have := rd_gt (a := a) (b := b) le (j := j - 1) (by omega) (by omega)
        rwa [show j - 1 + 1 = j by omega] at this
      rw [e1]
      have := h4 (j - 1) (by omega)
      unfold okL at this
      simp only [Bool.and_eq_true] at this ⊢
      exact ⟨this.1, this.2.1⟩
  · rw [opened_length le]
    have := sum_gt (a := a) (b := b) le (l.length - p) (by omega)
    rw [show p + (l.length - p) = l.length by omega] at this
    rw [this]
    exact h5
theorem place_at {L : List S48} (h : Sorted L) {q : Nat} (hq : q < L.length) : BkFind.Place L (rd_T48 L (q : Int)).f0.f0 (rd_T48 L (q : Int)).f0.f1 q := by
  refine ⟨by omega, fun j hj => sorted_lt h (q - j - 1) q (by omega) hq, fun j h1 h2 => ?_⟩
  unfold cb
  by_cases c : j = q
  · subst c
    exact sl_irrefl _ _
  · cases x : ss (rd_T48 L (j : Int)).f0.f0 (rd_T48 L (j : Int)).f0.f1 (rd_T48 L (q : Int)).f0.f0 (rd_T48 L (q : Int)).f0.f1 with
    | false => rfl
    | true =>
      have y := ss_trans (sorted_lt h (i := q) (j - q - 1) j (by omega) h2) x
      unfold ss at y
      rw [sl_irrefl] at y
      cases y
theorem fnd_self {L : List S48} {q : Nat} (hq : q < L.length) : fnd L (rd_T48 L (q : Int)).f0.f0 (rd_T48 L (q : Int)).f0.f1 q = true := by
  unfold fnd at_
  rw [decide_eq_true hq, Bool.true_and, decide_eq_true ⟨rfl, rfl⟩]
theorem balance {L : List S48} {ids : List ByteArray} (hm : Sm L ids) (h : bR L ids = true) {q : Nat} (hq : q < L.length) {k : Nat} (hk : 5000000 ≤ k) :
    impl_BookBalance.f k L ids (rd_T48 L (q : Int)).f0.f0 (rd_T48 L (q : Int)).f0.f1 = some ((rd_T48 L (q : Int)).f1, 0) := by
  obtain ⟨n60, i100, hs⟩ := right_says h
  have pl := place_at hs hq
  have pe := impl_place (ids := ids) n60 hs pl (k := k) (by omega)
  rw [fnd_self hq] at pe
  unfold impl_BookBalance.f
  refine bnd (impl_right hm hk) ?_
  rw [h]
  refine yes rfl (bnd pe (yes rfl ?_))
  refine bnd (a := (rd_T48 L (q : Int)).f1) ?_ rfl
  unfold impl_Book_balance.f
  exact bnd pe (yes rfl (yes (by simp only; omega) (yes (by simp only; omega) rfl)))
end Go.Proofs.YtidlcolgiololaaDoor.BkOpens
namespace Go.Proofs.YtidlcolgiololaaDoor.BkPost
open Go.RowKit Go.Proofs.YtidlcolgiololaaDoor.S Go.Proofs.YtidlcolgiololaaDoorW.PrintWords Go.Proofs.YtidlcolgiololaaDoor.Cal Go.Proofs.YtidlcolgiololaaDoor.BkLoops Go.Proofs.YtidlcolgiololaaDoor.BkRight Go.Proofs.YtidlcolgiololaaDoor.BkFind Go.Proofs.YtidlcolgiololaaDoor.NameSame
set_option linter.unusedVariables false
set_option linter.unusedSimpArgs false
def FitL (y : S137) : Prop := Fit y.f0.f0 y.f0.f1 ∧ Fit y.f1.f0 y.f1.f1
theorem mem_leg {l : List S137} {i : Nat} (h : i < l.length) : rd_T137 l (i : Int) ∈ l := by
  unfold rd_T137
  rw [Int.toNat_natCast, List.getD_eq_getElem?_getD, List.getElem?_eq_getElem h]
  exact List.getElem_mem h
theorem legs_l0 (L : List S137) (hL : ∀ y ∈ L, FitL y) (h20 : L.length ≤ 20) : ∀ (d i : Nat), i + d = L.length → ∃ b, ∀ k, 2 * d + 200 ≤ k → spec_LegsRight.l0 k L (i : Int) = some b := by
  intro d
  induction d with
  | zero =>
    intro i hi
    refine ⟨true, fun k hk => ?_⟩
    obtain ⟨k, rfl⟩ : ∃ j, k = j + 1 := ⟨k - 1, by omega⟩
    simp only [spec_LegsRight.l0]
    exact no (by omega) rfl
  | succ d ih =>
    intro i hi
    obtain ⟨b, hb⟩ := ih (i + 1) (by omega)
    have hm := hL _ (mem_leg (l := L) (i := i) (by omega))
    have jt : ∀ k, 1 ≤ k → spec_LegsRight.j1 k L (i : Int) true = some false := by
      intro k hk
      obtain ⟨k, rfl⟩ : ∃ j, k = j + 1 := ⟨k - 1, by omega⟩
      simp only [spec_LegsRight.j1]
      exact yes (by trivial) rfl
    have jf : ∀ k, 2 * d + 201 ≤ k → spec_LegsRight.j1 k L (i : Int) false = some b := by
      intro k hk
      obtain ⟨k, rfl⟩ : ∃ j, k = j + 1 := ⟨k - 1, by omega⟩
      simp only [spec_LegsRight.j1]
      refine no (by decide) ?_
      rw [nx i (by omega)]
      exact hb k (by omega)
    by_cases c1 : (nb (rd_T137 L (i : Int)).f0.f0 && nb (rd_T137 L (i : Int)).f0.f1) = true
    case neg =>
      refine ⟨false, fun k hk => ?_⟩
      obtain ⟨k, rfl⟩ : ∃ j, k = j + 1 := ⟨k - 1, by omega⟩
      simp only [spec_LegsRight.l0]
      exact yes (by omega) (yes (by omega) (bnd (spec_names hm.1 (by omega)) (no c1 (jt k (by omega)))))
    by_cases c2 : (nb (rd_T137 L (i : Int)).f1.f0 && nb (rd_T137 L (i : Int)).f1.f1) = true
    case neg =>
      refine ⟨false, fun k hk => ?_⟩
      obtain ⟨k, rfl⟩ : ∃ j, k = j + 1 := ⟨k - 1, by omega⟩
      simp only [spec_LegsRight.l0]
      exact yes (by omega) (yes (by omega) (bnd (spec_names hm.1 (by omega)) (yes c1 (bnd (spec_names hm.2 (by omega)) (no c2 (jt k (by omega)))))))
    by_cases c3 : (rd_T137 L (i : Int)).f2 < 0
    · refine ⟨false, fun k hk => ?_⟩
      obtain ⟨k, rfl⟩ : ∃ j, k = j + 1 := ⟨k - 1, by omega⟩
      simp only [spec_LegsRight.l0]
      exact yes (by omega) (yes (by omega) (bnd (spec_names hm.1 (by omega)) (yes c1 (bnd (spec_names hm.2 (by omega)) (yes c2 (yes c3 (jt k (by omega))))))))
    by_cases c4 : (rd_T137 L (i : Int)).f2 > 1000000000000
    · refine ⟨false, fun k hk => ?_⟩
      obtain ⟨k, rfl⟩ : ∃ j, k = j + 1 := ⟨k - 1, by omega⟩
      simp only [spec_LegsRight.l0]
      refine yes (by omega) (yes (by omega) (bnd (spec_names hm.1 (by omega)) (yes c1 (bnd (spec_names hm.2 (by omega)) (yes c2 (no c3 ?_))))))
      rw [decide_eq_true c4]
      exact jt k (by omega)
    · refine ⟨b, fun k hk => ?_⟩
      obtain ⟨k, rfl⟩ : ∃ j, k = j + 1 := ⟨k - 1, by omega⟩
      simp only [spec_LegsRight.l0]
      refine yes (by omega) (yes (by omega) (bnd (spec_names hm.1 (by omega)) (yes c1 (bnd (spec_names hm.2 (by omega)) (yes c2 (no c3 ?_))))))
      rw [decide_eq_false c4]
      exact jf k (by omega)
theorem legs_right (L : List S137) (hL : ∀ y ∈ L, FitL y) : ∃ b, ∀ k, 300 ≤ k → spec_LegsRight.f k L = some b := by
  by_cases c : (L.length : Int) > 20
  · refine ⟨false, fun k hk => ?_⟩
    unfold spec_LegsRight.f
    exact yes c rfl
  · obtain ⟨b, hb⟩ := legs_l0 L hL (by omega) L.length 0 (by omega)
    refine ⟨b, fun k hk => ?_⟩
    unfold spec_LegsRight.f
    exact no c (hb k (by omega))
theorem find_l0 (l : List S48) (ids : List ByteArray) (a b : ByteArray) (hl : l.length ≤ 1048576) : ∀ (d i : Nat), i + d = l.length → ∃ t : Int, -1 ≤ t ∧ t < (l.length : Int) ∧ ∀ k, d + 1 ≤ k → spec_l05Find.l0 k (i : Int) l ids a b = some t := by
  intro d
  induction d with
  | zero =>
    intro i hi
    refine ⟨-1, by omega, by omega, fun k hk => ?_⟩
    obtain ⟨k, rfl⟩ : ∃ j, k = j + 1 := ⟨k - 1, by omega⟩
    simp only [spec_l05Find.l0]
    exact no (by omega) rfl
  | succ d ih =>
    intro i hi
    by_cases c : (((rd_T48 l (i : Int)).f0.f0).toList == a.toList && (((rd_T48 l (i : Int)).f0.f1).toList == b.toList)) = true
    · refine ⟨i, by omega, by omega, fun k hk => ?_⟩
      obtain ⟨k, rfl⟩ : ∃ j, k = j + 1 := ⟨k - 1, by omega⟩
      simp only [spec_l05Find.l0]
      exact yes (by omega) (yes (by omega) (yes c rfl))
    · obtain ⟨t, h0, h1, ht⟩ := ih (i + 1) (by omega)
      refine ⟨t, h0, h1, fun k hk => ?_⟩
      obtain ⟨k, rfl⟩ : ∃ j, k = j + 1 := ⟨k - 1, by omega⟩
      simp only [spec_l05Find.l0]
      refine yes (by omega) (yes (by omega) (no c ?_))
      rw [nx i (by omega)]
      exact ht k (by omega)
theorem find_some (l : List S48) (ids : List ByteArray) (a b : ByteArray) (hl : l.length ≤ 1048576) : ∃ t : Int, -1 ≤ t ∧ t < (l.length : Int) ∧ ∀ k, l.length + 1 ≤ k → spec_l05Find.f k l ids a b = some t := by
  obtain ⟨t, h0, h1, ht⟩ := find_l0 l ids a b hl l.length 0 (by omega)
  exact ⟨t, h0, h1, fun k hk => by unfold spec_l05Find.f; exact ht k hk⟩
theorem fit_set {l : List S48} (hl : ∀ y ∈ l, Fit y.f0.f0 y.f0.f1) {t : Nat} (ht : t < l.length) (n : Int) : ∀ y ∈ l.set t ⟨⟨(rd_T48 l (t : Int)).f0.f0, (rd_T48 l (t : Int)).f0.f1⟩, n⟩, Fit y.f0.f0 y.f0.f1 := by
  intro y hy
  rcases List.mem_or_eq_of_mem_set hy with h | h
  · exact hl y h
  · rw [h]
    exact hl (rd_T48 l (t : Int)) (mem_rdl ht)
theorem legs_do (L : List S137) (hL : L.length ≤ 1000) (ids : List ByteArray) (N : Nat) (hN : N ≤ 1048576) : ∀ (d i : Nat) (l : List S48), i + d = L.length → l.length = N → (∀ y ∈ l, Fit y.f0.f0 y.f0.f1) →
    ∃ r : List S48 × List ByteArray × Int × Int, (r.2.2.2 = 0 → r.1.length = N ∧ (∀ y ∈ r.1, Fit y.f0.f0 y.f0.f1) ∧ r.2.1 = ids) ∧ ∀ k, 2 * d + N + 10 ≤ k → spec_l05Legs.l0 k L (i : Int) l ids = some r := by
  intro d
  induction d with
  | zero =>
    intro i l hi hl hf
    refine ⟨(l, ids, 0, 0), fun _ => ⟨hl, hf, rfl⟩, fun k hk => ?_⟩
    obtain ⟨k, rfl⟩ : ∃ j, k = j + 1 := ⟨k - 1, by omega⟩
    simp only [spec_l05Legs.l0]
    exact no (by omega) rfl
  | succ d ih =>
    intro i l hi hl hf
    obtain ⟨t, t0, t1, ht⟩ := find_some l ids (rd_T137 L (i : Int)).f0.f0 (rd_T137 L (i : Int)).f0.f1 (by omega)
    obtain ⟨u, u0, u1, hu⟩ := find_some l ids (rd_T137 L (i : Int)).f1.f0 (rd_T137 L (i : Int)).f1.f1 (by omega)
    have go : ∀ (c : Bool) (r : List S48 × List ByteArray × Int × Int), c = (if t < 0 then true else decide (u < 0)) → (∀ k, 2 * d + N + 11 ≤ k → spec_l05Legs.j1 k L (i : Int) t u c l ids = some r) → ∀ k, 2 * (d + 1) + N + 10 ≤ k → spec_l05Legs.l0 k L (i : Int) l ids = some r := by
      intro c r hc hr k hk
      obtain ⟨k, rfl⟩ : ∃ j, k = j + 1 := ⟨k - 1, by omega⟩
      simp only [spec_l05Legs.l0]
      refine yes (by omega) (yes (by omega) (bnd (ht k (by omega)) (bnd (hu k (by omega)) ?_)))
      by_cases c1 : t < 0
      · rw [if_pos c1] at hc ⊢
        exact hc ▸ hr k (by omega)
      · rw [if_neg c1] at hc ⊢
        exact hc ▸ hr k (by omega)
    by_cases c : (if t < 0 then true else decide (u < 0)) = true
    · refine ⟨([], [], (i : Int), 8), fun h => absurd (show (8 : Int) = 0 from h) (by decide), go true _ c.symm fun k hk => ?_⟩
      obtain ⟨k, rfl⟩ : ∃ j, k = j + 1 := ⟨k - 1, by omega⟩
      simp only [spec_l05Legs.j1]
      exact yes (by trivial) rfl
    have ct : ¬ t < 0 := fun h => c (if_pos h)
    have cu : ¬ u < 0 := fun h => c (by rw [if_neg ct]; exact decide_eq_true h)
    have c : (if t < 0 then true else decide (u < 0)) = false := by simpa using c
    obtain ⟨t, rfl⟩ : ∃ q : Nat, t = (q : Int) := ⟨t.toNat, by omega⟩
    obtain ⟨u, rfl⟩ : ∃ q : Nat, u = (q : Int) := ⟨u.toNat, by omega⟩
    by_cases m1 : mon (wrap64 ((rd_T48 l (t : Int)).f1 - (rd_T137 L (i : Int)).f2)) = true
    case neg =>
      refine ⟨([], [], (i : Int), 13), fun h => absurd (show (13 : Int) = 0 from h) (by decide), go false _ c.symm fun k hk => ?_⟩
      obtain ⟨k, rfl⟩ : ∃ j, k = j + 1 := ⟨k - 1, by omega⟩
      simp only [spec_l05Legs.j1]
      exact no (by decide) (yes (by omega) (yes t1 (yes (by omega) (yes (by omega) (bnd (spec_mon _) (no m1 rfl))))))
    obtain ⟨y, hy⟩ : ∃ y, y = l.set t (⟨(⟨(rd_T48 l (t : Int)).f0.f0, (rd_T48 l (t : Int)).f0.f1⟩ : S37), wrap64 ((rd_T48 l (t : Int)).f1 - (rd_T137 L (i : Int)).f2)⟩ : S48) := ⟨_, rfl⟩
    have yl : y.length = N := by rw [hy, List.length_set, hl]
    have yf : ∀ z ∈ y, Fit z.f0.f0 z.f0.f1 := by
      rw [hy]
      exact fit_set hf (by omega) _
    by_cases m2 : mon (wrap64 ((rd_T48 y (u : Int)).f1 + (rd_T137 L (i : Int)).f2)) = true
    case neg =>
      refine ⟨([], [], (i : Int), 13), fun h => absurd (show (13 : Int) = 0 from h) (by decide), go false _ c.symm fun k hk => ?_⟩
      obtain ⟨k, rfl⟩ : ∃ j, k = j + 1 := ⟨k - 1, by omega⟩
      simp only [spec_l05Legs.j1]
      refine no (by decide) (yes (by omega) (yes t1 (yes (by omega) (yes (by omega) (bnd (spec_mon _) (yes m1 ?_))))))
      rw [Option.bind_some, Int.toNat_natCast, ← hy]
      exact yes (by omega) (yes u1 (bnd (spec_mon _) (no m2 rfl)))
    obtain ⟨z, hz⟩ : ∃ z, z = y.set u (⟨(⟨(rd_T48 y (u : Int)).f0.f0, (rd_T48 y (u : Int)).f0.f1⟩ : S37), wrap64 ((rd_T48 y (u : Int)).f1 + (rd_T137 L (i : Int)).f2)⟩ : S48) := ⟨_, rfl⟩
    have zf : ∀ q ∈ z, Fit q.f0.f0 q.f0.f1 := by
      rw [hz]
      exact fit_set yf (by omega) _
    obtain ⟨r, h0, hr⟩ := ih (i + 1) z (by omega) (by rw [hz, List.length_set, yl]) zf
    refine ⟨r, h0, go false _ c.symm fun k hk => ?_⟩
    obtain ⟨k, rfl⟩ : ∃ j, k = j + 1 := ⟨k - 1, by omega⟩
    simp only [spec_l05Legs.j1]
    refine no (by decide) (yes (by omega) (yes t1 (yes (by omega) (yes (by omega) (bnd (spec_mon _) (yes m1 ?_))))))
    rw [Option.bind_some, Int.toNat_natCast, ← hy]
    refine yes (by omega) (yes u1 (bnd (spec_mon _) (yes m2 ?_)))
    rw [Int.toNat_natCast, ← hz, nx i (by omega)]
    exact hr k (by omega)
theorem legs_f (L : List S137) (hL : L.length ≤ 1000) {l : List S48} {ids : List ByteArray} (h : Sm l ids) :
    ∃ r : List S48 × List ByteArray × Int × Int, (r.2.2.2 = 0 → r.1.length = l.length ∧ (∀ y ∈ r.1, Fit y.f0.f0 y.f0.f1) ∧ r.2.1 = ids) ∧ ∀ k, 2000000 ≤ k → spec_l05Legs.f k l ids L = some r := by
  have h0 := h.h0
  have h1 := h.h1
  obtain ⟨r, a, hr⟩ := legs_do L hL ids l.length h.h0 L.length 0 l (by omega) rfl h.h2
  refine ⟨r, a, fun k hk => ?_⟩
  unfold spec_l05Legs.f
  have e : spec_l05Copy.f l ids = some (l, ids) := by
    unfold spec_l05Copy.f
    rw [Option.bind_some, if_pos (by simp only [List.length_nil]; omega), Option.bind_some, if_pos (by simp only [List.length_nil]; omega), List.nil_append, List.nil_append]
  exact bnd e (hr k (by omega))
theorem in_l0 (l : List ByteArray) (s : ByteArray) (hl : l.length ≤ 1048576) : ∀ (d i : Nat), i + d = l.length → ∃ b, ∀ k, d + 1 ≤ k → spec_l05In.l0 k l s (i : Int) = some b := by
  intro d
  induction d with
  | zero =>
    intro i hi
    refine ⟨false, fun k hk => ?_⟩
    obtain ⟨k, rfl⟩ : ∃ j, k = j + 1 := ⟨k - 1, by omega⟩
    simp only [spec_l05In.l0]
    exact no (by omega) rfl
  | succ d ih =>
    intro i hi
    by_cases c : (rdOf ByteArray.empty l (i : Int)).toList = s.toList
    · refine ⟨true, fun k hk => ?_⟩
      obtain ⟨k, rfl⟩ : ∃ j, k = j + 1 := ⟨k - 1, by omega⟩
      simp only [spec_l05In.l0]
      exact yes (by omega) (yes (by omega) (yes c rfl))
    · obtain ⟨b, hb⟩ := ih (i + 1) (by omega)
      refine ⟨b, fun k hk => ?_⟩
      obtain ⟨k, rfl⟩ : ∃ j, k = j + 1 := ⟨k - 1, by omega⟩
      simp only [spec_l05In.l0]
      refine yes (by omega) (yes (by omega) (no c ?_))
      rw [nx i (by omega)]
      exact hb k (by omega)
theorem post_l0 (s : ByteArray) (hs : s.size ≤ 1048576) (l l' : List S48) (ids ids' : List ByteArray) (p q : Int) (hl : ids.length ≤ 1048575) (hi : ∀ y ∈ ids, y.size ≤ 1048576) : ∀ (d i : Nat), i + d = ids.length →
    ∃ z : List ByteArray, z.length = ids.length + 1 ∧ (∀ y ∈ z, y.size ≤ 1048576) ∧ ∀ k, d + 1 ≤ k → spec_l05Post.l0 k s (i : Int) l ids l' ids' p q = some (l', z, p, q) := by
  have put : ∀ i : Nat, i ≤ ids.length → ((ids.take i ++ [s]) ++ ids.drop i).length = ids.length + 1 ∧ ∀ y ∈ (ids.take i ++ [s]) ++ ids.drop i, y.size ≤ 1048576 := by
    intro i h
    refine ⟨by simp only [List.length_append, List.length_take, List.length_drop, List.length_singleton]; omega, fun y hy => ?_⟩
    rcases List.mem_append.1 hy with hy | hy
    · rcases List.mem_append.1 hy with hy | hy
      · exact hi y (List.mem_of_mem_take hy)
      · rw [List.mem_singleton.1 hy]
        exact hs
    · exact hi y (List.mem_of_mem_drop hy)
  intro d
  induction d with
  | zero =>
    intro i h
    refine ⟨_, (put i (by omega)).1, (put i (by omega)).2, fun k hk => ?_⟩
    obtain ⟨k, rfl⟩ : ∃ j, k = j + 1 := ⟨k - 1, by omega⟩
    simp only [spec_l05Post.l0]
    refine no (by omega) ?_
    rw [Option.bind_some, List.nil_append, Int.toNat_natCast]
    refine yes (by omega) (yes (by omega) (yes (by simp only [List.length_nil, List.length_take]; omega) ?_))
    rw [Option.bind_some]
    refine yes (by simp only [List.length_take]; omega) ?_
    rw [Option.bind_some]
    exact yes (by simp only [List.length_append, List.length_take, List.length_drop, List.length_singleton]; omega) rfl
  | succ d ih =>
    intro i h
    by_cases c : (Op.bytesLess ((rdOf ByteArray.empty ids (i : Int)).toList) s.toList) = true
    · obtain ⟨z, z0, z1, hz⟩ := ih (i + 1) (by omega)
      refine ⟨z, z0, z1, fun k hk => ?_⟩
      obtain ⟨k, rfl⟩ : ∃ j, k = j + 1 := ⟨k - 1, by omega⟩
      simp only [spec_l05Post.l0]
      refine yes (by omega) (yes (by omega) (yes c ?_))
      rw [nx i (by omega)]
      exact hz k (by omega)
    · refine ⟨_, (put i (by omega)).1, (put i (by omega)).2, fun k hk => ?_⟩
      obtain ⟨k, rfl⟩ : ∃ j, k = j + 1 := ⟨k - 1, by omega⟩
      simp only [spec_l05Post.l0]
      refine yes (by omega) (yes (by omega) (no c ?_))
      rw [Option.bind_some, List.nil_append, Int.toNat_natCast]
      refine yes (by omega) (yes (by simp only [List.length_nil, List.length_take]; omega) ?_)
      rw [Option.bind_some]
      refine yes (by simp only [List.length_take]; omega) ?_
      rw [Option.bind_some]
      exact yes (by simp only [List.length_append, List.length_take, List.length_drop, List.length_singleton]; omega) rfl
theorem post {l : List S48} {ids : List ByteArray} (h : Sm l ids) {s : ByteArray} (hs : s.size ≤ 1048576) (L : List S137) (hL : L.length ≤ 1000) (hf : ∀ y ∈ L, FitL y) :
    ∃ r : List S48 × List ByteArray × Int × Int, (r.2.2.2 = 0 → Sm r.1 r.2.1 ∧ r.1.length ≤ 60 ∧ r.2.1.length ≤ 101) ∧ ∀ k, 6000000 ≤ k → spec_BookPost.f k l ids s L = some r := by
  have j0t : ∀ k, 5500000 ≤ k → spec_BookPost.j0 k s L true l ids = some ([], [], 0, 2) := by
    intro k hk
    obtain ⟨k, rfl⟩ : ∃ j, k = j + 1 := ⟨k - 1, by omega⟩
    simp only [spec_BookPost.j0]
    exact yes (by trivial) rfl
  have j1t : ∀ k, 1 ≤ k → spec_BookPost.j1 k s L true l ids = some ([], [], 0, 1) := by
    intro k hk
    obtain ⟨k, rfl⟩ : ∃ j, k = j + 1 := ⟨k - 1, by omega⟩
    simp only [spec_BookPost.j1]
    exact yes (by trivial) rfl
  by_cases c1 : (s.size : Int) > 20000
  · refine ⟨([], [], 0, 2), fun e => absurd e (by decide), fun k hk => ?_⟩
    unfold spec_BookPost.f
    exact yes c1 (j0t k (by omega))
  by_cases c2 : (L.length : Int) > 400
  · refine ⟨([], [], 0, 2), fun e => absurd e (by decide), fun k hk => ?_⟩
    unfold spec_BookPost.f
    refine no c1 ?_
    rw [decide_eq_true c2]
    exact j0t k (by omega)
  have st : ∀ r, (∀ k, 5500000 ≤ k → spec_BookPost.j0 (k + 1) s L false l ids = some r) → ∀ k, 6000000 ≤ k → spec_BookPost.f k l ids s L = some r := by
    intro r hr k hk
    obtain ⟨k, rfl⟩ : ∃ j, k = j + 1 := ⟨k - 1, by omega⟩
    unfold spec_BookPost.f
    refine no c1 ?_
    rw [decide_eq_false c2]
    exact hr k (by omega)
  by_cases c3 : bR l ids = true
  case neg =>
    refine ⟨([], [], 0, 1), fun e => absurd e (by decide), st _ fun k hk => ?_⟩
    simp only [spec_BookPost.j0]
    exact no (by decide) (bnd (spec_right h (by omega)) (no c3 (j1t k (by omega))))
  by_cases c4 : nm s.data.toList = true
  case neg =>
    refine ⟨([], [], 0, 1), fun e => absurd e (by decide), st _ fun k hk => ?_⟩
    simp only [spec_BookPost.j0]
    exact no (by decide) (bnd (spec_right h (by omega)) (yes c3 (bnd (spec_name hs (by omega)) (no c4 (j1t k (by omega))))))
  obtain ⟨b, hb⟩ := legs_right L hf
  cases b with
  | false =>
    refine ⟨([], [], 0, 1), fun e => absurd e (by decide), st _ fun k hk => ?_⟩
    simp only [spec_BookPost.j0]
    exact no (by decide) (bnd (spec_right h (by omega)) (yes c3 (bnd (spec_name hs (by omega)) (yes c4 (bnd (hb k (by omega)) (j1t k (by omega)))))))
  | true =>
    obtain ⟨n60, i100, _⟩ := right_says c3
    obtain ⟨bi, hbi⟩ := in_l0 ids s h.h1 ids.length 0 (by omega)
    have hin : ∀ k, 2000000 ≤ k → spec_l05In.f k ids s = some bi := fun k hk => by
      unfold spec_l05In.f
      exact hbi k (by omega)
    have fin : ∀ r : List S48 × List ByteArray × Int × Int, (∀ k, 5000000 ≤ k → spec_l05Post.f k l ids s L = some r) → ∀ k, 6000000 ≤ k → spec_BookPost.f k l ids s L = some r := by
      intro r hr
      refine st _ fun k hk => ?_
      obtain ⟨k, rfl⟩ : ∃ j, k = j + 1 := ⟨k - 1, by omega⟩
      simp only [spec_BookPost.j0]
      refine no (by decide) (bnd (spec_right h (by omega)) (yes c3 (bnd (spec_name hs (by omega)) (yes c4 (bnd (hb (k + 1) (by omega)) ?_)))))
      simp only [spec_BookPost.j1]
      exact no (by decide) (bnd (hr k (by omega)) rfl)
    cases bi with
    | true =>
      refine ⟨([], [], 0, 7), fun e => absurd e (by decide), fin _ fun k hk => ?_⟩
      unfold spec_l05Post.f
      exact bnd (hin k (by omega)) (yes rfl rfl)
    | false =>
      by_cases c5 : (ids.length : Int) ≥ 100
      · refine ⟨([], [], 0, 16), fun e => absurd e (by decide), fin _ fun k hk => ?_⟩
        unfold spec_l05Post.f
        exact bnd (hin k (by omega)) (no (by decide) (yes c5 rfl))
      obtain ⟨r, hr0, hr⟩ := legs_f L hL h
      by_cases c6 : r.2.2.2 = 0
      · obtain ⟨q0, q1, q2⟩ := hr0 c6
        obtain ⟨z, z0, z1, hz⟩ := post_l0 s hs l r.1 ids r.2.1 r.2.2.1 r.2.2.2 (by omega) h.h3 ids.length 0 (by omega)
        refine ⟨(r.1, z, r.2.2.1, r.2.2.2), fun _ => ⟨⟨by show r.1.length ≤ _; omega, by show z.length ≤ _; omega, q1, z1⟩, by show r.1.length ≤ _; omega, by show z.length ≤ _; omega⟩, fin _ fun k hk => ?_⟩
        unfold spec_l05Post.f
        exact bnd (hin k (by omega)) (no (by decide) (no c5 (bnd (hr k (by omega)) (yes c6 (hz k (by omega))))))
      · refine ⟨r, fun e => absurd e c6, fin _ fun k hk => ?_⟩
        unfold spec_l05Post.f
        exact bnd (hin k (by omega)) (no (by decide) (no c5 (bnd (hr k (by omega)) (no c6 rfl))))
end Go.Proofs.YtidlcolgiololaaDoor.BkPost
namespace Go.Proofs.YtidlcolgiololaaDoor.BkDraws
open Go.RowKit Go.Proofs.YtidlcolgiololaaDoor.S Go.Proofs.YtidlcolgiololaaDoorW.PrintWords Go.Proofs.YtidlcolgiololaaDoor.Cal Go.Proofs.YtidlcolgiololaaDoor.Draws Go.Proofs.YtidlcolgiololaaDoor.BkLoops Go.Proofs.YtidlcolgiololaaDoor.BkRight Go.Proofs.YtidlcolgiololaaDoor.BkFind Go.Proofs.YtidlcolgiololaaDoor.BkOpens Go.Proofs.YtidlcolgiololaaDoor.BkPost
set_option linter.unusedVariables false
set_option linter.unusedSimpArgs false
theorem rdo_all {P : ByteArray → Prop} {l : List ByteArray} (h : ∀ x ∈ l, P x) {i : Int} (h0 : 0 ≤ i) (h1 : i < (l.length : Int)) : P (rdOf ByteArray.empty l i) := by
  unfold rdOf
  rw [List.getD_eq_getElem?_getD, List.getElem?_eq_getElem (by omega)]
  exact h _ (List.getElem_mem _)
theorem draw_pick (b : List Int) {at_ : Int} (mx sz : Int) (l : List ByteArray) (hb : b.length ≤ 140737488351232) (ha : 0 ≤ at_) (h1 : 1 ≤ l.length) (h2 : l.length ≤ 1000) {P : ByteArray → Prop} (hP : ∀ x ∈ l, P x) :
    ∃ (r : ByteArray) (a' m' : Int), spec_l01Src_pick.f b at_ mx sz l = some (r, a', m', sz) ∧ P r ∧ 0 ≤ a' := by
  obtain ⟨i, a', m', e, i0, i1, g⟩ := draw_n b mx sz (most := (l.length : Int)) hb ha (by omega)
  refine ⟨_, a', m', ?_, rdo_all hP i0 (i1 (by omega)), g⟩
  unfold spec_l01Src_pick.f
  exact bnd e (yes i0 (yes (i1 (by omega)) rfl))
theorem draw_spot (b : List Int) {at_ : Int} (mx sz : Int) (hb : b.length ≤ 140737488351232) (ha : 0 ≤ at_) :
    ∃ (x y : ByteArray) (a' m' : Int), spec_l01Src_l05Spot.f b at_ mx sz = some (x, y, a', m', sz) ∧ Fit x y ∧ 0 ≤ a' := by
  obtain ⟨c, a1, m1, e1, g1⟩ := draw_one b mx sz (most := 20) hb ha (by omega)
  cases c with
  | true =>
    obtain ⟨x, a2, m2, e2, p2, g2⟩ := draw_pick b m1 sz [(⟨#[]⟩ : ByteArray), (⟨#[122, 122]⟩ : ByteArray), (⟨#[65]⟩ : ByteArray)] hb g1 (by decide) (by decide) (P := fun x => x.size ≤ 1048576) (by decide)
    obtain ⟨y, a3, m3, e3, p3, g3⟩ := draw_pick b m2 sz [(⟨#[]⟩ : ByteArray), (⟨#[122, 122]⟩ : ByteArray), (⟨#[100, 117, 101]⟩ : ByteArray)] hb g2 (by decide) (by decide) (P := fun x => x.size ≤ 1048576) (by decide)
    refine ⟨x, y, a3, m3, ?_, ⟨p2, p3⟩, g3⟩
    unfold spec_l01Src_l05Spot.f
    exact bnd e1 (yes rfl (bnd e2 (bnd e3 rfl)))
  | false =>
    obtain ⟨x, a2, m2, e2, p2, g2⟩ := draw_pick b m1 sz [(⟨#[97, 110, 110]⟩ : ByteArray), (⟨#[98, 97, 110, 107]⟩ : ByteArray), (⟨#[98, 111, 98]⟩ : ByteArray)] hb g1 (by decide) (by decide) (P := fun x => x.size ≤ 1048576) (by decide)
    obtain ⟨y, a3, m3, e3, p3, g3⟩ := draw_pick b m2 sz [(⟨#[100, 117, 101]⟩ : ByteArray), (⟨#[102, 101, 101]⟩ : ByteArray), (⟨#[111, 119, 101, 100]⟩ : ByteArray)] hb g2 (by decide) (by decide) (P := fun x => x.size ≤ 1048576) (by decide)
    refine ⟨x, y, a3, m3, ?_, ⟨p2, p3⟩, g3⟩
    unfold spec_l01Src_l05Spot.f
    exact bnd e1 (no Bool.false_ne_true (bnd e2 (bnd e3 rfl)))
theorem nums_size (l : List Int) : (strOfNums l).size = l.length := by simp [strOfNums, ByteArray.size]
theorem dec {x : Int} (h0 : 0 < x) (h1 : x ≤ 1000) : wrap64 (x - 1) = x - 1 := wid (by omega) (by omega)
theorem name_l0 (b : List Int) (sz : Int) (hb : b.length ≤ 140737488351232) : ∀ (n : Nat) (at_ mx : Int) (s : ByteArray), 0 ≤ at_ → n ≤ 100 → s.size + n ≤ 1000 →
    ∃ (r : ByteArray) (a' m' : Int), (∀ k, n + 1 ≤ k → spec_l01Src_name.l0 k s (n : Int) b at_ mx sz = some (r, a', m', sz)) ∧ r.size ≤ 1000 ∧ 0 ≤ a' := by
  intro n
  induction n with
  | zero =>
    intro at_ mx s ha hn hs
    refine ⟨s, at_, mx, fun k hk => ?_, by omega, ha⟩
    obtain ⟨k, rfl⟩ : ∃ j, k = j + 1 := ⟨k - 1, by omega⟩
    simp only [spec_l01Src_name.l0]
    exact no (by omega) rfl
  | succ n ih =>
    intro at_ mx s ha hn hs
    obtain ⟨i, a1, m1, e1, i0, i1, g1⟩ := draw_n b mx sz (most := 10) hb ha (by omega)
    have i1 := i1 (by omega)
    have zs : (strOfNums [bt (⟨#[97, 98, 99, 100, 101, 102, 48, 49, 57, 45]⟩ : ByteArray) i]).size = 1 := by rw [nums_size]; rfl
    have ss : (s ++ strOfNums [bt (⟨#[97, 98, 99, 100, 101, 102, 48, 49, 57, 45]⟩ : ByteArray) i]).size = s.size + 1 := by rw [ByteArray.size_append, zs]
    obtain ⟨r, a2, m2, h, r0, g2⟩ := ih a1 m1 (s ++ strOfNums [bt (⟨#[97, 98, 99, 100, 101, 102, 48, 49, 57, 45]⟩ : ByteArray) i]) g1 (by omega) (by omega)
    refine ⟨r, a2, m2, fun k hk => ?_, r0, g2⟩
    obtain ⟨k, rfl⟩ : ∃ j, k = j + 1 := ⟨k - 1, by omega⟩
    simp only [spec_l01Src_name.l0]
    refine yes (by omega) (bnd e1 (yes i0 (yes i1 ?_)))
    rw [Option.bind_some]
    refine yes (show s.size + (strOfNums [bt (⟨#[97, 98, 99, 100, 101, 102, 48, 49, 57, 45]⟩ : ByteArray) i]).size ≤ 9223372036854775807 by omega) ?_
    rw [dec (by omega) (by omega), show ((n + 1 : Nat) : Int) - 1 = (n : Int) by omega]
    exact h k (by omega)
theorem draw_name (b : List Int) {at_ : Int} (mx sz : Int) (hb : b.length ≤ 140737488351232) (ha : 0 ≤ at_) :
    ∃ (r : ByteArray) (a' m' : Int), (∀ k, 20 ≤ k → spec_l01Src_name.f k b at_ mx sz = some (r, a', m', sz)) ∧ r.size ≤ 1000 ∧ 0 ≤ a' := by
  obtain ⟨i, a1, m1, e1, i0, i1, g1⟩ := draw_n b mx sz (most := 6) hb ha (by omega)
  obtain ⟨j, a2, m2, e2, j0, j1, g2⟩ := draw_n b m1 sz (most := 4) hb g1 (by omega)
  have j1 := j1 (by omega)
  obtain ⟨j, rfl⟩ : ∃ q : Nat, j = (q : Int) := ⟨j.toNat, by omega⟩
  obtain ⟨r, a3, m3, h, r0, g3⟩ := name_l0 b sz hb j a2 m2 (strOfNums (([(wrap64 (97 + i)) % 256] : List Int))) g2 (by omega) (by rw [nums_size, List.length_singleton]; omega)
  refine ⟨r, a3, m3, fun k hk => ?_, r0, g3⟩
  unfold spec_l01Src_name.f
  exact bnd e1 (bnd e2 (h k (by omega)))
theorem draw_money (b : List Int) {at_ : Int} (mx sz : Int) (hb : b.length ≤ 140737488351232) (ha : 0 ≤ at_) :
    ∃ (r a' m' : Int), spec_l01Src_l02Money.f b at_ mx sz = some (r, a', m', sz) ∧ 0 ≤ a' := by
  obtain ⟨i, a1, m1, e1, i0, i1, g1⟩ := draw_n b mx sz (most := 8) hb ha (by omega)
  unfold spec_l01Src_l02Money.f
  by_cases c0 : i = 0
  · obtain ⟨r, a2, m2, e2, _, _, g2⟩ := draw_edge b m1 sz hb g1
    exact ⟨r, a2, m2, bnd e1 (yes c0 (bnd e2 rfl)), g2⟩
  by_cases c1 : i = 1
  · obtain ⟨j, a2, m2, e2, j0, j1, g2⟩ := draw_n b m1 sz (most := 5) hb g1 (by omega)
    refine ⟨rd [1000000000000, (-1000000000000), 1000000000001, (-1000000000001), 999999999999] j, a2, m2, bnd e1 (no c0 (yes c1 ?_)), g2⟩
    rw [Option.bind_some]
    exact bnd e2 (yes j0 (yes (j1 (by omega)) rfl))
  by_cases c2 : i = 2
  · obtain ⟨j, a2, m2, e2, j0, j1, g2⟩ := draw_n b m1 sz (most := 9) hb g1 (by omega)
    exact ⟨_, a2, m2, bnd e1 (no c0 (no c1 (yes c2 (bnd e2 rfl)))), g2⟩
  by_cases c3 : i = 3
  · obtain ⟨j, a2, m2, e2, j0, j1, g2⟩ := draw_n b m1 sz (most := 1000000000000) hb g1 (by omega)
    exact ⟨_, a2, m2, bnd e1 (no c0 (no c1 (no c2 (yes c3 (bnd e2 rfl))))), g2⟩
  · obtain ⟨j, a2, m2, e2, j0, j1, g2⟩ := draw_n b m1 sz (most := 1000000) hb g1 (by omega)
    exact ⟨_, a2, m2, bnd e1 (no c0 (no c1 (no c2 (no c3 (bnd e2 rfl))))), g2⟩
theorem legs_l0 (b : List Int) (sz : Int) (hb : b.length ≤ 140737488351232) : ∀ (n : Nat) (at_ mx : Int) (L : List S137), 0 ≤ at_ → n ≤ 100 → L.length + n ≤ 1000 → (∀ y ∈ L, FitL y) →
    ∃ (r : List S137) (a' m' : Int), (∀ k, n + 1 ≤ k → spec_l01Src_l05LegsOf.l0 k (n : Int) L b at_ mx sz = some (r, a', m', sz)) ∧ r.length ≤ 1000 ∧ (∀ y ∈ r, FitL y) ∧ 0 ≤ a' := by
  intro n
  induction n with
  | zero =>
    intro at_ mx L ha hn hl hf
    refine ⟨L, at_, mx, fun k hk => ?_, by omega, hf, ha⟩
    obtain ⟨k, rfl⟩ : ∃ j, k = j + 1 := ⟨k - 1, by omega⟩
    simp only [spec_l01Src_l05LegsOf.l0]
    exact no (by omega) rfl
  | succ n ih =>
    intro at_ mx L ha hn hl hf
    obtain ⟨x, y, a1, m1, e1, f1, g1⟩ := draw_spot b mx sz hb ha
    obtain ⟨z, t, a2, m2, e2, f2, g2⟩ := draw_spot b m1 sz hb g1
    obtain ⟨q, a3, m3, e3, q0, q1, g3⟩ := draw_n b m2 sz (most := 100000) hb g2 (by omega)
    obtain ⟨c, a4, m4, e4, g4⟩ := draw_one b m3 sz (most := 15) hb g3 (by omega)
    have mem : ∀ v : Int, ∀ u ∈ L ++ [(⟨(⟨x, y⟩ : S37), (⟨z, t⟩ : S37), v⟩ : S137)], FitL u := by
      intro v u hu
      rcases List.mem_append.1 hu with hu | hu
      · exact hf u hu
      · rw [List.mem_singleton.1 hu]
        exact ⟨f1, f2⟩
    cases c with
    | true =>
      obtain ⟨v, a5, m5, e5, g5⟩ := draw_money b m4 sz hb g4
      obtain ⟨r, a6, m6, h, r0, r1, g6⟩ := ih a5 m5 (L ++ [(⟨(⟨x, y⟩ : S37), (⟨z, t⟩ : S37), v⟩ : S137)]) g5 (by omega) (by rw [List.length_append, List.length_singleton]; omega) (mem v)
      refine ⟨r, a6, m6, fun k hk => ?_, r0, r1, g6⟩
      obtain ⟨k, rfl⟩ : ∃ j, k = j + 1 := ⟨k - 1, by omega⟩
      simp only [spec_l01Src_l05LegsOf.l0]
      refine yes (by omega) (bnd e1 (bnd e2 (bnd e3 (bnd e4 (yes rfl (bnd e5 (yes (by omega) ?_)))))))
      rw [dec (by omega) (by omega), show ((n + 1 : Nat) : Int) - 1 = (n : Int) by omega]
      exact h k (by omega)
    | false =>
      obtain ⟨r, a6, m6, h, r0, r1, g6⟩ := ih a4 m4 (L ++ [(⟨(⟨x, y⟩ : S37), (⟨z, t⟩ : S37), q⟩ : S137)]) g4 (by omega) (by rw [List.length_append, List.length_singleton]; omega) (mem q)
      refine ⟨r, a6, m6, fun k hk => ?_, r0, r1, g6⟩
      obtain ⟨k, rfl⟩ : ∃ j, k = j + 1 := ⟨k - 1, by omega⟩
      simp only [spec_l01Src_l05LegsOf.l0]
      refine yes (by omega) (bnd e1 (bnd e2 (bnd e3 (bnd e4 (no Bool.false_ne_true (yes (by omega) ?_))))))
      rw [dec (by omega) (by omega), show ((n + 1 : Nat) : Int) - 1 = (n : Int) by omega]
      exact h k (by omega)
structure Few (l : List S48) (ids : List ByteArray) : Prop where
  sm : Sm l ids
  n0 : l.length ≤ 1000
  n1 : ids.length ≤ 1000
theorem few_ids {l : List S48} {ids : List ByteArray} (h : Few l ids) (s : ByteArray) (hs : s.size ≤ 1048576) (hn : ids.length < 1000) : Few l (ids ++ [s]) :=
  ⟨⟨h.sm.h0, by rw [List.length_append, List.length_singleton]; omega, h.sm.h2, fun y hy => by
    rcases List.mem_append.1 hy with hy | hy
    · exact h.sm.h3 y hy
    · rw [List.mem_singleton.1 hy]
      exact hs⟩, h.n0, by rw [List.length_append, List.length_singleton]; omega⟩
theorem few_line {l : List S48} {ids : List ByteArray} (h : Few l ids) (s : S48) (hs : Fit s.f0.f0 s.f0.f1) (hn : l.length < 1000) : Few (l ++ [s]) ids :=
  ⟨⟨by rw [List.length_append, List.length_singleton]; omega, h.sm.h1, fun y hy => by
    rcases List.mem_append.1 hy with hy | hy
    · exact h.sm.h2 y hy
    · rw [List.mem_singleton.1 hy]
      exact hs, h.sm.h3⟩, by rw [List.length_append, List.length_singleton]; omega, h.n1⟩
theorem zz (p q : Int) : ((⟨#[122, 122]⟩ : ByteArray) ++ strOfNums [p, q]).size = 4 := by
  rw [ByteArray.size_append, nums_size]
  rfl
theorem book_l2 (b : List Int) (sz : Int) (hb : b.length ≤ 140737488351232) : ∀ (n : Nat) (x at_ mx : Int) (l : List S48) (ids : List ByteArray), 0 ≤ at_ → Few l ids → 102 ≤ ids.length + n →
    ∃ (r : List S48 × List ByteArray) (a' m' : Int), (∀ k, n + 2 ≤ k → spec_l01Src_l05Book.l2 k x b at_ mx sz l ids = some (r.1, r.2, a', m', sz)) ∧ Few r.1 r.2 ∧ 0 ≤ a' := by
  intro n
  induction n with
  | zero =>
    intro x at_ mx l ids ha hf hn
    obtain ⟨i, a1, m1, e1, i0, i1, g1⟩ := draw_n b mx sz (most := 3) hb ha (by omega)
    have i1 := i1 (by omega)
    refine ⟨(l, ids), a1, m1, fun k hk => ?_, hf, g1⟩
    obtain ⟨k, rfl⟩ : ∃ j, k = j + 1 := ⟨k - 1, by omega⟩
    simp only [spec_l01Src_l05Book.l2]
    refine bnd e1 (no ?_ rfl)
    rw [wid (x := 99 + i) (by omega) (by omega)]
    omega
  | succ n ih =>
    intro x at_ mx l ids ha hf hn
    obtain ⟨i, a1, m1, e1, i0, i1, g1⟩ := draw_n b mx sz (most := 3) hb ha (by omega)
    have i1 := i1 (by omega)
    have n1 := hf.n1
    by_cases c : (ids.length : Int) < wrap64 (99 + i)
    · have c' : ids.length < 102 := by
        rw [wid (x := 99 + i) (by omega) (by omega)] at c
        omega
      obtain ⟨r, a2, m2, h, r0, g2⟩ := ih (wrap64 (x + 1)) a1 m1 l (ids ++ [(⟨#[122, 122]⟩ : ByteArray) ++ strOfNums ([(wrap64 (97 + (wrap64 (Int.tdiv x 10)))) % 256, (wrap64 (48 + (Int.tmod x 10))) % 256] : List Int)]) g1 (few_ids hf _ (by rw [zz]; omega) (by omega)) (by rw [List.length_append, List.length_singleton]; omega)
      refine ⟨r, a2, m2, fun k hk => ?_, r0, g2⟩
      obtain ⟨k, rfl⟩ : ∃ j, k = j + 1 := ⟨k - 1, by omega⟩
      simp only [spec_l01Src_l05Book.l2]
      refine bnd e1 (yes c ?_)
      rw [Option.bind_some]
      exact yes (by rw [nums_size]; simp) (yes (by omega) (h k (by omega)))
    · refine ⟨(l, ids), a1, m1, fun k hk => ?_, hf, g1⟩
      obtain ⟨k, rfl⟩ : ∃ j, k = j + 1 := ⟨k - 1, by omega⟩
      simp only [spec_l01Src_l05Book.l2]
      exact bnd e1 (no c rfl)
theorem book_l3 (b : List Int) (sz : Int) (hb : b.length ≤ 140737488351232) : ∀ (n : Nat) (x at_ mx : Int) (l : List S48) (ids : List ByteArray), 0 ≤ at_ → Few l ids → 62 ≤ l.length + n →
    ∃ (r : List S48 × List ByteArray) (a' m' : Int), (∀ k, n + 2 ≤ k → spec_l01Src_l05Book.l3 k x b at_ mx sz l ids = some (r.1, r.2, a', m', sz)) ∧ Few r.1 r.2 ∧ 0 ≤ a' := by
  intro n
  induction n with
  | zero =>
    intro x at_ mx l ids ha hf hn
    obtain ⟨i, a1, m1, e1, i0, i1, g1⟩ := draw_n b mx sz (most := 3) hb ha (by omega)
    have i1 := i1 (by omega)
    refine ⟨(l, ids), a1, m1, fun k hk => ?_, hf, g1⟩
    obtain ⟨k, rfl⟩ : ∃ j, k = j + 1 := ⟨k - 1, by omega⟩
    simp only [spec_l01Src_l05Book.l3]
    refine bnd e1 (no ?_ rfl)
    rw [wid (x := 59 + i) (by omega) (by omega)]
    omega
  | succ n ih =>
    intro x at_ mx l ids ha hf hn
    obtain ⟨i, a1, m1, e1, i0, i1, g1⟩ := draw_n b mx sz (most := 3) hb ha (by omega)
    have i1 := i1 (by omega)
    have n1 := hf.n0
    by_cases c : (l.length : Int) < wrap64 (59 + i)
    · have c' : l.length < 62 := by
        rw [wid (x := 59 + i) (by omega) (by omega)] at c
        omega
      obtain ⟨r, a2, m2, h, r0, g2⟩ := ih (wrap64 (x + 1)) a1 m1 (l ++ [(⟨(⟨(⟨#[122, 122]⟩ : ByteArray) ++ strOfNums ([(wrap64 (97 + (wrap64 (Int.tdiv x 10)))) % 256, (wrap64 (48 + (Int.tmod x 10))) % 256] : List Int), (⟨#[120]⟩ : ByteArray)⟩ : S37), 0⟩ : S48)]) ids g1 (few_line hf _ ⟨by rw [zz]; omega, show (⟨#[120]⟩ : ByteArray).size ≤ 1048576 by decide⟩ (by omega)) (by rw [List.length_append, List.length_singleton]; omega)
      refine ⟨r, a2, m2, fun k hk => ?_, r0, g2⟩
      obtain ⟨k, rfl⟩ : ∃ j, k = j + 1 := ⟨k - 1, by omega⟩
      simp only [spec_l01Src_l05Book.l3]
      refine bnd e1 (yes c ?_)
      rw [Option.bind_some]
      exact yes (by rw [nums_size]; simp) (yes (by omega) (h k (by omega)))
    · refine ⟨(l, ids), a1, m1, fun k hk => ?_, hf, g1⟩
      obtain ⟨k, rfl⟩ : ∃ j, k = j + 1 := ⟨k - 1, by omega⟩
      simp only [spec_l01Src_l05Book.l3]
      exact bnd e1 (no c rfl)
theorem few_set {l : List S48} {ids : List ByteArray} (h : Few l ids) (h0 : 0 < l.length) (n : Int) : Few (l.set (0 : Int).toNat (⟨(⟨(rd_T48 l 0).f0.f0, (rd_T48 l 0).f0.f1⟩ : S37), n⟩ : S48)) ids :=
  ⟨⟨by rw [List.length_set]; exact h.sm.h0, h.sm.h1, fit_set (t := 0) h.sm.h2 h0 n, h.sm.h3⟩, by rw [List.length_set]; exact h.n0, h.n1⟩
theorem book_j2 (b : List Int) (sz : Int) (hb : b.length ≤ 140737488351232) (c : Bool) (at_ mx : Int) (l : List S48) (ids : List ByteArray) (ha : 0 ≤ at_) (hf : Few l ids) (h9 : l.length ≤ 900) (h8 : ids.length ≤ 900) (hc : c = true → 0 < l.length) :
    ∃ (r : List S48 × List ByteArray) (a' m' : Int), (∀ k, 1000 ≤ k → spec_l01Src_l05Book.j2 k c b at_ mx sz l ids = some (r.1, r.2, a', m', sz)) ∧ Few r.1 r.2 ∧ 0 ≤ a' := by
  cases c with
  | false =>
    refine ⟨(l, ids), at_, mx, fun k hk => ?_, hf, ha⟩
    obtain ⟨k, rfl⟩ : ∃ j, k = j + 1 := ⟨k - 1, by omega⟩
    simp only [spec_l01Src_l05Book.j2]
    exact no Bool.false_ne_true rfl
  | true =>
    have h0 := hc rfl
    obtain ⟨i, a1, m1, e1, i0, i1, g1⟩ := draw_n b mx sz (most := 5) hb ha (by omega)
    have st : ∀ (r : List S48 × List ByteArray × Int × Int × Int), (∀ k, 999 ≤ k → (if i = 0 then (if 0 < (l.length : Int) then (some ((l.set (0 : Int).toNat (⟨(⟨(rd_T48 l 0).f0.f0, (rd_T48 l 0).f0.f1⟩ : S37), wrap64 (((rd_T48 l 0).f1) + 1)⟩ : S48)), ids, a1, m1, sz)) else (none)) else (if i = 1 then (if 0 < (l.length : Int) then (if l.length < 3518437208883 then (some ((l ++ [(⟨(⟨(rd_T48 l 0).f0.f0, (rd_T48 l 0).f0.f1⟩ : S37), (rd_T48 l 0).f1⟩ : S48)]), ids, a1, m1, sz)) else (none)) else (none)) else (if i = 2 then (if ids.length < 8796093022208 then (some (l, (ids ++ [(⟨#[97]⟩ : ByteArray)]), a1, m1, sz)) else (none)) else (if i = 3 then (spec_l01Src_l05Book.l2 k 0 b a1 m1 sz l ids) else (spec_l01Src_l05Book.l3 k 0 b a1 m1 sz l ids))))) = some r) → ∀ k, 1000 ≤ k → spec_l01Src_l05Book.j2 k true b at_ mx sz l ids = some r := by
      intro r h k hk
      obtain ⟨k, rfl⟩ : ∃ j, k = j + 1 := ⟨k - 1, by omega⟩
      simp only [spec_l01Src_l05Book.j2]
      exact yes (by trivial) (bnd e1 (h k (by omega)))
    by_cases c0 : i = 0
    · exact ⟨(_, ids), a1, m1, st _ fun k hk => yes c0 (yes (by omega) rfl), few_set hf h0 _, g1⟩
    by_cases c1 : i = 1
    · refine ⟨(_, ids), a1, m1, st _ fun k hk => no c0 (yes c1 (yes (by omega) (yes (by omega) rfl))), few_line hf _ ?_ (by omega), g1⟩
      exact hf.sm.h2 (rd_T48 l ((0 : Nat) : Int)) (mem_rdl (i := 0) h0)
    by_cases c2 : i = 2
    · exact ⟨(l, _), a1, m1, st _ fun k hk => no c0 (no c1 (yes c2 (yes (by omega) rfl))), few_ids hf _ (by decide) (by omega), g1⟩
    by_cases c3 : i = 3
    · obtain ⟨r, a2, m2, h, r0, g2⟩ := book_l2 b sz hb 102 0 a1 m1 l ids g1 hf (by omega)
      exact ⟨r, a2, m2, st _ fun k hk => no c0 (no c1 (no c2 (yes c3 (h k (by omega))))), r0, g2⟩
    · obtain ⟨r, a2, m2, h, r0, g2⟩ := book_l3 b sz hb 62 0 a1 m1 l ids g1 hf (by omega)
      exact ⟨r, a2, m2, st _ fun k hk => no c0 (no c1 (no c2 (no c3 (h k (by omega))))), r0, g2⟩
theorem book_l1 (b : List Int) (sz : Int) (hb : b.length ≤ 140737488351232) : ∀ (n : Nat) (at_ mx : Int) (l : List S48) (ids : List ByteArray), 0 ≤ at_ → n ≤ 100 → Few l ids → l.length ≤ 900 → ids.length ≤ 900 →
    ∃ (r : List S48 × List ByteArray) (a' m' : Int), (∀ k, n + 7000000 ≤ k → spec_l01Src_l05Book.l1 k (n : Int) b at_ mx sz l ids = some (r.1, r.2, a', m', sz)) ∧ Few r.1 r.2 ∧ 0 ≤ a' := by
  intro n
  induction n with
  | zero =>
    intro at_ mx l ids ha hn hf h9 h8
    obtain ⟨c, a1, m1, e1, g1⟩ := draw_one b mx sz (most := 15) hb ha (by omega)
    cases c with
    | true =>
      obtain ⟨r, a2, m2, h, r0, g2⟩ := book_j2 b sz hb (decide ((l.length : Int) > 0)) a1 m1 l ids g1 hf h9 h8 (fun h => by have := of_decide_eq_true h; omega)
      refine ⟨r, a2, m2, fun k hk => ?_, r0, g2⟩
      obtain ⟨k, rfl⟩ : ∃ j, k = j + 1 := ⟨k - 1, by omega⟩
      simp only [spec_l01Src_l05Book.l1]
      exact no (by omega) (bnd e1 (yes rfl (h k (by omega))))
    | false =>
      obtain ⟨r, a2, m2, h, r0, g2⟩ := book_j2 b sz hb false a1 m1 l ids g1 hf h9 h8 (fun h => by cases h)
      refine ⟨r, a2, m2, fun k hk => ?_, r0, g2⟩
      obtain ⟨k, rfl⟩ : ∃ j, k = j + 1 := ⟨k - 1, by omega⟩
      simp only [spec_l01Src_l05Book.l1]
      exact no (by omega) (bnd e1 (no Bool.false_ne_true (h k (by omega))))
  | succ n ih =>
    intro at_ mx l ids ha hn hf h9 h8
    obtain ⟨s, a1, m1, e1, s0, g1⟩ := draw_name b mx sz hb ha
    obtain ⟨i, a2, m2, e2, i0, i1, g2⟩ := draw_n b m1 sz (most := 3) hb g1 (by omega)
    have i1 := i1 (by omega)
    have e5 : wrap64 (1 + i) = ((1 + i.toNat : Nat) : Int) := by rw [wid (by omega) (by omega)]; omega
    obtain ⟨L, a3, m3, e3, L0, L1, g3⟩ := legs_l0 b sz hb (1 + i.toNat) a2 m2 [] g2 (by omega) (by rw [List.length_nil]; omega) (fun y hy => by cases hy)
    obtain ⟨q, q0, hq⟩ := post hf.sm (s := s) (by omega) L L0 L1
    have st : ∀ (x : List S48 × List ByteArray × Int × Int × Int), (∀ k, n + 7000000 ≤ k → (if q.2.2.2 = 0 then (spec_l01Src_l05Book.l1 k (n : Int) b a3 m3 sz q.1 q.2.1) else (spec_l01Src_l05Book.l1 k (n : Int) b a3 m3 sz l ids)) = some x) → ∀ k, n + 1 + 7000000 ≤ k → spec_l01Src_l05Book.l1 k ((n + 1 : Nat) : Int) b at_ mx sz l ids = some x := by
      intro x h k hk
      obtain ⟨k, rfl⟩ : ∃ j, k = j + 1 := ⟨k - 1, by omega⟩
      simp only [spec_l01Src_l05Book.l1]
      refine yes (by omega) (bnd (e1 k (by omega)) (bnd e2 ?_))
      rw [e5, dec (by omega) (by omega), show ((n + 1 : Nat) : Int) - 1 = (n : Int) by omega]
      refine bnd (a := (L, a3, m3, sz)) ?_ (bnd (hq k (by omega)) (h k (by omega)))
      unfold spec_l01Src_l05LegsOf.f
      exact e3 k (by omega)
    by_cases c : q.2.2.2 = 0
    · obtain ⟨c0, c1, c2⟩ := q0 c
      obtain ⟨r, a4, m4, h, r0, g4⟩ := ih a3 m3 q.1 q.2.1 g3 (by omega) ⟨c0, by omega, by omega⟩ (by omega) (by omega)
      exact ⟨r, a4, m4, st _ fun k hk => yes c (h k hk), r0, g4⟩
    · obtain ⟨r, a4, m4, h, r0, g4⟩ := ih a3 m3 l ids g3 (by omega) hf h9 h8
      exact ⟨r, a4, m4, st _ fun k hk => no c (h k hk), r0, g4⟩
theorem book_l0 (b : List Int) (sz : Int) (hb : b.length ≤ 140737488351232) : ∀ (n : Nat) (at_ mx : Int) (l : List S48) (ids : List ByteArray), 0 ≤ at_ → n ≤ 100 → Few l ids → l.length ≤ 900 → ids.length ≤ 900 →
    ∃ (r : List S48 × List ByteArray) (a' m' : Int), (∀ k, n + 7001000 ≤ k → spec_l01Src_l05Book.l0 k (n : Int) b at_ mx sz l ids = some (r.1, r.2, a', m', sz)) ∧ Few r.1 r.2 ∧ 0 ≤ a' := by
  intro n
  induction n with
  | zero =>
    intro at_ mx l ids ha hn hf h9 h8
    obtain ⟨i, a1, m1, e1, i0, i1, g1⟩ := draw_n b mx sz (most := 5) hb ha (by omega)
    have i1 := i1 (by omega)
    obtain ⟨i, rfl⟩ : ∃ q : Nat, i = (q : Int) := ⟨i.toNat, by omega⟩
    obtain ⟨r, a2, m2, h, r0, g2⟩ := book_l1 b sz hb i a1 m1 l ids g1 (by omega) hf h9 h8
    refine ⟨r, a2, m2, fun k hk => ?_, r0, g2⟩
    obtain ⟨k, rfl⟩ : ∃ j, k = j + 1 := ⟨k - 1, by omega⟩
    simp only [spec_l01Src_l05Book.l0]
    exact no (by omega) (bnd e1 (h k (by omega)))
  | succ n ih =>
    intro at_ mx l ids ha hn hf h9 h8
    obtain ⟨x, y, a1, m1, e1, f1, g1⟩ := draw_spot b mx sz hb ha
    obtain ⟨q, q0, hq⟩ := opens hf.sm f1
    have st : ∀ (z : List S48 × List ByteArray × Int × Int × Int), (∀ k, n + 7001000 ≤ k → (if q.2.2.2 = 0 then (spec_l01Src_l05Book.l0 k (n : Int) b a1 m1 sz q.1 q.2.1) else (spec_l01Src_l05Book.l0 k (n : Int) b a1 m1 sz l ids)) = some z) → ∀ k, n + 1 + 7001000 ≤ k → spec_l01Src_l05Book.l0 k ((n + 1 : Nat) : Int) b at_ mx sz l ids = some z := by
      intro z h k hk
      obtain ⟨k, rfl⟩ : ∃ j, k = j + 1 := ⟨k - 1, by omega⟩
      simp only [spec_l01Src_l05Book.l0]
      rw [dec (by omega) (by omega), show ((n + 1 : Nat) : Int) - 1 = (n : Int) by omega]
      exact yes (by omega) (bnd e1 (bnd (hq k (by omega)).1 (h k (by omega))))
    by_cases c : q.2.2.2 = 0
    · have o := q0 c
      obtain ⟨p, pl, pf, e⟩ := o.p
      subst e
      have fw : Few (opened l x y p) ids := by
        have le := opened_length (a := x) (b := y) pl.le
        have o6 := o.short
        refine ⟨⟨by omega, hf.sm.h1, fun z hz => ?_, hf.sm.h3⟩, by omega, hf.n1⟩
        unfold opened at hz
        rcases List.mem_append.1 hz with hz | hz
        · rcases List.mem_append.1 hz with hz | hz
          · exact hf.sm.h2 z (List.mem_of_mem_take hz)
          · rw [List.mem_singleton.1 hz]
            exact f1
        · exact hf.sm.h2 z (List.mem_of_mem_drop hz)
      have le := opened_length (a := x) (b := y) pl.le
      have o6 := o.short
      obtain ⟨r, a4, m4, h, r0, g4⟩ := ih a1 m1 (opened l x y p) ids g1 (by omega) fw (by omega) h8
      exact ⟨r, a4, m4, st _ fun k hk => yes rfl (h k hk), r0, g4⟩
    · obtain ⟨r, a4, m4, h, r0, g4⟩ := ih a1 m1 l ids g1 (by omega) hf h9 h8
      exact ⟨r, a4, m4, st _ fun k hk => no c (h k hk), r0, g4⟩
theorem draw_book (b : List Int) {at_ : Int} (mx sz : Int) (hb : b.length ≤ 140737488351232) (ha : 0 ≤ at_) :
    ∃ (r : List S48 × List ByteArray) (a' m' : Int), (∀ k, 8000000 ≤ k → spec_l01Src_l05Book.f k b at_ mx sz = some (r.1, r.2, a', m', sz)) ∧ Few r.1 r.2 ∧ 0 ≤ a' := by
  obtain ⟨i, a1, m1, e1, i0, i1, g1⟩ := draw_n b mx sz (most := 8) hb ha (by omega)
  have i1 := i1 (by omega)
  have e5 : wrap64 (3 + i) = ((3 + i.toNat : Nat) : Int) := by rw [wid (by omega) (by omega)]; omega
  obtain ⟨r, a2, m2, h, r0, g2⟩ := book_l0 b sz hb (3 + i.toNat) a1 m1 [] [] g1 (by omega) ⟨⟨by simp, by simp, fun y hy => (by cases hy), fun y hy => (by cases hy)⟩, by simp, by simp⟩ (by simp) (by simp)
  refine ⟨r, a2, m2, fun k hk => ?_, r0, g2⟩
  unfold spec_l01Src_l05Book.f
  refine bnd e1 ?_
  rw [e5]
  exact h k (by omega)
theorem draw_open (b : List Int) (hb : b.length ≤ 140737488351232) : ∃ (r : List S48 × List ByteArray) (x y : ByteArray), (∀ k, 8000000 ≤ k → spec_DrawBookOpen.f k b = some (r.1, r.2, x, y)) ∧ Few r.1 r.2 ∧ Fit x y := by
  obtain ⟨m0, sz, h0, _, _⟩ := source b hb
  obtain ⟨r, a1, m1, h1, r0, g1⟩ := draw_book b m0 sz hb (Int.le_refl 0)
  obtain ⟨x, y, a2, m2, e2, f2, g2⟩ := draw_spot b m1 sz hb g1
  refine ⟨r, x, y, fun k hk => ?_, r0, f2⟩
  unfold spec_DrawBookOpen.f
  exact bnd (h0 k (by omega)) (bnd (h1 k hk) (bnd e2 rfl))
end Go.Proofs.YtidlcolgiololaaDoor.BkDraws
namespace Go.Proofs.YtidlcolgiololaaDoor.Pure
open Go.RowKit Go.Proofs.YtidlcolgiololaaDoor.S Go.Proofs.YtidlcolgiololaaDoorW.PrintWords Go.Proofs.YtidlcolgiololaaDoor.Cal Go.Proofs.YtidlcolgiololaaDoor.BkLoops Go.Proofs.YtidlcolgiololaaDoor.BkRight Go.Proofs.YtidlcolgiololaaDoor.BkFind Go.Proofs.YtidlcolgiololaaDoor.BkOpens Go.Proofs.YtidlcolgiololaaDoor.BkDraws
set_option linter.unusedVariables false
set_option linter.unusedSimpArgs false
theorem FnBookOpen : StmFnBookOpen.Pure := by
  rintro b ⟨hl, _⟩
  by_cases c : (b.length : Int) > 1048576
  · exact ⟨1, by unfold laws_FnBookOpen.f; exact yes c rfl⟩
  obtain ⟨⟨l, ids⟩, x, y, hd, hf, fx⟩ := draw_open b (by omega)
  have hf : Few l ids := hf
  have hd : ∀ k, 8000000 ≤ k → spec_DrawBookOpen.f k b = some (l, ids, x, y) := hd
  obtain ⟨q, q0, hq⟩ := opens (l := l) (ids := ids) hf.sm fx
  refine ⟨10000000, ?_⟩
  generalize hk : (10000000 : Nat) = k
  have hk1 : 9000000 ≤ k := by omega
  clear hk
  unfold laws_FnBookOpen.f
  refine no c (bnd (hd k (by omega)) (bnd (hq k (by omega)).1 (bnd (hq k (by omega)).2 (yes rfl ?_))))
  by_cases c0 : q.2.2.2 = 0
  case neg => exact no c0 rfl
  have o := q0 c0
  obtain ⟨p, pl, pf, e⟩ := o.p
  have o6 := o.short
  subst e
  have le := opened_length (a := x) (b := y) pl.le
  have rt := right_opened o.right o.names o.short pl pf
  have sm : Sm (opened l x y p) ids := by
    refine ⟨by omega, hf.sm.h1, fun z hz => ?_, hf.sm.h3⟩
    unfold opened at hz
    rcases List.mem_append.1 hz with hz | hz
    · rcases List.mem_append.1 hz with hz | hz
      · exact hf.sm.h2 z (List.mem_of_mem_take hz)
      · rw [List.mem_singleton.1 hz]
        exact fx
    · exact hf.sm.h2 z (List.mem_of_mem_drop hz)
  have bal : ∀ (j : Nat), j < (opened l x y p).length → ∀ k, 5000000 ≤ k → impl_BookBalance.f k (opened l x y p) ids (rd_T48 (opened l x y p) (j : Int)).f0.f0 (rd_T48 (opened l x y p) (j : Int)).f0.f1 = some ((rd_T48 (opened l x y p) (j : Int)).f1, 0) := fun j hj k hk => balance sm rt hj hk
  have at_p : ∀ k, 5000000 ≤ k → impl_BookBalance.f k (opened l x y p) ids x y = some (0, 0) := by
    intro k hk
    have := bal p (by rw [le]; have := pl.le; omega) k hk
    rwa [rd_at pl.le] at this
  have loop : ∀ (d i k : Nat), i + d = l.length → d + 5000001 ≤ k → laws_FnBookOpen.l0 k (i : Int) l ids (opened l x y p) ids 0 0 = some true := by
    intro d
    induction d with
    | zero =>
      intro i k hi hk
      obtain ⟨k, rfl⟩ : ∃ j, k = j + 1 := ⟨k - 1, by omega⟩
      simp only [laws_FnBookOpen.l0]
      exact no (by omega) rfl
    | succ d ih =>
      intro i k hi hk
      obtain ⟨k, rfl⟩ : ∃ j, k = j + 1 := ⟨k - 1, by omega⟩
      simp only [laws_FnBookOpen.l0]
      have h1 := bal (sh p i) (sh_lt pl.le (by omega)) k (by omega)
      rw [rd_sh pl.le (by omega)] at h1
      refine yes (by omega) (yes (by omega) (bnd h1 ?_))
      refine no (by simp) ?_
      rw [nx i (by omega)]
      exact ih (i + 1) k (by omega) (by omega)
  refine yes c0 (yes ?_ (bnd (impl_right sm (by omega)) ?_))
  · show ((opened l x y p).length : Int) = wrap64 ((l.length : Int) + 1)
    rw [le, wid (by omega) (by omega)]
    omega
  rw [rt]
  refine yes rfl (bnd (at_p k (by omega)) ?_)
  obtain ⟨k, rfl⟩ : ∃ j, k = j + 1 := ⟨k - 1, by omega⟩
  simp only [laws_FnBookOpen.j0]
  refine no (by decide) ?_
  exact loop l.length 0 k (by omega) (by omega)
end Go.Proofs.YtidlcolgiololaaDoor.Pure
