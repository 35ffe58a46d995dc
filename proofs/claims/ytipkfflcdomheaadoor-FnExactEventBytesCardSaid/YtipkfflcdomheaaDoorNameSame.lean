/- Plain laws: the program's NameRight and the reference's answer alike, at every text; no condition beyond each lemma's own. -/
import Derived.Test.YtipkfflcdomheaaDoorDiskBase
import Derived.Lib.SlTrimSet
import Derived.Test.YtipkfflcdomheaaDoorS0
import Derived.Test.YtipkfflcdomheaaDoorS2
import Derived.Test.YtipkfflcdomheaaDoorS6
namespace Go.Proofs.YtipkfflcdomheaaDoor.NameSame
open Go.RowKit Go.Proofs.YtipkfflcdomheaaDoor.S Go.Proofs.YtipkfflcdomheaaDoorW.PrintWords Go.Proofs.YtipkfflcdomheaaDoor.Cal Go.Proofs.YtipkfflcdomheaaDoor.DiskBase
set_option linter.unusedVariables false
set_option linter.unusedSimpArgs false

def letters : List UInt8 := [97, 98, 99, 100, 101, 102, 103, 104, 105, 106, 107, 108, 109, 110, 111, 112, 113, 114, 115, 116, 117, 118, 119, 120, 121, 122]
def signs : List UInt8 := [97, 98, 99, 100, 101, 102, 103, 104, 105, 106, 107, 108, 109, 110, 111, 112, 113, 114, 115, 116, 117, 118, 119, 120, 121, 122, 48, 49, 50, 51, 52, 53, 54, 55, 56, 57, 95]
def ok1 (b : UInt8) : Bool := decide (97 ≤ b.toNat ∧ b.toNat ≤ 122)
def ok2 (b : UInt8) : Bool := decide ((97 ≤ b.toNat ∧ b.toNat ≤ 122) ∨ (48 ≤ b.toNat ∧ b.toNat ≤ 57) ∨ b.toNat = 95)
theorem ok12 {b : UInt8} (h : ok1 b = true) : ok2 b = true := by
  unfold ok1 at h
  unfold ok2
  rw [decide_eq_true_eq] at h ⊢
  exact Or.inl h
theorem all_bytes {p : UInt8 → Bool} (h : ∀ n : Nat, n < 256 → p (UInt8.ofNat n) = true) (b : UInt8) : p b = true := by
  have := h b.toNat b.toNat_lt
  rwa [UInt8.ofNat_toNat] at this
theorem letters_ok (b : UInt8) : letters.contains b = ok1 b := by
  have := all_bytes (p := fun b => letters.contains b == ok1 b) (by decide +kernel) b
  exact beq_iff_eq.1 this
theorem signs_ok (b : UInt8) : signs.contains b = ok2 b := by
  have := all_bytes (p := fun b => signs.contains b == ok2 b) (by decide +kernel) b
  exact beq_iff_eq.1 this
theorem dw_all {p : UInt8 → Bool} : ∀ l : List UInt8, (l.dropWhile p).all p = true → l.all p = true
  | [], _ => rfl
  | x :: r, h => by
    cases hx : p x with
    | false =>
      rw [List.dropWhile_cons_of_neg (by simp [hx])] at h
      exact h
    | true =>
      rw [List.dropWhile_cons_of_pos hx] at h
      rw [List.all_cons, hx, dw_all r h]
      rfl
theorem dw_nil {p : UInt8 → Bool} : ∀ l : List UInt8, l.all p = true → l.dropWhile p = []
  | [], _ => rfl
  | x :: r, h => by
    rw [List.all_cons, Bool.and_eq_true] at h
    rw [List.dropWhile_cons_of_pos h.1]
    exact dw_nil r h.2
theorem trim_nil (l cs : List UInt8) : Lib.trimS l cs = [] ↔ l.all (fun b => cs.contains b) = true := by
  unfold Lib.trimS Lib.trimLeftS Lib.trimRightS
  constructor
  · intro h
    have h1 := dw_all (p := fun b => cs.contains b) ((l.reverse.dropWhile (fun b => cs.contains b)).reverse) (by rw [h]; rfl)
    rw [List.all_reverse] at h1
    have h2 := dw_all _ h1
    rwa [List.all_reverse] at h2
  · intro h
    have h1 : l.reverse.all (fun b => cs.contains b) = true := by rw [List.all_reverse]; exact h
    rw [dw_nil _ h1]
    rfl
/-- What both say of a text's bytes. -/
def nm : List UInt8 → Bool
  | [] => false
  | x :: r => decide (r.length ≤ 19) && (ok1 x && r.all ok2)
theorem nm_cons (x : UInt8) (r : List UInt8) : nm (x :: r) = (decide (r.length ≤ 19) && (ok1 x && r.all ok2)) := rfl
theorem size_data (s : ByteArray) : s.size = s.data.toList.length := by
  rw [Array.length_toList]
  rfl
theorem trim_val {s c : ByteArray} (h : s.size ≤ 1048576) (hc : c.size ≤ 100) (ha : (c.data.toList.all fun b => decide (b.toNat < 128)) = true) : strings_Trim.f s c = some ⟨(Lib.trimS s.data.toList c.data.toList).toArray⟩ := by
  unfold strings_Trim.f
  exact if_pos ⟨by omega, by omega, ha⟩
theorem impl_name {s : ByteArray} (h : s.size ≤ 1048576) : impl_NameRight.f s = some (nm s.data.toList) := by
  unfold impl_NameRight.f
  have hz := size_data s
  cases hl : s.data.toList with
  | nil =>
    rw [hl] at hz
    have hz' : s.size = 0 := hz
    refine yes (by omega) ?_
    refine bnd (a := false) ?_ rfl
    unfold impl_isWord.f
    exact yes (by rw [toList_data, hl]) rfl
  | cons x r =>
    rw [hl] at hz
    have hz' : s.size = r.length + 1 := hz
    by_cases c : r.length ≤ 19
    case neg =>
      refine no (by omega) ?_
      rw [nm_cons]
      rw [decide_eq_false c]
      rfl
    refine yes (by omega) ?_
    refine bnd (a := nm (x :: r)) ?_ rfl
    unfold impl_isWord.f
    refine no (by rw [toList_data, hl]; exact List.cons_ne_nil _ _) ?_
    refine yes (by omega) ?_
    refine yes (by omega) ?_
    have e1 : (s.extract 0 1).data.toList = [x] := by
      simp only [ByteArray.data_extract, Array.toList_extract, List.extract_eq_take_drop, hl]
      rfl
    have t1 := trim_val (s := s.extract 0 1) (c := ⟨#[97, 98, 99, 100, 101, 102, 103, 104, 105, 106, 107, 108, 109, 110, 111, 112, 113, 114, 115, 116, 117, 118, 119, 120, 121, 122]⟩) (by rw [size_data, e1]; simp) (by decide) (by decide)
    refine bnd t1 ?_
    rw [e1]
    have g1 := trim_nil [x] letters
    have e2 : [x].all (fun b => letters.contains b) = ok1 x := by rw [List.all_cons, letters_ok]; simp
    rw [e2] at g1
    have t2 := trim_val (s := s) (c := ⟨#[97, 98, 99, 100, 101, 102, 103, 104, 105, 106, 107, 108, 109, 110, 111, 112, 113, 114, 115, 116, 117, 118, 119, 120, 121, 122, 48, 49, 50, 51, 52, 53, 54, 55, 56, 57, 95]⟩) h (by decide) (by decide)
    have g2 := trim_nil (x :: r) signs
    have e3 : (x :: r).all (fun b => signs.contains b) = (x :: r).all ok2 := by congr 1; funext b; exact signs_ok b
    rw [e3] at g2
    by_cases o : ok1 x = true
    · refine yes (by rw [toList_data]; exact g1.2 o) ?_
      refine bnd t2 ?_
      rw [hl, toList_data]
      show some (Lib.trimS (x :: r) signs == []) = some (nm (x :: r))
      have v : nm (x :: r) = r.all ok2 := by
        rw [nm_cons]
        rw [decide_eq_true c, o]
        rfl
      rw [v]
      rw [List.all_cons, ok12 o, Bool.true_and] at g2
      cases w : r.all ok2 with
      | true => rw [beq_iff_eq.2 (g2.2 w)]
      | false =>
        have : ¬ Lib.trimS (x :: r) signs = [] := fun z => by rw [g2.1 z] at w; cases w
        rw [beq_eq_false_iff_ne.2 this]
    · refine no (by rw [toList_data]; exact fun z => o (g1.1 z)) ?_
      rw [nm_cons]
      have o' : ok1 x = false := by simpa using o
      rw [o', Bool.false_and, Bool.and_false]
theorem bt_pre {s : ByteArray} {pre r : List UInt8} {x : UInt8} (h : s.data.toList = pre ++ x :: r) : bt s (pre.length : Int) = (x.toNat : Int) := by
  unfold bt
  have hz := size_data s
  rw [h, List.length_append, List.length_cons] at hz
  rw [Int.toNat_natCast, dif_pos (by omega)]
  have e : s[pre.length]'(by omega) = x := by
    have : s[pre.length]'(by omega) = s.data.toList[pre.length]'(by rw [h]; simp) := rfl
    rw [this]
    simp [h]
  rw [e]
theorem j2_step {s : ByteArray} {k : Nat} {i : Int} (b : Bool) : spec_NameRight.j2 (k + 1) s i b = if b = true then some false else spec_NameRight.l0 k s (wrap64 (i + 1)) := by
  rw [spec_NameRight.j2]
theorem l0_at {s : ByteArray} {pre r : List UInt8} {x : UInt8} (h : s.data.toList = pre ++ x :: r) (hs : s.size ≤ 100) (k : Nat) : spec_NameRight.l0 (k + 2) s (pre.length : Int) = if (if pre = [] then ok1 x else ok2 x) = true then spec_NameRight.l0 k s ((pre ++ [x]).length : Int) else some false := by
  have hz := size_data s
  rw [h, List.length_append, List.length_cons] at hz
  have hw := nxt pre x (by omega)
  rw [spec_NameRight.l0, bt_pre h]
  refine yes (by omega) ?_
  refine yes (by omega) ?_
  simp only [j2_step, hw]
  unfold ok1 ok2
  rcases pre with _ | ⟨p, q⟩
  · simp only [List.length_nil]
    by_cases c1 : 97 ≤ x.toNat
    · by_cases c2 : x.toNat ≤ 122
      · rw [if_pos (by omega), if_pos (by omega)]
        simp [c1, c2]
      · rw [if_pos (by omega), if_neg (by omega)]
        simp [c1, c2]
    · rw [if_neg (by omega)]
      simp [c1]
  · have n0 : ¬ (((p :: q).length : Nat) : Int) = 0 := by simp; omega
    by_cases c1 : 97 ≤ x.toNat
    · by_cases c2 : x.toNat ≤ 122
      · rw [if_pos (by omega), if_pos (by omega)]
        simp [c1, c2]
      · rw [if_pos (by omega), if_neg (by omega), if_neg n0, if_pos (by omega), if_neg (by omega)]
        have a3 : ((x.toNat : Int) != 95) = true := by rw [bne_iff_ne]; omega
        have a4 : ¬ x.toNat ≤ 57 := by omega
        have a5 : ¬ x.toNat = 95 := by omega
        simp [c1, c2, a3, a4, a5]
    · rw [if_neg (by omega), if_neg n0]
      by_cases c3 : 48 ≤ x.toNat
      · by_cases c4 : x.toNat ≤ 57
        · rw [if_pos (by omega), if_pos (by omega)]
          simp [c3, c4]
        · rw [if_pos (by omega), if_neg (by omega)]
          by_cases c5 : x.toNat = 95
          · have a3 : ((x.toNat : Int) != 95) = false := by rw [bne_eq_false_iff_eq]; omega
            simp [c5, a3]
          · have a3 : ((x.toNat : Int) != 95) = true := by rw [bne_iff_ne]; omega
            simp [c1, c4, c5, a3]
      · rw [if_neg (by omega)]
        have c5 : ¬ x.toNat = 95 := by omega
        have a3 : ((x.toNat : Int) != 95) = true := by rw [bne_iff_ne]; omega
        simp [c1, c3, c5, a3]
theorem l0_rest {s : ByteArray} (hs : s.size ≤ 100) : ∀ (r pre : List UInt8), pre ≠ [] → s.data.toList = pre ++ r → ∀ k, 2 * r.length + 1 ≤ k → spec_NameRight.l0 k s (pre.length : Int) = some (r.all ok2) := by
  intro r
  induction r with
  | nil =>
    intro pre hp h k hk
    obtain ⟨j, rfl⟩ : ∃ j, k = j + 1 := ⟨k - 1, by omega⟩
    have hz := size_data s
    rw [h, List.append_nil] at hz
    rw [spec_NameRight.l0]
    exact no (by omega) rfl
  | cons x r ih =>
    intro pre hp h k hk
    rw [List.length_cons] at hk
    obtain ⟨j, rfl⟩ : ∃ j, k = j + 2 := ⟨k - 2, by omega⟩
    rw [l0_at h hs, if_neg hp, List.all_cons]
    cases o : ok2 x with
    | false => rfl
    | true =>
      rw [if_pos rfl, Bool.true_and]
      exact ih (pre ++ [x]) (by simp) (by rw [h, ← snoc]) j (by omega)
theorem spec_name {s : ByteArray} (h : s.size ≤ 1048576) {k : Nat} (hk : 100 ≤ k) : spec_NameRight.f k s = some (nm s.data.toList) := by
  obtain ⟨j, rfl⟩ : ∃ j, k = j + 1 := ⟨k - 1, by omega⟩
  unfold spec_NameRight.f
  have hz := size_data s
  cases hl : s.data.toList with
  | nil =>
    rw [hl] at hz
    have hz' : s.size = 0 := hz
    refine yes (by omega) ?_
    rw [spec_NameRight.j0]
    rfl
  | cons x r =>
    rw [hl] at hz
    have hz' : s.size = r.length + 1 := hz
    refine no (by omega) ?_
    rw [spec_NameRight.j0]
    by_cases c : r.length ≤ 19
    case neg =>
      refine yes (decide_eq_true (by omega)) ?_
      rw [nm_cons]
      rw [decide_eq_false c]
      rfl
    refine no (by rw [decide_eq_true_eq]; omega) ?_
    obtain ⟨i, rfl⟩ : ∃ i, j = i + 2 := ⟨j - 2, by omega⟩
    have e := l0_at (s := s) (pre := []) (r := r) (x := x) hl (by omega) i
    have e' : spec_NameRight.l0 (i + 2) s 0 = if (if ([] : List UInt8) = [] then ok1 x else ok2 x) = true then spec_NameRight.l0 i s ((([] : List UInt8) ++ [x]).length : Int) else some false := e
    rw [e', if_pos rfl]
    rw [nm_cons]
    rw [decide_eq_true c, Bool.true_and]
    cases o : ok1 x with
    | false => rfl
    | true =>
      rw [if_pos rfl, Bool.true_and]
      exact l0_rest (by omega) r ([] ++ [x]) (by simp) (by rw [hl]; rfl) i (by omega)
end Go.Proofs.YtipkfflcdomheaaDoor.NameSame
