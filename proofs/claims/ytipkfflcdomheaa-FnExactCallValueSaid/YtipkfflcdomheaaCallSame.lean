/- Plain laws: a function called by its name: the reference's answer and the program's are one; copies of lists; no condition beyond each lemma's own. -/
import Derived.Test.YtipkfflcdomheaaMulNeg
import Derived.Test.YtipkfflcdomheaaInstSame
import Derived.Test.YtipkfflcdomheaaS0
import Derived.Test.YtipkfflcdomheaaS13
import Derived.Test.YtipkfflcdomheaaS5
import Derived.Test.YtipkfflcdomheaaS7
namespace Go.Proofs.Ytipkfflcdomheaa.CallSame
open Go.RowKit Go.Proofs.Ytipkfflcdomheaa.S Go.Proofs.YtipkfflcdomheaaW.PrintWords Go.Proofs.YtipkfflcdomheaaW.PrintMore Go.Proofs.Ytipkfflcdomheaa.Cal Go.Proofs.Ytipkfflcdomheaa.Days Go.Proofs.Ytipkfflcdomheaa.Interest Go.Proofs.Ytipkfflcdomheaa.MulNeg Go.Proofs.Ytipkfflcdomheaa.LoanGood Go.Proofs.Ytipkfflcdomheaa.InstSame
set_option linter.unusedVariables false
set_option linter.unusedSimpArgs false

/-! copies -/
theorem rd_get (xs : List Int) (i : Nat) (h : i < xs.length) : xs[i]? = some (rd xs (i : Int)) := by
  unfold rd
  rw [List.getD_eq_getElem?_getD, Int.toNat_natCast, List.getElem?_eq_getElem h]
  rfl
theorem copy_l0 (xs : List Int) (hl : xs.length ≤ 10000000) : ∀ (n i k : Nat) (ys : List Int), i + n = xs.length → ys.length = xs.length → (∀ j, j < i → ys[j]? = xs[j]?) → n + 1 ≤ k →
    laws_toInt64S.l0 k xs ys (i : Int) = some xs
  | 0, i, k, ys, hi, hy, hj, hk => by
    obtain ⟨m, rfl⟩ : ∃ m, k = m + 1 := ⟨k - 1, by omega⟩
    rw [laws_toInt64S.l0]
    refine no (by omega) ?_
    congr 1
    refine List.ext_getElem? fun j => ?_
    by_cases c : j < i
    · exact hj j c
    · rw [List.getElem?_eq_none (by omega), List.getElem?_eq_none (by omega)]
  | n + 1, i, k, ys, hi, hy, hj, hk => by
    obtain ⟨m, rfl⟩ : ∃ m, k = m + 1 := ⟨k - 1, by omega⟩
    rw [laws_toInt64S.l0]
    refine yes (by omega) ?_
    refine yes (by omega) ?_
    refine yes (by omega) ?_
    have e : wrap64 ((i : Int) + 1) = ((i + 1 : Nat) : Int) := by rw [wid (by omega) (by omega)]; omega
    rw [e, Int.toNat_natCast]
    refine copy_l0 xs hl n (i + 1) m _ (by omega) (by rw [List.length_set]; exact hy) ?_ (by omega)
    intro j hji
    by_cases c : j = i
    · subst c
      rw [List.getElem?_set_self (by omega), rd_get xs j (by omega)]
    · rw [List.getElem?_set_ne (by omega)]
      exact hj j (by omega)
theorem copy_id (xs : List Int) (hl : xs.length ≤ 10000000) {k : Nat} (hk : xs.length + 1 ≤ k) : laws_toInt64S.f k xs = some xs := by
  unfold laws_toInt64S.f
  refine yes (by omega) ?_
  refine yes (by omega) ?_
  refine copy_l0 xs hl xs.length 0 k _ (by omega) ?_ (fun j hj => by omega) hk
  rw [List.length_replicate]
  omega
theorem eq_l0 (xs : List Int) (hl : xs.length ≤ 10000000) : ∀ (n i k : Nat), i + n = xs.length → n + 1 ≤ k → laws_eqInt64S.l0 k xs xs (i : Int) = some true
  | 0, i, k, hi, hk => by
    obtain ⟨j, rfl⟩ : ∃ j, k = j + 1 := ⟨k - 1, by omega⟩
    rw [laws_eqInt64S.l0]
    exact no (by omega) rfl
  | n + 1, i, k, hi, hk => by
    obtain ⟨j, rfl⟩ : ∃ j, k = j + 1 := ⟨k - 1, by omega⟩
    rw [laws_eqInt64S.l0]
    refine yes (by omega) ?_
    refine yes (by omega) ?_
    refine yes (by omega) ?_
    refine yes rfl ?_
    have e : wrap64 ((i : Int) + 1) = ((i + 1 : Nat) : Int) := by rw [wid (by omega) (by omega)]; omega
    rw [e]
    exact eq_l0 xs hl n (i + 1) j (by omega) (by omega)
theorem eq_self (xs : List Int) (hl : xs.length ≤ 10000000) {k : Nat} (hk : xs.length + 1 ≤ k) : laws_eqInt64S.f k xs xs = some true := by
  unfold laws_eqInt64S.f
  refine yes rfl ?_
  exact eq_l0 xs hl xs.length 0 k (by omega) hk

/-! names -/
def wInterest : List UInt8 := [105, 110, 116, 101, 114, 101, 115, 116]
def wInstal : List UInt8 := [105, 110, 115, 116, 97, 108, 109, 101, 110, 116]
def wLater : List UInt8 := [108, 97, 116, 101, 114]
def wDays : List UInt8 := [100, 97, 121, 115]
def wLeast : List UInt8 := [108, 101, 97, 115, 116]
def wMost : List UInt8 := [109, 111, 115, 116]
def wShare : List UInt8 := [115, 104, 97, 114, 101]
def types (s : List UInt8) : List Int :=
  if s = wInterest then [2, 2, 3, 4, 4] else if s = wInstal then [2, 2, 3, 1, 4] else if s = wLater then [4, 4, 1] else if s = wDays then [1, 4, 4]
  else if s = wLeast then [2, 2, 2] else if s = wMost then [2, 2, 2] else if s = wShare then [2, 2, 3] else []
theorem spec_types (nm : ByteArray) (k : Nat) : spec_CallTypes.f (k + 1) nm = some (types nm.toList) := by
  unfold spec_CallTypes.f types wInterest wInstal wLater wDays wLeast wMost wShare
  by_cases c1 : nm.toList = ([105, 110, 116, 101, 114, 101, 115, 116] : List UInt8)
  · rw [if_pos c1, if_pos c1]
  rw [if_neg c1, if_neg c1]
  by_cases c2 : nm.toList = ([105, 110, 115, 116, 97, 108, 109, 101, 110, 116] : List UInt8)
  · rw [if_pos c2, if_pos c2]
  rw [if_neg c2, if_neg c2]
  by_cases c3 : nm.toList = ([108, 97, 116, 101, 114] : List UInt8)
  · rw [if_pos c3, if_pos c3]
  rw [if_neg c3, if_neg c3]
  by_cases c4 : nm.toList = ([100, 97, 121, 115] : List UInt8)
  · rw [if_pos c4, if_pos c4]
  rw [if_neg c4, if_neg c4]
  by_cases c5 : nm.toList = ([108, 101, 97, 115, 116] : List UInt8)
  · rw [if_pos c5, if_pos c5, beq_iff_eq.mpr c5, spec_CallTypes.j0]
    exact yes rfl rfl
  rw [if_neg c5, if_neg c5]
  by_cases c6 : nm.toList = ([109, 111, 115, 116] : List UInt8)
  · rw [if_pos c6, beq_iff_eq.mpr c6, spec_CallTypes.j0]
    exact yes rfl rfl
  rw [if_neg c6, beq_eq_false_iff_ne.mpr c6, spec_CallTypes.j0]
  refine no (by decide) ?_
  by_cases c7 : nm.toList = ([115, 104, 97, 114, 101] : List UInt8)
  · rw [if_pos c7, if_pos c7]
  · rw [if_neg c7, if_neg c7]
theorem impl_types (nm : ByteArray) (k : Nat) : impl_CallTypes.f (k + 1) nm = some (types nm.toList) := by
  unfold impl_CallTypes.f types wInterest wInstal wLater wDays wLeast wMost wShare
  by_cases c1 : nm.toList = ([105, 110, 116, 101, 114, 101, 115, 116] : List UInt8)
  · rw [if_pos c1, if_pos c1]
  rw [if_neg c1, if_neg c1]
  by_cases c2 : nm.toList = ([105, 110, 115, 116, 97, 108, 109, 101, 110, 116] : List UInt8)
  · rw [if_pos c2, if_pos c2]
  rw [if_neg c2, if_neg c2]
  by_cases c3 : nm.toList = ([108, 97, 116, 101, 114] : List UInt8)
  · rw [if_pos c3, if_pos c3]
  rw [if_neg c3, if_neg c3]
  by_cases c4 : nm.toList = ([100, 97, 121, 115] : List UInt8)
  · rw [if_pos c4, if_pos c4]
  rw [if_neg c4, if_neg c4]
  by_cases c5 : nm.toList = ([108, 101, 97, 115, 116] : List UInt8)
  · rw [if_pos c5, if_pos c5, beq_iff_eq.mpr c5, impl_CallTypes.j0]
    exact yes rfl rfl
  rw [if_neg c5, if_neg c5]
  by_cases c6 : nm.toList = ([109, 111, 115, 116] : List UInt8)
  · rw [if_pos c6, beq_iff_eq.mpr c6, impl_CallTypes.j0]
    exact yes rfl rfl
  rw [if_neg c6, beq_eq_false_iff_ne.mpr c6, impl_CallTypes.j0]
  refine no (by decide) ?_
  by_cases c7 : nm.toList = ([115, 104, 97, 114, 101] : List UInt8)
  · rw [if_pos c7, if_pos c7]
  · rw [if_neg c7, if_neg c7]
/-- A list of names holds a name, or not. -/
theorem index_l0 (fs : List ByteArray) (nm : ByteArray) (hl : fs.length ≤ 1000) : ∀ (n i k : Nat), i + n = fs.length → n + 1 ≤ k →
    ∃ r, slices_Index_string_string.l0 k fs nm (fs.length : Int) (i : Int) = some r ∧ (0 ≤ r ↔ ∃ f ∈ fs.drop i, nm.toList = f.toList)
  | 0, i, k, hi, hk => by
    obtain ⟨j, rfl⟩ : ∃ j, k = j + 1 := ⟨k - 1, by omega⟩
    rw [slices_Index_string_string.l0]
    refine ⟨-1, no (by omega) rfl, ?_⟩
    rw [List.drop_of_length_le (by omega)]
    simp
  | n + 1, i, k, hi, hk => by
    obtain ⟨j, rfl⟩ : ∃ j, k = j + 1 := ⟨k - 1, by omega⟩
    rw [slices_Index_string_string.l0]
    have hd : fs.drop i = rdOf ByteArray.empty fs (i : Int) :: fs.drop (i + 1) := by
      rw [List.drop_eq_getElem_cons (by omega)]
      congr 1
      unfold rdOf
      rw [List.getD_eq_getElem?_getD, Int.toNat_natCast, List.getElem?_eq_getElem (by omega)]
      rfl
    by_cases c : nm.toList = (rdOf ByteArray.empty fs (i : Int)).toList
    · refine ⟨(i : Int), yes (by omega) (yes (by omega) (yes (by omega) (yes c rfl))), ?_⟩
      rw [hd]
      exact ⟨fun _ => ⟨_, List.mem_cons_self, c⟩, fun _ => by omega⟩
    · have e : wrap64 ((i : Int) + 1) = ((i + 1 : Nat) : Int) := by rw [wid (by omega) (by omega)]; omega
      obtain ⟨r, hr, hx⟩ := index_l0 fs nm hl n (i + 1) j (by omega) (by omega)
      refine ⟨r, yes (by omega) (yes (by omega) (yes (by omega) (no c ?_))), ?_⟩
      · rw [e]
        exact hr
      · rw [hd, hx]
        constructor
        · rintro ⟨f, hf, h⟩
          exact ⟨f, List.mem_cons_of_mem _ hf, h⟩
        · rintro ⟨f, hf, h⟩
          rcases List.mem_cons.mp hf with rfl | hf
          · exact absurd h c
          · exact ⟨f, hf, h⟩
theorem contains_val (fs : List ByteArray) (nm : ByteArray) (hl : fs.length ≤ 1000) {k : Nat} (hk : fs.length + 1 ≤ k) :
    ∃ x, slices_Contains_string_string.f k fs nm = some x ∧ (x = true ↔ ∃ f ∈ fs, nm.toList = f.toList) := by
  obtain ⟨r, hr, hx⟩ := index_l0 fs nm hl fs.length 0 k (by omega) hk
  refine ⟨decide (r ≥ 0), ?_, ?_⟩
  · unfold slices_Contains_string_string.f slices_Index_string_string.f
    exact bnd hr rfl
  · rw [decide_eq_true_iff]
    exact hx
end Go.Proofs.Ytipkfflcdomheaa.CallSame
