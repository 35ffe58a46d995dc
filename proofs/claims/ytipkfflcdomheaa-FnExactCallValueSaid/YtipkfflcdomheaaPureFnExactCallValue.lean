/- Proved: the program's CallValue answers as the reference's CallValue does, at every basis, name and list of int64 numbers; no condition. -/
import Derived.Test.YtipkfflcdomheaaCallSame
import Derived.Test.YtipkfflcdomheaaS0
import Derived.Test.YtipkfflcdomheaaS1
import Derived.Test.YtipkfflcdomheaaS12
import Derived.Test.YtipkfflcdomheaaS13
import Derived.Test.YtipkfflcdomheaaS2
import Derived.Test.YtipkfflcdomheaaS3
import Derived.Test.YtipkfflcdomheaaS5
import Derived.Test.YtipkfflcdomheaaS6
import Derived.Test.YtipkfflcdomheaaS7
import Derived.Test.YtipkfflcdomheaaS8
namespace Go.Proofs.Ytipkfflcdomheaa.Pure
open Go.RowKit Go.Proofs.Ytipkfflcdomheaa.S Go.Proofs.YtipkfflcdomheaaW.PrintWords Go.Proofs.YtipkfflcdomheaaW.PrintMore Go.Proofs.Ytipkfflcdomheaa.Cal Go.Proofs.Ytipkfflcdomheaa.Days Go.Proofs.Ytipkfflcdomheaa.MulDiv Go.Proofs.Ytipkfflcdomheaa.Interest Go.Proofs.Ytipkfflcdomheaa.MulNeg Go.Proofs.Ytipkfflcdomheaa.LoanGood Go.Proofs.Ytipkfflcdomheaa.InstSame Go.Proofs.Ytipkfflcdomheaa.CallSame
set_option linter.unusedSimpArgs false
set_option linter.unusedVariables false

def seven : List ByteArray := [(⟨#[105, 110, 116, 101, 114, 101, 115, 116]⟩ : ByteArray), (⟨#[105, 110, 115, 116, 97, 108, 109, 101, 110, 116]⟩ : ByteArray), (⟨#[108, 97, 116, 101, 114]⟩ : ByteArray), (⟨#[100, 97, 121, 115]⟩ : ByteArray), (⟨#[108, 101, 97, 115, 116]⟩ : ByteArray), (⟨#[109, 111, 115, 116]⟩ : ByteArray), (⟨#[115, 104, 97, 114, 101]⟩ : ByteArray)]
theorem seven_lists : seven.map ByteArray.toList = [wInterest, wInstal, wLater, wDays, wLeast, wMost, wShare] := by decide +kernel
theorem seven_types (s : List UInt8) : (∃ f ∈ seven, s = f.toList) ↔ (types s).length ≠ 0 := by
  have h : (∃ f ∈ seven, s = f.toList) ↔ s ∈ seven.map ByteArray.toList := by
    rw [List.mem_map]
    constructor
    · rintro ⟨f, hf, h⟩
      exact ⟨f, hf, h.symm⟩
    · rintro ⟨f, hf, h⟩
      exact ⟨f, hf, h.symm⟩
  rw [h, seven_lists]
  unfold types
  by_cases c1 : s = wInterest
  · rw [if_pos c1]; simp [c1]
  rw [if_neg c1]
  by_cases c2 : s = wInstal
  · rw [if_pos c2]; simp [c2]
  rw [if_neg c2]
  by_cases c3 : s = wLater
  · rw [if_pos c3]; simp [c3]
  rw [if_neg c3]
  by_cases c4 : s = wDays
  · rw [if_pos c4]; simp [c4]
  rw [if_neg c4]
  by_cases c5 : s = wLeast
  · rw [if_pos c5]; simp [c5]
  rw [if_neg c5]
  by_cases c6 : s = wMost
  · rw [if_pos c6]; simp [c6]
  rw [if_neg c6]
  by_cases c7 : s = wShare
  · rw [if_pos c7]; simp [c7]
  rw [if_neg c7]
  simp [c1, c2, c3, c4, c5, c6, c7]
theorem contains_seven (nm : ByteArray) {k : Nat} (hk : 8 ≤ k) : slices_Contains_string_string.f k seven nm = some (decide ((types nm.toList).length ≠ 0)) := by
  obtain ⟨x, hx, hi⟩ := contains_val seven nm (by decide) (k := k) (by simpa [seven] using hk)
  rw [hx]
  congr 1
  rw [Bool.eq_iff_iff, hi, seven_types, decide_eq_true_iff]

/-- What both say of a call whose name and number of arguments are right. -/
theorem called_same (b : Int) (b0 : 1 ≤ b) (b1 : b ≤ 3) (nm : ByteArray) (xs : List Int) (hw : ∀ i : Nat, i < xs.length → -9223372036854775808 ≤ rd xs (i : Int) ∧ rd xs (i : Int) ≤ 9223372036854775807)
    (hn : (types nm.toList).length ≠ 0) (hl : xs.length + 1 = (types nm.toList).length) :
    ∃ z : Int × Int, ∀ k, 700 ≤ k → spec_CallValue.j1 k b nm xs false = some z ∧ impl_called.f k b nm xs = some z := by
  have hlb : xs.length ≤ 4 := by
    have : (types nm.toList).length ≤ 5 := by
      unfold types
      repeat' split
      all_goals decide
    omega
  have hl2 : 2 ≤ xs.length := by
    have : (types nm.toList).length = 0 ∨ 3 ≤ (types nm.toList).length := by
      unfold types
      repeat' split
      all_goals decide
    omega
  have w0 := hw 0 (by omega)
  have w1 := hw 1 (by omega)
  rw [show ((0 : Nat) : Int) = 0 from rfl] at w0
  rw [show ((1 : Nat) : Int) = 1 from rfl] at w1
  -- the reference's steps up to the name
  have sp : ∀ (k : Nat) (r : Option (Int × Int)), (if nm.toList = ([105, 110, 116, 101, 114, 101, 115, 116] : List UInt8) then (if 2 < (xs.length : Int) then (if 3 < (xs.length : Int) then ((spec_Interest.f k (rd xs 0) (rd xs 1) b (rd xs 2) (rd xs 3)).bind fun bt440 => (some (bt440.1, bt440.2))) else (none)) else (none)) else (if nm.toList = ([105, 110, 115, 116, 97, 108, 109, 101, 110, 116] : List UInt8) then (if 2 < (xs.length : Int) then (if 3 < (xs.length : Int) then ((spec_Instalment.f k (rd xs 0) (rd xs 1) b (rd xs 3) (rd xs 2)).bind fun bt444 => (some (bt444.1, bt444.2))) else (none)) else (none)) else (if nm.toList = ([108, 97, 116, 101, 114] : List UInt8) then ((spec_DayAdd.f k (rd xs 0) (rd xs 1)).bind fun bt446 => ((spec_l09Day.f bt446.1 bt446.2).bind fun bt448 => (some (bt448.1, bt448.2)))) else (if nm.toList = ([100, 97, 121, 115] : List UInt8) then ((spec_l03Right.f (rd xs 0)).bind fun t450 => (if t450 = true then ((spec_l03Right.f (rd xs 1)).bind fun t451 => (if t451 = true then (some (wrap64 ((rd xs 1) - (rd xs 0)), 0)) else (some (0, 1)))) else (some (0, 1)))) else (if nm.toList = ([115, 104, 97, 114, 101] : List UInt8) then ((spec_l03Rate.f (rd xs 1)).bind fun t452 => (if t452 = true then ((spec_MulDiv.f k (rd xs 0) (rd xs 1) 1000000).bind fun bt453 => (some (bt453.1, bt453.2))) else (some (0, 1)))) else ((spec_MoneyRight.f (rd xs 0)).bind fun t455 => (if t455 = true then ((spec_MoneyRight.f (rd xs 1)).bind fun t456 => (spec_CallValue.j2 k nm (rd xs 0) (rd xs 1) (!t456))) else (spec_CallValue.j2 k nm (rd xs 0) (rd xs 1) true)))))))) = r → 1 ≤ k → spec_CallValue.j1 (k + 1) b nm xs false = r := by
    intro k r h hk
    obtain ⟨j, rfl⟩ : ∃ j, k = j + 1 := ⟨k - 1, by omega⟩
    rw [spec_CallValue.j1]
    refine no (by decide) ?_
    refine bnd (spec_types nm j) ?_
    refine no (by omega) ?_
    refine yes (by rw [wid (by omega) (by omega)]; omega) ?_
    refine yes (by omega) ?_
    refine yes (by omega) ?_
    exact h
  by_cases c1 : nm.toList = ([105, 110, 116, 101, 114, 101, 115, 116] : List UInt8)
  · have l4 : xs.length = 4 := by
      have e : types nm.toList = [2, 2, 3, 4, 4] := by unfold types; exact if_pos c1
      rw [e] at hl
      simpa using hl
    obtain ⟨z, hz, _⟩ := interest_same (rd xs 0) (rd xs 1) b (rd xs 2) (rd xs 3)
    refine ⟨z, fun k hk => ?_⟩
    obtain ⟨j, rfl⟩ : ∃ j, k = j + 1 := ⟨k - 1, by omega⟩
    constructor
    · refine sp j _ (yes c1 (yes (by omega) (yes (by omega) ?_))) (by omega)
      exact bnd (hz j (by omega)).1 rfl
    · unfold impl_called.f
      refine yes c1 (yes (by omega) (yes (by omega) (yes (by omega) (yes (by omega) ?_))))
      exact bnd (hz (j + 1) (by omega)).2 rfl
  by_cases c2 : nm.toList = ([105, 110, 115, 116, 97, 108, 109, 101, 110, 116] : List UInt8)
  · have l4 : xs.length = 4 := by
      have e : types nm.toList = [2, 2, 3, 1, 4] := by
        unfold types
        rw [if_neg (by unfold wInterest; exact c1)]
        exact if_pos c2
      rw [e] at hl
      simpa using hl
    have w2 := hw 2 (by omega)
    obtain ⟨z, hz⟩ := instal_same (rd xs 0) (rd xs 1) b (rd xs 3) (rd xs 2) w2.1 w2.2
    refine ⟨z, fun k hk => ?_⟩
    obtain ⟨j, rfl⟩ : ∃ j, k = j + 1 := ⟨k - 1, by omega⟩
    constructor
    · refine sp j _ (no c1 (yes c2 (yes (by omega) (yes (by omega) ?_)))) (by omega)
      exact bnd (hz j (by omega)).1 rfl
    · unfold impl_called.f
      refine no c1 (yes c2 (yes (by omega) (yes (by omega) (yes (by omega) (yes (by omega) ?_)))))
      exact bnd (hz (j + 1) (by omega)).2 rfl
  by_cases c3 : nm.toList = ([108, 97, 116, 101, 114] : List UInt8)
  · obtain ⟨z, hz⟩ := dayAdd_same (rd xs 0) (rd xs 1) w1.1 w1.2
    refine ⟨z, fun k hk => ?_⟩
    obtain ⟨j, rfl⟩ : ∃ j, k = j + 1 := ⟨k - 1, by omega⟩
    constructor
    · refine sp j _ (no c1 (no c2 (yes c3 ?_))) (by omega)
      refine bnd (hz j (by omega)).1 ?_
      exact bnd (a := z) rfl rfl
    · unfold impl_called.f
      refine no c1 (no c2 (yes c3 (yes (by omega) (yes (by omega) ?_))))
      exact bnd (hz (j + 1) (by omega)).2 rfl
  by_cases c4 : nm.toList = ([100, 97, 121, 115] : List UInt8)
  · refine ⟨if 0 ≤ rd xs 0 ∧ rd xs 0 ≤ 36524 then (if 0 ≤ rd xs 1 ∧ rd xs 1 ≤ 36524 then (wrap64 (rd xs 1 - rd xs 0), 0) else (0, 1)) else (0, 1), fun k hk => ?_⟩
    obtain ⟨j, rfl⟩ : ∃ j, k = j + 1 := ⟨k - 1, by omega⟩
    constructor
    · refine sp j _ (no c1 (no c2 (no c3 (yes c4 ?_)))) (by omega)
      refine bnd (spec_right _) ?_
      by_cases d0 : 0 ≤ rd xs 0 ∧ rd xs 0 ≤ 36524
      · rw [if_pos d0]
        refine yes (decide_eq_true d0) ?_
        refine bnd (spec_right _) ?_
        by_cases d1 : 0 ≤ rd xs 1 ∧ rd xs 1 ≤ 36524
        · rw [if_pos d1]
          exact yes (decide_eq_true d1) rfl
        · rw [if_neg d1]
          exact no (by rw [decide_eq_false d1]; decide) rfl
      · rw [if_neg d0]
        exact no (by rw [decide_eq_false d0]; decide) rfl
    · unfold impl_called.f
      refine no c1 (no c2 (no c3 (yes c4 (yes (by omega) ?_))))
      refine bnd (impl_isDay_eval _) ?_
      by_cases d0 : 0 ≤ rd xs 0 ∧ rd xs 0 ≤ 36524
      · rw [if_pos d0]
        refine yes (decide_eq_true d0) (yes (by omega) ?_)
        refine bnd (impl_isDay_eval _) ?_
        by_cases d1 : 0 ≤ rd xs 1 ∧ rd xs 1 ≤ 36524
        · rw [if_pos d1]
          exact yes (decide_eq_true d1) rfl
        · rw [if_neg d1]
          exact no (by rw [decide_eq_false d1]; decide) rfl
      · rw [if_neg d0]
        exact no (by rw [decide_eq_false d0]; decide) rfl
  by_cases c5 : nm.toList = ([115, 104, 97, 114, 101] : List UInt8)
  · have er : ∀ x : Int, spec_l03Rate.f x = some (decide (0 ≤ x ∧ x ≤ 1000000)) := by
      intro x
      unfold spec_l03Rate.f
      by_cases d : x ≥ 0
      · rw [if_pos d]
        congr 1
        rw [Bool.eq_iff_iff]
        simp
        omega
      · rw [if_neg d, decide_eq_false (by omega)]
    have ir' : ∀ x : Int, impl_isRate.f x = some (decide (0 ≤ x ∧ x ≤ 1000000)) := by
      intro x
      unfold impl_isRate.f
      exact bnd (impl_in_eval x 0 1000000) rfl
    by_cases d : 0 ≤ rd xs 1 ∧ rd xs 1 ≤ 1000000
    · obtain ⟨z, hz⟩ := share_same (a := rd xs 0) d.1 d.2
      refine ⟨z, fun k hk => ?_⟩
      obtain ⟨j, rfl⟩ : ∃ j, k = j + 1 := ⟨k - 1, by omega⟩
      constructor
      · refine sp j _ (no c1 (no c2 (no c3 (no c4 (yes c5 ?_))))) (by omega)
        refine bnd (er _) ?_
        refine yes (decide_eq_true d) ?_
        exact bnd (hz j (by omega)).1 rfl
      · unfold impl_called.f
        refine no c1 (no c2 (no c3 (no c4 (yes c5 (yes (by omega) ?_)))))
        refine bnd (ir' _) ?_
        refine yes (decide_eq_true d) (yes (by omega) ?_)
        exact bnd (hz (j + 1) (by omega)).2 rfl
    · refine ⟨(0, 1), fun k hk => ?_⟩
      obtain ⟨j, rfl⟩ : ∃ j, k = j + 1 := ⟨k - 1, by omega⟩
      constructor
      · refine sp j _ (no c1 (no c2 (no c3 (no c4 (yes c5 ?_))))) (by omega)
        refine bnd (er _) ?_
        exact no (by rw [decide_eq_false d]; decide) rfl
      · unfold impl_called.f
        refine no c1 (no c2 (no c3 (no c4 (yes c5 (yes (by omega) ?_)))))
        refine bnd (ir' _) ?_
        exact no (by rw [decide_eq_false d]; decide) rfl
  -- least, most
  have sm : ∀ x : Int, spec_MoneyRight.f x = some (decide (-1000000000000 ≤ x ∧ x ≤ 1000000000000)) := by
    intro x
    unfold spec_MoneyRight.f
    by_cases d : x ≥ -1000000000000
    · rw [if_pos d]
      congr 1
      rw [Bool.eq_iff_iff]
      simp
      omega
    · rw [if_neg d, decide_eq_false (by omega)]
  have im : ∀ x : Int, impl_MoneyRight.f x = some (decide (-1000000000000 ≤ x ∧ x ≤ 1000000000000)) := by
    intro x
    unfold impl_MoneyRight.f
    exact bnd (impl_in_eval x _ _) rfl
  have sb : ∀ k, spec_CallValue.j2 (k + 1) nm (rd xs 0) (rd xs 1) true = some (0, 1) := by
    intro k
    rw [spec_CallValue.j2]
    exact yes rfl rfl
  have ib : ∀ k, impl_called.j0 (k + 1) nm xs true = some (0, 1) := by
    intro k
    rw [impl_called.j0]
    exact yes rfl rfl
  by_cases m0 : -1000000000000 ≤ rd xs 0 ∧ rd xs 0 ≤ 1000000000000
  case neg =>
    refine ⟨(0, 1), fun k hk => ?_⟩
    obtain ⟨j, rfl⟩ : ∃ j, k = j + 2 := ⟨k - 2, by omega⟩
    constructor
    · refine sp (j + 1) _ (no c1 (no c2 (no c3 (no c4 (no c5 ?_))))) (by omega)
      refine bnd (sm _) ?_
      exact no (by rw [decide_eq_false m0]; decide) (sb j)
    · unfold impl_called.f
      refine no c1 (no c2 (no c3 (no c4 (no c5 (yes (by omega) ?_)))))
      refine bnd (im _) ?_
      exact no (by rw [decide_eq_false m0]; decide) (ib (j + 1))
  by_cases m1 : -1000000000000 ≤ rd xs 1 ∧ rd xs 1 ≤ 1000000000000
  case neg =>
    refine ⟨(0, 1), fun k hk => ?_⟩
    obtain ⟨j, rfl⟩ : ∃ j, k = j + 2 := ⟨k - 2, by omega⟩
    constructor
    · refine sp (j + 1) _ (no c1 (no c2 (no c3 (no c4 (no c5 ?_))))) (by omega)
      refine bnd (sm _) ?_
      refine yes (decide_eq_true m0) ?_
      refine bnd (sm _) ?_
      rw [decide_eq_false m1]
      exact sb j
    · unfold impl_called.f
      refine no c1 (no c2 (no c3 (no c4 (no c5 (yes (by omega) ?_)))))
      refine bnd (im _) ?_
      refine yes (decide_eq_true m0) (yes (by omega) ?_)
      refine bnd (im _) ?_
      rw [decide_eq_false m1]
      exact ib (j + 1)
  have sg : ∀ k, ∀ r, spec_CallValue.j2 (k + 1) nm (rd xs 0) (rd xs 1) false = r → spec_CallValue.j1 (k + 2) b nm xs false = r := by
    intro k r h
    refine sp (k + 1) _ (no c1 (no c2 (no c3 (no c4 (no c5 ?_))))) (by omega)
    refine bnd (sm _) ?_
    refine yes (decide_eq_true m0) ?_
    refine bnd (sm _) ?_
    rw [decide_eq_true m1]
    exact h
  have ig : ∀ k, ∀ r, impl_called.j0 (k + 2) nm xs false = r → impl_called.f (k + 2) b nm xs = r := by
    intro k r h
    unfold impl_called.f
    refine no c1 (no c2 (no c3 (no c4 (no c5 (yes (by omega) ?_)))))
    refine bnd (im _) ?_
    refine yes (decide_eq_true m0) (yes (by omega) ?_)
    refine bnd (im _) ?_
    rw [decide_eq_true m1]
    exact h
  by_cases c6 : nm.toList = ([108, 101, 97, 115, 116] : List UInt8)
  · refine ⟨(mn (rd xs 0) (rd xs 1), 0), fun k hk => ?_⟩
    obtain ⟨j, rfl⟩ : ∃ j, k = j + 2 := ⟨k - 2, by omega⟩
    constructor
    · refine sg j _ ?_
      rw [spec_CallValue.j2]
      refine no (by decide) (yes c6 ?_)
      have e : spec_l01Min.f (rd xs 0) (rd xs 1) = some (mn (rd xs 0) (rd xs 1)) := by
        unfold spec_l01Min.f mn
        split <;> split <;> first | rfl | (congr 1; omega)
      exact bnd e rfl
    · refine ig j _ ?_
      rw [impl_called.j0]
      exact no (by decide) (yes c6 (yes (by omega) (yes (by omega) rfl)))
  · refine ⟨(mx (rd xs 0) (rd xs 1), 0), fun k hk => ?_⟩
    obtain ⟨j, rfl⟩ : ∃ j, k = j + 2 := ⟨k - 2, by omega⟩
    constructor
    · refine sg j _ ?_
      rw [spec_CallValue.j2]
      refine no (by decide) (no c6 ?_)
      have e : spec_l01Max.f (rd xs 0) (rd xs 1) = some (mx (rd xs 0) (rd xs 1)) := by
        unfold spec_l01Max.f mx
        split <;> split <;> first | rfl | (congr 1; omega)
      exact bnd e rfl
    · refine ig j _ ?_
      rw [impl_called.j0]
      exact no (by decide) (no c6 (yes (by omega) (yes (by omega) rfl)))

theorem callValue_same (b : Int) (nm : ByteArray) (xs : List Int) (hw : ∀ i : Nat, i < xs.length → -9223372036854775808 ≤ rd xs (i : Int) ∧ rd xs (i : Int) ≤ 9223372036854775807) (hx : xs.length ≤ 10000000) :
    ∃ z : Int × Int, ∀ k, 800 ≤ k → spec_CallValue.f k b nm xs = some z ∧ impl_CallValue.f k b nm xs = some z := by
  by_cases g1 : (nm.size : Int) > 20000 ∨ (xs.length : Int) > 400
  · refine ⟨(0, 2), fun k hk => ?_⟩
    obtain ⟨j, rfl⟩ : ∃ j, k = j + 1 := ⟨k - 1, by omega⟩
    constructor
    · have e : spec_CallValue.j0 (j + 1) b nm xs true = some (0, 2) := by
        rw [spec_CallValue.j0]
        exact yes rfl rfl
      unfold spec_CallValue.f
      by_cases c : (nm.size : Int) > 20000
      · exact yes c e
      · refine no c ?_
        rw [decide_eq_true (by omega)]
        exact e
    · have e : impl_CallValue.j0 (j + 1) b nm xs true = some (0, 2) := by
        rw [impl_CallValue.j0]
        exact yes rfl rfl
      unfold impl_CallValue.f
      by_cases c : (nm.size : Int) > 20000
      · exact yes c e
      · refine no c ?_
        rw [decide_eq_true (by omega)]
        exact e
  have sf : ∀ k, spec_CallValue.f k b nm xs = spec_CallValue.j0 k b nm xs false := by
    intro k
    unfold spec_CallValue.f
    refine no (by omega) ?_
    rw [decide_eq_false (by omega)]
  have jf : ∀ k, impl_CallValue.f k b nm xs = impl_CallValue.j0 k b nm xs false := by
    intro k
    unfold impl_CallValue.f
    refine no (by omega) ?_
    rw [decide_eq_false (by omega)]
  have eb : impl_isBasis.f b = some (decide (1 ≤ b ∧ b ≤ 3)) := by
    unfold impl_isBasis.f
    exact bnd (impl_in_eval b 1 3) rfl
  by_cases g2 : 1 ≤ b ∧ b ≤ 3
  case neg =>
    refine ⟨(0, 1), fun k hk => ?_⟩
    obtain ⟨j, rfl⟩ : ∃ j, k = j + 2 := ⟨k - 2, by omega⟩
    rw [sf, jf]
    constructor
    · have e : spec_CallValue.j1 (j + 1) b nm xs true = some (0, 1) := by
        rw [spec_CallValue.j1]
        exact yes rfl rfl
      rw [spec_CallValue.j0]
      refine no (by decide) ?_
      by_cases c : b < 1
      · exact yes c e
      · refine no c ?_
        rw [decide_eq_true (by omega)]
        exact e
    · rw [impl_CallValue.j0]
      refine no (by decide) ?_
      refine bnd eb ?_
      exact no (by rw [decide_eq_false g2]; decide) rfl
  have s1 : ∀ k, spec_CallValue.j0 (k + 1) b nm xs false = spec_CallValue.j1 k b nm xs false := by
    intro k
    rw [spec_CallValue.j0]
    refine no (by decide) ?_
    refine no (by omega) ?_
    rw [decide_eq_false (by omega)]
  have i1 : ∀ k r, 8 ≤ k → (if decide ((types nm.toList).length ≠ 0) = true then ((impl_CallTypes.f k nm).bind fun t531 => (if (xs.length : Int) = (wrap64 ((t531.length : Int) - 1)) then ((impl_called.f k b nm xs).bind fun bt534 => (some (bt534.1, bt534.2))) else (some (0, 1)))) else (some (0, 6))) = r → impl_CallValue.j0 (k + 1) b nm xs false = r := by
    intro k r hk h
    rw [impl_CallValue.j0]
    refine no (by decide) ?_
    refine bnd eb ?_
    refine yes (decide_eq_true g2) ?_
    refine bnd (a := seven) rfl ?_
    exact bnd (contains_seven nm hk) h
  by_cases g3 : (types nm.toList).length = 0
  · refine ⟨(0, 6), fun k hk => ?_⟩
    obtain ⟨j, rfl⟩ : ∃ j, k = j + 3 := ⟨k - 3, by omega⟩
    rw [sf, jf]
    constructor
    · rw [s1, spec_CallValue.j1]
      refine no (by decide) ?_
      refine bnd (spec_types nm j) ?_
      exact yes (by omega) rfl
    · refine i1 (j + 2) _ (by omega) ?_
      exact no (by rw [decide_eq_false (by omega)]; decide) rfl
  have tl : (types nm.toList).length ≤ 5 := by
    unfold types
    repeat' split
    all_goals decide
  by_cases g4 : xs.length + 1 = (types nm.toList).length
  case neg =>
    refine ⟨(0, 1), fun k hk => ?_⟩
    obtain ⟨j, rfl⟩ : ∃ j, k = j + 3 := ⟨k - 3, by omega⟩
    rw [sf, jf]
    constructor
    · rw [s1, spec_CallValue.j1]
      refine no (by decide) ?_
      refine bnd (spec_types nm j) ?_
      refine no (by omega) ?_
      refine no ?_ rfl
      rw [wid (by omega) (by omega)]
      omega
    · refine i1 (j + 2) _ (by omega) ?_
      refine yes (decide_eq_true g3) ?_
      refine bnd (impl_types nm (j + 1)) ?_
      refine no ?_ rfl
      rw [wid (by omega) (by omega)]
      omega
  obtain ⟨z, hz⟩ := called_same b g2.1 g2.2 nm xs hw g3 g4
  refine ⟨z, fun k hk => ?_⟩
  obtain ⟨j, rfl⟩ : ∃ j, k = j + 3 := ⟨k - 3, by omega⟩
  rw [sf, jf]
  constructor
  · rw [s1]
    exact (hz (j + 2) (by omega)).1
  · refine i1 (j + 2) _ (by omega) ?_
    refine yes (decide_eq_true g3) ?_
    refine bnd (impl_types nm (j + 1)) ?_
    refine yes ?_ ?_
    · rw [wid (by omega) (by omega)]
      omega
    · exact bnd (hz (j + 2) (by omega)).2 rfl

theorem FnExactCallValue : laws_FnExactCallValue.Pure := by
  intro b nm xs hb hn hx hx8 hw
  refine ⟨2000000, ?_⟩
  unfold laws_FnExactCallValue.f
  by_cases c1 : (nm.size : Int) > 1048576
  · exact yes c1 rfl
  refine no c1 ?_
  by_cases c2 : (xs.length : Int) > 1048576
  · exact yes c2 rfl
  refine no c2 ?_
  have hr : ∀ i : Nat, i < xs.length → -9223372036854775808 ≤ rd xs (i : Int) ∧ rd xs (i : Int) ≤ 9223372036854775807 := by
    intro i hi
    have h := rd_get xs i hi
    have hm : rd xs (i : Int) ∈ xs := List.mem_of_getElem? h
    exact wf64 (hw _ hm)
  obtain ⟨z, hz⟩ := callValue_same b nm xs hr (by omega)
  have cp := copy_id xs (by omega) (k := 2000000) (by omega)
  refine bnd cp ?_
  refine bnd (hz 2000000 (by omega)).1 ?_
  refine bnd cp ?_
  refine bnd (hz 2000000 (by omega)).2 ?_
  have e : laws_eqMoneyOut.f z.1 z.2 z.1 z.2 = some true := by
    unfold laws_eqMoneyOut.f
    exact yes rfl (yes rfl rfl)
  refine bnd e ?_
  refine yes rfl ?_
  refine bnd cp ?_
  refine bnd (eq_self xs (by omega) (k := 2000000) (by omega)) ?_
  exact yes rfl rfl
end Go.Proofs.Ytipkfflcdomheaa.Pure
