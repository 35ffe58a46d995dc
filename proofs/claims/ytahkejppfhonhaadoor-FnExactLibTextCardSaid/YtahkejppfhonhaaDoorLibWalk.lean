/- Proved: the program's LibText and the reference's answer with the same text at every name, in whatever memory in which the library's own MaxLen is a number; no condition beyond that. -/
import Derived.Test.YtahkejppfhonhaaDoorShelf
import Derived.WalkKit
import Derived.RowKit
import Derived.KernelRfl
import Derived.Below
import Derived.Tactics
namespace Go.Proofs.YtahkejppfhonhaaDoor.Lib
open Go.RowKit Go.Shelf
set_option linter.unusedVariables false
set_option maxRecDepth 100000
def ta : List UInt8 := [112, 114, 111, 100, 117, 99, 116, 32, 97, 110, 110, 117, 105, 116, 121, 32, 98, 97, 115, 105, 115, 32, 49, 32, 123, 32, 99, 111, 110, 116, 114, 97, 32, 105, 110, 99, 111, 109, 101, 32, 59, 32, 99, 111, 110, 116, 114, 97, 32, 116, 105, 108, 108, 32, 59, 32, 115, 108, 111, 116, 32, 100, 117, 101, 32, 59, 32, 115, 108, 111, 116, 32, 111, 119, 101, 100, 32, 59, 32, 112, 97, 114, 97, 109, 32, 121, 101, 97, 114, 108, 121, 32, 114, 97, 116, 101, 32, 48, 46, 48, 48, 48, 48, 37, 32, 53, 48, 46, 48, 48, 48, 48, 37, 32, 59, 32, 112, 97, 114, 97, 109, 32, 116, 101, 114, 109, 32, 105, 110, 116, 32, 49, 32, 54, 48, 32, 59, 32, 112, 97, 114, 97, 109, 32, 115, 116, 97, 114, 116, 32, 100, 97, 116, 101, 32, 50, 48, 48, 48, 45, 48, 49, 45, 48, 49, 32, 50, 48, 57, 57, 45, 49, 50, 45, 51, 49, 32, 59, 32, 111, 112, 101, 110, 32, 123, 32, 105, 102, 32, 40, 32, 40, 32, 116, 111, 100, 97, 121, 32, 61, 32, 115, 116, 97, 114, 116, 32, 41, 32, 97, 110, 100, 32, 40, 32, 48, 46, 48, 48, 32, 60, 32, 97, 109, 111, 117, 110, 116, 32, 41, 32, 41, 32, 123, 32, 112, 111, 115, 116, 32, 97, 109, 111, 117, 110, 116, 32, 102, 114, 111, 109, 32, 116, 105, 108, 108, 32, 116, 111, 32, 111, 119, 101, 100, 32, 59, 32, 110, 101, 120, 116, 32, 108, 97, 116, 101, 114, 32, 40, 32, 115, 116, 97, 114, 116, 32, 49, 32, 41, 32, 59, 32, 125, 32, 101, 108, 115, 101, 32, 123, 32, 114, 101, 106, 101, 99, 116, 32, 49, 32, 59, 32, 125, 32, 125, 32, 112, 97, 121, 32, 123, 32, 108, 101, 116, 32, 102, 105, 110, 101, 32, 61, 32, 108, 101, 97, 115, 116, 32, 40, 32, 97, 109, 111, 117, 110, 116, 32, 98, 97, 108, 32, 100, 117, 101, 32, 41, 32, 59, 32, 108, 101, 116, 32, 114, 101, 115, 116, 32, 61, 32, 40, 32, 97, 109, 111, 117, 110, 116, 32, 45, 32, 102, 105, 110, 101, 32, 41, 32, 59, 32, 105, 102, 32, 40, 32, 98, 97, 108, 32, 111, 119, 101, 100, 32, 60, 32, 114, 101, 115, 116, 32, 41, 32, 123, 32, 114, 101, 106, 101, 99, 116, 32, 50, 32, 59, 32, 125, 32, 101, 108, 115, 101, 32, 123, 32, 112, 111, 115, 116, 32, 102, 105, 110, 101, 32, 102, 114, 111, 109, 32, 100, 117, 101, 32, 116, 111, 32, 116, 105, 108, 108, 32, 59, 32, 112, 111, 115, 116, 32, 114, 101, 115, 116, 32, 102, 114, 111, 109, 32, 111, 119, 101, 100, 32, 116, 111, 32, 116, 105, 108, 108, 32, 59, 32, 125, 32, 125, 32, 116, 105, 99, 107, 32, 123, 32, 112, 111, 115, 116, 32, 105, 110, 116, 101, 114, 101, 115, 116, 32, 40, 32, 98, 97, 108, 32, 111, 119, 101, 100, 32, 121, 101, 97, 114, 108, 121, 32, 115, 105, 110, 99, 101, 32, 116, 111, 100, 97, 121, 32, 41, 32, 102, 114, 111, 109, 32, 105, 110, 99, 111, 109, 101, 32, 116, 111, 32, 100, 117, 101, 32, 59, 32, 105, 102, 32, 40, 32, 40, 32, 99, 111, 117, 110, 116, 32, 43, 32, 49, 32, 41, 32, 60, 32, 116, 101, 114, 109, 32, 41, 32, 123, 32, 110, 101, 120, 116, 32, 108, 97, 116, 101, 114, 32, 40, 32, 115, 116, 97, 114, 116, 32, 40, 32, 99, 111, 117, 110, 116, 32, 43, 32, 50, 32, 41, 32, 41, 32, 59, 32, 125, 32, 101, 108, 115, 101, 32, 123, 32, 125, 32, 125, 32, 125]
def tb : List UInt8 := [112, 114, 111, 100, 117, 99, 116, 32, 98, 117, 108, 108, 101, 116, 32, 98, 97, 115, 105, 115, 32, 50, 32, 123, 32, 99, 111, 110, 116, 114, 97, 32, 105, 110, 99, 111, 109, 101, 32, 59, 32, 99, 111, 110, 116, 114, 97, 32, 116, 105, 108, 108, 32, 59, 32, 115, 108, 111, 116, 32, 100, 117, 101, 32, 59, 32, 115, 108, 111, 116, 32, 111, 119, 101, 100, 32, 59, 32, 112, 97, 114, 97, 109, 32, 121, 101, 97, 114, 108, 121, 32, 114, 97, 116, 101, 32, 48, 46, 48, 48, 48, 48, 37, 32, 53, 48, 46, 48, 48, 48, 48, 37, 32, 59, 32, 112, 97, 114, 97, 109, 32, 108, 97, 115, 116, 32, 100, 97, 116, 101, 32, 50, 48, 48, 48, 45, 48, 49, 45, 48, 49, 32, 50, 48, 57, 57, 45, 49, 50, 45, 51, 49, 32, 59, 32, 111, 112, 101, 110, 32, 123, 32, 105, 102, 32, 40, 32, 40, 32, 116, 111, 100, 97, 121, 32, 60, 32, 108, 97, 115, 116, 32, 41, 32, 97, 110, 100, 32, 40, 32, 48, 46, 48, 48, 32, 60, 32, 97, 109, 111, 117, 110, 116, 32, 41, 32, 41, 32, 123, 32, 112, 111, 115, 116, 32, 97, 109, 111, 117, 110, 116, 32, 102, 114, 111, 109, 32, 116, 105, 108, 108, 32, 116, 111, 32, 111, 119, 101, 100, 32, 59, 32, 110, 101, 120, 116, 32, 108, 97, 115, 116, 32, 59, 32, 125, 32, 101, 108, 115, 101, 32, 123, 32, 114, 101, 106, 101, 99, 116, 32, 49, 32, 59, 32, 125, 32, 125, 32, 112, 97, 121, 32, 123, 32, 105, 102, 32, 40, 32, 40, 32, 98, 97, 108, 32, 111, 119, 101, 100, 32, 43, 32, 98, 97, 108, 32, 100, 117, 101, 32, 41, 32, 60, 32, 97, 109, 111, 117, 110, 116, 32, 41, 32, 123, 32, 114, 101, 106, 101, 99, 116, 32, 50, 32, 59, 32, 125, 32, 101, 108, 115, 101, 32, 123, 32, 108, 101, 116, 32, 102, 105, 110, 101, 32, 61, 32, 108, 101, 97, 115, 116, 32, 40, 32, 97, 109, 111, 117, 110, 116, 32, 98, 97, 108, 32, 100, 117, 101, 32, 41, 32, 59, 32, 112, 111, 115, 116, 32, 102, 105, 110, 101, 32, 102, 114, 111, 109, 32, 100, 117, 101, 32, 116, 111, 32, 116, 105, 108, 108, 32, 59, 32, 112, 111, 115, 116, 32, 40, 32, 97, 109, 111, 117, 110, 116, 32, 45, 32, 102, 105, 110, 101, 32, 41, 32, 102, 114, 111, 109, 32, 111, 119, 101, 100, 32, 116, 111, 32, 116, 105, 108, 108, 32, 59, 32, 125, 32, 125, 32, 116, 105, 99, 107, 32, 123, 32, 112, 111, 115, 116, 32, 105, 110, 116, 101, 114, 101, 115, 116, 32, 40, 32, 98, 97, 108, 32, 111, 119, 101, 100, 32, 121, 101, 97, 114, 108, 121, 32, 115, 105, 110, 99, 101, 32, 116, 111, 100, 97, 121, 32, 41, 32, 102, 114, 111, 109, 32, 105, 110, 99, 111, 109, 101, 32, 116, 111, 32, 100, 117, 101, 32, 59, 32, 125, 32, 125]
def tc : List UInt8 := [112, 114, 111, 100, 117, 99, 116, 32, 99, 114, 101, 100, 105, 116, 32, 98, 97, 115, 105, 115, 32, 51, 32, 123, 32, 99, 111, 110, 116, 114, 97, 32, 105, 110, 99, 111, 109, 101, 32, 59, 32, 99, 111, 110, 116, 114, 97, 32, 116, 105, 108, 108, 32, 59, 32, 115, 108, 111, 116, 32, 100, 117, 101, 32, 59, 32, 115, 108, 111, 116, 32, 111, 119, 101, 100, 32, 59, 32, 112, 97, 114, 97, 109, 32, 121, 101, 97, 114, 108, 121, 32, 114, 97, 116, 101, 32, 48, 46, 48, 48, 48, 48, 37, 32, 53, 48, 46, 48, 48, 48, 48, 37, 32, 59, 32, 112, 97, 114, 97, 109, 32, 109, 111, 115, 116, 95, 111, 119, 101, 100, 32, 109, 111, 110, 101, 121, 32, 49, 46, 48, 48, 32, 49, 48, 48, 48, 48, 48, 48, 48, 46, 48, 48, 32, 59, 32, 111, 112, 101, 110, 32, 123, 32, 105, 102, 32, 40, 32, 109, 111, 115, 116, 95, 111, 119, 101, 100, 32, 60, 32, 97, 109, 111, 117, 110, 116, 32, 41, 32, 123, 32, 114, 101, 106, 101, 99, 116, 32, 49, 32, 59, 32, 125, 32, 101, 108, 115, 101, 32, 123, 32, 112, 111, 115, 116, 32, 97, 109, 111, 117, 110, 116, 32, 102, 114, 111, 109, 32, 116, 105, 108, 108, 32, 116, 111, 32, 111, 119, 101, 100, 32, 59, 32, 110, 101, 120, 116, 32, 108, 97, 116, 101, 114, 32, 40, 32, 116, 111, 100, 97, 121, 32, 49, 32, 41, 32, 59, 32, 125, 32, 125, 32, 112, 97, 121, 32, 123, 32, 108, 101, 116, 32, 102, 105, 110, 101, 32, 61, 32, 108, 101, 97, 115, 116, 32, 40, 32, 97, 109, 111, 117, 110, 116, 32, 98, 97, 108, 32, 100, 117, 101, 32, 41, 32, 59, 32, 108, 101, 116, 32, 114, 101, 115, 116, 32, 61, 32, 108, 101, 97, 115, 116, 32, 40, 32, 40, 32, 97, 109, 111, 117, 110, 116, 32, 45, 32, 102, 105, 110, 101, 32, 41, 32, 98, 97, 108, 32, 111, 119, 101, 100, 32, 41, 32, 59, 32, 112, 111, 115, 116, 32, 102, 105, 110, 101, 32, 102, 114, 111, 109, 32, 100, 117, 101, 32, 116, 111, 32, 116, 105, 108, 108, 32, 59, 32, 112, 111, 115, 116, 32, 114, 101, 115, 116, 32, 102, 114, 111, 109, 32, 111, 119, 101, 100, 32, 116, 111, 32, 116, 105, 108, 108, 32, 59, 32, 125, 32, 116, 105, 99, 107, 32, 123, 32, 112, 111, 115, 116, 32, 105, 110, 116, 101, 114, 101, 115, 116, 32, 40, 32, 98, 97, 108, 32, 111, 119, 101, 100, 32, 121, 101, 97, 114, 108, 121, 32, 115, 105, 110, 99, 101, 32, 116, 111, 100, 97, 121, 32, 41, 32, 102, 114, 111, 109, 32, 105, 110, 99, 111, 109, 101, 32, 116, 111, 32, 100, 117, 101, 32, 59, 32, 108, 101, 116, 32, 112, 97, 114, 116, 32, 61, 32, 115, 104, 97, 114, 101, 32, 40, 32, 98, 97, 108, 32, 100, 117, 101, 32, 49, 46, 48, 48, 48, 48, 37, 32, 41, 32, 59, 32, 112, 111, 115, 116, 32, 112, 97, 114, 116, 32, 102, 114, 111, 109, 32, 105, 110, 99, 111, 109, 101, 32, 116, 111, 32, 100, 117, 101, 32, 59, 32, 110, 101, 120, 116, 32, 108, 97, 116, 101, 114, 32, 40, 32, 116, 111, 100, 97, 121, 32, 49, 32, 41, 32, 59, 32, 125, 32, 125]
def text (s : ByteArray) : ByteArray := if s.toList = ([97, 110, 110, 117, 105, 116, 121] : List UInt8) then ⟨ta.toArray⟩ else if s.toList = ([98, 117, 108, 108, 101, 116] : List UInt8) then ⟨tb.toArray⟩ else if s.toList = ([99, 114, 101, 100, 105, 116] : List UInt8) then ⟨tc.toArray⟩ else ⟨#[]⟩
set_option maxHeartbeats 8000000 in
theorem spec_text (s : ByteArray) (w : World) : Calls Tryd.prog 4 #[.string s] w fun e w' => e = .returned (.string (text s)) ∧ w' = w := by
  by_cases ca : s.toList = ([97, 110, 110, 117, 105, 116, 121] : List UInt8)
  · have ba : (s.toList == ([97, 110, 110, 117, 105, 116, 121] : List UInt8)) = true := beq_iff_eq.mpr ca
    have e : text s = ⟨ta.toArray⟩ := by unfold text; exact if_pos ca
    rw [e]
    go_enter Tryd.func4, Tryd.ntmps4
    go_wp2
    go_ret
    exact ⟨by kernel_rfl, rfl⟩
  have ba : (s.toList == ([97, 110, 110, 117, 105, 116, 121] : List UInt8)) = false := beq_eq_false_iff_ne.mpr ca
  by_cases cb : s.toList = ([98, 117, 108, 108, 101, 116] : List UInt8)
  · have bb : (s.toList == ([98, 117, 108, 108, 101, 116] : List UInt8)) = true := beq_iff_eq.mpr cb
    have e : text s = ⟨tb.toArray⟩ := by unfold text; rw [if_neg ca]; exact if_pos cb
    rw [e]
    go_enter Tryd.func4, Tryd.ntmps4
    go_wp2
    go_ret
    exact ⟨by kernel_rfl, rfl⟩
  have bb : (s.toList == ([98, 117, 108, 108, 101, 116] : List UInt8)) = false := beq_eq_false_iff_ne.mpr cb
  by_cases cc : s.toList = ([99, 114, 101, 100, 105, 116] : List UInt8)
  · have bc : (s.toList == ([99, 114, 101, 100, 105, 116] : List UInt8)) = true := beq_iff_eq.mpr cc
    have e : text s = ⟨tc.toArray⟩ := by unfold text; rw [if_neg ca]; rw [if_neg cb]; exact if_pos cc
    rw [e]
    go_enter Tryd.func4, Tryd.ntmps4
    go_wp2
    go_ret
    exact ⟨by kernel_rfl, rfl⟩
  have bc : (s.toList == ([99, 114, 101, 100, 105, 116] : List UInt8)) = false := beq_eq_false_iff_ne.mpr cc
  have e : text s = ⟨#[]⟩ := by unfold text; rw [if_neg ca, if_neg cb, if_neg cc]
  rw [e]
  go_enter Tryd.func4, Tryd.ntmps4
  go_wp2
  go_ret
  exact ⟨by kernel_rfl, rfl⟩
set_option maxHeartbeats 8000000 in
theorem impl_text (s : ByteArray) (m : Int) (w : World) (hm : w.cell? ⟨YtahkejppfhonhaaDoor.lays155_ren.g 1, 0, none⟩ = some (.int .i64 m)) : Calls Tryd.prog 5 #[.string s] w fun e w' => e = .returned (.string (text s)) ∧ Below w.heap.size w w' := by
  have e6 : ∀ args w, (callFunc 6 args).run Tryd.prog w = .ok (.enter 6 args) w := enters_of Tryd.func6 (by kernel_rfl) rfl
  by_cases ca : s.toList = ([97, 110, 110, 117, 105, 116, 121] : List UInt8)
  · have ba : (s.toList == ([97, 110, 110, 117, 105, 116, 121] : List UInt8)) = true := beq_iff_eq.mpr ca
    have e : text s = ⟨ta.toArray⟩ := by unfold text; exact if_pos ca
    rw [e]
    go_enter Tryd.func5, Tryd.ntmps5
    go_wp2_with (go_at_fn 6; refine (Any.strings_ReplaceAll YtahkejppfhonhaaDoor.lays155 YtahkejppfhonhaaDoor.extra155 _ _ _ m w ?h1 hm ?h2 ?h3).mono ?_; (case h1 => exact of_decide_eq_true (by kernel_rfl)); (case h2 => exact of_decide_eq_true (by kernel_rfl)); (case h3 => exact of_decide_eq_true (by kernel_rfl)); rintro e w' ⟨rfl, hw⟩)
    go_ret
    exact ⟨by kernel_rfl, hw⟩
  have ba : (s.toList == ([97, 110, 110, 117, 105, 116, 121] : List UInt8)) = false := beq_eq_false_iff_ne.mpr ca
  by_cases cb : s.toList = ([98, 117, 108, 108, 101, 116] : List UInt8)
  · have bb : (s.toList == ([98, 117, 108, 108, 101, 116] : List UInt8)) = true := beq_iff_eq.mpr cb
    have e : text s = ⟨tb.toArray⟩ := by unfold text; rw [if_neg ca]; exact if_pos cb
    rw [e]
    go_enter Tryd.func5, Tryd.ntmps5
    go_wp2_with (go_at_fn 6; refine (Any.strings_ReplaceAll YtahkejppfhonhaaDoor.lays155 YtahkejppfhonhaaDoor.extra155 _ _ _ m w ?h1 hm ?h2 ?h3).mono ?_; (case h1 => exact of_decide_eq_true (by kernel_rfl)); (case h2 => exact of_decide_eq_true (by kernel_rfl)); (case h3 => exact of_decide_eq_true (by kernel_rfl)); rintro e w' ⟨rfl, hw⟩)
    go_ret
    exact ⟨by kernel_rfl, hw⟩
  have bb : (s.toList == ([98, 117, 108, 108, 101, 116] : List UInt8)) = false := beq_eq_false_iff_ne.mpr cb
  by_cases cc : s.toList = ([99, 114, 101, 100, 105, 116] : List UInt8)
  · have bc : (s.toList == ([99, 114, 101, 100, 105, 116] : List UInt8)) = true := beq_iff_eq.mpr cc
    have e : text s = ⟨tc.toArray⟩ := by unfold text; rw [if_neg ca]; rw [if_neg cb]; exact if_pos cc
    rw [e]
    go_enter Tryd.func5, Tryd.ntmps5
    go_wp2_with (go_at_fn 6; refine (Any.strings_ReplaceAll YtahkejppfhonhaaDoor.lays155 YtahkejppfhonhaaDoor.extra155 _ _ _ m w ?h1 hm ?h2 ?h3).mono ?_; (case h1 => exact of_decide_eq_true (by kernel_rfl)); (case h2 => exact of_decide_eq_true (by kernel_rfl)); (case h3 => exact of_decide_eq_true (by kernel_rfl)); rintro e w' ⟨rfl, hw⟩)
    go_ret
    exact ⟨by kernel_rfl, hw⟩
  have bc : (s.toList == ([99, 114, 101, 100, 105, 116] : List UInt8)) = false := beq_eq_false_iff_ne.mpr cc
  have e : text s = ⟨#[]⟩ := by unfold text; rw [if_neg ca, if_neg cb, if_neg cc]
  rw [e]
  go_enter Tryd.func5, Tryd.ntmps5
  go_wp2
  go_ret
  exact ⟨by kernel_rfl, Below.refl _ _⟩
set_option maxHeartbeats 8000000 in
theorem law (s : ByteArray) (m : Int) (w : World) (hm : w.cell? ⟨YtahkejppfhonhaaDoor.lays155_ren.g 1, 0, none⟩ = some (.int .i64 m)) : Calls Tryd.prog 3 #[.string s] w fun e w' => e = .returned (.bool true) ∧ Below w.heap.size w w' := by
  have e4 : ∀ args w, (callFunc 4 args).run Tryd.prog w = .ok (.enter 4 args) w := enters_of Tryd.func4 (by kernel_rfl) rfl
  have e5 : ∀ args w, (callFunc 5 args).run Tryd.prog w = .ok (.enter 5 args) w := enters_of Tryd.func5 (by kernel_rfl) rfl
  by_cases c : (s.size : Int) > 1048576
  · have cb : decide ((s.size : Int) > 1048576) = true := decide_eq_true c
    go_enter Tryd.func3, Tryd.ntmps3
    go_wp2
    go_ret
    exact ⟨rfl, Below.refl _ _⟩
  have cb : decide ((s.size : Int) > 1048576) = false := decide_eq_false c
  have hn : ((text s).toList != (text s).toList) = false := by simp
  go_enter Tryd.func3, Tryd.ntmps3
  go_wp2_with (first | (go_at_fn 4; refine (spec_text s w).mono ?_; rintro e w' ⟨rfl, rfl⟩) | (go_at_fn 5; refine (impl_text s m _ hm).mono ?_; rintro e w2 ⟨rfl, hw⟩))
  go_ret
  exact ⟨rfl, hw⟩
end Go.Proofs.YtahkejppfhonhaaDoor.Lib
