/- Proved: drawn texts, put one behind the other, are got back one behind the other, whatever the bytes; no condition. -/
import Derived.Test.YtahkejppfhonhaaTexts
import Derived.Test.YtahkejppfhonhaaS0
import Derived.Test.YtahkejppfhonhaaS8
namespace Go.Proofs.Ytahkejppfhonhaa.Pure
open Go.RowKit Go.Proofs.Ytahkejppfhonhaa.S Go.Proofs.YtahkejppfhonhaaW.PrintWords Go.Proofs.YtahkejppfhonhaaW.PrintLast Go.Proofs.Ytahkejppfhonhaa.Cal Go.Proofs.Ytahkejppfhonhaa.Draws Go.Proofs.Ytahkejppfhonhaa.Varint Go.Proofs.Ytahkejppfhonhaa.Texts
set_option linter.unusedVariables false
set_option linter.unusedSimpArgs false

theorem texts_yes {a b : ByteArray} (ha : Puts a) (hb : Puts b) {k : Nat} (hk : 400 ≤ k) : laws_FnTexts.j1 k a b false = some true := by
  obtain ⟨k, rfl⟩ : ∃ j, k = j + 1 := ⟨k - 1, by omega⟩
  simp only [laws_FnTexts.j1]
  rw [if_neg (by decide), impl_put ha (by omega), impl_put hb (by omega)]
  simp only [Option.bind_some]
  have za := put_small ha
  have zb := put_small hb
  have la := ha.1
  have lb := hb.1
  have ab : (put a ++ put b).size = (put a).size + (put b).size := app_size _ _
  rw [if_pos (by omega)]
  have g1 := getText (a := ByteArray.empty) (t := a) (c := put b) ha (by rw [ByteArray.empty_append]; omega) (k := k) (by omega)
  rw [ByteArray.empty_append] at g1
  have e0 : ((ByteArray.empty.size : Nat) : Int) = 0 := rfl
  rw [e0] at g1
  rw [g1]
  simp only [Option.bind_some]
  rw [if_pos trivial, if_pos trivial]
  have g2 := getText (a := put a) (t := b) (c := ByteArray.empty) hb (by rw [ByteArray.append_empty]; omega) (k := k) (by omega)
  rw [ByteArray.append_empty] at g2
  have e1 : ((ByteArray.empty.size + (put a).size : Nat) : Int) = (put a).size := by
    show ((0 + (put a).size : Nat) : Int) = _
    rw [Nat.zero_add]
  rw [e1, g2]
  simp [ab]
theorem texts_no {a b : ByteArray} (ha : a.size ≤ 1000) {k : Nat} (hk : 400 ≤ k) : laws_FnTexts.j1 k a b true = some true := by
  obtain ⟨k, rfl⟩ : ∃ j, k = j + 1 := ⟨k - 1, by omega⟩
  simp only [laws_FnTexts.j1]
  rw [if_pos trivial]
  by_cases h : Puts a
  · rw [impl_put h (by omega), spec_put h (by omega)]
    simp
  · rw [impl_put_no h (by omega) (by omega), spec_put_no h (by omega) (by omega)]
    simp
theorem FnTexts : laws_FnTexts.Pure := by
  intro l0 l1 h0 z0 w0 h1 z1 w1
  refine ⟨1000, ?_⟩
  have big : laws_FnTexts.j0 1000 l0 l1 true = some true := by
    simp only [laws_FnTexts.j0]
    exact if_pos trivial
  unfold laws_FnTexts.f
  by_cases c0 : (l0.length : Int) > 1048576
  · rw [if_pos c0, big]
  rw [if_neg c0]
  by_cases c1 : (l1.length : Int) > 1048576
  · rw [decide_eq_true c1, big]
  rw [decide_eq_false c1]
  obtain ⟨a, ea, sa⟩ := draw_putText l0 (by omega)
  obtain ⟨b, eb, sb⟩ := draw_putText l1 (by omega)
  simp only [laws_FnTexts.j0]
  rw [if_neg (by decide), ea _ (by omega)]
  simp only [Option.bind_some]
  rw [eb _ (by omega)]
  simp only [Option.bind_some]
  have em : (⟨#[]⟩ : ByteArray).toList = [] := by simp [ByteArray.toList_eq]
  by_cases ha : Puts a
  · rw [spec_put ha (by omega)]
    simp only [Option.bind_some]
    rw [if_neg (put_ne ha)]
    by_cases hb : Puts b
    · rw [spec_put hb (by omega)]
      simp only [Option.bind_some]
      have : ((put b).toList == ([] : List UInt8)) = false := beq_eq_false_iff_ne.mpr (put_ne hb)
      rw [this]
      exact texts_yes ha hb (by omega)
    · rw [spec_put_no hb (by omega) (by omega)]
      simp only [Option.bind_some]
      rw [em]
      exact texts_no sa (by omega)
  · rw [spec_put_no ha (by omega) (by omega)]
    simp only [Option.bind_some]
    rw [em]
    exact yes rfl (texts_no sa (by omega))
end Go.Proofs.Ytahkejppfhonhaa.Pure
