/- Plain laws: how the numbers of a date are told and read (reference and program), each number looked at once; no condition beyond each lemma's own. -/
import Derived.Test.YtidlcolgiololaaDoorCal
import Derived.Test.YtidlcolgiololaaDoorS0
import Derived.Test.YtidlcolgiololaaDoorS5
import Derived.Test.YtidlcolgiololaaDoorS6
import Derived.Test.YtidlcolgiololaaDoorS7
namespace Go.Proofs.YtidlcolgiololaaDoor.Dt
open Go.RowKit Go.Proofs.YtidlcolgiololaaDoor.S Go.Proofs.YtidlcolgiololaaDoorW.PrintWords Go.Proofs.YtidlcolgiololaaDoor.Cal
set_option linter.unusedVariables false
set_option linter.unusedSimpArgs false
set_option maxRecDepth 100000

def dig (n : Int) : UInt8 := UInt8.ofNat (48 + (n % 10).toNat)
def twoL (n : Int) : List UInt8 := [dig (n / 10), dig n]
def fourL (n : Int) : List UInt8 := [50, 48, dig (n / 10), dig n]
def two (n : Int) : ByteArray := ⟨(twoL n).toArray⟩
def four (n : Int) : ByteArray := ⟨(fourL n).toArray⟩
def is (o : Option ByteArray) (l : List UInt8) : Bool := match o with
  | some b => b.data.toList == l
  | none => false
theorem is_eq {o : Option ByteArray} {l : List UInt8} (h : is o l = true) : o = some ⟨l.toArray⟩ := by
  unfold is at h
  cases o with
  | none => cases h
  | some b =>
    have h' : b.data.toList = l := beq_iff_eq.mp h
    subst h'
    simp
theorem spec_two_all : ∀ n : Fin 32, is (spec_l02Digits.f 10 (n.val : Int) 2) (twoL (n.val : Int)) = true := by decide +kernel
theorem spec_four_all : ∀ n : Fin 100, is (spec_l01Dec.f 10 (2000 + (n.val : Int))) (fourL (2000 + (n.val : Int))) = true := by decide +kernel
theorem impl_two_all : ∀ n : Fin 32, is (impl_padded.f (n.val : Int) 2) (twoL (n.val : Int)) = true := by decide +kernel
theorem impl_four_all : ∀ n : Fin 100, is (impl_padded.f (2000 + (n.val : Int)) 4) (fourL (2000 + (n.val : Int))) = true := by decide +kernel
theorem read_two_all : ∀ n : Fin 32, impl_readPoint.rp (twoL (n.val : Int)) = (n.val : Int) := by decide +kernel
theorem read_four_all : ∀ n : Fin 100, impl_readPoint.rp (fourL (2000 + (n.val : Int))) = 2000 + (n.val : Int) := by decide +kernel
theorem spec_two {n : Int} (h0 : 0 ≤ n) (h1 : n ≤ 31) {k : Nat} (hk : 10 ≤ k) : spec_l02Digits.f k n 2 = some (two n) := by
  have h := is_eq (spec_two_all ⟨n.toNat, by omega⟩)
  rw [show (((⟨n.toNat, by omega⟩ : Fin 32).val : Nat) : Int) = n from Int.toNat_of_nonneg h0] at h
  exact at_rounds (g := fun k => spec_l02Digits.f k n 2) (fun k => spec_l02Digits.mono n 2 k) hk h
theorem spec_four {y : Int} (h0 : 2000 ≤ y) (h1 : y ≤ 2099) {k : Nat} (hk : 10 ≤ k) : spec_l01Dec.f k y = some (four y) := by
  have h := is_eq (spec_four_all ⟨(y - 2000).toNat, by omega⟩)
  rw [show 2000 + (((⟨(y - 2000).toNat, by omega⟩ : Fin 100).val : Nat) : Int) = y by show 2000 + (((y - 2000).toNat : Nat) : Int) = y; omega] at h
  exact at_rounds (g := fun k => spec_l01Dec.f k y) (fun k => spec_l01Dec.mono y k) hk h
theorem impl_two {n : Int} (h0 : 0 ≤ n) (h1 : n ≤ 31) : impl_padded.f n 2 = some (two n) := by
  have h := is_eq (impl_two_all ⟨n.toNat, by omega⟩)
  rw [show (((⟨n.toNat, by omega⟩ : Fin 32).val : Nat) : Int) = n from Int.toNat_of_nonneg h0] at h
  exact h
theorem impl_four {y : Int} (h0 : 2000 ≤ y) (h1 : y ≤ 2099) : impl_padded.f y 4 = some (four y) := by
  have h := is_eq (impl_four_all ⟨(y - 2000).toNat, by omega⟩)
  rw [show 2000 + (((⟨(y - 2000).toNat, by omega⟩ : Fin 100).val : Nat) : Int) = y by show 2000 + (((y - 2000).toNat : Nat) : Int) = y; omega] at h
  exact h
theorem read_two {n : Int} (h0 : 0 ≤ n) (h1 : n ≤ 31) : impl_readPoint.rp (twoL n) = n := by
  have h := read_two_all ⟨n.toNat, by omega⟩
  rw [show (((⟨n.toNat, by omega⟩ : Fin 32).val : Nat) : Int) = n from Int.toNat_of_nonneg h0] at h
  exact h
theorem read_four {y : Int} (h0 : 2000 ≤ y) (h1 : y ≤ 2099) : impl_readPoint.rp (fourL y) = y := by
  have h := read_four_all ⟨(y - 2000).toNat, by omega⟩
  rw [show 2000 + (((⟨(y - 2000).toNat, by omega⟩ : Fin 100).val : Nat) : Int) = y by show 2000 + (((y - 2000).toNat : Nat) : Int) = y; omega] at h
  exact h
end Go.Proofs.YtidlcolgiololaaDoor.Dt
