/- Proved: a value of each of these Go types that reads as data is opened as a Lean value of its kind; no condition. Written by a program of this session over the print of the kit. -/
import Derived.Test.YtahkejppfhonhaaOpn
import Derived.Test.YtahkejppfhonhaaS0
import Derived.Test.YtahkejppfhonhaaS5
namespace Go.Proofs.Ytahkejppfhonhaa.StmFnExactDiskCrash
open Go.RowKit Go.Proofs.YtahkejppfhonhaaW.PrintWords Go.Proofs.YtahkejppfhonhaaW.PrintLast Go.Proofs.YtahkejppfhonhaaW.PrintMore Go.Proofs.Ytahkejppfhonhaa.S Go.Proofs.Ytahkejppfhonhaa.Opn
set_option linter.unusedVariables false
theorem op9 : Opens Try.prog 9 Kd.string (fun x => x.size ≤ 140737488351232) := opens_string Try.underlying9 (by kernel_rfl)
theorem op22 : Opens Try.prog 22 (Kd.slice 9 Kd.string) (fun x => x.length * 16 ≤ 140737488351232 ∧ ∀ yx_ ∈ x, yx_.size ≤ 140737488351232) := opens_slice Try.underlying22 (by kernel_rfl) (by kernel_rfl) op9
theorem op59 : Opens Try.prog 59 (Kd.pair Kd.string (Kd.slice 9 Kd.string)) (fun x => (x.1.size ≤ 140737488351232) ∧ (x.2.length * 16 ≤ 140737488351232 ∧ ∀ yx2_ ∈ x.2, yx2_.size ≤ 140737488351232)) := opens_raw (opensF_cons (off := 0) op9 (opensF_last (off := 1) op22) (by kernel_rfl)) Try.underlying59 (by kernel_rfl) (by kernel_rfl)
theorem op2 : Opens Try.prog 2 (Kd.int .i64) (fun x => (Lit.int .i64 x).wf = true) := opens_int Try.underlying2 (by kernel_rfl)
/-- What is left to prove. -/
def Pure : Prop := ∀ (a0_0 : ByteArray) (l0_1 : List ByteArray) (a1 : Int), ((fun x => (x.1.size ≤ 140737488351232) ∧ (x.2.length * 16 ≤ 140737488351232 ∧ ∀ yx2_ ∈ x.2, yx2_.size ≤ 140737488351232)) (a0_0, l0_1)) → ((Lit.int .i64 a1).wf = true) → ∃ k, laws_FnExactDiskCrash.f k a0_0 l0_1 a1 = some true
theorem walk (P : Pure) (a0_0 : ByteArray) (A0_1 : Option Addr) (c0_1 : Nat) (l0_1 : List ByteArray) (a1 : Int) (w : World) (hr0_1 : Kd.C Kd.string w A0_1 l0_1.length l0_1) (hc0_1 : l0_1.length ≤ c0_1) (g0 : (fun x => (x.1.size ≤ 140737488351232) ∧ (x.2.length * 16 ≤ 140737488351232 ∧ ∀ yx2_ ∈ x.2, yx2_.size ≤ 140737488351232)) (a0_0, l0_1)) (g1 : (Lit.int .i64 a1).wf = true) :
    Calls Try.prog 13 #[.agg #[.string a0_0, .slice A0_1 l0_1.length c0_1], .int .i64 a1] w fun e w' => e = .returned (.bool true) ∧ Below w.heap.size w w' := by
  obtain ⟨k, h⟩ := P a0_0 l0_1 a1 g0 g1
  refine (laws_FnExactDiskCrash.calls k a0_0 _ _ l0_1 a1 true w hr0_1 hc0_1 h).mono ?_
  rintro e w' ⟨rfl, hd⟩
  exact ⟨rfl, hd⟩
end Go.Proofs.Ytahkejppfhonhaa.StmFnExactDiskCrash
