/- Proved: a value of each of these Go types that reads as data is opened as a Lean value of its kind; no condition. Written by a program of this session over the print of the kit. -/
import Derived.Test.YtidlcolgiololaaDoorOpn
import Derived.Test.YtidlcolgiololaaDoorS0
import Derived.Test.YtidlcolgiololaaDoorS15
namespace Go.Proofs.YtidlcolgiololaaDoor.StmFnExactBookOpen
open Go.RowKit Go.Proofs.YtidlcolgiololaaDoorW.PrintWords Go.Proofs.YtidlcolgiololaaDoorW.PrintLast Go.Proofs.YtidlcolgiololaaDoorW.PrintMore Go.Proofs.YtidlcolgiololaaDoor.S Go.Proofs.YtidlcolgiololaaDoor.Opn
set_option linter.unusedVariables false
theorem op9 : Opens Tryd.prog 9 Kd.string (fun x => x.size ≤ 140737488351232) := opens_string Tryd.underlying9 (by kernel_rfl)
def Ok53 (x : S53) : Prop := (fun x => (x.1.size ≤ 140737488351232) ∧ (x.2.size ≤ 140737488351232)) (x.f0, x.f1)
theorem op53 : Opens Tryd.prog 53 k53 Ok53 := opens_struct (opensF_cons (off := 0) op9 (opensF_last (off := 1) op9) (by kernel_rfl)) Tryd.underlying53 (by kernel_rfl) (by kernel_rfl) (fun x : S53 => (x.f0, x.f1)) (fun p => ⟨p.1, p.2⟩) (fun _ => rfl)
theorem op2 : Opens Tryd.prog 2 (Kd.int .i64) (fun x => (Lit.int .i64 x).wf = true) := opens_int Tryd.underlying2 (by kernel_rfl)
def Ok186 (x : S186) : Prop := (fun x => (Ok53 x.1) ∧ ((Lit.int .i64 x.2).wf = true)) (x.f0, x.f1)
theorem op186 : Opens Tryd.prog 186 k186 Ok186 := opens_struct (opensF_cons (off := 0) op53 (opensF_last (off := 2) op2) (by kernel_rfl)) Tryd.underlying186 (by kernel_rfl) (by kernel_rfl) (fun x : S186 => (x.f0, x.f1)) (fun p => ⟨p.1, p.2⟩) (fun _ => rfl)
theorem op50 : Opens Tryd.prog 50 (Kd.slice 186 k186) (fun x => x.length * 40 ≤ 140737488351232 ∧ ∀ yx_ ∈ x, Ok186 yx_) := opens_slice Tryd.underlying50 (by kernel_rfl) (by kernel_rfl) op186
theorem op33 : Opens Tryd.prog 33 (Kd.slice 9 Kd.string) (fun x => x.length * 16 ≤ 140737488351232 ∧ ∀ yx_ ∈ x, yx_.size ≤ 140737488351232) := opens_slice Tryd.underlying33 (by kernel_rfl) (by kernel_rfl) op9
theorem op52 : Opens Tryd.prog 52 (Kd.pair (Kd.slice 186 k186) (Kd.slice 9 Kd.string)) (fun x => (x.1.length * 40 ≤ 140737488351232 ∧ ∀ yx1_ ∈ x.1, Ok186 yx1_) ∧ (x.2.length * 16 ≤ 140737488351232 ∧ ∀ yx2_ ∈ x.2, yx2_.size ≤ 140737488351232)) := opens_raw (opensF_cons (off := 0) op50 (opensF_last (off := 1) op33) (by kernel_rfl)) Tryd.underlying52 (by kernel_rfl) (by kernel_rfl)
theorem op53r : Opens Tryd.prog 53 (Kd.pair Kd.string Kd.string) (fun x => (x.1.size ≤ 140737488351232) ∧ (x.2.size ≤ 140737488351232)) := opens_raw (opensF_cons (off := 0) op9 (opensF_last (off := 1) op9) (by kernel_rfl)) Tryd.underlying53 (by kernel_rfl) (by kernel_rfl)
/-- What is left to prove. -/
def Pure : Prop := ∀ (l0_0 : List (S186)) (l0_1 : List ByteArray) (a1_0 : ByteArray) (a1_1 : ByteArray), ((fun x => (x.1.length * 40 ≤ 140737488351232 ∧ ∀ yx1_ ∈ x.1, Ok186 yx1_) ∧ (x.2.length * 16 ≤ 140737488351232 ∧ ∀ yx2_ ∈ x.2, yx2_.size ≤ 140737488351232)) (l0_0, l0_1)) → ((fun x => (x.1.size ≤ 140737488351232) ∧ (x.2.size ≤ 140737488351232)) (a1_0, a1_1)) → ∃ k, laws_FnExactBookOpen.f k l0_0 l0_1 a1_0 a1_1 = some true
theorem walk (P : Pure) (A0_0 : Option Addr) (c0_0 : Nat) (l0_0 : List (S186)) (A0_1 : Option Addr) (c0_1 : Nat) (l0_1 : List ByteArray) (a1_0 : ByteArray) (a1_1 : ByteArray) (w : World) (hr0_0 : Kd.C k186 w A0_0 l0_0.length l0_0) (hc0_0 : l0_0.length ≤ c0_0) (hr0_1 : Kd.C Kd.string w A0_1 l0_1.length l0_1) (hc0_1 : l0_1.length ≤ c0_1) (g0 : (fun x => (x.1.length * 40 ≤ 140737488351232 ∧ ∀ yx1_ ∈ x.1, Ok186 yx1_) ∧ (x.2.length * 16 ≤ 140737488351232 ∧ ∀ yx2_ ∈ x.2, yx2_.size ≤ 140737488351232)) (l0_0, l0_1)) (g1 : (fun x => (x.1.size ≤ 140737488351232) ∧ (x.2.size ≤ 140737488351232)) (a1_0, a1_1)) :
    Calls Tryd.prog 5 #[.agg #[.slice A0_0 l0_0.length c0_0, .slice A0_1 l0_1.length c0_1], .agg #[.string a1_0, .string a1_1]] w fun e w' => e = .returned (.bool true) ∧ Below w.heap.size w w' := by
  obtain ⟨k, h⟩ := P l0_0 l0_1 a1_0 a1_1 g0 g1
  refine (laws_FnExactBookOpen.calls k _ _ l0_0 _ _ l0_1 a1_0 a1_1 true w hr0_0 hc0_0 hr0_1 hc0_1 h).mono ?_
  rintro e w' ⟨rfl, hd⟩
  exact ⟨rfl, hd⟩
end Go.Proofs.YtidlcolgiololaaDoor.StmFnExactBookOpen
