/- Proved: each Go function named here answers as its plain Lean function says, in whatever memory; no condition. Written by a program of this session over the print of the kit. -/
import Derived.Test.YtidlcolgiololaaSq
import Derived.Test.YtidlcolgiololaaS0
import Derived.Test.YtidlcolgiololaaS6
import Derived.Test.YtidlcolgiololaaS7
import Derived.Test.YtidlcolgiololaaS8
namespace Go.Proofs.Ytidlcolgiololaa.S
open Go.RowKit Go.Proofs.YtidlcolgiololaaW.PrintWords Go.Proofs.YtidlcolgiololaaW.PrintLast Go.Proofs.YtidlcolgiololaaW.PrintMore
attribute [local go_sem] max2_int min2_int max_two min_two max_three min_three max_four min_four   -- for this text's walks alone
set_option linter.unusedVariables false
set_option linter.unusedSimpArgs false

/-! ### spec_EngineSame: function 12 -/
mutual
def spec_EngineSame.j0 : Nat → Bool → Int → List (S79) → List (S81) → List (S93) → List ByteArray → Int → List (S79) → List (S81) → List (S93) → List ByteArray → Option (Bool)
 | 0, _, _, _, _, _, _, _, _, _, _, _ => none
 | k + 1, x39, x154000, x154001, x154002, x154003, x154004, x155000, x155001, x155002, x155003, x155004 => if x39 = true then (some false) else (spec_EngineSame.l0 k 0 x154000 x154001 x154002 x154003 x154004 x155000 x155001 x155002 x155003 x155004)
def spec_EngineSame.l0 : Nat → Int → Int → List (S79) → List (S81) → List (S93) → List ByteArray → Int → List (S79) → List (S81) → List (S93) → List ByteArray → Option (Bool)
 | 0, _, _, _, _, _, _, _, _, _, _, _ => none
 | k + 1, x5, x154000, x154001, x154002, x154003, x154004, x155000, x155001, x155002, x155003, x155004 => if x5 < (x154001.length : Int) then (if 0 ≤ x5 then (if x5 < (x155001.length : Int) then ((spec_ProductSame.f k ((rd_T79 x154001 x5).f0) ((rd_T79 x154001 x5).f1) ((rd_T79 x154001 x5).f2) ((rd_T79 x154001 x5).f3) ((rd_T79 x154001 x5).f4) ((rd_T79 x154001 x5).f5) ((rd_T79 x154001 x5).f6) ((rd_T79 x154001 x5).f7) ((rd_T79 x155001 x5).f0) ((rd_T79 x155001 x5).f1) ((rd_T79 x155001 x5).f2) ((rd_T79 x155001 x5).f3) ((rd_T79 x155001 x5).f4) ((rd_T79 x155001 x5).f5) ((rd_T79 x155001 x5).f6) ((rd_T79 x155001 x5).f7)).bind fun t158 => (if t158 = true then (spec_EngineSame.l0 k (wrap64 (x5 + 1)) x154000 x154001 x154002 x154003 x154004 x155000 x155001 x155002 x155003 x155004) else (some false))) else (none)) else (none)) else (spec_EngineSame.l1 k 0 x154000 x154001 x154002 x154003 x154004 x155000 x155001 x155002 x155003 x155004)
def spec_EngineSame.l1 : Nat → Int → Int → List (S79) → List (S81) → List (S93) → List ByteArray → Int → List (S79) → List (S81) → List (S93) → List ByteArray → Option (Bool)
 | 0, _, _, _, _, _, _, _, _, _, _, _ => none
 | k + 1, x6, x154000, x154001, x154002, x154003, x154004, x155000, x155001, x155002, x155003, x155004 => if x6 < (x154002.length : Int) then (if 0 ≤ x6 then (if x6 < (x155002.length : Int) then (if ((rd_T81 x154002 x6).f0).toList = ((rd_T81 x155002 x6).f0).toList then (if ((rd_T81 x154002 x6).f1).toList = ((rd_T81 x155002 x6).f1).toList then ((spec_l13SameNums.f k ((rd_T81 x154002 x6).f2) ((rd_T81 x155002 x6).f2)).bind fun t163 => (if t163 = true then (if ((rd_T81 x154002 x6).f3) = ((rd_T81 x155002 x6).f3) then (if ((rd_T81 x154002 x6).f4) = ((rd_T81 x155002 x6).f4) then (if ((rd_T81 x154002 x6).f5) = ((rd_T81 x155002 x6).f5) then (spec_EngineSame.j3 k x6 (((rd_T81 x154002 x6).f6) != ((rd_T81 x155002 x6).f6)) x154000 x154001 x154002 x154003 x154004 x155000 x155001 x155002 x155003 x155004) else (spec_EngineSame.j3 k x6 true x154000 x154001 x154002 x154003 x154004 x155000 x155001 x155002 x155003 x155004)) else (spec_EngineSame.j3 k x6 true x154000 x154001 x154002 x154003 x154004 x155000 x155001 x155002 x155003 x155004)) else (spec_EngineSame.j3 k x6 true x154000 x154001 x154002 x154003 x154004 x155000 x155001 x155002 x155003 x155004)) else (spec_EngineSame.j3 k x6 true x154000 x154001 x154002 x154003 x154004 x155000 x155001 x155002 x155003 x155004))) else (spec_EngineSame.j3 k x6 true x154000 x154001 x154002 x154003 x154004 x155000 x155001 x155002 x155003 x155004)) else (spec_EngineSame.j3 k x6 true x154000 x154001 x154002 x154003 x154004 x155000 x155001 x155002 x155003 x155004)) else (none)) else (none)) else (some true)
def spec_EngineSame.j3 : Nat → Int → Bool → Int → List (S79) → List (S81) → List (S93) → List ByteArray → Int → List (S79) → List (S81) → List (S93) → List ByteArray → Option (Bool)
 | 0, _, _, _, _, _, _, _, _, _, _, _, _ => none
 | k + 1, x6, x123, x154000, x154001, x154002, x154003, x154004, x155000, x155001, x155002, x155003, x155004 => if x123 = true then (some false) else (spec_EngineSame.l1 k (wrap64 (x6 + 1)) x154000 x154001 x154002 x154003 x154004 x155000 x155001 x155002 x155003 x155004)
end
def spec_EngineSame.f (k : Nat) (a0_0 : Int) (l0_1 : List (S79)) (l0_2 : List (S81)) (l0_3 : List (S93)) (l0_4 : List ByteArray) (a1_0 : Int) (l1_1 : List (S79)) (l1_2 : List (S81)) (l1_3 : List (S93)) (l1_4 : List ByteArray) : Option (Bool) := if a0_0 = a1_0 then (if (l0_1.length : Int) = (l1_1.length : Int) then (if (l0_2.length : Int) = (l1_2.length : Int) then ((spec_l13SameBook.f k l0_3 l0_4 l1_3 l1_4).bind fun t155 => (spec_EngineSame.j0 k (!t155) a0_0 l0_1 l0_2 l0_3 l0_4 a1_0 l1_1 l1_2 l1_3 l1_4)) else (spec_EngineSame.j0 k true a0_0 l0_1 l0_2 l0_3 l0_4 a1_0 l1_1 l1_2 l1_3 l1_4)) else (spec_EngineSame.j0 k true a0_0 l0_1 l0_2 l0_3 l0_4 a1_0 l1_1 l1_2 l1_3 l1_4)) else (spec_EngineSame.j0 k true a0_0 l0_1 l0_2 l0_3 l0_4 a1_0 l1_1 l1_2 l1_3 l1_4)
theorem spec_EngineSame.mono_l : ∀ k, (∀ y0 y1 y2 y3 y4 y5 y6 y7 y8 y9 y10, LeO (spec_EngineSame.j0 k y0 y1 y2 y3 y4 y5 y6 y7 y8 y9 y10) (spec_EngineSame.j0 (k + 1) y0 y1 y2 y3 y4 y5 y6 y7 y8 y9 y10)) ∧ (∀ y0 y1 y2 y3 y4 y5 y6 y7 y8 y9 y10, LeO (spec_EngineSame.l0 k y0 y1 y2 y3 y4 y5 y6 y7 y8 y9 y10) (spec_EngineSame.l0 (k + 1) y0 y1 y2 y3 y4 y5 y6 y7 y8 y9 y10)) ∧ (∀ y0 y1 y2 y3 y4 y5 y6 y7 y8 y9 y10, LeO (spec_EngineSame.l1 k y0 y1 y2 y3 y4 y5 y6 y7 y8 y9 y10) (spec_EngineSame.l1 (k + 1) y0 y1 y2 y3 y4 y5 y6 y7 y8 y9 y10)) ∧ (∀ y0 y1 y2 y3 y4 y5 y6 y7 y8 y9 y10 y11, LeO (spec_EngineSame.j3 k y0 y1 y2 y3 y4 y5 y6 y7 y8 y9 y10 y11) (spec_EngineSame.j3 (k + 1) y0 y1 y2 y3 y4 y5 y6 y7 y8 y9 y10 y11))
 | 0 => ⟨fun _ _ _ _ _ _ _ _ _ _ _ r h => by simp [spec_EngineSame.j0] at h, fun _ _ _ _ _ _ _ _ _ _ _ r h => by simp [spec_EngineSame.l0] at h, fun _ _ _ _ _ _ _ _ _ _ _ r h => by simp [spec_EngineSame.l1] at h, fun _ _ _ _ _ _ _ _ _ _ _ _ r h => by simp [spec_EngineSame.j3] at h⟩
 | k + 1 => by
  obtain ⟨ih0, ih1, ih2, ih3⟩ := spec_EngineSame.mono_l k
  refine ⟨?_, ?_, ?_, ?_⟩
  ·
   intro y0 y1 y2 y3 y4 y5 y6 y7 y8 y9 y10
   unfold spec_EngineSame.j0
   repeat' first
   | (with_reducible exact ih0 _ _ _ _ _ _ _ _ _ _ _)
   | (with_reducible exact ih1 _ _ _ _ _ _ _ _ _ _ _)
   | (with_reducible exact ih2 _ _ _ _ _ _ _ _ _ _ _)
   | (with_reducible exact ih3 _ _ _ _ _ _ _ _ _ _ _ _)
   | (with_reducible exact spec_ProductSame.mono _ _ _ _ _ _ _ _ _ _ _ _ _ _ _ _ _)
   | (with_reducible exact spec_l13SameBook.mono _ _ _ _ _)
   | (with_reducible exact spec_l13SameNums.mono _ _ _)
   | (with_reducible exact LeO.refl _)
   | (with_reducible exact LeO.none _)
   | (with_reducible refine LeO.ite ?_ ?_)
   | (with_reducible refine LeO.bind ?_ (fun _ => ?_))
   | exact ih0 _ _ _ _ _ _ _ _ _ _ _
   | exact ih1 _ _ _ _ _ _ _ _ _ _ _
   | exact ih2 _ _ _ _ _ _ _ _ _ _ _
   | exact ih3 _ _ _ _ _ _ _ _ _ _ _ _
   | exact spec_ProductSame.mono _ _ _ _ _ _ _ _ _ _ _ _ _ _ _ _ _
   | exact spec_l13SameBook.mono _ _ _ _ _
   | exact spec_l13SameNums.mono _ _ _
   | exact LeO.none _
   | refine LeO.ite ?_ ?_
   | refine LeO.bind ?_ (fun _ => ?_)
  ·
   intro y0 y1 y2 y3 y4 y5 y6 y7 y8 y9 y10
   unfold spec_EngineSame.l0
   repeat' first
   | (with_reducible exact ih0 _ _ _ _ _ _ _ _ _ _ _)
   | (with_reducible exact ih1 _ _ _ _ _ _ _ _ _ _ _)
   | (with_reducible exact ih2 _ _ _ _ _ _ _ _ _ _ _)
   | (with_reducible exact ih3 _ _ _ _ _ _ _ _ _ _ _ _)
   | (with_reducible exact spec_ProductSame.mono _ _ _ _ _ _ _ _ _ _ _ _ _ _ _ _ _)
   | (with_reducible exact spec_l13SameBook.mono _ _ _ _ _)
   | (with_reducible exact spec_l13SameNums.mono _ _ _)
   | (with_reducible exact LeO.refl _)
   | (with_reducible exact LeO.none _)
   | (with_reducible refine LeO.ite ?_ ?_)
   | (with_reducible refine LeO.bind ?_ (fun _ => ?_))
   | exact ih0 _ _ _ _ _ _ _ _ _ _ _
   | exact ih1 _ _ _ _ _ _ _ _ _ _ _
   | exact ih2 _ _ _ _ _ _ _ _ _ _ _
   | exact ih3 _ _ _ _ _ _ _ _ _ _ _ _
   | exact spec_ProductSame.mono _ _ _ _ _ _ _ _ _ _ _ _ _ _ _ _ _
   | exact spec_l13SameBook.mono _ _ _ _ _
   | exact spec_l13SameNums.mono _ _ _
   | exact LeO.none _
   | refine LeO.ite ?_ ?_
   | refine LeO.bind ?_ (fun _ => ?_)
  ·
   intro y0 y1 y2 y3 y4 y5 y6 y7 y8 y9 y10
   unfold spec_EngineSame.l1
   repeat' first
   | (with_reducible exact ih0 _ _ _ _ _ _ _ _ _ _ _)
   | (with_reducible exact ih1 _ _ _ _ _ _ _ _ _ _ _)
   | (with_reducible exact ih2 _ _ _ _ _ _ _ _ _ _ _)
   | (with_reducible exact ih3 _ _ _ _ _ _ _ _ _ _ _ _)
   | (with_reducible exact spec_ProductSame.mono _ _ _ _ _ _ _ _ _ _ _ _ _ _ _ _ _)
   | (with_reducible exact spec_l13SameBook.mono _ _ _ _ _)
   | (with_reducible exact spec_l13SameNums.mono _ _ _)
   | (with_reducible exact LeO.refl _)
   | (with_reducible exact LeO.none _)
   | (with_reducible refine LeO.ite ?_ ?_)
   | (with_reducible refine LeO.bind ?_ (fun _ => ?_))
   | exact ih0 _ _ _ _ _ _ _ _ _ _ _
   | exact ih1 _ _ _ _ _ _ _ _ _ _ _
   | exact ih2 _ _ _ _ _ _ _ _ _ _ _
   | exact ih3 _ _ _ _ _ _ _ _ _ _ _ _
   | exact spec_ProductSame.mono _ _ _ _ _ _ _ _ _ _ _ _ _ _ _ _ _
   | exact spec_l13SameBook.mono _ _ _ _ _
   | exact spec_l13SameNums.mono _ _ _
   | exact LeO.none _
   | refine LeO.ite ?_ ?_
   | refine LeO.bind ?_ (fun _ => ?_)
  ·
   intro y0 y1 y2 y3 y4 y5 y6 y7 y8 y9 y10 y11
   unfold spec_EngineSame.j3
   repeat' first
   | (with_reducible exact ih0 _ _ _ _ _ _ _ _ _ _ _)
   | (with_reducible exact ih1 _ _ _ _ _ _ _ _ _ _ _)
   | (with_reducible exact ih2 _ _ _ _ _ _ _ _ _ _ _)
   | (with_reducible exact ih3 _ _ _ _ _ _ _ _ _ _ _ _)
   | (with_reducible exact spec_ProductSame.mono _ _ _ _ _ _ _ _ _ _ _ _ _ _ _ _ _)
   | (with_reducible exact spec_l13SameBook.mono _ _ _ _ _)
   | (with_reducible exact spec_l13SameNums.mono _ _ _)
   | (with_reducible exact LeO.refl _)
   | (with_reducible exact LeO.none _)
   | (with_reducible refine LeO.ite ?_ ?_)
   | (with_reducible refine LeO.bind ?_ (fun _ => ?_))
   | exact ih0 _ _ _ _ _ _ _ _ _ _ _
   | exact ih1 _ _ _ _ _ _ _ _ _ _ _
   | exact ih2 _ _ _ _ _ _ _ _ _ _ _
   | exact ih3 _ _ _ _ _ _ _ _ _ _ _ _
   | exact spec_ProductSame.mono _ _ _ _ _ _ _ _ _ _ _ _ _ _ _ _ _
   | exact spec_l13SameBook.mono _ _ _ _ _
   | exact spec_l13SameNums.mono _ _ _
   | exact LeO.none _
   | refine LeO.ite ?_ ?_
   | refine LeO.bind ?_ (fun _ => ?_)
theorem spec_EngineSame.mono : ∀ a0 a1 a2 a3 a4 a5 a6 a7 a8 a9 k, LeO (spec_EngineSame.f k a0 a1 a2 a3 a4 a5 a6 a7 a8 a9) (spec_EngineSame.f (k + 1) a0 a1 a2 a3 a4 a5 a6 a7 a8 a9) := by
 intro a0 a1 a2 a3 a4 a5 a6 a7 a8 a9 k
 obtain ⟨ih0, ih1, ih2, ih3⟩ := spec_EngineSame.mono_l k
 unfold spec_EngineSame.f
 repeat' first
   | (with_reducible exact ih0 _ _ _ _ _ _ _ _ _ _ _)
   | (with_reducible exact ih1 _ _ _ _ _ _ _ _ _ _ _)
   | (with_reducible exact ih2 _ _ _ _ _ _ _ _ _ _ _)
   | (with_reducible exact ih3 _ _ _ _ _ _ _ _ _ _ _ _)
   | (with_reducible exact spec_ProductSame.mono _ _ _ _ _ _ _ _ _ _ _ _ _ _ _ _ _)
   | (with_reducible exact spec_l13SameBook.mono _ _ _ _ _)
   | (with_reducible exact spec_l13SameNums.mono _ _ _)
   | (with_reducible exact LeO.refl _)
   | (with_reducible exact LeO.none _)
   | (with_reducible refine LeO.ite ?_ ?_)
   | (with_reducible refine LeO.bind ?_ (fun _ => ?_))
   | exact ih0 _ _ _ _ _ _ _ _ _ _ _
   | exact ih1 _ _ _ _ _ _ _ _ _ _ _
   | exact ih2 _ _ _ _ _ _ _ _ _ _ _
   | exact ih3 _ _ _ _ _ _ _ _ _ _ _ _
   | exact spec_ProductSame.mono _ _ _ _ _ _ _ _ _ _ _ _ _ _ _ _ _
   | exact spec_l13SameBook.mono _ _ _ _ _
   | exact spec_l13SameNums.mono _ _ _
   | exact LeO.none _
   | refine LeO.ite ?_ ?_
   | refine LeO.bind ?_ (fun _ => ?_)
def spec_EngineSame.T6 : Bool × List (List Nat × List Nat) := (true, [([], []), ([0], [0]), ([], []), ([1, 2], [1, 2]), ([3], [3]), ([], []), ([5], [5]), ([], []), ([6, 7], [6, 7]), ([8], [8]), ([4, 9], [4, 9]), ([10], [10])])
def spec_EngineSame.B6 : List Nat := [0, 1, 0, 7, 15, 0, 32, 0, 224, 480, 1023, 2047]
theorem spec_EngineSame.tab6 : rtab .any (opsOf Try.f12 6) = spec_EngineSame.T6 := by kernel_rfl
theorem spec_EngineSame.bits6 : waitsOk spec_EngineSame.T6.2 spec_EngineSame.B6 = true := by kernel_rfl
set_option maxHeartbeats 8000000 in
set_option maxRecDepth 100000 in
theorem spec_EngineSame.calls (k : Nat) (a0_0 : Int) (A0_1 : Option Addr) (c0_1 : Nat) (l0_1 : List (S79)) (A0_2 : Option Addr) (c0_2 : Nat) (l0_2 : List (S81)) (A0_3 : Option Addr) (c0_3 : Nat) (l0_3 : List (S93)) (A0_4 : Option Addr) (c0_4 : Nat) (l0_4 : List ByteArray) (a1_0 : Int) (A1_1 : Option Addr) (c1_1 : Nat) (l1_1 : List (S79)) (A1_2 : Option Addr) (c1_2 : Nat) (l1_2 : List (S81)) (A1_3 : Option Addr) (c1_3 : Nat) (l1_3 : List (S93)) (A1_4 : Option Addr) (c1_4 : Nat) (l1_4 : List ByteArray) (r : Bool) (w : World) (hr0_1 : Kd.C k79 w A0_1 l0_1.length l0_1) (hc0_1 : l0_1.length ≤ c0_1) (hr0_2 : Kd.C k81 w A0_2 l0_2.length l0_2) (hc0_2 : l0_2.length ≤ c0_2) (hr0_3 : Kd.C k93 w A0_3 l0_3.length l0_3) (hc0_3 : l0_3.length ≤ c0_3) (hr0_4 : Kd.C Kd.string w A0_4 l0_4.length l0_4) (hc0_4 : l0_4.length ≤ c0_4) (hr1_1 : Kd.C k79 w A1_1 l1_1.length l1_1) (hc1_1 : l1_1.length ≤ c1_1) (hr1_2 : Kd.C k81 w A1_2 l1_2.length l1_2) (hc1_2 : l1_2.length ≤ c1_2) (hr1_3 : Kd.C k93 w A1_3 l1_3.length l1_3) (hc1_3 : l1_3.length ≤ c1_3) (hr1_4 : Kd.C Kd.string w A1_4 l1_4.length l1_4) (hc1_4 : l1_4.length ≤ c1_4) (h : spec_EngineSame.f k a0_0 l0_1 l0_2 l0_3 l0_4 a1_0 l1_1 l1_2 l1_3 l1_4 = some r) :
  Calls Try.prog 12 #[.agg #[.int .i64 a0_0, .slice A0_1 l0_1.length c0_1, .slice A0_2 l0_2.length c0_2, .slice A0_3 l0_3.length c0_3, .slice A0_4 l0_4.length c0_4], .agg #[.int .i64 a1_0, .slice A1_1 l1_1.length c1_1, .slice A1_2 l1_2.length c1_2, .slice A1_3 l1_3.length c1_3, .slice A1_4 l1_4.length c1_4]] w fun e w' => e = .returned (.bool r) ∧ Below w.heap.size w w' := by
 have hu47 := Try.underlying47
 have hu45 := Try.underlying45
 have hu79 := Try.underlying79
 have hu81 := Try.underlying81
 have HR0_1 := Aside0.mk hr0_1
 have HC0_1 := Aside0.mk hc0_1
 clear hr0_1 hc0_1
 have HR0_2 := Aside0.mk hr0_2
 have HC0_2 := Aside0.mk hc0_2
 clear hr0_2 hc0_2
 have HR0_3 := Aside0.mk hr0_3
 have HC0_3 := Aside0.mk hc0_3
 clear hr0_3 hc0_3
 have HR0_4 := Aside0.mk hr0_4
 have HC0_4 := Aside0.mk hc0_4
 clear hr0_4 hc0_4
 have HR1_1 := Aside0.mk hr1_1
 have HC1_1 := Aside0.mk hc1_1
 clear hr1_1 hc1_1
 have HR1_2 := Aside0.mk hr1_2
 have HC1_2 := Aside0.mk hc1_2
 clear hr1_2 hc1_2
 have HR1_3 := Aside0.mk hr1_3
 have HC1_3 := Aside0.mk hc1_3
 clear hr1_3 hc1_3
 have HR1_4 := Aside0.mk hr1_4
 have HC1_4 := Aside0.mk hc1_4
 clear hr1_4 hc1_4
 have HB := Aside0.mk (Below.refl w.heap.size w)
 have H : (if a0_0 = a1_0 then (if (l0_1.length : Int) = (l1_1.length : Int) then (if (l0_2.length : Int) = (l1_2.length : Int) then ((spec_l13SameBook.f k l0_3 l0_4 l1_3 l1_4).bind fun t155 => (spec_EngineSame.j0 k (!t155) a0_0 l0_1 l0_2 l0_3 l0_4 a1_0 l1_1 l1_2 l1_3 l1_4)) else (spec_EngineSame.j0 k true a0_0 l0_1 l0_2 l0_3 l0_4 a1_0 l1_1 l1_2 l1_3 l1_4)) else (spec_EngineSame.j0 k true a0_0 l0_1 l0_2 l0_3 l0_4 a1_0 l1_1 l1_2 l1_3 l1_4)) else (spec_EngineSame.j0 k true a0_0 l0_1 l0_2 l0_3 l0_4 a1_0 l1_1 l1_2 l1_3 l1_4)) = some r := h
 clear h
 have HC3 := Aside0.mk H
 clear H
 go_enter Try.func12, Try.ntmps12
 go_upto_region 1 with (first | ((with_reducible refine gate_dst (N := 2) rfl ?_); (try (refine gate_guard (by rfl) ?_; dsimp only)); refine bxe (N := 2) (cs := #[.int .i64 a0_0, .slice A0_1 l0_1.length c0_1, .slice A0_2 l0_2.length c0_2, .slice A0_3 l0_3.length c0_3, .slice A0_4 l0_4.length c0_4]) (t := 47) ?_; intro gb153 hg w4 hbox hb; have n0_ := bst hb; have n1_ := Aside0.mk (hbox); have n2_ := (bsz hg : Aside0 (w.heap.size ≤ gb153)); have n3_ := n2_; clear HB; have HB := n0_; have BK153 := n1_; have GW153 := n2_; have GE153 := n3_; clear n0_ n1_ n2_ n3_; clear hb hbox hg) | ((with_reducible refine gate_dst (N := 3) rfl ?_); (try (refine gate_guard (by rfl) ?_; dsimp only)); refine bxe (N := 3) (cs := #[.int .i64 a1_0, .slice A1_1 l1_1.length c1_1, .slice A1_2 l1_2.length c1_2, .slice A1_3 l1_3.length c1_3, .slice A1_4 l1_4.length c1_4]) (t := 47) ?_; intro gb154 hg w5 hbox hb; have n0_ := bkb BK153 hb; have n1_ := bst hb; have n2_ := Aside0.mk (hbox); have n3_ := (bsz hg : Aside0 (w.heap.size ≤ gb154)); have n4_ := n3_; have n5_ := (bkn BK153 hg : Aside0 (gb153 ≠ gb154)); have n6_ := Aside0.mk n5_.out.symm; clear BK153; clear HB; have BK153 := n0_; have HB := n1_; have BK154 := n2_; have GW154 := n3_; have GE154 := n4_; have NB153_154 := n5_; have NB154_153 := n6_; clear n0_ n1_ n2_ n3_ n4_ n5_ n6_; clear hb hbox hg))
 (try simp only [Act.put, List.setIfInBounds_toArray, List.set_cons_zero, List.set_cons_succ])
 go_cut [39] (fun v39 wc => ∃ (kq : Nat) (x39_2 : Bool), v39 = .bool x39_2 ∧ Aside0 (spec_EngineSame.j0 kq x39_2 a0_0 l0_1 l0_2 l0_3 l0_4 a1_0 l1_1 l1_2 l1_3 l1_4 = some r) ∧ Aside0 (kq ≤ k) ∧ Aside0 (wc.heap[gb153]? = some (.cells #[.int .i64 a0_0, (.slice A0_1 l0_1.length c0_1), (.slice A0_2 l0_2.length c0_2), (.slice A0_3 l0_3.length c0_3), (.slice A0_4 l0_4.length c0_4)] 47 (0, 0))) ∧ Aside0 (wc.heap[gb154]? = some (.cells #[.int .i64 a1_0, (.slice A1_1 l1_1.length c1_1), (.slice A1_2 l1_2.length c1_2), (.slice A1_3 l1_3.length c1_3), (.slice A1_4 l1_4.length c1_4)] 47 (0, 0))) ∧ Aside0 (Below w.heap.size w wc))
 case first =>
  have H := HC3.out
  clear HC3
  by_cases c6 : a0_0 = a1_0
  ·
   rw [if_pos c6] at H
   have c6b0 : (a0_0 == a1_0) = true := beq_iff_eq.mpr c6
   have c6b1 : (a0_0 != a1_0) = false := bne_eq_false_iff_eq.mpr c6
   clear c6
   (first | rw [c6b0] | (simp only [i64_w, i32_w]; rw [c6b0]) | skip)
   by_cases c7 : (l0_1.length : Int) = (l1_1.length : Int)
   ·
    rw [if_pos c7] at H
    have c7b0 : ((l0_1.length : Int) == (l1_1.length : Int)) = true := beq_iff_eq.mpr c7
    have c7b1 : ((l0_1.length : Int) != (l1_1.length : Int)) = false := bne_eq_false_iff_eq.mpr c7
    have c7b2 : (l0_1.length == l1_1.length) = true := by first | simpa using c7 | (simp at c7 ⊢; omega)
    clear c7
    by_cases c8 : (l0_2.length : Int) = (l1_2.length : Int)
    ·
     rw [if_pos c8] at H
     have c8b0 : ((l0_2.length : Int) == (l1_2.length : Int)) = true := beq_iff_eq.mpr c8
     have c8b1 : ((l0_2.length : Int) != (l1_2.length : Int)) = false := bne_eq_false_iff_eq.mpr c8
     have c8b2 : (l0_2.length == l1_2.length) = true := by first | simpa using c8 | (simp at c8 ⊢; omega)
     clear c8
     replace H := Option.bind_eq_some_iff.mp H
     obtain ⟨t155, A90, H⟩ := H
     (try dsimp only at H)
     have A9 := Aside0.mk A90
     clear A90
     have H' := Aside0.mk H
     clear H
     have hnb10 := NB153_154.out
     have hnc10 := NB154_153.out
     obtain ⟨hcz11_0, hcz11_1, hcz11_2, hcz11_3, hcz11_4, hfz11_0, hfz11_1, hfz11_2, hfz11_3, hfz11_4⟩ := bc5 BK153.out
     obtain ⟨hcz12_0, hcz12_1, hcz12_2, hcz12_3, hcz12_4, hfz12_0, hfz12_1, hfz12_2, hfz12_3, hfz12_4⟩ := bc5 BK154.out
     go_wp2_with (first | (go_at_call 32; (with_reducible refine (spec_l13SameBook.calls k _ _ l0_3 _ _ l0_4 _ _ l1_3 _ _ l1_4 t155 _ ?side1 ?side2 ?side3 ?side4 ?side5 ?side6 ?side7 ?side8 A9.out).mono ?_); (case side1 => exact csb (Kd.C_below HR0_3.out HB.out)); (case side2 => exact HC0_3.out); (case side3 => exact csb (Kd.C_below HR0_4.out HB.out)); (case side4 => exact HC0_4.out); (case side5 => exact csb (Kd.C_below HR1_3.out HB.out)); (case side6 => exact HC1_3.out); (case side7 => exact csb (Kd.C_below HR1_4.out HB.out)); (case side8 => exact HC1_4.out); rintro e w13 ⟨rfl, hb⟩; have n0_ := bkb BK153 hb; have n1_ := bkb BK154 hb; have n2_ := bst hb; clear BK153; clear BK154; clear HB; have BK153 := n0_; have BK154 := n1_; have HB := n2_; clear n0_ n1_ n2_; (try clear hb); (try clear hb2); (try clear hk); (try clear hi)))
     go_meet
     case rel => exact ⟨_, (!t155), (by first | rfl | (simp; done) | (simp [*]; done)), H', ⟨by first | omega | exact Nat.le_refl _⟩, ⟨by (with_reducible repeat (first | apply blk_drewN | apply blk_drew | apply blk_alloc)); exact BK153.out⟩, ⟨by (with_reducible repeat (first | apply blk_drewN | apply blk_drew | apply blk_alloc)); exact BK154.out⟩, ⟨hbm⟩⟩
    ·
     rw [if_neg c8] at H
     have c8b0 : ((l0_2.length : Int) == (l1_2.length : Int)) = false := beq_eq_false_iff_ne.mpr c8
     have c8b1 : ((l0_2.length : Int) != (l1_2.length : Int)) = true := bne_iff_ne.mpr c8
     have c8b2 : (l0_2.length == l1_2.length) = false := by first | simpa using c8 | (simp at c8 ⊢; omega)
     have H' := Aside0.mk H
     clear H
     have hnb14 := NB153_154.out
     have hnc14 := NB154_153.out
     obtain ⟨hcz15_0, hcz15_1, hcz15_2, hcz15_3, hcz15_4, hfz15_0, hfz15_1, hfz15_2, hfz15_3, hfz15_4⟩ := bc5 BK153.out
     obtain ⟨hcz16_0, hcz16_1, hcz16_2, hcz16_3, hcz16_4, hfz16_0, hfz16_1, hfz16_2, hfz16_3, hfz16_4⟩ := bc5 BK154.out
     go_wp2
     go_meet
     case rel => exact ⟨_, (true), (by first | rfl | (simp; done) | (simp [*]; done)), H', ⟨by first | omega | exact Nat.le_refl _⟩, ⟨by (with_reducible repeat (first | apply blk_drewN | apply blk_drew | apply blk_alloc)); exact BK153.out⟩, ⟨by (with_reducible repeat (first | apply blk_drewN | apply blk_drew | apply blk_alloc)); exact BK154.out⟩, ⟨hbm⟩⟩
   ·
    rw [if_neg c7] at H
    have c7b0 : ((l0_1.length : Int) == (l1_1.length : Int)) = false := beq_eq_false_iff_ne.mpr c7
    have c7b1 : ((l0_1.length : Int) != (l1_1.length : Int)) = true := bne_iff_ne.mpr c7
    have c7b2 : (l0_1.length == l1_1.length) = false := by first | simpa using c7 | (simp at c7 ⊢; omega)
    have H' := Aside0.mk H
    clear H
    have hnb17 := NB153_154.out
    have hnc17 := NB154_153.out
    obtain ⟨hcz18_0, hcz18_1, hcz18_2, hcz18_3, hcz18_4, hfz18_0, hfz18_1, hfz18_2, hfz18_3, hfz18_4⟩ := bc5 BK153.out
    obtain ⟨hcz19_0, hcz19_1, hcz19_2, hcz19_3, hcz19_4, hfz19_0, hfz19_1, hfz19_2, hfz19_3, hfz19_4⟩ := bc5 BK154.out
    go_wp2
    go_meet
    case rel => exact ⟨_, (true), (by first | rfl | (simp; done) | (simp [*]; done)), H', ⟨by first | omega | exact Nat.le_refl _⟩, ⟨by (with_reducible repeat (first | apply blk_drewN | apply blk_drew | apply blk_alloc)); exact BK153.out⟩, ⟨by (with_reducible repeat (first | apply blk_drewN | apply blk_drew | apply blk_alloc)); exact BK154.out⟩, ⟨hbm⟩⟩
  ·
   rw [if_neg c6] at H
   have c6b0 : (a0_0 == a1_0) = false := beq_eq_false_iff_ne.mpr c6
   have c6b1 : (a0_0 != a1_0) = true := bne_iff_ne.mpr c6
   (first | rw [c6b0] | (simp only [i64_w, i32_w]; rw [c6b0]) | skip)
   have H' := Aside0.mk H
   clear H
   have hnb20 := NB153_154.out
   have hnc20 := NB154_153.out
   obtain ⟨hcz21_0, hcz21_1, hcz21_2, hcz21_3, hcz21_4, hfz21_0, hfz21_1, hfz21_2, hfz21_3, hfz21_4⟩ := bc5 BK153.out
   obtain ⟨hcz22_0, hcz22_1, hcz22_2, hcz22_3, hcz22_4, hfz22_0, hfz22_1, hfz22_2, hfz22_3, hfz22_4⟩ := bc5 BK154.out
   go_wp2
   go_meet
   case rel => exact ⟨_, (true), (by first | rfl | (simp; done) | (simp [*]; done)), H', ⟨by first | omega | exact Nat.le_refl _⟩, ⟨by (with_reducible repeat (first | apply blk_drewN | apply blk_drew | apply blk_alloc)); exact BK153.out⟩, ⟨by (with_reducible repeat (first | apply blk_drewN | apply blk_drew | apply blk_alloc)); exact BK154.out⟩, ⟨hbm⟩⟩
 case rest =>
  clear HC3
  try clear c1; try clear c2; try clear p2; try clear c6; try clear c6b0; try clear c6b1; try clear c7; try clear c7b0; try clear c7b1; try clear c7b2; try clear c8; try clear c8b0; try clear c8b1; try clear c8b2; try clear c10; try clear c12; try clear c14; try clear c17; try clear c20; try clear hcz11_0 hcz11_1 hcz11_2 hcz11_3 hcz11_4 hfz11_0 hfz11_1 hfz11_2 hfz11_3 hfz11_4; try clear hcz12_0 hcz12_1 hcz12_2 hcz12_3 hcz12_4 hfz12_0 hfz12_1 hfz12_2 hfz12_3 hfz12_4; try clear hcz15_0 hcz15_1 hcz15_2 hcz15_3 hcz15_4 hfz15_0 hfz15_1 hfz15_2 hfz15_3 hfz15_4; try clear hcz16_0 hcz16_1 hcz16_2 hcz16_3 hcz16_4 hfz16_0 hfz16_1 hfz16_2 hfz16_3 hfz16_4; try clear hcz18_0 hcz18_1 hcz18_2 hcz18_3 hcz18_4 hfz18_0 hfz18_1 hfz18_2 hfz18_3 hfz18_4; try clear hcz19_0 hcz19_1 hcz19_2 hcz19_3 hcz19_4 hfz19_0 hfz19_1 hfz19_2 hfz19_3 hfz19_4; try clear hcz21_0 hcz21_1 hcz21_2 hcz21_3 hcz21_4 hfz21_0 hfz21_1 hfz21_2 hfz21_3 hfz21_4; try clear hcz22_0 hcz22_1 hcz22_2 hcz22_3 hcz22_4 hfz22_0 hfz22_1 hfz22_2 hfz22_3 hfz22_4
  obtain ⟨kq, x39_2, rfl, HA, HJ2, BK153, BK154, HB⟩ := hcut
  cases kq with
  | zero => exact absurd HA.out (by simp [spec_EngineSame.j0])
  | succ kj2 =>
   have H := HA.out
   clear HA
   simp only [spec_EngineSame.j0] at H
   by_cases c23 : x39_2 = true
   ·
    subst c23
    have H1 : (some false) = some r := by rw [if_pos rfl] at H; exact H
    clear H
    have H := H1
    clear H1
    obtain rfl := Option.some.inj H
    go_wp2
    go_ret
    exact ⟨rfm, hbm⟩
   ·
    replace c23 := Bool.eq_false_iff.mpr c23
    subst c23
    have H1 : (spec_EngineSame.l0 kj2 0 a0_0 l0_1 l0_2 l0_3 l0_4 a1_0 l1_1 l1_2 l1_3 l1_4) = some r := by rw [if_neg (show ¬ (false = true) by decide)] at H; exact H
    clear H
    have H := H1
    clear H1
    have H' := Aside0.mk H
    clear H
    go_wp2
    go_loopg [5] kj2 (fun kq v5 w' => ∃ (x5_2 : Int), v5 = .int .i64 x5_2 ∧ Aside0 (spec_EngineSame.l0 kq x5_2 a0_0 l0_1 l0_2 l0_3 l0_4 a1_0 l1_1 l1_2 l1_3 l1_4 = some r) ∧ Aside0 (kq ≤ kj2) ∧ Aside0 (w'.heap[gb153]? = some (.cells #[.int .i64 a0_0, (.slice A0_1 l0_1.length c0_1), (.slice A0_2 l0_2.length c0_2), (.slice A0_3 l0_3.length c0_3), (.slice A0_4 l0_4.length c0_4)] 47 (0, 0))) ∧ Aside0 (w'.heap[gb154]? = some (.cells #[.int .i64 a1_0, (.slice A1_1 l1_1.length c1_1), (.slice A1_2 l1_2.length c1_2), (.slice A1_3 l1_3.length c1_3), (.slice A1_4 l1_4.length c1_4)] 47 (0, 0))) ∧ Aside0 (Below w.heap.size w w'))
    case atStart => exact ⟨(0), (by first | rfl | (simp; done) | (simp [*]; done)), H', ⟨Nat.le_refl _⟩, ⟨by (with_reducible repeat (first | apply blk_drewN | apply blk_drew | apply blk_alloc)); exact BK153.out⟩, ⟨by (with_reducible repeat (first | apply blk_drewN | apply blk_drew | apply blk_alloc)); exact BK154.out⟩, ⟨hbm⟩⟩
    case round =>
     clear H'
     try clear c1; try clear c2; try clear p2 p2; try clear c6; try clear c6b0; try clear c6b1; try clear c7; try clear c7b0; try clear c7b1; try clear c7b2; try clear c8; try clear c8b0; try clear c8b1; try clear c8b2; try clear c10; try clear c12; try clear c14; try clear c17; try clear c20; try clear c23; try clear hcz11_0 hcz11_1 hcz11_2 hcz11_3 hcz11_4 hfz11_0 hfz11_1 hfz11_2 hfz11_3 hfz11_4; try clear hcz12_0 hcz12_1 hcz12_2 hcz12_3 hcz12_4 hfz12_0 hfz12_1 hfz12_2 hfz12_3 hfz12_4; try clear hcz15_0 hcz15_1 hcz15_2 hcz15_3 hcz15_4 hfz15_0 hfz15_1 hfz15_2 hfz15_3 hfz15_4; try clear hcz16_0 hcz16_1 hcz16_2 hcz16_3 hcz16_4 hfz16_0 hfz16_1 hfz16_2 hfz16_3 hfz16_4; try clear hcz18_0 hcz18_1 hcz18_2 hcz18_3 hcz18_4 hfz18_0 hfz18_1 hfz18_2 hfz18_3 hfz18_4; try clear hcz19_0 hcz19_1 hcz19_2 hcz19_3 hcz19_4 hfz19_0 hfz19_1 hfz19_2 hfz19_3 hfz19_4; try clear hcz21_0 hcz21_1 hcz21_2 hcz21_3 hcz21_4 hfz21_0 hfz21_1 hfz21_2 hfz21_3 hfz21_4; try clear hcz22_0 hcz22_1 hcz22_2 hcz22_3 hcz22_4 hfz22_0 hfz22_1 hfz22_2 hfz22_3 hfz22_4
     obtain ⟨x5_2, rfl, HA, HK2, BK153, BK154, HB⟩ := hrel
     cases gk with
     | zero => exact absurd HA.out (by simp [spec_EngineSame.l0])
     | succ k2 =>
      have H := HA.out
      clear HA
      simp only [spec_EngineSame.l0] at H
      by_cases c24 : x5_2 < (l0_1.length : Int)
      ·
       rw [if_pos c24] at H
       have c24b0 := decide_eq_true c24
       clear c24
       by_cases c25 : 0 ≤ x5_2
       ·
        rw [if_pos c25] at H
        have c25b0 := decide_eq_true c25
        clear c25
        by_cases c26 : x5_2 < (l1_1.length : Int)
        ·
         rw [if_pos c26] at H
         have c26b0 := decide_eq_true c26
         clear c26
         replace H := Option.bind_eq_some_iff.mp H
         obtain ⟨t158, A270, H⟩ := H
         (try dsimp only at H)
         have A27 := Aside0.mk A270
         clear A270
         by_cases c28 : t158 = true
         ·
          subst c28
          have H1 : (spec_EngineSame.l0 k2 (wrap64 (x5_2 + 1)) a0_0 l0_1 l0_2 l0_3 l0_4 a1_0 l1_1 l1_2 l1_3 l1_4) = some r := by rw [if_pos rfl] at H; exact H
          clear H
          have H := H1
          clear H1
          have H' := Aside0.mk H
          clear H
          have hnb29 := NB153_154.out
          have hnc29 := NB154_153.out
          obtain ⟨hcz30_0, hcz30_1, hcz30_2, hcz30_3, hcz30_4, hfz30_0, hfz30_1, hfz30_2, hfz30_3, hfz30_4⟩ := bc5 BK153.out
          try go_wp2
          have n0_ := Aside0.mk (blk_drew BK153.out)
          have n1_ := Aside0.mk (blk_drew BK154.out)
          have n2_ := Aside0.mk (below_drew1 HB.out)
          clear BK153
          clear BK154
          clear HB
          have BK153 := n0_
          have BK154 := n1_
          have HB := n2_
          clear n0_ n1_ n2_
          have p156 : 0 ≤ (x5_2 : Int) := of_decide_eq_true asm_
          have q156 : x5_2 < (l0_1.length : Int) := of_decide_eq_true asm_
          obtain ⟨ad156, A156_2, c156_2, A156_3, c156_3, A156_4, c156_4, A156_5, c156_5, A156_6, c156_6, A156_7, c156_7, e156, hx156_0, hx156_1, hx156_2, hx156_3, hx156_4, hx156_5, hx156_6, hx156_7, hl156_2, hi156_2, hl156_3, hi156_3, hl156_4, hi156_4, hl156_5, hi156_5, hl156_6, hi156_6, hl156_7, hi156_7⟩ := at_T79 HR0_1.out x5_2 p156 q156
          have hw156_7 := hx156_7
          have hw156_6 := hx156_6
          have hw156_5 := hx156_5
          have hw156_4 := hx156_4
          have hw156_3 := hx156_3
          have hw156_2 := hx156_2
          have hw156_1 := hx156_1
          have hw156_0 := hx156_0
          cases e156
          replace hx156_0 := hcl HB hx156_0
          replace hx156_1 := hcl HB hx156_1
          replace hx156_2 := hcl HB hx156_2
          replace hx156_3 := hcl HB hx156_3
          replace hx156_4 := hcl HB hx156_4
          replace hx156_5 := hcl HB hx156_5
          replace hx156_6 := hcl HB hx156_6
          replace hx156_7 := hcl HB hx156_7
          have HR156_2 := Aside0.mk hi156_2
          have HC156_2 := Aside0.mk hl156_2
          clear hi156_2 hl156_2
          have HR156_3 := Aside0.mk hi156_3
          have HC156_3 := Aside0.mk hl156_3
          clear hi156_3 hl156_3
          have HR156_4 := Aside0.mk hi156_4
          have HC156_4 := Aside0.mk hl156_4
          clear hi156_4 hl156_4
          have HR156_5 := Aside0.mk hi156_5
          have HC156_5 := Aside0.mk hl156_5
          clear hi156_5 hl156_5
          have HR156_6 := Aside0.mk hi156_6
          have HC156_6 := Aside0.mk hl156_6
          clear hi156_6 hl156_6
          have HR156_7 := Aside0.mk hi156_7
          have HC156_7 := Aside0.mk hl156_7
          clear hi156_7 hl156_7
          replace p156 := eq_true p156
          replace q156 := eq_true q156
          have p157 : 0 ≤ (x5_2 : Int) := of_decide_eq_true asm_
          have q157 : x5_2 < (l1_1.length : Int) := of_decide_eq_true asm_
          obtain ⟨ad157, A157_2, c157_2, A157_3, c157_3, A157_4, c157_4, A157_5, c157_5, A157_6, c157_6, A157_7, c157_7, e157, hx157_0, hx157_1, hx157_2, hx157_3, hx157_4, hx157_5, hx157_6, hx157_7, hl157_2, hi157_2, hl157_3, hi157_3, hl157_4, hi157_4, hl157_5, hi157_5, hl157_6, hi157_6, hl157_7, hi157_7⟩ := at_T79 HR1_1.out x5_2 p157 q157
          have hw157_7 := hx157_7
          have hw157_6 := hx157_6
          have hw157_5 := hx157_5
          have hw157_4 := hx157_4
          have hw157_3 := hx157_3
          have hw157_2 := hx157_2
          have hw157_1 := hx157_1
          have hw157_0 := hx157_0
          cases e157
          replace hx157_0 := hcl HB hx157_0
          replace hx157_1 := hcl HB hx157_1
          replace hx157_2 := hcl HB hx157_2
          replace hx157_3 := hcl HB hx157_3
          replace hx157_4 := hcl HB hx157_4
          replace hx157_5 := hcl HB hx157_5
          replace hx157_6 := hcl HB hx157_6
          replace hx157_7 := hcl HB hx157_7
          have HR157_2 := Aside0.mk hi157_2
          have HC157_2 := Aside0.mk hl157_2
          clear hi157_2 hl157_2
          have HR157_3 := Aside0.mk hi157_3
          have HC157_3 := Aside0.mk hl157_3
          clear hi157_3 hl157_3
          have HR157_4 := Aside0.mk hi157_4
          have HC157_4 := Aside0.mk hl157_4
          clear hi157_4 hl157_4
          have HR157_5 := Aside0.mk hi157_5
          have HC157_5 := Aside0.mk hl157_5
          clear hi157_5 hl157_5
          have HR157_6 := Aside0.mk hi157_6
          have HC157_6 := Aside0.mk hl157_6
          clear hi157_6 hl157_6
          have HR157_7 := Aside0.mk hi157_7
          have HC157_7 := Aside0.mk hl157_7
          clear hi157_7 hl157_7
          replace p157 := eq_true p157
          replace q157 := eq_true q157
          refine start_ (n := 12) (S := fun w' => w'.cell? ⟨gb153, 0, none⟩ = some (.int .i64 a0_0) ∧ w'.cell? ⟨gb153, 1, none⟩ = some (.slice (some ad156) l0_1.length c0_1) ∧ w'.cell? ⟨gb153, 2, none⟩ = some (.slice A0_2 l0_2.length c0_2) ∧ w'.cell? ⟨gb153, 3, none⟩ = some (.slice A0_3 l0_3.length c0_3) ∧ w'.cell? ⟨gb153, 4, none⟩ = some (.slice A0_4 l0_4.length c0_4) ∧ w'.cell? ⟨gb154, 0, none⟩ = some (.int .i64 a1_0) ∧ w'.cell? ⟨gb154, 1, none⟩ = some (.slice (some ad157) l1_1.length c1_1) ∧ w'.cell? ⟨gb154, 2, none⟩ = some (.slice A1_2 l1_2.length c1_2) ∧ w'.cell? ⟨gb154, 3, none⟩ = some (.slice A1_3 l1_3.length c1_3) ∧ w'.cell? ⟨gb154, 4, none⟩ = some (.slice A1_4 l1_4.length c1_4) ∧ w'.cell? (ad156.add ((x5_2).toNat * 8)) = some (.string ((rd_T79 l0_1 x5_2).f0)) ∧ w'.cell? ⟨(ad156.add ((x5_2).toNat * 8)).block, (ad156.add ((x5_2).toNat * 8)).off + 1, none⟩ = some (.int .i64 ((rd_T79 l0_1 x5_2).f1)) ∧ w'.cell? ⟨(ad156.add ((x5_2).toNat * 8)).block, (ad156.add ((x5_2).toNat * 8)).off + 2, none⟩ = some (.slice A156_2 ((rd_T79 l0_1 x5_2).f2).length c156_2) ∧ w'.cell? ⟨(ad156.add ((x5_2).toNat * 8)).block, (ad156.add ((x5_2).toNat * 8)).off + 3, none⟩ = some (.slice A156_3 ((rd_T79 l0_1 x5_2).f3).length c156_3) ∧ w'.cell? ⟨(ad156.add ((x5_2).toNat * 8)).block, (ad156.add ((x5_2).toNat * 8)).off + 4, none⟩ = some (.slice A156_4 ((rd_T79 l0_1 x5_2).f4).length c156_4) ∧ w'.cell? ⟨(ad156.add ((x5_2).toNat * 8)).block, (ad156.add ((x5_2).toNat * 8)).off + 5, none⟩ = some (.slice A156_5 ((rd_T79 l0_1 x5_2).f5).length c156_5) ∧ w'.cell? ⟨(ad156.add ((x5_2).toNat * 8)).block, (ad156.add ((x5_2).toNat * 8)).off + 6, none⟩ = some (.slice A156_6 ((rd_T79 l0_1 x5_2).f6).length c156_6) ∧ w'.cell? ⟨(ad156.add ((x5_2).toNat * 8)).block, (ad156.add ((x5_2).toNat * 8)).off + 7, none⟩ = some (.slice A156_7 ((rd_T79 l0_1 x5_2).f7).length c156_7) ∧ w'.cell? (ad157.add ((x5_2).toNat * 8)) = some (.string ((rd_T79 l1_1 x5_2).f0)) ∧ w'.cell? ⟨(ad157.add ((x5_2).toNat * 8)).block, (ad157.add ((x5_2).toNat * 8)).off + 1, none⟩ = some (.int .i64 ((rd_T79 l1_1 x5_2).f1)) ∧ w'.cell? ⟨(ad157.add ((x5_2).toNat * 8)).block, (ad157.add ((x5_2).toNat * 8)).off + 2, none⟩ = some (.slice A157_2 ((rd_T79 l1_1 x5_2).f2).length c157_2) ∧ w'.cell? ⟨(ad157.add ((x5_2).toNat * 8)).block, (ad157.add ((x5_2).toNat * 8)).off + 3, none⟩ = some (.slice A157_3 ((rd_T79 l1_1 x5_2).f3).length c157_3) ∧ w'.cell? ⟨(ad157.add ((x5_2).toNat * 8)).block, (ad157.add ((x5_2).toNat * 8)).off + 4, none⟩ = some (.slice A157_4 ((rd_T79 l1_1 x5_2).f4).length c157_4) ∧ w'.cell? ⟨(ad157.add ((x5_2).toNat * 8)).block, (ad157.add ((x5_2).toNat * 8)).off + 5, none⟩ = some (.slice A157_5 ((rd_T79 l1_1 x5_2).f5).length c157_5) ∧ w'.cell? ⟨(ad157.add ((x5_2).toNat * 8)).block, (ad157.add ((x5_2).toNat * 8)).off + 6, none⟩ = some (.slice A157_6 ((rd_T79 l1_1 x5_2).f6).length c157_6) ∧ w'.cell? ⟨(ad157.add ((x5_2).toNat * 8)).block, (ad157.add ((x5_2).toNat * 8)).off + 7, none⟩ = some (.slice A157_7 ((rd_T79 l1_1 x5_2).f7).length c157_7)) (ds := []) #[false, false, false, false, false, false, false, false, false, false, false, false] (by kernel_rfl) rfl rfl ⟨(blk_cell BK153.out 0).trans rfl, (blk_cell BK153.out 1).trans rfl, (blk_cell BK153.out 2).trans rfl, (blk_cell BK153.out 3).trans rfl, (blk_cell BK153.out 4).trans rfl, (blk_cell BK154.out 0).trans rfl, (blk_cell BK154.out 1).trans rfl, (blk_cell BK154.out 2).trans rfl, (blk_cell BK154.out 3).trans rfl, (blk_cell BK154.out 4).trans rfl, ((HB.out.cell (World.block_lt_of_cell? _ _ hw156_0)).trans hw156_0), ((HB.out.cell (World.block_lt_of_cell? _ _ hw156_1)).trans hw156_1), ((HB.out.cell (World.block_lt_of_cell? _ _ hw156_2)).trans hw156_2), ((HB.out.cell (World.block_lt_of_cell? _ _ hw156_3)).trans hw156_3), ((HB.out.cell (World.block_lt_of_cell? _ _ hw156_4)).trans hw156_4), ((HB.out.cell (World.block_lt_of_cell? _ _ hw156_5)).trans hw156_5), ((HB.out.cell (World.block_lt_of_cell? _ _ hw156_6)).trans hw156_6), ((HB.out.cell (World.block_lt_of_cell? _ _ hw156_7)).trans hw156_7), ((HB.out.cell (World.block_lt_of_cell? _ _ hw157_0)).trans hw157_0), ((HB.out.cell (World.block_lt_of_cell? _ _ hw157_1)).trans hw157_1), ((HB.out.cell (World.block_lt_of_cell? _ _ hw157_2)).trans hw157_2), ((HB.out.cell (World.block_lt_of_cell? _ _ hw157_3)).trans hw157_3), ((HB.out.cell (World.block_lt_of_cell? _ _ hw157_4)).trans hw157_4), ((HB.out.cell (World.block_lt_of_cell? _ _ hw157_5)).trans hw157_5), ((HB.out.cell (World.block_lt_of_cell? _ _ hw157_6)).trans hw157_6), ((HB.out.cell (World.block_lt_of_cell? _ _ hw157_7)).trans hw157_7)⟩ (fun hHeld => ?_); refine with_tabW spec_EngineSame.tab6 spec_EngineSame.bits6 (fun HT_ HW_ => ?_)
          generalize wr.drew = w31 at BK153 BK154 HB HR156_2 HR156_3 HR156_4 HR156_5 HR156_6 HR156_7 HR157_2 HR157_3 HR157_4 HR157_5 HR157_6 HR157_7 hx156_0 hx156_1 hx156_2 hx156_3 hx156_4 hx156_5 hx156_6 hx156_7 hx157_0 hx157_1 hx157_2 hx157_3 hx157_4 hx157_5 hx157_6 hx157_7 hHeld ⊢
          refine pur (i := 0) (N := some 47) #[true, false, false, false, false, false, false, false, false, false, false, false] (any_of HT_.out (by kernel_rfl)) ?_
          refine pur (i := 2) (N := some 49) #[true, false, true, false, false, false, false, false, false, false, false, false] (any_of HT_.out (by kernel_rfl)) ?_
          refine pur (i := 5) (N := some 52) #[true, false, true, false, false, true, false, false, false, false, false, false] (any_of HT_.out (by kernel_rfl)) ?_
          refine pur (i := 7) (N := some 54) #[true, false, true, false, false, true, false, true, false, false, false, false] (any_of HT_.out (by kernel_rfl)) ?_
          refine tak26 (i := 1) (N := some 48) #[true, true, true, false, false, true, false, true, false, false, false, false] (take_ofW HT_.out HW_.out (by kernel_rfl)) hHeld ?_
          refine pur (i := 3) (N := some 50) #[true, true, true, true, false, true, false, true, false, false, false, false] (any_of HT_.out (by kernel_rfl)) ?_
          refine tak26 (i := 4) (N := some 51) #[true, true, true, true, true, true, false, true, false, false, false, false] (take_ofW HT_.out HW_.out (by kernel_rfl)) hHeld ?_
          refine tak26 (i := 6) (N := some 53) #[true, true, true, true, true, true, true, true, false, false, false, false] (take_ofW HT_.out HW_.out (by kernel_rfl)) hHeld ?_
          refine pur (i := 8) (N := some 55) #[true, true, true, true, true, true, true, true, true, false, false, false] (any_of HT_.out (by kernel_rfl)) ?_
          refine tak26 (i := 9) (N := some 56) #[true, true, true, true, true, true, true, true, true, true, false, false] (take_ofW HT_.out HW_.out (by kernel_rfl)) hHeld ?_
          refine one_ (i := 10) (N := some 57) #[true, true, true, true, true, true, true, true, true, true, true, false] rfl rfl (one_of HT_.out (by kernel_rfl)) (by decide) (fun K hK => ?_)
          refine goes_ Try.func33 (by kernel_rfl) rfl #[.agg #[.string ((rd_T79 l0_1 x5_2).f0), .int .i64 ((rd_T79 l0_1 x5_2).f1), .slice A156_2 ((rd_T79 l0_1 x5_2).f2).length c156_2, .slice A156_3 ((rd_T79 l0_1 x5_2).f3).length c156_3, .slice A156_4 ((rd_T79 l0_1 x5_2).f4).length c156_4, .slice A156_5 ((rd_T79 l0_1 x5_2).f5).length c156_5, .slice A156_6 ((rd_T79 l0_1 x5_2).f6).length c156_6, .slice A156_7 ((rd_T79 l0_1 x5_2).f7).length c156_7], .agg #[.string ((rd_T79 l1_1 x5_2).f0), .int .i64 ((rd_T79 l1_1 x5_2).f1), .slice A157_2 ((rd_T79 l1_1 x5_2).f2).length c157_2, .slice A157_3 ((rd_T79 l1_1 x5_2).f3).length c157_3, .slice A157_4 ((rd_T79 l1_1 x5_2).f4).length c157_4, .slice A157_5 ((rd_T79 l1_1 x5_2).f5).length c157_5, .slice A157_6 ((rd_T79 l1_1 x5_2).f6).length c157_6, .slice A157_7 ((rd_T79 l1_1 x5_2).f7).length c157_7]] (by rfl) rfl rfl glm ?_
          with_reducible refine (spec_ProductSame.calls k2 ((rd_T79 l0_1 x5_2).f0) ((rd_T79 l0_1 x5_2).f1) _ _ ((rd_T79 l0_1 x5_2).f2) _ _ ((rd_T79 l0_1 x5_2).f3) _ _ ((rd_T79 l0_1 x5_2).f4) _ _ ((rd_T79 l0_1 x5_2).f5) _ _ ((rd_T79 l0_1 x5_2).f6) _ _ ((rd_T79 l0_1 x5_2).f7) ((rd_T79 l1_1 x5_2).f0) ((rd_T79 l1_1 x5_2).f1) _ _ ((rd_T79 l1_1 x5_2).f2) _ _ ((rd_T79 l1_1 x5_2).f3) _ _ ((rd_T79 l1_1 x5_2).f4) _ _ ((rd_T79 l1_1 x5_2).f5) _ _ ((rd_T79 l1_1 x5_2).f6) _ _ ((rd_T79 l1_1 x5_2).f7) true _ ?side1 ?side2 ?side3 ?side4 ?side5 ?side6 ?side7 ?side8 ?side9 ?side10 ?side11 ?side12 ?side13 ?side14 ?side15 ?side16 ?side17 ?side18 ?side19 ?side20 ?side21 ?side22 ?side23 ?side24 A27.out).mono ?_
          (case side1 => exact csb (Kd.C_below HR156_2.out HB.out))
          (case side2 => exact HC156_2.out)
          (case side3 => exact csb (Kd.C_below HR156_3.out HB.out))
          (case side4 => exact HC156_3.out)
          (case side5 => exact csb (Kd.C_below HR156_4.out HB.out))
          (case side6 => exact HC156_4.out)
          (case side7 => exact csb (Kd.C_below HR156_5.out HB.out))
          (case side8 => exact HC156_5.out)
          (case side9 => exact csb (Kd.C_below HR156_6.out HB.out))
          (case side10 => exact HC156_6.out)
          (case side11 => exact csb (Kd.C_below HR156_7.out HB.out))
          (case side12 => exact HC156_7.out)
          (case side13 => exact csb (Kd.C_below HR157_2.out HB.out))
          (case side14 => exact HC157_2.out)
          (case side15 => exact csb (Kd.C_below HR157_3.out HB.out))
          (case side16 => exact HC157_3.out)
          (case side17 => exact csb (Kd.C_below HR157_4.out HB.out))
          (case side18 => exact HC157_4.out)
          (case side19 => exact csb (Kd.C_below HR157_5.out HB.out))
          (case side20 => exact HC157_5.out)
          (case side21 => exact csb (Kd.C_below HR157_6.out HB.out))
          (case side22 => exact HC157_6.out)
          (case side23 => exact csb (Kd.C_below HR157_7.out HB.out))
          (case side24 => exact HC157_7.out)
          rintro e w32 ⟨rfl, hb⟩
          refine ⟨_, rfl, ?_⟩
          have n0_ := bkb BK153 hb
          have n1_ := bkb BK154 hb
          have n2_ := bst hb
          clear BK153
          clear BK154
          clear HB
          have BK153 := n0_
          have BK154 := n1_
          have HB := n2_
          clear n0_ n1_ n2_
          (try clear hb)
          (try clear hb2)
          (try clear hk)
          (try clear hi)
          refine hK.out _ _ ⟨(blk_cell BK153.out 0).trans rfl, (blk_cell BK153.out 1).trans rfl, (blk_cell BK153.out 2).trans rfl, (blk_cell BK153.out 3).trans rfl, (blk_cell BK153.out 4).trans rfl, (blk_cell BK154.out 0).trans rfl, (blk_cell BK154.out 1).trans rfl, (blk_cell BK154.out 2).trans rfl, (blk_cell BK154.out 3).trans rfl, (blk_cell BK154.out 4).trans rfl, ((HB.out.cell (World.block_lt_of_cell? _ _ hw156_0)).trans hw156_0), ((HB.out.cell (World.block_lt_of_cell? _ _ hw156_1)).trans hw156_1), ((HB.out.cell (World.block_lt_of_cell? _ _ hw156_2)).trans hw156_2), ((HB.out.cell (World.block_lt_of_cell? _ _ hw156_3)).trans hw156_3), ((HB.out.cell (World.block_lt_of_cell? _ _ hw156_4)).trans hw156_4), ((HB.out.cell (World.block_lt_of_cell? _ _ hw156_5)).trans hw156_5), ((HB.out.cell (World.block_lt_of_cell? _ _ hw156_6)).trans hw156_6), ((HB.out.cell (World.block_lt_of_cell? _ _ hw156_7)).trans hw156_7), ((HB.out.cell (World.block_lt_of_cell? _ _ hw157_0)).trans hw157_0), ((HB.out.cell (World.block_lt_of_cell? _ _ hw157_1)).trans hw157_1), ((HB.out.cell (World.block_lt_of_cell? _ _ hw157_2)).trans hw157_2), ((HB.out.cell (World.block_lt_of_cell? _ _ hw157_3)).trans hw157_3), ((HB.out.cell (World.block_lt_of_cell? _ _ hw157_4)).trans hw157_4), ((HB.out.cell (World.block_lt_of_cell? _ _ hw157_5)).trans hw157_5), ((HB.out.cell (World.block_lt_of_cell? _ _ hw157_6)).trans hw157_6), ((HB.out.cell (World.block_lt_of_cell? _ _ hw157_7)).trans hw157_7)⟩ (fun hHeld => ?_)
          clear hK K
          refine norm_ (a' := ?_) ?_ ?_
          rotate_left
          ·
           show Act.put _ (some 57) _ = _
           simp only [Act.put, List.setIfInBounds_toArray, List.set_cons_zero, List.set_cons_succ, i64_w, i32_w]
           rfl
          refine pur (i := 11) (N := some 58) #[true, true, true, true, true, true, true, true, true, true, true, true] (any_of HT_.out (by kernel_rfl)) ?_
          refine done_ (done_of HT_.out (by kernel_rfl)) ?_
          try go_wp2
          go_roundg k2
          case measure => have := HJ2.out; have := HK2.out; omega
          case rel => exact ⟨(wrap64 (x5_2 + 1)), (by first | rfl | (simp; done) | (simp [*]; done)), H', ⟨by have := HJ2.out; have := HK2.out; omega⟩, ⟨by (with_reducible repeat (first | apply blk_drewN | apply blk_drew | apply blk_alloc)); exact BK153.out⟩, ⟨by (with_reducible repeat (first | apply blk_drewN | apply blk_drew | apply blk_alloc)); exact BK154.out⟩, ⟨hbm⟩⟩
         ·
          replace c28 := Bool.eq_false_iff.mpr c28
          subst c28
          have H1 : (some false) = some r := by rw [if_neg (show ¬ (false = true) by decide)] at H; exact H
          clear H
          have H := H1
          clear H1
          obtain rfl := Option.some.inj H
          have hnb33 := NB153_154.out
          have hnc33 := NB154_153.out
          obtain ⟨hcz34_0, hcz34_1, hcz34_2, hcz34_3, hcz34_4, hfz34_0, hfz34_1, hfz34_2, hfz34_3, hfz34_4⟩ := bc5 BK153.out
          try go_wp2
          have n0_ := Aside0.mk (blk_drew BK153.out)
          have n1_ := Aside0.mk (blk_drew BK154.out)
          have n2_ := Aside0.mk (below_drew1 HB.out)
          clear BK153
          clear BK154
          clear HB
          have BK153 := n0_
          have BK154 := n1_
          have HB := n2_
          clear n0_ n1_ n2_
          have p156 : 0 ≤ (x5_2 : Int) := of_decide_eq_true asm_
          have q156 : x5_2 < (l0_1.length : Int) := of_decide_eq_true asm_
          obtain ⟨ad156, A156_2, c156_2, A156_3, c156_3, A156_4, c156_4, A156_5, c156_5, A156_6, c156_6, A156_7, c156_7, e156, hx156_0, hx156_1, hx156_2, hx156_3, hx156_4, hx156_5, hx156_6, hx156_7, hl156_2, hi156_2, hl156_3, hi156_3, hl156_4, hi156_4, hl156_5, hi156_5, hl156_6, hi156_6, hl156_7, hi156_7⟩ := at_T79 HR0_1.out x5_2 p156 q156
          have hw156_7 := hx156_7
          have hw156_6 := hx156_6
          have hw156_5 := hx156_5
          have hw156_4 := hx156_4
          have hw156_3 := hx156_3
          have hw156_2 := hx156_2
          have hw156_1 := hx156_1
          have hw156_0 := hx156_0
          cases e156
          replace hx156_0 := hcl HB hx156_0
          replace hx156_1 := hcl HB hx156_1
          replace hx156_2 := hcl HB hx156_2
          replace hx156_3 := hcl HB hx156_3
          replace hx156_4 := hcl HB hx156_4
          replace hx156_5 := hcl HB hx156_5
          replace hx156_6 := hcl HB hx156_6
          replace hx156_7 := hcl HB hx156_7
          have HR156_2 := Aside0.mk hi156_2
          have HC156_2 := Aside0.mk hl156_2
          clear hi156_2 hl156_2
          have HR156_3 := Aside0.mk hi156_3
          have HC156_3 := Aside0.mk hl156_3
          clear hi156_3 hl156_3
          have HR156_4 := Aside0.mk hi156_4
          have HC156_4 := Aside0.mk hl156_4
          clear hi156_4 hl156_4
          have HR156_5 := Aside0.mk hi156_5
          have HC156_5 := Aside0.mk hl156_5
          clear hi156_5 hl156_5
          have HR156_6 := Aside0.mk hi156_6
          have HC156_6 := Aside0.mk hl156_6
          clear hi156_6 hl156_6
          have HR156_7 := Aside0.mk hi156_7
          have HC156_7 := Aside0.mk hl156_7
          clear hi156_7 hl156_7
          replace p156 := eq_true p156
          replace q156 := eq_true q156
          have p157 : 0 ≤ (x5_2 : Int) := of_decide_eq_true asm_
          have q157 : x5_2 < (l1_1.length : Int) := of_decide_eq_true asm_
          obtain ⟨ad157, A157_2, c157_2, A157_3, c157_3, A157_4, c157_4, A157_5, c157_5, A157_6, c157_6, A157_7, c157_7, e157, hx157_0, hx157_1, hx157_2, hx157_3, hx157_4, hx157_5, hx157_6, hx157_7, hl157_2, hi157_2, hl157_3, hi157_3, hl157_4, hi157_4, hl157_5, hi157_5, hl157_6, hi157_6, hl157_7, hi157_7⟩ := at_T79 HR1_1.out x5_2 p157 q157
          have hw157_7 := hx157_7
          have hw157_6 := hx157_6
          have hw157_5 := hx157_5
          have hw157_4 := hx157_4
          have hw157_3 := hx157_3
          have hw157_2 := hx157_2
          have hw157_1 := hx157_1
          have hw157_0 := hx157_0
          cases e157
          replace hx157_0 := hcl HB hx157_0
          replace hx157_1 := hcl HB hx157_1
          replace hx157_2 := hcl HB hx157_2
          replace hx157_3 := hcl HB hx157_3
          replace hx157_4 := hcl HB hx157_4
          replace hx157_5 := hcl HB hx157_5
          replace hx157_6 := hcl HB hx157_6
          replace hx157_7 := hcl HB hx157_7
          have HR157_2 := Aside0.mk hi157_2
          have HC157_2 := Aside0.mk hl157_2
          clear hi157_2 hl157_2
          have HR157_3 := Aside0.mk hi157_3
          have HC157_3 := Aside0.mk hl157_3
          clear hi157_3 hl157_3
          have HR157_4 := Aside0.mk hi157_4
          have HC157_4 := Aside0.mk hl157_4
          clear hi157_4 hl157_4
          have HR157_5 := Aside0.mk hi157_5
          have HC157_5 := Aside0.mk hl157_5
          clear hi157_5 hl157_5
          have HR157_6 := Aside0.mk hi157_6
          have HC157_6 := Aside0.mk hl157_6
          clear hi157_6 hl157_6
          have HR157_7 := Aside0.mk hi157_7
          have HC157_7 := Aside0.mk hl157_7
          clear hi157_7 hl157_7
          replace p157 := eq_true p157
          replace q157 := eq_true q157
          refine start_ (n := 12) (S := fun w' => w'.cell? ⟨gb153, 0, none⟩ = some (.int .i64 a0_0) ∧ w'.cell? ⟨gb153, 1, none⟩ = some (.slice (some ad156) l0_1.length c0_1) ∧ w'.cell? ⟨gb153, 2, none⟩ = some (.slice A0_2 l0_2.length c0_2) ∧ w'.cell? ⟨gb153, 3, none⟩ = some (.slice A0_3 l0_3.length c0_3) ∧ w'.cell? ⟨gb153, 4, none⟩ = some (.slice A0_4 l0_4.length c0_4) ∧ w'.cell? ⟨gb154, 0, none⟩ = some (.int .i64 a1_0) ∧ w'.cell? ⟨gb154, 1, none⟩ = some (.slice (some ad157) l1_1.length c1_1) ∧ w'.cell? ⟨gb154, 2, none⟩ = some (.slice A1_2 l1_2.length c1_2) ∧ w'.cell? ⟨gb154, 3, none⟩ = some (.slice A1_3 l1_3.length c1_3) ∧ w'.cell? ⟨gb154, 4, none⟩ = some (.slice A1_4 l1_4.length c1_4) ∧ w'.cell? (ad156.add ((x5_2).toNat * 8)) = some (.string ((rd_T79 l0_1 x5_2).f0)) ∧ w'.cell? ⟨(ad156.add ((x5_2).toNat * 8)).block, (ad156.add ((x5_2).toNat * 8)).off + 1, none⟩ = some (.int .i64 ((rd_T79 l0_1 x5_2).f1)) ∧ w'.cell? ⟨(ad156.add ((x5_2).toNat * 8)).block, (ad156.add ((x5_2).toNat * 8)).off + 2, none⟩ = some (.slice A156_2 ((rd_T79 l0_1 x5_2).f2).length c156_2) ∧ w'.cell? ⟨(ad156.add ((x5_2).toNat * 8)).block, (ad156.add ((x5_2).toNat * 8)).off + 3, none⟩ = some (.slice A156_3 ((rd_T79 l0_1 x5_2).f3).length c156_3) ∧ w'.cell? ⟨(ad156.add ((x5_2).toNat * 8)).block, (ad156.add ((x5_2).toNat * 8)).off + 4, none⟩ = some (.slice A156_4 ((rd_T79 l0_1 x5_2).f4).length c156_4) ∧ w'.cell? ⟨(ad156.add ((x5_2).toNat * 8)).block, (ad156.add ((x5_2).toNat * 8)).off + 5, none⟩ = some (.slice A156_5 ((rd_T79 l0_1 x5_2).f5).length c156_5) ∧ w'.cell? ⟨(ad156.add ((x5_2).toNat * 8)).block, (ad156.add ((x5_2).toNat * 8)).off + 6, none⟩ = some (.slice A156_6 ((rd_T79 l0_1 x5_2).f6).length c156_6) ∧ w'.cell? ⟨(ad156.add ((x5_2).toNat * 8)).block, (ad156.add ((x5_2).toNat * 8)).off + 7, none⟩ = some (.slice A156_7 ((rd_T79 l0_1 x5_2).f7).length c156_7) ∧ w'.cell? (ad157.add ((x5_2).toNat * 8)) = some (.string ((rd_T79 l1_1 x5_2).f0)) ∧ w'.cell? ⟨(ad157.add ((x5_2).toNat * 8)).block, (ad157.add ((x5_2).toNat * 8)).off + 1, none⟩ = some (.int .i64 ((rd_T79 l1_1 x5_2).f1)) ∧ w'.cell? ⟨(ad157.add ((x5_2).toNat * 8)).block, (ad157.add ((x5_2).toNat * 8)).off + 2, none⟩ = some (.slice A157_2 ((rd_T79 l1_1 x5_2).f2).length c157_2) ∧ w'.cell? ⟨(ad157.add ((x5_2).toNat * 8)).block, (ad157.add ((x5_2).toNat * 8)).off + 3, none⟩ = some (.slice A157_3 ((rd_T79 l1_1 x5_2).f3).length c157_3) ∧ w'.cell? ⟨(ad157.add ((x5_2).toNat * 8)).block, (ad157.add ((x5_2).toNat * 8)).off + 4, none⟩ = some (.slice A157_4 ((rd_T79 l1_1 x5_2).f4).length c157_4) ∧ w'.cell? ⟨(ad157.add ((x5_2).toNat * 8)).block, (ad157.add ((x5_2).toNat * 8)).off + 5, none⟩ = some (.slice A157_5 ((rd_T79 l1_1 x5_2).f5).length c157_5) ∧ w'.cell? ⟨(ad157.add ((x5_2).toNat * 8)).block, (ad157.add ((x5_2).toNat * 8)).off + 6, none⟩ = some (.slice A157_6 ((rd_T79 l1_1 x5_2).f6).length c157_6) ∧ w'.cell? ⟨(ad157.add ((x5_2).toNat * 8)).block, (ad157.add ((x5_2).toNat * 8)).off + 7, none⟩ = some (.slice A157_7 ((rd_T79 l1_1 x5_2).f7).length c157_7)) (ds := []) #[false, false, false, false, false, false, false, false, false, false, false, false] (by kernel_rfl) rfl rfl ⟨(blk_cell BK153.out 0).trans rfl, (blk_cell BK153.out 1).trans rfl, (blk_cell BK153.out 2).trans rfl, (blk_cell BK153.out 3).trans rfl, (blk_cell BK153.out 4).trans rfl, (blk_cell BK154.out 0).trans rfl, (blk_cell BK154.out 1).trans rfl, (blk_cell BK154.out 2).trans rfl, (blk_cell BK154.out 3).trans rfl, (blk_cell BK154.out 4).trans rfl, ((HB.out.cell (World.block_lt_of_cell? _ _ hw156_0)).trans hw156_0), ((HB.out.cell (World.block_lt_of_cell? _ _ hw156_1)).trans hw156_1), ((HB.out.cell (World.block_lt_of_cell? _ _ hw156_2)).trans hw156_2), ((HB.out.cell (World.block_lt_of_cell? _ _ hw156_3)).trans hw156_3), ((HB.out.cell (World.block_lt_of_cell? _ _ hw156_4)).trans hw156_4), ((HB.out.cell (World.block_lt_of_cell? _ _ hw156_5)).trans hw156_5), ((HB.out.cell (World.block_lt_of_cell? _ _ hw156_6)).trans hw156_6), ((HB.out.cell (World.block_lt_of_cell? _ _ hw156_7)).trans hw156_7), ((HB.out.cell (World.block_lt_of_cell? _ _ hw157_0)).trans hw157_0), ((HB.out.cell (World.block_lt_of_cell? _ _ hw157_1)).trans hw157_1), ((HB.out.cell (World.block_lt_of_cell? _ _ hw157_2)).trans hw157_2), ((HB.out.cell (World.block_lt_of_cell? _ _ hw157_3)).trans hw157_3), ((HB.out.cell (World.block_lt_of_cell? _ _ hw157_4)).trans hw157_4), ((HB.out.cell (World.block_lt_of_cell? _ _ hw157_5)).trans hw157_5), ((HB.out.cell (World.block_lt_of_cell? _ _ hw157_6)).trans hw157_6), ((HB.out.cell (World.block_lt_of_cell? _ _ hw157_7)).trans hw157_7)⟩ (fun hHeld => ?_); refine with_tabW spec_EngineSame.tab6 spec_EngineSame.bits6 (fun HT_ HW_ => ?_)
          generalize wr.drew = w35 at BK153 BK154 HB HR156_2 HR156_3 HR156_4 HR156_5 HR156_6 HR156_7 HR157_2 HR157_3 HR157_4 HR157_5 HR157_6 HR157_7 hx156_0 hx156_1 hx156_2 hx156_3 hx156_4 hx156_5 hx156_6 hx156_7 hx157_0 hx157_1 hx157_2 hx157_3 hx157_4 hx157_5 hx157_6 hx157_7 hHeld ⊢
          refine pur (i := 0) (N := some 47) #[true, false, false, false, false, false, false, false, false, false, false, false] (any_of HT_.out (by kernel_rfl)) ?_
          refine pur (i := 2) (N := some 49) #[true, false, true, false, false, false, false, false, false, false, false, false] (any_of HT_.out (by kernel_rfl)) ?_
          refine pur (i := 5) (N := some 52) #[true, false, true, false, false, true, false, false, false, false, false, false] (any_of HT_.out (by kernel_rfl)) ?_
          refine pur (i := 7) (N := some 54) #[true, false, true, false, false, true, false, true, false, false, false, false] (any_of HT_.out (by kernel_rfl)) ?_
          refine tak26 (i := 1) (N := some 48) #[true, true, true, false, false, true, false, true, false, false, false, false] (take_ofW HT_.out HW_.out (by kernel_rfl)) hHeld ?_
          refine pur (i := 3) (N := some 50) #[true, true, true, true, false, true, false, true, false, false, false, false] (any_of HT_.out (by kernel_rfl)) ?_
          refine tak26 (i := 4) (N := some 51) #[true, true, true, true, true, true, false, true, false, false, false, false] (take_ofW HT_.out HW_.out (by kernel_rfl)) hHeld ?_
          refine tak26 (i := 6) (N := some 53) #[true, true, true, true, true, true, true, true, false, false, false, false] (take_ofW HT_.out HW_.out (by kernel_rfl)) hHeld ?_
          refine pur (i := 8) (N := some 55) #[true, true, true, true, true, true, true, true, true, false, false, false] (any_of HT_.out (by kernel_rfl)) ?_
          refine tak26 (i := 9) (N := some 56) #[true, true, true, true, true, true, true, true, true, true, false, false] (take_ofW HT_.out HW_.out (by kernel_rfl)) hHeld ?_
          refine one_ (i := 10) (N := some 57) #[true, true, true, true, true, true, true, true, true, true, true, false] rfl rfl (one_of HT_.out (by kernel_rfl)) (by decide) (fun K hK => ?_)
          refine goes_ Try.func33 (by kernel_rfl) rfl #[.agg #[.string ((rd_T79 l0_1 x5_2).f0), .int .i64 ((rd_T79 l0_1 x5_2).f1), .slice A156_2 ((rd_T79 l0_1 x5_2).f2).length c156_2, .slice A156_3 ((rd_T79 l0_1 x5_2).f3).length c156_3, .slice A156_4 ((rd_T79 l0_1 x5_2).f4).length c156_4, .slice A156_5 ((rd_T79 l0_1 x5_2).f5).length c156_5, .slice A156_6 ((rd_T79 l0_1 x5_2).f6).length c156_6, .slice A156_7 ((rd_T79 l0_1 x5_2).f7).length c156_7], .agg #[.string ((rd_T79 l1_1 x5_2).f0), .int .i64 ((rd_T79 l1_1 x5_2).f1), .slice A157_2 ((rd_T79 l1_1 x5_2).f2).length c157_2, .slice A157_3 ((rd_T79 l1_1 x5_2).f3).length c157_3, .slice A157_4 ((rd_T79 l1_1 x5_2).f4).length c157_4, .slice A157_5 ((rd_T79 l1_1 x5_2).f5).length c157_5, .slice A157_6 ((rd_T79 l1_1 x5_2).f6).length c157_6, .slice A157_7 ((rd_T79 l1_1 x5_2).f7).length c157_7]] (by rfl) rfl rfl glm ?_
          with_reducible refine (spec_ProductSame.calls k2 ((rd_T79 l0_1 x5_2).f0) ((rd_T79 l0_1 x5_2).f1) _ _ ((rd_T79 l0_1 x5_2).f2) _ _ ((rd_T79 l0_1 x5_2).f3) _ _ ((rd_T79 l0_1 x5_2).f4) _ _ ((rd_T79 l0_1 x5_2).f5) _ _ ((rd_T79 l0_1 x5_2).f6) _ _ ((rd_T79 l0_1 x5_2).f7) ((rd_T79 l1_1 x5_2).f0) ((rd_T79 l1_1 x5_2).f1) _ _ ((rd_T79 l1_1 x5_2).f2) _ _ ((rd_T79 l1_1 x5_2).f3) _ _ ((rd_T79 l1_1 x5_2).f4) _ _ ((rd_T79 l1_1 x5_2).f5) _ _ ((rd_T79 l1_1 x5_2).f6) _ _ ((rd_T79 l1_1 x5_2).f7) false _ ?side1 ?side2 ?side3 ?side4 ?side5 ?side6 ?side7 ?side8 ?side9 ?side10 ?side11 ?side12 ?side13 ?side14 ?side15 ?side16 ?side17 ?side18 ?side19 ?side20 ?side21 ?side22 ?side23 ?side24 A27.out).mono ?_
          (case side1 => exact csb (Kd.C_below HR156_2.out HB.out))
          (case side2 => exact HC156_2.out)
          (case side3 => exact csb (Kd.C_below HR156_3.out HB.out))
          (case side4 => exact HC156_3.out)
          (case side5 => exact csb (Kd.C_below HR156_4.out HB.out))
          (case side6 => exact HC156_4.out)
          (case side7 => exact csb (Kd.C_below HR156_5.out HB.out))
          (case side8 => exact HC156_5.out)
          (case side9 => exact csb (Kd.C_below HR156_6.out HB.out))
          (case side10 => exact HC156_6.out)
          (case side11 => exact csb (Kd.C_below HR156_7.out HB.out))
          (case side12 => exact HC156_7.out)
          (case side13 => exact csb (Kd.C_below HR157_2.out HB.out))
          (case side14 => exact HC157_2.out)
          (case side15 => exact csb (Kd.C_below HR157_3.out HB.out))
          (case side16 => exact HC157_3.out)
          (case side17 => exact csb (Kd.C_below HR157_4.out HB.out))
          (case side18 => exact HC157_4.out)
          (case side19 => exact csb (Kd.C_below HR157_5.out HB.out))
          (case side20 => exact HC157_5.out)
          (case side21 => exact csb (Kd.C_below HR157_6.out HB.out))
          (case side22 => exact HC157_6.out)
          (case side23 => exact csb (Kd.C_below HR157_7.out HB.out))
          (case side24 => exact HC157_7.out)
          rintro e w36 ⟨rfl, hb⟩
          refine ⟨_, rfl, ?_⟩
          have n0_ := bkb BK153 hb
          have n1_ := bkb BK154 hb
          have n2_ := bst hb
          clear BK153
          clear BK154
          clear HB
          have BK153 := n0_
          have BK154 := n1_
          have HB := n2_
          clear n0_ n1_ n2_
          (try clear hb)
          (try clear hb2)
          (try clear hk)
          (try clear hi)
          refine hK.out _ _ ⟨(blk_cell BK153.out 0).trans rfl, (blk_cell BK153.out 1).trans rfl, (blk_cell BK153.out 2).trans rfl, (blk_cell BK153.out 3).trans rfl, (blk_cell BK153.out 4).trans rfl, (blk_cell BK154.out 0).trans rfl, (blk_cell BK154.out 1).trans rfl, (blk_cell BK154.out 2).trans rfl, (blk_cell BK154.out 3).trans rfl, (blk_cell BK154.out 4).trans rfl, ((HB.out.cell (World.block_lt_of_cell? _ _ hw156_0)).trans hw156_0), ((HB.out.cell (World.block_lt_of_cell? _ _ hw156_1)).trans hw156_1), ((HB.out.cell (World.block_lt_of_cell? _ _ hw156_2)).trans hw156_2), ((HB.out.cell (World.block_lt_of_cell? _ _ hw156_3)).trans hw156_3), ((HB.out.cell (World.block_lt_of_cell? _ _ hw156_4)).trans hw156_4), ((HB.out.cell (World.block_lt_of_cell? _ _ hw156_5)).trans hw156_5), ((HB.out.cell (World.block_lt_of_cell? _ _ hw156_6)).trans hw156_6), ((HB.out.cell (World.block_lt_of_cell? _ _ hw156_7)).trans hw156_7), ((HB.out.cell (World.block_lt_of_cell? _ _ hw157_0)).trans hw157_0), ((HB.out.cell (World.block_lt_of_cell? _ _ hw157_1)).trans hw157_1), ((HB.out.cell (World.block_lt_of_cell? _ _ hw157_2)).trans hw157_2), ((HB.out.cell (World.block_lt_of_cell? _ _ hw157_3)).trans hw157_3), ((HB.out.cell (World.block_lt_of_cell? _ _ hw157_4)).trans hw157_4), ((HB.out.cell (World.block_lt_of_cell? _ _ hw157_5)).trans hw157_5), ((HB.out.cell (World.block_lt_of_cell? _ _ hw157_6)).trans hw157_6), ((HB.out.cell (World.block_lt_of_cell? _ _ hw157_7)).trans hw157_7)⟩ (fun hHeld => ?_)
          clear hK K
          refine norm_ (a' := ?_) ?_ ?_
          rotate_left
          ·
           show Act.put _ (some 57) _ = _
           simp only [Act.put, List.setIfInBounds_toArray, List.set_cons_zero, List.set_cons_succ, i64_w, i32_w]
           rfl
          refine pur (i := 11) (N := some 58) #[true, true, true, true, true, true, true, true, true, true, true, true] (any_of HT_.out (by kernel_rfl)) ?_
          refine done_ (done_of HT_.out (by kernel_rfl)) ?_
          try go_wp2
          go_ret
          exact ⟨rfm, hbm⟩
        ·
         rw [if_neg c26] at H
         exact absurd H (by simp)
       ·
        rw [if_neg c25] at H
        exact absurd H (by simp)
      ·
       rw [if_neg c24] at H
       have c24b0 := decide_eq_false c24
       clear c24
       have H' := Aside0.mk H
       clear H
       have hnb37 := NB153_154.out
       have hnc37 := NB154_153.out
       obtain ⟨hcz38_0, hcz38_1, hcz38_2, hcz38_3, hcz38_4, hfz38_0, hfz38_1, hfz38_2, hfz38_3, hfz38_4⟩ := bc5 BK153.out
       go_wp2
       go_loopg [6] k2 (fun kq v6 w' => ∃ (x6_3 : Int), v6 = .int .i64 x6_3 ∧ Aside0 (spec_EngineSame.l1 kq x6_3 a0_0 l0_1 l0_2 l0_3 l0_4 a1_0 l1_1 l1_2 l1_3 l1_4 = some r) ∧ Aside0 (kq ≤ k2) ∧ Aside0 (w'.heap[gb153]? = some (.cells #[.int .i64 a0_0, (.slice A0_1 l0_1.length c0_1), (.slice A0_2 l0_2.length c0_2), (.slice A0_3 l0_3.length c0_3), (.slice A0_4 l0_4.length c0_4)] 47 (0, 0))) ∧ Aside0 (w'.heap[gb154]? = some (.cells #[.int .i64 a1_0, (.slice A1_1 l1_1.length c1_1), (.slice A1_2 l1_2.length c1_2), (.slice A1_3 l1_3.length c1_3), (.slice A1_4 l1_4.length c1_4)] 47 (0, 0))) ∧ Aside0 (Below w.heap.size w w'))
       case atStart => exact ⟨(0), (by first | rfl | (simp; done) | (simp [*]; done)), H', ⟨Nat.le_refl _⟩, ⟨by (with_reducible repeat (first | apply blk_drewN | apply blk_drew | apply blk_alloc)); exact BK153.out⟩, ⟨by (with_reducible repeat (first | apply blk_drewN | apply blk_drew | apply blk_alloc)); exact BK154.out⟩, ⟨hbm⟩⟩
       case round =>
        clear H'
        try clear c1; try clear p1; try clear q1; try clear hx1; try clear c2; try clear p2 p2; try clear c3; try clear p6; try clear c15; try clear p15; try clear q15; try clear hx15; try clear c24; try clear c24b0; try clear c25; try clear c25b0; try clear c26; try clear c26b0; try clear c28; try clear c29; try clear c33; try clear c37; try clear hcz30_0 hcz30_1 hcz30_2 hcz30_3 hcz30_4 hfz30_0 hfz30_1 hfz30_2 hfz30_3 hfz30_4; try clear hcz34_0 hcz34_1 hcz34_2 hcz34_3 hcz34_4 hfz34_0 hfz34_1 hfz34_2 hfz34_3 hfz34_4; try clear hcz38_0 hcz38_1 hcz38_2 hcz38_3 hcz38_4 hfz38_0 hfz38_1 hfz38_2 hfz38_3 hfz38_4; try clear hfz11_1 hfz11_2 hfz11_3 hfz11_4; try clear hfz12_0 hfz12_1 hfz12_2 hfz12_3 hfz12_4; try clear hfz15_0 hfz15_1 hfz15_2 hfz15_3 hfz15_4; try clear hfz16_0 hfz16_1 hfz16_2 hfz16_3 hfz16_4; try clear hfz18_0 hfz18_1 hfz18_2 hfz18_3 hfz18_4; try clear hfz19_0 hfz19_1 hfz19_2 hfz19_3 hfz19_4; try clear hfz21_0 hfz21_1 hfz21_2 hfz21_3 hfz21_4; try clear hfz22_0 hfz22_1 hfz22_2 hfz22_3 hfz22_4; try clear hx156_0; try clear hx156_1; try clear hx156_2; try clear hx156_3; try clear hx156_4; try clear hx156_5; try clear hx156_6; try clear hx156_7; try clear hx157_0; try clear hx157_1; try clear hx157_2; try clear hx157_3; try clear hx157_4; try clear hx157_5; try clear hx157_6; try clear hx157_7; try clear p156; try clear p157; try clear q156; try clear q157
        obtain ⟨x6_3, rfl, HA, HK3, BK153, BK154, HB⟩ := hrel
        cases gk with
        | zero => exact absurd HA.out (by simp [spec_EngineSame.l1])
        | succ k3 =>
         have H := HA.out
         clear HA
         simp only [spec_EngineSame.l1] at H
         by_cases c39 : x6_3 < (l0_2.length : Int)
         ·
          rw [if_pos c39] at H
          have c39b0 := decide_eq_true c39
          clear c39
          by_cases c40 : 0 ≤ x6_3
          ·
           rw [if_pos c40] at H
           have c40b0 := decide_eq_true c40
           clear c40
           by_cases c41 : x6_3 < (l1_2.length : Int)
           ·
            rw [if_pos c41] at H
            have c41b0 := decide_eq_true c41
            clear c41
            have HC42 := Aside0.mk H
            clear H
            have hnb43 := NB153_154.out
            have hnc43 := NB154_153.out
            obtain ⟨hcz44_0, hcz44_1, hcz44_2, hcz44_3, hcz44_4, hfz44_0, hfz44_1, hfz44_2, hfz44_3, hfz44_4⟩ := bc5 BK153.out
            have p159 : 0 ≤ (x6_3 : Int) := of_decide_eq_true asm_
            have q159 : x6_3 < (l0_2.length : Int) := of_decide_eq_true asm_
            obtain ⟨ad159, A159_2, c159_2, e159, hx159_0, hx159_1, hx159_2, hx159_3, hx159_4, hx159_5, hx159_6, hl159_2, hi159_2⟩ := at_T81 HR0_2.out x6_3 p159 q159
            cases e159
            replace hx159_0 := hcl HB hx159_0
            replace hx159_1 := hcl HB hx159_1
            replace hx159_2 := hcl HB hx159_2
            replace hx159_3 := hcl HB hx159_3
            replace hx159_4 := hcl HB hx159_4
            replace hx159_5 := hcl HB hx159_5
            replace hx159_6 := hcl HB hx159_6
            have HR159_2 := Aside0.mk hi159_2
            have HC159_2 := Aside0.mk hl159_2
            clear hi159_2 hl159_2
            replace p159 := eq_true p159
            replace q159 := eq_true q159
            go_upto_region 13 with (first | ((with_reducible refine gate_dst (N := 7) rfl ?_); (try (refine gate_guard (by rfl) ?_; dsimp only)); refine bxe (N := 7) (cs := #[.string (⟨#[]⟩ : ByteArray), .string (⟨#[]⟩ : ByteArray), .slice none 0 0, .int .i64 0, .int .i64 0, .int .i64 0, .bool false]) (t := 81) ?_; intro gb160 hg w45 hbox hb; have n0_ := bkb BK153 hb; have n1_ := bkb BK154 hb; have n2_ := bst hb; have n3_ := Aside0.mk (hbox); have n4_ := (bsz hg : Aside0 (w.heap.size ≤ gb160)); have n5_ := n4_; have n6_ := (bkn BK153 hg : Aside0 (gb153 ≠ gb160)); have n7_ := Aside0.mk n6_.out.symm; have n8_ := (bkn BK154 hg : Aside0 (gb154 ≠ gb160)); have n9_ := Aside0.mk n8_.out.symm; clear BK153; clear BK154; clear HB; have BK153 := n0_; have BK154 := n1_; have HB := n2_; have BK160 := n3_; have GW160 := n4_; have GE160 := n5_; have NB153_160 := n6_; have NB160_153 := n7_; have NB154_160 := n8_; have NB160_154 := n9_; clear n0_ n1_ n2_ n3_ n4_ n5_ n6_ n7_ n8_ n9_; clear hb hbox hg; have hnb46 := NB160_153.out; have hnc46 := NB153_160.out; have hnb47 := NB160_154.out; have hnc47 := NB154_160.out; obtain ⟨hcz48_0, hcz48_1, hcz48_2, hcz48_3, hcz48_4, hcz48_5, hcz48_6, hfz48_0, hfz48_1, hfz48_2, hfz48_3, hfz48_4, hfz48_5, hfz48_6⟩ := bc7 BK160.out; obtain ⟨hcz49_0, hcz49_1, hcz49_2, hcz49_3, hcz49_4, hfz49_0, hfz49_1, hfz49_2, hfz49_3, hfz49_4⟩ := bc5 BK154.out; have p161 : 0 ≤ (x6_3 : Int) := of_decide_eq_true asm_; have q161 : x6_3 < (l1_2.length : Int) := of_decide_eq_true asm_; obtain ⟨ad161, A161_2, c161_2, e161, hx161_0, hx161_1, hx161_2, hx161_3, hx161_4, hx161_5, hx161_6, hl161_2, hi161_2⟩ := at_T81 HR1_2.out x6_3 p161 q161; cases e161; have hn161_0 : ad161.block ≠ gb160 := Nat.ne_of_lt (Nat.lt_of_lt_of_le (by have := World.block_lt_of_cell? _ _ hx161_0; first | rwa [add_block] at this | exact this) GW160.out); have hn161_1 : ad161.block ≠ gb160 := Nat.ne_of_lt (Nat.lt_of_lt_of_le (by have := World.block_lt_of_cell? _ _ hx161_0; first | rwa [add_block] at this | exact this) GW160.out); have hn161_2 : ad161.block ≠ gb160 := Nat.ne_of_lt (Nat.lt_of_lt_of_le (by have := World.block_lt_of_cell? _ _ hx161_0; first | rwa [add_block] at this | exact this) GW160.out); have hn161_3 : ad161.block ≠ gb160 := Nat.ne_of_lt (Nat.lt_of_lt_of_le (by have := World.block_lt_of_cell? _ _ hx161_0; first | rwa [add_block] at this | exact this) GW160.out); have hn161_4 : ad161.block ≠ gb160 := Nat.ne_of_lt (Nat.lt_of_lt_of_le (by have := World.block_lt_of_cell? _ _ hx161_0; first | rwa [add_block] at this | exact this) GW160.out); have hn161_5 : ad161.block ≠ gb160 := Nat.ne_of_lt (Nat.lt_of_lt_of_le (by have := World.block_lt_of_cell? _ _ hx161_0; first | rwa [add_block] at this | exact this) GW160.out); have hn161_6 : ad161.block ≠ gb160 := Nat.ne_of_lt (Nat.lt_of_lt_of_le (by have := World.block_lt_of_cell? _ _ hx161_0; first | rwa [add_block] at this | exact this) GW160.out); replace hx161_0 := hcl HB hx161_0; replace hx161_1 := hcl HB hx161_1; replace hx161_2 := hcl HB hx161_2; replace hx161_3 := hcl HB hx161_3; replace hx161_4 := hcl HB hx161_4; replace hx161_5 := hcl HB hx161_5; replace hx161_6 := hcl HB hx161_6; have HR161_2 := Aside0.mk hi161_2; have HC161_2 := Aside0.mk hl161_2; clear hi161_2 hl161_2; replace hx161_0 := cfr gb160 0 (.string ((rd_T81 l0_2 x6_3).f0)) hn161_0 hx161_0; replace hx161_1 := cfr gb160 0 (.string ((rd_T81 l0_2 x6_3).f0)) hn161_0 hx161_1; replace hx161_2 := cfr gb160 0 (.string ((rd_T81 l0_2 x6_3).f0)) hn161_0 hx161_2; replace hx161_3 := cfr gb160 0 (.string ((rd_T81 l0_2 x6_3).f0)) hn161_0 hx161_3; replace hx161_4 := cfr gb160 0 (.string ((rd_T81 l0_2 x6_3).f0)) hn161_0 hx161_4; replace hx161_5 := cfr gb160 0 (.string ((rd_T81 l0_2 x6_3).f0)) hn161_0 hx161_5; replace hx161_6 := cfr gb160 0 (.string ((rd_T81 l0_2 x6_3).f0)) hn161_0 hx161_6; replace hx161_0 := cfr gb160 1 (.string ((rd_T81 l0_2 x6_3).f1)) hn161_1 hx161_0; replace hx161_1 := cfr gb160 1 (.string ((rd_T81 l0_2 x6_3).f1)) hn161_1 hx161_1; replace hx161_2 := cfr gb160 1 (.string ((rd_T81 l0_2 x6_3).f1)) hn161_1 hx161_2; replace hx161_3 := cfr gb160 1 (.string ((rd_T81 l0_2 x6_3).f1)) hn161_1 hx161_3; replace hx161_4 := cfr gb160 1 (.string ((rd_T81 l0_2 x6_3).f1)) hn161_1 hx161_4; replace hx161_5 := cfr gb160 1 (.string ((rd_T81 l0_2 x6_3).f1)) hn161_1 hx161_5; replace hx161_6 := cfr gb160 1 (.string ((rd_T81 l0_2 x6_3).f1)) hn161_1 hx161_6; replace hx161_0 := cfr gb160 2 (.slice A159_2 ((rd_T81 l0_2 x6_3).f2).length c159_2) hn161_2 hx161_0; replace hx161_1 := cfr gb160 2 (.slice A159_2 ((rd_T81 l0_2 x6_3).f2).length c159_2) hn161_2 hx161_1; replace hx161_2 := cfr gb160 2 (.slice A159_2 ((rd_T81 l0_2 x6_3).f2).length c159_2) hn161_2 hx161_2; replace hx161_3 := cfr gb160 2 (.slice A159_2 ((rd_T81 l0_2 x6_3).f2).length c159_2) hn161_2 hx161_3; replace hx161_4 := cfr gb160 2 (.slice A159_2 ((rd_T81 l0_2 x6_3).f2).length c159_2) hn161_2 hx161_4; replace hx161_5 := cfr gb160 2 (.slice A159_2 ((rd_T81 l0_2 x6_3).f2).length c159_2) hn161_2 hx161_5; replace hx161_6 := cfr gb160 2 (.slice A159_2 ((rd_T81 l0_2 x6_3).f2).length c159_2) hn161_2 hx161_6; replace hx161_0 := cfr gb160 3 (.int .i64 ((rd_T81 l0_2 x6_3).f3)) hn161_3 hx161_0; replace hx161_1 := cfr gb160 3 (.int .i64 ((rd_T81 l0_2 x6_3).f3)) hn161_3 hx161_1; replace hx161_2 := cfr gb160 3 (.int .i64 ((rd_T81 l0_2 x6_3).f3)) hn161_3 hx161_2; replace hx161_3 := cfr gb160 3 (.int .i64 ((rd_T81 l0_2 x6_3).f3)) hn161_3 hx161_3; replace hx161_4 := cfr gb160 3 (.int .i64 ((rd_T81 l0_2 x6_3).f3)) hn161_3 hx161_4; replace hx161_5 := cfr gb160 3 (.int .i64 ((rd_T81 l0_2 x6_3).f3)) hn161_3 hx161_5; replace hx161_6 := cfr gb160 3 (.int .i64 ((rd_T81 l0_2 x6_3).f3)) hn161_3 hx161_6; replace hx161_0 := cfr gb160 4 (.int .i64 ((rd_T81 l0_2 x6_3).f4)) hn161_4 hx161_0; replace hx161_1 := cfr gb160 4 (.int .i64 ((rd_T81 l0_2 x6_3).f4)) hn161_4 hx161_1; replace hx161_2 := cfr gb160 4 (.int .i64 ((rd_T81 l0_2 x6_3).f4)) hn161_4 hx161_2; replace hx161_3 := cfr gb160 4 (.int .i64 ((rd_T81 l0_2 x6_3).f4)) hn161_4 hx161_3; replace hx161_4 := cfr gb160 4 (.int .i64 ((rd_T81 l0_2 x6_3).f4)) hn161_4 hx161_4; replace hx161_5 := cfr gb160 4 (.int .i64 ((rd_T81 l0_2 x6_3).f4)) hn161_4 hx161_5; replace hx161_6 := cfr gb160 4 (.int .i64 ((rd_T81 l0_2 x6_3).f4)) hn161_4 hx161_6; replace hx161_0 := cfr gb160 5 (.int .i64 ((rd_T81 l0_2 x6_3).f5)) hn161_5 hx161_0; replace hx161_1 := cfr gb160 5 (.int .i64 ((rd_T81 l0_2 x6_3).f5)) hn161_5 hx161_1; replace hx161_2 := cfr gb160 5 (.int .i64 ((rd_T81 l0_2 x6_3).f5)) hn161_5 hx161_2; replace hx161_3 := cfr gb160 5 (.int .i64 ((rd_T81 l0_2 x6_3).f5)) hn161_5 hx161_3; replace hx161_4 := cfr gb160 5 (.int .i64 ((rd_T81 l0_2 x6_3).f5)) hn161_5 hx161_4; replace hx161_5 := cfr gb160 5 (.int .i64 ((rd_T81 l0_2 x6_3).f5)) hn161_5 hx161_5; replace hx161_6 := cfr gb160 5 (.int .i64 ((rd_T81 l0_2 x6_3).f5)) hn161_5 hx161_6; replace hx161_0 := cfr gb160 6 (.bool ((rd_T81 l0_2 x6_3).f6)) hn161_6 hx161_0; replace hx161_1 := cfr gb160 6 (.bool ((rd_T81 l0_2 x6_3).f6)) hn161_6 hx161_1; replace hx161_2 := cfr gb160 6 (.bool ((rd_T81 l0_2 x6_3).f6)) hn161_6 hx161_2; replace hx161_3 := cfr gb160 6 (.bool ((rd_T81 l0_2 x6_3).f6)) hn161_6 hx161_3; replace hx161_4 := cfr gb160 6 (.bool ((rd_T81 l0_2 x6_3).f6)) hn161_6 hx161_4; replace hx161_5 := cfr gb160 6 (.bool ((rd_T81 l0_2 x6_3).f6)) hn161_6 hx161_5; replace hx161_6 := cfr gb160 6 (.bool ((rd_T81 l0_2 x6_3).f6)) hn161_6 hx161_6; clear hn161_0; clear hn161_1; clear hn161_2; clear hn161_3; clear hn161_4; clear hn161_5; clear hn161_6; replace p161 := eq_true p161; replace q161 := eq_true q161) | ((with_reducible refine gate_dst (N := 8) rfl ?_); (try (refine gate_guard (by rfl) ?_; dsimp only)); refine bxe (N := 8) (cs := #[.string (⟨#[]⟩ : ByteArray), .string (⟨#[]⟩ : ByteArray), .slice none 0 0, .int .i64 0, .int .i64 0, .int .i64 0, .bool false]) (t := 81) ?_; intro gb162 hg w50 hbox hb; have n0_ := Aside0.mk (blk_below (g := gb153) (o := .cells #[.int .i64 a0_0, .slice A0_1 l0_1.length c0_1, .slice (some ad159) l0_2.length c0_2, .slice A0_3 l0_3.length c0_3, .slice A0_4 l0_4.length c0_4] 47 (0, 0)) (by (with_reducible repeat (first | apply blk_drewN | apply blk_drew | apply blk_alloc)); refine blk_far ?_ NB153_160.out _; (with_reducible repeat (first | apply blk_drewN | apply blk_drew | apply blk_alloc)); refine blk_far ?_ NB153_160.out _; (with_reducible repeat (first | apply blk_drewN | apply blk_drew | apply blk_alloc)); refine blk_far ?_ NB153_160.out _; (with_reducible repeat (first | apply blk_drewN | apply blk_drew | apply blk_alloc)); refine blk_far ?_ NB153_160.out _; (with_reducible repeat (first | apply blk_drewN | apply blk_drew | apply blk_alloc)); refine blk_far ?_ NB153_160.out _; (with_reducible repeat (first | apply blk_drewN | apply blk_drew | apply blk_alloc)); refine blk_far ?_ NB153_160.out _; (with_reducible repeat (first | apply blk_drewN | apply blk_drew | apply blk_alloc)); refine blk_far ?_ NB153_160.out _; (with_reducible repeat (first | apply blk_drewN | apply blk_drew | apply blk_alloc)); exact BK153.out) hb); have n1_ := Aside0.mk (blk_below (g := gb154) (o := .cells #[.int .i64 a1_0, .slice A1_1 l1_1.length c1_1, .slice (some ad161) l1_2.length c1_2, .slice A1_3 l1_3.length c1_3, .slice A1_4 l1_4.length c1_4] 47 (0, 0)) (by (with_reducible repeat (first | apply blk_drewN | apply blk_drew | apply blk_alloc)); refine blk_far ?_ NB154_160.out _; (with_reducible repeat (first | apply blk_drewN | apply blk_drew | apply blk_alloc)); refine blk_far ?_ NB154_160.out _; (with_reducible repeat (first | apply blk_drewN | apply blk_drew | apply blk_alloc)); refine blk_far ?_ NB154_160.out _; (with_reducible repeat (first | apply blk_drewN | apply blk_drew | apply blk_alloc)); refine blk_far ?_ NB154_160.out _; (with_reducible repeat (first | apply blk_drewN | apply blk_drew | apply blk_alloc)); refine blk_far ?_ NB154_160.out _; (with_reducible repeat (first | apply blk_drewN | apply blk_drew | apply blk_alloc)); refine blk_far ?_ NB154_160.out _; (with_reducible repeat (first | apply blk_drewN | apply blk_drew | apply blk_alloc)); refine blk_far ?_ NB154_160.out _; (with_reducible repeat (first | apply blk_drewN | apply blk_drew | apply blk_alloc)); exact BK154.out) hb); have n2_ := Aside0.mk (blk_below (g := gb160) (o := .cells #[.string ((rd_T81 l0_2 x6_3).f0), .string ((rd_T81 l0_2 x6_3).f1), .slice A159_2 ((rd_T81 l0_2 x6_3).f2).length c159_2, .int .i64 ((rd_T81 l0_2 x6_3).f3), .int .i64 ((rd_T81 l0_2 x6_3).f4), .int .i64 ((rd_T81 l0_2 x6_3).f5), .bool ((rd_T81 l0_2 x6_3).f6)] 81 (0, 0)) (by (with_reducible repeat (first | apply blk_drewN | apply blk_drew | apply blk_alloc)); refine blk_put (cs := #[.string ((rd_T81 l0_2 x6_3).f0), .string ((rd_T81 l0_2 x6_3).f1), .slice A159_2 ((rd_T81 l0_2 x6_3).f2).length c159_2, .int .i64 ((rd_T81 l0_2 x6_3).f3), .int .i64 ((rd_T81 l0_2 x6_3).f4), .int .i64 ((rd_T81 l0_2 x6_3).f5), .bool false]) ?_ 6 _ rfl; (with_reducible repeat (first | apply blk_drewN | apply blk_drew | apply blk_alloc)); refine blk_put (cs := #[.string ((rd_T81 l0_2 x6_3).f0), .string ((rd_T81 l0_2 x6_3).f1), .slice A159_2 ((rd_T81 l0_2 x6_3).f2).length c159_2, .int .i64 ((rd_T81 l0_2 x6_3).f3), .int .i64 ((rd_T81 l0_2 x6_3).f4), .int .i64 0, .bool false]) ?_ 5 _ rfl; (with_reducible repeat (first | apply blk_drewN | apply blk_drew | apply blk_alloc)); refine blk_put (cs := #[.string ((rd_T81 l0_2 x6_3).f0), .string ((rd_T81 l0_2 x6_3).f1), .slice A159_2 ((rd_T81 l0_2 x6_3).f2).length c159_2, .int .i64 ((rd_T81 l0_2 x6_3).f3), .int .i64 0, .int .i64 0, .bool false]) ?_ 4 _ rfl; (with_reducible repeat (first | apply blk_drewN | apply blk_drew | apply blk_alloc)); refine blk_put (cs := #[.string ((rd_T81 l0_2 x6_3).f0), .string ((rd_T81 l0_2 x6_3).f1), .slice A159_2 ((rd_T81 l0_2 x6_3).f2).length c159_2, .int .i64 0, .int .i64 0, .int .i64 0, .bool false]) ?_ 3 _ rfl; (with_reducible repeat (first | apply blk_drewN | apply blk_drew | apply blk_alloc)); refine blk_put (cs := #[.string ((rd_T81 l0_2 x6_3).f0), .string ((rd_T81 l0_2 x6_3).f1), .slice none 0 0, .int .i64 0, .int .i64 0, .int .i64 0, .bool false]) ?_ 2 _ rfl; (with_reducible repeat (first | apply blk_drewN | apply blk_drew | apply blk_alloc)); refine blk_put (cs := #[.string ((rd_T81 l0_2 x6_3).f0), .string (⟨#[]⟩ : ByteArray), .slice none 0 0, .int .i64 0, .int .i64 0, .int .i64 0, .bool false]) ?_ 1 _ rfl; (with_reducible repeat (first | apply blk_drewN | apply blk_drew | apply blk_alloc)); refine blk_put (cs := #[.string (⟨#[]⟩ : ByteArray), .string (⟨#[]⟩ : ByteArray), .slice none 0 0, .int .i64 0, .int .i64 0, .int .i64 0, .bool false]) ?_ 0 _ rfl; (with_reducible repeat (first | apply blk_drewN | apply blk_drew | apply blk_alloc)); exact BK160.out) hb); have n3_ := bst hb; have n4_ := Aside0.mk (hbox); have n5_ := (bsz hg : Aside0 (w.heap.size ≤ gb162)); have n6_ := n5_; have n7_ := Aside0.mk ((by rw [hg]; exact Nat.ne_of_lt (blk_lt (g := gb153) (o := .cells #[.int .i64 a0_0, .slice A0_1 l0_1.length c0_1, .slice (some ad159) l0_2.length c0_2, .slice A0_3 l0_3.length c0_3, .slice A0_4 l0_4.length c0_4] 47 (0, 0)) (by (with_reducible repeat (first | apply blk_drewN | apply blk_drew | apply blk_alloc)); refine blk_far ?_ NB153_160.out _; (with_reducible repeat (first | apply blk_drewN | apply blk_drew | apply blk_alloc)); refine blk_far ?_ NB153_160.out _; (with_reducible repeat (first | apply blk_drewN | apply blk_drew | apply blk_alloc)); refine blk_far ?_ NB153_160.out _; (with_reducible repeat (first | apply blk_drewN | apply blk_drew | apply blk_alloc)); refine blk_far ?_ NB153_160.out _; (with_reducible repeat (first | apply blk_drewN | apply blk_drew | apply blk_alloc)); refine blk_far ?_ NB153_160.out _; (with_reducible repeat (first | apply blk_drewN | apply blk_drew | apply blk_alloc)); refine blk_far ?_ NB153_160.out _; (with_reducible repeat (first | apply blk_drewN | apply blk_drew | apply blk_alloc)); refine blk_far ?_ NB153_160.out _; (with_reducible repeat (first | apply blk_drewN | apply blk_drew | apply blk_alloc)); exact BK153.out)) : gb153 ≠ gb162)); have n8_ := Aside0.mk n7_.out.symm; have n9_ := Aside0.mk ((by rw [hg]; exact Nat.ne_of_lt (blk_lt (g := gb154) (o := .cells #[.int .i64 a1_0, .slice A1_1 l1_1.length c1_1, .slice (some ad161) l1_2.length c1_2, .slice A1_3 l1_3.length c1_3, .slice A1_4 l1_4.length c1_4] 47 (0, 0)) (by (with_reducible repeat (first | apply blk_drewN | apply blk_drew | apply blk_alloc)); refine blk_far ?_ NB154_160.out _; (with_reducible repeat (first | apply blk_drewN | apply blk_drew | apply blk_alloc)); refine blk_far ?_ NB154_160.out _; (with_reducible repeat (first | apply blk_drewN | apply blk_drew | apply blk_alloc)); refine blk_far ?_ NB154_160.out _; (with_reducible repeat (first | apply blk_drewN | apply blk_drew | apply blk_alloc)); refine blk_far ?_ NB154_160.out _; (with_reducible repeat (first | apply blk_drewN | apply blk_drew | apply blk_alloc)); refine blk_far ?_ NB154_160.out _; (with_reducible repeat (first | apply blk_drewN | apply blk_drew | apply blk_alloc)); refine blk_far ?_ NB154_160.out _; (with_reducible repeat (first | apply blk_drewN | apply blk_drew | apply blk_alloc)); refine blk_far ?_ NB154_160.out _; (with_reducible repeat (first | apply blk_drewN | apply blk_drew | apply blk_alloc)); exact BK154.out)) : gb154 ≠ gb162)); have n10_ := Aside0.mk n9_.out.symm; have n11_ := Aside0.mk ((by rw [hg]; exact Nat.ne_of_lt (blk_lt (g := gb160) (o := .cells #[.string ((rd_T81 l0_2 x6_3).f0), .string ((rd_T81 l0_2 x6_3).f1), .slice A159_2 ((rd_T81 l0_2 x6_3).f2).length c159_2, .int .i64 ((rd_T81 l0_2 x6_3).f3), .int .i64 ((rd_T81 l0_2 x6_3).f4), .int .i64 ((rd_T81 l0_2 x6_3).f5), .bool ((rd_T81 l0_2 x6_3).f6)] 81 (0, 0)) (by (with_reducible repeat (first | apply blk_drewN | apply blk_drew | apply blk_alloc)); refine blk_put (cs := #[.string ((rd_T81 l0_2 x6_3).f0), .string ((rd_T81 l0_2 x6_3).f1), .slice A159_2 ((rd_T81 l0_2 x6_3).f2).length c159_2, .int .i64 ((rd_T81 l0_2 x6_3).f3), .int .i64 ((rd_T81 l0_2 x6_3).f4), .int .i64 ((rd_T81 l0_2 x6_3).f5), .bool false]) ?_ 6 _ rfl; (with_reducible repeat (first | apply blk_drewN | apply blk_drew | apply blk_alloc)); refine blk_put (cs := #[.string ((rd_T81 l0_2 x6_3).f0), .string ((rd_T81 l0_2 x6_3).f1), .slice A159_2 ((rd_T81 l0_2 x6_3).f2).length c159_2, .int .i64 ((rd_T81 l0_2 x6_3).f3), .int .i64 ((rd_T81 l0_2 x6_3).f4), .int .i64 0, .bool false]) ?_ 5 _ rfl; (with_reducible repeat (first | apply blk_drewN | apply blk_drew | apply blk_alloc)); refine blk_put (cs := #[.string ((rd_T81 l0_2 x6_3).f0), .string ((rd_T81 l0_2 x6_3).f1), .slice A159_2 ((rd_T81 l0_2 x6_3).f2).length c159_2, .int .i64 ((rd_T81 l0_2 x6_3).f3), .int .i64 0, .int .i64 0, .bool false]) ?_ 4 _ rfl; (with_reducible repeat (first | apply blk_drewN | apply blk_drew | apply blk_alloc)); refine blk_put (cs := #[.string ((rd_T81 l0_2 x6_3).f0), .string ((rd_T81 l0_2 x6_3).f1), .slice A159_2 ((rd_T81 l0_2 x6_3).f2).length c159_2, .int .i64 0, .int .i64 0, .int .i64 0, .bool false]) ?_ 3 _ rfl; (with_reducible repeat (first | apply blk_drewN | apply blk_drew | apply blk_alloc)); refine blk_put (cs := #[.string ((rd_T81 l0_2 x6_3).f0), .string ((rd_T81 l0_2 x6_3).f1), .slice none 0 0, .int .i64 0, .int .i64 0, .int .i64 0, .bool false]) ?_ 2 _ rfl; (with_reducible repeat (first | apply blk_drewN | apply blk_drew | apply blk_alloc)); refine blk_put (cs := #[.string ((rd_T81 l0_2 x6_3).f0), .string (⟨#[]⟩ : ByteArray), .slice none 0 0, .int .i64 0, .int .i64 0, .int .i64 0, .bool false]) ?_ 1 _ rfl; (with_reducible repeat (first | apply blk_drewN | apply blk_drew | apply blk_alloc)); refine blk_put (cs := #[.string (⟨#[]⟩ : ByteArray), .string (⟨#[]⟩ : ByteArray), .slice none 0 0, .int .i64 0, .int .i64 0, .int .i64 0, .bool false]) ?_ 0 _ rfl; (with_reducible repeat (first | apply blk_drewN | apply blk_drew | apply blk_alloc)); exact BK160.out)) : gb160 ≠ gb162)); have n12_ := Aside0.mk n11_.out.symm; clear BK153; clear BK154; clear BK160; clear HB; have BK153 := n0_; have BK154 := n1_; have BK160 := n2_; have HB := n3_; have BK162 := n4_; have GW162 := n5_; have GE162 := n6_; have NB153_162 := n7_; have NB162_153 := n8_; have NB154_162 := n9_; have NB162_154 := n10_; have NB160_162 := n11_; have NB162_160 := n12_; clear n0_ n1_ n2_ n3_ n4_ n5_ n6_ n7_ n8_ n9_ n10_ n11_ n12_; clear hb hbox hg; have hnb51 := NB162_153.out; have hnc51 := NB153_162.out; have hnb52 := NB162_154.out; have hnc52 := NB154_162.out; have hnb53 := NB162_160.out; have hnc53 := NB160_162.out; obtain ⟨hcz54_0, hcz54_1, hcz54_2, hcz54_3, hcz54_4, hcz54_5, hcz54_6, hfz54_0, hfz54_1, hfz54_2, hfz54_3, hfz54_4, hfz54_5, hfz54_6⟩ := bc7 BK162.out))
            (try simp only [Act.put, List.setIfInBounds_toArray, List.set_cons_zero, List.set_cons_succ])
            go_cut [123] (fun v123 wc => ∃ (kq : Nat) (x123_41 : Bool), v123 = .bool x123_41 ∧ Aside0 (spec_EngineSame.j3 kq x6_3 x123_41 a0_0 l0_1 l0_2 l0_3 l0_4 a1_0 l1_1 l1_2 l1_3 l1_4 = some r) ∧ Aside0 (kq ≤ k3) ∧ Aside0 (wc.heap[gb153]? = some (.cells #[.int .i64 a0_0, (.slice A0_1 l0_1.length c0_1), (.slice (some ad159) l0_2.length c0_2), (.slice A0_3 l0_3.length c0_3), (.slice A0_4 l0_4.length c0_4)] 47 (0, 0))) ∧ Aside0 (wc.heap[gb154]? = some (.cells #[.int .i64 a1_0, (.slice A1_1 l1_1.length c1_1), (.slice (some ad161) l1_2.length c1_2), (.slice A1_3 l1_3.length c1_3), (.slice A1_4 l1_4.length c1_4)] 47 (0, 0))) ∧ Aside0 (wc.heap[gb160]? = some (.cells #[.string ((rd_T81 l0_2 x6_3).f0), .string ((rd_T81 l0_2 x6_3).f1), (.slice A159_2 ((rd_T81 l0_2 x6_3).f2).length c159_2), .int .i64 ((rd_T81 l0_2 x6_3).f3), .int .i64 ((rd_T81 l0_2 x6_3).f4), .int .i64 ((rd_T81 l0_2 x6_3).f5), .bool ((rd_T81 l0_2 x6_3).f6)] 81 (0, 0))) ∧ Aside0 (wc.heap[gb162]? = some (.cells #[.string ((rd_T81 l1_2 x6_3).f0), .string ((rd_T81 l1_2 x6_3).f1), (.slice A161_2 ((rd_T81 l1_2 x6_3).f2).length c161_2), .int .i64 ((rd_T81 l1_2 x6_3).f3), .int .i64 ((rd_T81 l1_2 x6_3).f4), .int .i64 ((rd_T81 l1_2 x6_3).f5), .bool ((rd_T81 l1_2 x6_3).f6)] 81 (0, 0))) ∧ Aside0 (Below w.heap.size w wc))
            case first =>
             have H := HC42.out
             clear HC42
             by_cases c55 : ((rd_T81 l0_2 x6_3).f0).toList = ((rd_T81 l1_2 x6_3).f0).toList
             ·
              rw [if_pos c55] at H
              have c55b0 : (((rd_T81 l0_2 x6_3).f0).toList == ((rd_T81 l1_2 x6_3).f0).toList) = true := beq_iff_eq.mpr c55
              have c55b1 : (((rd_T81 l0_2 x6_3).f0).toList != ((rd_T81 l1_2 x6_3).f0).toList) = false := bne_eq_false_iff_eq.mpr c55
              clear c55
              (first | rw [c55b0] | (simp only [i64_w, i32_w]; rw [c55b0]) | skip)
              by_cases c56 : ((rd_T81 l0_2 x6_3).f1).toList = ((rd_T81 l1_2 x6_3).f1).toList
              ·
               rw [if_pos c56] at H
               have c56b0 : (((rd_T81 l0_2 x6_3).f1).toList == ((rd_T81 l1_2 x6_3).f1).toList) = true := beq_iff_eq.mpr c56
               have c56b1 : (((rd_T81 l0_2 x6_3).f1).toList != ((rd_T81 l1_2 x6_3).f1).toList) = false := bne_eq_false_iff_eq.mpr c56
               clear c56
               replace H := Option.bind_eq_some_iff.mp H
               obtain ⟨t163, A570, H⟩ := H
               (try dsimp only at H)
               have A57 := Aside0.mk A570
               clear A570
               by_cases c58 : t163 = true
               ·
                subst c58
                have H1 : (if ((rd_T81 l0_2 x6_3).f3) = ((rd_T81 l1_2 x6_3).f3) then (if ((rd_T81 l0_2 x6_3).f4) = ((rd_T81 l1_2 x6_3).f4) then (if ((rd_T81 l0_2 x6_3).f5) = ((rd_T81 l1_2 x6_3).f5) then (spec_EngineSame.j3 k3 x6_3 (((rd_T81 l0_2 x6_3).f6) != ((rd_T81 l1_2 x6_3).f6)) a0_0 l0_1 l0_2 l0_3 l0_4 a1_0 l1_1 l1_2 l1_3 l1_4) else (spec_EngineSame.j3 k3 x6_3 true a0_0 l0_1 l0_2 l0_3 l0_4 a1_0 l1_1 l1_2 l1_3 l1_4)) else (spec_EngineSame.j3 k3 x6_3 true a0_0 l0_1 l0_2 l0_3 l0_4 a1_0 l1_1 l1_2 l1_3 l1_4)) else (spec_EngineSame.j3 k3 x6_3 true a0_0 l0_1 l0_2 l0_3 l0_4 a1_0 l1_1 l1_2 l1_3 l1_4)) = some r := by rw [if_pos rfl] at H; exact H
                clear H
                have H := H1
                clear H1
                by_cases c59 : ((rd_T81 l0_2 x6_3).f3) = ((rd_T81 l1_2 x6_3).f3)
                ·
                 rw [if_pos c59] at H
                 have c59b0 : (((rd_T81 l0_2 x6_3).f3) == ((rd_T81 l1_2 x6_3).f3)) = true := beq_iff_eq.mpr c59
                 have c59b1 : (((rd_T81 l0_2 x6_3).f3) != ((rd_T81 l1_2 x6_3).f3)) = false := bne_eq_false_iff_eq.mpr c59
                 clear c59
                 by_cases c60 : ((rd_T81 l0_2 x6_3).f4) = ((rd_T81 l1_2 x6_3).f4)
                 ·
                  rw [if_pos c60] at H
                  have c60b0 : (((rd_T81 l0_2 x6_3).f4) == ((rd_T81 l1_2 x6_3).f4)) = true := beq_iff_eq.mpr c60
                  have c60b1 : (((rd_T81 l0_2 x6_3).f4) != ((rd_T81 l1_2 x6_3).f4)) = false := bne_eq_false_iff_eq.mpr c60
                  clear c60
                  by_cases c61 : ((rd_T81 l0_2 x6_3).f5) = ((rd_T81 l1_2 x6_3).f5)
                  ·
                   rw [if_pos c61] at H
                   have c61b0 : (((rd_T81 l0_2 x6_3).f5) == ((rd_T81 l1_2 x6_3).f5)) = true := beq_iff_eq.mpr c61
                   have c61b1 : (((rd_T81 l0_2 x6_3).f5) != ((rd_T81 l1_2 x6_3).f5)) = false := bne_eq_false_iff_eq.mpr c61
                   clear c61
                   have H' := Aside0.mk H
                   clear H
                   have hnb62 := NB160_153.out
                   have hnc62 := NB153_160.out
                   have hnb63 := NB160_154.out
                   have hnc63 := NB154_160.out
                   have hnb64 := NB160_162.out
                   have hnc64 := NB162_160.out
                   obtain ⟨hcz65_0, hcz65_1, hcz65_2, hcz65_3, hcz65_4, hcz65_5, hcz65_6, hfz65_0, hfz65_1, hfz65_2, hfz65_3, hfz65_4, hfz65_5, hfz65_6⟩ := bc7 BK160.out
                   have hnb66 := NB162_153.out
                   have hnc66 := NB153_162.out
                   have hnb67 := NB162_154.out
                   have hnc67 := NB154_162.out
                   obtain ⟨hcz68_0, hcz68_1, hcz68_2, hcz68_3, hcz68_4, hcz68_5, hcz68_6, hfz68_0, hfz68_1, hfz68_2, hfz68_3, hfz68_4, hfz68_5, hfz68_6⟩ := bc7 BK162.out
                   go_wp2_with (first | (go_at_call 34; (with_reducible refine (spec_l13SameNums.calls k3 _ _ ((rd_T81 l0_2 x6_3).f2) _ _ ((rd_T81 l1_2 x6_3).f2) true _ ?side1 ?side2 ?side3 ?side4 A57.out).mono ?_); (case side1 => exact Kd.C_below HR159_2.out hbm); (case side2 => exact HC159_2.out); (case side3 => exact Kd.C_below HR161_2.out hbm); (case side4 => exact HC161_2.out); rintro e w' ⟨rfl, ⟨nd, rfl⟩⟩))
                   go_meet
                   case rel => exact ⟨_, ((((rd_T81 l0_2 x6_3).f6) != ((rd_T81 l1_2 x6_3).f6))), (by first | rfl | (simp; done) | (simp [*]; done)), H', ⟨by have := HJ2.out; have := HK2.out; have := HK3.out; first | omega | exact Nat.le_refl _⟩, ⟨by (with_reducible repeat (first | apply blk_drewN | apply blk_drew | apply blk_alloc)); refine blk_far ?_ NB153_162.out _; (with_reducible repeat (first | apply blk_drewN | apply blk_drew | apply blk_alloc)); refine blk_far ?_ NB153_162.out _; (with_reducible repeat (first | apply blk_drewN | apply blk_drew | apply blk_alloc)); refine blk_far ?_ NB153_162.out _; (with_reducible repeat (first | apply blk_drewN | apply blk_drew | apply blk_alloc)); refine blk_far ?_ NB153_162.out _; (with_reducible repeat (first | apply blk_drewN | apply blk_drew | apply blk_alloc)); refine blk_far ?_ NB153_162.out _; (with_reducible repeat (first | apply blk_drewN | apply blk_drew | apply blk_alloc)); refine blk_far ?_ NB153_162.out _; (with_reducible repeat (first | apply blk_drewN | apply blk_drew | apply blk_alloc)); refine blk_far ?_ NB153_162.out _; (with_reducible repeat (first | apply blk_drewN | apply blk_drew | apply blk_alloc)); exact BK153.out⟩, ⟨by (with_reducible repeat (first | apply blk_drewN | apply blk_drew | apply blk_alloc)); refine blk_far ?_ NB154_162.out _; (with_reducible repeat (first | apply blk_drewN | apply blk_drew | apply blk_alloc)); refine blk_far ?_ NB154_162.out _; (with_reducible repeat (first | apply blk_drewN | apply blk_drew | apply blk_alloc)); refine blk_far ?_ NB154_162.out _; (with_reducible repeat (first | apply blk_drewN | apply blk_drew | apply blk_alloc)); refine blk_far ?_ NB154_162.out _; (with_reducible repeat (first | apply blk_drewN | apply blk_drew | apply blk_alloc)); refine blk_far ?_ NB154_162.out _; (with_reducible repeat (first | apply blk_drewN | apply blk_drew | apply blk_alloc)); refine blk_far ?_ NB154_162.out _; (with_reducible repeat (first | apply blk_drewN | apply blk_drew | apply blk_alloc)); refine blk_far ?_ NB154_162.out _; (with_reducible repeat (first | apply blk_drewN | apply blk_drew | apply blk_alloc)); exact BK154.out⟩, ⟨by (with_reducible repeat (first | apply blk_drewN | apply blk_drew | apply blk_alloc)); refine blk_far ?_ NB160_162.out _; (with_reducible repeat (first | apply blk_drewN | apply blk_drew | apply blk_alloc)); refine blk_far ?_ NB160_162.out _; (with_reducible repeat (first | apply blk_drewN | apply blk_drew | apply blk_alloc)); refine blk_far ?_ NB160_162.out _; (with_reducible repeat (first | apply blk_drewN | apply blk_drew | apply blk_alloc)); refine blk_far ?_ NB160_162.out _; (with_reducible repeat (first | apply blk_drewN | apply blk_drew | apply blk_alloc)); refine blk_far ?_ NB160_162.out _; (with_reducible repeat (first | apply blk_drewN | apply blk_drew | apply blk_alloc)); refine blk_far ?_ NB160_162.out _; (with_reducible repeat (first | apply blk_drewN | apply blk_drew | apply blk_alloc)); refine blk_far ?_ NB160_162.out _; (with_reducible repeat (first | apply blk_drewN | apply blk_drew | apply blk_alloc)); exact BK160.out⟩, ⟨by (with_reducible repeat (first | apply blk_drewN | apply blk_drew | apply blk_alloc)); refine blk_put (cs := #[.string ((rd_T81 l1_2 x6_3).f0), .string ((rd_T81 l1_2 x6_3).f1), .slice A161_2 ((rd_T81 l1_2 x6_3).f2).length c161_2, .int .i64 ((rd_T81 l1_2 x6_3).f3), .int .i64 ((rd_T81 l1_2 x6_3).f4), .int .i64 ((rd_T81 l1_2 x6_3).f5), .bool false]) ?_ 6 _ rfl; (with_reducible repeat (first | apply blk_drewN | apply blk_drew | apply blk_alloc)); refine blk_put (cs := #[.string ((rd_T81 l1_2 x6_3).f0), .string ((rd_T81 l1_2 x6_3).f1), .slice A161_2 ((rd_T81 l1_2 x6_3).f2).length c161_2, .int .i64 ((rd_T81 l1_2 x6_3).f3), .int .i64 ((rd_T81 l1_2 x6_3).f4), .int .i64 0, .bool false]) ?_ 5 _ rfl; (with_reducible repeat (first | apply blk_drewN | apply blk_drew | apply blk_alloc)); refine blk_put (cs := #[.string ((rd_T81 l1_2 x6_3).f0), .string ((rd_T81 l1_2 x6_3).f1), .slice A161_2 ((rd_T81 l1_2 x6_3).f2).length c161_2, .int .i64 ((rd_T81 l1_2 x6_3).f3), .int .i64 0, .int .i64 0, .bool false]) ?_ 4 _ rfl; (with_reducible repeat (first | apply blk_drewN | apply blk_drew | apply blk_alloc)); refine blk_put (cs := #[.string ((rd_T81 l1_2 x6_3).f0), .string ((rd_T81 l1_2 x6_3).f1), .slice A161_2 ((rd_T81 l1_2 x6_3).f2).length c161_2, .int .i64 0, .int .i64 0, .int .i64 0, .bool false]) ?_ 3 _ rfl; (with_reducible repeat (first | apply blk_drewN | apply blk_drew | apply blk_alloc)); refine blk_put (cs := #[.string ((rd_T81 l1_2 x6_3).f0), .string ((rd_T81 l1_2 x6_3).f1), .slice none 0 0, .int .i64 0, .int .i64 0, .int .i64 0, .bool false]) ?_ 2 _ rfl; (with_reducible repeat (first | apply blk_drewN | apply blk_drew | apply blk_alloc)); refine blk_put (cs := #[.string ((rd_T81 l1_2 x6_3).f0), .string (⟨#[]⟩ : ByteArray), .slice none 0 0, .int .i64 0, .int .i64 0, .int .i64 0, .bool false]) ?_ 1 _ rfl; (with_reducible repeat (first | apply blk_drewN | apply blk_drew | apply blk_alloc)); refine blk_put (cs := #[.string (⟨#[]⟩ : ByteArray), .string (⟨#[]⟩ : ByteArray), .slice none 0 0, .int .i64 0, .int .i64 0, .int .i64 0, .bool false]) ?_ 0 _ rfl; (with_reducible repeat (first | apply blk_drewN | apply blk_drew | apply blk_alloc)); exact BK162.out⟩, ⟨hbm⟩⟩
                  ·
                   rw [if_neg c61] at H
                   have c61b0 : (((rd_T81 l0_2 x6_3).f5) == ((rd_T81 l1_2 x6_3).f5)) = false := beq_eq_false_iff_ne.mpr c61
                   have c61b1 : (((rd_T81 l0_2 x6_3).f5) != ((rd_T81 l1_2 x6_3).f5)) = true := bne_iff_ne.mpr c61
                   have H' := Aside0.mk H
                   clear H
                   have hnb69 := NB160_153.out
                   have hnc69 := NB153_160.out
                   have hnb70 := NB160_154.out
                   have hnc70 := NB154_160.out
                   have hnb71 := NB160_162.out
                   have hnc71 := NB162_160.out
                   obtain ⟨hcz72_0, hcz72_1, hcz72_2, hcz72_3, hcz72_4, hcz72_5, hcz72_6, hfz72_0, hfz72_1, hfz72_2, hfz72_3, hfz72_4, hfz72_5, hfz72_6⟩ := bc7 BK160.out
                   have hnb73 := NB162_153.out
                   have hnc73 := NB153_162.out
                   have hnb74 := NB162_154.out
                   have hnc74 := NB154_162.out
                   obtain ⟨hcz75_0, hcz75_1, hcz75_2, hcz75_3, hcz75_4, hcz75_5, hcz75_6, hfz75_0, hfz75_1, hfz75_2, hfz75_3, hfz75_4, hfz75_5, hfz75_6⟩ := bc7 BK162.out
                   go_wp2_with (first | (go_at_call 34; (with_reducible refine (spec_l13SameNums.calls k3 _ _ ((rd_T81 l0_2 x6_3).f2) _ _ ((rd_T81 l1_2 x6_3).f2) true _ ?side1 ?side2 ?side3 ?side4 A57.out).mono ?_); (case side1 => exact Kd.C_below HR159_2.out hbm); (case side2 => exact HC159_2.out); (case side3 => exact Kd.C_below HR161_2.out hbm); (case side4 => exact HC161_2.out); rintro e w' ⟨rfl, ⟨nd, rfl⟩⟩))
                   go_meet
                   case rel => exact ⟨_, (true), (by first | rfl | (simp; done) | (simp [*]; done)), H', ⟨by have := HJ2.out; have := HK2.out; have := HK3.out; first | omega | exact Nat.le_refl _⟩, ⟨by (with_reducible repeat (first | apply blk_drewN | apply blk_drew | apply blk_alloc)); refine blk_far ?_ NB153_162.out _; (with_reducible repeat (first | apply blk_drewN | apply blk_drew | apply blk_alloc)); refine blk_far ?_ NB153_162.out _; (with_reducible repeat (first | apply blk_drewN | apply blk_drew | apply blk_alloc)); refine blk_far ?_ NB153_162.out _; (with_reducible repeat (first | apply blk_drewN | apply blk_drew | apply blk_alloc)); refine blk_far ?_ NB153_162.out _; (with_reducible repeat (first | apply blk_drewN | apply blk_drew | apply blk_alloc)); refine blk_far ?_ NB153_162.out _; (with_reducible repeat (first | apply blk_drewN | apply blk_drew | apply blk_alloc)); refine blk_far ?_ NB153_162.out _; (with_reducible repeat (first | apply blk_drewN | apply blk_drew | apply blk_alloc)); refine blk_far ?_ NB153_162.out _; (with_reducible repeat (first | apply blk_drewN | apply blk_drew | apply blk_alloc)); exact BK153.out⟩, ⟨by (with_reducible repeat (first | apply blk_drewN | apply blk_drew | apply blk_alloc)); refine blk_far ?_ NB154_162.out _; (with_reducible repeat (first | apply blk_drewN | apply blk_drew | apply blk_alloc)); refine blk_far ?_ NB154_162.out _; (with_reducible repeat (first | apply blk_drewN | apply blk_drew | apply blk_alloc)); refine blk_far ?_ NB154_162.out _; (with_reducible repeat (first | apply blk_drewN | apply blk_drew | apply blk_alloc)); refine blk_far ?_ NB154_162.out _; (with_reducible repeat (first | apply blk_drewN | apply blk_drew | apply blk_alloc)); refine blk_far ?_ NB154_162.out _; (with_reducible repeat (first | apply blk_drewN | apply blk_drew | apply blk_alloc)); refine blk_far ?_ NB154_162.out _; (with_reducible repeat (first | apply blk_drewN | apply blk_drew | apply blk_alloc)); refine blk_far ?_ NB154_162.out _; (with_reducible repeat (first | apply blk_drewN | apply blk_drew | apply blk_alloc)); exact BK154.out⟩, ⟨by (with_reducible repeat (first | apply blk_drewN | apply blk_drew | apply blk_alloc)); refine blk_far ?_ NB160_162.out _; (with_reducible repeat (first | apply blk_drewN | apply blk_drew | apply blk_alloc)); refine blk_far ?_ NB160_162.out _; (with_reducible repeat (first | apply blk_drewN | apply blk_drew | apply blk_alloc)); refine blk_far ?_ NB160_162.out _; (with_reducible repeat (first | apply blk_drewN | apply blk_drew | apply blk_alloc)); refine blk_far ?_ NB160_162.out _; (with_reducible repeat (first | apply blk_drewN | apply blk_drew | apply blk_alloc)); refine blk_far ?_ NB160_162.out _; (with_reducible repeat (first | apply blk_drewN | apply blk_drew | apply blk_alloc)); refine blk_far ?_ NB160_162.out _; (with_reducible repeat (first | apply blk_drewN | apply blk_drew | apply blk_alloc)); refine blk_far ?_ NB160_162.out _; (with_reducible repeat (first | apply blk_drewN | apply blk_drew | apply blk_alloc)); exact BK160.out⟩, ⟨by (with_reducible repeat (first | apply blk_drewN | apply blk_drew | apply blk_alloc)); refine blk_put (cs := #[.string ((rd_T81 l1_2 x6_3).f0), .string ((rd_T81 l1_2 x6_3).f1), .slice A161_2 ((rd_T81 l1_2 x6_3).f2).length c161_2, .int .i64 ((rd_T81 l1_2 x6_3).f3), .int .i64 ((rd_T81 l1_2 x6_3).f4), .int .i64 ((rd_T81 l1_2 x6_3).f5), .bool false]) ?_ 6 _ rfl; (with_reducible repeat (first | apply blk_drewN | apply blk_drew | apply blk_alloc)); refine blk_put (cs := #[.string ((rd_T81 l1_2 x6_3).f0), .string ((rd_T81 l1_2 x6_3).f1), .slice A161_2 ((rd_T81 l1_2 x6_3).f2).length c161_2, .int .i64 ((rd_T81 l1_2 x6_3).f3), .int .i64 ((rd_T81 l1_2 x6_3).f4), .int .i64 0, .bool false]) ?_ 5 _ rfl; (with_reducible repeat (first | apply blk_drewN | apply blk_drew | apply blk_alloc)); refine blk_put (cs := #[.string ((rd_T81 l1_2 x6_3).f0), .string ((rd_T81 l1_2 x6_3).f1), .slice A161_2 ((rd_T81 l1_2 x6_3).f2).length c161_2, .int .i64 ((rd_T81 l1_2 x6_3).f3), .int .i64 0, .int .i64 0, .bool false]) ?_ 4 _ rfl; (with_reducible repeat (first | apply blk_drewN | apply blk_drew | apply blk_alloc)); refine blk_put (cs := #[.string ((rd_T81 l1_2 x6_3).f0), .string ((rd_T81 l1_2 x6_3).f1), .slice A161_2 ((rd_T81 l1_2 x6_3).f2).length c161_2, .int .i64 0, .int .i64 0, .int .i64 0, .bool false]) ?_ 3 _ rfl; (with_reducible repeat (first | apply blk_drewN | apply blk_drew | apply blk_alloc)); refine blk_put (cs := #[.string ((rd_T81 l1_2 x6_3).f0), .string ((rd_T81 l1_2 x6_3).f1), .slice none 0 0, .int .i64 0, .int .i64 0, .int .i64 0, .bool false]) ?_ 2 _ rfl; (with_reducible repeat (first | apply blk_drewN | apply blk_drew | apply blk_alloc)); refine blk_put (cs := #[.string ((rd_T81 l1_2 x6_3).f0), .string (⟨#[]⟩ : ByteArray), .slice none 0 0, .int .i64 0, .int .i64 0, .int .i64 0, .bool false]) ?_ 1 _ rfl; (with_reducible repeat (first | apply blk_drewN | apply blk_drew | apply blk_alloc)); refine blk_put (cs := #[.string (⟨#[]⟩ : ByteArray), .string (⟨#[]⟩ : ByteArray), .slice none 0 0, .int .i64 0, .int .i64 0, .int .i64 0, .bool false]) ?_ 0 _ rfl; (with_reducible repeat (first | apply blk_drewN | apply blk_drew | apply blk_alloc)); exact BK162.out⟩, ⟨hbm⟩⟩
                 ·
                  rw [if_neg c60] at H
                  have c60b0 : (((rd_T81 l0_2 x6_3).f4) == ((rd_T81 l1_2 x6_3).f4)) = false := beq_eq_false_iff_ne.mpr c60
                  have c60b1 : (((rd_T81 l0_2 x6_3).f4) != ((rd_T81 l1_2 x6_3).f4)) = true := bne_iff_ne.mpr c60
                  have H' := Aside0.mk H
                  clear H
                  have hnb76 := NB160_153.out
                  have hnc76 := NB153_160.out
                  have hnb77 := NB160_154.out
                  have hnc77 := NB154_160.out
                  have hnb78 := NB160_162.out
                  have hnc78 := NB162_160.out
                  obtain ⟨hcz79_0, hcz79_1, hcz79_2, hcz79_3, hcz79_4, hcz79_5, hcz79_6, hfz79_0, hfz79_1, hfz79_2, hfz79_3, hfz79_4, hfz79_5, hfz79_6⟩ := bc7 BK160.out
                  have hnb80 := NB162_153.out
                  have hnc80 := NB153_162.out
                  have hnb81 := NB162_154.out
                  have hnc81 := NB154_162.out
                  obtain ⟨hcz82_0, hcz82_1, hcz82_2, hcz82_3, hcz82_4, hcz82_5, hcz82_6, hfz82_0, hfz82_1, hfz82_2, hfz82_3, hfz82_4, hfz82_5, hfz82_6⟩ := bc7 BK162.out
                  go_wp2_with (first | (go_at_call 34; (with_reducible refine (spec_l13SameNums.calls k3 _ _ ((rd_T81 l0_2 x6_3).f2) _ _ ((rd_T81 l1_2 x6_3).f2) true _ ?side1 ?side2 ?side3 ?side4 A57.out).mono ?_); (case side1 => exact Kd.C_below HR159_2.out hbm); (case side2 => exact HC159_2.out); (case side3 => exact Kd.C_below HR161_2.out hbm); (case side4 => exact HC161_2.out); rintro e w' ⟨rfl, ⟨nd, rfl⟩⟩))
                  go_meet
                  case rel => exact ⟨_, (true), (by first | rfl | (simp; done) | (simp [*]; done)), H', ⟨by have := HJ2.out; have := HK2.out; have := HK3.out; first | omega | exact Nat.le_refl _⟩, ⟨by (with_reducible repeat (first | apply blk_drewN | apply blk_drew | apply blk_alloc)); refine blk_far ?_ NB153_162.out _; (with_reducible repeat (first | apply blk_drewN | apply blk_drew | apply blk_alloc)); refine blk_far ?_ NB153_162.out _; (with_reducible repeat (first | apply blk_drewN | apply blk_drew | apply blk_alloc)); refine blk_far ?_ NB153_162.out _; (with_reducible repeat (first | apply blk_drewN | apply blk_drew | apply blk_alloc)); refine blk_far ?_ NB153_162.out _; (with_reducible repeat (first | apply blk_drewN | apply blk_drew | apply blk_alloc)); refine blk_far ?_ NB153_162.out _; (with_reducible repeat (first | apply blk_drewN | apply blk_drew | apply blk_alloc)); refine blk_far ?_ NB153_162.out _; (with_reducible repeat (first | apply blk_drewN | apply blk_drew | apply blk_alloc)); refine blk_far ?_ NB153_162.out _; (with_reducible repeat (first | apply blk_drewN | apply blk_drew | apply blk_alloc)); exact BK153.out⟩, ⟨by (with_reducible repeat (first | apply blk_drewN | apply blk_drew | apply blk_alloc)); refine blk_far ?_ NB154_162.out _; (with_reducible repeat (first | apply blk_drewN | apply blk_drew | apply blk_alloc)); refine blk_far ?_ NB154_162.out _; (with_reducible repeat (first | apply blk_drewN | apply blk_drew | apply blk_alloc)); refine blk_far ?_ NB154_162.out _; (with_reducible repeat (first | apply blk_drewN | apply blk_drew | apply blk_alloc)); refine blk_far ?_ NB154_162.out _; (with_reducible repeat (first | apply blk_drewN | apply blk_drew | apply blk_alloc)); refine blk_far ?_ NB154_162.out _; (with_reducible repeat (first | apply blk_drewN | apply blk_drew | apply blk_alloc)); refine blk_far ?_ NB154_162.out _; (with_reducible repeat (first | apply blk_drewN | apply blk_drew | apply blk_alloc)); refine blk_far ?_ NB154_162.out _; (with_reducible repeat (first | apply blk_drewN | apply blk_drew | apply blk_alloc)); exact BK154.out⟩, ⟨by (with_reducible repeat (first | apply blk_drewN | apply blk_drew | apply blk_alloc)); refine blk_far ?_ NB160_162.out _; (with_reducible repeat (first | apply blk_drewN | apply blk_drew | apply blk_alloc)); refine blk_far ?_ NB160_162.out _; (with_reducible repeat (first | apply blk_drewN | apply blk_drew | apply blk_alloc)); refine blk_far ?_ NB160_162.out _; (with_reducible repeat (first | apply blk_drewN | apply blk_drew | apply blk_alloc)); refine blk_far ?_ NB160_162.out _; (with_reducible repeat (first | apply blk_drewN | apply blk_drew | apply blk_alloc)); refine blk_far ?_ NB160_162.out _; (with_reducible repeat (first | apply blk_drewN | apply blk_drew | apply blk_alloc)); refine blk_far ?_ NB160_162.out _; (with_reducible repeat (first | apply blk_drewN | apply blk_drew | apply blk_alloc)); refine blk_far ?_ NB160_162.out _; (with_reducible repeat (first | apply blk_drewN | apply blk_drew | apply blk_alloc)); exact BK160.out⟩, ⟨by (with_reducible repeat (first | apply blk_drewN | apply blk_drew | apply blk_alloc)); refine blk_put (cs := #[.string ((rd_T81 l1_2 x6_3).f0), .string ((rd_T81 l1_2 x6_3).f1), .slice A161_2 ((rd_T81 l1_2 x6_3).f2).length c161_2, .int .i64 ((rd_T81 l1_2 x6_3).f3), .int .i64 ((rd_T81 l1_2 x6_3).f4), .int .i64 ((rd_T81 l1_2 x6_3).f5), .bool false]) ?_ 6 _ rfl; (with_reducible repeat (first | apply blk_drewN | apply blk_drew | apply blk_alloc)); refine blk_put (cs := #[.string ((rd_T81 l1_2 x6_3).f0), .string ((rd_T81 l1_2 x6_3).f1), .slice A161_2 ((rd_T81 l1_2 x6_3).f2).length c161_2, .int .i64 ((rd_T81 l1_2 x6_3).f3), .int .i64 ((rd_T81 l1_2 x6_3).f4), .int .i64 0, .bool false]) ?_ 5 _ rfl; (with_reducible repeat (first | apply blk_drewN | apply blk_drew | apply blk_alloc)); refine blk_put (cs := #[.string ((rd_T81 l1_2 x6_3).f0), .string ((rd_T81 l1_2 x6_3).f1), .slice A161_2 ((rd_T81 l1_2 x6_3).f2).length c161_2, .int .i64 ((rd_T81 l1_2 x6_3).f3), .int .i64 0, .int .i64 0, .bool false]) ?_ 4 _ rfl; (with_reducible repeat (first | apply blk_drewN | apply blk_drew | apply blk_alloc)); refine blk_put (cs := #[.string ((rd_T81 l1_2 x6_3).f0), .string ((rd_T81 l1_2 x6_3).f1), .slice A161_2 ((rd_T81 l1_2 x6_3).f2).length c161_2, .int .i64 0, .int .i64 0, .int .i64 0, .bool false]) ?_ 3 _ rfl; (with_reducible repeat (first | apply blk_drewN | apply blk_drew | apply blk_alloc)); refine blk_put (cs := #[.string ((rd_T81 l1_2 x6_3).f0), .string ((rd_T81 l1_2 x6_3).f1), .slice none 0 0, .int .i64 0, .int .i64 0, .int .i64 0, .bool false]) ?_ 2 _ rfl; (with_reducible repeat (first | apply blk_drewN | apply blk_drew | apply blk_alloc)); refine blk_put (cs := #[.string ((rd_T81 l1_2 x6_3).f0), .string (⟨#[]⟩ : ByteArray), .slice none 0 0, .int .i64 0, .int .i64 0, .int .i64 0, .bool false]) ?_ 1 _ rfl; (with_reducible repeat (first | apply blk_drewN | apply blk_drew | apply blk_alloc)); refine blk_put (cs := #[.string (⟨#[]⟩ : ByteArray), .string (⟨#[]⟩ : ByteArray), .slice none 0 0, .int .i64 0, .int .i64 0, .int .i64 0, .bool false]) ?_ 0 _ rfl; (with_reducible repeat (first | apply blk_drewN | apply blk_drew | apply blk_alloc)); exact BK162.out⟩, ⟨hbm⟩⟩
                ·
                 rw [if_neg c59] at H
                 have c59b0 : (((rd_T81 l0_2 x6_3).f3) == ((rd_T81 l1_2 x6_3).f3)) = false := beq_eq_false_iff_ne.mpr c59
                 have c59b1 : (((rd_T81 l0_2 x6_3).f3) != ((rd_T81 l1_2 x6_3).f3)) = true := bne_iff_ne.mpr c59
                 have H' := Aside0.mk H
                 clear H
                 have hnb83 := NB160_153.out
                 have hnc83 := NB153_160.out
                 have hnb84 := NB160_154.out
                 have hnc84 := NB154_160.out
                 have hnb85 := NB160_162.out
                 have hnc85 := NB162_160.out
                 obtain ⟨hcz86_0, hcz86_1, hcz86_2, hcz86_3, hcz86_4, hcz86_5, hcz86_6, hfz86_0, hfz86_1, hfz86_2, hfz86_3, hfz86_4, hfz86_5, hfz86_6⟩ := bc7 BK160.out
                 have hnb87 := NB162_153.out
                 have hnc87 := NB153_162.out
                 have hnb88 := NB162_154.out
                 have hnc88 := NB154_162.out
                 obtain ⟨hcz89_0, hcz89_1, hcz89_2, hcz89_3, hcz89_4, hcz89_5, hcz89_6, hfz89_0, hfz89_1, hfz89_2, hfz89_3, hfz89_4, hfz89_5, hfz89_6⟩ := bc7 BK162.out
                 go_wp2_with (first | (go_at_call 34; (with_reducible refine (spec_l13SameNums.calls k3 _ _ ((rd_T81 l0_2 x6_3).f2) _ _ ((rd_T81 l1_2 x6_3).f2) true _ ?side1 ?side2 ?side3 ?side4 A57.out).mono ?_); (case side1 => exact Kd.C_below HR159_2.out hbm); (case side2 => exact HC159_2.out); (case side3 => exact Kd.C_below HR161_2.out hbm); (case side4 => exact HC161_2.out); rintro e w' ⟨rfl, ⟨nd, rfl⟩⟩))
                 go_meet
                 case rel => exact ⟨_, (true), (by first | rfl | (simp; done) | (simp [*]; done)), H', ⟨by have := HJ2.out; have := HK2.out; have := HK3.out; first | omega | exact Nat.le_refl _⟩, ⟨by (with_reducible repeat (first | apply blk_drewN | apply blk_drew | apply blk_alloc)); refine blk_far ?_ NB153_162.out _; (with_reducible repeat (first | apply blk_drewN | apply blk_drew | apply blk_alloc)); refine blk_far ?_ NB153_162.out _; (with_reducible repeat (first | apply blk_drewN | apply blk_drew | apply blk_alloc)); refine blk_far ?_ NB153_162.out _; (with_reducible repeat (first | apply blk_drewN | apply blk_drew | apply blk_alloc)); refine blk_far ?_ NB153_162.out _; (with_reducible repeat (first | apply blk_drewN | apply blk_drew | apply blk_alloc)); refine blk_far ?_ NB153_162.out _; (with_reducible repeat (first | apply blk_drewN | apply blk_drew | apply blk_alloc)); refine blk_far ?_ NB153_162.out _; (with_reducible repeat (first | apply blk_drewN | apply blk_drew | apply blk_alloc)); refine blk_far ?_ NB153_162.out _; (with_reducible repeat (first | apply blk_drewN | apply blk_drew | apply blk_alloc)); exact BK153.out⟩, ⟨by (with_reducible repeat (first | apply blk_drewN | apply blk_drew | apply blk_alloc)); refine blk_far ?_ NB154_162.out _; (with_reducible repeat (first | apply blk_drewN | apply blk_drew | apply blk_alloc)); refine blk_far ?_ NB154_162.out _; (with_reducible repeat (first | apply blk_drewN | apply blk_drew | apply blk_alloc)); refine blk_far ?_ NB154_162.out _; (with_reducible repeat (first | apply blk_drewN | apply blk_drew | apply blk_alloc)); refine blk_far ?_ NB154_162.out _; (with_reducible repeat (first | apply blk_drewN | apply blk_drew | apply blk_alloc)); refine blk_far ?_ NB154_162.out _; (with_reducible repeat (first | apply blk_drewN | apply blk_drew | apply blk_alloc)); refine blk_far ?_ NB154_162.out _; (with_reducible repeat (first | apply blk_drewN | apply blk_drew | apply blk_alloc)); refine blk_far ?_ NB154_162.out _; (with_reducible repeat (first | apply blk_drewN | apply blk_drew | apply blk_alloc)); exact BK154.out⟩, ⟨by (with_reducible repeat (first | apply blk_drewN | apply blk_drew | apply blk_alloc)); refine blk_far ?_ NB160_162.out _; (with_reducible repeat (first | apply blk_drewN | apply blk_drew | apply blk_alloc)); refine blk_far ?_ NB160_162.out _; (with_reducible repeat (first | apply blk_drewN | apply blk_drew | apply blk_alloc)); refine blk_far ?_ NB160_162.out _; (with_reducible repeat (first | apply blk_drewN | apply blk_drew | apply blk_alloc)); refine blk_far ?_ NB160_162.out _; (with_reducible repeat (first | apply blk_drewN | apply blk_drew | apply blk_alloc)); refine blk_far ?_ NB160_162.out _; (with_reducible repeat (first | apply blk_drewN | apply blk_drew | apply blk_alloc)); refine blk_far ?_ NB160_162.out _; (with_reducible repeat (first | apply blk_drewN | apply blk_drew | apply blk_alloc)); refine blk_far ?_ NB160_162.out _; (with_reducible repeat (first | apply blk_drewN | apply blk_drew | apply blk_alloc)); exact BK160.out⟩, ⟨by (with_reducible repeat (first | apply blk_drewN | apply blk_drew | apply blk_alloc)); refine blk_put (cs := #[.string ((rd_T81 l1_2 x6_3).f0), .string ((rd_T81 l1_2 x6_3).f1), .slice A161_2 ((rd_T81 l1_2 x6_3).f2).length c161_2, .int .i64 ((rd_T81 l1_2 x6_3).f3), .int .i64 ((rd_T81 l1_2 x6_3).f4), .int .i64 ((rd_T81 l1_2 x6_3).f5), .bool false]) ?_ 6 _ rfl; (with_reducible repeat (first | apply blk_drewN | apply blk_drew | apply blk_alloc)); refine blk_put (cs := #[.string ((rd_T81 l1_2 x6_3).f0), .string ((rd_T81 l1_2 x6_3).f1), .slice A161_2 ((rd_T81 l1_2 x6_3).f2).length c161_2, .int .i64 ((rd_T81 l1_2 x6_3).f3), .int .i64 ((rd_T81 l1_2 x6_3).f4), .int .i64 0, .bool false]) ?_ 5 _ rfl; (with_reducible repeat (first | apply blk_drewN | apply blk_drew | apply blk_alloc)); refine blk_put (cs := #[.string ((rd_T81 l1_2 x6_3).f0), .string ((rd_T81 l1_2 x6_3).f1), .slice A161_2 ((rd_T81 l1_2 x6_3).f2).length c161_2, .int .i64 ((rd_T81 l1_2 x6_3).f3), .int .i64 0, .int .i64 0, .bool false]) ?_ 4 _ rfl; (with_reducible repeat (first | apply blk_drewN | apply blk_drew | apply blk_alloc)); refine blk_put (cs := #[.string ((rd_T81 l1_2 x6_3).f0), .string ((rd_T81 l1_2 x6_3).f1), .slice A161_2 ((rd_T81 l1_2 x6_3).f2).length c161_2, .int .i64 0, .int .i64 0, .int .i64 0, .bool false]) ?_ 3 _ rfl; (with_reducible repeat (first | apply blk_drewN | apply blk_drew | apply blk_alloc)); refine blk_put (cs := #[.string ((rd_T81 l1_2 x6_3).f0), .string ((rd_T81 l1_2 x6_3).f1), .slice none 0 0, .int .i64 0, .int .i64 0, .int .i64 0, .bool false]) ?_ 2 _ rfl; (with_reducible repeat (first | apply blk_drewN | apply blk_drew | apply blk_alloc)); refine blk_put (cs := #[.string ((rd_T81 l1_2 x6_3).f0), .string (⟨#[]⟩ : ByteArray), .slice none 0 0, .int .i64 0, .int .i64 0, .int .i64 0, .bool false]) ?_ 1 _ rfl; (with_reducible repeat (first | apply blk_drewN | apply blk_drew | apply blk_alloc)); refine blk_put (cs := #[.string (⟨#[]⟩ : ByteArray), .string (⟨#[]⟩ : ByteArray), .slice none 0 0, .int .i64 0, .int .i64 0, .int .i64 0, .bool false]) ?_ 0 _ rfl; (with_reducible repeat (first | apply blk_drewN | apply blk_drew | apply blk_alloc)); exact BK162.out⟩, ⟨hbm⟩⟩
               ·
                replace c58 := Bool.eq_false_iff.mpr c58
                subst c58
                have H1 : (spec_EngineSame.j3 k3 x6_3 true a0_0 l0_1 l0_2 l0_3 l0_4 a1_0 l1_1 l1_2 l1_3 l1_4) = some r := by rw [if_neg (show ¬ (false = true) by decide)] at H; exact H
                clear H
                have H := H1
                clear H1
                have H' := Aside0.mk H
                clear H
                have hnb90 := NB160_153.out
                have hnc90 := NB153_160.out
                have hnb91 := NB160_154.out
                have hnc91 := NB154_160.out
                have hnb92 := NB160_162.out
                have hnc92 := NB162_160.out
                obtain ⟨hcz93_0, hcz93_1, hcz93_2, hcz93_3, hcz93_4, hcz93_5, hcz93_6, hfz93_0, hfz93_1, hfz93_2, hfz93_3, hfz93_4, hfz93_5, hfz93_6⟩ := bc7 BK160.out
                have hnb94 := NB162_153.out
                have hnc94 := NB153_162.out
                have hnb95 := NB162_154.out
                have hnc95 := NB154_162.out
                obtain ⟨hcz96_0, hcz96_1, hcz96_2, hcz96_3, hcz96_4, hcz96_5, hcz96_6, hfz96_0, hfz96_1, hfz96_2, hfz96_3, hfz96_4, hfz96_5, hfz96_6⟩ := bc7 BK162.out
                go_wp2_with (first | (go_at_call 34; (with_reducible refine (spec_l13SameNums.calls k3 _ _ ((rd_T81 l0_2 x6_3).f2) _ _ ((rd_T81 l1_2 x6_3).f2) false _ ?side1 ?side2 ?side3 ?side4 A57.out).mono ?_); (case side1 => exact Kd.C_below HR159_2.out hbm); (case side2 => exact HC159_2.out); (case side3 => exact Kd.C_below HR161_2.out hbm); (case side4 => exact HC161_2.out); rintro e w' ⟨rfl, ⟨nd, rfl⟩⟩))
                go_meet
                case rel => exact ⟨_, (true), (by first | rfl | (simp; done) | (simp [*]; done)), H', ⟨by have := HJ2.out; have := HK2.out; have := HK3.out; first | omega | exact Nat.le_refl _⟩, ⟨by (with_reducible repeat (first | apply blk_drewN | apply blk_drew | apply blk_alloc)); refine blk_far ?_ NB153_162.out _; (with_reducible repeat (first | apply blk_drewN | apply blk_drew | apply blk_alloc)); refine blk_far ?_ NB153_162.out _; (with_reducible repeat (first | apply blk_drewN | apply blk_drew | apply blk_alloc)); refine blk_far ?_ NB153_162.out _; (with_reducible repeat (first | apply blk_drewN | apply blk_drew | apply blk_alloc)); refine blk_far ?_ NB153_162.out _; (with_reducible repeat (first | apply blk_drewN | apply blk_drew | apply blk_alloc)); refine blk_far ?_ NB153_162.out _; (with_reducible repeat (first | apply blk_drewN | apply blk_drew | apply blk_alloc)); refine blk_far ?_ NB153_162.out _; (with_reducible repeat (first | apply blk_drewN | apply blk_drew | apply blk_alloc)); refine blk_far ?_ NB153_162.out _; (with_reducible repeat (first | apply blk_drewN | apply blk_drew | apply blk_alloc)); exact BK153.out⟩, ⟨by (with_reducible repeat (first | apply blk_drewN | apply blk_drew | apply blk_alloc)); refine blk_far ?_ NB154_162.out _; (with_reducible repeat (first | apply blk_drewN | apply blk_drew | apply blk_alloc)); refine blk_far ?_ NB154_162.out _; (with_reducible repeat (first | apply blk_drewN | apply blk_drew | apply blk_alloc)); refine blk_far ?_ NB154_162.out _; (with_reducible repeat (first | apply blk_drewN | apply blk_drew | apply blk_alloc)); refine blk_far ?_ NB154_162.out _; (with_reducible repeat (first | apply blk_drewN | apply blk_drew | apply blk_alloc)); refine blk_far ?_ NB154_162.out _; (with_reducible repeat (first | apply blk_drewN | apply blk_drew | apply blk_alloc)); refine blk_far ?_ NB154_162.out _; (with_reducible repeat (first | apply blk_drewN | apply blk_drew | apply blk_alloc)); refine blk_far ?_ NB154_162.out _; (with_reducible repeat (first | apply blk_drewN | apply blk_drew | apply blk_alloc)); exact BK154.out⟩, ⟨by (with_reducible repeat (first | apply blk_drewN | apply blk_drew | apply blk_alloc)); refine blk_far ?_ NB160_162.out _; (with_reducible repeat (first | apply blk_drewN | apply blk_drew | apply blk_alloc)); refine blk_far ?_ NB160_162.out _; (with_reducible repeat (first | apply blk_drewN | apply blk_drew | apply blk_alloc)); refine blk_far ?_ NB160_162.out _; (with_reducible repeat (first | apply blk_drewN | apply blk_drew | apply blk_alloc)); refine blk_far ?_ NB160_162.out _; (with_reducible repeat (first | apply blk_drewN | apply blk_drew | apply blk_alloc)); refine blk_far ?_ NB160_162.out _; (with_reducible repeat (first | apply blk_drewN | apply blk_drew | apply blk_alloc)); refine blk_far ?_ NB160_162.out _; (with_reducible repeat (first | apply blk_drewN | apply blk_drew | apply blk_alloc)); refine blk_far ?_ NB160_162.out _; (with_reducible repeat (first | apply blk_drewN | apply blk_drew | apply blk_alloc)); exact BK160.out⟩, ⟨by (with_reducible repeat (first | apply blk_drewN | apply blk_drew | apply blk_alloc)); refine blk_put (cs := #[.string ((rd_T81 l1_2 x6_3).f0), .string ((rd_T81 l1_2 x6_3).f1), .slice A161_2 ((rd_T81 l1_2 x6_3).f2).length c161_2, .int .i64 ((rd_T81 l1_2 x6_3).f3), .int .i64 ((rd_T81 l1_2 x6_3).f4), .int .i64 ((rd_T81 l1_2 x6_3).f5), .bool false]) ?_ 6 _ rfl; (with_reducible repeat (first | apply blk_drewN | apply blk_drew | apply blk_alloc)); refine blk_put (cs := #[.string ((rd_T81 l1_2 x6_3).f0), .string ((rd_T81 l1_2 x6_3).f1), .slice A161_2 ((rd_T81 l1_2 x6_3).f2).length c161_2, .int .i64 ((rd_T81 l1_2 x6_3).f3), .int .i64 ((rd_T81 l1_2 x6_3).f4), .int .i64 0, .bool false]) ?_ 5 _ rfl; (with_reducible repeat (first | apply blk_drewN | apply blk_drew | apply blk_alloc)); refine blk_put (cs := #[.string ((rd_T81 l1_2 x6_3).f0), .string ((rd_T81 l1_2 x6_3).f1), .slice A161_2 ((rd_T81 l1_2 x6_3).f2).length c161_2, .int .i64 ((rd_T81 l1_2 x6_3).f3), .int .i64 0, .int .i64 0, .bool false]) ?_ 4 _ rfl; (with_reducible repeat (first | apply blk_drewN | apply blk_drew | apply blk_alloc)); refine blk_put (cs := #[.string ((rd_T81 l1_2 x6_3).f0), .string ((rd_T81 l1_2 x6_3).f1), .slice A161_2 ((rd_T81 l1_2 x6_3).f2).length c161_2, .int .i64 0, .int .i64 0, .int .i64 0, .bool false]) ?_ 3 _ rfl; (with_reducible repeat (first | apply blk_drewN | apply blk_drew | apply blk_alloc)); refine blk_put (cs := #[.string ((rd_T81 l1_2 x6_3).f0), .string ((rd_T81 l1_2 x6_3).f1), .slice none 0 0, .int .i64 0, .int .i64 0, .int .i64 0, .bool false]) ?_ 2 _ rfl; (with_reducible repeat (first | apply blk_drewN | apply blk_drew | apply blk_alloc)); refine blk_put (cs := #[.string ((rd_T81 l1_2 x6_3).f0), .string (⟨#[]⟩ : ByteArray), .slice none 0 0, .int .i64 0, .int .i64 0, .int .i64 0, .bool false]) ?_ 1 _ rfl; (with_reducible repeat (first | apply blk_drewN | apply blk_drew | apply blk_alloc)); refine blk_put (cs := #[.string (⟨#[]⟩ : ByteArray), .string (⟨#[]⟩ : ByteArray), .slice none 0 0, .int .i64 0, .int .i64 0, .int .i64 0, .bool false]) ?_ 0 _ rfl; (with_reducible repeat (first | apply blk_drewN | apply blk_drew | apply blk_alloc)); exact BK162.out⟩, ⟨hbm⟩⟩
              ·
               rw [if_neg c56] at H
               have c56b0 : (((rd_T81 l0_2 x6_3).f1).toList == ((rd_T81 l1_2 x6_3).f1).toList) = false := beq_eq_false_iff_ne.mpr c56
               have c56b1 : (((rd_T81 l0_2 x6_3).f1).toList != ((rd_T81 l1_2 x6_3).f1).toList) = true := bne_iff_ne.mpr c56
               have H' := Aside0.mk H
               clear H
               have hnb97 := NB160_153.out
               have hnc97 := NB153_160.out
               have hnb98 := NB160_154.out
               have hnc98 := NB154_160.out
               have hnb99 := NB160_162.out
               have hnc99 := NB162_160.out
               obtain ⟨hcz100_0, hcz100_1, hcz100_2, hcz100_3, hcz100_4, hcz100_5, hcz100_6, hfz100_0, hfz100_1, hfz100_2, hfz100_3, hfz100_4, hfz100_5, hfz100_6⟩ := bc7 BK160.out
               have hnb101 := NB162_153.out
               have hnc101 := NB153_162.out
               have hnb102 := NB162_154.out
               have hnc102 := NB154_162.out
               obtain ⟨hcz103_0, hcz103_1, hcz103_2, hcz103_3, hcz103_4, hcz103_5, hcz103_6, hfz103_0, hfz103_1, hfz103_2, hfz103_3, hfz103_4, hfz103_5, hfz103_6⟩ := bc7 BK162.out
               go_wp2
               go_meet
               case rel => exact ⟨_, (true), (by first | rfl | (simp; done) | (simp [*]; done)), H', ⟨by have := HJ2.out; have := HK2.out; have := HK3.out; first | omega | exact Nat.le_refl _⟩, ⟨by (with_reducible repeat (first | apply blk_drewN | apply blk_drew | apply blk_alloc)); refine blk_far ?_ NB153_162.out _; (with_reducible repeat (first | apply blk_drewN | apply blk_drew | apply blk_alloc)); refine blk_far ?_ NB153_162.out _; (with_reducible repeat (first | apply blk_drewN | apply blk_drew | apply blk_alloc)); refine blk_far ?_ NB153_162.out _; (with_reducible repeat (first | apply blk_drewN | apply blk_drew | apply blk_alloc)); refine blk_far ?_ NB153_162.out _; (with_reducible repeat (first | apply blk_drewN | apply blk_drew | apply blk_alloc)); refine blk_far ?_ NB153_162.out _; (with_reducible repeat (first | apply blk_drewN | apply blk_drew | apply blk_alloc)); refine blk_far ?_ NB153_162.out _; (with_reducible repeat (first | apply blk_drewN | apply blk_drew | apply blk_alloc)); refine blk_far ?_ NB153_162.out _; (with_reducible repeat (first | apply blk_drewN | apply blk_drew | apply blk_alloc)); exact BK153.out⟩, ⟨by (with_reducible repeat (first | apply blk_drewN | apply blk_drew | apply blk_alloc)); refine blk_far ?_ NB154_162.out _; (with_reducible repeat (first | apply blk_drewN | apply blk_drew | apply blk_alloc)); refine blk_far ?_ NB154_162.out _; (with_reducible repeat (first | apply blk_drewN | apply blk_drew | apply blk_alloc)); refine blk_far ?_ NB154_162.out _; (with_reducible repeat (first | apply blk_drewN | apply blk_drew | apply blk_alloc)); refine blk_far ?_ NB154_162.out _; (with_reducible repeat (first | apply blk_drewN | apply blk_drew | apply blk_alloc)); refine blk_far ?_ NB154_162.out _; (with_reducible repeat (first | apply blk_drewN | apply blk_drew | apply blk_alloc)); refine blk_far ?_ NB154_162.out _; (with_reducible repeat (first | apply blk_drewN | apply blk_drew | apply blk_alloc)); refine blk_far ?_ NB154_162.out _; (with_reducible repeat (first | apply blk_drewN | apply blk_drew | apply blk_alloc)); exact BK154.out⟩, ⟨by (with_reducible repeat (first | apply blk_drewN | apply blk_drew | apply blk_alloc)); refine blk_far ?_ NB160_162.out _; (with_reducible repeat (first | apply blk_drewN | apply blk_drew | apply blk_alloc)); refine blk_far ?_ NB160_162.out _; (with_reducible repeat (first | apply blk_drewN | apply blk_drew | apply blk_alloc)); refine blk_far ?_ NB160_162.out _; (with_reducible repeat (first | apply blk_drewN | apply blk_drew | apply blk_alloc)); refine blk_far ?_ NB160_162.out _; (with_reducible repeat (first | apply blk_drewN | apply blk_drew | apply blk_alloc)); refine blk_far ?_ NB160_162.out _; (with_reducible repeat (first | apply blk_drewN | apply blk_drew | apply blk_alloc)); refine blk_far ?_ NB160_162.out _; (with_reducible repeat (first | apply blk_drewN | apply blk_drew | apply blk_alloc)); refine blk_far ?_ NB160_162.out _; (with_reducible repeat (first | apply blk_drewN | apply blk_drew | apply blk_alloc)); exact BK160.out⟩, ⟨by (with_reducible repeat (first | apply blk_drewN | apply blk_drew | apply blk_alloc)); refine blk_put (cs := #[.string ((rd_T81 l1_2 x6_3).f0), .string ((rd_T81 l1_2 x6_3).f1), .slice A161_2 ((rd_T81 l1_2 x6_3).f2).length c161_2, .int .i64 ((rd_T81 l1_2 x6_3).f3), .int .i64 ((rd_T81 l1_2 x6_3).f4), .int .i64 ((rd_T81 l1_2 x6_3).f5), .bool false]) ?_ 6 _ rfl; (with_reducible repeat (first | apply blk_drewN | apply blk_drew | apply blk_alloc)); refine blk_put (cs := #[.string ((rd_T81 l1_2 x6_3).f0), .string ((rd_T81 l1_2 x6_3).f1), .slice A161_2 ((rd_T81 l1_2 x6_3).f2).length c161_2, .int .i64 ((rd_T81 l1_2 x6_3).f3), .int .i64 ((rd_T81 l1_2 x6_3).f4), .int .i64 0, .bool false]) ?_ 5 _ rfl; (with_reducible repeat (first | apply blk_drewN | apply blk_drew | apply blk_alloc)); refine blk_put (cs := #[.string ((rd_T81 l1_2 x6_3).f0), .string ((rd_T81 l1_2 x6_3).f1), .slice A161_2 ((rd_T81 l1_2 x6_3).f2).length c161_2, .int .i64 ((rd_T81 l1_2 x6_3).f3), .int .i64 0, .int .i64 0, .bool false]) ?_ 4 _ rfl; (with_reducible repeat (first | apply blk_drewN | apply blk_drew | apply blk_alloc)); refine blk_put (cs := #[.string ((rd_T81 l1_2 x6_3).f0), .string ((rd_T81 l1_2 x6_3).f1), .slice A161_2 ((rd_T81 l1_2 x6_3).f2).length c161_2, .int .i64 0, .int .i64 0, .int .i64 0, .bool false]) ?_ 3 _ rfl; (with_reducible repeat (first | apply blk_drewN | apply blk_drew | apply blk_alloc)); refine blk_put (cs := #[.string ((rd_T81 l1_2 x6_3).f0), .string ((rd_T81 l1_2 x6_3).f1), .slice none 0 0, .int .i64 0, .int .i64 0, .int .i64 0, .bool false]) ?_ 2 _ rfl; (with_reducible repeat (first | apply blk_drewN | apply blk_drew | apply blk_alloc)); refine blk_put (cs := #[.string ((rd_T81 l1_2 x6_3).f0), .string (⟨#[]⟩ : ByteArray), .slice none 0 0, .int .i64 0, .int .i64 0, .int .i64 0, .bool false]) ?_ 1 _ rfl; (with_reducible repeat (first | apply blk_drewN | apply blk_drew | apply blk_alloc)); refine blk_put (cs := #[.string (⟨#[]⟩ : ByteArray), .string (⟨#[]⟩ : ByteArray), .slice none 0 0, .int .i64 0, .int .i64 0, .int .i64 0, .bool false]) ?_ 0 _ rfl; (with_reducible repeat (first | apply blk_drewN | apply blk_drew | apply blk_alloc)); exact BK162.out⟩, ⟨hbm⟩⟩
             ·
              rw [if_neg c55] at H
              have c55b0 : (((rd_T81 l0_2 x6_3).f0).toList == ((rd_T81 l1_2 x6_3).f0).toList) = false := beq_eq_false_iff_ne.mpr c55
              have c55b1 : (((rd_T81 l0_2 x6_3).f0).toList != ((rd_T81 l1_2 x6_3).f0).toList) = true := bne_iff_ne.mpr c55
              (first | rw [c55b0] | (simp only [i64_w, i32_w]; rw [c55b0]) | skip)
              have H' := Aside0.mk H
              clear H
              have hnb104 := NB160_153.out
              have hnc104 := NB153_160.out
              have hnb105 := NB160_154.out
              have hnc105 := NB154_160.out
              have hnb106 := NB160_162.out
              have hnc106 := NB162_160.out
              obtain ⟨hcz107_0, hcz107_1, hcz107_2, hcz107_3, hcz107_4, hcz107_5, hcz107_6, hfz107_0, hfz107_1, hfz107_2, hfz107_3, hfz107_4, hfz107_5, hfz107_6⟩ := bc7 BK160.out
              have hnb108 := NB162_153.out
              have hnc108 := NB153_162.out
              have hnb109 := NB162_154.out
              have hnc109 := NB154_162.out
              obtain ⟨hcz110_0, hcz110_1, hcz110_2, hcz110_3, hcz110_4, hcz110_5, hcz110_6, hfz110_0, hfz110_1, hfz110_2, hfz110_3, hfz110_4, hfz110_5, hfz110_6⟩ := bc7 BK162.out
              go_wp2
              go_meet
              case rel => exact ⟨_, (true), (by first | rfl | (simp; done) | (simp [*]; done)), H', ⟨by have := HJ2.out; have := HK2.out; have := HK3.out; first | omega | exact Nat.le_refl _⟩, ⟨by (with_reducible repeat (first | apply blk_drewN | apply blk_drew | apply blk_alloc)); refine blk_far ?_ NB153_162.out _; (with_reducible repeat (first | apply blk_drewN | apply blk_drew | apply blk_alloc)); refine blk_far ?_ NB153_162.out _; (with_reducible repeat (first | apply blk_drewN | apply blk_drew | apply blk_alloc)); refine blk_far ?_ NB153_162.out _; (with_reducible repeat (first | apply blk_drewN | apply blk_drew | apply blk_alloc)); refine blk_far ?_ NB153_162.out _; (with_reducible repeat (first | apply blk_drewN | apply blk_drew | apply blk_alloc)); refine blk_far ?_ NB153_162.out _; (with_reducible repeat (first | apply blk_drewN | apply blk_drew | apply blk_alloc)); refine blk_far ?_ NB153_162.out _; (with_reducible repeat (first | apply blk_drewN | apply blk_drew | apply blk_alloc)); refine blk_far ?_ NB153_162.out _; (with_reducible repeat (first | apply blk_drewN | apply blk_drew | apply blk_alloc)); exact BK153.out⟩, ⟨by (with_reducible repeat (first | apply blk_drewN | apply blk_drew | apply blk_alloc)); refine blk_far ?_ NB154_162.out _; (with_reducible repeat (first | apply blk_drewN | apply blk_drew | apply blk_alloc)); refine blk_far ?_ NB154_162.out _; (with_reducible repeat (first | apply blk_drewN | apply blk_drew | apply blk_alloc)); refine blk_far ?_ NB154_162.out _; (with_reducible repeat (first | apply blk_drewN | apply blk_drew | apply blk_alloc)); refine blk_far ?_ NB154_162.out _; (with_reducible repeat (first | apply blk_drewN | apply blk_drew | apply blk_alloc)); refine blk_far ?_ NB154_162.out _; (with_reducible repeat (first | apply blk_drewN | apply blk_drew | apply blk_alloc)); refine blk_far ?_ NB154_162.out _; (with_reducible repeat (first | apply blk_drewN | apply blk_drew | apply blk_alloc)); refine blk_far ?_ NB154_162.out _; (with_reducible repeat (first | apply blk_drewN | apply blk_drew | apply blk_alloc)); exact BK154.out⟩, ⟨by (with_reducible repeat (first | apply blk_drewN | apply blk_drew | apply blk_alloc)); refine blk_far ?_ NB160_162.out _; (with_reducible repeat (first | apply blk_drewN | apply blk_drew | apply blk_alloc)); refine blk_far ?_ NB160_162.out _; (with_reducible repeat (first | apply blk_drewN | apply blk_drew | apply blk_alloc)); refine blk_far ?_ NB160_162.out _; (with_reducible repeat (first | apply blk_drewN | apply blk_drew | apply blk_alloc)); refine blk_far ?_ NB160_162.out _; (with_reducible repeat (first | apply blk_drewN | apply blk_drew | apply blk_alloc)); refine blk_far ?_ NB160_162.out _; (with_reducible repeat (first | apply blk_drewN | apply blk_drew | apply blk_alloc)); refine blk_far ?_ NB160_162.out _; (with_reducible repeat (first | apply blk_drewN | apply blk_drew | apply blk_alloc)); refine blk_far ?_ NB160_162.out _; (with_reducible repeat (first | apply blk_drewN | apply blk_drew | apply blk_alloc)); exact BK160.out⟩, ⟨by (with_reducible repeat (first | apply blk_drewN | apply blk_drew | apply blk_alloc)); refine blk_put (cs := #[.string ((rd_T81 l1_2 x6_3).f0), .string ((rd_T81 l1_2 x6_3).f1), .slice A161_2 ((rd_T81 l1_2 x6_3).f2).length c161_2, .int .i64 ((rd_T81 l1_2 x6_3).f3), .int .i64 ((rd_T81 l1_2 x6_3).f4), .int .i64 ((rd_T81 l1_2 x6_3).f5), .bool false]) ?_ 6 _ rfl; (with_reducible repeat (first | apply blk_drewN | apply blk_drew | apply blk_alloc)); refine blk_put (cs := #[.string ((rd_T81 l1_2 x6_3).f0), .string ((rd_T81 l1_2 x6_3).f1), .slice A161_2 ((rd_T81 l1_2 x6_3).f2).length c161_2, .int .i64 ((rd_T81 l1_2 x6_3).f3), .int .i64 ((rd_T81 l1_2 x6_3).f4), .int .i64 0, .bool false]) ?_ 5 _ rfl; (with_reducible repeat (first | apply blk_drewN | apply blk_drew | apply blk_alloc)); refine blk_put (cs := #[.string ((rd_T81 l1_2 x6_3).f0), .string ((rd_T81 l1_2 x6_3).f1), .slice A161_2 ((rd_T81 l1_2 x6_3).f2).length c161_2, .int .i64 ((rd_T81 l1_2 x6_3).f3), .int .i64 0, .int .i64 0, .bool false]) ?_ 4 _ rfl; (with_reducible repeat (first | apply blk_drewN | apply blk_drew | apply blk_alloc)); refine blk_put (cs := #[.string ((rd_T81 l1_2 x6_3).f0), .string ((rd_T81 l1_2 x6_3).f1), .slice A161_2 ((rd_T81 l1_2 x6_3).f2).length c161_2, .int .i64 0, .int .i64 0, .int .i64 0, .bool false]) ?_ 3 _ rfl; (with_reducible repeat (first | apply blk_drewN | apply blk_drew | apply blk_alloc)); refine blk_put (cs := #[.string ((rd_T81 l1_2 x6_3).f0), .string ((rd_T81 l1_2 x6_3).f1), .slice none 0 0, .int .i64 0, .int .i64 0, .int .i64 0, .bool false]) ?_ 2 _ rfl; (with_reducible repeat (first | apply blk_drewN | apply blk_drew | apply blk_alloc)); refine blk_put (cs := #[.string ((rd_T81 l1_2 x6_3).f0), .string (⟨#[]⟩ : ByteArray), .slice none 0 0, .int .i64 0, .int .i64 0, .int .i64 0, .bool false]) ?_ 1 _ rfl; (with_reducible repeat (first | apply blk_drewN | apply blk_drew | apply blk_alloc)); refine blk_put (cs := #[.string (⟨#[]⟩ : ByteArray), .string (⟨#[]⟩ : ByteArray), .slice none 0 0, .int .i64 0, .int .i64 0, .int .i64 0, .bool false]) ?_ 0 _ rfl; (with_reducible repeat (first | apply blk_drewN | apply blk_drew | apply blk_alloc)); exact BK162.out⟩, ⟨hbm⟩⟩
            case rest =>
             clear HC42
             try clear c1; try clear p1 p1; try clear q1 q1; try clear hx1; try clear c2; try clear p2 p2; try clear c3; try clear c4; try clear c5; try clear c6; try clear p6 p6; try clear c7; try clear c8; try clear c9; try clear c10; try clear c15; try clear p15 p15; try clear q15 q15; try clear hx15; try clear c16; try clear p16; try clear q16; try clear hx16; try clear c24; try clear c24b0; try clear c25; try clear c25b0; try clear c26; try clear c26b0; try clear c28; try clear c29; try clear c33; try clear c37; try clear c39; try clear c39b0; try clear c40; try clear c40b0; try clear c41; try clear c41b0; try clear c43; try clear c46; try clear c47; try clear c51; try clear c52; try clear c53; try clear c55; try clear c55b0; try clear c55b1; try clear c56; try clear c56b0; try clear c56b1; try clear c58; try clear c59; try clear c59b0; try clear c59b1; try clear c60; try clear c60b0; try clear c60b1; try clear c61; try clear c61b0; try clear c61b1; try clear c62; try clear c63; try clear c64; try clear c66; try clear c67; try clear c69; try clear c70; try clear c71; try clear c73; try clear c74; try clear c76; try clear c77; try clear c78; try clear c80; try clear c81; try clear c83; try clear c84; try clear c85; try clear c87; try clear c88; try clear c90; try clear c91; try clear c92; try clear c94; try clear c95; try clear c97; try clear c98; try clear c99; try clear c101; try clear c102; try clear c104; try clear c105; try clear c106; try clear c108; try clear c109; try clear hcz100_0 hcz100_1 hcz100_2 hcz100_3 hcz100_4 hcz100_5 hcz100_6 hfz100_0 hfz100_1 hfz100_2 hfz100_3 hfz100_4 hfz100_5 hfz100_6; try clear hcz103_0 hcz103_1 hcz103_2 hcz103_3 hcz103_4 hcz103_5 hcz103_6 hfz103_0 hfz103_1 hfz103_2 hfz103_3 hfz103_4 hfz103_5 hfz103_6; try clear hcz107_0 hcz107_1 hcz107_2 hcz107_3 hcz107_4 hcz107_5 hcz107_6 hfz107_0 hfz107_1 hfz107_2 hfz107_3 hfz107_4 hfz107_5 hfz107_6; try clear hcz110_0 hcz110_1 hcz110_2 hcz110_3 hcz110_4 hcz110_5 hcz110_6 hfz110_0 hfz110_1 hfz110_2 hfz110_3 hfz110_4 hfz110_5 hfz110_6; try clear hcz30_0 hcz30_1 hcz30_2 hcz30_3 hcz30_4 hfz30_0 hfz30_1 hfz30_2 hfz30_3 hfz30_4; try clear hcz34_0 hcz34_1 hcz34_2 hcz34_3 hcz34_4 hfz34_0 hfz34_1 hfz34_2 hfz34_3 hfz34_4; try clear hcz38_0 hcz38_1 hcz38_2 hcz38_3 hcz38_4 hfz38_0 hfz38_1 hfz38_2 hfz38_3 hfz38_4; try clear hcz44_0 hcz44_1 hcz44_2 hcz44_3 hcz44_4 hfz44_0 hfz44_1 hfz44_2 hfz44_3 hfz44_4; try clear hcz48_0 hcz48_1 hcz48_2 hcz48_3 hcz48_4 hcz48_5 hcz48_6 hfz48_0 hfz48_1 hfz48_2 hfz48_3 hfz48_4 hfz48_5 hfz48_6; try clear hcz49_0 hcz49_1 hcz49_2 hcz49_3 hcz49_4 hfz49_0 hfz49_1 hfz49_2 hfz49_3 hfz49_4; try clear hcz54_0 hcz54_1 hcz54_2 hcz54_3 hcz54_4 hcz54_5 hcz54_6 hfz54_0 hfz54_1 hfz54_2 hfz54_3 hfz54_4 hfz54_5 hfz54_6; try clear hcz65_0 hcz65_1 hcz65_2 hcz65_3 hcz65_4 hcz65_5 hcz65_6 hfz65_0 hfz65_1 hfz65_2 hfz65_3 hfz65_4 hfz65_5 hfz65_6; try clear hcz68_0 hcz68_1 hcz68_2 hcz68_3 hcz68_4 hcz68_5 hcz68_6 hfz68_0 hfz68_1 hfz68_2 hfz68_3 hfz68_4 hfz68_5 hfz68_6; try clear hcz72_0 hcz72_1 hcz72_2 hcz72_3 hcz72_4 hcz72_5 hcz72_6 hfz72_0 hfz72_1 hfz72_2 hfz72_3 hfz72_4 hfz72_5 hfz72_6; try clear hcz75_0 hcz75_1 hcz75_2 hcz75_3 hcz75_4 hcz75_5 hcz75_6 hfz75_0 hfz75_1 hfz75_2 hfz75_3 hfz75_4 hfz75_5 hfz75_6; try clear hcz79_0 hcz79_1 hcz79_2 hcz79_3 hcz79_4 hcz79_5 hcz79_6 hfz79_0 hfz79_1 hfz79_2 hfz79_3 hfz79_4 hfz79_5 hfz79_6; try clear hcz82_0 hcz82_1 hcz82_2 hcz82_3 hcz82_4 hcz82_5 hcz82_6 hfz82_0 hfz82_1 hfz82_2 hfz82_3 hfz82_4 hfz82_5 hfz82_6; try clear hcz86_0 hcz86_1 hcz86_2 hcz86_3 hcz86_4 hcz86_5 hcz86_6 hfz86_0 hfz86_1 hfz86_2 hfz86_3 hfz86_4 hfz86_5 hfz86_6; try clear hcz89_0 hcz89_1 hcz89_2 hcz89_3 hcz89_4 hcz89_5 hcz89_6 hfz89_0 hfz89_1 hfz89_2 hfz89_3 hfz89_4 hfz89_5 hfz89_6; try clear hcz93_0 hcz93_1 hcz93_2 hcz93_3 hcz93_4 hcz93_5 hcz93_6 hfz93_0 hfz93_1 hfz93_2 hfz93_3 hfz93_4 hfz93_5 hfz93_6; try clear hcz96_0 hcz96_1 hcz96_2 hcz96_3 hcz96_4 hcz96_5 hcz96_6 hfz96_0 hfz96_1 hfz96_2 hfz96_3 hfz96_4 hfz96_5 hfz96_6; try clear hfz11_1 hfz11_2 hfz11_3 hfz11_4; try clear hfz12_0 hfz12_1 hfz12_2 hfz12_3 hfz12_4; try clear hfz15_0 hfz15_1 hfz15_2 hfz15_3 hfz15_4; try clear hfz16_0 hfz16_1 hfz16_2 hfz16_3 hfz16_4; try clear hfz18_0 hfz18_1 hfz18_2 hfz18_3 hfz18_4; try clear hfz19_0 hfz19_1 hfz19_2 hfz19_3 hfz19_4; try clear hfz21_0 hfz21_1 hfz21_2 hfz21_3 hfz21_4; try clear hfz22_0 hfz22_1 hfz22_2 hfz22_3 hfz22_4; try clear hx156_0; try clear hx156_1; try clear hx156_2; try clear hx156_3; try clear hx156_4; try clear hx156_5; try clear hx156_6; try clear hx156_7; try clear hx157_0; try clear hx157_1; try clear hx157_2; try clear hx157_3; try clear hx157_4; try clear hx157_5; try clear hx157_6; try clear hx157_7; try clear hx159_0; try clear hx159_1; try clear hx159_2; try clear hx159_3; try clear hx159_4; try clear hx159_5; try clear hx159_6; try clear hx161_0; try clear hx161_1; try clear hx161_2; try clear hx161_3; try clear hx161_4; try clear hx161_5; try clear hx161_6; try clear p156; try clear p157; try clear p159; try clear p161; try clear q156; try clear q157; try clear q159; try clear q161
             obtain ⟨kq, x123_41, rfl, HA, HJ41, BK153, BK154, BK160, BK162, HB⟩ := hcut
             cases kq with
             | zero => exact absurd HA.out (by simp [spec_EngineSame.j3])
             | succ kj41 =>
              have H := HA.out
              clear HA
              simp only [spec_EngineSame.j3] at H
              by_cases c111 : x123_41 = true
              ·
               subst c111
               have H1 : (some false) = some r := by rw [if_pos rfl] at H; exact H
               clear H
               have H := H1
               clear H1
               obtain rfl := Option.some.inj H
               go_wp2
               go_ret
               exact ⟨rfm, hbm⟩
              ·
               replace c111 := Bool.eq_false_iff.mpr c111
               subst c111
               have H1 : (spec_EngineSame.l1 kj41 (wrap64 (x6_3 + 1)) a0_0 l0_1 l0_2 l0_3 l0_4 a1_0 l1_1 l1_2 l1_3 l1_4) = some r := by rw [if_neg (show ¬ (false = true) by decide)] at H; exact H
               clear H
               have H := H1
               clear H1
               have H' := Aside0.mk H
               clear H
               go_wp2
               go_roundg kj41
               case measure => have := HJ2.out; have := HK2.out; have := HK3.out; have := HJ41.out; omega
               case rel => exact ⟨(wrap64 (x6_3 + 1)), (by first | rfl | (simp; done) | (simp [*]; done)), H', ⟨by have := HJ2.out; have := HK2.out; have := HK3.out; have := HJ41.out; omega⟩, ⟨by (with_reducible repeat (first | apply blk_drewN | apply blk_drew | apply blk_alloc)); exact BK153.out⟩, ⟨by (with_reducible repeat (first | apply blk_drewN | apply blk_drew | apply blk_alloc)); exact BK154.out⟩, ⟨hbm⟩⟩
           ·
            rw [if_neg c41] at H
            exact absurd H (by simp)
          ·
           rw [if_neg c40] at H
           exact absurd H (by simp)
         ·
          rw [if_neg c39] at H
          have c39b0 := decide_eq_false c39
          clear c39
          obtain rfl := Option.some.inj H
          have hnb112 := NB153_154.out
          have hnc112 := NB154_153.out
          obtain ⟨hcz113_0, hcz113_1, hcz113_2, hcz113_3, hcz113_4, hfz113_0, hfz113_1, hfz113_2, hfz113_3, hfz113_4⟩ := bc5 BK153.out
          go_wp2
          go_ret
          exact ⟨rfm, hbm⟩

end Go.Proofs.Ytidlcolgiololaa.S
