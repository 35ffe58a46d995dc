/- Proved: each Go function named here answers as its plain Lean function says, in whatever memory; no condition. Written by a program of this session over the print of the kit. -/
import Derived.Test.YtidlcolgiololaaSq
import Derived.Test.YtidlcolgiololaaS0
import Derived.Test.YtidlcolgiololaaS9
import Derived.Test.YtidlcolgiololaaS10
namespace Go.Proofs.Ytidlcolgiololaa.S
open Go.RowKit Go.Proofs.YtidlcolgiololaaW.PrintWords Go.Proofs.YtidlcolgiololaaW.PrintLast Go.Proofs.YtidlcolgiololaaW.PrintMore
attribute [local go_sem] max2_int min2_int max_two min_two max_three min_three max_four min_four   -- for this text's walks alone
set_option linter.unusedVariables false
set_option linter.unusedSimpArgs false

/-! ### impl_Module_heights: function 51 -/
mutual
def impl_Module_heights.l0 : Nat → List Int → List Int → Int → Int → Int → Int → List (S64) → Option (List Int × Bool)
 | 0, _, _, _, _, _, _, _ => none
 | k + 1, x4, x5, x229000, x229001, x229002, x229003, x229004 => if (x5.length : Int) > 0 then (if 0 ≤ (wrap64 ((x5.length : Int) - 1)) then (if (wrap64 ((x5.length : Int) - 1)) < (x5.length : Int) then (if (wrap64 ((x5.length : Int) - 1)) ≤ (x5.length : Int) then ((some (x5.take ((wrap64 ((x5.length : Int) - 1)) : Int).toNat : List Int)).bind fun y240 => (if 0 ≤ (rd x5 (wrap64 ((x5.length : Int) - 1))) then (if (rd x5 (wrap64 ((x5.length : Int) - 1))) < (x229004.length : Int) then ((impl_Ins_takes.f k ((rd_T64 x229004 (rd x5 (wrap64 ((x5.length : Int) - 1)))).f0) ((rd_T64 x229004 (rd x5 (wrap64 ((x5.length : Int) - 1)))).f1) ((rd_T64 x229004 (rd x5 (wrap64 ((x5.length : Int) - 1)))).f2)).bind fun bt245 => (if (rd x5 (wrap64 ((x5.length : Int) - 1))) < (x4.length : Int) then (if (rd x4 (rd x5 (wrap64 ((x5.length : Int) - 1)))) < bt245.1 then (impl_Module_heights.j1 k x4 y240 (rd x5 (wrap64 ((x5.length : Int) - 1))) (wrap64 ((wrap64 ((rd x4 (rd x5 (wrap64 ((x5.length : Int) - 1)))) - bt245.1)) + bt245.2)) true x229000 x229001 x229002 x229003 x229004 ((rd_T64 x229004 (rd x5 (wrap64 ((x5.length : Int) - 1)))).f0) ((rd_T64 x229004 (rd x5 (wrap64 ((x5.length : Int) - 1)))).f1) ((rd_T64 x229004 (rd x5 (wrap64 ((x5.length : Int) - 1)))).f2)) else (impl_Module_heights.j1 k x4 y240 (rd x5 (wrap64 ((x5.length : Int) - 1))) (wrap64 ((wrap64 ((rd x4 (rd x5 (wrap64 ((x5.length : Int) - 1)))) - bt245.1)) + bt245.2)) (decide ((wrap64 ((wrap64 ((rd x4 (rd x5 (wrap64 ((x5.length : Int) - 1)))) - bt245.1)) + bt245.2)) > 60)) x229000 x229001 x229002 x229003 x229004 ((rd_T64 x229004 (rd x5 (wrap64 ((x5.length : Int) - 1)))).f0) ((rd_T64 x229004 (rd x5 (wrap64 ((x5.length : Int) - 1)))).f1) ((rd_T64 x229004 (rd x5 (wrap64 ((x5.length : Int) - 1)))).f2))) else (none))) else (none)) else (none))) else (none)) else (none)) else (none)) else (some (x4, true))
def impl_Module_heights.j1 : Nat → List Int → List Int → Int → Int → Bool → Int → Int → Int → Int → List (S64) → Int → Int → Int → Option (List Int × Bool)
 | 0, _, _, _, _, _, _, _, _, _, _, _, _, _ => none
 | k + 1, x4, x5, x6, x10, x63, x229000, x229001, x229002, x229003, x229004, x245000, x245001, x245002 => if x63 = true then (some (([] : List Int), false)) else ((some (([] : List Int) : List Int)).bind fun y249 => (if x245000 = 22 then (impl_Module_heights.j2 k x4 x5 x6 x10 y249 false x229000 x229001 x229002 x229003 x229004 x245000 x245001 x245002) else (if x245000 = 24 then (impl_Module_heights.j2 k x4 x5 x6 x10 y249 false x229000 x229001 x229002 x229003 x229004 x245000 x245001 x245002) else (impl_Module_heights.j2 k x4 x5 x6 x10 y249 (x245000 != 26) x229000 x229001 x229002 x229003 x229004 x245000 x245001 x245002))))
def impl_Module_heights.j2 : Nat → List Int → List Int → Int → Int → List Int → Bool → Int → Int → Int → Int → List (S64) → Int → Int → Int → Option (List Int × Bool)
 | 0, _, _, _, _, _, _, _, _, _, _, _, _, _, _ => none
 | k + 1, x4, x5, x6, x10, x11, x77, x229000, x229001, x229002, x229003, x229004, x245000, x245001, x245002 => if x77 = true then (if x11.length < 17592186044416 then (impl_Module_heights.j3 k x4 x5 x10 (x11 ++ [wrap64 (x6 + 1)]) x229000 x229001 x229002 x229003 x229004 x245000 x245001 x245002) else (none)) else (impl_Module_heights.j3 k x4 x5 x10 x11 x229000 x229001 x229002 x229003 x229004 x245000 x245001 x245002)
def impl_Module_heights.j3 : Nat → List Int → List Int → Int → List Int → Int → Int → Int → Int → List (S64) → Int → Int → Int → Option (List Int × Bool)
 | 0, _, _, _, _, _, _, _, _, _, _, _, _ => none
 | k + 1, x4, x5, x10, x11, x229000, x229001, x229002, x229003, x229004, x245000, x245001, x245002 => if x245000 = 21 then (impl_Module_heights.j4 k x4 x5 x10 x11 true x229000 x229001 x229002 x229003 x229004 x245000 x245001 x245002) else (impl_Module_heights.j4 k x4 x5 x10 x11 (x245000 == 22) x229000 x229001 x229002 x229003 x229004 x245000 x245001 x245002)
def impl_Module_heights.j4 : Nat → List Int → List Int → Int → List Int → Bool → Int → Int → Int → Int → List (S64) → Int → Int → Int → Option (List Int × Bool)
 | 0, _, _, _, _, _, _, _, _, _, _, _, _, _ => none
 | k + 1, x4, x5, x10, x11, x90, x229000, x229001, x229002, x229003, x229004, x245000, x245001, x245002 => if x90 = true then (if x11.length < 17592186044416 then (impl_Module_heights.j5 k x4 x5 x10 (x11 ++ [x245001]) x229000 x229001 x229002 x229003 x229004) else (none)) else (impl_Module_heights.j5 k x4 x5 x10 x11 x229000 x229001 x229002 x229003 x229004)
def impl_Module_heights.j5 : Nat → List Int → List Int → Int → List Int → Int → Int → Int → Int → List (S64) → Option (List Int × Bool)
 | 0, _, _, _, _, _, _, _, _, _ => none
 | k + 1, x4, x5, x10, x11, x229000, x229001, x229002, x229003, x229004 => impl_Module_heights.l1 k x4 x5 x10 x11 (x11.length : Int) 0 x229000 x229001 x229002 x229003 x229004
def impl_Module_heights.l1 : Nat → List Int → List Int → Int → List Int → Int → Int → Int → Int → Int → Int → List (S64) → Option (List Int × Bool)
 | 0, _, _, _, _, _, _, _, _, _, _, _ => none
 | k + 1, x4, x5, x10, x96, x97, x98, x229000, x229001, x229002, x229003, x229004 => if x98 < x97 then (if 0 ≤ x98 then (if x98 < (x96.length : Int) then (if (rd x96 x98) = (x229004.length : Int) then (impl_Module_heights.j7 k x4 x5 x10 (rd x96 x98) x96 x97 x98 true x229000 x229001 x229002 x229003 x229004) else (if 0 ≤ (rd x96 x98) then (if (rd x96 x98) < (x4.length : Int) then (if (rd x4 (rd x96 x98)) ≥ 0 then (impl_Module_heights.j7 k x4 x5 x10 (rd x96 x98) x96 x97 x98 ((rd x4 (rd x96 x98)) != x10) x229000 x229001 x229002 x229003 x229004) else (impl_Module_heights.j7 k x4 x5 x10 (rd x96 x98) x96 x97 x98 false x229000 x229001 x229002 x229003 x229004)) else (none)) else (none))) else (none)) else (none)) else (impl_Module_heights.l0 k x4 x5 x229000 x229001 x229002 x229003 x229004)
def impl_Module_heights.j7 : Nat → List Int → List Int → Int → Int → List Int → Int → Int → Bool → Int → Int → Int → Int → List (S64) → Option (List Int × Bool)
 | 0, _, _, _, _, _, _, _, _, _, _, _, _, _ => none
 | k + 1, x4, x5, x10, x13, x96, x97, x98, x102, x229000, x229001, x229002, x229003, x229004 => if x102 = true then (some (([] : List Int), false)) else (if 0 ≤ x13 then (if x13 < (x4.length : Int) then (if (rd x4 x13) < 0 then (if x5.length < 17592186044416 then (impl_Module_heights.l1 k (x4.set (x13 : Int).toNat x10) (x5 ++ [x13]) x10 x96 x97 (wrap64 (x98 + 1)) x229000 x229001 x229002 x229003 x229004) else (none)) else (impl_Module_heights.l1 k x4 x5 x10 x96 x97 (wrap64 (x98 + 1)) x229000 x229001 x229002 x229003 x229004)) else (none)) else (none))
end
def impl_Module_heights.f (k : Nat) (a0_0 : Int) (a0_1 : Int) (a0_2 : Int) (a0_3 : Int) (l0_4 : List (S64)) : Option (List Int × Bool) := (slices_Repeat_int64_int64.f (([(-1)] : List Int)) (l0_4.length : Int)).bind fun t232 => (if 0 < (t232.length : Int) then (impl_Module_heights.l0 k (t232.set (0 : Int).toNat 0) (([0] : List Int)) a0_0 a0_1 a0_2 a0_3 l0_4) else (none))
theorem impl_Module_heights.mono_l : ∀ k, (∀ y0 y1 y2 y3 y4 y5 y6, LeO (impl_Module_heights.l0 k y0 y1 y2 y3 y4 y5 y6) (impl_Module_heights.l0 (k + 1) y0 y1 y2 y3 y4 y5 y6)) ∧ (∀ y0 y1 y2 y3 y4 y5 y6 y7 y8 y9 y10 y11 y12, LeO (impl_Module_heights.j1 k y0 y1 y2 y3 y4 y5 y6 y7 y8 y9 y10 y11 y12) (impl_Module_heights.j1 (k + 1) y0 y1 y2 y3 y4 y5 y6 y7 y8 y9 y10 y11 y12)) ∧ (∀ y0 y1 y2 y3 y4 y5 y6 y7 y8 y9 y10 y11 y12 y13, LeO (impl_Module_heights.j2 k y0 y1 y2 y3 y4 y5 y6 y7 y8 y9 y10 y11 y12 y13) (impl_Module_heights.j2 (k + 1) y0 y1 y2 y3 y4 y5 y6 y7 y8 y9 y10 y11 y12 y13)) ∧ (∀ y0 y1 y2 y3 y4 y5 y6 y7 y8 y9 y10 y11, LeO (impl_Module_heights.j3 k y0 y1 y2 y3 y4 y5 y6 y7 y8 y9 y10 y11) (impl_Module_heights.j3 (k + 1) y0 y1 y2 y3 y4 y5 y6 y7 y8 y9 y10 y11)) ∧ (∀ y0 y1 y2 y3 y4 y5 y6 y7 y8 y9 y10 y11 y12, LeO (impl_Module_heights.j4 k y0 y1 y2 y3 y4 y5 y6 y7 y8 y9 y10 y11 y12) (impl_Module_heights.j4 (k + 1) y0 y1 y2 y3 y4 y5 y6 y7 y8 y9 y10 y11 y12)) ∧ (∀ y0 y1 y2 y3 y4 y5 y6 y7 y8, LeO (impl_Module_heights.j5 k y0 y1 y2 y3 y4 y5 y6 y7 y8) (impl_Module_heights.j5 (k + 1) y0 y1 y2 y3 y4 y5 y6 y7 y8)) ∧ (∀ y0 y1 y2 y3 y4 y5 y6 y7 y8 y9 y10, LeO (impl_Module_heights.l1 k y0 y1 y2 y3 y4 y5 y6 y7 y8 y9 y10) (impl_Module_heights.l1 (k + 1) y0 y1 y2 y3 y4 y5 y6 y7 y8 y9 y10)) ∧ (∀ y0 y1 y2 y3 y4 y5 y6 y7 y8 y9 y10 y11 y12, LeO (impl_Module_heights.j7 k y0 y1 y2 y3 y4 y5 y6 y7 y8 y9 y10 y11 y12) (impl_Module_heights.j7 (k + 1) y0 y1 y2 y3 y4 y5 y6 y7 y8 y9 y10 y11 y12))
 | 0 => ⟨fun _ _ _ _ _ _ _ r h => by simp [impl_Module_heights.l0] at h, fun _ _ _ _ _ _ _ _ _ _ _ _ _ r h => by simp [impl_Module_heights.j1] at h, fun _ _ _ _ _ _ _ _ _ _ _ _ _ _ r h => by simp [impl_Module_heights.j2] at h, fun _ _ _ _ _ _ _ _ _ _ _ _ r h => by simp [impl_Module_heights.j3] at h, fun _ _ _ _ _ _ _ _ _ _ _ _ _ r h => by simp [impl_Module_heights.j4] at h, fun _ _ _ _ _ _ _ _ _ r h => by simp [impl_Module_heights.j5] at h, fun _ _ _ _ _ _ _ _ _ _ _ r h => by simp [impl_Module_heights.l1] at h, fun _ _ _ _ _ _ _ _ _ _ _ _ _ r h => by simp [impl_Module_heights.j7] at h⟩
 | k + 1 => by
  obtain ⟨ih0, ih1, ih2, ih3, ih4, ih5, ih6, ih7⟩ := impl_Module_heights.mono_l k
  refine ⟨?_, ?_, ?_, ?_, ?_, ?_, ?_, ?_⟩
  ·
   intro y0 y1 y2 y3 y4 y5 y6
   unfold impl_Module_heights.l0
   repeat' first
   | (with_reducible exact ih0 _ _ _ _ _ _ _)
   | (with_reducible exact ih1 _ _ _ _ _ _ _ _ _ _ _ _ _)
   | (with_reducible exact ih2 _ _ _ _ _ _ _ _ _ _ _ _ _ _)
   | (with_reducible exact ih3 _ _ _ _ _ _ _ _ _ _ _ _)
   | (with_reducible exact ih4 _ _ _ _ _ _ _ _ _ _ _ _ _)
   | (with_reducible exact ih5 _ _ _ _ _ _ _ _ _)
   | (with_reducible exact ih6 _ _ _ _ _ _ _ _ _ _ _)
   | (with_reducible exact ih7 _ _ _ _ _ _ _ _ _ _ _ _ _)
   | (with_reducible exact impl_Ins_takes.mono _ _ _ _)
   | (with_reducible exact LeO.refl _)
   | (with_reducible exact LeO.none _)
   | (with_reducible refine LeO.ite ?_ ?_)
   | (with_reducible refine LeO.bind ?_ (fun _ => ?_))
   | exact ih0 _ _ _ _ _ _ _
   | exact ih1 _ _ _ _ _ _ _ _ _ _ _ _ _
   | exact ih2 _ _ _ _ _ _ _ _ _ _ _ _ _ _
   | exact ih3 _ _ _ _ _ _ _ _ _ _ _ _
   | exact ih4 _ _ _ _ _ _ _ _ _ _ _ _ _
   | exact ih5 _ _ _ _ _ _ _ _ _
   | exact ih6 _ _ _ _ _ _ _ _ _ _ _
   | exact ih7 _ _ _ _ _ _ _ _ _ _ _ _ _
   | exact impl_Ins_takes.mono _ _ _ _
   | exact LeO.none _
   | refine LeO.ite ?_ ?_
   | refine LeO.bind ?_ (fun _ => ?_)
  ·
   intro y0 y1 y2 y3 y4 y5 y6 y7 y8 y9 y10 y11 y12
   unfold impl_Module_heights.j1
   repeat' first
   | (with_reducible exact ih0 _ _ _ _ _ _ _)
   | (with_reducible exact ih1 _ _ _ _ _ _ _ _ _ _ _ _ _)
   | (with_reducible exact ih2 _ _ _ _ _ _ _ _ _ _ _ _ _ _)
   | (with_reducible exact ih3 _ _ _ _ _ _ _ _ _ _ _ _)
   | (with_reducible exact ih4 _ _ _ _ _ _ _ _ _ _ _ _ _)
   | (with_reducible exact ih5 _ _ _ _ _ _ _ _ _)
   | (with_reducible exact ih6 _ _ _ _ _ _ _ _ _ _ _)
   | (with_reducible exact ih7 _ _ _ _ _ _ _ _ _ _ _ _ _)
   | (with_reducible exact impl_Ins_takes.mono _ _ _ _)
   | (with_reducible exact LeO.refl _)
   | (with_reducible exact LeO.none _)
   | (with_reducible refine LeO.ite ?_ ?_)
   | (with_reducible refine LeO.bind ?_ (fun _ => ?_))
   | exact ih0 _ _ _ _ _ _ _
   | exact ih1 _ _ _ _ _ _ _ _ _ _ _ _ _
   | exact ih2 _ _ _ _ _ _ _ _ _ _ _ _ _ _
   | exact ih3 _ _ _ _ _ _ _ _ _ _ _ _
   | exact ih4 _ _ _ _ _ _ _ _ _ _ _ _ _
   | exact ih5 _ _ _ _ _ _ _ _ _
   | exact ih6 _ _ _ _ _ _ _ _ _ _ _
   | exact ih7 _ _ _ _ _ _ _ _ _ _ _ _ _
   | exact impl_Ins_takes.mono _ _ _ _
   | exact LeO.none _
   | refine LeO.ite ?_ ?_
   | refine LeO.bind ?_ (fun _ => ?_)
  ·
   intro y0 y1 y2 y3 y4 y5 y6 y7 y8 y9 y10 y11 y12 y13
   unfold impl_Module_heights.j2
   repeat' first
   | (with_reducible exact ih0 _ _ _ _ _ _ _)
   | (with_reducible exact ih1 _ _ _ _ _ _ _ _ _ _ _ _ _)
   | (with_reducible exact ih2 _ _ _ _ _ _ _ _ _ _ _ _ _ _)
   | (with_reducible exact ih3 _ _ _ _ _ _ _ _ _ _ _ _)
   | (with_reducible exact ih4 _ _ _ _ _ _ _ _ _ _ _ _ _)
   | (with_reducible exact ih5 _ _ _ _ _ _ _ _ _)
   | (with_reducible exact ih6 _ _ _ _ _ _ _ _ _ _ _)
   | (with_reducible exact ih7 _ _ _ _ _ _ _ _ _ _ _ _ _)
   | (with_reducible exact impl_Ins_takes.mono _ _ _ _)
   | (with_reducible exact LeO.refl _)
   | (with_reducible exact LeO.none _)
   | (with_reducible refine LeO.ite ?_ ?_)
   | (with_reducible refine LeO.bind ?_ (fun _ => ?_))
   | exact ih0 _ _ _ _ _ _ _
   | exact ih1 _ _ _ _ _ _ _ _ _ _ _ _ _
   | exact ih2 _ _ _ _ _ _ _ _ _ _ _ _ _ _
   | exact ih3 _ _ _ _ _ _ _ _ _ _ _ _
   | exact ih4 _ _ _ _ _ _ _ _ _ _ _ _ _
   | exact ih5 _ _ _ _ _ _ _ _ _
   | exact ih6 _ _ _ _ _ _ _ _ _ _ _
   | exact ih7 _ _ _ _ _ _ _ _ _ _ _ _ _
   | exact impl_Ins_takes.mono _ _ _ _
   | exact LeO.none _
   | refine LeO.ite ?_ ?_
   | refine LeO.bind ?_ (fun _ => ?_)
  ·
   intro y0 y1 y2 y3 y4 y5 y6 y7 y8 y9 y10 y11
   unfold impl_Module_heights.j3
   repeat' first
   | (with_reducible exact ih0 _ _ _ _ _ _ _)
   | (with_reducible exact ih1 _ _ _ _ _ _ _ _ _ _ _ _ _)
   | (with_reducible exact ih2 _ _ _ _ _ _ _ _ _ _ _ _ _ _)
   | (with_reducible exact ih3 _ _ _ _ _ _ _ _ _ _ _ _)
   | (with_reducible exact ih4 _ _ _ _ _ _ _ _ _ _ _ _ _)
   | (with_reducible exact ih5 _ _ _ _ _ _ _ _ _)
   | (with_reducible exact ih6 _ _ _ _ _ _ _ _ _ _ _)
   | (with_reducible exact ih7 _ _ _ _ _ _ _ _ _ _ _ _ _)
   | (with_reducible exact impl_Ins_takes.mono _ _ _ _)
   | (with_reducible exact LeO.refl _)
   | (with_reducible exact LeO.none _)
   | (with_reducible refine LeO.ite ?_ ?_)
   | (with_reducible refine LeO.bind ?_ (fun _ => ?_))
   | exact ih0 _ _ _ _ _ _ _
   | exact ih1 _ _ _ _ _ _ _ _ _ _ _ _ _
   | exact ih2 _ _ _ _ _ _ _ _ _ _ _ _ _ _
   | exact ih3 _ _ _ _ _ _ _ _ _ _ _ _
   | exact ih4 _ _ _ _ _ _ _ _ _ _ _ _ _
   | exact ih5 _ _ _ _ _ _ _ _ _
   | exact ih6 _ _ _ _ _ _ _ _ _ _ _
   | exact ih7 _ _ _ _ _ _ _ _ _ _ _ _ _
   | exact impl_Ins_takes.mono _ _ _ _
   | exact LeO.none _
   | refine LeO.ite ?_ ?_
   | refine LeO.bind ?_ (fun _ => ?_)
  ·
   intro y0 y1 y2 y3 y4 y5 y6 y7 y8 y9 y10 y11 y12
   unfold impl_Module_heights.j4
   repeat' first
   | (with_reducible exact ih0 _ _ _ _ _ _ _)
   | (with_reducible exact ih1 _ _ _ _ _ _ _ _ _ _ _ _ _)
   | (with_reducible exact ih2 _ _ _ _ _ _ _ _ _ _ _ _ _ _)
   | (with_reducible exact ih3 _ _ _ _ _ _ _ _ _ _ _ _)
   | (with_reducible exact ih4 _ _ _ _ _ _ _ _ _ _ _ _ _)
   | (with_reducible exact ih5 _ _ _ _ _ _ _ _ _)
   | (with_reducible exact ih6 _ _ _ _ _ _ _ _ _ _ _)
   | (with_reducible exact ih7 _ _ _ _ _ _ _ _ _ _ _ _ _)
   | (with_reducible exact impl_Ins_takes.mono _ _ _ _)
   | (with_reducible exact LeO.refl _)
   | (with_reducible exact LeO.none _)
   | (with_reducible refine LeO.ite ?_ ?_)
   | (with_reducible refine LeO.bind ?_ (fun _ => ?_))
   | exact ih0 _ _ _ _ _ _ _
   | exact ih1 _ _ _ _ _ _ _ _ _ _ _ _ _
   | exact ih2 _ _ _ _ _ _ _ _ _ _ _ _ _ _
   | exact ih3 _ _ _ _ _ _ _ _ _ _ _ _
   | exact ih4 _ _ _ _ _ _ _ _ _ _ _ _ _
   | exact ih5 _ _ _ _ _ _ _ _ _
   | exact ih6 _ _ _ _ _ _ _ _ _ _ _
   | exact ih7 _ _ _ _ _ _ _ _ _ _ _ _ _
   | exact impl_Ins_takes.mono _ _ _ _
   | exact LeO.none _
   | refine LeO.ite ?_ ?_
   | refine LeO.bind ?_ (fun _ => ?_)
  ·
   intro y0 y1 y2 y3 y4 y5 y6 y7 y8
   unfold impl_Module_heights.j5
   repeat' first
   | (with_reducible exact ih0 _ _ _ _ _ _ _)
   | (with_reducible exact ih1 _ _ _ _ _ _ _ _ _ _ _ _ _)
   | (with_reducible exact ih2 _ _ _ _ _ _ _ _ _ _ _ _ _ _)
   | (with_reducible exact ih3 _ _ _ _ _ _ _ _ _ _ _ _)
   | (with_reducible exact ih4 _ _ _ _ _ _ _ _ _ _ _ _ _)
   | (with_reducible exact ih5 _ _ _ _ _ _ _ _ _)
   | (with_reducible exact ih6 _ _ _ _ _ _ _ _ _ _ _)
   | (with_reducible exact ih7 _ _ _ _ _ _ _ _ _ _ _ _ _)
   | (with_reducible exact impl_Ins_takes.mono _ _ _ _)
   | (with_reducible exact LeO.refl _)
   | (with_reducible exact LeO.none _)
   | (with_reducible refine LeO.ite ?_ ?_)
   | (with_reducible refine LeO.bind ?_ (fun _ => ?_))
   | exact ih0 _ _ _ _ _ _ _
   | exact ih1 _ _ _ _ _ _ _ _ _ _ _ _ _
   | exact ih2 _ _ _ _ _ _ _ _ _ _ _ _ _ _
   | exact ih3 _ _ _ _ _ _ _ _ _ _ _ _
   | exact ih4 _ _ _ _ _ _ _ _ _ _ _ _ _
   | exact ih5 _ _ _ _ _ _ _ _ _
   | exact ih6 _ _ _ _ _ _ _ _ _ _ _
   | exact ih7 _ _ _ _ _ _ _ _ _ _ _ _ _
   | exact impl_Ins_takes.mono _ _ _ _
   | exact LeO.none _
   | refine LeO.ite ?_ ?_
   | refine LeO.bind ?_ (fun _ => ?_)
  ·
   intro y0 y1 y2 y3 y4 y5 y6 y7 y8 y9 y10
   unfold impl_Module_heights.l1
   repeat' first
   | (with_reducible exact ih0 _ _ _ _ _ _ _)
   | (with_reducible exact ih1 _ _ _ _ _ _ _ _ _ _ _ _ _)
   | (with_reducible exact ih2 _ _ _ _ _ _ _ _ _ _ _ _ _ _)
   | (with_reducible exact ih3 _ _ _ _ _ _ _ _ _ _ _ _)
   | (with_reducible exact ih4 _ _ _ _ _ _ _ _ _ _ _ _ _)
   | (with_reducible exact ih5 _ _ _ _ _ _ _ _ _)
   | (with_reducible exact ih6 _ _ _ _ _ _ _ _ _ _ _)
   | (with_reducible exact ih7 _ _ _ _ _ _ _ _ _ _ _ _ _)
   | (with_reducible exact impl_Ins_takes.mono _ _ _ _)
   | (with_reducible exact LeO.refl _)
   | (with_reducible exact LeO.none _)
   | (with_reducible refine LeO.ite ?_ ?_)
   | (with_reducible refine LeO.bind ?_ (fun _ => ?_))
   | exact ih0 _ _ _ _ _ _ _
   | exact ih1 _ _ _ _ _ _ _ _ _ _ _ _ _
   | exact ih2 _ _ _ _ _ _ _ _ _ _ _ _ _ _
   | exact ih3 _ _ _ _ _ _ _ _ _ _ _ _
   | exact ih4 _ _ _ _ _ _ _ _ _ _ _ _ _
   | exact ih5 _ _ _ _ _ _ _ _ _
   | exact ih6 _ _ _ _ _ _ _ _ _ _ _
   | exact ih7 _ _ _ _ _ _ _ _ _ _ _ _ _
   | exact impl_Ins_takes.mono _ _ _ _
   | exact LeO.none _
   | refine LeO.ite ?_ ?_
   | refine LeO.bind ?_ (fun _ => ?_)
  ·
   intro y0 y1 y2 y3 y4 y5 y6 y7 y8 y9 y10 y11 y12
   unfold impl_Module_heights.j7
   repeat' first
   | (with_reducible exact ih0 _ _ _ _ _ _ _)
   | (with_reducible exact ih1 _ _ _ _ _ _ _ _ _ _ _ _ _)
   | (with_reducible exact ih2 _ _ _ _ _ _ _ _ _ _ _ _ _ _)
   | (with_reducible exact ih3 _ _ _ _ _ _ _ _ _ _ _ _)
   | (with_reducible exact ih4 _ _ _ _ _ _ _ _ _ _ _ _ _)
   | (with_reducible exact ih5 _ _ _ _ _ _ _ _ _)
   | (with_reducible exact ih6 _ _ _ _ _ _ _ _ _ _ _)
   | (with_reducible exact ih7 _ _ _ _ _ _ _ _ _ _ _ _ _)
   | (with_reducible exact impl_Ins_takes.mono _ _ _ _)
   | (with_reducible exact LeO.refl _)
   | (with_reducible exact LeO.none _)
   | (with_reducible refine LeO.ite ?_ ?_)
   | (with_reducible refine LeO.bind ?_ (fun _ => ?_))
   | exact ih0 _ _ _ _ _ _ _
   | exact ih1 _ _ _ _ _ _ _ _ _ _ _ _ _
   | exact ih2 _ _ _ _ _ _ _ _ _ _ _ _ _ _
   | exact ih3 _ _ _ _ _ _ _ _ _ _ _ _
   | exact ih4 _ _ _ _ _ _ _ _ _ _ _ _ _
   | exact ih5 _ _ _ _ _ _ _ _ _
   | exact ih6 _ _ _ _ _ _ _ _ _ _ _
   | exact ih7 _ _ _ _ _ _ _ _ _ _ _ _ _
   | exact impl_Ins_takes.mono _ _ _ _
   | exact LeO.none _
   | refine LeO.ite ?_ ?_
   | refine LeO.bind ?_ (fun _ => ?_)
theorem impl_Module_heights.mono : ∀ a0 a1 a2 a3 a4 k, LeO (impl_Module_heights.f k a0 a1 a2 a3 a4) (impl_Module_heights.f (k + 1) a0 a1 a2 a3 a4) := by
 intro a0 a1 a2 a3 a4 k
 obtain ⟨ih0, ih1, ih2, ih3, ih4, ih5, ih6, ih7⟩ := impl_Module_heights.mono_l k
 unfold impl_Module_heights.f
 repeat' first
   | (with_reducible exact ih0 _ _ _ _ _ _ _)
   | (with_reducible exact ih1 _ _ _ _ _ _ _ _ _ _ _ _ _)
   | (with_reducible exact ih2 _ _ _ _ _ _ _ _ _ _ _ _ _ _)
   | (with_reducible exact ih3 _ _ _ _ _ _ _ _ _ _ _ _)
   | (with_reducible exact ih4 _ _ _ _ _ _ _ _ _ _ _ _ _)
   | (with_reducible exact ih5 _ _ _ _ _ _ _ _ _)
   | (with_reducible exact ih6 _ _ _ _ _ _ _ _ _ _ _)
   | (with_reducible exact ih7 _ _ _ _ _ _ _ _ _ _ _ _ _)
   | (with_reducible exact impl_Ins_takes.mono _ _ _ _)
   | (with_reducible exact LeO.refl _)
   | (with_reducible exact LeO.none _)
   | (with_reducible refine LeO.ite ?_ ?_)
   | (with_reducible refine LeO.bind ?_ (fun _ => ?_))
   | exact ih0 _ _ _ _ _ _ _
   | exact ih1 _ _ _ _ _ _ _ _ _ _ _ _ _
   | exact ih2 _ _ _ _ _ _ _ _ _ _ _ _ _ _
   | exact ih3 _ _ _ _ _ _ _ _ _ _ _ _
   | exact ih4 _ _ _ _ _ _ _ _ _ _ _ _ _
   | exact ih5 _ _ _ _ _ _ _ _ _
   | exact ih6 _ _ _ _ _ _ _ _ _ _ _
   | exact ih7 _ _ _ _ _ _ _ _ _ _ _ _ _
   | exact impl_Ins_takes.mono _ _ _ _
   | exact LeO.none _
   | refine LeO.ite ?_ ?_
   | refine LeO.bind ?_ (fun _ => ?_)
set_option maxHeartbeats 8000000 in
set_option maxRecDepth 100000 in
theorem impl_Module_heights.calls (k : Nat) (a0_0 : Int) (a0_1 : Int) (a0_2 : Int) (a0_3 : Int) (A0_4 : Option Addr) (c0_4 : Nat) (l0_4 : List (S64)) (r1 : List Int) (r2 : Bool) (w : World) (hr0_4 : Kd.C k64 w A0_4 l0_4.length l0_4) (hc0_4 : l0_4.length ≤ c0_4) (h : impl_Module_heights.f k a0_0 a0_1 a0_2 a0_3 l0_4 = some (r1, r2)) :
  Calls Try.prog 51 #[.agg #[.int .i64 a0_0, .int .i64 a0_1, .int .i64 a0_2, .int .i64 a0_3, .slice A0_4 l0_4.length c0_4]] w fun e w' => ∃ v0_ : Value, e = .returned (.tuple #[v0_, .bool r2]) ∧ Kd.R (Kd.int .i64) 2 w' w.heap.size (fun _ => True) v0_ r1 ∧ Below w.heap.size w w' := by
 have hu24 := Try.underlying24
 have hu64 := Try.underlying64
 have HR0_4 := Aside0.mk hr0_4
 have HC0_4 := Aside0.mk hc0_4
 clear hr0_4 hc0_4
 have HB := Aside0.mk (Below.refl w.heap.size w)
 have H : ((slices_Repeat_int64_int64.f (([(-1)] : List Int)) (l0_4.length : Int)).bind fun t232 => (if 0 < (t232.length : Int) then (impl_Module_heights.l0 k (t232.set (0 : Int).toNat 0) (([0] : List Int)) a0_0 a0_1 a0_2 a0_3 l0_4) else (none))) = some (r1, r2) := h
 clear h
 obtain ⟨y229, hy229⟩ : ∃ y_ : List Int, y_ = (([(-1)] : List Int)) := ⟨_, rfl⟩
 replace H : ((slices_Repeat_int64_int64.f y229 (l0_4.length : Int)).bind fun t232 => (if 0 < (t232.length : Int) then (impl_Module_heights.l0 k (t232.set (0 : Int).toNat 0) (([0] : List Int)) a0_0 a0_1 a0_2 a0_3 l0_4) else (none))) = some (r1, r2) := by first | (rw [hy229]; with_reducible exact H) | (have H2_ := (Option.bind_some _ _).symm.trans H; rw [hy229]; with_reducible exact H2_) | (have H2_ := (Option.bind_some _ _).symm.trans H; with_reducible exact H2_) | with_reducible exact H | (rw [hy229]; exact H) | exact H
 have Ny229 := Aside0.mk hy229
 clear hy229
 replace H := Option.bind_eq_some_iff.mp H
 obtain ⟨t232, A20, H⟩ := H
 (try dsimp only at H)
 have A2 := Aside0.mk A20
 clear A20
 by_cases c3 : 0 < (t232.length : Int)
 ·
  rw [if_pos c3] at H
  have c3b0 := decide_eq_true c3
  have c3b1 : decide (0 < t232.length) = true := decide_eq_true (by omega)
  clear c3
  obtain ⟨y235, hy235⟩ : ∃ y_ : List Int, y_ = (t232.set (0 : Int).toNat 0) := ⟨_, rfl⟩
  replace H : (impl_Module_heights.l0 k y235 (([0] : List Int)) a0_0 a0_1 a0_2 a0_3 l0_4) = some (r1, r2) := by first | (rw [hy235]; with_reducible exact H) | (have H2_ := (Option.bind_some _ _).symm.trans H; rw [hy235]; with_reducible exact H2_) | (have H2_ := (Option.bind_some _ _).symm.trans H; with_reducible exact H2_) | with_reducible exact H | (rw [hy235]; exact H) | exact H
  have Ny235 := Aside0.mk hy235
  clear hy235
  obtain ⟨y236, hy236⟩ : ∃ y_ : List Int, y_ = (([0] : List Int)) := ⟨_, rfl⟩
  replace H : (impl_Module_heights.l0 k y235 y236 a0_0 a0_1 a0_2 a0_3 l0_4) = some (r1, r2) := by first | (rw [hy236]; with_reducible exact H) | (have H2_ := (Option.bind_some _ _).symm.trans H; rw [hy236]; with_reducible exact H2_) | (have H2_ := (Option.bind_some _ _).symm.trans H; with_reducible exact H2_) | with_reducible exact H | (rw [hy236]; exact H) | exact H
  have Ny236 := Aside0.mk hy236
  clear hy236
  have H' := Aside0.mk H
  clear H
  go_enter Try.func51, Try.ntmps51
  go_wp2_with (first | ((with_reducible refine gate_dst (N := 1) rfl ?_); refine bxe (N := 1) (cs := #[.int .i64 a0_0, .int .i64 a0_1, .int .i64 a0_2, .int .i64 a0_3, .slice A0_4 l0_4.length c0_4]) (t := 24) ?_; intro gb228 hg w5 hbox hb; have n0_ := bst hb; have n1_ := Aside0.mk (hbox); have n2_ := (bsz hg : Aside0 (w.heap.size ≤ gb228)); have n3_ := n2_; clear HB; have HB := n0_; have BK228 := n1_; have GW228 := n2_; have GE228 := n3_; clear n0_ n1_ n2_ n3_; clear hb hbox hg) | ((with_reducible refine gate_dst (N := 14) rfl ?_); refine Kd.R_lit (Kd.int .i64) _ 2 ?hg (N := 14) ?hd (xs := ([(-1)] : List Int)) (inner := [.int .i64 (-1)]) (ok := fun _ => True) (okp := fun _ => True) ?hr ?hp (fun _ hk => hk) trivial (Below.refl _ _) (Nat.le_refl _) (by simp) ?_; (case hd => rfl); (case hg => rfl); (case hr => first | (go_simp; done) | (go_simp; rfl)); (case hp => exact (Reps.one (show Kd.M (Kd.int .i64) _ _ _ (-1) [.int .i64 (-1)] from rfl) (Reps.none _ _))); intro v230 w6 ho7 hb hg_ hnew_; clear hg_ hnew_; (first | rw [← Ny229.out] at ho7 | (simp only [Int.reduceToNat] at ho7; rw [← Ny229.out] at ho7)); have n0_ := Aside0.mk (Kd.R_lower ho7 (below_size hbm)); have n1_ := bkb BK228 hb; have n2_ := bst hb; clear BK228; clear HB; have HO231 := n0_; have BK228 := n1_; have HB := n2_; clear n0_ n1_ n2_; clear hb ho7; obtain ⟨hcz8_0, hcz8_1, hcz8_2, hcz8_3, hcz8_4, hfz8_0, hfz8_1, hfz8_2, hfz8_3, hfz8_4⟩ := bc5 BK228.out; obtain ⟨Ao9, co9, eo9⟩ := Kd.R_slice HO231.out; subst eo9) | ((with_reducible refine gate_callee (f := 85) rfl ?_); refine goesL_ (some 18) rfl rfl Try.func85 (by kernel_rfl) rfl #[.slice Ao9 y229.length co9, .int .i64 (l0_4.length : Int)] rfl glm ?_; (with_reducible refine (slices_Repeat_int64_int64.calls _ _ y229 (l0_4.length : Int) t232 _ ?side1 ?side2 A2.out).mono ?_); (case side1 => repeat (first | exact (Kd.R_reads' HO231.out).2.2 | (with_reducible refine Kd.C_alloc ?_ _) | (with_reducible refine Kd.C_drewN ?_ _) | (with_reducible refine Kd.C_drew ?_))); (case side2 => exact (Kd.R_reads' HO231.out).2.1); rintro e w10 ⟨v233, rfl, ho0, hb⟩; refine ⟨_, rfl, ?_⟩; have n0_ := Aside0.mk (Kd.R_elder' (prR HO231.out) (Kd.R_base ho0) hb); have n1_ := Aside0.mk (Kd.R_lower (Kd.R_new' ho0 (Kd.R_lt (prR HO231.out))) (below_size hbm)); have n2_ := bkb BK228 hb; have n3_ := bst hb; clear HO231; clear BK228; clear HB; have HO231 := n0_; have HO234 := n1_; have BK228 := n2_; have HB := n3_; clear n0_ n1_ n2_ n3_; (try clear hb); (try clear hb2); (try clear hk); (try clear hi); (try clear ho0); have p4 : 0 ≤ (0 : Int) := (by omega); have q4 : (0 : Int) < ((t232.length : Int) : Int) := of_decide_eq_true asm_; have qi4 : (0 < t232.length) = True := eq_true (by omega); obtain ⟨go4, co4, eo4, gb4, gl4, cl4, HG4⟩ := Kd.R_form HO234.out (by omega); (first | cases eo4 | (injection eo4 with ea_ en_ ec_; (first | subst ea_ | (injection ea_ with ea_; subst ea_)); subst ec_; clear en_)); have GB4 := Aside0.mk gb4; have GG4 := Aside0.mk HG4; clear gb4 gl4 HG4; obtain ⟨hx4_0, hf4_0⟩ := Kd.R_celln 0 HO234.out (0 : Int) p4 q4; (try rw [show ((0 : Int)).toNat = 0 from rfl] at hx4_0); (try simp only [Nat.reduceMul, Nat.zero_mul, Nat.zero_add, Nat.reduceAdd] at hx4_0); (try rw [show ((0 : Int)).toNat = 0 from rfl] at hf4_0); (try simp only [Nat.reduceMul, Nat.zero_mul, Nat.zero_add, Nat.reduceAdd] at hf4_0); replace p4 := eq_true p4; replace q4 := eq_true q4; have n_ := Aside0.mk (Kd.R_mono (ok' := (fun k_ => some k_ ≠ (.slice Ao9 y229.length co9 : Value).ownBlock)) HO234.out (fun k_ hk => hk.2)); clear HO234; have HO234 := n_; clear n_; obtain ⟨hy11_, hz11_⟩ := Kd.R_celln 0 HO234.out (0 : Int) (by omega) (of_decide_eq_true asm_); (try simp only [Int.reduceToNat, Int.toNat_zero, Int.toNat_ofNat, Nat.reduceMul, Nat.zero_mul, Nat.zero_add] at hy11_ hz11_); (try rw [show ((0 : Int)).toNat = 0 from rfl] at hy11_); (try rw [show ((0 : Int)).toNat = 0 from rfl] at hz11_); have HP11 := Kd.R_putg HO234.out (0 : Int) 0) | ((with_reducible refine gate_store (t := 2) (p := 20) rfl ?_); refine store_event (t := 2) (p := 20) (v := ?vo_w12) (w1 := (w10.setCell ⟨go4, (0 : Int).toNat, none⟩ (.int .i64 0))) ?hg ?ho ?hn ?hr ?_; (case ho => rfl); (case hg => rfl); (case hn => rfl); (case hr => first | (go_simp; done) | (go_simp; rfl)); intro w12 hw; have hg : w10.grownBy w12 (some go4) := (by rw [hw]; exact HP11.2); have hp_ : Kd.R (Kd.int .i64) 2 w12 w.heap.size (fun k_ => some k_ ≠ (.slice Ao9 y229.length co9 : Value).ownBlock) (.slice (some ⟨go4, 0, none⟩) t232.length co4) y235 := (by rw [hw, Ny235.out]; exact HP11.1); clear HP11; have n0_ := Aside0.mk (blk_grown (g := gb228) (o := .cells #[.int .i64 a0_0, .int .i64 a0_1, .int .i64 a0_2, .int .i64 a0_3, .slice A0_4 l0_4.length c0_4] 24 (0, 0)) (by (with_reducible repeat (first | apply blk_drewN | apply blk_drew | apply blk_alloc)); exact BK228.out) hg (Kd.R_ne HO234.out BK228.out (by decide))); have n1_ := Aside0.mk (Kd.R_after (v := (.slice (some ⟨go4, 0, none⟩) t232.length co4)) (v1 := (.slice (some ⟨go4, 0, none⟩) t232.length co4)) (ok := (fun _ => True)) (prR HO231.out) hg (.inl rfl)); have n2_ := Aside0.mk (hp_); have n3_ := Aside0.mk ((by rw [hw]; exact below_set (HB.out) GB4.out : Below w.heap.size w w12)); clear BK228; clear HO231; clear HO234; clear HB; have BK228 := n0_; have HO231 := n1_; have HO234 := n2_; have HB := n3_; clear n0_ n1_ n2_ n3_; clear hg hw hp_) | ((with_reducible refine gate_dst (N := 21) rfl ?_); refine Kd.R_lit (Kd.int .i64) _ 2 ?hg (N := 21) ?hd (xs := ([0] : List Int)) (inner := [.int .i64 0]) (ok := fun _ => True) (okp := fun _ => True) ?hr ?hp (fun _ hk => hk) trivial (Below.refl _ _) (Nat.le_refl _) (by simp) ?_; (case hd => rfl); (case hg => rfl); (case hr => first | (go_simp; done) | (go_simp; rfl)); (case hp => exact (Reps.one (show Kd.M (Kd.int .i64) _ _ _ 0 [.int .i64 0] from rfl) (Reps.none _ _))); intro v237 w13 ho14 hb hg_ hnew_; clear hg_ hnew_; (first | rw [← Ny236.out] at ho14 | (simp only [Int.reduceToNat] at ho14; rw [← Ny236.out] at ho14)); have n0_ := Aside0.mk (Kd.R_elder' (prR HO231.out) (Kd.R_base ho14) hb); have n1_ := Aside0.mk (Kd.R_elder' (prR HO234.out) (Kd.R_base ho14) hb); have n2_ := Aside0.mk (Kd.R_lower (Kd.R_new' (Kd.R_new' ho14 (Kd.R_lt (prR HO231.out))) (Kd.R_lt (prR HO234.out))) (below_size hbm)); have n3_ := bkb BK228 hb; have n4_ := bst hb; clear HO231; clear HO234; clear BK228; clear HB; have HO231 := n0_; have HO234 := n1_; have HO238 := n2_; have BK228 := n3_; have HB := n4_; clear n0_ n1_ n2_ n3_ n4_; clear hb ho14))
  go_loopg [5] k (fun kq v5 w' => ∃ (x4_1 : List Int) (x5_1 : List Int), Aside0 (impl_Module_heights.l0 kq x4_1 x5_1 a0_0 a0_1 a0_2 a0_3 l0_4 = some (r1, r2)) ∧ Aside0 (kq ≤ k) ∧ Aside0 (Kd.R (Kd.int .i64) 2 w' w.heap.size (fun k_ => some k_ ≠ (v5 : Value).ownBlock) (.slice (some ⟨go4, 0, none⟩) t232.length co4) x4_1) ∧ Aside0 (Kd.R (Kd.int .i64) 2 w' w.heap.size (fun k_ => some k_ ≠ ((.slice (some ⟨go4, 0, none⟩) t232.length co4) : Value).ownBlock) v5 x5_1) ∧ Aside0 (w'.heap[gb228]? = some (.cells #[.int .i64 a0_0, .int .i64 a0_1, .int .i64 a0_2, .int .i64 a0_3, (.slice A0_4 l0_4.length c0_4)] 24 (0, 0))) ∧ Aside0 (Below w.heap.size w w'))
  case atStart => exact ⟨(y235), (y236), H', ⟨Nat.le_refl _⟩, ⟨by (with_reducible repeat (first | apply Kd.R_alloc | apply Kd.R_drewN | apply Kd.R_drew)); exact Kd.R_mono HO234.out (fun _ hk => hk.2)⟩, ⟨by (with_reducible repeat (first | apply Kd.R_alloc | apply Kd.R_drewN | apply Kd.R_drew)); exact Kd.R_mono HO238.out (fun _ hk => hk.2)⟩, ⟨by (with_reducible repeat (first | apply blk_drewN | apply blk_drew | apply blk_alloc)); exact BK228.out⟩, ⟨hbm⟩⟩
  case round =>
   clear H'
   try clear p2; try clear c3; try clear c3b0; try clear c3b1; try clear p4 p4; try clear q4 q4; try clear hx4; try clear qi4; try clear hf4; try clear c5; try clear c8; try clear hcz8_0 hcz8_1 hcz8_2 hcz8_3 hcz8_4 hfz8_0 hfz8_1 hfz8_2 hfz8_3 hfz8_4; try clear hx4_0
   obtain ⟨x4_1, x5_1, HA, HK1, HO_4, HO_5, BK228, HB⟩ := hrel
   have hl4_1 := (Kd.R_reads' HO_4.out).1
   rw [hl4_1] at HO_4
   (try simp only [hl4_1])
   (try simp only [hl4_1] at BK228)
   (try simp only [hl4_1] at HO_5)
   cases gk with
   | zero => exact absurd HA.out (by simp [impl_Module_heights.l0])
   | succ k1 =>
    have H := HA.out
    clear HA
    simp only [impl_Module_heights.l0] at H
    by_cases c15 : (x5_1.length : Int) > 0
    ·
     rw [if_pos c15] at H
     have c15b0 : decide (0 < (x5_1.length : Int)) = true := decide_eq_true c15
     have c15b1 : decide (0 < x5_1.length) = true := decide_eq_true (by omega)
     clear c15
     obtain ⟨ji16, hji16⟩ : ∃ j_ : Int, (wrap64 ((x5_1.length : Int) - 1)) = j_ := ⟨_, rfl⟩
     replace H : (if 0 ≤ (ji16) then (if (ji16) < (x5_1.length : Int) then (if (ji16) ≤ (x5_1.length : Int) then ((some (x5_1.take ((ji16) : Int).toNat : List Int)).bind fun y240 => (if 0 ≤ (rd x5_1 (ji16)) then (if (rd x5_1 (ji16)) < (l0_4.length : Int) then ((impl_Ins_takes.f k1 ((rd_T64 l0_4 (rd x5_1 (ji16))).f0) ((rd_T64 l0_4 (rd x5_1 (ji16))).f1) ((rd_T64 l0_4 (rd x5_1 (ji16))).f2)).bind fun bt245 => (if (rd x5_1 (ji16)) < (x4_1.length : Int) then (if (rd x4_1 (rd x5_1 (ji16))) < bt245.1 then (impl_Module_heights.j1 k1 x4_1 y240 (rd x5_1 (ji16)) (wrap64 ((wrap64 ((rd x4_1 (rd x5_1 (ji16))) - bt245.1)) + bt245.2)) true a0_0 a0_1 a0_2 a0_3 l0_4 ((rd_T64 l0_4 (rd x5_1 (ji16))).f0) ((rd_T64 l0_4 (rd x5_1 (ji16))).f1) ((rd_T64 l0_4 (rd x5_1 (ji16))).f2)) else (impl_Module_heights.j1 k1 x4_1 y240 (rd x5_1 (ji16)) (wrap64 ((wrap64 ((rd x4_1 (rd x5_1 (ji16))) - bt245.1)) + bt245.2)) (decide ((wrap64 ((wrap64 ((rd x4_1 (rd x5_1 (ji16))) - bt245.1)) + bt245.2)) > 60)) a0_0 a0_1 a0_2 a0_3 l0_4 ((rd_T64 l0_4 (rd x5_1 (ji16))).f0) ((rd_T64 l0_4 (rd x5_1 (ji16))).f1) ((rd_T64 l0_4 (rd x5_1 (ji16))).f2))) else (none))) else (none)) else (none))) else (none)) else (none)) else (none)) = some (r1, r2) := by first | (rw [hji16] at H; exact H) | (simp only [hji16] at H ⊢; exact H)
     have hji16w : (IntKind.i64.wrap ((x5_1.length : Int) - 1)) = ji16 := (i64_w _).trans hji16
     by_cases c17 : 0 ≤ (ji16)
     ·
      rw [if_pos c17] at H
      have c17b0 := decide_eq_true c17
      clear c17
      by_cases c18 : (ji16) < (x5_1.length : Int)
      ·
       rw [if_pos c18] at H
       have c18b0 := decide_eq_true c18
       clear c18
       by_cases c19 : (ji16) ≤ (x5_1.length : Int)
       ·
        rw [if_pos c19] at H
        have c19b0 := eq_true c19
        have c19b1 := decide_eq_true c19
        clear c19
        obtain ⟨y240, hy240⟩ : ∃ y_ : List Int, y_ = (x5_1.take ((ji16) : Int).toNat) := ⟨_, rfl⟩
        replace H : (if 0 ≤ (rd x5_1 (ji16)) then (if (rd x5_1 (ji16)) < (l0_4.length : Int) then ((impl_Ins_takes.f k1 ((rd_T64 l0_4 (rd x5_1 (ji16))).f0) ((rd_T64 l0_4 (rd x5_1 (ji16))).f1) ((rd_T64 l0_4 (rd x5_1 (ji16))).f2)).bind fun bt245 => (if (rd x5_1 (ji16)) < (x4_1.length : Int) then (if (rd x4_1 (rd x5_1 (ji16))) < bt245.1 then (impl_Module_heights.j1 k1 x4_1 y240 (rd x5_1 (ji16)) (wrap64 ((wrap64 ((rd x4_1 (rd x5_1 (ji16))) - bt245.1)) + bt245.2)) true a0_0 a0_1 a0_2 a0_3 l0_4 ((rd_T64 l0_4 (rd x5_1 (ji16))).f0) ((rd_T64 l0_4 (rd x5_1 (ji16))).f1) ((rd_T64 l0_4 (rd x5_1 (ji16))).f2)) else (impl_Module_heights.j1 k1 x4_1 y240 (rd x5_1 (ji16)) (wrap64 ((wrap64 ((rd x4_1 (rd x5_1 (ji16))) - bt245.1)) + bt245.2)) (decide ((wrap64 ((wrap64 ((rd x4_1 (rd x5_1 (ji16))) - bt245.1)) + bt245.2)) > 60)) a0_0 a0_1 a0_2 a0_3 l0_4 ((rd_T64 l0_4 (rd x5_1 (ji16))).f0) ((rd_T64 l0_4 (rd x5_1 (ji16))).f1) ((rd_T64 l0_4 (rd x5_1 (ji16))).f2))) else (none))) else (none)) else (none)) = some (r1, r2) := by first | (rw [hy240]; with_reducible exact H) | (have H2_ := (Option.bind_some _ _).symm.trans H; rw [hy240]; with_reducible exact H2_) | (have H2_ := (Option.bind_some _ _).symm.trans H; with_reducible exact H2_) | with_reducible exact H | (rw [hy240]; exact H) | exact H
        have Ny240 := Aside0.mk hy240
        clear hy240
        by_cases c20 : 0 ≤ (rd x5_1 (ji16))
        ·
         rw [if_pos c20] at H
         have c20b0 := decide_eq_true c20
         clear c20
         by_cases c21 : (rd x5_1 (ji16)) < (l0_4.length : Int)
         ·
          rw [if_pos c21] at H
          have c21b0 := decide_eq_true c21
          clear c21
          replace H := Option.bind_eq_some_iff.mp H
          obtain ⟨⟨t245, t246⟩, A220, H⟩ := H
          (try dsimp only at H)
          have A22 := Aside0.mk A220
          clear A220
          by_cases c23 : (rd x5_1 (ji16)) < (x4_1.length : Int)
          ·
           rw [if_pos c23] at H
           have c23b0 := decide_eq_true c23
           clear c23
           have HC24 := Aside0.mk H
           clear H
           obtain ⟨Ao25, co25, eo25⟩ := Kd.R_slice HO_5.out
           subst eo25
           have p239 : 0 ≤ ((ji16) : Int) := of_decide_eq_true asm_
           have q239 : (ji16) < (x5_1.length : Int) := of_decide_eq_true asm_
           obtain ⟨ad239, e239, hx239_0⟩ := Kd.at_int (Kd.R_reads' HO_5.out).2.2 (ji16) p239 q239
           cases e239
           replace p239 := eq_true p239
           replace q239 := eq_true q239
           have q26 : ((ji16) : Int) ≤ ((x5_1.length : Int) : Int) := of_decide_eq_true asm_
           obtain ⟨i026, hi026, _, hsz26, _⟩ := info_parts info2
           have hcut26 := cut_to (P := Try.prog) 53 2 .i64 Try.underlying53 hi026 (some ad239) x5_1.length co25 (ji16) (of_decide_eq_true asm_) q26 (Kd.R_reads' HO_5.out).2.1
           have hr26 := Kd.R_take (m := ((ji16) : Int).toNat) HO_5.out (by omega)
           have hy26 : y240.length = ((ji16) : Int).toNat := (by rw [Ny240.out, List.length_take]; omega)
           rw [← Ny240.out] at hr26
           rw [← hy26] at hr26 hcut26
           clear hy26 hi026 hsz26 HO_5
           have HO242 := Aside0.mk hr26
           clear hr26
           replace q26 := eq_true q26
           obtain ⟨hcz27_0, hcz27_1, hcz27_2, hcz27_3, hcz27_4, hfz27_0, hfz27_1, hfz27_2, hfz27_3, hfz27_4⟩ := bc5 BK228.out
           have p243 : 0 ≤ ((rd x5_1 (ji16)) : Int) := of_decide_eq_true asm_
           have q243 : (rd x5_1 (ji16)) < (l0_4.length : Int) := of_decide_eq_true asm_
           obtain ⟨ad243, e243, hx243_0, hx243_1, hx243_2⟩ := at_T64 HR0_4.out (rd x5_1 (ji16)) p243 q243
           cases e243
           replace hx243_0 := hcl HB hx243_0
           replace hx243_1 := hcl HB hx243_1
           replace hx243_2 := hcl HB hx243_2
           replace p243 := eq_true p243
           replace q243 := eq_true q243
           go_upto_region 10 with (first | ((with_reducible refine gate_dst (N := 7) rfl ?_); refine bxe (N := 7) (cs := #[.int .i64 0, .int .i64 0, .int .i64 0]) (t := 64) ?_; intro gb244 hg w28 hbox hb; have n0_ := Aside0.mk (Kd.R_below (prR HO_4.out) hb); have n1_ := Aside0.mk (Kd.R_below (prR HO242.out) hb); have n2_ := bkb BK228 hb; have n3_ := bst hb; have n4_ := Aside0.mk (hbox); have n5_ := (bsz hg : Aside0 (w.heap.size ≤ gb244)); have n6_ := n5_; have n7_ := (bkn BK228 hg : Aside0 (gb228 ≠ gb244)); have n8_ := Aside0.mk n7_.out.symm; clear HO_4; clear HO242; clear BK228; clear HB; have HO_4 := n0_; have HO242 := n1_; have BK228 := n2_; have HB := n3_; have BK244 := n4_; have GW244 := n5_; have GE244 := n6_; have NB228_244 := n7_; have NB244_228 := n8_; clear n0_ n1_ n2_ n3_ n4_ n5_ n6_ n7_ n8_; clear hb hbox hg; have hnb29 := NB244_228.out; have hnc29 := NB228_244.out; obtain ⟨hcz30_0, hcz30_1, hcz30_2, hfz30_0, hfz30_1, hfz30_2⟩ := bc3 BK244.out) | ((with_reducible refine gate_callee (f := 86) rfl ?_); refine goesL_ (some 43) rfl rfl Try.func86 (by kernel_rfl) rfl #[.agg #[.int .i64 ((rd_T64 l0_4 (rd x5_1 (ji16))).f0), .int .i64 ((rd_T64 l0_4 (rd x5_1 (ji16))).f1), .int .i64 ((rd_T64 l0_4 (rd x5_1 (ji16))).f2)]] rfl (by (try simp only [List.map_toArray, List.map_cons, List.map_nil]); first | done | (simp only [hji16]; rfl) | rfl | (simp only [List.length_drop, List.length_take]; rfl)) ?_; (with_reducible refine (impl_Ins_takes.calls k1 ((rd_T64 l0_4 (rd x5_1 (ji16))).f0) ((rd_T64 l0_4 (rd x5_1 (ji16))).f1) ((rd_T64 l0_4 (rd x5_1 (ji16))).f2) t245 t246 _ A22.out).mono ?_); rintro e w31 ⟨rfl, hb⟩; refine ⟨_, rfl, ?_⟩; have n0_ := Aside0.mk (Kd.R_below (by (with_reducible repeat (first | apply Kd.R_alloc | apply Kd.R_drewN | apply Kd.R_drew)); exact (Kd.R_mono (Kd.R_far (p := ⟨gb244, 2, none⟩) (Kd.R_far (p := ⟨gb244, 1, none⟩) (Kd.R_far (p := ⟨gb244, 0, none⟩) (Kd.R_types HO_4.out BK244.out (by decide)) (fun _ hk => hk.2) (.int .i64 ((rd_T64 l0_4 (rd x5_1 (ji16))).f0))) (fun _ hk => hk.2) (.int .i64 ((rd_T64 l0_4 (rd x5_1 (ji16))).f1))) (fun _ hk => hk.2) (.int .i64 ((rd_T64 l0_4 (rd x5_1 (ji16))).f2))) (fun _ h_ => h_.1))) hb); have n1_ := Aside0.mk (Kd.R_below (by (with_reducible repeat (first | apply Kd.R_alloc | apply Kd.R_drewN | apply Kd.R_drew)); exact (Kd.R_mono (Kd.R_far (p := ⟨gb244, 2, none⟩) (Kd.R_far (p := ⟨gb244, 1, none⟩) (Kd.R_far (p := ⟨gb244, 0, none⟩) (Kd.R_types HO242.out BK244.out (by decide)) (fun _ hk => hk.2) (.int .i64 ((rd_T64 l0_4 (rd x5_1 (ji16))).f0))) (fun _ hk => hk.2) (.int .i64 ((rd_T64 l0_4 (rd x5_1 (ji16))).f1))) (fun _ hk => hk.2) (.int .i64 ((rd_T64 l0_4 (rd x5_1 (ji16))).f2))) (fun _ h_ => h_.1))) hb); have n2_ := Aside0.mk (blk_below (g := gb228) (o := .cells #[.int .i64 a0_0, .int .i64 a0_1, .int .i64 a0_2, .int .i64 a0_3, .slice (some ad243) l0_4.length c0_4] 24 (0, 0)) (by (with_reducible repeat (first | apply blk_drewN | apply blk_drew | apply blk_alloc)); refine blk_far ?_ NB228_244.out _; (with_reducible repeat (first | apply blk_drewN | apply blk_drew | apply blk_alloc)); refine blk_far ?_ NB228_244.out _; (with_reducible repeat (first | apply blk_drewN | apply blk_drew | apply blk_alloc)); refine blk_far ?_ NB228_244.out _; (with_reducible repeat (first | apply blk_drewN | apply blk_drew | apply blk_alloc)); exact BK228.out) hb); have n3_ := Aside0.mk (blk_below (g := gb244) (o := .cells #[.int .i64 ((rd_T64 l0_4 (rd x5_1 (ji16))).f0), .int .i64 ((rd_T64 l0_4 (rd x5_1 (ji16))).f1), .int .i64 ((rd_T64 l0_4 (rd x5_1 (ji16))).f2)] 64 (0, 0)) (by (with_reducible repeat (first | apply blk_drewN | apply blk_drew | apply blk_alloc)); refine blk_put (cs := #[.int .i64 ((rd_T64 l0_4 (rd x5_1 (ji16))).f0), .int .i64 ((rd_T64 l0_4 (rd x5_1 (ji16))).f1), .int .i64 0]) ?_ 2 _ rfl; (with_reducible repeat (first | apply blk_drewN | apply blk_drew | apply blk_alloc)); refine blk_put (cs := #[.int .i64 ((rd_T64 l0_4 (rd x5_1 (ji16))).f0), .int .i64 0, .int .i64 0]) ?_ 1 _ rfl; (with_reducible repeat (first | apply blk_drewN | apply blk_drew | apply blk_alloc)); refine blk_put (cs := #[.int .i64 0, .int .i64 0, .int .i64 0]) ?_ 0 _ rfl; (with_reducible repeat (first | apply blk_drewN | apply blk_drew | apply blk_alloc)); exact BK244.out) hb); have n4_ := bst hb; clear HO_4; clear HO242; clear BK228; clear BK244; clear HB; have HO_4 := n0_; have HO242 := n1_; have BK228 := n2_; have BK244 := n3_; have HB := n4_; clear n0_ n1_ n2_ n3_ n4_; (try clear hb); (try clear hb2); (try clear hk); (try clear hi); have p247 : 0 ≤ ((rd x5_1 (ji16)) : Int) := of_decide_eq_true asm_; have q247 : (rd x5_1 (ji16)) < (x4_1.length : Int) := of_decide_eq_true asm_; obtain ⟨ad247, e247, hx247_0⟩ := Kd.at_int (Kd.R_reads' HO_4.out).2.2 (rd x5_1 (ji16)) p247 q247; obtain rfl : (⟨go4, 0, none⟩ : Addr) = ad247 := (by injection e247); (first | simp only [add_plain] at hx247_0 | simp only [add_at] at hx247_0 | simp only [Addr.add, Nat.zero_add] at hx247_0 | skip); replace p247 := eq_true p247; replace q247 := eq_true q247))
           (try simp only [Act.put, List.setIfInBounds_toArray, List.set_cons_zero, List.set_cons_succ])
           go_cut [63] (fun v63 wc => ∃ (kq : Nat) (x63_23 : Bool), v63 = .bool x63_23 ∧ Aside0 (impl_Module_heights.j1 kq x4_1 y240 (rd x5_1 (ji16)) (wrap64 ((wrap64 ((rd x4_1 (rd x5_1 (ji16))) - t245)) + t246)) x63_23 a0_0 a0_1 a0_2 a0_3 l0_4 ((rd_T64 l0_4 (rd x5_1 (ji16))).f0) ((rd_T64 l0_4 (rd x5_1 (ji16))).f1) ((rd_T64 l0_4 (rd x5_1 (ji16))).f2) = some (r1, r2)) ∧ Aside0 (kq ≤ k1) ∧ Aside0 (Kd.R (Kd.int .i64) 2 wc w.heap.size (fun k_ => some k_ ≠ ((.slice (some ad239) y240.length co25) : Value).ownBlock) (.slice (some ⟨go4, 0, none⟩) x4_1.length co4) x4_1) ∧ Aside0 (Kd.R (Kd.int .i64) 2 wc w.heap.size (fun k_ => some k_ ≠ ((.slice (some ⟨go4, 0, none⟩) x4_1.length co4) : Value).ownBlock) (.slice (some ad239) y240.length co25) y240) ∧ Aside0 (wc.heap[gb228]? = some (.cells #[.int .i64 a0_0, .int .i64 a0_1, .int .i64 a0_2, .int .i64 a0_3, (.slice (some ad243) l0_4.length c0_4)] 24 (0, 0))) ∧ Aside0 (wc.heap[gb244]? = some (.cells #[.int .i64 ((rd_T64 l0_4 (rd x5_1 (ji16))).f0), .int .i64 ((rd_T64 l0_4 (rd x5_1 (ji16))).f1), .int .i64 ((rd_T64 l0_4 (rd x5_1 (ji16))).f2)] 64 (0, 0))) ∧ Aside0 (Below w.heap.size w wc))
           case first =>
            have H := HC24.out
            clear HC24
            by_cases c32 : (rd x4_1 (rd x5_1 (ji16))) < t245
            ·
             rw [if_pos c32] at H
             have c32b0 := decide_eq_true c32
             clear c32
             (first | rw [c32b0] | (simp only [i64_w, i32_w]; rw [c32b0]) | skip)
             have H' := Aside0.mk H
             clear H
             have p248 : 0 ≤ ((rd x5_1 (ji16)) : Int) := of_decide_eq_true asm_
             have q248 : (rd x5_1 (ji16)) < (x4_1.length : Int) := of_decide_eq_true asm_
             obtain ⟨ad248, e248, hx248_0⟩ := Kd.at_int (Kd.R_reads' HO_4.out).2.2 (rd x5_1 (ji16)) p248 q248
             obtain rfl : (⟨go4, 0, none⟩ : Addr) = ad248 := (by injection e248)
             (first | simp only [add_plain] at hx248_0 | simp only [add_at] at hx248_0 | simp only [Addr.add, Nat.zero_add] at hx248_0 | skip)
             replace p248 := eq_true p248
             replace q248 := eq_true q248
             go_wp2
             go_meet
             case rel => exact ⟨_, (true), (by first | rfl | (simp; done) | (simp [*]; done)), H', ⟨by have := HK1.out; first | omega | exact Nat.le_refl _⟩, ⟨by (try simp only [hl4_1]); (with_reducible repeat (first | apply Kd.R_alloc | apply Kd.R_drewN | apply Kd.R_drew)); exact HO_4.out⟩, ⟨by (try simp only [hl4_1]); (with_reducible repeat (first | apply Kd.R_alloc | apply Kd.R_drewN | apply Kd.R_drew)); exact HO242.out⟩, ⟨by (try simp only [hl4_1]); (with_reducible repeat (first | apply blk_drewN | apply blk_drew | apply blk_alloc)); exact BK228.out⟩, ⟨by (try simp only [hl4_1]); (with_reducible repeat (first | apply blk_drewN | apply blk_drew | apply blk_alloc)); exact BK244.out⟩, ⟨hbm⟩⟩
            ·
             rw [if_neg c32] at H
             have c32b0 := decide_eq_false c32
             clear c32
             (first | rw [c32b0] | (simp only [i64_w, i32_w]; rw [c32b0]) | skip)
             have H' := Aside0.mk H
             clear H
             have p248 : 0 ≤ ((rd x5_1 (ji16)) : Int) := of_decide_eq_true asm_
             have q248 : (rd x5_1 (ji16)) < (x4_1.length : Int) := of_decide_eq_true asm_
             obtain ⟨ad248, e248, hx248_0⟩ := Kd.at_int (Kd.R_reads' HO_4.out).2.2 (rd x5_1 (ji16)) p248 q248
             obtain rfl : (⟨go4, 0, none⟩ : Addr) = ad248 := (by injection e248)
             (first | simp only [add_plain] at hx248_0 | simp only [add_at] at hx248_0 | simp only [Addr.add, Nat.zero_add] at hx248_0 | skip)
             replace p248 := eq_true p248
             replace q248 := eq_true q248
             go_wp2
             go_meet
             case rel => exact ⟨_, (decide ((wrap64 ((wrap64 ((rd x4_1 (rd x5_1 (ji16))) - t245)) + t246)) > 60)), (by first | rfl | (simp; done) | (simp only [← hji16] <;> (first | rfl | simp)) | (simp [*]; done)), H', ⟨by have := HK1.out; first | omega | exact Nat.le_refl _⟩, ⟨by (try simp only [hl4_1]); (with_reducible repeat (first | apply Kd.R_alloc | apply Kd.R_drewN | apply Kd.R_drew)); exact HO_4.out⟩, ⟨by (try simp only [hl4_1]); (with_reducible repeat (first | apply Kd.R_alloc | apply Kd.R_drewN | apply Kd.R_drew)); exact HO242.out⟩, ⟨by (try simp only [hl4_1]); (with_reducible repeat (first | apply blk_drewN | apply blk_drew | apply blk_alloc)); exact BK228.out⟩, ⟨by (try simp only [hl4_1]); (with_reducible repeat (first | apply blk_drewN | apply blk_drew | apply blk_alloc)); exact BK244.out⟩, ⟨hbm⟩⟩
           case rest =>
            clear HC24
            try clear c1; try clear c2; try clear p2 p2; try clear q2; try clear hx2; try clear c3; try clear c3b0; try clear c3b1; try clear p4 p4; try clear q4 q4; try clear hx4; try clear qi4; try clear hf4; try clear c5; try clear p6; try clear c8; try clear c15; try clear c15b0; try clear c15b1; try clear c17; try clear c17b0; try clear c18; try clear c18b0; try clear c19; try clear c19b0; try clear c19b1; try clear c20; try clear c20b0; try clear c21; try clear c21b0; try clear c23; try clear c23b0; try clear p23; try clear q23; try clear hx23; try clear p24; try clear q24; try clear hx24; try clear q26 q26; try clear c29; try clear c32; try clear c32b0; try clear hcz27_0 hcz27_1 hcz27_2 hcz27_3 hcz27_4 hfz27_0 hfz27_1 hfz27_2 hfz27_3 hfz27_4; try clear hcz30_0 hcz30_1 hcz30_2 hfz30_0 hfz30_1 hfz30_2; try clear hcz8_0 hcz8_1 hcz8_2 hcz8_3 hcz8_4 hfz8_0 hfz8_1 hfz8_2 hfz8_3 hfz8_4; try clear hx239_0; try clear hx243_0; try clear hx243_1; try clear hx243_2; try clear hx247_0; try clear hx248_0; try clear hx4_0; try clear p239; try clear p243; try clear p247; try clear p248; try clear q239; try clear q243; try clear q247; try clear q248
            obtain ⟨kq, x63_23, rfl, HA, HJ23, HO_4, HO_5, BK228, BK244, HB⟩ := hcut
            cases kq with
            | zero => exact absurd HA.out (by simp [impl_Module_heights.j1])
            | succ kj23 =>
             have H := HA.out
             clear HA
             simp only [impl_Module_heights.j1] at H
             by_cases c33 : x63_23 = true
             ·
              subst c33
              have H1 : (some (([] : List Int), false)) = some (r1, r2) := by rw [if_pos rfl] at H; exact H
              clear H
              have H := H1
              clear H1
              simp only [Option.some.injEq, Prod.mk.injEq] at H
              obtain ⟨rfl, rfl⟩ := H
              go_wp2
              go_ret2
              exact ⟨_, by first | rfl | (simp [errW_none, errW_some] <;> rfl) | (simp only [← hji16]; first | rfl | (simp [errW_none, errW_some] <;> rfl)) | (simp [*, errW_none, errW_some] <;> rfl), by first | exact Kd.R_nil _ _ _ _ _ | exact Kd.N_nil _ _ _ _ _ | exact Kd.V_nil _ _ _ _ _ | exact Kd.Q_nil _ _ _ _ _ | exact Kd.S_nil _ _ _ _ _, hbm⟩
             ·
              replace c33 := Bool.eq_false_iff.mpr c33
              subst c33
              have H1 : ((some (([] : List Int) : List Int)).bind fun y249 => (if ((rd_T64 l0_4 (rd x5_1 (ji16))).f0) = 22 then (impl_Module_heights.j2 kj23 x4_1 y240 (rd x5_1 (ji16)) (wrap64 ((wrap64 ((rd x4_1 (rd x5_1 (ji16))) - t245)) + t246)) y249 false a0_0 a0_1 a0_2 a0_3 l0_4 ((rd_T64 l0_4 (rd x5_1 (ji16))).f0) ((rd_T64 l0_4 (rd x5_1 (ji16))).f1) ((rd_T64 l0_4 (rd x5_1 (ji16))).f2)) else (if ((rd_T64 l0_4 (rd x5_1 (ji16))).f0) = 24 then (impl_Module_heights.j2 kj23 x4_1 y240 (rd x5_1 (ji16)) (wrap64 ((wrap64 ((rd x4_1 (rd x5_1 (ji16))) - t245)) + t246)) y249 false a0_0 a0_1 a0_2 a0_3 l0_4 ((rd_T64 l0_4 (rd x5_1 (ji16))).f0) ((rd_T64 l0_4 (rd x5_1 (ji16))).f1) ((rd_T64 l0_4 (rd x5_1 (ji16))).f2)) else (impl_Module_heights.j2 kj23 x4_1 y240 (rd x5_1 (ji16)) (wrap64 ((wrap64 ((rd x4_1 (rd x5_1 (ji16))) - t245)) + t246)) y249 (((rd_T64 l0_4 (rd x5_1 (ji16))).f0) != 26) a0_0 a0_1 a0_2 a0_3 l0_4 ((rd_T64 l0_4 (rd x5_1 (ji16))).f0) ((rd_T64 l0_4 (rd x5_1 (ji16))).f1) ((rd_T64 l0_4 (rd x5_1 (ji16))).f2))))) = some (r1, r2) := by rw [if_neg (show ¬ (false = true) by decide)] at H; exact H
              clear H
              have H := H1
              clear H1
              obtain ⟨y249, hy249⟩ : ∃ y_ : List Int, y_ = (([] : List Int)) := ⟨_, rfl⟩
              replace H : (if ((rd_T64 l0_4 (rd x5_1 (ji16))).f0) = 22 then (impl_Module_heights.j2 kj23 x4_1 y240 (rd x5_1 (ji16)) (wrap64 ((wrap64 ((rd x4_1 (rd x5_1 (ji16))) - t245)) + t246)) y249 false a0_0 a0_1 a0_2 a0_3 l0_4 ((rd_T64 l0_4 (rd x5_1 (ji16))).f0) ((rd_T64 l0_4 (rd x5_1 (ji16))).f1) ((rd_T64 l0_4 (rd x5_1 (ji16))).f2)) else (if ((rd_T64 l0_4 (rd x5_1 (ji16))).f0) = 24 then (impl_Module_heights.j2 kj23 x4_1 y240 (rd x5_1 (ji16)) (wrap64 ((wrap64 ((rd x4_1 (rd x5_1 (ji16))) - t245)) + t246)) y249 false a0_0 a0_1 a0_2 a0_3 l0_4 ((rd_T64 l0_4 (rd x5_1 (ji16))).f0) ((rd_T64 l0_4 (rd x5_1 (ji16))).f1) ((rd_T64 l0_4 (rd x5_1 (ji16))).f2)) else (impl_Module_heights.j2 kj23 x4_1 y240 (rd x5_1 (ji16)) (wrap64 ((wrap64 ((rd x4_1 (rd x5_1 (ji16))) - t245)) + t246)) y249 (((rd_T64 l0_4 (rd x5_1 (ji16))).f0) != 26) a0_0 a0_1 a0_2 a0_3 l0_4 ((rd_T64 l0_4 (rd x5_1 (ji16))).f0) ((rd_T64 l0_4 (rd x5_1 (ji16))).f1) ((rd_T64 l0_4 (rd x5_1 (ji16))).f2)))) = some (r1, r2) := by first | (rw [hy249]; with_reducible exact H) | (have H2_ := (Option.bind_some _ _).symm.trans H; rw [hy249]; with_reducible exact H2_) | (have H2_ := (Option.bind_some _ _).symm.trans H; with_reducible exact H2_) | with_reducible exact H | (rw [hy249]; exact H) | exact H
              have Ny249 := Aside0.mk hy249
              clear hy249
              have HC34 := Aside0.mk H
              clear H
              go_upto_region 13 with (first | ((with_reducible refine gate_dst (N := 64) rfl ?_); refine Kd.R_lit (Kd.int .i64) _ 2 ?hg (N := 64) ?hd (xs := ([] : List Int)) (inner := []) (ok := fun _ => True) (okp := fun _ => True) ?hr ?hp (fun _ hk => hk) trivial (Below.refl _ _) (Nat.le_refl _) (by simp) ?_; (case hd => rfl); (case hg => rfl); (case hr => first | (go_simp; done) | (go_simp; rfl)); (case hp => exact (Reps.none _ _)); intro v250 w35 ho36 hb hg_ hnew_; clear hg_ hnew_; (first | rw [← Ny249.out] at ho36 | (simp only [Int.reduceToNat] at ho36; rw [← Ny249.out] at ho36)); have n0_ := Aside0.mk (Kd.R_elder' (prR HO_4.out) (Kd.R_base ho36) hb); have n1_ := Aside0.mk (Kd.R_elder' (prR HO_5.out) (Kd.R_base ho36) hb); have n2_ := Aside0.mk (Kd.R_lower (Kd.R_new' (Kd.R_new' ho36 (Kd.R_lt (prR HO_4.out))) (Kd.R_lt (prR HO_5.out))) (below_size hbm)); have n3_ := bkb BK228 hb; have n4_ := bkb BK244 hb; have n5_ := bst hb; clear HO_4; clear HO_5; clear BK228; clear BK244; clear HB; have HO_4 := n0_; have HO_5 := n1_; have HO251 := n2_; have BK228 := n3_; have BK244 := n4_; have HB := n5_; clear n0_ n1_ n2_ n3_ n4_ n5_; clear hb ho36))
              (try simp only [Act.put, List.setIfInBounds_toArray, List.set_cons_zero, List.set_cons_succ])
              go_cut [77] (fun v77 wc => ∃ (kq : Nat) (x77_33 : Bool), v77 = .bool x77_33 ∧ Aside0 (impl_Module_heights.j2 kq x4_1 y240 (rd x5_1 (ji16)) (wrap64 ((wrap64 ((rd x4_1 (rd x5_1 (ji16))) - t245)) + t246)) y249 x77_33 a0_0 a0_1 a0_2 a0_3 l0_4 ((rd_T64 l0_4 (rd x5_1 (ji16))).f0) ((rd_T64 l0_4 (rd x5_1 (ji16))).f1) ((rd_T64 l0_4 (rd x5_1 (ji16))).f2) = some (r1, r2)) ∧ Aside0 (kq ≤ kj23) ∧ Aside0 (Kd.R (Kd.int .i64) 2 wc w.heap.size (fun k_ => some k_ ≠ ((.slice (some ad239) y240.length co25) : Value).ownBlock ∧ some k_ ≠ (v250 : Value).ownBlock) (.slice (some ⟨go4, 0, none⟩) x4_1.length co4) x4_1) ∧ Aside0 (Kd.R (Kd.int .i64) 2 wc w.heap.size (fun k_ => some k_ ≠ ((.slice (some ⟨go4, 0, none⟩) x4_1.length co4) : Value).ownBlock ∧ some k_ ≠ (v250 : Value).ownBlock) (.slice (some ad239) y240.length co25) y240) ∧ Aside0 (Kd.R (Kd.int .i64) 2 wc w.heap.size (fun k_ => some k_ ≠ ((.slice (some ⟨go4, 0, none⟩) x4_1.length co4) : Value).ownBlock ∧ some k_ ≠ ((.slice (some ad239) y240.length co25) : Value).ownBlock) v250 y249) ∧ Aside0 (wc.heap[gb228]? = some (.cells #[.int .i64 a0_0, .int .i64 a0_1, .int .i64 a0_2, .int .i64 a0_3, (.slice (some ad243) l0_4.length c0_4)] 24 (0, 0))) ∧ Aside0 (wc.heap[gb244]? = some (.cells #[.int .i64 ((rd_T64 l0_4 (rd x5_1 (ji16))).f0), .int .i64 ((rd_T64 l0_4 (rd x5_1 (ji16))).f1), .int .i64 ((rd_T64 l0_4 (rd x5_1 (ji16))).f2)] 64 (0, 0))) ∧ Aside0 (Below w.heap.size w wc))
              case first =>
               have H := HC34.out
               clear HC34
               by_cases c37 : ((rd_T64 l0_4 (rd x5_1 (ji16))).f0) = 22
               ·
                rw [if_pos c37] at H
                have c37b0 : (((rd_T64 l0_4 (rd x5_1 (ji16))).f0) == 22) = true := beq_iff_eq.mpr c37
                have c37b1 : (((rd_T64 l0_4 (rd x5_1 (ji16))).f0) != 22) = false := bne_eq_false_iff_eq.mpr c37
                clear c37
                (first | rw [c37b0] | (simp only [i64_w, i32_w]; rw [c37b0]) | skip)
                have H' := Aside0.mk H
                clear H
                have hnb38 := NB244_228.out
                have hnc38 := NB228_244.out
                obtain ⟨hcz39_0, hcz39_1, hcz39_2, hfz39_0, hfz39_1, hfz39_2⟩ := bc3 BK244.out
                go_wp2
                go_meet
                case rel => exact ⟨_, (false), (by first | rfl | (simp; done) | (simp [*]; done)), H', ⟨by have := HK1.out; have := HJ23.out; first | omega | exact Nat.le_refl _⟩, ⟨by (try simp only [hl4_1]); (with_reducible repeat (first | apply Kd.R_alloc | apply Kd.R_drewN | apply Kd.R_drew)); exact HO_4.out⟩, ⟨by (try simp only [hl4_1]); (with_reducible repeat (first | apply Kd.R_alloc | apply Kd.R_drewN | apply Kd.R_drew)); exact HO_5.out⟩, ⟨by (try simp only [hl4_1]); (with_reducible repeat (first | apply Kd.R_alloc | apply Kd.R_drewN | apply Kd.R_drew)); exact Kd.R_mono HO251.out (fun _ hk => ⟨hk.1.2, hk.2⟩)⟩, ⟨by (try simp only [hl4_1]); (with_reducible repeat (first | apply blk_drewN | apply blk_drew | apply blk_alloc)); exact BK228.out⟩, ⟨by (try simp only [hl4_1]); (with_reducible repeat (first | apply blk_drewN | apply blk_drew | apply blk_alloc)); exact BK244.out⟩, ⟨hbm⟩⟩
               ·
                rw [if_neg c37] at H
                have c37b0 : (((rd_T64 l0_4 (rd x5_1 (ji16))).f0) == 22) = false := beq_eq_false_iff_ne.mpr c37
                have c37b1 : (((rd_T64 l0_4 (rd x5_1 (ji16))).f0) != 22) = true := bne_iff_ne.mpr c37
                (first | rw [c37b0] | (simp only [i64_w, i32_w]; rw [c37b0]) | skip)
                by_cases c40 : ((rd_T64 l0_4 (rd x5_1 (ji16))).f0) = 24
                ·
                 rw [if_pos c40] at H
                 have c40b0 : (((rd_T64 l0_4 (rd x5_1 (ji16))).f0) == 24) = true := beq_iff_eq.mpr c40
                 have c40b1 : (((rd_T64 l0_4 (rd x5_1 (ji16))).f0) != 24) = false := bne_eq_false_iff_eq.mpr c40
                 clear c40
                 have H' := Aside0.mk H
                 clear H
                 have hnb41 := NB244_228.out
                 have hnc41 := NB228_244.out
                 obtain ⟨hcz42_0, hcz42_1, hcz42_2, hfz42_0, hfz42_1, hfz42_2⟩ := bc3 BK244.out
                 go_wp2
                 go_meet
                 case rel => exact ⟨_, (false), (by first | rfl | (simp; done) | (simp [*]; done)), H', ⟨by have := HK1.out; have := HJ23.out; first | omega | exact Nat.le_refl _⟩, ⟨by (try simp only [hl4_1]); (with_reducible repeat (first | apply Kd.R_alloc | apply Kd.R_drewN | apply Kd.R_drew)); exact HO_4.out⟩, ⟨by (try simp only [hl4_1]); (with_reducible repeat (first | apply Kd.R_alloc | apply Kd.R_drewN | apply Kd.R_drew)); exact HO_5.out⟩, ⟨by (try simp only [hl4_1]); (with_reducible repeat (first | apply Kd.R_alloc | apply Kd.R_drewN | apply Kd.R_drew)); exact Kd.R_mono HO251.out (fun _ hk => ⟨hk.1.2, hk.2⟩)⟩, ⟨by (try simp only [hl4_1]); (with_reducible repeat (first | apply blk_drewN | apply blk_drew | apply blk_alloc)); exact BK228.out⟩, ⟨by (try simp only [hl4_1]); (with_reducible repeat (first | apply blk_drewN | apply blk_drew | apply blk_alloc)); exact BK244.out⟩, ⟨hbm⟩⟩
                ·
                 rw [if_neg c40] at H
                 have c40b0 : (((rd_T64 l0_4 (rd x5_1 (ji16))).f0) == 24) = false := beq_eq_false_iff_ne.mpr c40
                 have c40b1 : (((rd_T64 l0_4 (rd x5_1 (ji16))).f0) != 24) = true := bne_iff_ne.mpr c40
                 have H' := Aside0.mk H
                 clear H
                 have hnb43 := NB244_228.out
                 have hnc43 := NB228_244.out
                 obtain ⟨hcz44_0, hcz44_1, hcz44_2, hfz44_0, hfz44_1, hfz44_2⟩ := bc3 BK244.out
                 go_wp2
                 go_meet
                 case rel => exact ⟨_, ((((rd_T64 l0_4 (rd x5_1 (ji16))).f0) != 26)), (by first | rfl | (simp; done) | (simp only [← hji16] <;> (first | rfl | simp)) | (simp [*]; done)), H', ⟨by have := HK1.out; have := HJ23.out; first | omega | exact Nat.le_refl _⟩, ⟨by (try simp only [hl4_1]); (with_reducible repeat (first | apply Kd.R_alloc | apply Kd.R_drewN | apply Kd.R_drew)); exact HO_4.out⟩, ⟨by (try simp only [hl4_1]); (with_reducible repeat (first | apply Kd.R_alloc | apply Kd.R_drewN | apply Kd.R_drew)); exact HO_5.out⟩, ⟨by (try simp only [hl4_1]); (with_reducible repeat (first | apply Kd.R_alloc | apply Kd.R_drewN | apply Kd.R_drew)); exact Kd.R_mono HO251.out (fun _ hk => ⟨hk.1.2, hk.2⟩)⟩, ⟨by (try simp only [hl4_1]); (with_reducible repeat (first | apply blk_drewN | apply blk_drew | apply blk_alloc)); exact BK228.out⟩, ⟨by (try simp only [hl4_1]); (with_reducible repeat (first | apply blk_drewN | apply blk_drew | apply blk_alloc)); exact BK244.out⟩, ⟨hbm⟩⟩
              case rest =>
               clear HC34
               try clear c1; try clear c2; try clear p2 p2; try clear q2 q2; try clear hx2; try clear c3; try clear c3b0; try clear c3b1; try clear c4; try clear p4 p4; try clear q4 q4; try clear hx4; try clear qi4; try clear hf4; try clear c5; try clear p6 p6; try clear c8; try clear c15; try clear c15b0; try clear c15b1; try clear c17; try clear c17b0; try clear c18; try clear c18b0; try clear c19; try clear c19b0; try clear c19b1; try clear c20; try clear c20b0; try clear c21; try clear c21b0; try clear c23; try clear c23b0; try clear p23 p23; try clear q23 q23; try clear hx23; try clear p24 p24; try clear q24 q24; try clear hx24; try clear q26 q26; try clear c29; try clear c32; try clear c32b0; try clear c33; try clear c37; try clear c37b0; try clear c37b1; try clear c38; try clear c40; try clear c40b0; try clear c40b1; try clear c41; try clear c43; try clear hcz27_0 hcz27_1 hcz27_2 hcz27_3 hcz27_4 hfz27_0 hfz27_1 hfz27_2 hfz27_3 hfz27_4; try clear hcz30_0 hcz30_1 hcz30_2 hfz30_0 hfz30_1 hfz30_2; try clear hcz39_0 hcz39_1 hcz39_2 hfz39_0 hfz39_1 hfz39_2; try clear hcz42_0 hcz42_1 hcz42_2 hfz42_0 hfz42_1 hfz42_2; try clear hcz44_0 hcz44_1 hcz44_2 hfz44_0 hfz44_1 hfz44_2; try clear hcz8_0 hcz8_1 hcz8_2 hcz8_3 hcz8_4 hfz8_0 hfz8_1 hfz8_2 hfz8_3 hfz8_4; try clear hx239_0; try clear hx243_0; try clear hx243_1; try clear hx243_2; try clear hx247_0; try clear hx248_0; try clear hx4_0; try clear p239; try clear p243; try clear p247; try clear p248; try clear q239; try clear q243; try clear q247; try clear q248
               obtain ⟨kq, x77_33, rfl, HA, HJ33, HO_4, HO_5, HO_11, BK228, BK244, HB⟩ := hcut
               cases kq with
               | zero => exact absurd HA.out (by simp [impl_Module_heights.j2])
               | succ kj33 =>
                have H := HA.out
                clear HA
                simp only [impl_Module_heights.j2] at H
                have HC45 := Aside0.mk H
                clear H
                go_upto_if 77 with (fail)
                go_cut [11] (fun v11 wc => ∃ (kq : Nat) (x11_44 : List Int), Aside0 (impl_Module_heights.j3 kq x4_1 y240 (wrap64 ((wrap64 ((rd x4_1 (rd x5_1 (ji16))) - t245)) + t246)) x11_44 a0_0 a0_1 a0_2 a0_3 l0_4 ((rd_T64 l0_4 (rd x5_1 (ji16))).f0) ((rd_T64 l0_4 (rd x5_1 (ji16))).f1) ((rd_T64 l0_4 (rd x5_1 (ji16))).f2) = some (r1, r2)) ∧ Aside0 (kq ≤ kj33) ∧ Aside0 (Kd.R (Kd.int .i64) 2 wc w.heap.size (fun k_ => some k_ ≠ ((.slice (some ad239) y240.length co25) : Value).ownBlock ∧ some k_ ≠ (v11 : Value).ownBlock) (.slice (some ⟨go4, 0, none⟩) x4_1.length co4) x4_1) ∧ Aside0 (Kd.R (Kd.int .i64) 2 wc w.heap.size (fun k_ => some k_ ≠ ((.slice (some ⟨go4, 0, none⟩) x4_1.length co4) : Value).ownBlock ∧ some k_ ≠ (v11 : Value).ownBlock) (.slice (some ad239) y240.length co25) y240) ∧ Aside0 (Kd.R (Kd.int .i64) 2 wc w.heap.size (fun k_ => some k_ ≠ ((.slice (some ⟨go4, 0, none⟩) x4_1.length co4) : Value).ownBlock ∧ some k_ ≠ ((.slice (some ad239) y240.length co25) : Value).ownBlock) v11 x11_44) ∧ Aside0 (wc.heap[gb228]? = some (.cells #[.int .i64 a0_0, .int .i64 a0_1, .int .i64 a0_2, .int .i64 a0_3, (.slice (some ad243) l0_4.length c0_4)] 24 (0, 0))) ∧ Aside0 (wc.heap[gb244]? = some (.cells #[.int .i64 ((rd_T64 l0_4 (rd x5_1 (ji16))).f0), .int .i64 ((rd_T64 l0_4 (rd x5_1 (ji16))).f1), .int .i64 ((rd_T64 l0_4 (rd x5_1 (ji16))).f2)] 64 (0, 0))) ∧ Aside0 (Below w.heap.size w wc))
                case first =>
                 have H := HC45.out
                 clear HC45
                 by_cases c46 : x77_33 = true
                 ·
                  subst c46
                  have H1 : (if y249.length < 17592186044416 then (impl_Module_heights.j3 kj33 x4_1 y240 (wrap64 ((wrap64 ((rd x4_1 (rd x5_1 (ji16))) - t245)) + t246)) (y249 ++ [wrap64 ((rd x5_1 (ji16)) + 1)]) a0_0 a0_1 a0_2 a0_3 l0_4 ((rd_T64 l0_4 (rd x5_1 (ji16))).f0) ((rd_T64 l0_4 (rd x5_1 (ji16))).f1) ((rd_T64 l0_4 (rd x5_1 (ji16))).f2)) else (none)) = some (r1, r2) := by rw [if_pos rfl] at H; exact H
                  clear H
                  have H := H1
                  clear H1
                  by_cases c47 : y249.length < 17592186044416
                  ·
                   rw [if_pos c47] at H
                   have LMc47 := Aside0.mk c47
                   clear c47
                   obtain ⟨y252, hy252⟩ : ∃ y_ : List Int, y_ = (y249 ++ [wrap64 ((rd x5_1 (ji16)) + 1)]) := ⟨_, rfl⟩
                   replace H : (impl_Module_heights.j3 kj33 x4_1 y240 (wrap64 ((wrap64 ((rd x4_1 (rd x5_1 (ji16))) - t245)) + t246)) y252 a0_0 a0_1 a0_2 a0_3 l0_4 ((rd_T64 l0_4 (rd x5_1 (ji16))).f0) ((rd_T64 l0_4 (rd x5_1 (ji16))).f1) ((rd_T64 l0_4 (rd x5_1 (ji16))).f2)) = some (r1, r2) := by first | (rw [hy252]; with_reducible exact H) | (have H2_ := (Option.bind_some _ _).symm.trans H; rw [hy252]; with_reducible exact H2_) | (have H2_ := (Option.bind_some _ _).symm.trans H; with_reducible exact H2_) | with_reducible exact H | (rw [hy252]; exact H) | exact H
                   have Ny252 := Aside0.mk hy252
                   clear hy252
                   have H' := Aside0.mk H
                   clear H
                   go_wp2_with (first | ((with_reducible refine gate_builtin (b := .append) (xs := #[.tmp 78, .tmp 81]) rfl ?_); at_builtin; refine Kd.R_append (Kd.int .i64) (w0 := w) w.heap.size rfl (.tmp 78) (.tmp 81) 53 2 (.int .i64 0) 8 rfl Try.underlying53 info2 rfl (by decide) (by omega) v250 y249 (wrap64 ((rd x5_1 (ji16)) + 1)) [.int .i64 (wrap64 ((rd x5_1 (ji16)) + 1))] (fun k_ => some k_ ≠ (.slice (some ⟨go4, 0, none⟩) x4_1.length co4 : Value).ownBlock ∧ some k_ ≠ (.slice (some ad239) y240.length co25 : Value).ownBlock) (fun _ => False) rfl rfl ?aP (fun _ hk => hk.elim) ?aF ?aO ?aB ?aS ?aL ?_; (case aP => exact rfl); (case aB => exact hbm); (case aF => exact (fun k_ hk => ⟨Kd.fresh' (Kd.R_lt (prR HO_4.out)) k_ hk, Kd.fresh' (Kd.R_lt (prR HO_5.out)) k_ hk⟩)); (case aO => exact (prR HO_11.out)); (case aS => exact (below_size hbm)); (case aL => have := LMc47.out; omega); intro v253 w48 ho hb hg hat; rw [← Ny252.out] at ho; have n0_ := Aside0.mk (Kd.R_after (ok := (fun k_ => some k_ ≠ (.slice (some ad239) y240.length co25 : Value).ownBlock)) (prR HO_4.out) hg hat); have n1_ := Aside0.mk (Kd.R_after (ok := (fun k_ => some k_ ≠ (.slice (some ⟨go4, 0, none⟩) x4_1.length co4 : Value).ownBlock)) (prR HO_5.out) hg hat); have n2_ := Aside0.mk (blk_grown (g := gb228) (o := .cells #[.int .i64 a0_0, .int .i64 a0_1, .int .i64 a0_2, .int .i64 a0_3, .slice (some ad243) l0_4.length c0_4] 24 (0, 0)) (by (with_reducible repeat (first | apply blk_drewN | apply blk_drew | apply blk_alloc)); exact BK228.out) hg (Kd.R_ne HO_11.out BK228.out (by decide))); have n3_ := Aside0.mk (blk_grown (g := gb244) (o := .cells #[.int .i64 ((rd_T64 l0_4 (rd x5_1 (ji16))).f0), .int .i64 ((rd_T64 l0_4 (rd x5_1 (ji16))).f1), .int .i64 ((rd_T64 l0_4 (rd x5_1 (ji16))).f2)] 64 (0, 0)) (by (with_reducible repeat (first | apply blk_drewN | apply blk_drew | apply blk_alloc)); exact BK244.out) hg (Kd.R_ne HO_11.out BK244.out (by decide))); have n4_ := Aside0.mk (hb); have n5_ := Aside0.mk (ho); clear HO_4; clear HO_5; clear BK228; clear BK244; clear HB; clear HO_11; have HO_4 := n0_; have HO_5 := n1_; have BK228 := n2_; have BK244 := n3_; have HB := n4_; have HO254 := n5_; clear n0_ n1_ n2_ n3_ n4_ n5_; clear ho hb hg hat))
                   go_meet
                   case rel => exact ⟨_, (y252), H', ⟨by have := HK1.out; have := HJ23.out; have := HJ33.out; first | omega | exact Nat.le_refl _⟩, ⟨by (try simp only [hl4_1]); (with_reducible repeat (first | apply Kd.R_alloc | apply Kd.R_drewN | apply Kd.R_drew)); exact HO_4.out⟩, ⟨by (try simp only [hl4_1]); (with_reducible repeat (first | apply Kd.R_alloc | apply Kd.R_drewN | apply Kd.R_drew)); exact HO_5.out⟩, ⟨by (try simp only [hl4_1]); (with_reducible repeat (first | apply Kd.R_alloc | apply Kd.R_drewN | apply Kd.R_drew)); exact HO254.out⟩, ⟨by (try simp only [hl4_1]); (with_reducible repeat (first | apply blk_drewN | apply blk_drew | apply blk_alloc)); exact BK228.out⟩, ⟨by (try simp only [hl4_1]); (with_reducible repeat (first | apply blk_drewN | apply blk_drew | apply blk_alloc)); exact BK244.out⟩, ⟨hbm⟩⟩
                  ·
                   rw [if_neg c47] at H
                   exact absurd H (by simp)
                 ·
                  replace c46 := Bool.eq_false_iff.mpr c46
                  subst c46
                  have H1 : (impl_Module_heights.j3 kj33 x4_1 y240 (wrap64 ((wrap64 ((rd x4_1 (rd x5_1 (ji16))) - t245)) + t246)) y249 a0_0 a0_1 a0_2 a0_3 l0_4 ((rd_T64 l0_4 (rd x5_1 (ji16))).f0) ((rd_T64 l0_4 (rd x5_1 (ji16))).f1) ((rd_T64 l0_4 (rd x5_1 (ji16))).f2)) = some (r1, r2) := by rw [if_neg (show ¬ (false = true) by decide)] at H; exact H
                  clear H
                  have H := H1
                  clear H1
                  have H' := Aside0.mk H
                  clear H
                  go_wp2
                  go_meet
                  case rel => exact ⟨_, (y249), H', ⟨by have := HK1.out; have := HJ23.out; have := HJ33.out; first | omega | exact Nat.le_refl _⟩, ⟨by (try simp only [hl4_1]); (with_reducible repeat (first | apply Kd.R_alloc | apply Kd.R_drewN | apply Kd.R_drew)); exact HO_4.out⟩, ⟨by (try simp only [hl4_1]); (with_reducible repeat (first | apply Kd.R_alloc | apply Kd.R_drewN | apply Kd.R_drew)); exact HO_5.out⟩, ⟨by (try simp only [hl4_1]); (with_reducible repeat (first | apply Kd.R_alloc | apply Kd.R_drewN | apply Kd.R_drew)); exact HO_11.out⟩, ⟨by (try simp only [hl4_1]); (with_reducible repeat (first | apply blk_drewN | apply blk_drew | apply blk_alloc)); exact BK228.out⟩, ⟨by (try simp only [hl4_1]); (with_reducible repeat (first | apply blk_drewN | apply blk_drew | apply blk_alloc)); exact BK244.out⟩, ⟨hbm⟩⟩
                case rest =>
                 clear HC45
                 try clear c1; try clear c2; try clear p2 p2; try clear q2 q2; try clear hx2; try clear c3; try clear c3b0; try clear c3b1; try clear c4; try clear p4 p4; try clear q4 q4; try clear hx4; try clear qi4; try clear hf4; try clear c5; try clear p6 p6; try clear c8; try clear c15; try clear c15b0; try clear c15b1; try clear c17; try clear c17b0; try clear c18; try clear c18b0; try clear c19; try clear c19b0; try clear c19b1; try clear c20; try clear c20b0; try clear c21; try clear c21b0; try clear c23; try clear c23b0; try clear p23 p23; try clear q23 q23; try clear hx23; try clear p24 p24; try clear q24 q24; try clear hx24; try clear q26 q26; try clear c29; try clear c32; try clear c32b0; try clear c33; try clear c37; try clear c37b0; try clear c37b1; try clear c38; try clear c40; try clear c40b0; try clear c40b1; try clear c41; try clear c43; try clear c46; try clear c47; try clear hcz27_0 hcz27_1 hcz27_2 hcz27_3 hcz27_4 hfz27_0 hfz27_1 hfz27_2 hfz27_3 hfz27_4; try clear hcz30_0 hcz30_1 hcz30_2 hfz30_0 hfz30_1 hfz30_2; try clear hcz39_0 hcz39_1 hcz39_2 hfz39_0 hfz39_1 hfz39_2; try clear hcz42_0 hcz42_1 hcz42_2 hfz42_0 hfz42_1 hfz42_2; try clear hcz44_0 hcz44_1 hcz44_2 hfz44_0 hfz44_1 hfz44_2; try clear hcz8_0 hcz8_1 hcz8_2 hcz8_3 hcz8_4 hfz8_0 hfz8_1 hfz8_2 hfz8_3 hfz8_4; try clear hx239_0; try clear hx243_0; try clear hx243_1; try clear hx243_2; try clear hx247_0; try clear hx248_0; try clear hx4_0; try clear p239; try clear p243; try clear p247; try clear p248; try clear q239; try clear q243; try clear q247; try clear q248
                 obtain ⟨kq, x11_44, HA, HJ44, HO_4, HO_5, HO_11, BK228, BK244, HB⟩ := hcut
                 cases kq with
                 | zero => exact absurd HA.out (by simp [impl_Module_heights.j3])
                 | succ kj44 =>
                  have H := HA.out
                  clear HA
                  simp only [impl_Module_heights.j3] at H
                  have HC49 := Aside0.mk H
                  clear H
                  go_upto_region 15 with (fail)
                  go_cut [90] (fun v90 wc => ∃ (kq : Nat) (x90_48 : Bool), v90 = .bool x90_48 ∧ Aside0 (impl_Module_heights.j4 kq x4_1 y240 (wrap64 ((wrap64 ((rd x4_1 (rd x5_1 (ji16))) - t245)) + t246)) x11_44 x90_48 a0_0 a0_1 a0_2 a0_3 l0_4 ((rd_T64 l0_4 (rd x5_1 (ji16))).f0) ((rd_T64 l0_4 (rd x5_1 (ji16))).f1) ((rd_T64 l0_4 (rd x5_1 (ji16))).f2) = some (r1, r2)) ∧ Aside0 (kq ≤ kj44) ∧ Aside0 (Kd.R (Kd.int .i64) 2 wc w.heap.size (fun k_ => some k_ ≠ ((.slice (some ad239) y240.length co25) : Value).ownBlock ∧ some k_ ≠ (u11 : Value).ownBlock) (.slice (some ⟨go4, 0, none⟩) x4_1.length co4) x4_1) ∧ Aside0 (Kd.R (Kd.int .i64) 2 wc w.heap.size (fun k_ => some k_ ≠ ((.slice (some ⟨go4, 0, none⟩) x4_1.length co4) : Value).ownBlock ∧ some k_ ≠ (u11 : Value).ownBlock) (.slice (some ad239) y240.length co25) y240) ∧ Aside0 (Kd.R (Kd.int .i64) 2 wc w.heap.size (fun k_ => some k_ ≠ ((.slice (some ⟨go4, 0, none⟩) x4_1.length co4) : Value).ownBlock ∧ some k_ ≠ ((.slice (some ad239) y240.length co25) : Value).ownBlock) u11 x11_44) ∧ Aside0 (wc.heap[gb228]? = some (.cells #[.int .i64 a0_0, .int .i64 a0_1, .int .i64 a0_2, .int .i64 a0_3, (.slice (some ad243) l0_4.length c0_4)] 24 (0, 0))) ∧ Aside0 (wc.heap[gb244]? = some (.cells #[.int .i64 ((rd_T64 l0_4 (rd x5_1 (ji16))).f0), .int .i64 ((rd_T64 l0_4 (rd x5_1 (ji16))).f1), .int .i64 ((rd_T64 l0_4 (rd x5_1 (ji16))).f2)] 64 (0, 0))) ∧ Aside0 (Below w.heap.size w wc))
                  case first =>
                   have H := HC49.out
                   clear HC49
                   by_cases c50 : ((rd_T64 l0_4 (rd x5_1 (ji16))).f0) = 21
                   ·
                    rw [if_pos c50] at H
                    have c50b0 : (((rd_T64 l0_4 (rd x5_1 (ji16))).f0) == 21) = true := beq_iff_eq.mpr c50
                    have c50b1 : (((rd_T64 l0_4 (rd x5_1 (ji16))).f0) != 21) = false := bne_eq_false_iff_eq.mpr c50
                    clear c50
                    (first | rw [c50b0] | (simp only [i64_w, i32_w]; rw [c50b0]) | skip)
                    have H' := Aside0.mk H
                    clear H
                    have hnb51 := NB244_228.out
                    have hnc51 := NB228_244.out
                    obtain ⟨hcz52_0, hcz52_1, hcz52_2, hfz52_0, hfz52_1, hfz52_2⟩ := bc3 BK244.out
                    go_wp2
                    go_meet
                    case rel => exact ⟨_, (true), (by first | rfl | (simp; done) | (simp [*]; done)), H', ⟨by have := HK1.out; have := HJ23.out; have := HJ33.out; have := HJ44.out; first | omega | exact Nat.le_refl _⟩, ⟨by (try simp only [hl4_1]); (with_reducible repeat (first | apply Kd.R_alloc | apply Kd.R_drewN | apply Kd.R_drew)); exact HO_4.out⟩, ⟨by (try simp only [hl4_1]); (with_reducible repeat (first | apply Kd.R_alloc | apply Kd.R_drewN | apply Kd.R_drew)); exact HO_5.out⟩, ⟨by (try simp only [hl4_1]); (with_reducible repeat (first | apply Kd.R_alloc | apply Kd.R_drewN | apply Kd.R_drew)); exact HO_11.out⟩, ⟨by (try simp only [hl4_1]); (with_reducible repeat (first | apply blk_drewN | apply blk_drew | apply blk_alloc)); exact BK228.out⟩, ⟨by (try simp only [hl4_1]); (with_reducible repeat (first | apply blk_drewN | apply blk_drew | apply blk_alloc)); exact BK244.out⟩, ⟨hbm⟩⟩
                   ·
                    rw [if_neg c50] at H
                    have c50b0 : (((rd_T64 l0_4 (rd x5_1 (ji16))).f0) == 21) = false := beq_eq_false_iff_ne.mpr c50
                    have c50b1 : (((rd_T64 l0_4 (rd x5_1 (ji16))).f0) != 21) = true := bne_iff_ne.mpr c50
                    (first | rw [c50b0] | (simp only [i64_w, i32_w]; rw [c50b0]) | skip)
                    have H' := Aside0.mk H
                    clear H
                    have hnb53 := NB244_228.out
                    have hnc53 := NB228_244.out
                    obtain ⟨hcz54_0, hcz54_1, hcz54_2, hfz54_0, hfz54_1, hfz54_2⟩ := bc3 BK244.out
                    go_wp2
                    go_meet
                    case rel => exact ⟨_, ((((rd_T64 l0_4 (rd x5_1 (ji16))).f0) == 22)), (by first | rfl | (simp; done) | (simp only [← hji16] <;> (first | rfl | simp)) | (simp [*]; done)), H', ⟨by have := HK1.out; have := HJ23.out; have := HJ33.out; have := HJ44.out; first | omega | exact Nat.le_refl _⟩, ⟨by (try simp only [hl4_1]); (with_reducible repeat (first | apply Kd.R_alloc | apply Kd.R_drewN | apply Kd.R_drew)); exact HO_4.out⟩, ⟨by (try simp only [hl4_1]); (with_reducible repeat (first | apply Kd.R_alloc | apply Kd.R_drewN | apply Kd.R_drew)); exact HO_5.out⟩, ⟨by (try simp only [hl4_1]); (with_reducible repeat (first | apply Kd.R_alloc | apply Kd.R_drewN | apply Kd.R_drew)); exact HO_11.out⟩, ⟨by (try simp only [hl4_1]); (with_reducible repeat (first | apply blk_drewN | apply blk_drew | apply blk_alloc)); exact BK228.out⟩, ⟨by (try simp only [hl4_1]); (with_reducible repeat (first | apply blk_drewN | apply blk_drew | apply blk_alloc)); exact BK244.out⟩, ⟨hbm⟩⟩
                  case rest =>
                   clear HC49
                   try clear c1; try clear c2; try clear p2 p2; try clear q2 q2; try clear hx2; try clear c3; try clear c3b0; try clear c3b1; try clear c4; try clear p4 p4; try clear q4 q4; try clear hx4; try clear qi4; try clear hf4; try clear c5; try clear p6 p6; try clear c8; try clear c15; try clear c15b0; try clear c15b1; try clear c17; try clear c17b0; try clear c18; try clear c18b0; try clear c19; try clear c19b0; try clear c19b1; try clear c20; try clear c20b0; try clear c21; try clear c21b0; try clear c23; try clear c23b0; try clear p23 p23; try clear q23 q23; try clear hx23; try clear p24 p24; try clear q24 q24; try clear hx24; try clear q26 q26; try clear c29; try clear c32; try clear c32b0; try clear c33; try clear c37; try clear c37b0; try clear c37b1; try clear c38; try clear c40; try clear c40b0; try clear c40b1; try clear c41; try clear c43; try clear c46; try clear c47; try clear c50; try clear c50b0; try clear c50b1; try clear c51; try clear c53; try clear hcz27_0 hcz27_1 hcz27_2 hcz27_3 hcz27_4 hfz27_0 hfz27_1 hfz27_2 hfz27_3 hfz27_4; try clear hcz30_0 hcz30_1 hcz30_2 hfz30_0 hfz30_1 hfz30_2; try clear hcz39_0 hcz39_1 hcz39_2 hfz39_0 hfz39_1 hfz39_2; try clear hcz42_0 hcz42_1 hcz42_2 hfz42_0 hfz42_1 hfz42_2; try clear hcz44_0 hcz44_1 hcz44_2 hfz44_0 hfz44_1 hfz44_2; try clear hcz52_0 hcz52_1 hcz52_2 hfz52_0 hfz52_1 hfz52_2; try clear hcz54_0 hcz54_1 hcz54_2 hfz54_0 hfz54_1 hfz54_2; try clear hcz8_0 hcz8_1 hcz8_2 hcz8_3 hcz8_4 hfz8_0 hfz8_1 hfz8_2 hfz8_3 hfz8_4; try clear hx239_0; try clear hx243_0; try clear hx243_1; try clear hx243_2; try clear hx247_0; try clear hx248_0; try clear hx4_0; try clear p239; try clear p243; try clear p247; try clear p248; try clear q239; try clear q243; try clear q247; try clear q248
                   obtain ⟨kq, x90_48, rfl, HA, HJ48, HO_4, HO_5, HO_11, BK228, BK244, HB⟩ := hcut
                   cases kq with
                   | zero => exact absurd HA.out (by simp [impl_Module_heights.j4])
                   | succ kj48 =>
                    have H := HA.out
                    clear HA
                    simp only [impl_Module_heights.j4] at H
                    have HC55 := Aside0.mk H
                    clear H
                    go_upto_if 90 with (fail)
                    go_cut [11] (fun v11 wc => ∃ (kq : Nat) (x11_54 : List Int), Aside0 (impl_Module_heights.j5 kq x4_1 y240 (wrap64 ((wrap64 ((rd x4_1 (rd x5_1 (ji16))) - t245)) + t246)) x11_54 a0_0 a0_1 a0_2 a0_3 l0_4 = some (r1, r2)) ∧ Aside0 (kq ≤ kj48) ∧ Aside0 (Kd.R (Kd.int .i64) 2 wc w.heap.size (fun k_ => some k_ ≠ ((.slice (some ad239) y240.length co25) : Value).ownBlock ∧ some k_ ≠ (v11 : Value).ownBlock) (.slice (some ⟨go4, 0, none⟩) x4_1.length co4) x4_1) ∧ Aside0 (Kd.R (Kd.int .i64) 2 wc w.heap.size (fun k_ => some k_ ≠ ((.slice (some ⟨go4, 0, none⟩) x4_1.length co4) : Value).ownBlock ∧ some k_ ≠ (v11 : Value).ownBlock) (.slice (some ad239) y240.length co25) y240) ∧ Aside0 (Kd.R (Kd.int .i64) 2 wc w.heap.size (fun k_ => some k_ ≠ ((.slice (some ⟨go4, 0, none⟩) x4_1.length co4) : Value).ownBlock ∧ some k_ ≠ ((.slice (some ad239) y240.length co25) : Value).ownBlock) v11 x11_54) ∧ Aside0 (wc.heap[gb228]? = some (.cells #[.int .i64 a0_0, .int .i64 a0_1, .int .i64 a0_2, .int .i64 a0_3, (.slice (some ad243) l0_4.length c0_4)] 24 (0, 0))) ∧ Aside0 (wc.heap[gb244]? = some (.cells #[.int .i64 ((rd_T64 l0_4 (rd x5_1 (ji16))).f0), .int .i64 ((rd_T64 l0_4 (rd x5_1 (ji16))).f1), .int .i64 ((rd_T64 l0_4 (rd x5_1 (ji16))).f2)] 64 (0, 0))) ∧ Aside0 (Below w.heap.size w wc))
                    case first =>
                     have H := HC55.out
                     clear HC55
                     by_cases c56 : x90_48 = true
                     ·
                      subst c56
                      have H1 : (if x11_44.length < 17592186044416 then (impl_Module_heights.j5 kj48 x4_1 y240 (wrap64 ((wrap64 ((rd x4_1 (rd x5_1 (ji16))) - t245)) + t246)) (x11_44 ++ [((rd_T64 l0_4 (rd x5_1 (ji16))).f1)]) a0_0 a0_1 a0_2 a0_3 l0_4) else (none)) = some (r1, r2) := by rw [if_pos rfl] at H; exact H
                      clear H
                      have H := H1
                      clear H1
                      by_cases c57 : x11_44.length < 17592186044416
                      ·
                       rw [if_pos c57] at H
                       have LMc57 := Aside0.mk c57
                       clear c57
                       obtain ⟨y255, hy255⟩ : ∃ y_ : List Int, y_ = (x11_44 ++ [((rd_T64 l0_4 (rd x5_1 (ji16))).f1)]) := ⟨_, rfl⟩
                       replace H : (impl_Module_heights.j5 kj48 x4_1 y240 (wrap64 ((wrap64 ((rd x4_1 (rd x5_1 (ji16))) - t245)) + t246)) y255 a0_0 a0_1 a0_2 a0_3 l0_4) = some (r1, r2) := by first | (rw [hy255]; with_reducible exact H) | (have H2_ := (Option.bind_some _ _).symm.trans H; rw [hy255]; with_reducible exact H2_) | (have H2_ := (Option.bind_some _ _).symm.trans H; with_reducible exact H2_) | with_reducible exact H | (rw [hy255]; exact H) | exact H
                       have Ny255 := Aside0.mk hy255
                       clear hy255
                       have H' := Aside0.mk H
                       clear H
                       have hnb58 := NB244_228.out
                       have hnc58 := NB228_244.out
                       obtain ⟨hcz59_0, hcz59_1, hcz59_2, hfz59_0, hfz59_1, hfz59_2⟩ := bc3 BK244.out
                       go_wp2_with (first | ((with_reducible refine gate_builtin (b := .append) (xs := #[.tmp 91, .tmp 94]) rfl ?_); at_builtin; refine Kd.R_append (Kd.int .i64) (w0 := w) w.heap.size rfl (.tmp 91) (.tmp 94) 53 2 (.int .i64 0) 8 rfl Try.underlying53 info2 rfl (by decide) (by omega) u11 x11_44 ((rd_T64 l0_4 (rd x5_1 (ji16))).f1) [.int .i64 ((rd_T64 l0_4 (rd x5_1 (ji16))).f1)] (fun k_ => some k_ ≠ (.slice (some ⟨go4, 0, none⟩) x4_1.length co4 : Value).ownBlock ∧ some k_ ≠ (.slice (some ad239) y240.length co25 : Value).ownBlock) (fun _ => False) rfl rfl ?aP (fun _ hk => hk.elim) ?aF ?aO ?aB ?aS ?aL ?_; (case aP => exact rfl); (case aB => exact hbm); (case aF => exact (fun k_ hk => ⟨Kd.fresh' (Kd.R_lt (prR HO_4.out)) k_ hk, Kd.fresh' (Kd.R_lt (prR HO_5.out)) k_ hk⟩)); (case aO => exact (prR HO_11.out)); (case aS => exact (below_size hbm)); (case aL => have := LMc57.out; omega); intro v256 w60 ho hb hg hat; rw [← Ny255.out] at ho; have n0_ := Aside0.mk (Kd.R_after (ok := (fun k_ => some k_ ≠ (.slice (some ad239) y240.length co25 : Value).ownBlock)) (prR HO_4.out) hg hat); have n1_ := Aside0.mk (Kd.R_after (ok := (fun k_ => some k_ ≠ (.slice (some ⟨go4, 0, none⟩) x4_1.length co4 : Value).ownBlock)) (prR HO_5.out) hg hat); have n2_ := Aside0.mk (blk_grown (g := gb228) (o := .cells #[.int .i64 a0_0, .int .i64 a0_1, .int .i64 a0_2, .int .i64 a0_3, .slice (some ad243) l0_4.length c0_4] 24 (0, 0)) (by (with_reducible repeat (first | apply blk_drewN | apply blk_drew | apply blk_alloc)); exact BK228.out) hg (Kd.R_ne HO_11.out BK228.out (by decide))); have n3_ := Aside0.mk (blk_grown (g := gb244) (o := .cells #[.int .i64 ((rd_T64 l0_4 (rd x5_1 (ji16))).f0), .int .i64 ((rd_T64 l0_4 (rd x5_1 (ji16))).f1), .int .i64 ((rd_T64 l0_4 (rd x5_1 (ji16))).f2)] 64 (0, 0)) (by (with_reducible repeat (first | apply blk_drewN | apply blk_drew | apply blk_alloc)); exact BK244.out) hg (Kd.R_ne HO_11.out BK244.out (by decide))); have n4_ := Aside0.mk (hb); have n5_ := Aside0.mk (ho); clear HO_4; clear HO_5; clear BK228; clear BK244; clear HB; clear HO_11; have HO_4 := n0_; have HO_5 := n1_; have BK228 := n2_; have BK244 := n3_; have HB := n4_; have HO257 := n5_; clear n0_ n1_ n2_ n3_ n4_ n5_; clear ho hb hg hat))
                       go_meet
                       case rel => exact ⟨_, (y255), H', ⟨by have := HK1.out; have := HJ23.out; have := HJ33.out; have := HJ44.out; have := HJ48.out; first | omega | exact Nat.le_refl _⟩, ⟨by (try simp only [hl4_1]); (with_reducible repeat (first | apply Kd.R_alloc | apply Kd.R_drewN | apply Kd.R_drew)); exact HO_4.out⟩, ⟨by (try simp only [hl4_1]); (with_reducible repeat (first | apply Kd.R_alloc | apply Kd.R_drewN | apply Kd.R_drew)); exact HO_5.out⟩, ⟨by (try simp only [hl4_1]); (with_reducible repeat (first | apply Kd.R_alloc | apply Kd.R_drewN | apply Kd.R_drew)); exact HO257.out⟩, ⟨by (try simp only [hl4_1]); (with_reducible repeat (first | apply blk_drewN | apply blk_drew | apply blk_alloc)); exact BK228.out⟩, ⟨by (try simp only [hl4_1]); (with_reducible repeat (first | apply blk_drewN | apply blk_drew | apply blk_alloc)); exact BK244.out⟩, ⟨hbm⟩⟩
                      ·
                       rw [if_neg c57] at H
                       exact absurd H (by simp)
                     ·
                      replace c56 := Bool.eq_false_iff.mpr c56
                      subst c56
                      have H1 : (impl_Module_heights.j5 kj48 x4_1 y240 (wrap64 ((wrap64 ((rd x4_1 (rd x5_1 (ji16))) - t245)) + t246)) x11_44 a0_0 a0_1 a0_2 a0_3 l0_4) = some (r1, r2) := by rw [if_neg (show ¬ (false = true) by decide)] at H; exact H
                      clear H
                      have H := H1
                      clear H1
                      have H' := Aside0.mk H
                      clear H
                      go_wp2
                      go_meet
                      case rel => exact ⟨_, (x11_44), H', ⟨by have := HK1.out; have := HJ23.out; have := HJ33.out; have := HJ44.out; have := HJ48.out; first | omega | exact Nat.le_refl _⟩, ⟨by (try simp only [hl4_1]); (with_reducible repeat (first | apply Kd.R_alloc | apply Kd.R_drewN | apply Kd.R_drew)); exact HO_4.out⟩, ⟨by (try simp only [hl4_1]); (with_reducible repeat (first | apply Kd.R_alloc | apply Kd.R_drewN | apply Kd.R_drew)); exact HO_5.out⟩, ⟨by (try simp only [hl4_1]); (with_reducible repeat (first | apply Kd.R_alloc | apply Kd.R_drewN | apply Kd.R_drew)); exact HO_11.out⟩, ⟨by (try simp only [hl4_1]); (with_reducible repeat (first | apply blk_drewN | apply blk_drew | apply blk_alloc)); exact BK228.out⟩, ⟨by (try simp only [hl4_1]); (with_reducible repeat (first | apply blk_drewN | apply blk_drew | apply blk_alloc)); exact BK244.out⟩, ⟨hbm⟩⟩
                    case rest =>
                     clear HC55
                     try clear c1; try clear c2; try clear p2 p2; try clear q2 q2; try clear hx2; try clear c3; try clear c3b0; try clear c3b1; try clear c4; try clear p4 p4; try clear q4 q4; try clear hx4; try clear qi4; try clear hf4; try clear c5; try clear p6 p6; try clear c8; try clear c15; try clear c15b0; try clear c15b1; try clear c17; try clear c17b0; try clear c18; try clear c18b0; try clear c19; try clear c19b0; try clear c19b1; try clear c20; try clear c20b0; try clear c21; try clear c21b0; try clear c23; try clear c23b0; try clear p23 p23; try clear q23 q23; try clear hx23; try clear p24 p24; try clear q24 q24; try clear hx24; try clear q26 q26; try clear c29; try clear c32; try clear c32b0; try clear c33; try clear c37; try clear c37b0; try clear c37b1; try clear c38; try clear c40; try clear c40b0; try clear c40b1; try clear c41; try clear c43; try clear c46; try clear c47; try clear c50; try clear c50b0; try clear c50b1; try clear c51; try clear c53; try clear c56; try clear c57; try clear c58; try clear hcz27_0 hcz27_1 hcz27_2 hcz27_3 hcz27_4 hfz27_0 hfz27_1 hfz27_2 hfz27_3 hfz27_4; try clear hcz30_0 hcz30_1 hcz30_2 hfz30_0 hfz30_1 hfz30_2; try clear hcz39_0 hcz39_1 hcz39_2 hfz39_0 hfz39_1 hfz39_2; try clear hcz42_0 hcz42_1 hcz42_2 hfz42_0 hfz42_1 hfz42_2; try clear hcz44_0 hcz44_1 hcz44_2 hfz44_0 hfz44_1 hfz44_2; try clear hcz52_0 hcz52_1 hcz52_2 hfz52_0 hfz52_1 hfz52_2; try clear hcz54_0 hcz54_1 hcz54_2 hfz54_0 hfz54_1 hfz54_2; try clear hcz59_0 hcz59_1 hcz59_2 hfz59_0 hfz59_1 hfz59_2; try clear hcz8_0 hcz8_1 hcz8_2 hcz8_3 hcz8_4 hfz8_0 hfz8_1 hfz8_2 hfz8_3 hfz8_4; try clear hx239_0; try clear hx243_0; try clear hx243_1; try clear hx243_2; try clear hx247_0; try clear hx248_0; try clear hx4_0; try clear p239; try clear p243; try clear p247; try clear p248; try clear q239; try clear q243; try clear q247; try clear q248
                     obtain ⟨kq, x11_54, HA, HJ54, HO_4, HO_5, HO_11, BK228, BK244, HB⟩ := hcut
                     cases kq with
                     | zero => exact absurd HA.out (by simp [impl_Module_heights.j5])
                     | succ kj54 =>
                      have H := HA.out
                      clear HA
                      simp only [impl_Module_heights.j5] at H
                      have H' := Aside0.mk H
                      clear H
                      obtain ⟨Ao61, co61, eo61⟩ := Kd.R_slice HO_11.out
                      subst eo61
                      go_wp2
                      go_loopg [5, 98] kj54 (fun kq v5 v98 w' => ∃ (x4_7 : List Int) (x5_7 : List Int) (x98_7 : Int), v98 = .int .i64 x98_7 ∧ Aside0 (impl_Module_heights.l1 kq x4_7 x5_7 (wrap64 ((wrap64 ((rd x4_1 (rd x5_1 (ji16))) - t245)) + t246)) x11_54 (x11_54.length : Int) x98_7 a0_0 a0_1 a0_2 a0_3 l0_4 = some (r1, r2)) ∧ Aside0 (kq ≤ kj54) ∧ Aside0 (Kd.R (Kd.int .i64) 2 w' w.heap.size (fun k_ => some k_ ≠ (v5 : Value).ownBlock ∧ some k_ ≠ ((.slice Ao61 x11_54.length co61) : Value).ownBlock) (.slice (some ⟨go4, 0, none⟩) x4_1.length co4) x4_7) ∧ Aside0 (Kd.R (Kd.int .i64) 2 w' w.heap.size (fun k_ => some k_ ≠ ((.slice (some ⟨go4, 0, none⟩) x4_1.length co4) : Value).ownBlock ∧ some k_ ≠ ((.slice Ao61 x11_54.length co61) : Value).ownBlock) v5 x5_7) ∧ Aside0 (Kd.R (Kd.int .i64) 2 w' w.heap.size (fun k_ => some k_ ≠ ((.slice (some ⟨go4, 0, none⟩) x4_1.length co4) : Value).ownBlock ∧ some k_ ≠ (v5 : Value).ownBlock) (.slice Ao61 x11_54.length co61) x11_54) ∧ Aside0 (w'.heap[gb228]? = some (.cells #[.int .i64 a0_0, .int .i64 a0_1, .int .i64 a0_2, .int .i64 a0_3, (.slice (some ad243) l0_4.length c0_4)] 24 (0, 0))) ∧ Aside0 (w'.heap[gb244]? = some (.cells #[.int .i64 ((rd_T64 l0_4 (rd x5_1 (ji16))).f0), .int .i64 ((rd_T64 l0_4 (rd x5_1 (ji16))).f1), .int .i64 ((rd_T64 l0_4 (rd x5_1 (ji16))).f2)] 64 (0, 0))) ∧ Aside0 (Below w.heap.size w w'))
                      case atStart => exact ⟨(x4_1), (y240), (0), (by first | rfl | (simp; done) | (simp [*]; done)), H', ⟨Nat.le_refl _⟩, ⟨by (try simp only [hl4_1]); (with_reducible repeat (first | apply Kd.R_alloc | apply Kd.R_drewN | apply Kd.R_drew)); exact HO_4.out⟩, ⟨by (try simp only [hl4_1]); (with_reducible repeat (first | apply Kd.R_alloc | apply Kd.R_drewN | apply Kd.R_drew)); exact HO_5.out⟩, ⟨by (try simp only [hl4_1]); (with_reducible repeat (first | apply Kd.R_alloc | apply Kd.R_drewN | apply Kd.R_drew)); exact HO_11.out⟩, ⟨by (try simp only [hl4_1]); (with_reducible repeat (first | apply blk_drewN | apply blk_drew | apply blk_alloc)); exact BK228.out⟩, ⟨by (try simp only [hl4_1]); (with_reducible repeat (first | apply blk_drewN | apply blk_drew | apply blk_alloc)); exact BK244.out⟩, ⟨hbm⟩⟩
                      case round =>
                       clear H'
                       try clear c1; try clear c2; try clear p2 p2; try clear q2 q2; try clear hx2; try clear c3; try clear c3b0; try clear c3b1; try clear c4; try clear p4 p4; try clear q4 q4; try clear hx4; try clear qi4; try clear hf4; try clear c5; try clear p6 p6; try clear c8; try clear c15; try clear c15b0; try clear c15b1; try clear c17; try clear c17b0; try clear c18; try clear c18b0; try clear c19; try clear c19b0; try clear c19b1; try clear c20; try clear c20b0; try clear c21; try clear c21b0; try clear c23; try clear c23b0; try clear p23 p23; try clear q23 q23; try clear hx23; try clear p24 p24; try clear q24 q24; try clear hx24; try clear q26 q26; try clear c29; try clear c32; try clear c32b0; try clear c33; try clear c37; try clear c37b0; try clear c37b1; try clear c38; try clear c40; try clear c40b0; try clear c40b1; try clear c41; try clear c43; try clear c46; try clear c47; try clear c50; try clear c50b0; try clear c50b1; try clear c51; try clear c53; try clear c56; try clear c57; try clear c58; try clear hcz27_0 hcz27_1 hcz27_2 hcz27_3 hcz27_4 hfz27_0 hfz27_1 hfz27_2 hfz27_3 hfz27_4; try clear hcz30_0 hcz30_1 hcz30_2 hfz30_0 hfz30_1 hfz30_2; try clear hcz39_0 hcz39_1 hcz39_2 hfz39_0 hfz39_1 hfz39_2; try clear hcz42_0 hcz42_1 hcz42_2 hfz42_0 hfz42_1 hfz42_2; try clear hcz44_0 hcz44_1 hcz44_2 hfz44_0 hfz44_1 hfz44_2; try clear hcz52_0 hcz52_1 hcz52_2 hfz52_0 hfz52_1 hfz52_2; try clear hcz54_0 hcz54_1 hcz54_2 hfz54_0 hfz54_1 hfz54_2; try clear hcz59_0 hcz59_1 hcz59_2 hfz59_0 hfz59_1 hfz59_2; try clear hcz8_0 hcz8_1 hcz8_2 hcz8_3 hcz8_4 hfz8_0 hfz8_1 hfz8_2 hfz8_3 hfz8_4; try clear hx239_0; try clear hx243_0; try clear hx243_1; try clear hx243_2; try clear hx247_0; try clear hx248_0; try clear hx4_0; try clear p239; try clear p243; try clear p247; try clear p248; try clear q239; try clear q243; try clear q247; try clear q248
                       obtain ⟨x4_7, x5_7, x98_7, rfl, HA, HK7, HO_4, HO_5, HO_96, BK228, BK244, HB⟩ := hrel
                       have hl4_7 := (Kd.R_reads' HO_4.out).1
                       rw [hl4_7] at HO_4
                       (try simp only [hl4_7])
                       (try simp only [hl4_7] at BK228)
                       (try simp only [hl4_7] at BK244)
                       (try simp only [hl4_7] at HO_5)
                       (try simp only [hl4_7] at HO_96)
                       cases gk with
                       | zero => exact absurd HA.out (by simp [impl_Module_heights.l1])
                       | succ k7 =>
                        have H := HA.out
                        clear HA
                        simp only [impl_Module_heights.l1] at H
                        by_cases c62 : x98_7 < (x11_54.length : Int)
                        ·
                         rw [if_pos c62] at H
                         have c62b0 := decide_eq_true c62
                         clear c62
                         by_cases c63 : 0 ≤ x98_7
                         ·
                          rw [if_pos c63] at H
                          have c63b0 := decide_eq_true c63
                          clear c63
                          by_cases c64 : x98_7 < (x11_54.length : Int)
                          ·
                           rw [if_pos c64] at H
                           have c64b0 := decide_eq_true c64
                           clear c64
                           have HC65 := Aside0.mk H
                           clear H
                           have p258 : 0 ≤ (x98_7 : Int) := of_decide_eq_true asm_
                           have q258 : x98_7 < (x11_54.length : Int) := of_decide_eq_true asm_
                           obtain ⟨ad258, e258, hx258_0⟩ := Kd.at_int (Kd.R_reads' HO_96.out).2.2 x98_7 p258 q258
                           cases e258
                           replace p258 := eq_true p258
                           replace q258 := eq_true q258
                           go_upto_region 20 with (fail)
                           go_cut [102] (fun v102 wc => ∃ (kq : Nat) (x102_64 : Bool), v102 = .bool x102_64 ∧ Aside0 (impl_Module_heights.j7 kq x4_7 x5_7 (wrap64 ((wrap64 ((rd x4_1 (rd x5_1 (ji16))) - t245)) + t246)) (rd x11_54 x98_7) x11_54 (x11_54.length : Int) x98_7 x102_64 a0_0 a0_1 a0_2 a0_3 l0_4 = some (r1, r2)) ∧ Aside0 (kq ≤ k7) ∧ Aside0 (Kd.R (Kd.int .i64) 2 wc w.heap.size (fun k_ => some k_ ≠ (u5 : Value).ownBlock ∧ some k_ ≠ ((.slice (some ad258) x11_54.length co61) : Value).ownBlock) (.slice (some ⟨go4, 0, none⟩) x4_7.length co4) x4_7) ∧ Aside0 (Kd.R (Kd.int .i64) 2 wc w.heap.size (fun k_ => some k_ ≠ ((.slice (some ⟨go4, 0, none⟩) x4_7.length co4) : Value).ownBlock ∧ some k_ ≠ ((.slice (some ad258) x11_54.length co61) : Value).ownBlock) u5 x5_7) ∧ Aside0 (Kd.R (Kd.int .i64) 2 wc w.heap.size (fun k_ => some k_ ≠ ((.slice (some ⟨go4, 0, none⟩) x4_7.length co4) : Value).ownBlock ∧ some k_ ≠ (u5 : Value).ownBlock) (.slice (some ad258) x11_54.length co61) x11_54) ∧ Aside0 (wc.heap[gb228]? = some (.cells #[.int .i64 a0_0, .int .i64 a0_1, .int .i64 a0_2, .int .i64 a0_3, (.slice (some ad243) l0_4.length c0_4)] 24 (0, 0))) ∧ Aside0 (wc.heap[gb244]? = some (.cells #[.int .i64 ((rd_T64 l0_4 (rd x5_1 (ji16))).f0), .int .i64 ((rd_T64 l0_4 (rd x5_1 (ji16))).f1), .int .i64 ((rd_T64 l0_4 (rd x5_1 (ji16))).f2)] 64 (0, 0))) ∧ Aside0 (Below w.heap.size w wc))
                           case first =>
                            have H := HC65.out
                            clear HC65
                            by_cases c66 : (rd x11_54 x98_7) = (l0_4.length : Int)
                            ·
                             rw [if_pos c66] at H
                             have c66b0 : ((rd x11_54 x98_7) == (l0_4.length : Int)) = true := beq_iff_eq.mpr c66
                             have c66b1 : ((rd x11_54 x98_7) != (l0_4.length : Int)) = false := bne_eq_false_iff_eq.mpr c66
                             clear c66
                             (first | rw [c66b0] | (simp only [i64_w, i32_w]; rw [c66b0]) | skip)
                             have H' := Aside0.mk H
                             clear H
                             have hnb67 := NB228_244.out
                             have hnc67 := NB244_228.out
                             obtain ⟨hcz68_0, hcz68_1, hcz68_2, hcz68_3, hcz68_4, hfz68_0, hfz68_1, hfz68_2, hfz68_3, hfz68_4⟩ := bc5 BK228.out
                             go_wp2
                             go_meet
                             case rel => exact ⟨_, (true), (by first | rfl | (simp; done) | (simp [*]; done)), H', ⟨by have := HK1.out; have := HJ23.out; have := HJ33.out; have := HJ44.out; have := HJ48.out; have := HJ54.out; have := HK7.out; first | omega | exact Nat.le_refl _⟩, ⟨by (try simp only [hl4_1]); (try simp only [hl4_7]); (with_reducible repeat (first | apply Kd.R_alloc | apply Kd.R_drewN | apply Kd.R_drew)); exact HO_4.out⟩, ⟨by (try simp only [hl4_1]); (try simp only [hl4_7]); (with_reducible repeat (first | apply Kd.R_alloc | apply Kd.R_drewN | apply Kd.R_drew)); exact HO_5.out⟩, ⟨by (try simp only [hl4_1]); (try simp only [hl4_7]); (with_reducible repeat (first | apply Kd.R_alloc | apply Kd.R_drewN | apply Kd.R_drew)); exact HO_96.out⟩, ⟨by (try simp only [hl4_1]); (try simp only [hl4_7]); (with_reducible repeat (first | apply blk_drewN | apply blk_drew | apply blk_alloc)); exact BK228.out⟩, ⟨by (try simp only [hl4_1]); (try simp only [hl4_7]); (with_reducible repeat (first | apply blk_drewN | apply blk_drew | apply blk_alloc)); exact BK244.out⟩, ⟨hbm⟩⟩
                            ·
                             rw [if_neg c66] at H
                             have c66b0 : ((rd x11_54 x98_7) == (l0_4.length : Int)) = false := beq_eq_false_iff_ne.mpr c66
                             have c66b1 : ((rd x11_54 x98_7) != (l0_4.length : Int)) = true := bne_iff_ne.mpr c66
                             (first | rw [c66b0] | (simp only [i64_w, i32_w]; rw [c66b0]) | skip)
                             by_cases c69 : 0 ≤ (rd x11_54 x98_7)
                             ·
                              rw [if_pos c69] at H
                              have c69b0 := decide_eq_true c69
                              clear c69
                              by_cases c70 : (rd x11_54 x98_7) < (x4_7.length : Int)
                              ·
                               rw [if_pos c70] at H
                               have c70b0 := decide_eq_true c70
                               clear c70
                               by_cases c71 : (rd x4_7 (rd x11_54 x98_7)) ≥ 0
                               ·
                                rw [if_pos c71] at H
                                have c71b0 : decide (0 ≤ (rd x4_7 (rd x11_54 x98_7))) = true := decide_eq_true c71
                                clear c71
                                have H' := Aside0.mk H
                                clear H
                                have hnb72 := NB228_244.out
                                have hnc72 := NB244_228.out
                                obtain ⟨hcz73_0, hcz73_1, hcz73_2, hcz73_3, hcz73_4, hfz73_0, hfz73_1, hfz73_2, hfz73_3, hfz73_4⟩ := bc5 BK228.out
                                have p259 : 0 ≤ ((rd x11_54 x98_7) : Int) := of_decide_eq_true asm_
                                have q259 : (rd x11_54 x98_7) < (x4_7.length : Int) := of_decide_eq_true asm_
                                obtain ⟨ad259, e259, hx259_0⟩ := Kd.at_int (Kd.R_reads' HO_4.out).2.2 (rd x11_54 x98_7) p259 q259
                                obtain rfl : (⟨go4, 0, none⟩ : Addr) = ad259 := (by injection e259)
                                (first | simp only [add_plain] at hx259_0 | simp only [add_at] at hx259_0 | simp only [Addr.add, Nat.zero_add] at hx259_0 | skip)
                                replace p259 := eq_true p259
                                replace q259 := eq_true q259
                                have p260 : 0 ≤ ((rd x11_54 x98_7) : Int) := of_decide_eq_true asm_
                                have q260 : (rd x11_54 x98_7) < (x4_7.length : Int) := of_decide_eq_true asm_
                                obtain ⟨ad260, e260, hx260_0⟩ := Kd.at_int (Kd.R_reads' HO_4.out).2.2 (rd x11_54 x98_7) p260 q260
                                obtain rfl : (⟨go4, 0, none⟩ : Addr) = ad260 := (by injection e260)
                                (first | simp only [add_plain] at hx260_0 | simp only [add_at] at hx260_0 | simp only [Addr.add, Nat.zero_add] at hx260_0 | skip)
                                replace p260 := eq_true p260
                                replace q260 := eq_true q260
                                go_wp2
                                go_meet
                                case rel => exact ⟨_, (((rd x4_7 (rd x11_54 x98_7)) != (wrap64 ((wrap64 ((rd x4_1 (rd x5_1 (ji16))) - t245)) + t246)))), (by first | rfl | (simp; done) | (simp only [← hji16] <;> (first | rfl | simp)) | (simp [*]; done)), H', ⟨by have := HK1.out; have := HJ23.out; have := HJ33.out; have := HJ44.out; have := HJ48.out; have := HJ54.out; have := HK7.out; first | omega | exact Nat.le_refl _⟩, ⟨by (try simp only [hl4_1]); (try simp only [hl4_7]); (with_reducible repeat (first | apply Kd.R_alloc | apply Kd.R_drewN | apply Kd.R_drew)); exact HO_4.out⟩, ⟨by (try simp only [hl4_1]); (try simp only [hl4_7]); (with_reducible repeat (first | apply Kd.R_alloc | apply Kd.R_drewN | apply Kd.R_drew)); exact HO_5.out⟩, ⟨by (try simp only [hl4_1]); (try simp only [hl4_7]); (with_reducible repeat (first | apply Kd.R_alloc | apply Kd.R_drewN | apply Kd.R_drew)); exact HO_96.out⟩, ⟨by (try simp only [hl4_1]); (try simp only [hl4_7]); (with_reducible repeat (first | apply blk_drewN | apply blk_drew | apply blk_alloc)); exact BK228.out⟩, ⟨by (try simp only [hl4_1]); (try simp only [hl4_7]); (with_reducible repeat (first | apply blk_drewN | apply blk_drew | apply blk_alloc)); exact BK244.out⟩, ⟨hbm⟩⟩
                               ·
                                rw [if_neg c71] at H
                                have c71b0 : decide (0 ≤ (rd x4_7 (rd x11_54 x98_7))) = false := decide_eq_false c71
                                clear c71
                                have H' := Aside0.mk H
                                clear H
                                have hnb74 := NB228_244.out
                                have hnc74 := NB244_228.out
                                obtain ⟨hcz75_0, hcz75_1, hcz75_2, hcz75_3, hcz75_4, hfz75_0, hfz75_1, hfz75_2, hfz75_3, hfz75_4⟩ := bc5 BK228.out
                                have p259 : 0 ≤ ((rd x11_54 x98_7) : Int) := of_decide_eq_true asm_
                                have q259 : (rd x11_54 x98_7) < (x4_7.length : Int) := of_decide_eq_true asm_
                                obtain ⟨ad259, e259, hx259_0⟩ := Kd.at_int (Kd.R_reads' HO_4.out).2.2 (rd x11_54 x98_7) p259 q259
                                obtain rfl : (⟨go4, 0, none⟩ : Addr) = ad259 := (by injection e259)
                                (first | simp only [add_plain] at hx259_0 | simp only [add_at] at hx259_0 | simp only [Addr.add, Nat.zero_add] at hx259_0 | skip)
                                replace p259 := eq_true p259
                                replace q259 := eq_true q259
                                go_wp2
                                go_meet
                                case rel => exact ⟨_, (false), (by first | rfl | (simp; done) | (simp [*]; done)), H', ⟨by have := HK1.out; have := HJ23.out; have := HJ33.out; have := HJ44.out; have := HJ48.out; have := HJ54.out; have := HK7.out; first | omega | exact Nat.le_refl _⟩, ⟨by (try simp only [hl4_1]); (try simp only [hl4_7]); (with_reducible repeat (first | apply Kd.R_alloc | apply Kd.R_drewN | apply Kd.R_drew)); exact HO_4.out⟩, ⟨by (try simp only [hl4_1]); (try simp only [hl4_7]); (with_reducible repeat (first | apply Kd.R_alloc | apply Kd.R_drewN | apply Kd.R_drew)); exact HO_5.out⟩, ⟨by (try simp only [hl4_1]); (try simp only [hl4_7]); (with_reducible repeat (first | apply Kd.R_alloc | apply Kd.R_drewN | apply Kd.R_drew)); exact HO_96.out⟩, ⟨by (try simp only [hl4_1]); (try simp only [hl4_7]); (with_reducible repeat (first | apply blk_drewN | apply blk_drew | apply blk_alloc)); exact BK228.out⟩, ⟨by (try simp only [hl4_1]); (try simp only [hl4_7]); (with_reducible repeat (first | apply blk_drewN | apply blk_drew | apply blk_alloc)); exact BK244.out⟩, ⟨hbm⟩⟩
                              ·
                               rw [if_neg c70] at H
                               exact absurd H (by simp)
                             ·
                              rw [if_neg c69] at H
                              exact absurd H (by simp)
                           case rest =>
                            clear HC65
                            try clear c1; try clear c2; try clear p2 p2; try clear q2 q2; try clear hx2; try clear c3; try clear c3b0; try clear c3b1; try clear c4; try clear p4 p4; try clear q4 q4; try clear hx4; try clear qi4; try clear hf4; try clear c5; try clear c6; try clear p6 p6; try clear c7; try clear c8; try clear c15; try clear c15b0; try clear c15b1; try clear c17; try clear c17b0; try clear c18; try clear c18b0; try clear c19; try clear c19b0; try clear c19b1; try clear c20; try clear c20b0; try clear c21; try clear c21b0; try clear c23; try clear c23b0; try clear p23 p23; try clear q23 q23; try clear hx23; try clear p24 p24; try clear q24 q24; try clear hx24; try clear p25; try clear q25; try clear hx25; try clear p26; try clear q26 q26; try clear hx26; try clear c29; try clear c32; try clear c32b0; try clear c33; try clear c37; try clear c37b0; try clear c37b1; try clear c38; try clear c40; try clear c40b0; try clear c40b1; try clear c41; try clear c43; try clear c46; try clear c47; try clear c50; try clear c50b0; try clear c50b1; try clear c51; try clear c53; try clear c56; try clear c57; try clear c58; try clear c62; try clear c62b0; try clear c63; try clear c63b0; try clear c64; try clear c64b0; try clear p64; try clear c66; try clear c66b0; try clear c66b1; try clear c67; try clear c69; try clear c69b0; try clear c70; try clear c70b0; try clear c71; try clear c71b0; try clear c72; try clear c74; try clear hcz27_0 hcz27_1 hcz27_2 hcz27_3 hcz27_4 hfz27_0 hfz27_1 hfz27_2 hfz27_3 hfz27_4; try clear hcz30_0 hcz30_1 hcz30_2 hfz30_0 hfz30_1 hfz30_2; try clear hcz39_0 hcz39_1 hcz39_2 hfz39_0 hfz39_1 hfz39_2; try clear hcz42_0 hcz42_1 hcz42_2 hfz42_0 hfz42_1 hfz42_2; try clear hcz44_0 hcz44_1 hcz44_2 hfz44_0 hfz44_1 hfz44_2; try clear hcz52_0 hcz52_1 hcz52_2 hfz52_0 hfz52_1 hfz52_2; try clear hcz54_0 hcz54_1 hcz54_2 hfz54_0 hfz54_1 hfz54_2; try clear hcz59_0 hcz59_1 hcz59_2 hfz59_0 hfz59_1 hfz59_2; try clear hcz68_0 hcz68_1 hcz68_2 hcz68_3 hcz68_4 hfz68_0 hfz68_1 hfz68_2 hfz68_3 hfz68_4; try clear hcz73_0 hcz73_1 hcz73_2 hcz73_3 hcz73_4 hfz73_0 hfz73_1 hfz73_2 hfz73_3 hfz73_4; try clear hcz75_0 hcz75_1 hcz75_2 hcz75_3 hcz75_4 hfz75_0 hfz75_1 hfz75_2 hfz75_3 hfz75_4; try clear hcz8_0 hcz8_1 hcz8_2 hcz8_3 hcz8_4 hfz8_0 hfz8_1 hfz8_2 hfz8_3 hfz8_4; try clear hx239_0; try clear hx243_0; try clear hx243_1; try clear hx243_2; try clear hx247_0; try clear hx248_0; try clear hx258_0; try clear hx259_0; try clear hx260_0; try clear hx4_0; try clear p239; try clear p243; try clear p247; try clear p248; try clear p258; try clear p259; try clear p260; try clear q239; try clear q243; try clear q247; try clear q248; try clear q258; try clear q259; try clear q260
                            obtain ⟨kq, x102_64, rfl, HA, HJ64, HO_4, HO_5, HO_96, BK228, BK244, HB⟩ := hcut
                            cases kq with
                            | zero => exact absurd HA.out (by simp [impl_Module_heights.j7])
                            | succ kj64 =>
                             have H := HA.out
                             clear HA
                             simp only [impl_Module_heights.j7] at H
                             by_cases c76 : x102_64 = true
                             ·
                              subst c76
                              have H1 : (some (([] : List Int), false)) = some (r1, r2) := by rw [if_pos rfl] at H; exact H
                              clear H
                              have H := H1
                              clear H1
                              simp only [Option.some.injEq, Prod.mk.injEq] at H
                              obtain ⟨rfl, rfl⟩ := H
                              go_wp2
                              go_ret2
                              exact ⟨_, by first | rfl | (simp [errW_none, errW_some] <;> rfl) | (simp only [← hji16]; first | rfl | (simp [errW_none, errW_some] <;> rfl)) | (simp [*, errW_none, errW_some] <;> rfl), by first | exact Kd.R_nil _ _ _ _ _ | exact Kd.N_nil _ _ _ _ _ | exact Kd.V_nil _ _ _ _ _ | exact Kd.Q_nil _ _ _ _ _ | exact Kd.S_nil _ _ _ _ _, hbm⟩
                             ·
                              replace c76 := Bool.eq_false_iff.mpr c76
                              subst c76
                              have H1 : (if 0 ≤ (rd x11_54 x98_7) then (if (rd x11_54 x98_7) < (x4_7.length : Int) then (if (rd x4_7 (rd x11_54 x98_7)) < 0 then (if x5_7.length < 17592186044416 then (impl_Module_heights.l1 kj64 (x4_7.set ((rd x11_54 x98_7) : Int).toNat (wrap64 ((wrap64 ((rd x4_1 (rd x5_1 (ji16))) - t245)) + t246))) (x5_7 ++ [(rd x11_54 x98_7)]) (wrap64 ((wrap64 ((rd x4_1 (rd x5_1 (ji16))) - t245)) + t246)) x11_54 (x11_54.length : Int) (wrap64 (x98_7 + 1)) a0_0 a0_1 a0_2 a0_3 l0_4) else (none)) else (impl_Module_heights.l1 kj64 x4_7 x5_7 (wrap64 ((wrap64 ((rd x4_1 (rd x5_1 (ji16))) - t245)) + t246)) x11_54 (x11_54.length : Int) (wrap64 (x98_7 + 1)) a0_0 a0_1 a0_2 a0_3 l0_4)) else (none)) else (none)) = some (r1, r2) := by rw [if_neg (show ¬ (false = true) by decide)] at H; exact H
                              clear H
                              have H := H1
                              clear H1
                              by_cases c77 : 0 ≤ (rd x11_54 x98_7)
                              ·
                               rw [if_pos c77] at H
                               have c77b0 := decide_eq_true c77
                               clear c77
                               by_cases c78 : (rd x11_54 x98_7) < (x4_7.length : Int)
                               ·
                                rw [if_pos c78] at H
                                have c78b0 := decide_eq_true c78
                                clear c78
                                by_cases c79 : (rd x4_7 (rd x11_54 x98_7)) < 0
                                ·
                                 rw [if_pos c79] at H
                                 have c79b0 := decide_eq_true c79
                                 clear c79
                                 by_cases c80 : x5_7.length < 17592186044416
                                 ·
                                  rw [if_pos c80] at H
                                  have LMc80 := Aside0.mk c80
                                  clear c80
                                  obtain ⟨y262, hy262⟩ : ∃ y_ : List Int, y_ = (x5_7 ++ [(rd x11_54 x98_7)]) := ⟨_, rfl⟩
                                  replace H : (impl_Module_heights.l1 kj64 (x4_7.set ((rd x11_54 x98_7) : Int).toNat (wrap64 ((wrap64 ((rd x4_1 (rd x5_1 (ji16))) - t245)) + t246))) y262 (wrap64 ((wrap64 ((rd x4_1 (rd x5_1 (ji16))) - t245)) + t246)) x11_54 (x11_54.length : Int) (wrap64 (x98_7 + 1)) a0_0 a0_1 a0_2 a0_3 l0_4) = some (r1, r2) := by first | (rw [hy262]; with_reducible exact H) | (have H2_ := (Option.bind_some _ _).symm.trans H; rw [hy262]; with_reducible exact H2_) | (have H2_ := (Option.bind_some _ _).symm.trans H; with_reducible exact H2_) | with_reducible exact H | (rw [hy262]; exact H) | exact H
                                  have Ny262 := Aside0.mk hy262
                                  clear hy262
                                  obtain ⟨y265, hy265⟩ : ∃ y_ : List Int, y_ = (x4_7.set ((rd x11_54 x98_7) : Int).toNat (wrap64 ((wrap64 ((rd x4_1 (rd x5_1 (ji16))) - t245)) + t246))) := ⟨_, rfl⟩
                                  replace H : (impl_Module_heights.l1 kj64 y265 y262 (wrap64 ((wrap64 ((rd x4_1 (rd x5_1 (ji16))) - t245)) + t246)) x11_54 (x11_54.length : Int) (wrap64 (x98_7 + 1)) a0_0 a0_1 a0_2 a0_3 l0_4) = some (r1, r2) := by first | (rw [hy265]; with_reducible exact H) | (have H2_ := (Option.bind_some _ _).symm.trans H; rw [hy265]; with_reducible exact H2_) | (have H2_ := (Option.bind_some _ _).symm.trans H; with_reducible exact H2_) | with_reducible exact H | (rw [hy265]; exact H) | exact H
                                  have Ny265 := Aside0.mk hy265
                                  clear hy265
                                  have H' := Aside0.mk H
                                  clear H
                                  have p261 : 0 ≤ ((rd x11_54 x98_7) : Int) := of_decide_eq_true asm_
                                  have q261 : (rd x11_54 x98_7) < (x4_7.length : Int) := of_decide_eq_true asm_
                                  obtain ⟨ad261, e261, hx261_0⟩ := Kd.at_int (Kd.R_reads' HO_4.out).2.2 (rd x11_54 x98_7) p261 q261
                                  obtain rfl : (⟨go4, 0, none⟩ : Addr) = ad261 := (by injection e261)
                                  (first | simp only [add_plain] at hx261_0 | simp only [add_at] at hx261_0 | simp only [Addr.add, Nat.zero_add] at hx261_0 | skip)
                                  replace p261 := eq_true p261
                                  replace q261 := eq_true q261
                                  go_wp2_with (first | ((with_reducible refine gate_builtin (b := .append) (xs := #[.tmp 132, .tmp 134]) rfl ?_); at_builtin; refine Kd.R_append (Kd.int .i64) (w0 := w) w.heap.size rfl (.tmp 132) (.tmp 134) 53 2 (.int .i64 0) 8 rfl Try.underlying53 info2 rfl (by decide) (by omega) u5 x5_7 (rd x11_54 x98_7) [.int .i64 (rd x11_54 x98_7)] (fun k_ => some k_ ≠ (.slice (some ⟨go4, 0, none⟩) x4_7.length co4 : Value).ownBlock ∧ some k_ ≠ (.slice (some ad258) x11_54.length co61 : Value).ownBlock) (fun _ => False) rfl rfl ?aP (fun _ hk => hk.elim) ?aF ?aO ?aB ?aS ?aL ?_; (case aP => exact rfl); (case aB => exact hbm); (case aF => exact (fun k_ hk => ⟨Kd.fresh' (Kd.R_lt (prR HO_4.out)) k_ hk, Kd.fresh' (Kd.R_lt (prR HO_96.out)) k_ hk⟩)); (case aO => exact (prR HO_5.out)); (case aS => exact (below_size hbm)); (case aL => have := LMc80.out; omega); intro v263 w82 ho hb hg hat; rw [← Ny262.out] at ho; have n0_ := Aside0.mk (Kd.R_after (ok := (fun k_ => some k_ ≠ (.slice (some ad258) x11_54.length co61 : Value).ownBlock)) (by (with_reducible repeat (first | apply Kd.R_alloc | apply Kd.R_drewN | apply Kd.R_drew)); exact Kd.R_mono HO_4.out (fun _ hk => ⟨hk.2, hk.1⟩)) hg hat); have n1_ := Aside0.mk (Kd.R_after (ok := (fun k_ => some k_ ≠ (.slice (some ⟨go4, 0, none⟩) x4_7.length co4 : Value).ownBlock)) (prR HO_96.out) hg hat); have n2_ := Aside0.mk (blk_grown (g := gb228) (o := .cells #[.int .i64 a0_0, .int .i64 a0_1, .int .i64 a0_2, .int .i64 a0_3, .slice (some ad243) l0_4.length c0_4] 24 (0, 0)) (by (with_reducible repeat (first | apply blk_drewN | apply blk_drew | apply blk_alloc)); exact BK228.out) hg (Kd.R_ne HO_5.out BK228.out (by decide))); have n3_ := Aside0.mk (blk_grown (g := gb244) (o := .cells #[.int .i64 ((rd_T64 l0_4 (rd x5_1 (ji16))).f0), .int .i64 ((rd_T64 l0_4 (rd x5_1 (ji16))).f1), .int .i64 ((rd_T64 l0_4 (rd x5_1 (ji16))).f2)] 64 (0, 0)) (by (with_reducible repeat (first | apply blk_drewN | apply blk_drew | apply blk_alloc)); exact BK244.out) hg (Kd.R_ne HO_5.out BK244.out (by decide))); have n4_ := Aside0.mk (hb); have n5_ := Aside0.mk (ho); clear HO_4; clear HO_96; clear BK228; clear BK244; clear HB; clear HO_5; have HO_4 := n0_; have HO_96 := n1_; have BK228 := n2_; have BK244 := n3_; have HB := n4_; have HO264 := n5_; clear n0_ n1_ n2_ n3_ n4_ n5_; clear ho hb hg hat; have p81 : 0 ≤ ((rd x11_54 x98_7) : Int) := of_decide_eq_true asm_; have q81 : ((rd x11_54 x98_7) : Int) < ((x4_7.length : Int) : Int) := of_decide_eq_true asm_; obtain ⟨hx81_0, hf81_0⟩ := Kd.R_celln 0 HO_4.out ((rd x11_54 x98_7) : Int) p81 q81; replace p81 := eq_true p81; replace q81 := eq_true q81; obtain ⟨hy83_, hz83_⟩ := Kd.R_celln 0 HO_4.out ((rd x11_54 x98_7) : Int) (of_decide_eq_true asm_) (of_decide_eq_true asm_); have HP83 := Kd.R_putg HO_4.out ((rd x11_54 x98_7) : Int) (wrap64 ((wrap64 ((rd x4_1 (rd x5_1 (ji16))) - t245)) + t246))) | ((with_reducible refine gate_store (t := 2) (p := 136) rfl ?_); refine store_event (t := 2) (p := 136) (v := ?vo_w84) (w1 := (w82.setCell ⟨go4, ((rd x11_54 x98_7) : Int).toNat, none⟩ (.int .i64 (wrap64 ((wrap64 ((rd x4_1 (rd x5_1 (ji16))) - t245)) + t246))))) ?hg ?ho ?hn ?hr ?_; (case ho => rfl); (case hg => rfl); (case hn => rfl); (case hr => first | (go_simp; done) | (go_simp; rfl)); intro w84 hw; have hg : w82.grownBy w84 (some go4) := (by rw [hw]; exact HP83.2); have hp_ : Kd.R (Kd.int .i64) 2 w84 w.heap.size (fun k_ => some k_ ≠ (.slice (some ad258) x11_54.length co61 : Value).ownBlock ∧ some k_ ≠ (v263 : Value).ownBlock) (.slice (some ⟨go4, 0, none⟩) x4_7.length co4) y265 := (by rw [hw, Ny265.out]; exact HP83.1); clear HP83; have n0_ := Aside0.mk (hp_); have n1_ := Aside0.mk (Kd.R_after (v := (.slice (some ⟨go4, 0, none⟩) x4_7.length co4)) (v1 := (.slice (some ⟨go4, 0, none⟩) x4_7.length co4)) (ok := (fun k_ => some k_ ≠ (v263 : Value).ownBlock)) (by (with_reducible repeat (first | apply Kd.R_alloc | apply Kd.R_drewN | apply Kd.R_drew)); exact Kd.R_mono HO_96.out (fun _ hk => ⟨hk.2, hk.1⟩)) hg (.inl rfl)); have n2_ := Aside0.mk (blk_grown (g := gb228) (o := .cells #[.int .i64 a0_0, .int .i64 a0_1, .int .i64 a0_2, .int .i64 a0_3, .slice (some ad243) l0_4.length c0_4] 24 (0, 0)) (by (with_reducible repeat (first | apply blk_drewN | apply blk_drew | apply blk_alloc)); exact BK228.out) hg (Kd.R_ne HO_4.out BK228.out (by decide))); have n3_ := Aside0.mk (blk_grown (g := gb244) (o := .cells #[.int .i64 ((rd_T64 l0_4 (rd x5_1 (ji16))).f0), .int .i64 ((rd_T64 l0_4 (rd x5_1 (ji16))).f1), .int .i64 ((rd_T64 l0_4 (rd x5_1 (ji16))).f2)] 64 (0, 0)) (by (with_reducible repeat (first | apply blk_drewN | apply blk_drew | apply blk_alloc)); exact BK244.out) hg (Kd.R_ne HO_4.out BK244.out (by decide))); have n4_ := Aside0.mk (Kd.R_after (v := (.slice (some ⟨go4, 0, none⟩) x4_7.length co4)) (v1 := (.slice (some ⟨go4, 0, none⟩) x4_7.length co4)) (ok := (fun k_ => some k_ ≠ (.slice (some ad258) x11_54.length co61 : Value).ownBlock)) (by (with_reducible repeat (first | apply Kd.R_alloc | apply Kd.R_drewN | apply Kd.R_drew)); exact Kd.R_mono HO264.out (fun _ hk => ⟨hk.2, hk.1⟩)) hg (.inl rfl)); have n5_ := Aside0.mk ((by rw [hw]; exact below_set (HB.out) GB4.out : Below w.heap.size w w84)); clear HO_4; clear HO_96; clear BK228; clear BK244; clear HO264; clear HB; have HO_4 := n0_; have HO_96 := n1_; have BK228 := n2_; have BK244 := n3_; have HO264 := n4_; have HB := n5_; clear n0_ n1_ n2_ n3_ n4_ n5_; clear hg hw hp_))
                                  (try simp only [← hl4_7])
                                  go_roundg kj64
                                  case measure => have := HK1.out; have := HJ23.out; have := HJ33.out; have := HJ44.out; have := HJ48.out; have := HJ54.out; have := HK7.out; have := HJ64.out; omega
                                  case rel => exact ⟨(y265), (y262), (wrap64 (x98_7 + 1)), (by first | rfl | (simp; done) | (simp [*]; done)), H', ⟨by have := HK1.out; have := HJ23.out; have := HJ33.out; have := HJ44.out; have := HJ48.out; have := HJ54.out; have := HK7.out; have := HJ64.out; omega⟩, ⟨by (try simp only [hl4_1]); (try simp only [hl4_7]); (with_reducible repeat (first | apply Kd.R_alloc | apply Kd.R_drewN | apply Kd.R_drew)); exact Kd.R_mono HO_4.out (fun _ hk => ⟨hk.2, hk.1⟩)⟩, ⟨by (try simp only [hl4_1]); (try simp only [hl4_7]); (with_reducible repeat (first | apply Kd.R_alloc | apply Kd.R_drewN | apply Kd.R_drew)); exact Kd.R_mono HO264.out (fun _ hk => ⟨hk.2, hk.1⟩)⟩, ⟨by (try simp only [hl4_1]); (try simp only [hl4_7]); (with_reducible repeat (first | apply Kd.R_alloc | apply Kd.R_drewN | apply Kd.R_drew)); exact Kd.R_mono HO_96.out (fun _ hk => ⟨hk.2, hk.1⟩)⟩, ⟨by (try simp only [hl4_1]); (try simp only [hl4_7]); (with_reducible repeat (first | apply blk_drewN | apply blk_drew | apply blk_alloc)); exact BK228.out⟩, ⟨by (try simp only [hl4_1]); (try simp only [hl4_7]); (with_reducible repeat (first | apply blk_drewN | apply blk_drew | apply blk_alloc)); exact BK244.out⟩, ⟨hbm⟩⟩
                                 ·
                                  rw [if_neg c80] at H
                                  exact absurd H (by simp)
                                ·
                                 rw [if_neg c79] at H
                                 have c79b0 := decide_eq_false c79
                                 clear c79
                                 have H' := Aside0.mk H
                                 clear H
                                 have p261 : 0 ≤ ((rd x11_54 x98_7) : Int) := of_decide_eq_true asm_
                                 have q261 : (rd x11_54 x98_7) < (x4_7.length : Int) := of_decide_eq_true asm_
                                 obtain ⟨ad261, e261, hx261_0⟩ := Kd.at_int (Kd.R_reads' HO_4.out).2.2 (rd x11_54 x98_7) p261 q261
                                 obtain rfl : (⟨go4, 0, none⟩ : Addr) = ad261 := (by injection e261)
                                 (first | simp only [add_plain] at hx261_0 | simp only [add_at] at hx261_0 | simp only [Addr.add, Nat.zero_add] at hx261_0 | skip)
                                 replace p261 := eq_true p261
                                 replace q261 := eq_true q261
                                 go_wp2
                                 (try simp only [← hl4_7])
                                 go_roundg kj64
                                 case measure => have := HK1.out; have := HJ23.out; have := HJ33.out; have := HJ44.out; have := HJ48.out; have := HJ54.out; have := HK7.out; have := HJ64.out; omega
                                 case rel => exact ⟨(x4_7), (x5_7), (wrap64 (x98_7 + 1)), (by first | rfl | (simp; done) | (simp [*]; done)), H', ⟨by have := HK1.out; have := HJ23.out; have := HJ33.out; have := HJ44.out; have := HJ48.out; have := HJ54.out; have := HK7.out; have := HJ64.out; omega⟩, ⟨by (try simp only [hl4_1]); (try simp only [hl4_7]); (with_reducible repeat (first | apply Kd.R_alloc | apply Kd.R_drewN | apply Kd.R_drew)); exact HO_4.out⟩, ⟨by (try simp only [hl4_1]); (try simp only [hl4_7]); (with_reducible repeat (first | apply Kd.R_alloc | apply Kd.R_drewN | apply Kd.R_drew)); exact HO_5.out⟩, ⟨by (try simp only [hl4_1]); (try simp only [hl4_7]); (with_reducible repeat (first | apply Kd.R_alloc | apply Kd.R_drewN | apply Kd.R_drew)); exact HO_96.out⟩, ⟨by (try simp only [hl4_1]); (try simp only [hl4_7]); (with_reducible repeat (first | apply blk_drewN | apply blk_drew | apply blk_alloc)); exact BK228.out⟩, ⟨by (try simp only [hl4_1]); (try simp only [hl4_7]); (with_reducible repeat (first | apply blk_drewN | apply blk_drew | apply blk_alloc)); exact BK244.out⟩, ⟨hbm⟩⟩
                               ·
                                rw [if_neg c78] at H
                                exact absurd H (by simp)
                              ·
                               rw [if_neg c77] at H
                               exact absurd H (by simp)
                          ·
                           rw [if_neg c64] at H
                           exact absurd H (by simp)
                         ·
                          rw [if_neg c63] at H
                          exact absurd H (by simp)
                        ·
                         rw [if_neg c62] at H
                         have c62b0 := decide_eq_false c62
                         clear c62
                         have H' := Aside0.mk H
                         clear H
                         go_wp2
                         (try simp only [← hl4_1, ← hl4_7])
                         go_roundg k7
                         case measure => have := HK1.out; have := HJ23.out; have := HJ33.out; have := HJ44.out; have := HJ48.out; have := HJ54.out; have := HK7.out; omega
                         case rel => exact ⟨(x4_7), (x5_7), H', ⟨by have := HK1.out; have := HJ23.out; have := HJ33.out; have := HJ44.out; have := HJ48.out; have := HJ54.out; have := HK7.out; omega⟩, ⟨by (try simp only [hl4_1]); (try simp only [hl4_7]); (with_reducible repeat (first | apply Kd.R_alloc | apply Kd.R_drewN | apply Kd.R_drew)); exact Kd.R_mono HO_4.out (fun _ hk => hk.1)⟩, ⟨by (try simp only [hl4_1]); (try simp only [hl4_7]); (with_reducible repeat (first | apply Kd.R_alloc | apply Kd.R_drewN | apply Kd.R_drew)); exact Kd.R_mono HO_5.out (fun _ hk => hk.1)⟩, ⟨by (try simp only [hl4_1]); (try simp only [hl4_7]); (with_reducible repeat (first | apply blk_drewN | apply blk_drew | apply blk_alloc)); exact BK228.out⟩, ⟨hbm⟩⟩
          ·
           rw [if_neg c23] at H
           exact absurd H (by simp)
         ·
          rw [if_neg c21] at H
          exact absurd H (by simp)
        ·
         rw [if_neg c20] at H
         exact absurd H (by simp)
       ·
        rw [if_neg c19] at H
        exact absurd H (by simp)
      ·
       rw [if_neg c18] at H
       exact absurd H (by simp)
     ·
      rw [if_neg c17] at H
      exact absurd H (by simp)
    ·
     rw [if_neg c15] at H
     have c15b0 : decide (0 < (x5_1.length : Int)) = false := decide_eq_false c15
     have c15b1 : decide (0 < x5_1.length) = false := decide_eq_false (by omega)
     clear c15
     simp only [Option.some.injEq, Prod.mk.injEq] at H
     obtain ⟨rfl, rfl⟩ := H
     obtain ⟨Ao85, co85, eo85⟩ := Kd.R_slice HO_5.out
     subst eo85
     go_wp2
     go_ret2
     exact ⟨_, rfm, by (with_reducible repeat (first | apply Kd.R_alloc | apply Kd.R_drewN | apply Kd.R_drew)); exact Kd.R_mono HO_4.out (fun _ hk => trivial), hbm⟩
 ·
  rw [if_neg c3] at H
  exact absurd H (by simp)

end Go.Proofs.Ytidlcolgiololaa.S
