/- Proved: each Go function named here answers as its plain Lean function says, in whatever memory; no condition. Written by a program of this session over the print of the kit. -/
import Derived.Test.YtidlcolgiololaaSq
import Derived.Test.YtidlcolgiololaaS0
import Derived.Test.YtidlcolgiololaaS5
namespace Go.Proofs.Ytidlcolgiololaa.S
open Go.RowKit Go.Proofs.YtidlcolgiololaaW.PrintWords Go.Proofs.YtidlcolgiololaaW.PrintLast Go.Proofs.YtidlcolgiololaaW.PrintMore
attribute [local go_sem] max2_int min2_int max_two min_two max_three min_three max_four min_four   -- for this text's walks alone
set_option linter.unusedVariables false
set_option linter.unusedSimpArgs false

/-! ### spec_l10Heights: function 63 -/
mutual
def spec_l10Heights.l0 : Nat → Int → List Int → Int → Int → Int → Int → Int → List (S64) → Option (List Int × Bool)
 | 0, _, _, _, _, _, _, _, _ => none
 | k + 1, x4, x5, x6, x145000, x145001, x145002, x145003, x145004 => if x6 < x4 then (if 0 ≤ x6 then (if x6 < (x5.length : Int) then (spec_l10Heights.l0 k x4 (x5.set (x6 : Int).toNat (-1)) (wrap64 (x6 + 1)) x145000 x145001 x145002 x145003 x145004) else (none)) else (none)) else (if 0 < (x5.length : Int) then (spec_l10Heights.l1 k x4 (x5.set (0 : Int).toNat 0) (([0] : List Int)) x145000 x145001 x145002 x145003 x145004) else (none))
def spec_l10Heights.l1 : Nat → Int → List Int → List Int → Int → Int → Int → Int → List (S64) → Option (List Int × Bool)
 | 0, _, _, _, _, _, _, _, _ => none
 | k + 1, x4, x5, x7, x145000, x145001, x145002, x145003, x145004 => if (x7.length : Int) > 0 then (if 0 ≤ (wrap64 ((x7.length : Int) - 1)) then (if (wrap64 ((x7.length : Int) - 1)) < (x7.length : Int) then (if (wrap64 ((x7.length : Int) - 1)) ≤ (x7.length : Int) then ((some (x7.take ((wrap64 ((x7.length : Int) - 1)) : Int).toNat : List Int)).bind fun y154 => (if 0 ≤ (rd x7 (wrap64 ((x7.length : Int) - 1))) then (if (rd x7 (wrap64 ((x7.length : Int) - 1))) < (x145004.length : Int) then ((spec_l10Takes.f k ((rd_T64 x145004 (rd x7 (wrap64 ((x7.length : Int) - 1)))).f0) ((rd_T64 x145004 (rd x7 (wrap64 ((x7.length : Int) - 1)))).f1) ((rd_T64 x145004 (rd x7 (wrap64 ((x7.length : Int) - 1)))).f2)).bind fun bt159 => (if (rd x7 (wrap64 ((x7.length : Int) - 1))) < (x5.length : Int) then (if (rd x5 (rd x7 (wrap64 ((x7.length : Int) - 1)))) < bt159.1 then (some (x5, false)) else ((some (([] : List Int) : List Int)).bind fun y163 => (if ((rd_T64 x145004 (rd x7 (wrap64 ((x7.length : Int) - 1)))).f0) = 22 then (spec_l10Heights.j2 k x4 x5 y154 (rd x7 (wrap64 ((x7.length : Int) - 1))) (wrap64 ((wrap64 ((rd x5 (rd x7 (wrap64 ((x7.length : Int) - 1)))) - bt159.1)) + bt159.2)) y163 false x145000 x145001 x145002 x145003 x145004 ((rd_T64 x145004 (rd x7 (wrap64 ((x7.length : Int) - 1)))).f0) ((rd_T64 x145004 (rd x7 (wrap64 ((x7.length : Int) - 1)))).f1) ((rd_T64 x145004 (rd x7 (wrap64 ((x7.length : Int) - 1)))).f2)) else (if ((rd_T64 x145004 (rd x7 (wrap64 ((x7.length : Int) - 1)))).f0) = 24 then (spec_l10Heights.j2 k x4 x5 y154 (rd x7 (wrap64 ((x7.length : Int) - 1))) (wrap64 ((wrap64 ((rd x5 (rd x7 (wrap64 ((x7.length : Int) - 1)))) - bt159.1)) + bt159.2)) y163 false x145000 x145001 x145002 x145003 x145004 ((rd_T64 x145004 (rd x7 (wrap64 ((x7.length : Int) - 1)))).f0) ((rd_T64 x145004 (rd x7 (wrap64 ((x7.length : Int) - 1)))).f1) ((rd_T64 x145004 (rd x7 (wrap64 ((x7.length : Int) - 1)))).f2)) else (spec_l10Heights.j2 k x4 x5 y154 (rd x7 (wrap64 ((x7.length : Int) - 1))) (wrap64 ((wrap64 ((rd x5 (rd x7 (wrap64 ((x7.length : Int) - 1)))) - bt159.1)) + bt159.2)) y163 (((rd_T64 x145004 (rd x7 (wrap64 ((x7.length : Int) - 1)))).f0) != 26) x145000 x145001 x145002 x145003 x145004 ((rd_T64 x145004 (rd x7 (wrap64 ((x7.length : Int) - 1)))).f0) ((rd_T64 x145004 (rd x7 (wrap64 ((x7.length : Int) - 1)))).f1) ((rd_T64 x145004 (rd x7 (wrap64 ((x7.length : Int) - 1)))).f2)))))) else (none))) else (none)) else (none))) else (none)) else (none)) else (none)) else (some (x5, true))
def spec_l10Heights.j2 : Nat → Int → List Int → List Int → Int → Int → List Int → Bool → Int → Int → Int → Int → List (S64) → Int → Int → Int → Option (List Int × Bool)
 | 0, _, _, _, _, _, _, _, _, _, _, _, _, _, _, _ => none
 | k + 1, x4, x5, x7, x8, x12, x13, x83, x145000, x145001, x145002, x145003, x145004, x159000, x159001, x159002 => if x83 = true then (if x13.length < 17592186044416 then (spec_l10Heights.j3 k x4 x5 x7 x12 (x13 ++ [wrap64 (x8 + 1)]) x145000 x145001 x145002 x145003 x145004 x159000 x159001 x159002) else (none)) else (spec_l10Heights.j3 k x4 x5 x7 x12 x13 x145000 x145001 x145002 x145003 x145004 x159000 x159001 x159002)
def spec_l10Heights.j3 : Nat → Int → List Int → List Int → Int → List Int → Int → Int → Int → Int → List (S64) → Int → Int → Int → Option (List Int × Bool)
 | 0, _, _, _, _, _, _, _, _, _, _, _, _, _ => none
 | k + 1, x4, x5, x7, x12, x13, x145000, x145001, x145002, x145003, x145004, x159000, x159001, x159002 => if x159000 = 21 then (spec_l10Heights.j4 k x4 x5 x7 x12 x13 true x145000 x145001 x145002 x145003 x145004 x159000 x159001 x159002) else (spec_l10Heights.j4 k x4 x5 x7 x12 x13 (x159000 == 22) x145000 x145001 x145002 x145003 x145004 x159000 x159001 x159002)
def spec_l10Heights.j4 : Nat → Int → List Int → List Int → Int → List Int → Bool → Int → Int → Int → Int → List (S64) → Int → Int → Int → Option (List Int × Bool)
 | 0, _, _, _, _, _, _, _, _, _, _, _, _, _, _ => none
 | k + 1, x4, x5, x7, x12, x13, x96, x145000, x145001, x145002, x145003, x145004, x159000, x159001, x159002 => if x96 = true then (if x13.length < 17592186044416 then (spec_l10Heights.j5 k x4 x5 x7 x12 (x13 ++ [x159001]) x145000 x145001 x145002 x145003 x145004) else (none)) else (spec_l10Heights.j5 k x4 x5 x7 x12 x13 x145000 x145001 x145002 x145003 x145004)
def spec_l10Heights.j5 : Nat → Int → List Int → List Int → Int → List Int → Int → Int → Int → Int → List (S64) → Option (List Int × Bool)
 | 0, _, _, _, _, _, _, _, _, _, _ => none
 | k + 1, x4, x5, x7, x12, x13, x145000, x145001, x145002, x145003, x145004 => spec_l10Heights.l2 k x4 x5 x7 x12 x13 0 x145000 x145001 x145002 x145003 x145004
def spec_l10Heights.l2 : Nat → Int → List Int → List Int → Int → List Int → Int → Int → Int → Int → Int → List (S64) → Option (List Int × Bool)
 | 0, _, _, _, _, _, _, _, _, _, _, _ => none
 | k + 1, x4, x5, x7, x12, x13, x14, x145000, x145001, x145002, x145003, x145004 => if x14 < (x13.length : Int) then (if 0 ≤ x14 then (if (rd x13 x14) ≥ x4 then (spec_l10Heights.j7 k x4 x5 x7 x12 x13 x14 true x145000 x145001 x145002 x145003 x145004) else (if x12 > 60 then (spec_l10Heights.j7 k x4 x5 x7 x12 x13 x14 true x145000 x145001 x145002 x145003 x145004) else (if 0 ≤ (rd x13 x14) then (if (rd x13 x14) < (x5.length : Int) then (if (rd x5 (rd x13 x14)) ≥ 0 then (spec_l10Heights.j7 k x4 x5 x7 x12 x13 x14 ((rd x5 (rd x13 x14)) != x12) x145000 x145001 x145002 x145003 x145004) else (spec_l10Heights.j7 k x4 x5 x7 x12 x13 x14 false x145000 x145001 x145002 x145003 x145004)) else (none)) else (none)))) else (none)) else (spec_l10Heights.l1 k x4 x5 x7 x145000 x145001 x145002 x145003 x145004)
def spec_l10Heights.j7 : Nat → Int → List Int → List Int → Int → List Int → Int → Bool → Int → Int → Int → Int → List (S64) → Option (List Int × Bool)
 | 0, _, _, _, _, _, _, _, _, _, _, _, _ => none
 | k + 1, x4, x5, x7, x12, x13, x14, x138, x145000, x145001, x145002, x145003, x145004 => if x138 = true then (some (x5, false)) else (if 0 ≤ x14 then (if x14 < (x13.length : Int) then (if 0 ≤ (rd x13 x14) then (if (rd x13 x14) < (x5.length : Int) then (if (rd x5 (rd x13 x14)) < 0 then (if x7.length < 17592186044416 then (spec_l10Heights.l2 k x4 (x5.set ((rd x13 x14) : Int).toNat x12) (x7 ++ [rd x13 x14]) x12 x13 (wrap64 (x14 + 1)) x145000 x145001 x145002 x145003 x145004) else (none)) else (spec_l10Heights.l2 k x4 x5 x7 x12 x13 (wrap64 (x14 + 1)) x145000 x145001 x145002 x145003 x145004)) else (none)) else (none)) else (none)) else (none))
end
def spec_l10Heights.f (k : Nat) (a0_0 : Int) (a0_1 : Int) (a0_2 : Int) (a0_3 : Int) (l0_4 : List (S64)) : Option (List Int × Bool) := if 0 ≤ (l0_4.length : Int) then (if ((l0_4.length : Int) : Int).toNat ≤ 35184372088832 then (spec_l10Heights.l0 k (l0_4.length : Int) (List.replicate ((l0_4.length : Int) : Int).toNat 0) 0 a0_0 a0_1 a0_2 a0_3 l0_4) else (none)) else (none)
theorem spec_l10Heights.mono_l : ∀ k, (∀ y0 y1 y2 y3 y4 y5 y6 y7, LeO (spec_l10Heights.l0 k y0 y1 y2 y3 y4 y5 y6 y7) (spec_l10Heights.l0 (k + 1) y0 y1 y2 y3 y4 y5 y6 y7)) ∧ (∀ y0 y1 y2 y3 y4 y5 y6 y7, LeO (spec_l10Heights.l1 k y0 y1 y2 y3 y4 y5 y6 y7) (spec_l10Heights.l1 (k + 1) y0 y1 y2 y3 y4 y5 y6 y7)) ∧ (∀ y0 y1 y2 y3 y4 y5 y6 y7 y8 y9 y10 y11 y12 y13 y14, LeO (spec_l10Heights.j2 k y0 y1 y2 y3 y4 y5 y6 y7 y8 y9 y10 y11 y12 y13 y14) (spec_l10Heights.j2 (k + 1) y0 y1 y2 y3 y4 y5 y6 y7 y8 y9 y10 y11 y12 y13 y14)) ∧ (∀ y0 y1 y2 y3 y4 y5 y6 y7 y8 y9 y10 y11 y12, LeO (spec_l10Heights.j3 k y0 y1 y2 y3 y4 y5 y6 y7 y8 y9 y10 y11 y12) (spec_l10Heights.j3 (k + 1) y0 y1 y2 y3 y4 y5 y6 y7 y8 y9 y10 y11 y12)) ∧ (∀ y0 y1 y2 y3 y4 y5 y6 y7 y8 y9 y10 y11 y12 y13, LeO (spec_l10Heights.j4 k y0 y1 y2 y3 y4 y5 y6 y7 y8 y9 y10 y11 y12 y13) (spec_l10Heights.j4 (k + 1) y0 y1 y2 y3 y4 y5 y6 y7 y8 y9 y10 y11 y12 y13)) ∧ (∀ y0 y1 y2 y3 y4 y5 y6 y7 y8 y9, LeO (spec_l10Heights.j5 k y0 y1 y2 y3 y4 y5 y6 y7 y8 y9) (spec_l10Heights.j5 (k + 1) y0 y1 y2 y3 y4 y5 y6 y7 y8 y9)) ∧ (∀ y0 y1 y2 y3 y4 y5 y6 y7 y8 y9 y10, LeO (spec_l10Heights.l2 k y0 y1 y2 y3 y4 y5 y6 y7 y8 y9 y10) (spec_l10Heights.l2 (k + 1) y0 y1 y2 y3 y4 y5 y6 y7 y8 y9 y10)) ∧ (∀ y0 y1 y2 y3 y4 y5 y6 y7 y8 y9 y10 y11, LeO (spec_l10Heights.j7 k y0 y1 y2 y3 y4 y5 y6 y7 y8 y9 y10 y11) (spec_l10Heights.j7 (k + 1) y0 y1 y2 y3 y4 y5 y6 y7 y8 y9 y10 y11))
 | 0 => ⟨fun _ _ _ _ _ _ _ _ r h => by simp [spec_l10Heights.l0] at h, fun _ _ _ _ _ _ _ _ r h => by simp [spec_l10Heights.l1] at h, fun _ _ _ _ _ _ _ _ _ _ _ _ _ _ _ r h => by simp [spec_l10Heights.j2] at h, fun _ _ _ _ _ _ _ _ _ _ _ _ _ r h => by simp [spec_l10Heights.j3] at h, fun _ _ _ _ _ _ _ _ _ _ _ _ _ _ r h => by simp [spec_l10Heights.j4] at h, fun _ _ _ _ _ _ _ _ _ _ r h => by simp [spec_l10Heights.j5] at h, fun _ _ _ _ _ _ _ _ _ _ _ r h => by simp [spec_l10Heights.l2] at h, fun _ _ _ _ _ _ _ _ _ _ _ _ r h => by simp [spec_l10Heights.j7] at h⟩
 | k + 1 => by
  obtain ⟨ih0, ih1, ih2, ih3, ih4, ih5, ih6, ih7⟩ := spec_l10Heights.mono_l k
  refine ⟨?_, ?_, ?_, ?_, ?_, ?_, ?_, ?_⟩
  ·
   intro y0 y1 y2 y3 y4 y5 y6 y7
   unfold spec_l10Heights.l0
   repeat' first
   | (with_reducible exact ih0 _ _ _ _ _ _ _ _)
   | (with_reducible exact ih1 _ _ _ _ _ _ _ _)
   | (with_reducible exact ih2 _ _ _ _ _ _ _ _ _ _ _ _ _ _ _)
   | (with_reducible exact ih3 _ _ _ _ _ _ _ _ _ _ _ _ _)
   | (with_reducible exact ih4 _ _ _ _ _ _ _ _ _ _ _ _ _ _)
   | (with_reducible exact ih5 _ _ _ _ _ _ _ _ _ _)
   | (with_reducible exact ih6 _ _ _ _ _ _ _ _ _ _ _)
   | (with_reducible exact ih7 _ _ _ _ _ _ _ _ _ _ _ _)
   | (with_reducible exact spec_l10Takes.mono _ _ _ _)
   | (with_reducible exact LeO.refl _)
   | (with_reducible exact LeO.none _)
   | (with_reducible refine LeO.ite ?_ ?_)
   | (with_reducible refine LeO.bind ?_ (fun _ => ?_))
   | exact ih0 _ _ _ _ _ _ _ _
   | exact ih1 _ _ _ _ _ _ _ _
   | exact ih2 _ _ _ _ _ _ _ _ _ _ _ _ _ _ _
   | exact ih3 _ _ _ _ _ _ _ _ _ _ _ _ _
   | exact ih4 _ _ _ _ _ _ _ _ _ _ _ _ _ _
   | exact ih5 _ _ _ _ _ _ _ _ _ _
   | exact ih6 _ _ _ _ _ _ _ _ _ _ _
   | exact ih7 _ _ _ _ _ _ _ _ _ _ _ _
   | exact spec_l10Takes.mono _ _ _ _
   | exact LeO.none _
   | refine LeO.ite ?_ ?_
   | refine LeO.bind ?_ (fun _ => ?_)
  ·
   intro y0 y1 y2 y3 y4 y5 y6 y7
   unfold spec_l10Heights.l1
   repeat' first
   | (with_reducible exact ih0 _ _ _ _ _ _ _ _)
   | (with_reducible exact ih1 _ _ _ _ _ _ _ _)
   | (with_reducible exact ih2 _ _ _ _ _ _ _ _ _ _ _ _ _ _ _)
   | (with_reducible exact ih3 _ _ _ _ _ _ _ _ _ _ _ _ _)
   | (with_reducible exact ih4 _ _ _ _ _ _ _ _ _ _ _ _ _ _)
   | (with_reducible exact ih5 _ _ _ _ _ _ _ _ _ _)
   | (with_reducible exact ih6 _ _ _ _ _ _ _ _ _ _ _)
   | (with_reducible exact ih7 _ _ _ _ _ _ _ _ _ _ _ _)
   | (with_reducible exact spec_l10Takes.mono _ _ _ _)
   | (with_reducible exact LeO.refl _)
   | (with_reducible exact LeO.none _)
   | (with_reducible refine LeO.ite ?_ ?_)
   | (with_reducible refine LeO.bind ?_ (fun _ => ?_))
   | exact ih0 _ _ _ _ _ _ _ _
   | exact ih1 _ _ _ _ _ _ _ _
   | exact ih2 _ _ _ _ _ _ _ _ _ _ _ _ _ _ _
   | exact ih3 _ _ _ _ _ _ _ _ _ _ _ _ _
   | exact ih4 _ _ _ _ _ _ _ _ _ _ _ _ _ _
   | exact ih5 _ _ _ _ _ _ _ _ _ _
   | exact ih6 _ _ _ _ _ _ _ _ _ _ _
   | exact ih7 _ _ _ _ _ _ _ _ _ _ _ _
   | exact spec_l10Takes.mono _ _ _ _
   | exact LeO.none _
   | refine LeO.ite ?_ ?_
   | refine LeO.bind ?_ (fun _ => ?_)
  ·
   intro y0 y1 y2 y3 y4 y5 y6 y7 y8 y9 y10 y11 y12 y13 y14
   unfold spec_l10Heights.j2
   repeat' first
   | (with_reducible exact ih0 _ _ _ _ _ _ _ _)
   | (with_reducible exact ih1 _ _ _ _ _ _ _ _)
   | (with_reducible exact ih2 _ _ _ _ _ _ _ _ _ _ _ _ _ _ _)
   | (with_reducible exact ih3 _ _ _ _ _ _ _ _ _ _ _ _ _)
   | (with_reducible exact ih4 _ _ _ _ _ _ _ _ _ _ _ _ _ _)
   | (with_reducible exact ih5 _ _ _ _ _ _ _ _ _ _)
   | (with_reducible exact ih6 _ _ _ _ _ _ _ _ _ _ _)
   | (with_reducible exact ih7 _ _ _ _ _ _ _ _ _ _ _ _)
   | (with_reducible exact spec_l10Takes.mono _ _ _ _)
   | (with_reducible exact LeO.refl _)
   | (with_reducible exact LeO.none _)
   | (with_reducible refine LeO.ite ?_ ?_)
   | (with_reducible refine LeO.bind ?_ (fun _ => ?_))
   | exact ih0 _ _ _ _ _ _ _ _
   | exact ih1 _ _ _ _ _ _ _ _
   | exact ih2 _ _ _ _ _ _ _ _ _ _ _ _ _ _ _
   | exact ih3 _ _ _ _ _ _ _ _ _ _ _ _ _
   | exact ih4 _ _ _ _ _ _ _ _ _ _ _ _ _ _
   | exact ih5 _ _ _ _ _ _ _ _ _ _
   | exact ih6 _ _ _ _ _ _ _ _ _ _ _
   | exact ih7 _ _ _ _ _ _ _ _ _ _ _ _
   | exact spec_l10Takes.mono _ _ _ _
   | exact LeO.none _
   | refine LeO.ite ?_ ?_
   | refine LeO.bind ?_ (fun _ => ?_)
  ·
   intro y0 y1 y2 y3 y4 y5 y6 y7 y8 y9 y10 y11 y12
   unfold spec_l10Heights.j3
   repeat' first
   | (with_reducible exact ih0 _ _ _ _ _ _ _ _)
   | (with_reducible exact ih1 _ _ _ _ _ _ _ _)
   | (with_reducible exact ih2 _ _ _ _ _ _ _ _ _ _ _ _ _ _ _)
   | (with_reducible exact ih3 _ _ _ _ _ _ _ _ _ _ _ _ _)
   | (with_reducible exact ih4 _ _ _ _ _ _ _ _ _ _ _ _ _ _)
   | (with_reducible exact ih5 _ _ _ _ _ _ _ _ _ _)
   | (with_reducible exact ih6 _ _ _ _ _ _ _ _ _ _ _)
   | (with_reducible exact ih7 _ _ _ _ _ _ _ _ _ _ _ _)
   | (with_reducible exact spec_l10Takes.mono _ _ _ _)
   | (with_reducible exact LeO.refl _)
   | (with_reducible exact LeO.none _)
   | (with_reducible refine LeO.ite ?_ ?_)
   | (with_reducible refine LeO.bind ?_ (fun _ => ?_))
   | exact ih0 _ _ _ _ _ _ _ _
   | exact ih1 _ _ _ _ _ _ _ _
   | exact ih2 _ _ _ _ _ _ _ _ _ _ _ _ _ _ _
   | exact ih3 _ _ _ _ _ _ _ _ _ _ _ _ _
   | exact ih4 _ _ _ _ _ _ _ _ _ _ _ _ _ _
   | exact ih5 _ _ _ _ _ _ _ _ _ _
   | exact ih6 _ _ _ _ _ _ _ _ _ _ _
   | exact ih7 _ _ _ _ _ _ _ _ _ _ _ _
   | exact spec_l10Takes.mono _ _ _ _
   | exact LeO.none _
   | refine LeO.ite ?_ ?_
   | refine LeO.bind ?_ (fun _ => ?_)
  ·
   intro y0 y1 y2 y3 y4 y5 y6 y7 y8 y9 y10 y11 y12 y13
   unfold spec_l10Heights.j4
   repeat' first
   | (with_reducible exact ih0 _ _ _ _ _ _ _ _)
   | (with_reducible exact ih1 _ _ _ _ _ _ _ _)
   | (with_reducible exact ih2 _ _ _ _ _ _ _ _ _ _ _ _ _ _ _)
   | (with_reducible exact ih3 _ _ _ _ _ _ _ _ _ _ _ _ _)
   | (with_reducible exact ih4 _ _ _ _ _ _ _ _ _ _ _ _ _ _)
   | (with_reducible exact ih5 _ _ _ _ _ _ _ _ _ _)
   | (with_reducible exact ih6 _ _ _ _ _ _ _ _ _ _ _)
   | (with_reducible exact ih7 _ _ _ _ _ _ _ _ _ _ _ _)
   | (with_reducible exact spec_l10Takes.mono _ _ _ _)
   | (with_reducible exact LeO.refl _)
   | (with_reducible exact LeO.none _)
   | (with_reducible refine LeO.ite ?_ ?_)
   | (with_reducible refine LeO.bind ?_ (fun _ => ?_))
   | exact ih0 _ _ _ _ _ _ _ _
   | exact ih1 _ _ _ _ _ _ _ _
   | exact ih2 _ _ _ _ _ _ _ _ _ _ _ _ _ _ _
   | exact ih3 _ _ _ _ _ _ _ _ _ _ _ _ _
   | exact ih4 _ _ _ _ _ _ _ _ _ _ _ _ _ _
   | exact ih5 _ _ _ _ _ _ _ _ _ _
   | exact ih6 _ _ _ _ _ _ _ _ _ _ _
   | exact ih7 _ _ _ _ _ _ _ _ _ _ _ _
   | exact spec_l10Takes.mono _ _ _ _
   | exact LeO.none _
   | refine LeO.ite ?_ ?_
   | refine LeO.bind ?_ (fun _ => ?_)
  ·
   intro y0 y1 y2 y3 y4 y5 y6 y7 y8 y9
   unfold spec_l10Heights.j5
   repeat' first
   | (with_reducible exact ih0 _ _ _ _ _ _ _ _)
   | (with_reducible exact ih1 _ _ _ _ _ _ _ _)
   | (with_reducible exact ih2 _ _ _ _ _ _ _ _ _ _ _ _ _ _ _)
   | (with_reducible exact ih3 _ _ _ _ _ _ _ _ _ _ _ _ _)
   | (with_reducible exact ih4 _ _ _ _ _ _ _ _ _ _ _ _ _ _)
   | (with_reducible exact ih5 _ _ _ _ _ _ _ _ _ _)
   | (with_reducible exact ih6 _ _ _ _ _ _ _ _ _ _ _)
   | (with_reducible exact ih7 _ _ _ _ _ _ _ _ _ _ _ _)
   | (with_reducible exact spec_l10Takes.mono _ _ _ _)
   | (with_reducible exact LeO.refl _)
   | (with_reducible exact LeO.none _)
   | (with_reducible refine LeO.ite ?_ ?_)
   | (with_reducible refine LeO.bind ?_ (fun _ => ?_))
   | exact ih0 _ _ _ _ _ _ _ _
   | exact ih1 _ _ _ _ _ _ _ _
   | exact ih2 _ _ _ _ _ _ _ _ _ _ _ _ _ _ _
   | exact ih3 _ _ _ _ _ _ _ _ _ _ _ _ _
   | exact ih4 _ _ _ _ _ _ _ _ _ _ _ _ _ _
   | exact ih5 _ _ _ _ _ _ _ _ _ _
   | exact ih6 _ _ _ _ _ _ _ _ _ _ _
   | exact ih7 _ _ _ _ _ _ _ _ _ _ _ _
   | exact spec_l10Takes.mono _ _ _ _
   | exact LeO.none _
   | refine LeO.ite ?_ ?_
   | refine LeO.bind ?_ (fun _ => ?_)
  ·
   intro y0 y1 y2 y3 y4 y5 y6 y7 y8 y9 y10
   unfold spec_l10Heights.l2
   repeat' first
   | (with_reducible exact ih0 _ _ _ _ _ _ _ _)
   | (with_reducible exact ih1 _ _ _ _ _ _ _ _)
   | (with_reducible exact ih2 _ _ _ _ _ _ _ _ _ _ _ _ _ _ _)
   | (with_reducible exact ih3 _ _ _ _ _ _ _ _ _ _ _ _ _)
   | (with_reducible exact ih4 _ _ _ _ _ _ _ _ _ _ _ _ _ _)
   | (with_reducible exact ih5 _ _ _ _ _ _ _ _ _ _)
   | (with_reducible exact ih6 _ _ _ _ _ _ _ _ _ _ _)
   | (with_reducible exact ih7 _ _ _ _ _ _ _ _ _ _ _ _)
   | (with_reducible exact spec_l10Takes.mono _ _ _ _)
   | (with_reducible exact LeO.refl _)
   | (with_reducible exact LeO.none _)
   | (with_reducible refine LeO.ite ?_ ?_)
   | (with_reducible refine LeO.bind ?_ (fun _ => ?_))
   | exact ih0 _ _ _ _ _ _ _ _
   | exact ih1 _ _ _ _ _ _ _ _
   | exact ih2 _ _ _ _ _ _ _ _ _ _ _ _ _ _ _
   | exact ih3 _ _ _ _ _ _ _ _ _ _ _ _ _
   | exact ih4 _ _ _ _ _ _ _ _ _ _ _ _ _ _
   | exact ih5 _ _ _ _ _ _ _ _ _ _
   | exact ih6 _ _ _ _ _ _ _ _ _ _ _
   | exact ih7 _ _ _ _ _ _ _ _ _ _ _ _
   | exact spec_l10Takes.mono _ _ _ _
   | exact LeO.none _
   | refine LeO.ite ?_ ?_
   | refine LeO.bind ?_ (fun _ => ?_)
  ·
   intro y0 y1 y2 y3 y4 y5 y6 y7 y8 y9 y10 y11
   unfold spec_l10Heights.j7
   repeat' first
   | (with_reducible exact ih0 _ _ _ _ _ _ _ _)
   | (with_reducible exact ih1 _ _ _ _ _ _ _ _)
   | (with_reducible exact ih2 _ _ _ _ _ _ _ _ _ _ _ _ _ _ _)
   | (with_reducible exact ih3 _ _ _ _ _ _ _ _ _ _ _ _ _)
   | (with_reducible exact ih4 _ _ _ _ _ _ _ _ _ _ _ _ _ _)
   | (with_reducible exact ih5 _ _ _ _ _ _ _ _ _ _)
   | (with_reducible exact ih6 _ _ _ _ _ _ _ _ _ _ _)
   | (with_reducible exact ih7 _ _ _ _ _ _ _ _ _ _ _ _)
   | (with_reducible exact spec_l10Takes.mono _ _ _ _)
   | (with_reducible exact LeO.refl _)
   | (with_reducible exact LeO.none _)
   | (with_reducible refine LeO.ite ?_ ?_)
   | (with_reducible refine LeO.bind ?_ (fun _ => ?_))
   | exact ih0 _ _ _ _ _ _ _ _
   | exact ih1 _ _ _ _ _ _ _ _
   | exact ih2 _ _ _ _ _ _ _ _ _ _ _ _ _ _ _
   | exact ih3 _ _ _ _ _ _ _ _ _ _ _ _ _
   | exact ih4 _ _ _ _ _ _ _ _ _ _ _ _ _ _
   | exact ih5 _ _ _ _ _ _ _ _ _ _
   | exact ih6 _ _ _ _ _ _ _ _ _ _ _
   | exact ih7 _ _ _ _ _ _ _ _ _ _ _ _
   | exact spec_l10Takes.mono _ _ _ _
   | exact LeO.none _
   | refine LeO.ite ?_ ?_
   | refine LeO.bind ?_ (fun _ => ?_)
theorem spec_l10Heights.mono : ∀ a0 a1 a2 a3 a4 k, LeO (spec_l10Heights.f k a0 a1 a2 a3 a4) (spec_l10Heights.f (k + 1) a0 a1 a2 a3 a4) := by
 intro a0 a1 a2 a3 a4 k
 obtain ⟨ih0, ih1, ih2, ih3, ih4, ih5, ih6, ih7⟩ := spec_l10Heights.mono_l k
 unfold spec_l10Heights.f
 repeat' first
   | (with_reducible exact ih0 _ _ _ _ _ _ _ _)
   | (with_reducible exact ih1 _ _ _ _ _ _ _ _)
   | (with_reducible exact ih2 _ _ _ _ _ _ _ _ _ _ _ _ _ _ _)
   | (with_reducible exact ih3 _ _ _ _ _ _ _ _ _ _ _ _ _)
   | (with_reducible exact ih4 _ _ _ _ _ _ _ _ _ _ _ _ _ _)
   | (with_reducible exact ih5 _ _ _ _ _ _ _ _ _ _)
   | (with_reducible exact ih6 _ _ _ _ _ _ _ _ _ _ _)
   | (with_reducible exact ih7 _ _ _ _ _ _ _ _ _ _ _ _)
   | (with_reducible exact spec_l10Takes.mono _ _ _ _)
   | (with_reducible exact LeO.refl _)
   | (with_reducible exact LeO.none _)
   | (with_reducible refine LeO.ite ?_ ?_)
   | (with_reducible refine LeO.bind ?_ (fun _ => ?_))
   | exact ih0 _ _ _ _ _ _ _ _
   | exact ih1 _ _ _ _ _ _ _ _
   | exact ih2 _ _ _ _ _ _ _ _ _ _ _ _ _ _ _
   | exact ih3 _ _ _ _ _ _ _ _ _ _ _ _ _
   | exact ih4 _ _ _ _ _ _ _ _ _ _ _ _ _ _
   | exact ih5 _ _ _ _ _ _ _ _ _ _
   | exact ih6 _ _ _ _ _ _ _ _ _ _ _
   | exact ih7 _ _ _ _ _ _ _ _ _ _ _ _
   | exact spec_l10Takes.mono _ _ _ _
   | exact LeO.none _
   | refine LeO.ite ?_ ?_
   | refine LeO.bind ?_ (fun _ => ?_)
set_option maxHeartbeats 8000000 in
set_option maxRecDepth 100000 in
theorem spec_l10Heights.calls (k : Nat) (a0_0 : Int) (a0_1 : Int) (a0_2 : Int) (a0_3 : Int) (A0_4 : Option Addr) (c0_4 : Nat) (l0_4 : List (S64)) (r1 : List Int) (r2 : Bool) (w : World) (hr0_4 : Kd.C k64 w A0_4 l0_4.length l0_4) (hc0_4 : l0_4.length ≤ c0_4) (h : spec_l10Heights.f k a0_0 a0_1 a0_2 a0_3 l0_4 = some (r1, r2)) :
  Calls Try.prog 63 #[.agg #[.int .i64 a0_0, .int .i64 a0_1, .int .i64 a0_2, .int .i64 a0_3, .slice A0_4 l0_4.length c0_4]] w fun e w' => ∃ v0_ : Value, e = .returned (.tuple #[v0_, .bool r2]) ∧ Kd.R (Kd.int .i64) 2 w' w.heap.size (fun _ => True) v0_ r1 ∧ Below w.heap.size w w' := by
 have hu24 := Try.underlying24
 have hu64 := Try.underlying64
 have HR0_4 := Aside0.mk hr0_4
 have HC0_4 := Aside0.mk hc0_4
 clear hr0_4 hc0_4
 have HB := Aside0.mk (Below.refl w.heap.size w)
 have H : (if 0 ≤ (l0_4.length : Int) then (if ((l0_4.length : Int) : Int).toNat ≤ 35184372088832 then (spec_l10Heights.l0 k (l0_4.length : Int) (List.replicate ((l0_4.length : Int) : Int).toNat 0) 0 a0_0 a0_1 a0_2 a0_3 l0_4) else (none)) else (none)) = some (r1, r2) := h
 clear h
 by_cases c2 : 0 ≤ (l0_4.length : Int)
 ·
  rw [if_pos c2] at H
  have c2b0 := eq_true c2
  have c2b1 := decide_eq_true c2
  clear c2
  by_cases c3 : ((l0_4.length : Int) : Int).toNat ≤ 35184372088832
  ·
   rw [if_pos c3] at H
   have c3b0 := eq_true c3
   have c3b1 := decide_eq_true c3
   clear c3
   obtain ⟨y145, hy145⟩ : ∃ y_ : List Int, y_ = (List.replicate ((l0_4.length : Int) : Int).toNat 0) := ⟨_, rfl⟩
   replace H : (spec_l10Heights.l0 k (l0_4.length : Int) y145 0 a0_0 a0_1 a0_2 a0_3 l0_4) = some (r1, r2) := by first | (rw [hy145]; with_reducible exact H) | (have H2_ := (Option.bind_some _ _).symm.trans H; rw [hy145]; with_reducible exact H2_) | (have H2_ := (Option.bind_some _ _).symm.trans H; with_reducible exact H2_) | with_reducible exact H | (rw [hy145]; exact H) | exact H
   have Ny145 := Aside0.mk hy145
   clear hy145
   have H' := Aside0.mk H
   clear H
   go_enter Try.func63, Try.ntmps63
   go_wp2_with (first | ((with_reducible refine gate_dst (N := 1) rfl ?_); refine bxe (N := 1) (cs := #[.int .i64 a0_0, .int .i64 a0_1, .int .i64 a0_2, .int .i64 a0_3, .slice A0_4 l0_4.length c0_4]) (t := 24) ?_; intro gb144 hg w4 hbox hb; have n0_ := bst hb; have n1_ := Aside0.mk (hbox); have n2_ := (bsz hg : Aside0 (w.heap.size ≤ gb144)); have n3_ := n2_; clear HB; have HB := n0_; have BK144 := n1_; have GW144 := n2_; have GE144 := n3_; clear n0_ n1_ n2_ n3_; clear hb hbox hg; obtain ⟨hcz5_0, hcz5_1, hcz5_2, hcz5_3, hcz5_4, hfz5_0, hfz5_1, hfz5_2, hfz5_3, hfz5_4⟩ := bc5 BK144.out) | ((with_reducible refine gate_dst (N := 19) rfl ?_); refine Kd.R_make (Kd.int .i64) _ 2 rfl (N := 19) rfl 53 _ _ rfl (l0_4.length : Int) rfl rfl Try.underlying53 (.int .i64 0) 8 info2 rfl (by decide) (by omega) 0 (ok := fun _ => True) (okp := fun _ => True) rfl (fun _ hk => hk) trivial (of_decide_eq_true asm_) (Nat.le_trans (Nat.mul_le_mul_right _ (of_decide_eq_true asm_ : (l0_4.length : Int).toNat ≤ 35184372088832)) (by omega)) (Below.refl _ _) (Nat.le_refl _) ?_; intro v146 w6 ho7 hb hg_ hnew_; clear hg_ hnew_; (first | rw [← Ny145.out] at ho7 | (simp only [Int.reduceToNat] at ho7; rw [← Ny145.out] at ho7)); have n0_ := Aside0.mk (Kd.R_lower ho7 (below_size hbm)); have n1_ := bkb BK144 hb; have n2_ := bst hb; clear BK144; clear HB; have HO147 := n0_; have BK144 := n1_; have HB := n2_; clear n0_ n1_ n2_; clear hb ho7))
   go_loopg [6] k (fun kq v6 w' => ∃ (x5_1 : List Int) (x6_1 : Int), v6 = .int .i64 x6_1 ∧ Aside0 (spec_l10Heights.l0 kq (l0_4.length : Int) x5_1 x6_1 a0_0 a0_1 a0_2 a0_3 l0_4 = some (r1, r2)) ∧ Aside0 (kq ≤ k) ∧ Aside0 (Kd.R (Kd.int .i64) 2 w' w.heap.size (fun _ => True) v146 x5_1) ∧ Aside0 (w'.heap[gb144]? = some (.cells #[.int .i64 a0_0, .int .i64 a0_1, .int .i64 a0_2, .int .i64 a0_3, (.slice A0_4 l0_4.length c0_4)] 24 (0, 0))) ∧ Aside0 (Below w.heap.size w w'))
   case atStart => exact ⟨(y145), (0), (by first | rfl | (simp; done) | (simp [*]; done)), H', ⟨Nat.le_refl _⟩, ⟨by (with_reducible repeat (first | apply Kd.R_alloc | apply Kd.R_drewN | apply Kd.R_drew)); exact HO147.out⟩, ⟨by (with_reducible repeat (first | apply blk_drewN | apply blk_drew | apply blk_alloc)); exact BK144.out⟩, ⟨hbm⟩⟩
   case round =>
    clear H'
    try clear c2; try clear c2b0; try clear c2b1; try clear p2; try clear c3; try clear c3b0; try clear c3b1; try clear c6; try clear hcz5_0 hcz5_1 hcz5_2 hcz5_3 hcz5_4 hfz5_0 hfz5_1 hfz5_2 hfz5_3 hfz5_4
    obtain ⟨x5_1, x6_1, rfl, HA, HK1, HO_5, BK144, HB⟩ := hrel
    cases gk with
    | zero => exact absurd HA.out (by simp [spec_l10Heights.l0])
    | succ k1 =>
     have H := HA.out
     clear HA
     simp only [spec_l10Heights.l0] at H
     by_cases c8 : x6_1 < (l0_4.length : Int)
     ·
      rw [if_pos c8] at H
      have c8b0 := decide_eq_true c8
      clear c8
      by_cases c9 : 0 ≤ x6_1
      ·
       rw [if_pos c9] at H
       have c9b0 := decide_eq_true c9
       clear c9
       by_cases c10 : x6_1 < (x5_1.length : Int)
       ·
        rw [if_pos c10] at H
        have c10b0 := decide_eq_true c10
        clear c10
        obtain ⟨y148, hy148⟩ : ∃ y_ : List Int, y_ = (x5_1.set (x6_1 : Int).toNat (-1)) := ⟨_, rfl⟩
        replace H : (spec_l10Heights.l0 k1 (l0_4.length : Int) y148 (wrap64 (x6_1 + 1)) a0_0 a0_1 a0_2 a0_3 l0_4) = some (r1, r2) := by first | (rw [hy148]; with_reducible exact H) | (have H2_ := (Option.bind_some _ _).symm.trans H; rw [hy148]; with_reducible exact H2_) | (have H2_ := (Option.bind_some _ _).symm.trans H; with_reducible exact H2_) | with_reducible exact H | (rw [hy148]; exact H) | exact H
        have Ny148 := Aside0.mk hy148
        clear hy148
        have H' := Aside0.mk H
        clear H
        have p11 : 0 ≤ (x6_1 : Int) := of_decide_eq_true asm_
        have q11 : (x6_1 : Int) < ((x5_1.length : Int) : Int) := of_decide_eq_true asm_
        obtain ⟨go11, co11, eo11, gb11, gl11, cl11, HG11⟩ := Kd.R_form HO_5.out (by omega)
        (first | cases eo11 | (injection eo11 with ea_ en_ ec_; (first | subst ea_ | (injection ea_ with ea_; subst ea_)); subst ec_; clear en_))
        have GB11 := Aside0.mk gb11
        have GG11 := Aside0.mk HG11
        clear gb11 gl11 HG11
        obtain ⟨hx11_0, hf11_0⟩ := Kd.R_celln 0 HO_5.out (x6_1 : Int) p11 q11
        replace p11 := eq_true p11
        replace q11 := eq_true q11
        have HP12 := Kd.R_putg HO_5.out (x6_1 : Int) (-1)
        go_wp2_with (first | ((with_reducible refine gate_store (t := 2) (p := 27) rfl ?_); refine store_event (t := 2) (p := 27) (v := ?vo_w13) (w1 := (wr.setCell ⟨go11, (x6_1 : Int).toNat, none⟩ (.int .i64 (-1)))) ?hg ?ho ?hn ?hr ?_; (case ho => rfl); (case hg => rfl); (case hn => rfl); (case hr => first | (go_simp; done) | (go_simp; rfl)); intro w13 hw; have hg : wr.grownBy w13 (some go11) := (by rw [hw]; exact HP12.2); have hp_ : Kd.R (Kd.int .i64) 2 w13 w.heap.size (fun _ => True) (.slice (some ⟨go11, 0, none⟩) x5_1.length co11) y148 := (by rw [hw, Ny148.out]; exact HP12.1); clear HP12; have n0_ := Aside0.mk (hp_); have n1_ := Aside0.mk (blk_grown (g := gb144) (o := .cells #[.int .i64 a0_0, .int .i64 a0_1, .int .i64 a0_2, .int .i64 a0_3, .slice A0_4 l0_4.length c0_4] 24 (0, 0)) (by (with_reducible repeat (first | apply blk_drewN | apply blk_drew | apply blk_alloc)); exact BK144.out) hg (Kd.R_ne HO_5.out BK144.out (by decide))); have n2_ := Aside0.mk ((by rw [hw]; exact below_set (HB.out) GB11.out : Below w.heap.size w w13)); clear HO_5; clear BK144; clear HB; have HO_5 := n0_; have BK144 := n1_; have HB := n2_; clear n0_ n1_ n2_; clear hg hw hp_))
        go_roundg k1
        case measure => have := HK1.out; omega
        case rel => exact ⟨(y148), (wrap64 (x6_1 + 1)), (by first | rfl | (simp; done) | (simp [*]; done)), H', ⟨by have := HK1.out; omega⟩, ⟨by (with_reducible repeat (first | apply Kd.R_alloc | apply Kd.R_drewN | apply Kd.R_drew)); exact HO_5.out⟩, ⟨by (with_reducible repeat (first | apply blk_drewN | apply blk_drew | apply blk_alloc)); exact BK144.out⟩, ⟨hbm⟩⟩
       ·
        rw [if_neg c10] at H
        exact absurd H (by simp)
      ·
       rw [if_neg c9] at H
       exact absurd H (by simp)
     ·
      rw [if_neg c8] at H
      have c8b0 := decide_eq_false c8
      clear c8
      by_cases c14 : 0 < (x5_1.length : Int)
      ·
       rw [if_pos c14] at H
       have c14b0 := decide_eq_true c14
       have c14b1 : decide (0 < x5_1.length) = true := decide_eq_true (by omega)
       clear c14
       obtain ⟨y149, hy149⟩ : ∃ y_ : List Int, y_ = (x5_1.set (0 : Int).toNat 0) := ⟨_, rfl⟩
       replace H : (spec_l10Heights.l1 k1 (l0_4.length : Int) y149 (([0] : List Int)) a0_0 a0_1 a0_2 a0_3 l0_4) = some (r1, r2) := by first | (rw [hy149]; with_reducible exact H) | (have H2_ := (Option.bind_some _ _).symm.trans H; rw [hy149]; with_reducible exact H2_) | (have H2_ := (Option.bind_some _ _).symm.trans H; with_reducible exact H2_) | with_reducible exact H | (rw [hy149]; exact H) | exact H
       have Ny149 := Aside0.mk hy149
       clear hy149
       obtain ⟨y150, hy150⟩ : ∃ y_ : List Int, y_ = (([0] : List Int)) := ⟨_, rfl⟩
       replace H : (spec_l10Heights.l1 k1 (l0_4.length : Int) y149 y150 a0_0 a0_1 a0_2 a0_3 l0_4) = some (r1, r2) := by first | (rw [hy150]; with_reducible exact H) | (have H2_ := (Option.bind_some _ _).symm.trans H; rw [hy150]; with_reducible exact H2_) | (have H2_ := (Option.bind_some _ _).symm.trans H; with_reducible exact H2_) | with_reducible exact H | (rw [hy150]; exact H) | exact H
       have Ny150 := Aside0.mk hy150
       clear hy150
       have H' := Aside0.mk H
       clear H
       have p15 : 0 ≤ (0 : Int) := (by omega)
       have q15 : (0 : Int) < ((x5_1.length : Int) : Int) := of_decide_eq_true asm_
       have qi15 : (0 < x5_1.length) = True := eq_true (by omega)
       obtain ⟨go15, co15, eo15, gb15, gl15, cl15, HG15⟩ := Kd.R_form HO_5.out (by omega)
       (first | cases eo15 | (injection eo15 with ea_ en_ ec_; (first | subst ea_ | (injection ea_ with ea_; subst ea_)); subst ec_; clear en_))
       have GB15 := Aside0.mk gb15
       have GG15 := Aside0.mk HG15
       clear gb15 gl15 HG15
       obtain ⟨hx15_0, hf15_0⟩ := Kd.R_celln 0 HO_5.out (0 : Int) p15 q15
       (try rw [show ((0 : Int)).toNat = 0 from rfl] at hx15_0)
       (try simp only [Nat.reduceMul, Nat.zero_mul, Nat.zero_add, Nat.reduceAdd] at hx15_0)
       (try rw [show ((0 : Int)).toNat = 0 from rfl] at hf15_0)
       (try simp only [Nat.reduceMul, Nat.zero_mul, Nat.zero_add, Nat.reduceAdd] at hf15_0)
       replace p15 := eq_true p15
       replace q15 := eq_true q15
       have HP16 := Kd.R_putg HO_5.out (0 : Int) 0
       go_wp2_with (first | ((with_reducible refine gate_store (t := 2) (p := 29) rfl ?_); refine store_event (t := 2) (p := 29) (v := ?vo_w17) (w1 := (wr.setCell ⟨go15, (0 : Int).toNat, none⟩ (.int .i64 0))) ?hg ?ho ?hn ?hr ?_; (case ho => rfl); (case hg => rfl); (case hn => rfl); (case hr => first | (go_simp; done) | (go_simp; rfl)); intro w17 hw; have hg : wr.grownBy w17 (some go15) := (by rw [hw]; exact HP16.2); have hp_ : Kd.R (Kd.int .i64) 2 w17 w.heap.size (fun _ => True) (.slice (some ⟨go15, 0, none⟩) x5_1.length co15) y149 := (by rw [hw, Ny149.out]; exact HP16.1); clear HP16; have n0_ := Aside0.mk (hp_); have n1_ := Aside0.mk (blk_grown (g := gb144) (o := .cells #[.int .i64 a0_0, .int .i64 a0_1, .int .i64 a0_2, .int .i64 a0_3, .slice A0_4 l0_4.length c0_4] 24 (0, 0)) (by (with_reducible repeat (first | apply blk_drewN | apply blk_drew | apply blk_alloc)); exact BK144.out) hg (Kd.R_ne HO_5.out BK144.out (by decide))); have n2_ := Aside0.mk ((by rw [hw]; exact below_set (HB.out) GB15.out : Below w.heap.size w w17)); clear HO_5; clear BK144; clear HB; have HO_5 := n0_; have BK144 := n1_; have HB := n2_; clear n0_ n1_ n2_; clear hg hw hp_) | ((with_reducible refine gate_dst (N := 30) rfl ?_); refine Kd.R_lit (Kd.int .i64) _ 3 ?hg (N := 30) ?hd (xs := ([0] : List Int)) (inner := [.int .i64 0]) (ok := fun _ => True) (okp := fun _ => True) ?hr ?hp (fun _ hk => hk) trivial (Below.refl _ _) (Nat.le_refl _) (by simp) ?_; (case hd => rfl); (case hg => rfl); (case hr => first | (go_simp; done) | (go_simp; rfl)); (case hp => exact (Reps.one (show Kd.M (Kd.int .i64) _ _ _ 0 [.int .i64 0] from rfl) (Reps.none _ _))); intro v151 w18 ho19 hb hg_ hnew_; clear hg_ hnew_; (first | rw [← Ny150.out] at ho19 | (simp only [Int.reduceToNat] at ho19; rw [← Ny150.out] at ho19)); have n0_ := Aside0.mk (Kd.R_below (prR HO_5.out) hb); have n1_ := Aside0.mk (Kd.R_lower ho19 (below_size hbm)); have n2_ := bkb BK144 hb; have n3_ := bst hb; clear HO_5; clear BK144; clear HB; have HO_5 := n0_; have HO152 := n1_; have BK144 := n2_; have HB := n3_; clear n0_ n1_ n2_ n3_; clear hb ho19))
       go_loopg [7] k1 (fun kq v7 w' => ∃ (x5_2 : List Int) (x7_2 : List Int), Aside0 (spec_l10Heights.l1 kq (l0_4.length : Int) x5_2 x7_2 a0_0 a0_1 a0_2 a0_3 l0_4 = some (r1, r2)) ∧ Aside0 (kq ≤ k1) ∧ Aside0 (Kd.R (Kd.int .i64) 2 w' w.heap.size (fun _ => True) (.slice (some ⟨go15, 0, none⟩) x5_1.length co15) x5_2) ∧ Aside0 (Kd.R (Kd.int .i64) 3 w' w.heap.size (fun _ => True) v7 x7_2) ∧ Aside0 (w'.heap[gb144]? = some (.cells #[.int .i64 a0_0, .int .i64 a0_1, .int .i64 a0_2, .int .i64 a0_3, (.slice A0_4 l0_4.length c0_4)] 24 (0, 0))) ∧ Aside0 (Below w.heap.size w w'))
       case atStart => exact ⟨(y149), (y150), H', ⟨Nat.le_refl _⟩, ⟨by (with_reducible repeat (first | apply Kd.R_alloc | apply Kd.R_drewN | apply Kd.R_drew)); exact HO_5.out⟩, ⟨by (with_reducible repeat (first | apply Kd.R_alloc | apply Kd.R_drewN | apply Kd.R_drew)); exact HO152.out⟩, ⟨by (with_reducible repeat (first | apply blk_drewN | apply blk_drew | apply blk_alloc)); exact BK144.out⟩, ⟨hbm⟩⟩
       case round =>
        clear H'
        try clear c1; try clear p1; try clear q1; try clear hx1; try clear qi1; try clear hf1; try clear c2; try clear c2b0; try clear c2b1; try clear p2 p2; try clear c3; try clear c3b0; try clear c3b1; try clear c6; try clear p6; try clear c8; try clear c8b0; try clear c9; try clear c9b0; try clear c10; try clear c10b0; try clear p11 p11; try clear q11 q11; try clear hx11; try clear hf11; try clear c14; try clear c14b0; try clear c14b1; try clear p15 p15; try clear q15 q15; try clear hx15; try clear qi15; try clear hf15; try clear hcz5_0 hcz5_1 hcz5_2 hcz5_3 hcz5_4 hfz5_0 hfz5_1 hfz5_2 hfz5_3 hfz5_4; try clear hx11_0; try clear hx15_0
        obtain ⟨x5_2, x7_2, HA, HK2, HO_5, HO_7, BK144, HB⟩ := hrel
        have hl5_2 := (Kd.R_reads' HO_5.out).1
        rw [hl5_2] at HO_5
        (try simp only [hl5_2])
        (try simp only [hl5_2] at BK144)
        (try simp only [hl5_2] at HO_7)
        cases gk with
        | zero => exact absurd HA.out (by simp [spec_l10Heights.l1])
        | succ k2 =>
         have H := HA.out
         clear HA
         simp only [spec_l10Heights.l1] at H
         by_cases c20 : (x7_2.length : Int) > 0
         ·
          rw [if_pos c20] at H
          have c20b0 : decide (0 < (x7_2.length : Int)) = true := decide_eq_true c20
          have c20b1 : decide (0 < x7_2.length) = true := decide_eq_true (by omega)
          clear c20
          obtain ⟨ji21, hji21⟩ : ∃ j_ : Int, (wrap64 ((x7_2.length : Int) - 1)) = j_ := ⟨_, rfl⟩
          replace H : (if 0 ≤ (ji21) then (if (ji21) < (x7_2.length : Int) then (if (ji21) ≤ (x7_2.length : Int) then ((some (x7_2.take ((ji21) : Int).toNat : List Int)).bind fun y154 => (if 0 ≤ (rd x7_2 (ji21)) then (if (rd x7_2 (ji21)) < (l0_4.length : Int) then ((spec_l10Takes.f k2 ((rd_T64 l0_4 (rd x7_2 (ji21))).f0) ((rd_T64 l0_4 (rd x7_2 (ji21))).f1) ((rd_T64 l0_4 (rd x7_2 (ji21))).f2)).bind fun bt159 => (if (rd x7_2 (ji21)) < (x5_2.length : Int) then (if (rd x5_2 (rd x7_2 (ji21))) < bt159.1 then (some (x5_2, false)) else ((some (([] : List Int) : List Int)).bind fun y163 => (if ((rd_T64 l0_4 (rd x7_2 (ji21))).f0) = 22 then (spec_l10Heights.j2 k2 (l0_4.length : Int) x5_2 y154 (rd x7_2 (ji21)) (wrap64 ((wrap64 ((rd x5_2 (rd x7_2 (ji21))) - bt159.1)) + bt159.2)) y163 false a0_0 a0_1 a0_2 a0_3 l0_4 ((rd_T64 l0_4 (rd x7_2 (ji21))).f0) ((rd_T64 l0_4 (rd x7_2 (ji21))).f1) ((rd_T64 l0_4 (rd x7_2 (ji21))).f2)) else (if ((rd_T64 l0_4 (rd x7_2 (ji21))).f0) = 24 then (spec_l10Heights.j2 k2 (l0_4.length : Int) x5_2 y154 (rd x7_2 (ji21)) (wrap64 ((wrap64 ((rd x5_2 (rd x7_2 (ji21))) - bt159.1)) + bt159.2)) y163 false a0_0 a0_1 a0_2 a0_3 l0_4 ((rd_T64 l0_4 (rd x7_2 (ji21))).f0) ((rd_T64 l0_4 (rd x7_2 (ji21))).f1) ((rd_T64 l0_4 (rd x7_2 (ji21))).f2)) else (spec_l10Heights.j2 k2 (l0_4.length : Int) x5_2 y154 (rd x7_2 (ji21)) (wrap64 ((wrap64 ((rd x5_2 (rd x7_2 (ji21))) - bt159.1)) + bt159.2)) y163 (((rd_T64 l0_4 (rd x7_2 (ji21))).f0) != 26) a0_0 a0_1 a0_2 a0_3 l0_4 ((rd_T64 l0_4 (rd x7_2 (ji21))).f0) ((rd_T64 l0_4 (rd x7_2 (ji21))).f1) ((rd_T64 l0_4 (rd x7_2 (ji21))).f2)))))) else (none))) else (none)) else (none))) else (none)) else (none)) else (none)) = some (r1, r2) := by first | (rw [hji21] at H; exact H) | (simp only [hji21] at H ⊢; exact H)
          have hji21w : (IntKind.i64.wrap ((x7_2.length : Int) - 1)) = ji21 := (i64_w _).trans hji21
          by_cases c22 : 0 ≤ (ji21)
          ·
           rw [if_pos c22] at H
           have c22b0 := decide_eq_true c22
           clear c22
           by_cases c23 : (ji21) < (x7_2.length : Int)
           ·
            rw [if_pos c23] at H
            have c23b0 := decide_eq_true c23
            clear c23
            by_cases c24 : (ji21) ≤ (x7_2.length : Int)
            ·
             rw [if_pos c24] at H
             have c24b0 := eq_true c24
             have c24b1 := decide_eq_true c24
             clear c24
             obtain ⟨y154, hy154⟩ : ∃ y_ : List Int, y_ = (x7_2.take ((ji21) : Int).toNat) := ⟨_, rfl⟩
             replace H : (if 0 ≤ (rd x7_2 (ji21)) then (if (rd x7_2 (ji21)) < (l0_4.length : Int) then ((spec_l10Takes.f k2 ((rd_T64 l0_4 (rd x7_2 (ji21))).f0) ((rd_T64 l0_4 (rd x7_2 (ji21))).f1) ((rd_T64 l0_4 (rd x7_2 (ji21))).f2)).bind fun bt159 => (if (rd x7_2 (ji21)) < (x5_2.length : Int) then (if (rd x5_2 (rd x7_2 (ji21))) < bt159.1 then (some (x5_2, false)) else ((some (([] : List Int) : List Int)).bind fun y163 => (if ((rd_T64 l0_4 (rd x7_2 (ji21))).f0) = 22 then (spec_l10Heights.j2 k2 (l0_4.length : Int) x5_2 y154 (rd x7_2 (ji21)) (wrap64 ((wrap64 ((rd x5_2 (rd x7_2 (ji21))) - bt159.1)) + bt159.2)) y163 false a0_0 a0_1 a0_2 a0_3 l0_4 ((rd_T64 l0_4 (rd x7_2 (ji21))).f0) ((rd_T64 l0_4 (rd x7_2 (ji21))).f1) ((rd_T64 l0_4 (rd x7_2 (ji21))).f2)) else (if ((rd_T64 l0_4 (rd x7_2 (ji21))).f0) = 24 then (spec_l10Heights.j2 k2 (l0_4.length : Int) x5_2 y154 (rd x7_2 (ji21)) (wrap64 ((wrap64 ((rd x5_2 (rd x7_2 (ji21))) - bt159.1)) + bt159.2)) y163 false a0_0 a0_1 a0_2 a0_3 l0_4 ((rd_T64 l0_4 (rd x7_2 (ji21))).f0) ((rd_T64 l0_4 (rd x7_2 (ji21))).f1) ((rd_T64 l0_4 (rd x7_2 (ji21))).f2)) else (spec_l10Heights.j2 k2 (l0_4.length : Int) x5_2 y154 (rd x7_2 (ji21)) (wrap64 ((wrap64 ((rd x5_2 (rd x7_2 (ji21))) - bt159.1)) + bt159.2)) y163 (((rd_T64 l0_4 (rd x7_2 (ji21))).f0) != 26) a0_0 a0_1 a0_2 a0_3 l0_4 ((rd_T64 l0_4 (rd x7_2 (ji21))).f0) ((rd_T64 l0_4 (rd x7_2 (ji21))).f1) ((rd_T64 l0_4 (rd x7_2 (ji21))).f2)))))) else (none))) else (none)) else (none)) = some (r1, r2) := by first | (rw [hy154]; with_reducible exact H) | (have H2_ := (Option.bind_some _ _).symm.trans H; rw [hy154]; with_reducible exact H2_) | (have H2_ := (Option.bind_some _ _).symm.trans H; with_reducible exact H2_) | with_reducible exact H | (rw [hy154]; exact H) | exact H
             have Ny154 := Aside0.mk hy154
             clear hy154
             by_cases c25 : 0 ≤ (rd x7_2 (ji21))
             ·
              rw [if_pos c25] at H
              have c25b0 := decide_eq_true c25
              clear c25
              by_cases c26 : (rd x7_2 (ji21)) < (l0_4.length : Int)
              ·
               rw [if_pos c26] at H
               have c26b0 := decide_eq_true c26
               clear c26
               replace H := Option.bind_eq_some_iff.mp H
               obtain ⟨⟨t159, t160⟩, A270, H⟩ := H
               (try dsimp only at H)
               have A27 := Aside0.mk A270
               clear A270
               by_cases c28 : (rd x7_2 (ji21)) < (x5_2.length : Int)
               ·
                rw [if_pos c28] at H
                have c28b0 := decide_eq_true c28
                clear c28
                by_cases c29 : (rd x5_2 (rd x7_2 (ji21))) < t159
                ·
                 rw [if_pos c29] at H
                 have c29b0 := decide_eq_true c29
                 clear c29
                 simp only [Option.some.injEq, Prod.mk.injEq] at H
                 obtain ⟨rfl, rfl⟩ := H
                 obtain ⟨Ao30, co30, eo30⟩ := Kd.R_slice HO_7.out
                 subst eo30
                 have p153 : 0 ≤ ((ji21) : Int) := of_decide_eq_true asm_
                 have q153 : (ji21) < (x7_2.length : Int) := of_decide_eq_true asm_
                 obtain ⟨ad153, e153, hx153_0⟩ := Kd.at_int (Kd.R_reads' HO_7.out).2.2 (ji21) p153 q153
                 cases e153
                 replace p153 := eq_true p153
                 replace q153 := eq_true q153
                 have q31 : ((ji21) : Int) ≤ ((x7_2.length : Int) : Int) := of_decide_eq_true asm_
                 obtain ⟨i031, hi031, _, hsz31, _⟩ := info_parts info3
                 have hcut31 := cut_to (P := Try.prog) 143 3 .i64 Try.underlying143 hi031 (some ad153) x7_2.length co30 (ji21) (of_decide_eq_true asm_) q31 (Kd.R_reads' HO_7.out).2.1
                 have hr31 := Kd.R_take (m := ((ji21) : Int).toNat) HO_7.out (by omega)
                 have hy31 : y154.length = ((ji21) : Int).toNat := (by rw [Ny154.out, List.length_take]; omega)
                 rw [← Ny154.out] at hr31
                 rw [← hy31] at hr31 hcut31
                 clear hy31 hi031 hsz31 HO_7
                 have HO156 := Aside0.mk hr31
                 clear hr31
                 replace q31 := eq_true q31
                 obtain ⟨hcz32_0, hcz32_1, hcz32_2, hcz32_3, hcz32_4, hfz32_0, hfz32_1, hfz32_2, hfz32_3, hfz32_4⟩ := bc5 BK144.out
                 have p157 : 0 ≤ ((rd x7_2 (ji21)) : Int) := of_decide_eq_true asm_
                 have q157 : (rd x7_2 (ji21)) < (l0_4.length : Int) := of_decide_eq_true asm_
                 obtain ⟨ad157, e157, hx157_0, hx157_1, hx157_2⟩ := at_T64 HR0_4.out (rd x7_2 (ji21)) p157 q157
                 cases e157
                 replace hx157_0 := hcl HB hx157_0
                 replace hx157_1 := hcl HB hx157_1
                 replace hx157_2 := hcl HB hx157_2
                 replace p157 := eq_true p157
                 replace q157 := eq_true q157
                 go_wp2_with (first | ((with_reducible refine gate_dst (N := 9) rfl ?_); refine bxe (N := 9) (cs := #[.int .i64 0, .int .i64 0, .int .i64 0]) (t := 64) ?_; intro gb158 hg w33 hbox hb; have n0_ := Aside0.mk (Kd.R_below (prR HO_5.out) hb); have n1_ := Aside0.mk (Kd.R_below (prR HO156.out) hb); have n2_ := bkb BK144 hb; have n3_ := bst hb; have n4_ := Aside0.mk (hbox); have n5_ := (bsz hg : Aside0 (w.heap.size ≤ gb158)); have n6_ := n5_; have n7_ := (bkn BK144 hg : Aside0 (gb144 ≠ gb158)); have n8_ := Aside0.mk n7_.out.symm; clear HO_5; clear HO156; clear BK144; clear HB; have HO_5 := n0_; have HO156 := n1_; have BK144 := n2_; have HB := n3_; have BK158 := n4_; have GW158 := n5_; have GE158 := n6_; have NB144_158 := n7_; have NB158_144 := n8_; clear n0_ n1_ n2_ n3_ n4_ n5_ n6_ n7_ n8_; clear hb hbox hg; have hnb34 := NB158_144.out; have hnc34 := NB144_158.out; obtain ⟨hcz35_0, hcz35_1, hcz35_2, hfz35_0, hfz35_1, hfz35_2⟩ := bc3 BK158.out) | ((with_reducible refine gate_callee (f := 92) rfl ?_); refine goesL_ (some 52) rfl rfl Try.func92 (by kernel_rfl) rfl #[.agg #[.int .i64 ((rd_T64 l0_4 (rd x7_2 (ji21))).f0), .int .i64 ((rd_T64 l0_4 (rd x7_2 (ji21))).f1), .int .i64 ((rd_T64 l0_4 (rd x7_2 (ji21))).f2)]] rfl (by (try simp only [List.map_toArray, List.map_cons, List.map_nil]); first | done | (simp only [hji21]; rfl) | rfl | (simp only [List.length_drop, List.length_take]; rfl)) ?_; (with_reducible refine (spec_l10Takes.calls k2 ((rd_T64 l0_4 (rd x7_2 (ji21))).f0) ((rd_T64 l0_4 (rd x7_2 (ji21))).f1) ((rd_T64 l0_4 (rd x7_2 (ji21))).f2) t159 t160 _ A27.out).mono ?_); rintro e w36 ⟨rfl, hb⟩; refine ⟨_, rfl, ?_⟩; have n0_ := Aside0.mk (Kd.R_below (by (with_reducible repeat (first | apply Kd.R_alloc | apply Kd.R_drewN | apply Kd.R_drew)); exact (Kd.R_mono (Kd.R_far (p := ⟨gb158, 2, none⟩) (Kd.R_far (p := ⟨gb158, 1, none⟩) (Kd.R_far (p := ⟨gb158, 0, none⟩) (Kd.R_types HO_5.out BK158.out (by decide)) (fun _ hk => hk.2) (.int .i64 ((rd_T64 l0_4 (rd x7_2 (ji21))).f0))) (fun _ hk => hk.2) (.int .i64 ((rd_T64 l0_4 (rd x7_2 (ji21))).f1))) (fun _ hk => hk.2) (.int .i64 ((rd_T64 l0_4 (rd x7_2 (ji21))).f2))) (fun _ h_ => h_.1))) hb); have n1_ := Aside0.mk (Kd.R_below (by (with_reducible repeat (first | apply Kd.R_alloc | apply Kd.R_drewN | apply Kd.R_drew)); exact (Kd.R_mono (Kd.R_far (p := ⟨gb158, 2, none⟩) (Kd.R_far (p := ⟨gb158, 1, none⟩) (Kd.R_far (p := ⟨gb158, 0, none⟩) (Kd.R_types HO156.out BK158.out (by decide)) (fun _ hk => hk.2) (.int .i64 ((rd_T64 l0_4 (rd x7_2 (ji21))).f0))) (fun _ hk => hk.2) (.int .i64 ((rd_T64 l0_4 (rd x7_2 (ji21))).f1))) (fun _ hk => hk.2) (.int .i64 ((rd_T64 l0_4 (rd x7_2 (ji21))).f2))) (fun _ h_ => h_.1))) hb); have n2_ := Aside0.mk (blk_below (g := gb144) (o := .cells #[.int .i64 a0_0, .int .i64 a0_1, .int .i64 a0_2, .int .i64 a0_3, .slice (some ad157) l0_4.length c0_4] 24 (0, 0)) (by (with_reducible repeat (first | apply blk_drewN | apply blk_drew | apply blk_alloc)); refine blk_far ?_ NB144_158.out _; (with_reducible repeat (first | apply blk_drewN | apply blk_drew | apply blk_alloc)); refine blk_far ?_ NB144_158.out _; (with_reducible repeat (first | apply blk_drewN | apply blk_drew | apply blk_alloc)); refine blk_far ?_ NB144_158.out _; (with_reducible repeat (first | apply blk_drewN | apply blk_drew | apply blk_alloc)); exact BK144.out) hb); have n3_ := Aside0.mk (blk_below (g := gb158) (o := .cells #[.int .i64 ((rd_T64 l0_4 (rd x7_2 (ji21))).f0), .int .i64 ((rd_T64 l0_4 (rd x7_2 (ji21))).f1), .int .i64 ((rd_T64 l0_4 (rd x7_2 (ji21))).f2)] 64 (0, 0)) (by (with_reducible repeat (first | apply blk_drewN | apply blk_drew | apply blk_alloc)); refine blk_put (cs := #[.int .i64 ((rd_T64 l0_4 (rd x7_2 (ji21))).f0), .int .i64 ((rd_T64 l0_4 (rd x7_2 (ji21))).f1), .int .i64 0]) ?_ 2 _ rfl; (with_reducible repeat (first | apply blk_drewN | apply blk_drew | apply blk_alloc)); refine blk_put (cs := #[.int .i64 ((rd_T64 l0_4 (rd x7_2 (ji21))).f0), .int .i64 0, .int .i64 0]) ?_ 1 _ rfl; (with_reducible repeat (first | apply blk_drewN | apply blk_drew | apply blk_alloc)); refine blk_put (cs := #[.int .i64 0, .int .i64 0, .int .i64 0]) ?_ 0 _ rfl; (with_reducible repeat (first | apply blk_drewN | apply blk_drew | apply blk_alloc)); exact BK158.out) hb); have n4_ := bst hb; clear HO_5; clear HO156; clear BK144; clear BK158; clear HB; have HO_5 := n0_; have HO156 := n1_; have BK144 := n2_; have BK158 := n3_; have HB := n4_; clear n0_ n1_ n2_ n3_ n4_; (try clear hb); (try clear hb2); (try clear hk); (try clear hi); have p161 : 0 ≤ ((rd x7_2 (ji21)) : Int) := of_decide_eq_true asm_; have q161 : (rd x7_2 (ji21)) < (x5_2.length : Int) := of_decide_eq_true asm_; obtain ⟨ad161, e161, hx161_0⟩ := Kd.at_int (Kd.R_reads' HO_5.out).2.2 (rd x7_2 (ji21)) p161 q161; obtain rfl : (⟨go15, 0, none⟩ : Addr) = ad161 := (by injection e161); (first | simp only [add_plain] at hx161_0 | simp only [add_at] at hx161_0 | simp only [Addr.add, Nat.zero_add] at hx161_0 | skip); replace p161 := eq_true p161; replace q161 := eq_true q161))
                 go_ret2
                 exact ⟨_, by first | rfl | (simp [errW_none, errW_some] <;> rfl) | (simp only [← hji21]; first | rfl | (simp [errW_none, errW_some] <;> rfl)) | (simp [*, errW_none, errW_some] <;> rfl), by (with_reducible repeat (first | apply Kd.R_alloc | apply Kd.R_drewN | apply Kd.R_drew)); exact HO_5.out, hbm⟩
                ·
                 rw [if_neg c29] at H
                 have c29b0 := decide_eq_false c29
                 clear c29
                 obtain ⟨y163, hy163⟩ : ∃ y_ : List Int, y_ = (([] : List Int)) := ⟨_, rfl⟩
                 replace H : (if ((rd_T64 l0_4 (rd x7_2 (ji21))).f0) = 22 then (spec_l10Heights.j2 k2 (l0_4.length : Int) x5_2 y154 (rd x7_2 (ji21)) (wrap64 ((wrap64 ((rd x5_2 (rd x7_2 (ji21))) - t159)) + t160)) y163 false a0_0 a0_1 a0_2 a0_3 l0_4 ((rd_T64 l0_4 (rd x7_2 (ji21))).f0) ((rd_T64 l0_4 (rd x7_2 (ji21))).f1) ((rd_T64 l0_4 (rd x7_2 (ji21))).f2)) else (if ((rd_T64 l0_4 (rd x7_2 (ji21))).f0) = 24 then (spec_l10Heights.j2 k2 (l0_4.length : Int) x5_2 y154 (rd x7_2 (ji21)) (wrap64 ((wrap64 ((rd x5_2 (rd x7_2 (ji21))) - t159)) + t160)) y163 false a0_0 a0_1 a0_2 a0_3 l0_4 ((rd_T64 l0_4 (rd x7_2 (ji21))).f0) ((rd_T64 l0_4 (rd x7_2 (ji21))).f1) ((rd_T64 l0_4 (rd x7_2 (ji21))).f2)) else (spec_l10Heights.j2 k2 (l0_4.length : Int) x5_2 y154 (rd x7_2 (ji21)) (wrap64 ((wrap64 ((rd x5_2 (rd x7_2 (ji21))) - t159)) + t160)) y163 (((rd_T64 l0_4 (rd x7_2 (ji21))).f0) != 26) a0_0 a0_1 a0_2 a0_3 l0_4 ((rd_T64 l0_4 (rd x7_2 (ji21))).f0) ((rd_T64 l0_4 (rd x7_2 (ji21))).f1) ((rd_T64 l0_4 (rd x7_2 (ji21))).f2)))) = some (r1, r2) := by first | (rw [hy163]; with_reducible exact H) | (have H2_ := (Option.bind_some _ _).symm.trans H; rw [hy163]; with_reducible exact H2_) | (have H2_ := (Option.bind_some _ _).symm.trans H; with_reducible exact H2_) | with_reducible exact H | (rw [hy163]; exact H) | exact H
                 have Ny163 := Aside0.mk hy163
                 clear hy163
                 have HC37 := Aside0.mk H
                 clear H
                 obtain ⟨Ao38, co38, eo38⟩ := Kd.R_slice HO_7.out
                 subst eo38
                 have p153 : 0 ≤ ((ji21) : Int) := of_decide_eq_true asm_
                 have q153 : (ji21) < (x7_2.length : Int) := of_decide_eq_true asm_
                 obtain ⟨ad153, e153, hx153_0⟩ := Kd.at_int (Kd.R_reads' HO_7.out).2.2 (ji21) p153 q153
                 cases e153
                 replace p153 := eq_true p153
                 replace q153 := eq_true q153
                 have q39 : ((ji21) : Int) ≤ ((x7_2.length : Int) : Int) := of_decide_eq_true asm_
                 obtain ⟨i039, hi039, _, hsz39, _⟩ := info_parts info3
                 have hcut39 := cut_to (P := Try.prog) 143 3 .i64 Try.underlying143 hi039 (some ad153) x7_2.length co38 (ji21) (of_decide_eq_true asm_) q39 (Kd.R_reads' HO_7.out).2.1
                 have hr39 := Kd.R_take (m := ((ji21) : Int).toNat) HO_7.out (by omega)
                 have hy39 : y154.length = ((ji21) : Int).toNat := (by rw [Ny154.out, List.length_take]; omega)
                 rw [← Ny154.out] at hr39
                 rw [← hy39] at hr39 hcut39
                 clear hy39 hi039 hsz39 HO_7
                 have HO156 := Aside0.mk hr39
                 clear hr39
                 replace q39 := eq_true q39
                 obtain ⟨hcz40_0, hcz40_1, hcz40_2, hcz40_3, hcz40_4, hfz40_0, hfz40_1, hfz40_2, hfz40_3, hfz40_4⟩ := bc5 BK144.out
                 have p157 : 0 ≤ ((rd x7_2 (ji21)) : Int) := of_decide_eq_true asm_
                 have q157 : (rd x7_2 (ji21)) < (l0_4.length : Int) := of_decide_eq_true asm_
                 obtain ⟨ad157, e157, hx157_0, hx157_1, hx157_2⟩ := at_T64 HR0_4.out (rd x7_2 (ji21)) p157 q157
                 cases e157
                 replace hx157_0 := hcl HB hx157_0
                 replace hx157_1 := hcl HB hx157_1
                 replace hx157_2 := hcl HB hx157_2
                 replace p157 := eq_true p157
                 replace q157 := eq_true q157
                 go_upto_region 18 with (first | ((with_reducible refine gate_dst (N := 9) rfl ?_); refine bxe (N := 9) (cs := #[.int .i64 0, .int .i64 0, .int .i64 0]) (t := 64) ?_; intro gb158 hg w41 hbox hb; have n0_ := Aside0.mk (Kd.R_below (prR HO_5.out) hb); have n1_ := Aside0.mk (Kd.R_below (prR HO156.out) hb); have n2_ := bkb BK144 hb; have n3_ := bst hb; have n4_ := Aside0.mk (hbox); have n5_ := (bsz hg : Aside0 (w.heap.size ≤ gb158)); have n6_ := n5_; have n7_ := (bkn BK144 hg : Aside0 (gb144 ≠ gb158)); have n8_ := Aside0.mk n7_.out.symm; clear HO_5; clear HO156; clear BK144; clear HB; have HO_5 := n0_; have HO156 := n1_; have BK144 := n2_; have HB := n3_; have BK158 := n4_; have GW158 := n5_; have GE158 := n6_; have NB144_158 := n7_; have NB158_144 := n8_; clear n0_ n1_ n2_ n3_ n4_ n5_ n6_ n7_ n8_; clear hb hbox hg; have hnb42 := NB158_144.out; have hnc42 := NB144_158.out; obtain ⟨hcz43_0, hcz43_1, hcz43_2, hfz43_0, hfz43_1, hfz43_2⟩ := bc3 BK158.out) | ((with_reducible refine gate_callee (f := 92) rfl ?_); refine goesL_ (some 52) rfl rfl Try.func92 (by kernel_rfl) rfl #[.agg #[.int .i64 ((rd_T64 l0_4 (rd x7_2 (ji21))).f0), .int .i64 ((rd_T64 l0_4 (rd x7_2 (ji21))).f1), .int .i64 ((rd_T64 l0_4 (rd x7_2 (ji21))).f2)]] rfl (by (try simp only [List.map_toArray, List.map_cons, List.map_nil]); first | done | (simp only [hji21]; rfl) | rfl | (simp only [List.length_drop, List.length_take]; rfl)) ?_; (with_reducible refine (spec_l10Takes.calls k2 ((rd_T64 l0_4 (rd x7_2 (ji21))).f0) ((rd_T64 l0_4 (rd x7_2 (ji21))).f1) ((rd_T64 l0_4 (rd x7_2 (ji21))).f2) t159 t160 _ A27.out).mono ?_); rintro e w44 ⟨rfl, hb⟩; refine ⟨_, rfl, ?_⟩; have n0_ := Aside0.mk (Kd.R_below (by (with_reducible repeat (first | apply Kd.R_alloc | apply Kd.R_drewN | apply Kd.R_drew)); exact (Kd.R_mono (Kd.R_far (p := ⟨gb158, 2, none⟩) (Kd.R_far (p := ⟨gb158, 1, none⟩) (Kd.R_far (p := ⟨gb158, 0, none⟩) (Kd.R_types HO_5.out BK158.out (by decide)) (fun _ hk => hk.2) (.int .i64 ((rd_T64 l0_4 (rd x7_2 (ji21))).f0))) (fun _ hk => hk.2) (.int .i64 ((rd_T64 l0_4 (rd x7_2 (ji21))).f1))) (fun _ hk => hk.2) (.int .i64 ((rd_T64 l0_4 (rd x7_2 (ji21))).f2))) (fun _ h_ => h_.1))) hb); have n1_ := Aside0.mk (Kd.R_below (by (with_reducible repeat (first | apply Kd.R_alloc | apply Kd.R_drewN | apply Kd.R_drew)); exact (Kd.R_mono (Kd.R_far (p := ⟨gb158, 2, none⟩) (Kd.R_far (p := ⟨gb158, 1, none⟩) (Kd.R_far (p := ⟨gb158, 0, none⟩) (Kd.R_types HO156.out BK158.out (by decide)) (fun _ hk => hk.2) (.int .i64 ((rd_T64 l0_4 (rd x7_2 (ji21))).f0))) (fun _ hk => hk.2) (.int .i64 ((rd_T64 l0_4 (rd x7_2 (ji21))).f1))) (fun _ hk => hk.2) (.int .i64 ((rd_T64 l0_4 (rd x7_2 (ji21))).f2))) (fun _ h_ => h_.1))) hb); have n2_ := Aside0.mk (blk_below (g := gb144) (o := .cells #[.int .i64 a0_0, .int .i64 a0_1, .int .i64 a0_2, .int .i64 a0_3, .slice (some ad157) l0_4.length c0_4] 24 (0, 0)) (by (with_reducible repeat (first | apply blk_drewN | apply blk_drew | apply blk_alloc)); refine blk_far ?_ NB144_158.out _; (with_reducible repeat (first | apply blk_drewN | apply blk_drew | apply blk_alloc)); refine blk_far ?_ NB144_158.out _; (with_reducible repeat (first | apply blk_drewN | apply blk_drew | apply blk_alloc)); refine blk_far ?_ NB144_158.out _; (with_reducible repeat (first | apply blk_drewN | apply blk_drew | apply blk_alloc)); exact BK144.out) hb); have n3_ := Aside0.mk (blk_below (g := gb158) (o := .cells #[.int .i64 ((rd_T64 l0_4 (rd x7_2 (ji21))).f0), .int .i64 ((rd_T64 l0_4 (rd x7_2 (ji21))).f1), .int .i64 ((rd_T64 l0_4 (rd x7_2 (ji21))).f2)] 64 (0, 0)) (by (with_reducible repeat (first | apply blk_drewN | apply blk_drew | apply blk_alloc)); refine blk_put (cs := #[.int .i64 ((rd_T64 l0_4 (rd x7_2 (ji21))).f0), .int .i64 ((rd_T64 l0_4 (rd x7_2 (ji21))).f1), .int .i64 0]) ?_ 2 _ rfl; (with_reducible repeat (first | apply blk_drewN | apply blk_drew | apply blk_alloc)); refine blk_put (cs := #[.int .i64 ((rd_T64 l0_4 (rd x7_2 (ji21))).f0), .int .i64 0, .int .i64 0]) ?_ 1 _ rfl; (with_reducible repeat (first | apply blk_drewN | apply blk_drew | apply blk_alloc)); refine blk_put (cs := #[.int .i64 0, .int .i64 0, .int .i64 0]) ?_ 0 _ rfl; (with_reducible repeat (first | apply blk_drewN | apply blk_drew | apply blk_alloc)); exact BK158.out) hb); have n4_ := bst hb; clear HO_5; clear HO156; clear BK144; clear BK158; clear HB; have HO_5 := n0_; have HO156 := n1_; have BK144 := n2_; have BK158 := n3_; have HB := n4_; clear n0_ n1_ n2_ n3_ n4_; (try clear hb); (try clear hb2); (try clear hk); (try clear hi); have p161 : 0 ≤ ((rd x7_2 (ji21)) : Int) := of_decide_eq_true asm_; have q161 : (rd x7_2 (ji21)) < (x5_2.length : Int) := of_decide_eq_true asm_; obtain ⟨ad161, e161, hx161_0⟩ := Kd.at_int (Kd.R_reads' HO_5.out).2.2 (rd x7_2 (ji21)) p161 q161; obtain rfl : (⟨go15, 0, none⟩ : Addr) = ad161 := (by injection e161); (first | simp only [add_plain] at hx161_0 | simp only [add_at] at hx161_0 | simp only [Addr.add, Nat.zero_add] at hx161_0 | skip); replace p161 := eq_true p161; replace q161 := eq_true q161; have p162 : 0 ≤ ((rd x7_2 (ji21)) : Int) := of_decide_eq_true asm_; have q162 : (rd x7_2 (ji21)) < (x5_2.length : Int) := of_decide_eq_true asm_; obtain ⟨ad162, e162, hx162_0⟩ := Kd.at_int (Kd.R_reads' HO_5.out).2.2 (rd x7_2 (ji21)) p162 q162; obtain rfl : (⟨go15, 0, none⟩ : Addr) = ad162 := (by injection e162); (first | simp only [add_plain] at hx162_0 | simp only [add_at] at hx162_0 | simp only [Addr.add, Nat.zero_add] at hx162_0 | skip); replace p162 := eq_true p162; replace q162 := eq_true q162) | ((with_reducible refine gate_dst (N := 70) rfl ?_); refine Kd.R_lit (Kd.int .i64) _ 3 ?hg (N := 70) ?hd (xs := ([] : List Int)) (inner := []) (ok := fun _ => True) (okp := fun _ => True) ?hr ?hp (fun _ hk => hk) trivial (Below.refl _ _) (Nat.le_refl _) (by simp) ?_; (case hd => rfl); (case hg => rfl); (case hr => first | (go_simp; done) | (go_simp; rfl)); (case hp => exact (Reps.none _ _)); intro v164 w45 ho46 hb hg_ hnew_; clear hg_ hnew_; (first | rw [← Ny163.out] at ho46 | (simp only [Int.reduceToNat] at ho46; rw [← Ny163.out] at ho46)); have n0_ := Aside0.mk (Kd.R_below (prR HO_5.out) hb); have n1_ := Aside0.mk (Kd.R_elder' (prR HO156.out) (Kd.R_base ho46) hb); have n2_ := Aside0.mk (Kd.R_lower (Kd.R_new' ho46 (Kd.R_lt (prR HO156.out))) (below_size hbm)); have n3_ := bkb BK144 hb; have n4_ := bkb BK158 hb; have n5_ := bst hb; clear HO_5; clear HO156; clear BK144; clear BK158; clear HB; have HO_5 := n0_; have HO156 := n1_; have HO165 := n2_; have BK144 := n3_; have BK158 := n4_; have HB := n5_; clear n0_ n1_ n2_ n3_ n4_ n5_; clear hb ho46))
                 (try simp only [Act.put, List.setIfInBounds_toArray, List.set_cons_zero, List.set_cons_succ])
                 go_cut [83] (fun v83 wc => ∃ (kq : Nat) (x83_36 : Bool), v83 = .bool x83_36 ∧ Aside0 (spec_l10Heights.j2 kq (l0_4.length : Int) x5_2 y154 (rd x7_2 (ji21)) (wrap64 ((wrap64 ((rd x5_2 (rd x7_2 (ji21))) - t159)) + t160)) y163 x83_36 a0_0 a0_1 a0_2 a0_3 l0_4 ((rd_T64 l0_4 (rd x7_2 (ji21))).f0) ((rd_T64 l0_4 (rd x7_2 (ji21))).f1) ((rd_T64 l0_4 (rd x7_2 (ji21))).f2) = some (r1, r2)) ∧ Aside0 (kq ≤ k2) ∧ Aside0 (Kd.R (Kd.int .i64) 2 wc w.heap.size (fun _ => True) (.slice (some ⟨go15, 0, none⟩) x5_2.length co15) x5_2) ∧ Aside0 (Kd.R (Kd.int .i64) 3 wc w.heap.size (fun k_ => some k_ ≠ (v164 : Value).ownBlock) (.slice (some ad153) y154.length co38) y154) ∧ Aside0 (Kd.R (Kd.int .i64) 3 wc w.heap.size (fun k_ => some k_ ≠ ((.slice (some ad153) y154.length co38) : Value).ownBlock) v164 y163) ∧ Aside0 (wc.heap[gb144]? = some (.cells #[.int .i64 a0_0, .int .i64 a0_1, .int .i64 a0_2, .int .i64 a0_3, (.slice (some ad157) l0_4.length c0_4)] 24 (0, 0))) ∧ Aside0 (wc.heap[gb158]? = some (.cells #[.int .i64 ((rd_T64 l0_4 (rd x7_2 (ji21))).f0), .int .i64 ((rd_T64 l0_4 (rd x7_2 (ji21))).f1), .int .i64 ((rd_T64 l0_4 (rd x7_2 (ji21))).f2)] 64 (0, 0))) ∧ Aside0 (Below w.heap.size w wc))
                 case first =>
                  have H := HC37.out
                  clear HC37
                  by_cases c47 : ((rd_T64 l0_4 (rd x7_2 (ji21))).f0) = 22
                  ·
                   rw [if_pos c47] at H
                   have c47b0 : (((rd_T64 l0_4 (rd x7_2 (ji21))).f0) == 22) = true := beq_iff_eq.mpr c47
                   have c47b1 : (((rd_T64 l0_4 (rd x7_2 (ji21))).f0) != 22) = false := bne_eq_false_iff_eq.mpr c47
                   clear c47
                   (first | rw [c47b0] | (simp only [i64_w, i32_w]; rw [c47b0]) | skip)
                   have H' := Aside0.mk H
                   clear H
                   have hnb48 := NB158_144.out
                   have hnc48 := NB144_158.out
                   obtain ⟨hcz49_0, hcz49_1, hcz49_2, hfz49_0, hfz49_1, hfz49_2⟩ := bc3 BK158.out
                   go_wp2
                   go_meet
                   case rel => exact ⟨_, (false), (by first | rfl | (simp; done) | (simp [*]; done)), H', ⟨by have := HK1.out; have := HK2.out; first | omega | exact Nat.le_refl _⟩, ⟨by (try simp only [hl5_2]); (with_reducible repeat (first | apply Kd.R_alloc | apply Kd.R_drewN | apply Kd.R_drew)); exact HO_5.out⟩, ⟨by (try simp only [hl5_2]); (with_reducible repeat (first | apply Kd.R_alloc | apply Kd.R_drewN | apply Kd.R_drew)); exact Kd.R_mono HO156.out (fun _ hk => hk.2)⟩, ⟨by (try simp only [hl5_2]); (with_reducible repeat (first | apply Kd.R_alloc | apply Kd.R_drewN | apply Kd.R_drew)); exact Kd.R_mono HO165.out (fun _ hk => hk.2)⟩, ⟨by (try simp only [hl5_2]); (with_reducible repeat (first | apply blk_drewN | apply blk_drew | apply blk_alloc)); exact BK144.out⟩, ⟨by (try simp only [hl5_2]); (with_reducible repeat (first | apply blk_drewN | apply blk_drew | apply blk_alloc)); exact BK158.out⟩, ⟨hbm⟩⟩
                  ·
                   rw [if_neg c47] at H
                   have c47b0 : (((rd_T64 l0_4 (rd x7_2 (ji21))).f0) == 22) = false := beq_eq_false_iff_ne.mpr c47
                   have c47b1 : (((rd_T64 l0_4 (rd x7_2 (ji21))).f0) != 22) = true := bne_iff_ne.mpr c47
                   (first | rw [c47b0] | (simp only [i64_w, i32_w]; rw [c47b0]) | skip)
                   by_cases c50 : ((rd_T64 l0_4 (rd x7_2 (ji21))).f0) = 24
                   ·
                    rw [if_pos c50] at H
                    have c50b0 : (((rd_T64 l0_4 (rd x7_2 (ji21))).f0) == 24) = true := beq_iff_eq.mpr c50
                    have c50b1 : (((rd_T64 l0_4 (rd x7_2 (ji21))).f0) != 24) = false := bne_eq_false_iff_eq.mpr c50
                    clear c50
                    have H' := Aside0.mk H
                    clear H
                    have hnb51 := NB158_144.out
                    have hnc51 := NB144_158.out
                    obtain ⟨hcz52_0, hcz52_1, hcz52_2, hfz52_0, hfz52_1, hfz52_2⟩ := bc3 BK158.out
                    go_wp2
                    go_meet
                    case rel => exact ⟨_, (false), (by first | rfl | (simp; done) | (simp [*]; done)), H', ⟨by have := HK1.out; have := HK2.out; first | omega | exact Nat.le_refl _⟩, ⟨by (try simp only [hl5_2]); (with_reducible repeat (first | apply Kd.R_alloc | apply Kd.R_drewN | apply Kd.R_drew)); exact HO_5.out⟩, ⟨by (try simp only [hl5_2]); (with_reducible repeat (first | apply Kd.R_alloc | apply Kd.R_drewN | apply Kd.R_drew)); exact Kd.R_mono HO156.out (fun _ hk => hk.2)⟩, ⟨by (try simp only [hl5_2]); (with_reducible repeat (first | apply Kd.R_alloc | apply Kd.R_drewN | apply Kd.R_drew)); exact Kd.R_mono HO165.out (fun _ hk => hk.2)⟩, ⟨by (try simp only [hl5_2]); (with_reducible repeat (first | apply blk_drewN | apply blk_drew | apply blk_alloc)); exact BK144.out⟩, ⟨by (try simp only [hl5_2]); (with_reducible repeat (first | apply blk_drewN | apply blk_drew | apply blk_alloc)); exact BK158.out⟩, ⟨hbm⟩⟩
                   ·
                    rw [if_neg c50] at H
                    have c50b0 : (((rd_T64 l0_4 (rd x7_2 (ji21))).f0) == 24) = false := beq_eq_false_iff_ne.mpr c50
                    have c50b1 : (((rd_T64 l0_4 (rd x7_2 (ji21))).f0) != 24) = true := bne_iff_ne.mpr c50
                    have H' := Aside0.mk H
                    clear H
                    have hnb53 := NB158_144.out
                    have hnc53 := NB144_158.out
                    obtain ⟨hcz54_0, hcz54_1, hcz54_2, hfz54_0, hfz54_1, hfz54_2⟩ := bc3 BK158.out
                    go_wp2
                    go_meet
                    case rel => exact ⟨_, ((((rd_T64 l0_4 (rd x7_2 (ji21))).f0) != 26)), (by first | rfl | (simp; done) | (simp only [← hji21] <;> (first | rfl | simp)) | (simp [*]; done)), H', ⟨by have := HK1.out; have := HK2.out; first | omega | exact Nat.le_refl _⟩, ⟨by (try simp only [hl5_2]); (with_reducible repeat (first | apply Kd.R_alloc | apply Kd.R_drewN | apply Kd.R_drew)); exact HO_5.out⟩, ⟨by (try simp only [hl5_2]); (with_reducible repeat (first | apply Kd.R_alloc | apply Kd.R_drewN | apply Kd.R_drew)); exact Kd.R_mono HO156.out (fun _ hk => hk.2)⟩, ⟨by (try simp only [hl5_2]); (with_reducible repeat (first | apply Kd.R_alloc | apply Kd.R_drewN | apply Kd.R_drew)); exact Kd.R_mono HO165.out (fun _ hk => hk.2)⟩, ⟨by (try simp only [hl5_2]); (with_reducible repeat (first | apply blk_drewN | apply blk_drew | apply blk_alloc)); exact BK144.out⟩, ⟨by (try simp only [hl5_2]); (with_reducible repeat (first | apply blk_drewN | apply blk_drew | apply blk_alloc)); exact BK158.out⟩, ⟨hbm⟩⟩
                 case rest =>
                  clear HC37
                  try clear c1; try clear p1 p1; try clear q1 q1; try clear hx1; try clear qi1; try clear hf1; try clear c2; try clear c2b0; try clear c2b1; try clear p2 p2; try clear c3; try clear c3b0; try clear c3b1; try clear q3; try clear c4; try clear c5; try clear c6; try clear p6 p6; try clear c8; try clear c8b0; try clear c9; try clear c9b0; try clear c10; try clear c10b0; try clear p11 p11; try clear q11 q11; try clear hx11; try clear hf11; try clear c14; try clear c14b0; try clear c14b1; try clear p15 p15; try clear q15 q15; try clear hx15; try clear qi15; try clear hf15; try clear p16; try clear q16; try clear hx16; try clear c20; try clear c20b0; try clear c20b1; try clear c22; try clear c22b0; try clear c23; try clear c23b0; try clear c24; try clear c24b0; try clear c24b1; try clear c25; try clear c25b0; try clear c26; try clear c26b0; try clear c28; try clear c28b0; try clear c29; try clear c29b0; try clear q31 q31; try clear c34; try clear q39 q39; try clear c42; try clear c47; try clear c47b0; try clear c47b1; try clear c48; try clear c50; try clear c50b0; try clear c50b1; try clear c51; try clear c53; try clear hcz32_0 hcz32_1 hcz32_2 hcz32_3 hcz32_4 hfz32_0 hfz32_1 hfz32_2 hfz32_3 hfz32_4; try clear hcz35_0 hcz35_1 hcz35_2 hfz35_0 hfz35_1 hfz35_2; try clear hcz40_0 hcz40_1 hcz40_2 hcz40_3 hcz40_4 hfz40_0 hfz40_1 hfz40_2 hfz40_3 hfz40_4; try clear hcz43_0 hcz43_1 hcz43_2 hfz43_0 hfz43_1 hfz43_2; try clear hcz49_0 hcz49_1 hcz49_2 hfz49_0 hfz49_1 hfz49_2; try clear hcz52_0 hcz52_1 hcz52_2 hfz52_0 hfz52_1 hfz52_2; try clear hcz54_0 hcz54_1 hcz54_2 hfz54_0 hfz54_1 hfz54_2; try clear hcz5_0 hcz5_1 hcz5_2 hcz5_3 hcz5_4 hfz5_0 hfz5_1 hfz5_2 hfz5_3 hfz5_4; try clear hx11_0; try clear hx153_0; try clear hx157_0; try clear hx157_1; try clear hx157_2; try clear hx15_0; try clear hx161_0; try clear hx162_0; try clear p153; try clear p157; try clear p161; try clear p162; try clear q153; try clear q157; try clear q161; try clear q162
                  obtain ⟨kq, x83_36, rfl, HA, HJ36, HO_5, HO_7, HO_13, BK144, BK158, HB⟩ := hcut
                  cases kq with
                  | zero => exact absurd HA.out (by simp [spec_l10Heights.j2])
                  | succ kj36 =>
                   have H := HA.out
                   clear HA
                   simp only [spec_l10Heights.j2] at H
                   have HC55 := Aside0.mk H
                   clear H
                   go_upto_if 83 with (fail)
                   go_cut [13] (fun v13 wc => ∃ (kq : Nat) (x13_54 : List Int), Aside0 (spec_l10Heights.j3 kq (l0_4.length : Int) x5_2 y154 (wrap64 ((wrap64 ((rd x5_2 (rd x7_2 (ji21))) - t159)) + t160)) x13_54 a0_0 a0_1 a0_2 a0_3 l0_4 ((rd_T64 l0_4 (rd x7_2 (ji21))).f0) ((rd_T64 l0_4 (rd x7_2 (ji21))).f1) ((rd_T64 l0_4 (rd x7_2 (ji21))).f2) = some (r1, r2)) ∧ Aside0 (kq ≤ kj36) ∧ Aside0 (Kd.R (Kd.int .i64) 2 wc w.heap.size (fun _ => True) (.slice (some ⟨go15, 0, none⟩) x5_2.length co15) x5_2) ∧ Aside0 (Kd.R (Kd.int .i64) 3 wc w.heap.size (fun k_ => some k_ ≠ (v13 : Value).ownBlock) (.slice (some ad153) y154.length co38) y154) ∧ Aside0 (Kd.R (Kd.int .i64) 3 wc w.heap.size (fun k_ => some k_ ≠ ((.slice (some ad153) y154.length co38) : Value).ownBlock) v13 x13_54) ∧ Aside0 (wc.heap[gb144]? = some (.cells #[.int .i64 a0_0, .int .i64 a0_1, .int .i64 a0_2, .int .i64 a0_3, (.slice (some ad157) l0_4.length c0_4)] 24 (0, 0))) ∧ Aside0 (wc.heap[gb158]? = some (.cells #[.int .i64 ((rd_T64 l0_4 (rd x7_2 (ji21))).f0), .int .i64 ((rd_T64 l0_4 (rd x7_2 (ji21))).f1), .int .i64 ((rd_T64 l0_4 (rd x7_2 (ji21))).f2)] 64 (0, 0))) ∧ Aside0 (Below w.heap.size w wc))
                   case first =>
                    have H := HC55.out
                    clear HC55
                    by_cases c56 : x83_36 = true
                    ·
                     subst c56
                     have H1 : (if y163.length < 17592186044416 then (spec_l10Heights.j3 kj36 (l0_4.length : Int) x5_2 y154 (wrap64 ((wrap64 ((rd x5_2 (rd x7_2 (ji21))) - t159)) + t160)) (y163 ++ [wrap64 ((rd x7_2 (ji21)) + 1)]) a0_0 a0_1 a0_2 a0_3 l0_4 ((rd_T64 l0_4 (rd x7_2 (ji21))).f0) ((rd_T64 l0_4 (rd x7_2 (ji21))).f1) ((rd_T64 l0_4 (rd x7_2 (ji21))).f2)) else (none)) = some (r1, r2) := by rw [if_pos rfl] at H; exact H
                     clear H
                     have H := H1
                     clear H1
                     by_cases c57 : y163.length < 17592186044416
                     ·
                      rw [if_pos c57] at H
                      have LMc57 := Aside0.mk c57
                      clear c57
                      obtain ⟨y166, hy166⟩ : ∃ y_ : List Int, y_ = (y163 ++ [wrap64 ((rd x7_2 (ji21)) + 1)]) := ⟨_, rfl⟩
                      replace H : (spec_l10Heights.j3 kj36 (l0_4.length : Int) x5_2 y154 (wrap64 ((wrap64 ((rd x5_2 (rd x7_2 (ji21))) - t159)) + t160)) y166 a0_0 a0_1 a0_2 a0_3 l0_4 ((rd_T64 l0_4 (rd x7_2 (ji21))).f0) ((rd_T64 l0_4 (rd x7_2 (ji21))).f1) ((rd_T64 l0_4 (rd x7_2 (ji21))).f2)) = some (r1, r2) := by first | (rw [hy166]; with_reducible exact H) | (have H2_ := (Option.bind_some _ _).symm.trans H; rw [hy166]; with_reducible exact H2_) | (have H2_ := (Option.bind_some _ _).symm.trans H; with_reducible exact H2_) | with_reducible exact H | (rw [hy166]; exact H) | exact H
                      have Ny166 := Aside0.mk hy166
                      clear hy166
                      have H' := Aside0.mk H
                      clear H
                      go_wp2_with (first | ((with_reducible refine gate_builtin (b := .append) (xs := #[.tmp 84, .tmp 87]) rfl ?_); at_builtin; refine Kd.R_append (Kd.int .i64) (w0 := w) w.heap.size rfl (.tmp 84) (.tmp 87) 143 3 (.int .i64 0) 8 rfl Try.underlying143 info3 rfl (by decide) (by omega) v164 y163 (wrap64 ((rd x7_2 (ji21)) + 1)) [.int .i64 (wrap64 ((rd x7_2 (ji21)) + 1))] (fun k_ => some k_ ≠ (.slice (some ad153) y154.length co38 : Value).ownBlock) (fun _ => False) rfl rfl ?aP (fun _ hk => hk.elim) ?aF ?aO ?aB ?aS ?aL ?_; (case aP => exact rfl); (case aB => exact hbm); (case aF => exact (fun k_ hk => Kd.fresh' (Kd.R_lt (prR HO_7.out)) k_ hk)); (case aO => exact (prR HO_13.out)); (case aS => exact (below_size hbm)); (case aL => have := LMc57.out; omega); intro v167 w58 ho hb hg hat; rw [← Ny166.out] at ho; have n0_ := Aside0.mk (Kd.R_over' (prR HO_5.out) (Kd.R_typed (prR HO_13.out)) (by decide) hg); have n1_ := Aside0.mk (Kd.R_after (ok := (fun _ => True)) (by (with_reducible repeat (first | apply Kd.R_alloc | apply Kd.R_drewN | apply Kd.R_drew)); exact Kd.R_mono HO_7.out (fun _ hk => ⟨trivial, hk⟩)) hg hat); have n2_ := Aside0.mk (blk_grown (g := gb144) (o := .cells #[.int .i64 a0_0, .int .i64 a0_1, .int .i64 a0_2, .int .i64 a0_3, .slice (some ad157) l0_4.length c0_4] 24 (0, 0)) (by (with_reducible repeat (first | apply blk_drewN | apply blk_drew | apply blk_alloc)); exact BK144.out) hg (Kd.R_ne HO_13.out BK144.out (by decide))); have n3_ := Aside0.mk (blk_grown (g := gb158) (o := .cells #[.int .i64 ((rd_T64 l0_4 (rd x7_2 (ji21))).f0), .int .i64 ((rd_T64 l0_4 (rd x7_2 (ji21))).f1), .int .i64 ((rd_T64 l0_4 (rd x7_2 (ji21))).f2)] 64 (0, 0)) (by (with_reducible repeat (first | apply blk_drewN | apply blk_drew | apply blk_alloc)); exact BK158.out) hg (Kd.R_ne HO_13.out BK158.out (by decide))); have n4_ := Aside0.mk (hb); have n5_ := Aside0.mk (ho); clear HO_5; clear HO_7; clear BK144; clear BK158; clear HB; clear HO_13; have HO_5 := n0_; have HO_7 := n1_; have BK144 := n2_; have BK158 := n3_; have HB := n4_; have HO168 := n5_; clear n0_ n1_ n2_ n3_ n4_ n5_; clear ho hb hg hat))
                      go_meet
                      case rel => exact ⟨_, (y166), H', ⟨by have := HK1.out; have := HK2.out; have := HJ36.out; first | omega | exact Nat.le_refl _⟩, ⟨by (try simp only [hl5_2]); (with_reducible repeat (first | apply Kd.R_alloc | apply Kd.R_drewN | apply Kd.R_drew)); exact HO_5.out⟩, ⟨by (try simp only [hl5_2]); (with_reducible repeat (first | apply Kd.R_alloc | apply Kd.R_drewN | apply Kd.R_drew)); exact Kd.R_mono HO_7.out (fun _ hk => hk.2)⟩, ⟨by (try simp only [hl5_2]); (with_reducible repeat (first | apply Kd.R_alloc | apply Kd.R_drewN | apply Kd.R_drew)); exact HO168.out⟩, ⟨by (try simp only [hl5_2]); (with_reducible repeat (first | apply blk_drewN | apply blk_drew | apply blk_alloc)); exact BK144.out⟩, ⟨by (try simp only [hl5_2]); (with_reducible repeat (first | apply blk_drewN | apply blk_drew | apply blk_alloc)); exact BK158.out⟩, ⟨hbm⟩⟩
                     ·
                      rw [if_neg c57] at H
                      exact absurd H (by simp)
                    ·
                     replace c56 := Bool.eq_false_iff.mpr c56
                     subst c56
                     have H1 : (spec_l10Heights.j3 kj36 (l0_4.length : Int) x5_2 y154 (wrap64 ((wrap64 ((rd x5_2 (rd x7_2 (ji21))) - t159)) + t160)) y163 a0_0 a0_1 a0_2 a0_3 l0_4 ((rd_T64 l0_4 (rd x7_2 (ji21))).f0) ((rd_T64 l0_4 (rd x7_2 (ji21))).f1) ((rd_T64 l0_4 (rd x7_2 (ji21))).f2)) = some (r1, r2) := by rw [if_neg (show ¬ (false = true) by decide)] at H; exact H
                     clear H
                     have H := H1
                     clear H1
                     have H' := Aside0.mk H
                     clear H
                     go_wp2
                     go_meet
                     case rel => exact ⟨_, (y163), H', ⟨by have := HK1.out; have := HK2.out; have := HJ36.out; first | omega | exact Nat.le_refl _⟩, ⟨by (try simp only [hl5_2]); (with_reducible repeat (first | apply Kd.R_alloc | apply Kd.R_drewN | apply Kd.R_drew)); exact HO_5.out⟩, ⟨by (try simp only [hl5_2]); (with_reducible repeat (first | apply Kd.R_alloc | apply Kd.R_drewN | apply Kd.R_drew)); exact HO_7.out⟩, ⟨by (try simp only [hl5_2]); (with_reducible repeat (first | apply Kd.R_alloc | apply Kd.R_drewN | apply Kd.R_drew)); exact HO_13.out⟩, ⟨by (try simp only [hl5_2]); (with_reducible repeat (first | apply blk_drewN | apply blk_drew | apply blk_alloc)); exact BK144.out⟩, ⟨by (try simp only [hl5_2]); (with_reducible repeat (first | apply blk_drewN | apply blk_drew | apply blk_alloc)); exact BK158.out⟩, ⟨hbm⟩⟩
                   case rest =>
                    clear HC55
                    try clear c1; try clear p1 p1; try clear q1 q1; try clear hx1; try clear qi1; try clear hf1; try clear c2; try clear c2b0; try clear c2b1; try clear p2 p2; try clear c3; try clear c3b0; try clear c3b1; try clear q3 q3; try clear c4; try clear c5; try clear c6; try clear p6 p6; try clear c8; try clear c8b0; try clear c9; try clear c9b0; try clear c10; try clear c10b0; try clear p11 p11; try clear q11 q11; try clear hx11; try clear hf11; try clear c14; try clear c14b0; try clear c14b1; try clear p15 p15; try clear q15 q15; try clear hx15; try clear qi15; try clear hf15; try clear p16 p16; try clear q16 q16; try clear hx16; try clear c20; try clear c20b0; try clear c20b1; try clear c22; try clear c22b0; try clear c23; try clear c23b0; try clear c24; try clear c24b0; try clear c24b1; try clear c25; try clear c25b0; try clear c26; try clear c26b0; try clear c28; try clear c28b0; try clear c29; try clear c29b0; try clear q31 q31; try clear c34; try clear q39 q39; try clear c42; try clear c47; try clear c47b0; try clear c47b1; try clear c48; try clear c50; try clear c50b0; try clear c50b1; try clear c51; try clear c53; try clear c56; try clear c57; try clear hcz32_0 hcz32_1 hcz32_2 hcz32_3 hcz32_4 hfz32_0 hfz32_1 hfz32_2 hfz32_3 hfz32_4; try clear hcz35_0 hcz35_1 hcz35_2 hfz35_0 hfz35_1 hfz35_2; try clear hcz40_0 hcz40_1 hcz40_2 hcz40_3 hcz40_4 hfz40_0 hfz40_1 hfz40_2 hfz40_3 hfz40_4; try clear hcz43_0 hcz43_1 hcz43_2 hfz43_0 hfz43_1 hfz43_2; try clear hcz49_0 hcz49_1 hcz49_2 hfz49_0 hfz49_1 hfz49_2; try clear hcz52_0 hcz52_1 hcz52_2 hfz52_0 hfz52_1 hfz52_2; try clear hcz54_0 hcz54_1 hcz54_2 hfz54_0 hfz54_1 hfz54_2; try clear hcz5_0 hcz5_1 hcz5_2 hcz5_3 hcz5_4 hfz5_0 hfz5_1 hfz5_2 hfz5_3 hfz5_4; try clear hx11_0; try clear hx153_0; try clear hx157_0; try clear hx157_1; try clear hx157_2; try clear hx15_0; try clear hx161_0; try clear hx162_0; try clear p153; try clear p157; try clear p161; try clear p162; try clear q153; try clear q157; try clear q161; try clear q162
                    obtain ⟨kq, x13_54, HA, HJ54, HO_5, HO_7, HO_13, BK144, BK158, HB⟩ := hcut
                    cases kq with
                    | zero => exact absurd HA.out (by simp [spec_l10Heights.j3])
                    | succ kj54 =>
                     have H := HA.out
                     clear HA
                     simp only [spec_l10Heights.j3] at H
                     have HC59 := Aside0.mk H
                     clear H
                     go_upto_region 20 with (fail)
                     go_cut [96] (fun v96 wc => ∃ (kq : Nat) (x96_58 : Bool), v96 = .bool x96_58 ∧ Aside0 (spec_l10Heights.j4 kq (l0_4.length : Int) x5_2 y154 (wrap64 ((wrap64 ((rd x5_2 (rd x7_2 (ji21))) - t159)) + t160)) x13_54 x96_58 a0_0 a0_1 a0_2 a0_3 l0_4 ((rd_T64 l0_4 (rd x7_2 (ji21))).f0) ((rd_T64 l0_4 (rd x7_2 (ji21))).f1) ((rd_T64 l0_4 (rd x7_2 (ji21))).f2) = some (r1, r2)) ∧ Aside0 (kq ≤ kj54) ∧ Aside0 (Kd.R (Kd.int .i64) 2 wc w.heap.size (fun _ => True) (.slice (some ⟨go15, 0, none⟩) x5_2.length co15) x5_2) ∧ Aside0 (Kd.R (Kd.int .i64) 3 wc w.heap.size (fun k_ => some k_ ≠ (u13 : Value).ownBlock) (.slice (some ad153) y154.length co38) y154) ∧ Aside0 (Kd.R (Kd.int .i64) 3 wc w.heap.size (fun k_ => some k_ ≠ ((.slice (some ad153) y154.length co38) : Value).ownBlock) u13 x13_54) ∧ Aside0 (wc.heap[gb144]? = some (.cells #[.int .i64 a0_0, .int .i64 a0_1, .int .i64 a0_2, .int .i64 a0_3, (.slice (some ad157) l0_4.length c0_4)] 24 (0, 0))) ∧ Aside0 (wc.heap[gb158]? = some (.cells #[.int .i64 ((rd_T64 l0_4 (rd x7_2 (ji21))).f0), .int .i64 ((rd_T64 l0_4 (rd x7_2 (ji21))).f1), .int .i64 ((rd_T64 l0_4 (rd x7_2 (ji21))).f2)] 64 (0, 0))) ∧ Aside0 (Below w.heap.size w wc))
                     case first =>
                      have H := HC59.out
                      clear HC59
                      by_cases c60 : ((rd_T64 l0_4 (rd x7_2 (ji21))).f0) = 21
                      ·
                       rw [if_pos c60] at H
                       have c60b0 : (((rd_T64 l0_4 (rd x7_2 (ji21))).f0) == 21) = true := beq_iff_eq.mpr c60
                       have c60b1 : (((rd_T64 l0_4 (rd x7_2 (ji21))).f0) != 21) = false := bne_eq_false_iff_eq.mpr c60
                       clear c60
                       (first | rw [c60b0] | (simp only [i64_w, i32_w]; rw [c60b0]) | skip)
                       have H' := Aside0.mk H
                       clear H
                       have hnb61 := NB158_144.out
                       have hnc61 := NB144_158.out
                       obtain ⟨hcz62_0, hcz62_1, hcz62_2, hfz62_0, hfz62_1, hfz62_2⟩ := bc3 BK158.out
                       go_wp2
                       go_meet
                       case rel => exact ⟨_, (true), (by first | rfl | (simp; done) | (simp [*]; done)), H', ⟨by have := HK1.out; have := HK2.out; have := HJ36.out; have := HJ54.out; first | omega | exact Nat.le_refl _⟩, ⟨by (try simp only [hl5_2]); (with_reducible repeat (first | apply Kd.R_alloc | apply Kd.R_drewN | apply Kd.R_drew)); exact HO_5.out⟩, ⟨by (try simp only [hl5_2]); (with_reducible repeat (first | apply Kd.R_alloc | apply Kd.R_drewN | apply Kd.R_drew)); exact HO_7.out⟩, ⟨by (try simp only [hl5_2]); (with_reducible repeat (first | apply Kd.R_alloc | apply Kd.R_drewN | apply Kd.R_drew)); exact HO_13.out⟩, ⟨by (try simp only [hl5_2]); (with_reducible repeat (first | apply blk_drewN | apply blk_drew | apply blk_alloc)); exact BK144.out⟩, ⟨by (try simp only [hl5_2]); (with_reducible repeat (first | apply blk_drewN | apply blk_drew | apply blk_alloc)); exact BK158.out⟩, ⟨hbm⟩⟩
                      ·
                       rw [if_neg c60] at H
                       have c60b0 : (((rd_T64 l0_4 (rd x7_2 (ji21))).f0) == 21) = false := beq_eq_false_iff_ne.mpr c60
                       have c60b1 : (((rd_T64 l0_4 (rd x7_2 (ji21))).f0) != 21) = true := bne_iff_ne.mpr c60
                       (first | rw [c60b0] | (simp only [i64_w, i32_w]; rw [c60b0]) | skip)
                       have H' := Aside0.mk H
                       clear H
                       have hnb63 := NB158_144.out
                       have hnc63 := NB144_158.out
                       obtain ⟨hcz64_0, hcz64_1, hcz64_2, hfz64_0, hfz64_1, hfz64_2⟩ := bc3 BK158.out
                       go_wp2
                       go_meet
                       case rel => exact ⟨_, ((((rd_T64 l0_4 (rd x7_2 (ji21))).f0) == 22)), (by first | rfl | (simp; done) | (simp only [← hji21] <;> (first | rfl | simp)) | (simp [*]; done)), H', ⟨by have := HK1.out; have := HK2.out; have := HJ36.out; have := HJ54.out; first | omega | exact Nat.le_refl _⟩, ⟨by (try simp only [hl5_2]); (with_reducible repeat (first | apply Kd.R_alloc | apply Kd.R_drewN | apply Kd.R_drew)); exact HO_5.out⟩, ⟨by (try simp only [hl5_2]); (with_reducible repeat (first | apply Kd.R_alloc | apply Kd.R_drewN | apply Kd.R_drew)); exact HO_7.out⟩, ⟨by (try simp only [hl5_2]); (with_reducible repeat (first | apply Kd.R_alloc | apply Kd.R_drewN | apply Kd.R_drew)); exact HO_13.out⟩, ⟨by (try simp only [hl5_2]); (with_reducible repeat (first | apply blk_drewN | apply blk_drew | apply blk_alloc)); exact BK144.out⟩, ⟨by (try simp only [hl5_2]); (with_reducible repeat (first | apply blk_drewN | apply blk_drew | apply blk_alloc)); exact BK158.out⟩, ⟨hbm⟩⟩
                     case rest =>
                      clear HC59
                      try clear c1; try clear p1 p1; try clear q1 q1; try clear hx1; try clear qi1; try clear hf1; try clear c2; try clear c2b0; try clear c2b1; try clear p2 p2; try clear c3; try clear c3b0; try clear c3b1; try clear q3 q3; try clear c4; try clear c5; try clear c6; try clear p6 p6; try clear c8; try clear c8b0; try clear c9; try clear c9b0; try clear c10; try clear c10b0; try clear p11 p11; try clear q11 q11; try clear hx11; try clear hf11; try clear c14; try clear c14b0; try clear c14b1; try clear p15 p15; try clear q15 q15; try clear hx15; try clear qi15; try clear hf15; try clear p16 p16; try clear q16 q16; try clear hx16; try clear c20; try clear c20b0; try clear c20b1; try clear c22; try clear c22b0; try clear c23; try clear c23b0; try clear c24; try clear c24b0; try clear c24b1; try clear c25; try clear c25b0; try clear c26; try clear c26b0; try clear c28; try clear c28b0; try clear c29; try clear c29b0; try clear q31 q31; try clear c34; try clear q39 q39; try clear c42; try clear c47; try clear c47b0; try clear c47b1; try clear c48; try clear c50; try clear c50b0; try clear c50b1; try clear c51; try clear c53; try clear c56; try clear c57; try clear c60; try clear c60b0; try clear c60b1; try clear c61; try clear c63; try clear p64; try clear hcz32_0 hcz32_1 hcz32_2 hcz32_3 hcz32_4 hfz32_0 hfz32_1 hfz32_2 hfz32_3 hfz32_4; try clear hcz35_0 hcz35_1 hcz35_2 hfz35_0 hfz35_1 hfz35_2; try clear hcz40_0 hcz40_1 hcz40_2 hcz40_3 hcz40_4 hfz40_0 hfz40_1 hfz40_2 hfz40_3 hfz40_4; try clear hcz43_0 hcz43_1 hcz43_2 hfz43_0 hfz43_1 hfz43_2; try clear hcz49_0 hcz49_1 hcz49_2 hfz49_0 hfz49_1 hfz49_2; try clear hcz52_0 hcz52_1 hcz52_2 hfz52_0 hfz52_1 hfz52_2; try clear hcz54_0 hcz54_1 hcz54_2 hfz54_0 hfz54_1 hfz54_2; try clear hcz5_0 hcz5_1 hcz5_2 hcz5_3 hcz5_4 hfz5_0 hfz5_1 hfz5_2 hfz5_3 hfz5_4; try clear hcz62_0 hcz62_1 hcz62_2 hfz62_0 hfz62_1 hfz62_2; try clear hcz64_0 hcz64_1 hcz64_2 hfz64_0 hfz64_1 hfz64_2; try clear hx11_0; try clear hx153_0; try clear hx157_0; try clear hx157_1; try clear hx157_2; try clear hx15_0; try clear hx161_0; try clear hx162_0; try clear p153; try clear p157; try clear p161; try clear p162; try clear q153; try clear q157; try clear q161; try clear q162
                      obtain ⟨kq, x96_58, rfl, HA, HJ58, HO_5, HO_7, HO_13, BK144, BK158, HB⟩ := hcut
                      cases kq with
                      | zero => exact absurd HA.out (by simp [spec_l10Heights.j4])
                      | succ kj58 =>
                       have H := HA.out
                       clear HA
                       simp only [spec_l10Heights.j4] at H
                       have HC65 := Aside0.mk H
                       clear H
                       go_upto_if 96 with (fail)
                       go_cut [13] (fun v13 wc => ∃ (kq : Nat) (x13_64 : List Int), Aside0 (spec_l10Heights.j5 kq (l0_4.length : Int) x5_2 y154 (wrap64 ((wrap64 ((rd x5_2 (rd x7_2 (ji21))) - t159)) + t160)) x13_64 a0_0 a0_1 a0_2 a0_3 l0_4 = some (r1, r2)) ∧ Aside0 (kq ≤ kj58) ∧ Aside0 (Kd.R (Kd.int .i64) 2 wc w.heap.size (fun _ => True) (.slice (some ⟨go15, 0, none⟩) x5_2.length co15) x5_2) ∧ Aside0 (Kd.R (Kd.int .i64) 3 wc w.heap.size (fun k_ => some k_ ≠ (v13 : Value).ownBlock) (.slice (some ad153) y154.length co38) y154) ∧ Aside0 (Kd.R (Kd.int .i64) 3 wc w.heap.size (fun k_ => some k_ ≠ ((.slice (some ad153) y154.length co38) : Value).ownBlock) v13 x13_64) ∧ Aside0 (wc.heap[gb144]? = some (.cells #[.int .i64 a0_0, .int .i64 a0_1, .int .i64 a0_2, .int .i64 a0_3, (.slice (some ad157) l0_4.length c0_4)] 24 (0, 0))) ∧ Aside0 (wc.heap[gb158]? = some (.cells #[.int .i64 ((rd_T64 l0_4 (rd x7_2 (ji21))).f0), .int .i64 ((rd_T64 l0_4 (rd x7_2 (ji21))).f1), .int .i64 ((rd_T64 l0_4 (rd x7_2 (ji21))).f2)] 64 (0, 0))) ∧ Aside0 (Below w.heap.size w wc))
                       case first =>
                        have H := HC65.out
                        clear HC65
                        by_cases c66 : x96_58 = true
                        ·
                         subst c66
                         have H1 : (if x13_54.length < 17592186044416 then (spec_l10Heights.j5 kj58 (l0_4.length : Int) x5_2 y154 (wrap64 ((wrap64 ((rd x5_2 (rd x7_2 (ji21))) - t159)) + t160)) (x13_54 ++ [((rd_T64 l0_4 (rd x7_2 (ji21))).f1)]) a0_0 a0_1 a0_2 a0_3 l0_4) else (none)) = some (r1, r2) := by rw [if_pos rfl] at H; exact H
                         clear H
                         have H := H1
                         clear H1
                         by_cases c67 : x13_54.length < 17592186044416
                         ·
                          rw [if_pos c67] at H
                          have LMc67 := Aside0.mk c67
                          clear c67
                          obtain ⟨y169, hy169⟩ : ∃ y_ : List Int, y_ = (x13_54 ++ [((rd_T64 l0_4 (rd x7_2 (ji21))).f1)]) := ⟨_, rfl⟩
                          replace H : (spec_l10Heights.j5 kj58 (l0_4.length : Int) x5_2 y154 (wrap64 ((wrap64 ((rd x5_2 (rd x7_2 (ji21))) - t159)) + t160)) y169 a0_0 a0_1 a0_2 a0_3 l0_4) = some (r1, r2) := by first | (rw [hy169]; with_reducible exact H) | (have H2_ := (Option.bind_some _ _).symm.trans H; rw [hy169]; with_reducible exact H2_) | (have H2_ := (Option.bind_some _ _).symm.trans H; with_reducible exact H2_) | with_reducible exact H | (rw [hy169]; exact H) | exact H
                          have Ny169 := Aside0.mk hy169
                          clear hy169
                          have H' := Aside0.mk H
                          clear H
                          have hnb68 := NB158_144.out
                          have hnc68 := NB144_158.out
                          obtain ⟨hcz69_0, hcz69_1, hcz69_2, hfz69_0, hfz69_1, hfz69_2⟩ := bc3 BK158.out
                          go_wp2_with (first | ((with_reducible refine gate_builtin (b := .append) (xs := #[.tmp 97, .tmp 100]) rfl ?_); at_builtin; refine Kd.R_append (Kd.int .i64) (w0 := w) w.heap.size rfl (.tmp 97) (.tmp 100) 143 3 (.int .i64 0) 8 rfl Try.underlying143 info3 rfl (by decide) (by omega) u13 x13_54 ((rd_T64 l0_4 (rd x7_2 (ji21))).f1) [.int .i64 ((rd_T64 l0_4 (rd x7_2 (ji21))).f1)] (fun k_ => some k_ ≠ (.slice (some ad153) y154.length co38 : Value).ownBlock) (fun _ => False) rfl rfl ?aP (fun _ hk => hk.elim) ?aF ?aO ?aB ?aS ?aL ?_; (case aP => exact rfl); (case aB => exact hbm); (case aF => exact (fun k_ hk => Kd.fresh' (Kd.R_lt (prR HO_7.out)) k_ hk)); (case aO => exact (prR HO_13.out)); (case aS => exact (below_size hbm)); (case aL => have := LMc67.out; omega); intro v170 w70 ho hb hg hat; rw [← Ny169.out] at ho; have n0_ := Aside0.mk (Kd.R_over' (prR HO_5.out) (Kd.R_typed (prR HO_13.out)) (by decide) hg); have n1_ := Aside0.mk (Kd.R_after (ok := (fun _ => True)) (by (with_reducible repeat (first | apply Kd.R_alloc | apply Kd.R_drewN | apply Kd.R_drew)); exact Kd.R_mono HO_7.out (fun _ hk => ⟨trivial, hk⟩)) hg hat); have n2_ := Aside0.mk (blk_grown (g := gb144) (o := .cells #[.int .i64 a0_0, .int .i64 a0_1, .int .i64 a0_2, .int .i64 a0_3, .slice (some ad157) l0_4.length c0_4] 24 (0, 0)) (by (with_reducible repeat (first | apply blk_drewN | apply blk_drew | apply blk_alloc)); exact BK144.out) hg (Kd.R_ne HO_13.out BK144.out (by decide))); have n3_ := Aside0.mk (blk_grown (g := gb158) (o := .cells #[.int .i64 ((rd_T64 l0_4 (rd x7_2 (ji21))).f0), .int .i64 ((rd_T64 l0_4 (rd x7_2 (ji21))).f1), .int .i64 ((rd_T64 l0_4 (rd x7_2 (ji21))).f2)] 64 (0, 0)) (by (with_reducible repeat (first | apply blk_drewN | apply blk_drew | apply blk_alloc)); exact BK158.out) hg (Kd.R_ne HO_13.out BK158.out (by decide))); have n4_ := Aside0.mk (hb); have n5_ := Aside0.mk (ho); clear HO_5; clear HO_7; clear BK144; clear BK158; clear HB; clear HO_13; have HO_5 := n0_; have HO_7 := n1_; have BK144 := n2_; have BK158 := n3_; have HB := n4_; have HO171 := n5_; clear n0_ n1_ n2_ n3_ n4_ n5_; clear ho hb hg hat))
                          go_meet
                          case rel => exact ⟨_, (y169), H', ⟨by have := HK1.out; have := HK2.out; have := HJ36.out; have := HJ54.out; have := HJ58.out; first | omega | exact Nat.le_refl _⟩, ⟨by (try simp only [hl5_2]); (with_reducible repeat (first | apply Kd.R_alloc | apply Kd.R_drewN | apply Kd.R_drew)); exact HO_5.out⟩, ⟨by (try simp only [hl5_2]); (with_reducible repeat (first | apply Kd.R_alloc | apply Kd.R_drewN | apply Kd.R_drew)); exact Kd.R_mono HO_7.out (fun _ hk => hk.2)⟩, ⟨by (try simp only [hl5_2]); (with_reducible repeat (first | apply Kd.R_alloc | apply Kd.R_drewN | apply Kd.R_drew)); exact HO171.out⟩, ⟨by (try simp only [hl5_2]); (with_reducible repeat (first | apply blk_drewN | apply blk_drew | apply blk_alloc)); exact BK144.out⟩, ⟨by (try simp only [hl5_2]); (with_reducible repeat (first | apply blk_drewN | apply blk_drew | apply blk_alloc)); exact BK158.out⟩, ⟨hbm⟩⟩
                         ·
                          rw [if_neg c67] at H
                          exact absurd H (by simp)
                        ·
                         replace c66 := Bool.eq_false_iff.mpr c66
                         subst c66
                         have H1 : (spec_l10Heights.j5 kj58 (l0_4.length : Int) x5_2 y154 (wrap64 ((wrap64 ((rd x5_2 (rd x7_2 (ji21))) - t159)) + t160)) x13_54 a0_0 a0_1 a0_2 a0_3 l0_4) = some (r1, r2) := by rw [if_neg (show ¬ (false = true) by decide)] at H; exact H
                         clear H
                         have H := H1
                         clear H1
                         have H' := Aside0.mk H
                         clear H
                         go_wp2
                         go_meet
                         case rel => exact ⟨_, (x13_54), H', ⟨by have := HK1.out; have := HK2.out; have := HJ36.out; have := HJ54.out; have := HJ58.out; first | omega | exact Nat.le_refl _⟩, ⟨by (try simp only [hl5_2]); (with_reducible repeat (first | apply Kd.R_alloc | apply Kd.R_drewN | apply Kd.R_drew)); exact HO_5.out⟩, ⟨by (try simp only [hl5_2]); (with_reducible repeat (first | apply Kd.R_alloc | apply Kd.R_drewN | apply Kd.R_drew)); exact HO_7.out⟩, ⟨by (try simp only [hl5_2]); (with_reducible repeat (first | apply Kd.R_alloc | apply Kd.R_drewN | apply Kd.R_drew)); exact HO_13.out⟩, ⟨by (try simp only [hl5_2]); (with_reducible repeat (first | apply blk_drewN | apply blk_drew | apply blk_alloc)); exact BK144.out⟩, ⟨by (try simp only [hl5_2]); (with_reducible repeat (first | apply blk_drewN | apply blk_drew | apply blk_alloc)); exact BK158.out⟩, ⟨hbm⟩⟩
                       case rest =>
                        clear HC65
                        try clear c1; try clear p1 p1; try clear q1 q1; try clear hx1; try clear qi1; try clear hf1; try clear c2; try clear c2b0; try clear c2b1; try clear p2 p2; try clear c3; try clear c3b0; try clear c3b1; try clear q3 q3; try clear c4; try clear c5; try clear c6; try clear p6 p6; try clear c8; try clear c8b0; try clear c9; try clear c9b0; try clear c10; try clear c10b0; try clear p11 p11; try clear q11 q11; try clear hx11; try clear hf11; try clear c14; try clear c14b0; try clear c14b1; try clear p15 p15; try clear q15 q15; try clear hx15; try clear qi15; try clear hf15; try clear p16 p16; try clear q16 q16; try clear hx16; try clear c20; try clear c20b0; try clear c20b1; try clear c22; try clear c22b0; try clear c23; try clear c23b0; try clear c24; try clear c24b0; try clear c24b1; try clear c25; try clear c25b0; try clear c26; try clear c26b0; try clear c28; try clear c28b0; try clear c29; try clear c29b0; try clear q31 q31; try clear c34; try clear q39 q39; try clear c42; try clear c47; try clear c47b0; try clear c47b1; try clear c48; try clear c50; try clear c50b0; try clear c50b1; try clear c51; try clear c53; try clear c56; try clear c57; try clear c60; try clear c60b0; try clear c60b1; try clear c61; try clear c63; try clear p64 p64; try clear c66; try clear c67; try clear c68; try clear hcz32_0 hcz32_1 hcz32_2 hcz32_3 hcz32_4 hfz32_0 hfz32_1 hfz32_2 hfz32_3 hfz32_4; try clear hcz35_0 hcz35_1 hcz35_2 hfz35_0 hfz35_1 hfz35_2; try clear hcz40_0 hcz40_1 hcz40_2 hcz40_3 hcz40_4 hfz40_0 hfz40_1 hfz40_2 hfz40_3 hfz40_4; try clear hcz43_0 hcz43_1 hcz43_2 hfz43_0 hfz43_1 hfz43_2; try clear hcz49_0 hcz49_1 hcz49_2 hfz49_0 hfz49_1 hfz49_2; try clear hcz52_0 hcz52_1 hcz52_2 hfz52_0 hfz52_1 hfz52_2; try clear hcz54_0 hcz54_1 hcz54_2 hfz54_0 hfz54_1 hfz54_2; try clear hcz5_0 hcz5_1 hcz5_2 hcz5_3 hcz5_4 hfz5_0 hfz5_1 hfz5_2 hfz5_3 hfz5_4; try clear hcz62_0 hcz62_1 hcz62_2 hfz62_0 hfz62_1 hfz62_2; try clear hcz64_0 hcz64_1 hcz64_2 hfz64_0 hfz64_1 hfz64_2; try clear hcz69_0 hcz69_1 hcz69_2 hfz69_0 hfz69_1 hfz69_2; try clear hx11_0; try clear hx153_0; try clear hx157_0; try clear hx157_1; try clear hx157_2; try clear hx15_0; try clear hx161_0; try clear hx162_0; try clear p153; try clear p157; try clear p161; try clear p162; try clear q153; try clear q157; try clear q161; try clear q162
                        obtain ⟨kq, x13_64, HA, HJ64, HO_5, HO_7, HO_13, BK144, BK158, HB⟩ := hcut
                        cases kq with
                        | zero => exact absurd HA.out (by simp [spec_l10Heights.j5])
                        | succ kj64 =>
                         have H := HA.out
                         clear HA
                         simp only [spec_l10Heights.j5] at H
                         have H' := Aside0.mk H
                         clear H
                         go_wp2
                         go_loopg [7, 14] kj64 (fun kq v7 v14 w' => ∃ (x5_7 : List Int) (x7_7 : List Int) (x14_7 : Int), v14 = .int .i64 x14_7 ∧ Aside0 (spec_l10Heights.l2 kq (l0_4.length : Int) x5_7 x7_7 (wrap64 ((wrap64 ((rd x5_2 (rd x7_2 (ji21))) - t159)) + t160)) x13_64 x14_7 a0_0 a0_1 a0_2 a0_3 l0_4 = some (r1, r2)) ∧ Aside0 (kq ≤ kj64) ∧ Aside0 (Kd.R (Kd.int .i64) 2 w' w.heap.size (fun _ => True) (.slice (some ⟨go15, 0, none⟩) x5_2.length co15) x5_7) ∧ Aside0 (Kd.R (Kd.int .i64) 3 w' w.heap.size (fun k_ => some k_ ≠ (u13 : Value).ownBlock) v7 x7_7) ∧ Aside0 (Kd.R (Kd.int .i64) 3 w' w.heap.size (fun k_ => some k_ ≠ (v7 : Value).ownBlock) u13 x13_64) ∧ Aside0 (w'.heap[gb144]? = some (.cells #[.int .i64 a0_0, .int .i64 a0_1, .int .i64 a0_2, .int .i64 a0_3, (.slice (some ad157) l0_4.length c0_4)] 24 (0, 0))) ∧ Aside0 (w'.heap[gb158]? = some (.cells #[.int .i64 ((rd_T64 l0_4 (rd x7_2 (ji21))).f0), .int .i64 ((rd_T64 l0_4 (rd x7_2 (ji21))).f1), .int .i64 ((rd_T64 l0_4 (rd x7_2 (ji21))).f2)] 64 (0, 0))) ∧ Aside0 (Below w.heap.size w w'))
                         case atStart => exact ⟨(x5_2), (y154), (0), (by first | rfl | (simp; done) | (simp [*]; done)), H', ⟨Nat.le_refl _⟩, ⟨by (try simp only [hl5_2]); (with_reducible repeat (first | apply Kd.R_alloc | apply Kd.R_drewN | apply Kd.R_drew)); exact HO_5.out⟩, ⟨by (try simp only [hl5_2]); (with_reducible repeat (first | apply Kd.R_alloc | apply Kd.R_drewN | apply Kd.R_drew)); exact HO_7.out⟩, ⟨by (try simp only [hl5_2]); (with_reducible repeat (first | apply Kd.R_alloc | apply Kd.R_drewN | apply Kd.R_drew)); exact HO_13.out⟩, ⟨by (try simp only [hl5_2]); (with_reducible repeat (first | apply blk_drewN | apply blk_drew | apply blk_alloc)); exact BK144.out⟩, ⟨by (try simp only [hl5_2]); (with_reducible repeat (first | apply blk_drewN | apply blk_drew | apply blk_alloc)); exact BK158.out⟩, ⟨hbm⟩⟩
                         case round =>
                          clear H'
                          try clear c1; try clear p1 p1; try clear q1 q1; try clear hx1; try clear qi1; try clear hf1; try clear c2; try clear c2b0; try clear c2b1; try clear p2 p2; try clear c3; try clear c3b0; try clear c3b1; try clear q3 q3; try clear c4; try clear c5; try clear c6; try clear p6 p6; try clear c8; try clear c8b0; try clear c9; try clear c9b0; try clear c10; try clear c10b0; try clear p11 p11; try clear q11 q11; try clear hx11; try clear hf11; try clear c14; try clear c14b0; try clear c14b1; try clear p15 p15; try clear q15 q15; try clear hx15; try clear qi15; try clear hf15; try clear p16 p16; try clear q16 q16; try clear hx16; try clear c20; try clear c20b0; try clear c20b1; try clear c22; try clear c22b0; try clear c23; try clear c23b0; try clear c24; try clear c24b0; try clear c24b1; try clear c25; try clear c25b0; try clear c26; try clear c26b0; try clear c28; try clear c28b0; try clear c29; try clear c29b0; try clear q31 q31; try clear c34; try clear q39 q39; try clear c42; try clear c47; try clear c47b0; try clear c47b1; try clear c48; try clear c50; try clear c50b0; try clear c50b1; try clear c51; try clear c53; try clear c56; try clear c57; try clear c60; try clear c60b0; try clear c60b1; try clear c61; try clear c63; try clear p64 p64; try clear c66; try clear c67; try clear c68; try clear hcz32_0 hcz32_1 hcz32_2 hcz32_3 hcz32_4 hfz32_0 hfz32_1 hfz32_2 hfz32_3 hfz32_4; try clear hcz35_0 hcz35_1 hcz35_2 hfz35_0 hfz35_1 hfz35_2; try clear hcz40_0 hcz40_1 hcz40_2 hcz40_3 hcz40_4 hfz40_0 hfz40_1 hfz40_2 hfz40_3 hfz40_4; try clear hcz43_0 hcz43_1 hcz43_2 hfz43_0 hfz43_1 hfz43_2; try clear hcz49_0 hcz49_1 hcz49_2 hfz49_0 hfz49_1 hfz49_2; try clear hcz52_0 hcz52_1 hcz52_2 hfz52_0 hfz52_1 hfz52_2; try clear hcz54_0 hcz54_1 hcz54_2 hfz54_0 hfz54_1 hfz54_2; try clear hcz5_0 hcz5_1 hcz5_2 hcz5_3 hcz5_4 hfz5_0 hfz5_1 hfz5_2 hfz5_3 hfz5_4; try clear hcz62_0 hcz62_1 hcz62_2 hfz62_0 hfz62_1 hfz62_2; try clear hcz64_0 hcz64_1 hcz64_2 hfz64_0 hfz64_1 hfz64_2; try clear hcz69_0 hcz69_1 hcz69_2 hfz69_0 hfz69_1 hfz69_2; try clear hx11_0; try clear hx153_0; try clear hx157_0; try clear hx157_1; try clear hx157_2; try clear hx15_0; try clear hx161_0; try clear hx162_0; try clear p153; try clear p157; try clear p161; try clear p162; try clear q153; try clear q157; try clear q161; try clear q162
                          obtain ⟨x5_7, x7_7, x14_7, rfl, HA, HK7, HO_5, HO_7, HO_13, BK144, BK158, HB⟩ := hrel
                          have hl5_7 := (Kd.R_reads' HO_5.out).1
                          rw [hl5_7] at HO_5
                          (try simp only [hl5_7])
                          (try simp only [hl5_7] at BK144)
                          (try simp only [hl5_7] at BK158)
                          (try simp only [hl5_7] at HO_7)
                          (try simp only [hl5_7] at HO_13)
                          cases gk with
                          | zero => exact absurd HA.out (by simp [spec_l10Heights.l2])
                          | succ k7 =>
                           have H := HA.out
                           clear HA
                           simp only [spec_l10Heights.l2] at H
                           by_cases c71 : x14_7 < (x13_64.length : Int)
                           ·
                            rw [if_pos c71] at H
                            have c71b0 := decide_eq_true c71
                            clear c71
                            have HC72 := Aside0.mk H
                            clear H
                            obtain ⟨Ao73, co73, eo73⟩ := Kd.R_slice HO_13.out
                            subst eo73
                            go_upto_region 25 with (fail)
                            go_cut [138] (fun v138 wc => ∃ (kq : Nat) (x138_71 : Bool), v138 = .bool x138_71 ∧ Aside0 (spec_l10Heights.j7 kq (l0_4.length : Int) x5_7 x7_7 (wrap64 ((wrap64 ((rd x5_2 (rd x7_2 (ji21))) - t159)) + t160)) x13_64 x14_7 x138_71 a0_0 a0_1 a0_2 a0_3 l0_4 = some (r1, r2)) ∧ Aside0 (kq ≤ k7) ∧ Aside0 (Kd.R (Kd.int .i64) 2 wc w.heap.size (fun _ => True) (.slice (some ⟨go15, 0, none⟩) x5_7.length co15) x5_7) ∧ Aside0 (Kd.R (Kd.int .i64) 3 wc w.heap.size (fun k_ => some k_ ≠ ((.slice Ao73 x13_64.length co73) : Value).ownBlock) u7 x7_7) ∧ Aside0 (Kd.R (Kd.int .i64) 3 wc w.heap.size (fun k_ => some k_ ≠ (u7 : Value).ownBlock) (.slice Ao73 x13_64.length co73) x13_64) ∧ Aside0 (wc.heap[gb144]? = some (.cells #[.int .i64 a0_0, .int .i64 a0_1, .int .i64 a0_2, .int .i64 a0_3, (.slice (some ad157) l0_4.length c0_4)] 24 (0, 0))) ∧ Aside0 (wc.heap[gb158]? = some (.cells #[.int .i64 ((rd_T64 l0_4 (rd x7_2 (ji21))).f0), .int .i64 ((rd_T64 l0_4 (rd x7_2 (ji21))).f1), .int .i64 ((rd_T64 l0_4 (rd x7_2 (ji21))).f2)] 64 (0, 0))) ∧ Aside0 (Below w.heap.size w wc))
                            case first =>
                             have H := HC72.out
                             clear HC72
                             by_cases c74 : 0 ≤ x14_7
                             ·
                              rw [if_pos c74] at H
                              have c74b0 := decide_eq_true c74
                              clear c74
                              (first | rw [c74b0] | (simp only [i64_w, i32_w]; rw [c74b0]) | skip)
                              by_cases c75 : (rd x13_64 x14_7) ≥ (l0_4.length : Int)
                              ·
                               rw [if_pos c75] at H
                               have c75b0 : decide ((l0_4.length : Int) ≤ (rd x13_64 x14_7)) = true := decide_eq_true c75
                               clear c75
                               have H' := Aside0.mk H
                               clear H
                               have p172 : 0 ≤ (x14_7 : Int) := of_decide_eq_true asm_
                               have q172 : x14_7 < (x13_64.length : Int) := of_decide_eq_true asm_
                               obtain ⟨ad172, e172, hx172_0⟩ := Kd.at_int (Kd.R_reads' HO_13.out).2.2 x14_7 p172 q172
                               cases e172
                               replace p172 := eq_true p172
                               replace q172 := eq_true q172
                               go_wp2
                               go_meet
                               case rel => exact ⟨_, (true), (by first | rfl | (simp; done) | (simp [*]; done)), H', ⟨by have := HK1.out; have := HK2.out; have := HJ36.out; have := HJ54.out; have := HJ58.out; have := HJ64.out; have := HK7.out; first | omega | exact Nat.le_refl _⟩, ⟨by (try simp only [hl5_2]); (try simp only [hl5_7]); (with_reducible repeat (first | apply Kd.R_alloc | apply Kd.R_drewN | apply Kd.R_drew)); exact HO_5.out⟩, ⟨by (try simp only [hl5_2]); (try simp only [hl5_7]); (with_reducible repeat (first | apply Kd.R_alloc | apply Kd.R_drewN | apply Kd.R_drew)); exact HO_7.out⟩, ⟨by (try simp only [hl5_2]); (try simp only [hl5_7]); (with_reducible repeat (first | apply Kd.R_alloc | apply Kd.R_drewN | apply Kd.R_drew)); exact HO_13.out⟩, ⟨by (try simp only [hl5_2]); (try simp only [hl5_7]); (with_reducible repeat (first | apply blk_drewN | apply blk_drew | apply blk_alloc)); exact BK144.out⟩, ⟨by (try simp only [hl5_2]); (try simp only [hl5_7]); (with_reducible repeat (first | apply blk_drewN | apply blk_drew | apply blk_alloc)); exact BK158.out⟩, ⟨hbm⟩⟩
                              ·
                               rw [if_neg c75] at H
                               have c75b0 : decide ((l0_4.length : Int) ≤ (rd x13_64 x14_7)) = false := decide_eq_false c75
                               clear c75
                               by_cases c76 : (wrap64 ((wrap64 ((rd x5_2 (rd x7_2 (ji21))) - t159)) + t160)) > 60
                               ·
                                rw [if_pos c76] at H
                                have c76b0 : decide (60 < (wrap64 ((wrap64 ((rd x5_2 (rd x7_2 (ji21))) - t159)) + t160))) = true := decide_eq_true c76
                                clear c76
                                have H' := Aside0.mk H
                                clear H
                                have p172 : 0 ≤ (x14_7 : Int) := of_decide_eq_true asm_
                                have q172 : x14_7 < (x13_64.length : Int) := of_decide_eq_true asm_
                                obtain ⟨ad172, e172, hx172_0⟩ := Kd.at_int (Kd.R_reads' HO_13.out).2.2 x14_7 p172 q172
                                cases e172
                                replace p172 := eq_true p172
                                replace q172 := eq_true q172
                                go_wp2
                                go_meet
                                case rel => exact ⟨_, (true), (by first | rfl | (simp; done) | (simp [*]; done)), H', ⟨by have := HK1.out; have := HK2.out; have := HJ36.out; have := HJ54.out; have := HJ58.out; have := HJ64.out; have := HK7.out; first | omega | exact Nat.le_refl _⟩, ⟨by (try simp only [hl5_2]); (try simp only [hl5_7]); (with_reducible repeat (first | apply Kd.R_alloc | apply Kd.R_drewN | apply Kd.R_drew)); exact HO_5.out⟩, ⟨by (try simp only [hl5_2]); (try simp only [hl5_7]); (with_reducible repeat (first | apply Kd.R_alloc | apply Kd.R_drewN | apply Kd.R_drew)); exact HO_7.out⟩, ⟨by (try simp only [hl5_2]); (try simp only [hl5_7]); (with_reducible repeat (first | apply Kd.R_alloc | apply Kd.R_drewN | apply Kd.R_drew)); exact HO_13.out⟩, ⟨by (try simp only [hl5_2]); (try simp only [hl5_7]); (with_reducible repeat (first | apply blk_drewN | apply blk_drew | apply blk_alloc)); exact BK144.out⟩, ⟨by (try simp only [hl5_2]); (try simp only [hl5_7]); (with_reducible repeat (first | apply blk_drewN | apply blk_drew | apply blk_alloc)); exact BK158.out⟩, ⟨hbm⟩⟩
                               ·
                                rw [if_neg c76] at H
                                have c76b0 : decide (60 < (wrap64 ((wrap64 ((rd x5_2 (rd x7_2 (ji21))) - t159)) + t160))) = false := decide_eq_false c76
                                clear c76
                                by_cases c77 : 0 ≤ (rd x13_64 x14_7)
                                ·
                                 rw [if_pos c77] at H
                                 have c77b0 := decide_eq_true c77
                                 clear c77
                                 by_cases c78 : (rd x13_64 x14_7) < (x5_7.length : Int)
                                 ·
                                  rw [if_pos c78] at H
                                  have c78b0 := decide_eq_true c78
                                  clear c78
                                  by_cases c79 : (rd x5_7 (rd x13_64 x14_7)) ≥ 0
                                  ·
                                   rw [if_pos c79] at H
                                   have c79b0 : decide (0 ≤ (rd x5_7 (rd x13_64 x14_7))) = true := decide_eq_true c79
                                   clear c79
                                   have H' := Aside0.mk H
                                   clear H
                                   have p172 : 0 ≤ (x14_7 : Int) := of_decide_eq_true asm_
                                   have q172 : x14_7 < (x13_64.length : Int) := of_decide_eq_true asm_
                                   obtain ⟨ad172, e172, hx172_0⟩ := Kd.at_int (Kd.R_reads' HO_13.out).2.2 x14_7 p172 q172
                                   cases e172
                                   replace p172 := eq_true p172
                                   replace q172 := eq_true q172
                                   have p173 : 0 ≤ (x14_7 : Int) := of_decide_eq_true asm_
                                   have q173 : x14_7 < (x13_64.length : Int) := of_decide_eq_true asm_
                                   obtain ⟨ad173, e173, hx173_0⟩ := Kd.at_int (Kd.R_reads' HO_13.out).2.2 x14_7 p173 q173
                                   obtain rfl : ad172 = ad173 := (by injection e173)
                                   replace p173 := eq_true p173
                                   replace q173 := eq_true q173
                                   have p174 : 0 ≤ ((rd x13_64 x14_7) : Int) := of_decide_eq_true asm_
                                   have q174 : (rd x13_64 x14_7) < (x5_7.length : Int) := of_decide_eq_true asm_
                                   obtain ⟨ad174, e174, hx174_0⟩ := Kd.at_int (Kd.R_reads' HO_5.out).2.2 (rd x13_64 x14_7) p174 q174
                                   obtain rfl : (⟨go15, 0, none⟩ : Addr) = ad174 := (by injection e174)
                                   (first | simp only [add_plain] at hx174_0 | simp only [add_at] at hx174_0 | simp only [Addr.add, Nat.zero_add] at hx174_0 | skip)
                                   replace p174 := eq_true p174
                                   replace q174 := eq_true q174
                                   have p175 : 0 ≤ (x14_7 : Int) := of_decide_eq_true asm_
                                   have q175 : x14_7 < (x13_64.length : Int) := of_decide_eq_true asm_
                                   obtain ⟨ad175, e175, hx175_0⟩ := Kd.at_int (Kd.R_reads' HO_13.out).2.2 x14_7 p175 q175
                                   obtain rfl : ad172 = ad175 := (by injection e175)
                                   replace p175 := eq_true p175
                                   replace q175 := eq_true q175
                                   have p176 : 0 ≤ ((rd x13_64 x14_7) : Int) := of_decide_eq_true asm_
                                   have q176 : (rd x13_64 x14_7) < (x5_7.length : Int) := of_decide_eq_true asm_
                                   obtain ⟨ad176, e176, hx176_0⟩ := Kd.at_int (Kd.R_reads' HO_5.out).2.2 (rd x13_64 x14_7) p176 q176
                                   obtain rfl : (⟨go15, 0, none⟩ : Addr) = ad176 := (by injection e176)
                                   (first | simp only [add_plain] at hx176_0 | simp only [add_at] at hx176_0 | simp only [Addr.add, Nat.zero_add] at hx176_0 | skip)
                                   replace p176 := eq_true p176
                                   replace q176 := eq_true q176
                                   go_wp2
                                   go_meet
                                   case rel => exact ⟨_, (((rd x5_7 (rd x13_64 x14_7)) != (wrap64 ((wrap64 ((rd x5_2 (rd x7_2 (ji21))) - t159)) + t160)))), (by first | rfl | (simp; done) | (simp only [← hji21] <;> (first | rfl | simp)) | (simp [*]; done)), H', ⟨by have := HK1.out; have := HK2.out; have := HJ36.out; have := HJ54.out; have := HJ58.out; have := HJ64.out; have := HK7.out; first | omega | exact Nat.le_refl _⟩, ⟨by (try simp only [hl5_2]); (try simp only [hl5_7]); (with_reducible repeat (first | apply Kd.R_alloc | apply Kd.R_drewN | apply Kd.R_drew)); exact HO_5.out⟩, ⟨by (try simp only [hl5_2]); (try simp only [hl5_7]); (with_reducible repeat (first | apply Kd.R_alloc | apply Kd.R_drewN | apply Kd.R_drew)); exact HO_7.out⟩, ⟨by (try simp only [hl5_2]); (try simp only [hl5_7]); (with_reducible repeat (first | apply Kd.R_alloc | apply Kd.R_drewN | apply Kd.R_drew)); exact HO_13.out⟩, ⟨by (try simp only [hl5_2]); (try simp only [hl5_7]); (with_reducible repeat (first | apply blk_drewN | apply blk_drew | apply blk_alloc)); exact BK144.out⟩, ⟨by (try simp only [hl5_2]); (try simp only [hl5_7]); (with_reducible repeat (first | apply blk_drewN | apply blk_drew | apply blk_alloc)); exact BK158.out⟩, ⟨hbm⟩⟩
                                  ·
                                   rw [if_neg c79] at H
                                   have c79b0 : decide (0 ≤ (rd x5_7 (rd x13_64 x14_7))) = false := decide_eq_false c79
                                   clear c79
                                   have H' := Aside0.mk H
                                   clear H
                                   have p172 : 0 ≤ (x14_7 : Int) := of_decide_eq_true asm_
                                   have q172 : x14_7 < (x13_64.length : Int) := of_decide_eq_true asm_
                                   obtain ⟨ad172, e172, hx172_0⟩ := Kd.at_int (Kd.R_reads' HO_13.out).2.2 x14_7 p172 q172
                                   cases e172
                                   replace p172 := eq_true p172
                                   replace q172 := eq_true q172
                                   have p173 : 0 ≤ (x14_7 : Int) := of_decide_eq_true asm_
                                   have q173 : x14_7 < (x13_64.length : Int) := of_decide_eq_true asm_
                                   obtain ⟨ad173, e173, hx173_0⟩ := Kd.at_int (Kd.R_reads' HO_13.out).2.2 x14_7 p173 q173
                                   obtain rfl : ad172 = ad173 := (by injection e173)
                                   replace p173 := eq_true p173
                                   replace q173 := eq_true q173
                                   have p174 : 0 ≤ ((rd x13_64 x14_7) : Int) := of_decide_eq_true asm_
                                   have q174 : (rd x13_64 x14_7) < (x5_7.length : Int) := of_decide_eq_true asm_
                                   obtain ⟨ad174, e174, hx174_0⟩ := Kd.at_int (Kd.R_reads' HO_5.out).2.2 (rd x13_64 x14_7) p174 q174
                                   obtain rfl : (⟨go15, 0, none⟩ : Addr) = ad174 := (by injection e174)
                                   (first | simp only [add_plain] at hx174_0 | simp only [add_at] at hx174_0 | simp only [Addr.add, Nat.zero_add] at hx174_0 | skip)
                                   replace p174 := eq_true p174
                                   replace q174 := eq_true q174
                                   go_wp2
                                   go_meet
                                   case rel => exact ⟨_, (false), (by first | rfl | (simp; done) | (simp [*]; done)), H', ⟨by have := HK1.out; have := HK2.out; have := HJ36.out; have := HJ54.out; have := HJ58.out; have := HJ64.out; have := HK7.out; first | omega | exact Nat.le_refl _⟩, ⟨by (try simp only [hl5_2]); (try simp only [hl5_7]); (with_reducible repeat (first | apply Kd.R_alloc | apply Kd.R_drewN | apply Kd.R_drew)); exact HO_5.out⟩, ⟨by (try simp only [hl5_2]); (try simp only [hl5_7]); (with_reducible repeat (first | apply Kd.R_alloc | apply Kd.R_drewN | apply Kd.R_drew)); exact HO_7.out⟩, ⟨by (try simp only [hl5_2]); (try simp only [hl5_7]); (with_reducible repeat (first | apply Kd.R_alloc | apply Kd.R_drewN | apply Kd.R_drew)); exact HO_13.out⟩, ⟨by (try simp only [hl5_2]); (try simp only [hl5_7]); (with_reducible repeat (first | apply blk_drewN | apply blk_drew | apply blk_alloc)); exact BK144.out⟩, ⟨by (try simp only [hl5_2]); (try simp only [hl5_7]); (with_reducible repeat (first | apply blk_drewN | apply blk_drew | apply blk_alloc)); exact BK158.out⟩, ⟨hbm⟩⟩
                                 ·
                                  rw [if_neg c78] at H
                                  exact absurd H (by simp)
                                ·
                                 rw [if_neg c77] at H
                                 exact absurd H (by simp)
                             ·
                              rw [if_neg c74] at H
                              exact absurd H (by simp)
                            case rest =>
                             clear HC72
                             try clear c1; try clear p1 p1; try clear q1 q1; try clear hx1; try clear qi1; try clear hf1; try clear c2; try clear c2b0; try clear c2b1; try clear p2 p2; try clear c3; try clear c3b0; try clear c3b1; try clear q3 q3; try clear c4; try clear c5; try clear c6; try clear p6 p6; try clear c7; try clear c8; try clear c8b0; try clear c9; try clear c9b0; try clear c10; try clear c10b0; try clear p11 p11; try clear q11 q11; try clear hx11; try clear hf11; try clear c14; try clear c14b0; try clear c14b1; try clear p15 p15; try clear q15 q15; try clear hx15; try clear qi15; try clear hf15; try clear p16 p16; try clear q16 q16; try clear hx16; try clear p17; try clear q17; try clear hx17; try clear c20; try clear c20b0; try clear c20b1; try clear c22; try clear c22b0; try clear c23; try clear c23b0; try clear c24; try clear c24b0; try clear c24b1; try clear c25; try clear c25b0; try clear c26; try clear c26b0; try clear c28; try clear c28b0; try clear c29; try clear c29b0; try clear q31 q31; try clear c34; try clear q39 q39; try clear c42; try clear c47; try clear c47b0; try clear c47b1; try clear c48; try clear c50; try clear c50b0; try clear c50b1; try clear c51; try clear c53; try clear c56; try clear c57; try clear c60; try clear c60b0; try clear c60b1; try clear c61; try clear c63; try clear p64 p64; try clear c66; try clear c67; try clear c68; try clear c71; try clear c71b0; try clear c74; try clear c74b0; try clear c75; try clear c75b0; try clear c76; try clear c76b0; try clear c77; try clear c77b0; try clear c78; try clear c78b0; try clear c79; try clear c79b0; try clear hcz32_0 hcz32_1 hcz32_2 hcz32_3 hcz32_4 hfz32_0 hfz32_1 hfz32_2 hfz32_3 hfz32_4; try clear hcz35_0 hcz35_1 hcz35_2 hfz35_0 hfz35_1 hfz35_2; try clear hcz40_0 hcz40_1 hcz40_2 hcz40_3 hcz40_4 hfz40_0 hfz40_1 hfz40_2 hfz40_3 hfz40_4; try clear hcz43_0 hcz43_1 hcz43_2 hfz43_0 hfz43_1 hfz43_2; try clear hcz49_0 hcz49_1 hcz49_2 hfz49_0 hfz49_1 hfz49_2; try clear hcz52_0 hcz52_1 hcz52_2 hfz52_0 hfz52_1 hfz52_2; try clear hcz54_0 hcz54_1 hcz54_2 hfz54_0 hfz54_1 hfz54_2; try clear hcz5_0 hcz5_1 hcz5_2 hcz5_3 hcz5_4 hfz5_0 hfz5_1 hfz5_2 hfz5_3 hfz5_4; try clear hcz62_0 hcz62_1 hcz62_2 hfz62_0 hfz62_1 hfz62_2; try clear hcz64_0 hcz64_1 hcz64_2 hfz64_0 hfz64_1 hfz64_2; try clear hcz69_0 hcz69_1 hcz69_2 hfz69_0 hfz69_1 hfz69_2; try clear hx11_0; try clear hx153_0; try clear hx157_0; try clear hx157_1; try clear hx157_2; try clear hx15_0; try clear hx161_0; try clear hx162_0; try clear hx172_0; try clear hx173_0; try clear hx174_0; try clear hx175_0; try clear hx176_0; try clear p153; try clear p157; try clear p161; try clear p162; try clear p172; try clear p173; try clear p174; try clear p175; try clear p176; try clear q153; try clear q157; try clear q161; try clear q162; try clear q172; try clear q173; try clear q174; try clear q175; try clear q176
                             obtain ⟨kq, x138_71, rfl, HA, HJ71, HO_5, HO_7, HO_13, BK144, BK158, HB⟩ := hcut
                             cases kq with
                             | zero => exact absurd HA.out (by simp [spec_l10Heights.j7])
                             | succ kj71 =>
                              have H := HA.out
                              clear HA
                              simp only [spec_l10Heights.j7] at H
                              by_cases c80 : x138_71 = true
                              ·
                               subst c80
                               have H1 : (some (x5_7, false)) = some (r1, r2) := by rw [if_pos rfl] at H; exact H
                               clear H
                               have H := H1
                               clear H1
                               simp only [Option.some.injEq, Prod.mk.injEq] at H
                               obtain ⟨rfl, rfl⟩ := H
                               go_wp2
                               go_ret2
                               exact ⟨_, by first | rfl | (simp [errW_none, errW_some] <;> rfl) | (simp only [← hji21]; first | rfl | (simp [errW_none, errW_some] <;> rfl)) | (simp [*, errW_none, errW_some] <;> rfl), by (with_reducible repeat (first | apply Kd.R_alloc | apply Kd.R_drewN | apply Kd.R_drew)); exact HO_5.out, hbm⟩
                              ·
                               replace c80 := Bool.eq_false_iff.mpr c80
                               subst c80
                               have H1 : (if 0 ≤ x14_7 then (if x14_7 < (x13_64.length : Int) then (if 0 ≤ (rd x13_64 x14_7) then (if (rd x13_64 x14_7) < (x5_7.length : Int) then (if (rd x5_7 (rd x13_64 x14_7)) < 0 then (if x7_7.length < 17592186044416 then (spec_l10Heights.l2 kj71 (l0_4.length : Int) (x5_7.set ((rd x13_64 x14_7) : Int).toNat (wrap64 ((wrap64 ((rd x5_2 (rd x7_2 (ji21))) - t159)) + t160))) (x7_7 ++ [rd x13_64 x14_7]) (wrap64 ((wrap64 ((rd x5_2 (rd x7_2 (ji21))) - t159)) + t160)) x13_64 (wrap64 (x14_7 + 1)) a0_0 a0_1 a0_2 a0_3 l0_4) else (none)) else (spec_l10Heights.l2 kj71 (l0_4.length : Int) x5_7 x7_7 (wrap64 ((wrap64 ((rd x5_2 (rd x7_2 (ji21))) - t159)) + t160)) x13_64 (wrap64 (x14_7 + 1)) a0_0 a0_1 a0_2 a0_3 l0_4)) else (none)) else (none)) else (none)) else (none)) = some (r1, r2) := by rw [if_neg (show ¬ (false = true) by decide)] at H; exact H
                               clear H
                               have H := H1
                               clear H1
                               by_cases c81 : 0 ≤ x14_7
                               ·
                                rw [if_pos c81] at H
                                have c81b0 := decide_eq_true c81
                                clear c81
                                by_cases c82 : x14_7 < (x13_64.length : Int)
                                ·
                                 rw [if_pos c82] at H
                                 have c82b0 := decide_eq_true c82
                                 clear c82
                                 by_cases c83 : 0 ≤ (rd x13_64 x14_7)
                                 ·
                                  rw [if_pos c83] at H
                                  have c83b0 := decide_eq_true c83
                                  clear c83
                                  by_cases c84 : (rd x13_64 x14_7) < (x5_7.length : Int)
                                  ·
                                   rw [if_pos c84] at H
                                   have c84b0 := decide_eq_true c84
                                   clear c84
                                   by_cases c85 : (rd x5_7 (rd x13_64 x14_7)) < 0
                                   ·
                                    rw [if_pos c85] at H
                                    have c85b0 := decide_eq_true c85
                                    clear c85
                                    obtain ⟨y180, hy180⟩ : ∃ y_ : List Int, y_ = (x5_7.set ((rd x13_64 x14_7) : Int).toNat (wrap64 ((wrap64 ((rd x5_2 (rd x7_2 (ji21))) - t159)) + t160))) := ⟨_, rfl⟩
                                    replace H : (if x7_7.length < 17592186044416 then (spec_l10Heights.l2 kj71 (l0_4.length : Int) y180 (x7_7 ++ [rd x13_64 x14_7]) (wrap64 ((wrap64 ((rd x5_2 (rd x7_2 (ji21))) - t159)) + t160)) x13_64 (wrap64 (x14_7 + 1)) a0_0 a0_1 a0_2 a0_3 l0_4) else (none)) = some (r1, r2) := by first | (rw [hy180]; with_reducible exact H) | (have H2_ := (Option.bind_some _ _).symm.trans H; rw [hy180]; with_reducible exact H2_) | (have H2_ := (Option.bind_some _ _).symm.trans H; with_reducible exact H2_) | with_reducible exact H | (rw [hy180]; exact H) | exact H
                                    have Ny180 := Aside0.mk hy180
                                    clear hy180
                                    by_cases c87 : x7_7.length < 17592186044416
                                    ·
                                     rw [if_pos c87] at H
                                     have LMc87 := Aside0.mk c87
                                     clear c87
                                     obtain ⟨y182, hy182⟩ : ∃ y_ : List Int, y_ = (x7_7 ++ [rd x13_64 x14_7]) := ⟨_, rfl⟩
                                     replace H : (spec_l10Heights.l2 kj71 (l0_4.length : Int) y180 y182 (wrap64 ((wrap64 ((rd x5_2 (rd x7_2 (ji21))) - t159)) + t160)) x13_64 (wrap64 (x14_7 + 1)) a0_0 a0_1 a0_2 a0_3 l0_4) = some (r1, r2) := by first | (rw [hy182]; with_reducible exact H) | (have H2_ := (Option.bind_some _ _).symm.trans H; rw [hy182]; with_reducible exact H2_) | (have H2_ := (Option.bind_some _ _).symm.trans H; with_reducible exact H2_) | with_reducible exact H | (rw [hy182]; exact H) | exact H
                                     have Ny182 := Aside0.mk hy182
                                     clear hy182
                                     have H' := Aside0.mk H
                                     clear H
                                     have p177 : 0 ≤ (x14_7 : Int) := of_decide_eq_true asm_
                                     have q177 : x14_7 < (x13_64.length : Int) := of_decide_eq_true asm_
                                     obtain ⟨ad177, e177, hx177_0⟩ := Kd.at_int (Kd.R_reads' HO_13.out).2.2 x14_7 p177 q177
                                     cases e177
                                     replace p177 := eq_true p177
                                     replace q177 := eq_true q177
                                     have p178 : 0 ≤ ((rd x13_64 x14_7) : Int) := of_decide_eq_true asm_
                                     have q178 : (rd x13_64 x14_7) < (x5_7.length : Int) := of_decide_eq_true asm_
                                     obtain ⟨ad178, e178, hx178_0⟩ := Kd.at_int (Kd.R_reads' HO_5.out).2.2 (rd x13_64 x14_7) p178 q178
                                     obtain rfl : (⟨go15, 0, none⟩ : Addr) = ad178 := (by injection e178)
                                     (first | simp only [add_plain] at hx178_0 | simp only [add_at] at hx178_0 | simp only [Addr.add, Nat.zero_add] at hx178_0 | skip)
                                     replace p178 := eq_true p178
                                     replace q178 := eq_true q178
                                     have p179 : 0 ≤ (x14_7 : Int) := of_decide_eq_true asm_
                                     have q179 : x14_7 < (x13_64.length : Int) := of_decide_eq_true asm_
                                     obtain ⟨ad179, e179, hx179_0⟩ := Kd.at_int (Kd.R_reads' HO_13.out).2.2 x14_7 p179 q179
                                     obtain rfl : ad177 = ad179 := (by injection e179)
                                     replace p179 := eq_true p179
                                     replace q179 := eq_true q179
                                     have p86 : 0 ≤ ((rd x13_64 x14_7) : Int) := of_decide_eq_true asm_
                                     have q86 : ((rd x13_64 x14_7) : Int) < ((x5_7.length : Int) : Int) := of_decide_eq_true asm_
                                     obtain ⟨hx86_0, hf86_0⟩ := Kd.R_celln 0 HO_5.out ((rd x13_64 x14_7) : Int) p86 q86
                                     replace p86 := eq_true p86
                                     replace q86 := eq_true q86
                                     have HP88 := Kd.R_putg HO_5.out ((rd x13_64 x14_7) : Int) (wrap64 ((wrap64 ((rd x5_2 (rd x7_2 (ji21))) - t159)) + t160))
                                     go_wp2_with (first | ((with_reducible refine gate_store (t := 2) (p := 154) rfl ?_); refine store_event (t := 2) (p := 154) (v := ?vo_w89) (w1 := (wc.setCell ⟨go15, ((rd x13_64 x14_7) : Int).toNat, none⟩ (.int .i64 (wrap64 ((wrap64 ((rd x5_2 (rd x7_2 (ji21))) - t159)) + t160))))) ?hg ?ho ?hn ?hr ?_; (case ho => rfl); (case hg => rfl); (case hn => rfl); (case hr => first | (go_simp; done) | (go_simp; rfl)); intro w89 hw; have hg : wc.grownBy w89 (some go15) := (by rw [hw]; exact HP88.2); have hp_ : Kd.R (Kd.int .i64) 2 w89 w.heap.size (fun _ => True) (.slice (some ⟨go15, 0, none⟩) x5_7.length co15) y180 := (by rw [hw, Ny180.out]; exact HP88.1); clear HP88; have n0_ := Aside0.mk (hp_); have n1_ := Aside0.mk (Kd.R_over' (v := (.slice (some ⟨go15, 0, none⟩) x5_7.length co15)) (prR HO_7.out) (Kd.R_typed HO_5.out) (by decide) hg); have n2_ := Aside0.mk (Kd.R_over' (v := (.slice (some ⟨go15, 0, none⟩) x5_7.length co15)) (prR HO_13.out) (Kd.R_typed HO_5.out) (by decide) hg); have n3_ := Aside0.mk (blk_grown (g := gb144) (o := .cells #[.int .i64 a0_0, .int .i64 a0_1, .int .i64 a0_2, .int .i64 a0_3, .slice (some ad157) l0_4.length c0_4] 24 (0, 0)) (by (with_reducible repeat (first | apply blk_drewN | apply blk_drew | apply blk_alloc)); exact BK144.out) hg (Kd.R_ne HO_5.out BK144.out (by decide))); have n4_ := Aside0.mk (blk_grown (g := gb158) (o := .cells #[.int .i64 ((rd_T64 l0_4 (rd x7_2 (ji21))).f0), .int .i64 ((rd_T64 l0_4 (rd x7_2 (ji21))).f1), .int .i64 ((rd_T64 l0_4 (rd x7_2 (ji21))).f2)] 64 (0, 0)) (by (with_reducible repeat (first | apply blk_drewN | apply blk_drew | apply blk_alloc)); exact BK158.out) hg (Kd.R_ne HO_5.out BK158.out (by decide))); have n5_ := Aside0.mk ((by rw [hw]; exact below_set (HB.out) GB15.out : Below w.heap.size w w89)); clear HO_5; clear HO_7; clear HO_13; clear BK144; clear BK158; clear HB; have HO_5 := n0_; have HO_7 := n1_; have HO_13 := n2_; have BK144 := n3_; have BK158 := n4_; have HB := n5_; clear n0_ n1_ n2_ n3_ n4_ n5_; clear hg hw hp_; have p181 : 0 ≤ (x14_7 : Int) := of_decide_eq_true asm_; have q181 : x14_7 < (x13_64.length : Int) := of_decide_eq_true asm_; obtain ⟨ad181, e181, hx181_0⟩ := Kd.at_int (Kd.R_reads' HO_13.out).2.2 x14_7 p181 q181; obtain rfl : ad177 = ad181 := (by injection e181); replace p181 := eq_true p181; replace q181 := eq_true q181) | ((with_reducible refine gate_builtin (b := .append) (xs := #[.tmp 155, .tmp 160]) rfl ?_); at_builtin; refine Kd.R_append (Kd.int .i64) (w0 := w) w.heap.size rfl (.tmp 155) (.tmp 160) 143 3 (.int .i64 0) 8 rfl Try.underlying143 info3 rfl (by decide) (by omega) u7 x7_7 (rd x13_64 x14_7) [.int .i64 (rd x13_64 x14_7)] (fun k_ => some k_ ≠ (.slice (some ad177) x13_64.length co73 : Value).ownBlock) (fun _ => False) rfl rfl ?aP (fun _ hk => hk.elim) ?aF ?aO ?aB ?aS ?aL ?_; (case aP => exact rfl); (case aB => exact hbm); (case aF => exact (fun k_ hk => Kd.fresh' (Kd.R_lt (prR HO_13.out)) k_ hk)); (case aO => exact (prR HO_7.out)); (case aS => exact (below_size hbm)); (case aL => have := LMc87.out; omega); intro v183 w90 ho hb hg hat; rw [← Ny182.out] at ho; have n0_ := Aside0.mk (Kd.R_over' (prR HO_5.out) (Kd.R_typed (prR HO_7.out)) (by decide) hg); have n1_ := Aside0.mk (Kd.R_after (ok := (fun _ => True)) (by (with_reducible repeat (first | apply Kd.R_alloc | apply Kd.R_drewN | apply Kd.R_drew)); exact Kd.R_mono HO_13.out (fun _ hk => ⟨trivial, hk⟩)) hg hat); have n2_ := Aside0.mk (blk_grown (g := gb144) (o := .cells #[.int .i64 a0_0, .int .i64 a0_1, .int .i64 a0_2, .int .i64 a0_3, .slice (some ad157) l0_4.length c0_4] 24 (0, 0)) (by (with_reducible repeat (first | apply blk_drewN | apply blk_drew | apply blk_alloc)); exact BK144.out) hg (Kd.R_ne HO_7.out BK144.out (by decide))); have n3_ := Aside0.mk (blk_grown (g := gb158) (o := .cells #[.int .i64 ((rd_T64 l0_4 (rd x7_2 (ji21))).f0), .int .i64 ((rd_T64 l0_4 (rd x7_2 (ji21))).f1), .int .i64 ((rd_T64 l0_4 (rd x7_2 (ji21))).f2)] 64 (0, 0)) (by (with_reducible repeat (first | apply blk_drewN | apply blk_drew | apply blk_alloc)); exact BK158.out) hg (Kd.R_ne HO_7.out BK158.out (by decide))); have n4_ := Aside0.mk (hb); have n5_ := Aside0.mk (ho); clear HO_5; clear HO_13; clear BK144; clear BK158; clear HB; clear HO_7; have HO_5 := n0_; have HO_13 := n1_; have BK144 := n2_; have BK158 := n3_; have HB := n4_; have HO184 := n5_; clear n0_ n1_ n2_ n3_ n4_ n5_; clear ho hb hg hat))
                                     (try simp only [← hl5_7])
                                     go_roundg kj71
                                     case measure => have := HK1.out; have := HK2.out; have := HJ36.out; have := HJ54.out; have := HJ58.out; have := HJ64.out; have := HK7.out; have := HJ71.out; omega
                                     case rel => exact ⟨(y180), (y182), (wrap64 (x14_7 + 1)), (by first | rfl | (simp; done) | (simp [*]; done)), H', ⟨by have := HK1.out; have := HK2.out; have := HJ36.out; have := HJ54.out; have := HJ58.out; have := HJ64.out; have := HK7.out; have := HJ71.out; omega⟩, ⟨by (try simp only [hl5_2]); (try simp only [hl5_7]); (with_reducible repeat (first | apply Kd.R_alloc | apply Kd.R_drewN | apply Kd.R_drew)); exact HO_5.out⟩, ⟨by (try simp only [hl5_2]); (try simp only [hl5_7]); (with_reducible repeat (first | apply Kd.R_alloc | apply Kd.R_drewN | apply Kd.R_drew)); exact HO184.out⟩, ⟨by (try simp only [hl5_2]); (try simp only [hl5_7]); (with_reducible repeat (first | apply Kd.R_alloc | apply Kd.R_drewN | apply Kd.R_drew)); exact Kd.R_mono HO_13.out (fun _ hk => hk.2)⟩, ⟨by (try simp only [hl5_2]); (try simp only [hl5_7]); (with_reducible repeat (first | apply blk_drewN | apply blk_drew | apply blk_alloc)); exact BK144.out⟩, ⟨by (try simp only [hl5_2]); (try simp only [hl5_7]); (with_reducible repeat (first | apply blk_drewN | apply blk_drew | apply blk_alloc)); exact BK158.out⟩, ⟨hbm⟩⟩
                                    ·
                                     rw [if_neg c87] at H
                                     exact absurd H (by simp)
                                   ·
                                    rw [if_neg c85] at H
                                    have c85b0 := decide_eq_false c85
                                    clear c85
                                    have H' := Aside0.mk H
                                    clear H
                                    have p177 : 0 ≤ (x14_7 : Int) := of_decide_eq_true asm_
                                    have q177 : x14_7 < (x13_64.length : Int) := of_decide_eq_true asm_
                                    obtain ⟨ad177, e177, hx177_0⟩ := Kd.at_int (Kd.R_reads' HO_13.out).2.2 x14_7 p177 q177
                                    cases e177
                                    replace p177 := eq_true p177
                                    replace q177 := eq_true q177
                                    have p178 : 0 ≤ ((rd x13_64 x14_7) : Int) := of_decide_eq_true asm_
                                    have q178 : (rd x13_64 x14_7) < (x5_7.length : Int) := of_decide_eq_true asm_
                                    obtain ⟨ad178, e178, hx178_0⟩ := Kd.at_int (Kd.R_reads' HO_5.out).2.2 (rd x13_64 x14_7) p178 q178
                                    obtain rfl : (⟨go15, 0, none⟩ : Addr) = ad178 := (by injection e178)
                                    (first | simp only [add_plain] at hx178_0 | simp only [add_at] at hx178_0 | simp only [Addr.add, Nat.zero_add] at hx178_0 | skip)
                                    replace p178 := eq_true p178
                                    replace q178 := eq_true q178
                                    go_wp2
                                    (try simp only [← hl5_7])
                                    go_roundg kj71
                                    case measure => have := HK1.out; have := HK2.out; have := HJ36.out; have := HJ54.out; have := HJ58.out; have := HJ64.out; have := HK7.out; have := HJ71.out; omega
                                    case rel => exact ⟨(x5_7), (x7_7), (wrap64 (x14_7 + 1)), (by first | rfl | (simp; done) | (simp [*]; done)), H', ⟨by have := HK1.out; have := HK2.out; have := HJ36.out; have := HJ54.out; have := HJ58.out; have := HJ64.out; have := HK7.out; have := HJ71.out; omega⟩, ⟨by (try simp only [hl5_2]); (try simp only [hl5_7]); (with_reducible repeat (first | apply Kd.R_alloc | apply Kd.R_drewN | apply Kd.R_drew)); exact HO_5.out⟩, ⟨by (try simp only [hl5_2]); (try simp only [hl5_7]); (with_reducible repeat (first | apply Kd.R_alloc | apply Kd.R_drewN | apply Kd.R_drew)); exact HO_7.out⟩, ⟨by (try simp only [hl5_2]); (try simp only [hl5_7]); (with_reducible repeat (first | apply Kd.R_alloc | apply Kd.R_drewN | apply Kd.R_drew)); exact HO_13.out⟩, ⟨by (try simp only [hl5_2]); (try simp only [hl5_7]); (with_reducible repeat (first | apply blk_drewN | apply blk_drew | apply blk_alloc)); exact BK144.out⟩, ⟨by (try simp only [hl5_2]); (try simp only [hl5_7]); (with_reducible repeat (first | apply blk_drewN | apply blk_drew | apply blk_alloc)); exact BK158.out⟩, ⟨hbm⟩⟩
                                  ·
                                   rw [if_neg c84] at H
                                   exact absurd H (by simp)
                                 ·
                                  rw [if_neg c83] at H
                                  exact absurd H (by simp)
                                ·
                                 rw [if_neg c82] at H
                                 exact absurd H (by simp)
                               ·
                                rw [if_neg c81] at H
                                exact absurd H (by simp)
                           ·
                            rw [if_neg c71] at H
                            have c71b0 := decide_eq_false c71
                            clear c71
                            have H' := Aside0.mk H
                            clear H
                            obtain ⟨Ao91, co91, eo91⟩ := Kd.R_slice HO_13.out
                            subst eo91
                            go_wp2
                            (try simp only [← hl5_2, ← hl5_7])
                            go_roundg k7
                            case measure => have := HK1.out; have := HK2.out; have := HJ36.out; have := HJ54.out; have := HJ58.out; have := HJ64.out; have := HK7.out; omega
                            case rel => exact ⟨(x5_7), (x7_7), H', ⟨by have := HK1.out; have := HK2.out; have := HJ36.out; have := HJ54.out; have := HJ58.out; have := HJ64.out; have := HK7.out; omega⟩, ⟨by (try simp only [hl5_2]); (try simp only [hl5_7]); (with_reducible repeat (first | apply Kd.R_alloc | apply Kd.R_drewN | apply Kd.R_drew)); exact HO_5.out⟩, ⟨by (try simp only [hl5_2]); (try simp only [hl5_7]); (with_reducible repeat (first | apply Kd.R_alloc | apply Kd.R_drewN | apply Kd.R_drew)); exact Kd.R_mono HO_7.out (fun _ hk => trivial)⟩, ⟨by (try simp only [hl5_2]); (try simp only [hl5_7]); (with_reducible repeat (first | apply blk_drewN | apply blk_drew | apply blk_alloc)); exact BK144.out⟩, ⟨hbm⟩⟩
               ·
                rw [if_neg c28] at H
                exact absurd H (by simp)
              ·
               rw [if_neg c26] at H
               exact absurd H (by simp)
             ·
              rw [if_neg c25] at H
              exact absurd H (by simp)
            ·
             rw [if_neg c24] at H
             exact absurd H (by simp)
           ·
            rw [if_neg c23] at H
            exact absurd H (by simp)
          ·
           rw [if_neg c22] at H
           exact absurd H (by simp)
         ·
          rw [if_neg c20] at H
          have c20b0 : decide (0 < (x7_2.length : Int)) = false := decide_eq_false c20
          have c20b1 : decide (0 < x7_2.length) = false := decide_eq_false (by omega)
          clear c20
          simp only [Option.some.injEq, Prod.mk.injEq] at H
          obtain ⟨rfl, rfl⟩ := H
          obtain ⟨Ao92, co92, eo92⟩ := Kd.R_slice HO_7.out
          subst eo92
          go_wp2
          go_ret2
          exact ⟨_, rfm, by (with_reducible repeat (first | apply Kd.R_alloc | apply Kd.R_drewN | apply Kd.R_drew)); exact HO_5.out, hbm⟩
      ·
       rw [if_neg c14] at H
       exact absurd H (by simp)
  ·
   rw [if_neg c3] at H
   exact absurd H (by simp)
 ·
  rw [if_neg c2] at H
  exact absurd H (by simp)

end Go.Proofs.Ytidlcolgiololaa.S
