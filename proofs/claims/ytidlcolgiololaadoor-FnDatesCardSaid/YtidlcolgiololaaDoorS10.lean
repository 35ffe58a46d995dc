/- Proved: each Go function named here answers as its plain Lean function says, in whatever memory; no condition. Written by a program of this session over the print of the kit. -/
import Derived.Test.YtidlcolgiololaaDoorSq
import Derived.Test.YtidlcolgiololaaDoorS0
import Derived.Test.YtidlcolgiololaaDoorS1
import Derived.Test.YtidlcolgiololaaDoorS2
import Derived.Test.YtidlcolgiololaaDoorS5
import Derived.Test.YtidlcolgiololaaDoorS6
import Derived.Test.YtidlcolgiololaaDoorS7
import Derived.Test.YtidlcolgiololaaDoorS8
import Derived.Test.YtidlcolgiololaaDoorS9
namespace Go.Proofs.YtidlcolgiololaaDoor.S
open Go.RowKit Go.Proofs.YtidlcolgiololaaDoorW.PrintWords Go.Proofs.YtidlcolgiololaaDoorW.PrintLast Go.Proofs.YtidlcolgiololaaDoorW.PrintMore
attribute [local go_sem] max2_int min2_int max_two min_two max_three min_three max_four min_four   -- for this text's walks alone
set_option linter.unusedVariables false
set_option linter.unusedSimpArgs false

attribute [local go_sem high] eqA69 eqA74
/-! ### laws_FnDates: function 8 -/
mutual
def laws_FnDates.j0 : Nat → List Int → List Int → Bool → Option (Bool)
 | 0, _, _, _ => none
 | k + 1, x0, x1, x19 => if x19 = true then (some true) else ((spec_DrawDateOf.f k x0).bind fun t262 => ((impl_DateOf.f k t262).bind fun bt263 => ((spec_DateOf.f k t262).bind fun bt267 => (if (!(bt263.1 == bt267.1) || (!(bt263.2.1 == bt267.2.1) || (!(bt263.2.2 == bt267.2.2)))) = true then (none) else (if t262 ≥ 0 then (laws_FnDates.j1 k x1 t262 (decide (t262 ≤ 36524)) bt263.1 bt263.2.1 bt263.2.2) else (laws_FnDates.j1 k x1 t262 false bt263.1 bt263.2.1 bt263.2.2))))))
def laws_FnDates.j1 : Nat → List Int → Int → Bool → Int → Int → Int → Option (Bool)
 | 0, _, _, _, _, _, _ => none
 | k + 1, x1, x5, x33, x267000, x267001, x267002 => if x33 = true then ((impl_DayOf.f k x267000 x267001 x267002).bind fun bt270 => (if (!(bt270.1 == x5) || (!(bt270.2 == 0))) = true then (laws_FnDates.j2 k x1 x5 true x267000 x267001 x267002) else ((impl_DateText.f k x5).bind fun t272 => ((impl_DateRead.f k t272).bind fun bt273 => (laws_FnDates.j2 k x1 x5 (!(bt273.1 == x5) || (!(bt273.2 == 0))) x267000 x267001 x267002))))) else (laws_FnDates.j6 k x1)
def laws_FnDates.j6 : Nat → List Int → Option (Bool)
 | 0, _ => none
 | k + 1, x1 => (spec_DrawDateRead.f k x1).bind fun t279 => ((impl_DateRead.f k t279).bind fun bt280 => ((spec_DateRead.f k t279).bind fun bt283 => (if (bt280.1 == bt283.1 && (bt280.2 == bt283.2)) = true then (if bt280.2 = 0 then ((impl_DateText.f k bt280.1).bind fun t285 => (some (t285.toList == t279.toList))) else (some true)) else (none))))
def laws_FnDates.j2 : Nat → List Int → Int → Bool → Int → Int → Int → Option (Bool)
 | 0, _, _, _, _, _, _ => none
 | k + 1, x1, x5, x46, x267000, x267001, x267002 => if x46 = true then (none) else ((impl_DateOf.f k (wrap64 (x5 + 1))).bind fun bt275 => (if bt275.1 = x267000 then (if bt275.2.1 = x267001 then (laws_FnDates.j3 k x1 x5 (bt275.2.2 == (wrap64 (x267002 + 1))) x267000 x267001 x267002 bt275.1 bt275.2.1 bt275.2.2) else (laws_FnDates.j3 k x1 x5 false x267000 x267001 x267002 bt275.1 bt275.2.1 bt275.2.2)) else (laws_FnDates.j3 k x1 x5 false x267000 x267001 x267002 bt275.1 bt275.2.1 bt275.2.2)))
def laws_FnDates.j3 : Nat → List Int → Int → Bool → Int → Int → Int → Int → Int → Int → Option (Bool)
 | 0, _, _, _, _, _, _, _, _, _ => none
 | k + 1, x1, x5, x8, x267000, x267001, x267002, x279000, x279001, x279002 => if x279002 = 1 then (if x5 < 36524 then (if x8 = true then (laws_FnDates.j4 k x1 false) else (laws_FnDates.j4 k x1 (!((wrap64 ((wrap64 (12 * x279000)) + x279001)) == (wrap64 ((wrap64 ((wrap64 (12 * x267000)) + x267001)) + 1)))))) else (laws_FnDates.j4 k x1 false)) else (if x5 < 36524 then (if x8 = true then (laws_FnDates.j5 k x1 false) else (laws_FnDates.j5 k x1 (!false))) else (laws_FnDates.j5 k x1 false))
def laws_FnDates.j4 : Nat → List Int → Bool → Option (Bool)
 | 0, _, _ => none
 | k + 1, x1, x98 => if x98 = true then (none) else (laws_FnDates.j6 k x1)
def laws_FnDates.j5 : Nat → List Int → Bool → Option (Bool)
 | 0, _, _ => none
 | k + 1, x1, x98 => if x98 = true then (none) else (laws_FnDates.j6 k x1)
end
def laws_FnDates.f (k : Nat) (l0 : List Int) (l1 : List Int) : Option (Bool) := if (l0.length : Int) > 1048576 then (laws_FnDates.j0 k l0 l1 true) else (laws_FnDates.j0 k l0 l1 (decide ((l1.length : Int) > 1048576)))
theorem laws_FnDates.mono_l : ∀ k, (∀ y0 y1 y2, LeO (laws_FnDates.j0 k y0 y1 y2) (laws_FnDates.j0 (k + 1) y0 y1 y2)) ∧ (∀ y0 y1 y2 y3 y4 y5, LeO (laws_FnDates.j1 k y0 y1 y2 y3 y4 y5) (laws_FnDates.j1 (k + 1) y0 y1 y2 y3 y4 y5)) ∧ (∀ y0, LeO (laws_FnDates.j6 k y0) (laws_FnDates.j6 (k + 1) y0)) ∧ (∀ y0 y1 y2 y3 y4 y5, LeO (laws_FnDates.j2 k y0 y1 y2 y3 y4 y5) (laws_FnDates.j2 (k + 1) y0 y1 y2 y3 y4 y5)) ∧ (∀ y0 y1 y2 y3 y4 y5 y6 y7 y8, LeO (laws_FnDates.j3 k y0 y1 y2 y3 y4 y5 y6 y7 y8) (laws_FnDates.j3 (k + 1) y0 y1 y2 y3 y4 y5 y6 y7 y8)) ∧ (∀ y0 y1, LeO (laws_FnDates.j4 k y0 y1) (laws_FnDates.j4 (k + 1) y0 y1)) ∧ (∀ y0 y1, LeO (laws_FnDates.j5 k y0 y1) (laws_FnDates.j5 (k + 1) y0 y1))
 | 0 => ⟨fun _ _ _ r h => by simp [laws_FnDates.j0] at h, fun _ _ _ _ _ _ r h => by simp [laws_FnDates.j1] at h, fun _ r h => by simp [laws_FnDates.j6] at h, fun _ _ _ _ _ _ r h => by simp [laws_FnDates.j2] at h, fun _ _ _ _ _ _ _ _ _ r h => by simp [laws_FnDates.j3] at h, fun _ _ r h => by simp [laws_FnDates.j4] at h, fun _ _ r h => by simp [laws_FnDates.j5] at h⟩
 | k + 1 => by
  obtain ⟨ih0, ih1, ih2, ih3, ih4, ih5, ih6⟩ := laws_FnDates.mono_l k
  refine ⟨?_, ?_, ?_, ?_, ?_, ?_, ?_⟩
  ·
   intro y0 y1 y2
   unfold laws_FnDates.j0
   repeat' first
   | (with_reducible exact ih0 _ _ _)
   | (with_reducible exact ih1 _ _ _ _ _ _)
   | (with_reducible exact ih2 _)
   | (with_reducible exact ih3 _ _ _ _ _ _)
   | (with_reducible exact ih4 _ _ _ _ _ _ _ _ _)
   | (with_reducible exact ih5 _ _)
   | (with_reducible exact ih6 _ _)
   | (with_reducible exact impl_DateOf.mono _ _)
   | (with_reducible exact impl_DateRead.mono _ _)
   | (with_reducible exact impl_DateText.mono _ _)
   | (with_reducible exact impl_DayOf.mono _ _ _ _)
   | (with_reducible exact spec_DateOf.mono _ _)
   | (with_reducible exact spec_DateRead.mono _ _)
   | (with_reducible exact spec_DrawDateOf.mono _ _)
   | (with_reducible exact spec_DrawDateRead.mono _ _)
   | (with_reducible exact LeO.refl _)
   | (with_reducible exact LeO.none _)
   | (with_reducible refine LeO.ite ?_ ?_)
   | (with_reducible refine LeO.bind ?_ (fun _ => ?_))
   | exact ih0 _ _ _
   | exact ih1 _ _ _ _ _ _
   | exact ih2 _
   | exact ih3 _ _ _ _ _ _
   | exact ih4 _ _ _ _ _ _ _ _ _
   | exact ih5 _ _
   | exact ih6 _ _
   | exact impl_DateOf.mono _ _
   | exact impl_DateRead.mono _ _
   | exact impl_DateText.mono _ _
   | exact impl_DayOf.mono _ _ _ _
   | exact spec_DateOf.mono _ _
   | exact spec_DateRead.mono _ _
   | exact spec_DrawDateOf.mono _ _
   | exact spec_DrawDateRead.mono _ _
   | exact LeO.none _
   | refine LeO.ite ?_ ?_
   | refine LeO.bind ?_ (fun _ => ?_)
  ·
   intro y0 y1 y2 y3 y4 y5
   unfold laws_FnDates.j1
   repeat' first
   | (with_reducible exact ih0 _ _ _)
   | (with_reducible exact ih1 _ _ _ _ _ _)
   | (with_reducible exact ih2 _)
   | (with_reducible exact ih3 _ _ _ _ _ _)
   | (with_reducible exact ih4 _ _ _ _ _ _ _ _ _)
   | (with_reducible exact ih5 _ _)
   | (with_reducible exact ih6 _ _)
   | (with_reducible exact impl_DateOf.mono _ _)
   | (with_reducible exact impl_DateRead.mono _ _)
   | (with_reducible exact impl_DateText.mono _ _)
   | (with_reducible exact impl_DayOf.mono _ _ _ _)
   | (with_reducible exact spec_DateOf.mono _ _)
   | (with_reducible exact spec_DateRead.mono _ _)
   | (with_reducible exact spec_DrawDateOf.mono _ _)
   | (with_reducible exact spec_DrawDateRead.mono _ _)
   | (with_reducible exact LeO.refl _)
   | (with_reducible exact LeO.none _)
   | (with_reducible refine LeO.ite ?_ ?_)
   | (with_reducible refine LeO.bind ?_ (fun _ => ?_))
   | exact ih0 _ _ _
   | exact ih1 _ _ _ _ _ _
   | exact ih2 _
   | exact ih3 _ _ _ _ _ _
   | exact ih4 _ _ _ _ _ _ _ _ _
   | exact ih5 _ _
   | exact ih6 _ _
   | exact impl_DateOf.mono _ _
   | exact impl_DateRead.mono _ _
   | exact impl_DateText.mono _ _
   | exact impl_DayOf.mono _ _ _ _
   | exact spec_DateOf.mono _ _
   | exact spec_DateRead.mono _ _
   | exact spec_DrawDateOf.mono _ _
   | exact spec_DrawDateRead.mono _ _
   | exact LeO.none _
   | refine LeO.ite ?_ ?_
   | refine LeO.bind ?_ (fun _ => ?_)
  ·
   intro y0
   unfold laws_FnDates.j6
   repeat' first
   | (with_reducible exact ih0 _ _ _)
   | (with_reducible exact ih1 _ _ _ _ _ _)
   | (with_reducible exact ih2 _)
   | (with_reducible exact ih3 _ _ _ _ _ _)
   | (with_reducible exact ih4 _ _ _ _ _ _ _ _ _)
   | (with_reducible exact ih5 _ _)
   | (with_reducible exact ih6 _ _)
   | (with_reducible exact impl_DateOf.mono _ _)
   | (with_reducible exact impl_DateRead.mono _ _)
   | (with_reducible exact impl_DateText.mono _ _)
   | (with_reducible exact impl_DayOf.mono _ _ _ _)
   | (with_reducible exact spec_DateOf.mono _ _)
   | (with_reducible exact spec_DateRead.mono _ _)
   | (with_reducible exact spec_DrawDateOf.mono _ _)
   | (with_reducible exact spec_DrawDateRead.mono _ _)
   | (with_reducible exact LeO.refl _)
   | (with_reducible exact LeO.none _)
   | (with_reducible refine LeO.ite ?_ ?_)
   | (with_reducible refine LeO.bind ?_ (fun _ => ?_))
   | exact ih0 _ _ _
   | exact ih1 _ _ _ _ _ _
   | exact ih2 _
   | exact ih3 _ _ _ _ _ _
   | exact ih4 _ _ _ _ _ _ _ _ _
   | exact ih5 _ _
   | exact ih6 _ _
   | exact impl_DateOf.mono _ _
   | exact impl_DateRead.mono _ _
   | exact impl_DateText.mono _ _
   | exact impl_DayOf.mono _ _ _ _
   | exact spec_DateOf.mono _ _
   | exact spec_DateRead.mono _ _
   | exact spec_DrawDateOf.mono _ _
   | exact spec_DrawDateRead.mono _ _
   | exact LeO.none _
   | refine LeO.ite ?_ ?_
   | refine LeO.bind ?_ (fun _ => ?_)
  ·
   intro y0 y1 y2 y3 y4 y5
   unfold laws_FnDates.j2
   repeat' first
   | (with_reducible exact ih0 _ _ _)
   | (with_reducible exact ih1 _ _ _ _ _ _)
   | (with_reducible exact ih2 _)
   | (with_reducible exact ih3 _ _ _ _ _ _)
   | (with_reducible exact ih4 _ _ _ _ _ _ _ _ _)
   | (with_reducible exact ih5 _ _)
   | (with_reducible exact ih6 _ _)
   | (with_reducible exact impl_DateOf.mono _ _)
   | (with_reducible exact impl_DateRead.mono _ _)
   | (with_reducible exact impl_DateText.mono _ _)
   | (with_reducible exact impl_DayOf.mono _ _ _ _)
   | (with_reducible exact spec_DateOf.mono _ _)
   | (with_reducible exact spec_DateRead.mono _ _)
   | (with_reducible exact spec_DrawDateOf.mono _ _)
   | (with_reducible exact spec_DrawDateRead.mono _ _)
   | (with_reducible exact LeO.refl _)
   | (with_reducible exact LeO.none _)
   | (with_reducible refine LeO.ite ?_ ?_)
   | (with_reducible refine LeO.bind ?_ (fun _ => ?_))
   | exact ih0 _ _ _
   | exact ih1 _ _ _ _ _ _
   | exact ih2 _
   | exact ih3 _ _ _ _ _ _
   | exact ih4 _ _ _ _ _ _ _ _ _
   | exact ih5 _ _
   | exact ih6 _ _
   | exact impl_DateOf.mono _ _
   | exact impl_DateRead.mono _ _
   | exact impl_DateText.mono _ _
   | exact impl_DayOf.mono _ _ _ _
   | exact spec_DateOf.mono _ _
   | exact spec_DateRead.mono _ _
   | exact spec_DrawDateOf.mono _ _
   | exact spec_DrawDateRead.mono _ _
   | exact LeO.none _
   | refine LeO.ite ?_ ?_
   | refine LeO.bind ?_ (fun _ => ?_)
  ·
   intro y0 y1 y2 y3 y4 y5 y6 y7 y8
   unfold laws_FnDates.j3
   repeat' first
   | (with_reducible exact ih0 _ _ _)
   | (with_reducible exact ih1 _ _ _ _ _ _)
   | (with_reducible exact ih2 _)
   | (with_reducible exact ih3 _ _ _ _ _ _)
   | (with_reducible exact ih4 _ _ _ _ _ _ _ _ _)
   | (with_reducible exact ih5 _ _)
   | (with_reducible exact ih6 _ _)
   | (with_reducible exact impl_DateOf.mono _ _)
   | (with_reducible exact impl_DateRead.mono _ _)
   | (with_reducible exact impl_DateText.mono _ _)
   | (with_reducible exact impl_DayOf.mono _ _ _ _)
   | (with_reducible exact spec_DateOf.mono _ _)
   | (with_reducible exact spec_DateRead.mono _ _)
   | (with_reducible exact spec_DrawDateOf.mono _ _)
   | (with_reducible exact spec_DrawDateRead.mono _ _)
   | (with_reducible exact LeO.refl _)
   | (with_reducible exact LeO.none _)
   | (with_reducible refine LeO.ite ?_ ?_)
   | (with_reducible refine LeO.bind ?_ (fun _ => ?_))
   | exact ih0 _ _ _
   | exact ih1 _ _ _ _ _ _
   | exact ih2 _
   | exact ih3 _ _ _ _ _ _
   | exact ih4 _ _ _ _ _ _ _ _ _
   | exact ih5 _ _
   | exact ih6 _ _
   | exact impl_DateOf.mono _ _
   | exact impl_DateRead.mono _ _
   | exact impl_DateText.mono _ _
   | exact impl_DayOf.mono _ _ _ _
   | exact spec_DateOf.mono _ _
   | exact spec_DateRead.mono _ _
   | exact spec_DrawDateOf.mono _ _
   | exact spec_DrawDateRead.mono _ _
   | exact LeO.none _
   | refine LeO.ite ?_ ?_
   | refine LeO.bind ?_ (fun _ => ?_)
  ·
   intro y0 y1
   unfold laws_FnDates.j4
   repeat' first
   | (with_reducible exact ih0 _ _ _)
   | (with_reducible exact ih1 _ _ _ _ _ _)
   | (with_reducible exact ih2 _)
   | (with_reducible exact ih3 _ _ _ _ _ _)
   | (with_reducible exact ih4 _ _ _ _ _ _ _ _ _)
   | (with_reducible exact ih5 _ _)
   | (with_reducible exact ih6 _ _)
   | (with_reducible exact impl_DateOf.mono _ _)
   | (with_reducible exact impl_DateRead.mono _ _)
   | (with_reducible exact impl_DateText.mono _ _)
   | (with_reducible exact impl_DayOf.mono _ _ _ _)
   | (with_reducible exact spec_DateOf.mono _ _)
   | (with_reducible exact spec_DateRead.mono _ _)
   | (with_reducible exact spec_DrawDateOf.mono _ _)
   | (with_reducible exact spec_DrawDateRead.mono _ _)
   | (with_reducible exact LeO.refl _)
   | (with_reducible exact LeO.none _)
   | (with_reducible refine LeO.ite ?_ ?_)
   | (with_reducible refine LeO.bind ?_ (fun _ => ?_))
   | exact ih0 _ _ _
   | exact ih1 _ _ _ _ _ _
   | exact ih2 _
   | exact ih3 _ _ _ _ _ _
   | exact ih4 _ _ _ _ _ _ _ _ _
   | exact ih5 _ _
   | exact ih6 _ _
   | exact impl_DateOf.mono _ _
   | exact impl_DateRead.mono _ _
   | exact impl_DateText.mono _ _
   | exact impl_DayOf.mono _ _ _ _
   | exact spec_DateOf.mono _ _
   | exact spec_DateRead.mono _ _
   | exact spec_DrawDateOf.mono _ _
   | exact spec_DrawDateRead.mono _ _
   | exact LeO.none _
   | refine LeO.ite ?_ ?_
   | refine LeO.bind ?_ (fun _ => ?_)
  ·
   intro y0 y1
   unfold laws_FnDates.j5
   repeat' first
   | (with_reducible exact ih0 _ _ _)
   | (with_reducible exact ih1 _ _ _ _ _ _)
   | (with_reducible exact ih2 _)
   | (with_reducible exact ih3 _ _ _ _ _ _)
   | (with_reducible exact ih4 _ _ _ _ _ _ _ _ _)
   | (with_reducible exact ih5 _ _)
   | (with_reducible exact ih6 _ _)
   | (with_reducible exact impl_DateOf.mono _ _)
   | (with_reducible exact impl_DateRead.mono _ _)
   | (with_reducible exact impl_DateText.mono _ _)
   | (with_reducible exact impl_DayOf.mono _ _ _ _)
   | (with_reducible exact spec_DateOf.mono _ _)
   | (with_reducible exact spec_DateRead.mono _ _)
   | (with_reducible exact spec_DrawDateOf.mono _ _)
   | (with_reducible exact spec_DrawDateRead.mono _ _)
   | (with_reducible exact LeO.refl _)
   | (with_reducible exact LeO.none _)
   | (with_reducible refine LeO.ite ?_ ?_)
   | (with_reducible refine LeO.bind ?_ (fun _ => ?_))
   | exact ih0 _ _ _
   | exact ih1 _ _ _ _ _ _
   | exact ih2 _
   | exact ih3 _ _ _ _ _ _
   | exact ih4 _ _ _ _ _ _ _ _ _
   | exact ih5 _ _
   | exact ih6 _ _
   | exact impl_DateOf.mono _ _
   | exact impl_DateRead.mono _ _
   | exact impl_DateText.mono _ _
   | exact impl_DayOf.mono _ _ _ _
   | exact spec_DateOf.mono _ _
   | exact spec_DateRead.mono _ _
   | exact spec_DrawDateOf.mono _ _
   | exact spec_DrawDateRead.mono _ _
   | exact LeO.none _
   | refine LeO.ite ?_ ?_
   | refine LeO.bind ?_ (fun _ => ?_)
theorem laws_FnDates.mono : ∀ a0 a1 k, LeO (laws_FnDates.f k a0 a1) (laws_FnDates.f (k + 1) a0 a1) := by
 intro a0 a1 k
 obtain ⟨ih0, ih1, ih2, ih3, ih4, ih5, ih6⟩ := laws_FnDates.mono_l k
 unfold laws_FnDates.f
 repeat' first
   | (with_reducible exact ih0 _ _ _)
   | (with_reducible exact ih1 _ _ _ _ _ _)
   | (with_reducible exact ih2 _)
   | (with_reducible exact ih3 _ _ _ _ _ _)
   | (with_reducible exact ih4 _ _ _ _ _ _ _ _ _)
   | (with_reducible exact ih5 _ _)
   | (with_reducible exact ih6 _ _)
   | (with_reducible exact impl_DateOf.mono _ _)
   | (with_reducible exact impl_DateRead.mono _ _)
   | (with_reducible exact impl_DateText.mono _ _)
   | (with_reducible exact impl_DayOf.mono _ _ _ _)
   | (with_reducible exact spec_DateOf.mono _ _)
   | (with_reducible exact spec_DateRead.mono _ _)
   | (with_reducible exact spec_DrawDateOf.mono _ _)
   | (with_reducible exact spec_DrawDateRead.mono _ _)
   | (with_reducible exact LeO.refl _)
   | (with_reducible exact LeO.none _)
   | (with_reducible refine LeO.ite ?_ ?_)
   | (with_reducible refine LeO.bind ?_ (fun _ => ?_))
   | exact ih0 _ _ _
   | exact ih1 _ _ _ _ _ _
   | exact ih2 _
   | exact ih3 _ _ _ _ _ _
   | exact ih4 _ _ _ _ _ _ _ _ _
   | exact ih5 _ _
   | exact ih6 _ _
   | exact impl_DateOf.mono _ _
   | exact impl_DateRead.mono _ _
   | exact impl_DateText.mono _ _
   | exact impl_DayOf.mono _ _ _ _
   | exact spec_DateOf.mono _ _
   | exact spec_DateRead.mono _ _
   | exact spec_DrawDateOf.mono _ _
   | exact spec_DrawDateRead.mono _ _
   | exact LeO.none _
   | refine LeO.ite ?_ ?_
   | refine LeO.bind ?_ (fun _ => ?_)
def laws_FnDates.T17 : Bool × List (List Nat × List Nat) := (true, [([], []), ([], []), ([1], [1]), ([0, 2], [0, 2]), ([3, 2], [3]), ([4], [4]), ([5, 4], [4, 5]), ([6, 4], [4, 6]), ([7, 4, 4], [4, 7]), ([8], [8]), ([9, 8], [8, 9]), ([10, 8, 8], [8, 10]), ([8], [8]), ([11, 12, 8], [8, 11, 12]), ([8, 13, 4], [4, 8, 13]), ([4, 14], [4, 14]), ([15, 11, 0, 1, 2, 3, 4, 5, 6, 7, 8, 9, 10, 11, 12, 13, 14, 15], [15])])
def laws_FnDates.B17 : List Nat := [0, 0, 2, 7, 15, 31, 63, 127, 255, 511, 1023, 2047, 511, 8191, 16383, 32767, 65535]
theorem laws_FnDates.tab17 : rtab .any (opsOf Tryd.f8 17) = laws_FnDates.T17 := by kernel_rfl
theorem laws_FnDates.bits17 : waitsOk laws_FnDates.T17.2 laws_FnDates.B17 = true := by kernel_rfl
set_option maxHeartbeats 8000000 in
set_option maxRecDepth 100000 in
theorem laws_FnDates.calls (k : Nat) (A0 : Option Addr) (c0 : Nat) (l0 : List Int) (A1 : Option Addr) (c1 : Nat) (l1 : List Int) (r : Bool) (w : World) (hr0 : Kd.C (Kd.int .u8) w A0 l0.length l0) (hc0 : l0.length ≤ c0) (hr1 : Kd.C (Kd.int .u8) w A1 l1.length l1) (hc1 : l1.length ≤ c1) (hLd : Ld w) (h : laws_FnDates.f k l0 l1 = some r) :
  Calls Tryd.prog 8 #[.slice A0 l0.length c0, .slice A1 l1.length c1] w fun e w' => e = .returned (.bool r) ∧ Below w.heap.size w w' := by
 have HLd := Aside0.mk hLd
 clear hLd
 have hu74 := Tryd.underlying74
 have hu69 := Tryd.underlying69
 have HR0 := Aside0.mk hr0
 have HC0 := Aside0.mk hc0
 clear hr0 hc0
 have HR1 := Aside0.mk hr1
 have HC1 := Aside0.mk hc1
 clear hr1 hc1
 have HB := Aside0.mk (Below.refl w.heap.size w)
 have H : (if (l0.length : Int) > 1048576 then (laws_FnDates.j0 k l0 l1 true) else (laws_FnDates.j0 k l0 l1 (decide ((l1.length : Int) > 1048576)))) = some r := h
 clear h
 have HC3 := Aside0.mk H
 clear H
 go_enter Tryd.func8, Tryd.ntmps8
 go_upto_region 1 with (fail)
 go_cut [19] (fun v19 wc => ∃ (kq : Nat) (x19_2 : Bool), v19 = .bool x19_2 ∧ Aside0 (laws_FnDates.j0 kq l0 l1 x19_2 = some r) ∧ Aside0 (kq ≤ k) ∧ Aside0 (Below w.heap.size w wc))
 case first =>
  have H := HC3.out
  clear HC3
  by_cases c4 : (l0.length : Int) > 1048576
  ·
   rw [if_pos c4] at H
   have c4b0 : decide (1048576 < (l0.length : Int)) = true := decide_eq_true c4
   have c4b1 : decide (1048576 < l0.length) = true := decide_eq_true (by omega)
   clear c4
   (first | rw [c4b0] | (simp only [i64_w, i32_w]; rw [c4b0]) | skip)
   have H' := Aside0.mk H
   clear H
   go_wp2
   go_meet
   case rel => exact ⟨_, (true), (by first | rfl | (simp; done) | (simp [*]; done)), H', ⟨by first | omega | exact Nat.le_refl _⟩, ⟨hbm⟩⟩
  ·
   rw [if_neg c4] at H
   have c4b0 : decide (1048576 < (l0.length : Int)) = false := decide_eq_false c4
   have c4b1 : decide (1048576 < l0.length) = false := decide_eq_false (by omega)
   clear c4
   (first | rw [c4b0] | (simp only [i64_w, i32_w]; rw [c4b0]) | skip)
   have H' := Aside0.mk H
   clear H
   go_wp2
   go_meet
   case rel => exact ⟨_, (decide ((l1.length : Int) > 1048576)), (by first | rfl | (simp; done) | (simp [*]; done)), H', ⟨by first | omega | exact Nat.le_refl _⟩, ⟨hbm⟩⟩
 case rest =>
  clear HC3
  try clear c1; try clear p2; try clear c4; try clear c4b0; try clear c4b1
  obtain ⟨kq, x19_2, rfl, HA, HJ2, HB⟩ := hcut
  cases kq with
  | zero => exact absurd HA.out (by simp [laws_FnDates.j0])
  | succ kj2 =>
   have H := HA.out
   clear HA
   simp only [laws_FnDates.j0] at H
   by_cases c5 : x19_2 = true
   ·
    subst c5
    have H1 : (some true) = some r := by rw [if_pos rfl] at H; exact H
    clear H
    have H := H1
    clear H1
    obtain rfl := Option.some.inj H
    go_wp2
    go_ret
    exact ⟨rfm, hbm⟩
   ·
    replace c5 := Bool.eq_false_iff.mpr c5
    subst c5
    have H1 : ((spec_DrawDateOf.f kj2 l0).bind fun t262 => ((impl_DateOf.f kj2 t262).bind fun bt263 => ((spec_DateOf.f kj2 t262).bind fun bt267 => (if (!(bt263.1 == bt267.1) || (!(bt263.2.1 == bt267.2.1) || (!(bt263.2.2 == bt267.2.2)))) = true then (none) else (if t262 ≥ 0 then (laws_FnDates.j1 kj2 l1 t262 (decide (t262 ≤ 36524)) bt263.1 bt263.2.1 bt263.2.2) else (laws_FnDates.j1 kj2 l1 t262 false bt263.1 bt263.2.1 bt263.2.2)))))) = some r := by rw [if_neg (show ¬ (false = true) by decide)] at H; exact H
    clear H
    have H := H1
    clear H1
    replace H := Option.bind_eq_some_iff.mp H
    obtain ⟨t262, A60, H⟩ := H
    (try dsimp only at H)
    have A6 := Aside0.mk A60
    clear A60
    replace H := Option.bind_eq_some_iff.mp H
    obtain ⟨⟨t263, t264, t265⟩, A70, H⟩ := H
    (try dsimp only at H)
    have A7 := Aside0.mk A70
    clear A70
    replace H := Option.bind_eq_some_iff.mp H
    obtain ⟨⟨t267, t268, t269⟩, A80, H⟩ := H
    (try dsimp only at H)
    have A8 := Aside0.mk A80
    clear A80
    by_cases c9 : (!(t263 == t267) || (!(t264 == t268) || (!(t265 == t269)))) = true
    ·
     rw [if_pos c9] at H
     exact absurd H (by simp)
    ·
     rw [if_neg c9] at H
     have c9b0 : (!(t263 == t267) || (!(t264 == t268) || (!(t265 == t269)))) = false := by simpa using c9
     clear c9
     have HC10 := Aside0.mk H
     clear H
     try go_wp2_with (first | ((with_reducible refine gate_callee (f := 39) rfl ?_); refine goesL_ (some 21) rfl rfl Tryd.func39 (by kernel_rfl) rfl #[.slice A0 l0.length c0] rfl glm ?_; (with_reducible refine (spec_DrawDateOf.calls kj2 _ _ l0 t262 _ ?side1 ?side2 A6.out).mono ?_); (case side1 => exact csb (Kd.C_below HR0.out HB.out)); (case side2 => exact HC0.out); rintro e w11 ⟨rfl, hb⟩; refine ⟨_, rfl, ?_⟩; have n0_ := bst hb; clear HB; have HB := n0_; clear n0_; (try clear hb); (try clear hb2); (try clear hk); (try clear hi)) | ((with_reducible refine gate_callee (f := 40) rfl ?_); refine goesL_ (some 23) rfl rfl Tryd.func40 (by kernel_rfl) rfl #[.int .i64 t262] rfl glm ?_; (with_reducible refine (impl_DateOf.calls kj2 t262 t263 t264 t265 _ A7.out).mono ?_); rintro e w12 ⟨rfl, hb⟩; refine ⟨_, rfl, ?_⟩; have n0_ := bst hb; clear HB; have HB := n0_; clear n0_; (try clear hb); (try clear hb2); (try clear hk); (try clear hi)) | ((with_reducible refine gate_dst (N := 6) rfl ?_); (try (refine gate_guard (by rfl) ?_; dsimp only)); refine bxe (N := 6) (cs := #[.int .i64 0, .int .i64 0, .int .i64 0]) (t := 74) ?_; intro gb266 hg w13 hbox hb; have n0_ := bst hb; have n1_ := Aside0.mk (hbox); have n2_ := (bsz hg : Aside0 (w.heap.size ≤ gb266)); have n3_ := n2_; clear HB; have HB := n0_; have BK266 := n1_; have GW266 := n2_; have GE266 := n3_; clear n0_ n1_ n2_ n3_; clear hb hbox hg; obtain ⟨hcz14_0, hcz14_1, hcz14_2, hfz14_0, hfz14_1, hfz14_2⟩ := bc3 BK266.out))
     have n0_ : Aside0 ((((w13.setCell ⟨gb266, 0, none⟩ (.int .i64 t263)).setCell ⟨gb266, 1, none⟩ (.int .i64 t264)).setCell ⟨gb266, 2, none⟩ (.int .i64 t265)).heap[gb266]? = some (.cells #[.int .i64 t263, .int .i64 t264, .int .i64 t265] 74 (0, 0))) := ⟨by (with_reducible repeat (first | apply blk_drewN | apply blk_drew | apply blk_alloc)); refine blk_put (cs := #[.int .i64 t263, .int .i64 t264, .int .i64 0]) ?_ 2 _ rfl; (with_reducible repeat (first | apply blk_drewN | apply blk_drew | apply blk_alloc)); refine blk_put (cs := #[.int .i64 t263, .int .i64 0, .int .i64 0]) ?_ 1 _ rfl; (with_reducible repeat (first | apply blk_drewN | apply blk_drew | apply blk_alloc)); refine blk_put (cs := #[.int .i64 0, .int .i64 0, .int .i64 0]) ?_ 0 _ rfl; (with_reducible repeat (first | apply blk_drewN | apply blk_drew | apply blk_alloc)); exact BK266.out⟩
     have n1_ : Aside0 (Below w.heap.size w (((w13.setCell ⟨gb266, 0, none⟩ (.int .i64 t263)).setCell ⟨gb266, 1, none⟩ (.int .i64 t264)).setCell ⟨gb266, 2, none⟩ (.int .i64 t265))) := ⟨hbm⟩
     (try clear BK266)
     (try clear HB)
     generalize (((w13.setCell ⟨gb266, 0, none⟩ (.int .i64 t263)).setCell ⟨gb266, 1, none⟩ (.int .i64 t264)).setCell ⟨gb266, 2, none⟩ (.int .i64 t265)) = w15 at n0_ n1_ ⊢
     have BK266 := n0_
     have HB := n1_
     clear n0_ n1_
     have n0_ := Aside0.mk (blk_drew BK266.out)
     have n1_ := Aside0.mk (below_drew1 HB.out)
     clear BK266
     clear HB
     have BK266 := n0_
     have HB := n1_
     clear n0_ n1_
     refine start_ (n := 4) (S := fun w' => w'.cell? ⟨gb266, 0, none⟩ = some (.int .i64 t263) ∧ w'.cell? ⟨gb266, 1, none⟩ = some (.int .i64 t264) ∧ w'.cell? ⟨gb266, 2, none⟩ = some (.int .i64 t265)) (ds := []) #[false, false, false, false] (by kernel_rfl) rfl rfl ⟨(blk_cell BK266.out 0).trans rfl, (blk_cell BK266.out 1).trans rfl, (blk_cell BK266.out 2).trans rfl⟩ (fun hHeld => ?_)
     generalize w15.drew = w16 at BK266 HB hHeld ⊢
     refine pur (i := 1) (N := some 25) #[false, true, false, false] (by kernel_rfl) ?_
     refine tak3 (i := 0) (N := some 24) #[true, true, false, false] (by kernel_rfl) hHeld ?_
     refine one_ (i := 2) (N := some 26) #[true, true, true, false] rfl rfl (by kernel_rfl) (by decide) (fun K hK => ?_)
     refine goes_ Tryd.func41 (by kernel_rfl) rfl #[.int .i64 t262] (by rfl) rfl rfl glm ?_
     with_reducible refine (spec_DateOf.calls kj2 t262 t267 t268 t269 _ A8.out).mono ?_
     rintro e w17 ⟨rfl, hb⟩
     refine ⟨_, rfl, ?_⟩
     have n0_ := bkb BK266 hb
     have n1_ := bst hb
     clear BK266
     clear HB
     have BK266 := n0_
     have HB := n1_
     clear n0_ n1_
     (try clear hb)
     (try clear hb2)
     (try clear hk)
     (try clear hi)
     refine hK.out _ _ ⟨(blk_cell BK266.out 0).trans rfl, (blk_cell BK266.out 1).trans rfl, (blk_cell BK266.out 2).trans rfl⟩ (fun hHeld => ?_)
     clear hK K
     refine norm_ (a' := ?_) ?_ ?_
     rotate_left
     ·
      show Act.put _ (some 26) _ = _
      simp only [Act.put, List.setIfInBounds_toArray, List.set_cons_zero, List.set_cons_succ, i64_w, i32_w]
      rfl
     refine pur (i := 3) (N := some 27) #[true, true, true, true] (by kernel_rfl) ?_
     refine done_ (by kernel_rfl) ?_
     go_upto_region 7 with (fail)
     go_cut [33] (fun v33 wc => ∃ (kq : Nat) (x33_9 : Bool), v33 = .bool x33_9 ∧ Aside0 (laws_FnDates.j1 kq l1 t262 x33_9 t263 t264 t265 = some r) ∧ Aside0 (kq ≤ kj2) ∧ Aside0 (wc.heap[gb266]? = some (.cells #[.int .i64 t263, .int .i64 t264, .int .i64 t265] 74 (0, 0))) ∧ Aside0 (Below w.heap.size w wc))
     case first =>
      have H := HC10.out
      clear HC10
      by_cases c18 : t262 ≥ 0
      ·
       rw [if_pos c18] at H
       have c18b0 : decide (0 ≤ t262) = true := decide_eq_true c18
       clear c18
       (first | rw [c18b0] | (simp only [i64_w, i32_w]; rw [c18b0]) | skip)
       have H' := Aside0.mk H
       clear H
       go_wp2
       go_meet
       case rel => exact ⟨_, (decide (t262 ≤ 36524)), (by first | rfl | (simp; done) | (simp [*]; done)), H', ⟨by have := HJ2.out; first | omega | exact Nat.le_refl _⟩, ⟨by (with_reducible repeat (first | apply blk_drewN | apply blk_drew | apply blk_alloc)); exact BK266.out⟩, ⟨hbm⟩⟩
      ·
       rw [if_neg c18] at H
       have c18b0 : decide (0 ≤ t262) = false := decide_eq_false c18
       clear c18
       (first | rw [c18b0] | (simp only [i64_w, i32_w]; rw [c18b0]) | skip)
       have H' := Aside0.mk H
       clear H
       go_wp2
       go_meet
       case rel => exact ⟨_, (false), (by first | rfl | (simp; done) | (simp [*]; done)), H', ⟨by have := HJ2.out; first | omega | exact Nat.le_refl _⟩, ⟨by (with_reducible repeat (first | apply blk_drewN | apply blk_drew | apply blk_alloc)); exact BK266.out⟩, ⟨hbm⟩⟩
     case rest =>
      clear HC10
      try clear c1; try clear p2 p2; try clear c3; try clear c4; try clear c4b0; try clear c4b1; try clear c5; try clear c8; try clear c9; try clear c9b0; try clear c18; try clear c18b0; try clear hcz14_0 hcz14_1 hcz14_2 hfz14_0 hfz14_1 hfz14_2
      obtain ⟨kq, x33_9, rfl, HA, HJ9, BK266, HB⟩ := hcut
      cases kq with
      | zero => exact absurd HA.out (by simp [laws_FnDates.j1])
      | succ kj9 =>
       have H := HA.out
       clear HA
       simp only [laws_FnDates.j1] at H
       have HC19 := Aside0.mk H
       clear H
       go_upto_if 33 with (fail)
       go_cut [] (fun wc => ∃ (kq : Nat), Aside0 (laws_FnDates.j6 kq l1 = some r) ∧ Aside0 (kq ≤ kj9) ∧ Aside0 (wc.heap[gb266]? = some (.cells #[.int .i64 t263, .int .i64 t264, .int .i64 t265] 74 (0, 0))) ∧ Aside0 (Below w.heap.size w wc))
       case first =>
        have H := HC19.out
        clear HC19
        by_cases c20 : x33_9 = true
        ·
         subst c20
         have H1 : ((impl_DayOf.f kj9 t263 t264 t265).bind fun bt270 => (if (!(bt270.1 == t262) || (!(bt270.2 == 0))) = true then (laws_FnDates.j2 kj9 l1 t262 true t263 t264 t265) else ((impl_DateText.f kj9 t262).bind fun t272 => ((impl_DateRead.f kj9 t272).bind fun bt273 => (laws_FnDates.j2 kj9 l1 t262 (!(bt273.1 == t262) || (!(bt273.2 == 0))) t263 t264 t265))))) = some r := by rw [if_pos rfl] at H; exact H
         clear H
         have H := H1
         clear H1
         have HC21 := Aside0.mk H
         clear H
         go_upto_region 8 with (fail)
         go_cut [46] (fun v46 wc => ∃ (kq : Nat) (x46_20 : Bool), v46 = .bool x46_20 ∧ Aside0 (laws_FnDates.j2 kq l1 t262 x46_20 t263 t264 t265 = some r) ∧ Aside0 (kq ≤ kj9) ∧ Aside0 (wc.heap[gb266]? = some (.cells #[.int .i64 t263, .int .i64 t264, .int .i64 t265] 74 (0, 0))) ∧ Aside0 (Below w.heap.size w wc))
         case first =>
          have H := HC21.out
          clear HC21
          replace H := Option.bind_eq_some_iff.mp H
          obtain ⟨⟨t270, t271⟩, A220, H⟩ := H
          (try dsimp only at H)
          have A22 := Aside0.mk A220
          clear A220
          by_cases c23 : (!(t270 == t262) || (!(t271 == 0))) = true
          ·
           rw [if_pos c23] at H
           have c23b0 : (!(t270 == t262) || (!(t271 == 0))) = true := c23
           clear c23
           (first | rw [c23b0] | (simp only [i64_w, i32_w]; rw [c23b0]) | skip)
           have H' := Aside0.mk H
           clear H
           obtain ⟨hcz24_0, hcz24_1, hcz24_2, hfz24_0, hfz24_1, hfz24_2⟩ := bc3 BK266.out
           go_wp2_with (first | ((with_reducible refine gate_callee (f := 42) rfl ?_); refine goesL_ (some 35) rfl rfl Tryd.func42 (by kernel_rfl) rfl #[.agg #[.int .i64 t263, .int .i64 t264, .int .i64 t265]] rfl glm ?_; (with_reducible refine (impl_DayOf.calls kj9 t263 t264 t265 t270 t271 _ A22.out).mono ?_); rintro e w25 ⟨rfl, hb⟩; refine ⟨_, rfl, ?_⟩; have n0_ := bkb BK266 hb; have n1_ := bst hb; clear BK266; clear HB; have BK266 := n0_; have HB := n1_; clear n0_ n1_; (try clear hb); (try clear hb2); (try clear hk); (try clear hi)))
           go_meet
           case rel => exact ⟨_, (true), (by first | rfl | (simp; done) | (simp [*]; done)), H', ⟨by have := HJ2.out; have := HJ9.out; first | omega | exact Nat.le_refl _⟩, ⟨by (with_reducible repeat (first | apply blk_drewN | apply blk_drew | apply blk_alloc)); exact BK266.out⟩, ⟨hbm⟩⟩
          ·
           rw [if_neg c23] at H
           have c23b0 : (!(t270 == t262) || (!(t271 == 0))) = false := by simpa using c23
           clear c23
           (first | rw [c23b0] | (simp only [i64_w, i32_w]; rw [c23b0]) | skip)
           replace H := Option.bind_eq_some_iff.mp H
           obtain ⟨t272, A260, H⟩ := H
           (try dsimp only at H)
           have A26 := Aside0.mk A260
           clear A260
           replace H := Option.bind_eq_some_iff.mp H
           obtain ⟨⟨t273, t274⟩, A270, H⟩ := H
           (try dsimp only at H)
           have A27 := Aside0.mk A270
           clear A270
           have H' := Aside0.mk H
           clear H
           obtain ⟨hcz28_0, hcz28_1, hcz28_2, hfz28_0, hfz28_1, hfz28_2⟩ := bc3 BK266.out
           go_wp2_with (first | ((with_reducible refine gate_callee (f := 42) rfl ?_); refine goesL_ (some 35) rfl rfl Tryd.func42 (by kernel_rfl) rfl #[.agg #[.int .i64 t263, .int .i64 t264, .int .i64 t265]] rfl glm ?_; (with_reducible refine (impl_DayOf.calls kj9 t263 t264 t265 t270 t271 _ A22.out).mono ?_); rintro e w29 ⟨rfl, hb⟩; refine ⟨_, rfl, ?_⟩; have n0_ := bkb BK266 hb; have n1_ := bst hb; clear BK266; clear HB; have BK266 := n0_; have HB := n1_; clear n0_ n1_; (try clear hb); (try clear hb2); (try clear hk); (try clear hi)) | (go_at_call 43; (with_reducible refine (impl_DateText.calls kj9 t262 t272 _ ?side1 A26.out).mono ?_); (case side1 => exact Ld.below HLd.out hbm); rintro e w30 ⟨rfl, hb⟩; have n0_ := bkb BK266 hb; have n1_ := bst hb; clear BK266; clear HB; have BK266 := n0_; have HB := n1_; clear n0_ n1_; (try clear hb); (try clear hb2); (try clear hk); (try clear hi)) | (go_at_call 37; (with_reducible refine (impl_DateRead.calls kj9 t272 t273 t274 _ ?side1 A27.out).mono ?_); (case side1 => exact Ld.below HLd.out hbm); rintro e w31 ⟨rfl, hb⟩; have n0_ := bkb BK266 hb; have n1_ := bst hb; clear BK266; clear HB; have BK266 := n0_; have HB := n1_; clear n0_ n1_; (try clear hb); (try clear hb2); (try clear hk); (try clear hi)))
           go_meet
           case rel => exact ⟨_, ((!(t273 == t262) || (!(t274 == 0)))), (by first | rfl | (simp; done) | (simp [*]; done)), H', ⟨by have := HJ2.out; have := HJ9.out; first | omega | exact Nat.le_refl _⟩, ⟨by (with_reducible repeat (first | apply blk_drewN | apply blk_drew | apply blk_alloc)); exact BK266.out⟩, ⟨hbm⟩⟩
         case rest =>
          clear HC21
          try clear c1; try clear c2; try clear p2 p2; try clear c3; try clear c4; try clear c4b0; try clear c4b1; try clear c5; try clear c8; try clear c9; try clear c9b0; try clear c18; try clear c18b0; try clear c20; try clear c23; try clear c23b0; try clear hcz14_0 hcz14_1 hcz14_2 hfz14_0 hfz14_1 hfz14_2; try clear hcz24_0 hcz24_1 hcz24_2 hfz24_0 hfz24_1 hfz24_2; try clear hcz28_0 hcz28_1 hcz28_2 hfz28_0 hfz28_1 hfz28_2
          obtain ⟨kq, x46_20, rfl, HA, HJ20, BK266, HB⟩ := hcut
          cases kq with
          | zero => exact absurd HA.out (by simp [laws_FnDates.j2])
          | succ kj20 =>
           have H := HA.out
           clear HA
           simp only [laws_FnDates.j2] at H
           by_cases c32 : x46_20 = true
           ·
            subst c32
            have H1 : (none) = some r := by rw [if_pos rfl] at H; exact H
            clear H
            have H := H1
            clear H1
            exact absurd H (by simp)
           ·
            replace c32 := Bool.eq_false_iff.mpr c32
            subst c32
            have H1 : ((impl_DateOf.f kj20 (wrap64 (t262 + 1))).bind fun bt275 => (if bt275.1 = t263 then (if bt275.2.1 = t264 then (laws_FnDates.j3 kj20 l1 t262 (bt275.2.2 == (wrap64 (t265 + 1))) t263 t264 t265 bt275.1 bt275.2.1 bt275.2.2) else (laws_FnDates.j3 kj20 l1 t262 false t263 t264 t265 bt275.1 bt275.2.1 bt275.2.2)) else (laws_FnDates.j3 kj20 l1 t262 false t263 t264 t265 bt275.1 bt275.2.1 bt275.2.2))) = some r := by rw [if_neg (show ¬ (false = true) by decide)] at H; exact H
            clear H
            have H := H1
            clear H1
            replace H := Option.bind_eq_some_iff.mp H
            obtain ⟨⟨t275, t276, t277⟩, A330, H⟩ := H
            (try dsimp only at H)
            have A33 := Aside0.mk A330
            clear A330
            have HC34 := Aside0.mk H
            clear H
            go_upto_region 11 with (first | ((with_reducible refine gate_callee (f := 40) rfl ?_); refine goesL_ (some 49) rfl rfl Tryd.func40 (by kernel_rfl) rfl #[.int .i64 (wrap64 (t262 + 1))] rfl glm ?_; (with_reducible refine (impl_DateOf.calls kj20 (wrap64 (t262 + 1)) t275 t276 t277 _ A33.out).mono ?_); rintro e w35 ⟨rfl, hb⟩; refine ⟨_, rfl, ?_⟩; have n0_ := bkb BK266 hb; have n1_ := bst hb; clear BK266; clear HB; have BK266 := n0_; have HB := n1_; clear n0_ n1_; (try clear hb); (try clear hb2); (try clear hk); (try clear hi)) | ((with_reducible refine gate_dst (N := 7) rfl ?_); (try (refine gate_guard (by rfl) ?_; dsimp only)); refine bxe (N := 7) (cs := #[.int .i64 0, .int .i64 0, .int .i64 0]) (t := 74) ?_; intro gb278 hg w36 hbox hb; have n0_ := bkb BK266 hb; have n1_ := bst hb; have n2_ := Aside0.mk (hbox); have n3_ := (bsz hg : Aside0 (w.heap.size ≤ gb278)); have n4_ := n3_; have n5_ := (bkn BK266 hg : Aside0 (gb266 ≠ gb278)); have n6_ := Aside0.mk n5_.out.symm; clear BK266; clear HB; have BK266 := n0_; have HB := n1_; have BK278 := n2_; have GW278 := n3_; have GE278 := n4_; have NB266_278 := n5_; have NB278_266 := n6_; clear n0_ n1_ n2_ n3_ n4_ n5_ n6_; clear hb hbox hg; have hnb37 := NB278_266.out; have hnc37 := NB266_278.out; obtain ⟨hcz38_0, hcz38_1, hcz38_2, hfz38_0, hfz38_1, hfz38_2⟩ := bc3 BK278.out))
            (try simp only [Act.put, List.setIfInBounds_toArray, List.set_cons_zero, List.set_cons_succ])
            go_cut [8] (fun v8 wc => ∃ (kq : Nat) (x8_33 : Bool), v8 = .bool x8_33 ∧ Aside0 (laws_FnDates.j3 kq l1 t262 x8_33 t263 t264 t265 t275 t276 t277 = some r) ∧ Aside0 (kq ≤ kj20) ∧ Aside0 (wc.heap[gb266]? = some (.cells #[.int .i64 t263, .int .i64 t264, .int .i64 t265] 74 (0, 0))) ∧ Aside0 (wc.heap[gb278]? = some (.cells #[.int .i64 t275, .int .i64 t276, .int .i64 t277] 74 (0, 0))) ∧ Aside0 (Below w.heap.size w wc))
            case first =>
             have H := HC34.out
             clear HC34
             by_cases c39 : t275 = t263
             ·
              rw [if_pos c39] at H
              have c39b0 : (t275 == t263) = true := beq_iff_eq.mpr c39
              have c39b1 : (t275 != t263) = false := bne_eq_false_iff_eq.mpr c39
              clear c39
              (first | rw [c39b0] | (simp only [i64_w, i32_w]; rw [c39b0]) | skip)
              by_cases c40 : t276 = t264
              ·
               rw [if_pos c40] at H
               have c40b0 : (t276 == t264) = true := beq_iff_eq.mpr c40
               have c40b1 : (t276 != t264) = false := bne_eq_false_iff_eq.mpr c40
               clear c40
               have H' := Aside0.mk H
               clear H
               have hnb41 := NB278_266.out
               have hnc41 := NB266_278.out
               obtain ⟨hcz42_0, hcz42_1, hcz42_2, hfz42_0, hfz42_1, hfz42_2⟩ := bc3 BK278.out
               obtain ⟨hcz43_0, hcz43_1, hcz43_2, hfz43_0, hfz43_1, hfz43_2⟩ := bc3 BK266.out
               go_wp2
               go_meet
               case rel => exact ⟨_, ((t277 == (wrap64 (t265 + 1)))), (by first | rfl | (simp; done) | (simp [*]; done)), H', ⟨by have := HJ2.out; have := HJ9.out; have := HJ20.out; first | omega | exact Nat.le_refl _⟩, ⟨by (with_reducible repeat (first | apply blk_drewN | apply blk_drew | apply blk_alloc)); refine blk_far ?_ NB266_278.out _; (with_reducible repeat (first | apply blk_drewN | apply blk_drew | apply blk_alloc)); refine blk_far ?_ NB266_278.out _; (with_reducible repeat (first | apply blk_drewN | apply blk_drew | apply blk_alloc)); refine blk_far ?_ NB266_278.out _; (with_reducible repeat (first | apply blk_drewN | apply blk_drew | apply blk_alloc)); exact BK266.out⟩, ⟨by (with_reducible repeat (first | apply blk_drewN | apply blk_drew | apply blk_alloc)); refine blk_put (cs := #[.int .i64 t275, .int .i64 t276, .int .i64 0]) ?_ 2 _ rfl; (with_reducible repeat (first | apply blk_drewN | apply blk_drew | apply blk_alloc)); refine blk_put (cs := #[.int .i64 t275, .int .i64 0, .int .i64 0]) ?_ 1 _ rfl; (with_reducible repeat (first | apply blk_drewN | apply blk_drew | apply blk_alloc)); refine blk_put (cs := #[.int .i64 0, .int .i64 0, .int .i64 0]) ?_ 0 _ rfl; (with_reducible repeat (first | apply blk_drewN | apply blk_drew | apply blk_alloc)); exact BK278.out⟩, ⟨hbm⟩⟩
              ·
               rw [if_neg c40] at H
               have c40b0 : (t276 == t264) = false := beq_eq_false_iff_ne.mpr c40
               have c40b1 : (t276 != t264) = true := bne_iff_ne.mpr c40
               have H' := Aside0.mk H
               clear H
               have hnb44 := NB278_266.out
               have hnc44 := NB266_278.out
               obtain ⟨hcz45_0, hcz45_1, hcz45_2, hfz45_0, hfz45_1, hfz45_2⟩ := bc3 BK278.out
               obtain ⟨hcz46_0, hcz46_1, hcz46_2, hfz46_0, hfz46_1, hfz46_2⟩ := bc3 BK266.out
               go_wp2
               go_meet
               case rel => exact ⟨_, (false), (by first | rfl | (simp; done) | (simp [*]; done)), H', ⟨by have := HJ2.out; have := HJ9.out; have := HJ20.out; first | omega | exact Nat.le_refl _⟩, ⟨by (with_reducible repeat (first | apply blk_drewN | apply blk_drew | apply blk_alloc)); refine blk_far ?_ NB266_278.out _; (with_reducible repeat (first | apply blk_drewN | apply blk_drew | apply blk_alloc)); refine blk_far ?_ NB266_278.out _; (with_reducible repeat (first | apply blk_drewN | apply blk_drew | apply blk_alloc)); refine blk_far ?_ NB266_278.out _; (with_reducible repeat (first | apply blk_drewN | apply blk_drew | apply blk_alloc)); exact BK266.out⟩, ⟨by (with_reducible repeat (first | apply blk_drewN | apply blk_drew | apply blk_alloc)); refine blk_put (cs := #[.int .i64 t275, .int .i64 t276, .int .i64 0]) ?_ 2 _ rfl; (with_reducible repeat (first | apply blk_drewN | apply blk_drew | apply blk_alloc)); refine blk_put (cs := #[.int .i64 t275, .int .i64 0, .int .i64 0]) ?_ 1 _ rfl; (with_reducible repeat (first | apply blk_drewN | apply blk_drew | apply blk_alloc)); refine blk_put (cs := #[.int .i64 0, .int .i64 0, .int .i64 0]) ?_ 0 _ rfl; (with_reducible repeat (first | apply blk_drewN | apply blk_drew | apply blk_alloc)); exact BK278.out⟩, ⟨hbm⟩⟩
             ·
              rw [if_neg c39] at H
              have c39b0 : (t275 == t263) = false := beq_eq_false_iff_ne.mpr c39
              have c39b1 : (t275 != t263) = true := bne_iff_ne.mpr c39
              (first | rw [c39b0] | (simp only [i64_w, i32_w]; rw [c39b0]) | skip)
              have H' := Aside0.mk H
              clear H
              have hnb47 := NB278_266.out
              have hnc47 := NB266_278.out
              obtain ⟨hcz48_0, hcz48_1, hcz48_2, hfz48_0, hfz48_1, hfz48_2⟩ := bc3 BK278.out
              obtain ⟨hcz49_0, hcz49_1, hcz49_2, hfz49_0, hfz49_1, hfz49_2⟩ := bc3 BK266.out
              go_wp2
              go_meet
              case rel => exact ⟨_, (false), (by first | rfl | (simp; done) | (simp [*]; done)), H', ⟨by have := HJ2.out; have := HJ9.out; have := HJ20.out; first | omega | exact Nat.le_refl _⟩, ⟨by (with_reducible repeat (first | apply blk_drewN | apply blk_drew | apply blk_alloc)); refine blk_far ?_ NB266_278.out _; (with_reducible repeat (first | apply blk_drewN | apply blk_drew | apply blk_alloc)); refine blk_far ?_ NB266_278.out _; (with_reducible repeat (first | apply blk_drewN | apply blk_drew | apply blk_alloc)); refine blk_far ?_ NB266_278.out _; (with_reducible repeat (first | apply blk_drewN | apply blk_drew | apply blk_alloc)); exact BK266.out⟩, ⟨by (with_reducible repeat (first | apply blk_drewN | apply blk_drew | apply blk_alloc)); refine blk_put (cs := #[.int .i64 t275, .int .i64 t276, .int .i64 0]) ?_ 2 _ rfl; (with_reducible repeat (first | apply blk_drewN | apply blk_drew | apply blk_alloc)); refine blk_put (cs := #[.int .i64 t275, .int .i64 0, .int .i64 0]) ?_ 1 _ rfl; (with_reducible repeat (first | apply blk_drewN | apply blk_drew | apply blk_alloc)); refine blk_put (cs := #[.int .i64 0, .int .i64 0, .int .i64 0]) ?_ 0 _ rfl; (with_reducible repeat (first | apply blk_drewN | apply blk_drew | apply blk_alloc)); exact BK278.out⟩, ⟨hbm⟩⟩
            case rest =>
             clear HC34
             try clear c1; try clear c2; try clear p2 p2; try clear c3; try clear c4; try clear c4b0; try clear c4b1; try clear c5; try clear p6; try clear c8; try clear c9; try clear c9b0; try clear c18; try clear c18b0; try clear c20; try clear c23; try clear c23b0; try clear c32; try clear c37; try clear c39; try clear c39b0; try clear c39b1; try clear c40; try clear c40b0; try clear c40b1; try clear c41; try clear c42; try clear c44; try clear c47; try clear hcz14_0 hcz14_1 hcz14_2 hfz14_0 hfz14_1 hfz14_2; try clear hcz24_0 hcz24_1 hcz24_2 hfz24_0 hfz24_1 hfz24_2; try clear hcz28_0 hcz28_1 hcz28_2 hfz28_0 hfz28_1 hfz28_2; try clear hcz38_0 hcz38_1 hcz38_2 hfz38_0 hfz38_1 hfz38_2; try clear hcz42_0 hcz42_1 hcz42_2 hfz42_0 hfz42_1 hfz42_2; try clear hcz43_0 hcz43_1 hcz43_2 hfz43_0 hfz43_1 hfz43_2; try clear hcz45_0 hcz45_1 hcz45_2 hfz45_0 hfz45_1 hfz45_2; try clear hcz46_0 hcz46_1 hcz46_2 hfz46_0 hfz46_1 hfz46_2; try clear hcz48_0 hcz48_1 hcz48_2 hfz48_0 hfz48_1 hfz48_2; try clear hcz49_0 hcz49_1 hcz49_2 hfz49_0 hfz49_1 hfz49_2
             obtain ⟨kq, x8_33, rfl, HA, HJ33, BK266, BK278, HB⟩ := hcut
             cases kq with
             | zero => exact absurd HA.out (by simp [laws_FnDates.j3])
             | succ kj33 =>
              have H := HA.out
              clear HA
              simp only [laws_FnDates.j3] at H
              by_cases c50 : t277 = 1
              ·
               rw [if_pos c50] at H
               have c50b0 : (t277 == 1) = true := beq_iff_eq.mpr c50
               have c50b1 : (t277 != 1) = false := bne_eq_false_iff_eq.mpr c50
               clear c50
               have HC51 := Aside0.mk H
               clear H
               have hnb52 := NB278_266.out
               have hnc52 := NB266_278.out
               obtain ⟨hcz53_0, hcz53_1, hcz53_2, hfz53_0, hfz53_1, hfz53_2⟩ := bc3 BK278.out
               obtain ⟨hcz54_0, hcz54_1, hcz54_2, hfz54_0, hfz54_1, hfz54_2⟩ := bc3 BK266.out
               go_upto_region 13 with (fail)
               go_cut [98] (fun v98 wc => ∃ (kq : Nat) (x98_50 : Bool), v98 = .bool x98_50 ∧ Aside0 (laws_FnDates.j4 kq l1 x98_50 = some r) ∧ Aside0 (kq ≤ kj33) ∧ Aside0 (wc.heap[gb266]? = some (.cells #[.int .i64 t263, .int .i64 t264, .int .i64 t265] 74 (0, 0))) ∧ Aside0 (wc.heap[gb278]? = some (.cells #[.int .i64 t275, .int .i64 t276, .int .i64 t277] 74 (0, 0))) ∧ Aside0 (Below w.heap.size w wc))
               case first =>
                have H := HC51.out
                clear HC51
                by_cases c55 : t262 < 36524
                ·
                 rw [if_pos c55] at H
                 have c55b0 := decide_eq_true c55
                 clear c55
                 (first | rw [c55b0] | (simp only [i64_w, i32_w]; rw [c55b0]) | skip)
                 by_cases c56 : x8_33 = true
                 ·
                  subst c56
                  have H1 : (laws_FnDates.j4 kj33 l1 false) = some r := by rw [if_pos rfl] at H; exact H
                  clear H
                  have H := H1
                  clear H1
                  have H' := Aside0.mk H
                  clear H
                  go_wp2
                  go_meet
                  case rel => exact ⟨_, (false), (by first | rfl | (simp; done) | (simp [*]; done)), H', ⟨by have := HJ2.out; have := HJ9.out; have := HJ20.out; have := HJ33.out; first | omega | exact Nat.le_refl _⟩, ⟨by (with_reducible repeat (first | apply blk_drewN | apply blk_drew | apply blk_alloc)); exact BK266.out⟩, ⟨by (with_reducible repeat (first | apply blk_drewN | apply blk_drew | apply blk_alloc)); exact BK278.out⟩, ⟨hbm⟩⟩
                 ·
                  replace c56 := Bool.eq_false_iff.mpr c56
                  subst c56
                  have H1 : (laws_FnDates.j4 kj33 l1 (!((wrap64 ((wrap64 (12 * t275)) + t276)) == (wrap64 ((wrap64 ((wrap64 (12 * t263)) + t264)) + 1))))) = some r := by rw [if_neg (show ¬ (false = true) by decide)] at H; exact H
                  clear H
                  have H := H1
                  clear H1
                  have H' := Aside0.mk H
                  clear H
                  go_wp2
                  go_meet
                  case rel => exact ⟨_, (!((wrap64 ((wrap64 (12 * t275)) + t276)) == (wrap64 ((wrap64 ((wrap64 (12 * t263)) + t264)) + 1)))), (by first | rfl | (simp; done) | (simp [*]; done)), H', ⟨by have := HJ2.out; have := HJ9.out; have := HJ20.out; have := HJ33.out; first | omega | exact Nat.le_refl _⟩, ⟨by (with_reducible repeat (first | apply blk_drewN | apply blk_drew | apply blk_alloc)); exact BK266.out⟩, ⟨by (with_reducible repeat (first | apply blk_drewN | apply blk_drew | apply blk_alloc)); exact BK278.out⟩, ⟨hbm⟩⟩
                ·
                 rw [if_neg c55] at H
                 have c55b0 := decide_eq_false c55
                 clear c55
                 (first | rw [c55b0] | (simp only [i64_w, i32_w]; rw [c55b0]) | skip)
                 have H' := Aside0.mk H
                 clear H
                 go_wp2
                 go_meet
                 case rel => exact ⟨_, (false), (by first | rfl | (simp; done) | (simp [*]; done)), H', ⟨by have := HJ2.out; have := HJ9.out; have := HJ20.out; have := HJ33.out; first | omega | exact Nat.le_refl _⟩, ⟨by (with_reducible repeat (first | apply blk_drewN | apply blk_drew | apply blk_alloc)); exact BK266.out⟩, ⟨by (with_reducible repeat (first | apply blk_drewN | apply blk_drew | apply blk_alloc)); exact BK278.out⟩, ⟨hbm⟩⟩
               case rest =>
                clear HC51
                try clear c1; try clear c2; try clear p2 p2; try clear c3; try clear c4; try clear c4b0; try clear c4b1; try clear c5; try clear p6 p6; try clear c8; try clear c9; try clear c9b0; try clear c18; try clear c18b0; try clear c20; try clear c23; try clear c23b0; try clear c32; try clear c37; try clear c39; try clear c39b0; try clear c39b1; try clear c40; try clear c40b0; try clear c40b1; try clear c41; try clear c42; try clear c44; try clear c47; try clear c50; try clear c50b0; try clear c50b1; try clear c52; try clear c55; try clear c55b0; try clear c56; try clear hcz14_0 hcz14_1 hcz14_2 hfz14_0 hfz14_1 hfz14_2; try clear hcz24_0 hcz24_1 hcz24_2 hfz24_0 hfz24_1 hfz24_2; try clear hcz28_0 hcz28_1 hcz28_2 hfz28_0 hfz28_1 hfz28_2; try clear hcz38_0 hcz38_1 hcz38_2 hfz38_0 hfz38_1 hfz38_2; try clear hcz42_0 hcz42_1 hcz42_2 hfz42_0 hfz42_1 hfz42_2; try clear hcz43_0 hcz43_1 hcz43_2 hfz43_0 hfz43_1 hfz43_2; try clear hcz45_0 hcz45_1 hcz45_2 hfz45_0 hfz45_1 hfz45_2; try clear hcz46_0 hcz46_1 hcz46_2 hfz46_0 hfz46_1 hfz46_2; try clear hcz48_0 hcz48_1 hcz48_2 hfz48_0 hfz48_1 hfz48_2; try clear hcz49_0 hcz49_1 hcz49_2 hfz49_0 hfz49_1 hfz49_2; try clear hcz53_0 hcz53_1 hcz53_2 hfz53_0 hfz53_1 hfz53_2; try clear hcz54_0 hcz54_1 hcz54_2 hfz54_0 hfz54_1 hfz54_2
                obtain ⟨kq, x98_50, rfl, HA, HJ50, BK266, BK278, HB⟩ := hcut
                cases kq with
                | zero => exact absurd HA.out (by simp [laws_FnDates.j4])
                | succ kj50 =>
                 have H := HA.out
                 clear HA
                 simp only [laws_FnDates.j4] at H
                 by_cases c57 : x98_50 = true
                 ·
                  subst c57
                  have H1 : (none) = some r := by rw [if_pos rfl] at H; exact H
                  clear H
                  have H := H1
                  clear H1
                  exact absurd H (by simp)
                 ·
                  replace c57 := Bool.eq_false_iff.mpr c57
                  subst c57
                  have H1 : (laws_FnDates.j6 kj50 l1) = some r := by rw [if_neg (show ¬ (false = true) by decide)] at H; exact H
                  clear H
                  have H := H1
                  clear H1
                  have H' := Aside0.mk H
                  clear H
                  go_wp2
                  go_meet
                  case rel => exact ⟨_, H', ⟨by have := HJ2.out; have := HJ9.out; have := HJ20.out; have := HJ33.out; have := HJ50.out; first | omega | exact Nat.le_refl _⟩, ⟨by (with_reducible repeat (first | apply blk_drewN | apply blk_drew | apply blk_alloc)); exact BK266.out⟩, ⟨hbm⟩⟩
              ·
               rw [if_neg c50] at H
               have c50b0 : (t277 == 1) = false := beq_eq_false_iff_ne.mpr c50
               have c50b1 : (t277 != 1) = true := bne_iff_ne.mpr c50
               have HC58 := Aside0.mk H
               clear H
               have hnb59 := NB278_266.out
               have hnc59 := NB266_278.out
               obtain ⟨hcz60_0, hcz60_1, hcz60_2, hfz60_0, hfz60_1, hfz60_2⟩ := bc3 BK278.out
               go_upto_region 13 with (fail)
               go_cut [98] (fun v98 wc => ∃ (kq : Nat) (x98_57 : Bool), v98 = .bool x98_57 ∧ Aside0 (laws_FnDates.j5 kq l1 x98_57 = some r) ∧ Aside0 (kq ≤ kj33) ∧ Aside0 (wc.heap[gb266]? = some (.cells #[.int .i64 t263, .int .i64 t264, .int .i64 t265] 74 (0, 0))) ∧ Aside0 (wc.heap[gb278]? = some (.cells #[.int .i64 t275, .int .i64 t276, .int .i64 t277] 74 (0, 0))) ∧ Aside0 (Below w.heap.size w wc))
               case first =>
                have H := HC58.out
                clear HC58
                by_cases c61 : t262 < 36524
                ·
                 rw [if_pos c61] at H
                 have c61b0 := decide_eq_true c61
                 clear c61
                 (first | rw [c61b0] | (simp only [i64_w, i32_w]; rw [c61b0]) | skip)
                 by_cases c62 : x8_33 = true
                 ·
                  subst c62
                  have H1 : (laws_FnDates.j5 kj33 l1 false) = some r := by rw [if_pos rfl] at H; exact H
                  clear H
                  have H := H1
                  clear H1
                  have H' := Aside0.mk H
                  clear H
                  go_wp2
                  go_meet
                  case rel => exact ⟨_, (false), (by first | rfl | (simp; done) | (simp [*]; done)), H', ⟨by have := HJ2.out; have := HJ9.out; have := HJ20.out; have := HJ33.out; first | omega | exact Nat.le_refl _⟩, ⟨by (with_reducible repeat (first | apply blk_drewN | apply blk_drew | apply blk_alloc)); exact BK266.out⟩, ⟨by (with_reducible repeat (first | apply blk_drewN | apply blk_drew | apply blk_alloc)); exact BK278.out⟩, ⟨hbm⟩⟩
                 ·
                  replace c62 := Bool.eq_false_iff.mpr c62
                  subst c62
                  have H1 : (laws_FnDates.j5 kj33 l1 (!false)) = some r := by rw [if_neg (show ¬ (false = true) by decide)] at H; exact H
                  clear H
                  have H := H1
                  clear H1
                  have H' := Aside0.mk H
                  clear H
                  go_wp2
                  go_meet
                  case rel => exact ⟨_, (!false), (by first | rfl | (simp; done) | (simp [*]; done)), H', ⟨by have := HJ2.out; have := HJ9.out; have := HJ20.out; have := HJ33.out; first | omega | exact Nat.le_refl _⟩, ⟨by (with_reducible repeat (first | apply blk_drewN | apply blk_drew | apply blk_alloc)); exact BK266.out⟩, ⟨by (with_reducible repeat (first | apply blk_drewN | apply blk_drew | apply blk_alloc)); exact BK278.out⟩, ⟨hbm⟩⟩
                ·
                 rw [if_neg c61] at H
                 have c61b0 := decide_eq_false c61
                 clear c61
                 (first | rw [c61b0] | (simp only [i64_w, i32_w]; rw [c61b0]) | skip)
                 have H' := Aside0.mk H
                 clear H
                 go_wp2
                 go_meet
                 case rel => exact ⟨_, (false), (by first | rfl | (simp; done) | (simp [*]; done)), H', ⟨by have := HJ2.out; have := HJ9.out; have := HJ20.out; have := HJ33.out; first | omega | exact Nat.le_refl _⟩, ⟨by (with_reducible repeat (first | apply blk_drewN | apply blk_drew | apply blk_alloc)); exact BK266.out⟩, ⟨by (with_reducible repeat (first | apply blk_drewN | apply blk_drew | apply blk_alloc)); exact BK278.out⟩, ⟨hbm⟩⟩
               case rest =>
                clear HC58
                try clear c1; try clear c2; try clear p2 p2; try clear c3; try clear c4; try clear c4b0; try clear c4b1; try clear c5; try clear c6; try clear p6 p6; try clear c8; try clear c9; try clear c9b0; try clear c18; try clear c18b0; try clear c20; try clear c23; try clear c23b0; try clear c32; try clear c37; try clear c39; try clear c39b0; try clear c39b1; try clear c40; try clear c40b0; try clear c40b1; try clear c41; try clear c42; try clear c44; try clear c47; try clear c50; try clear c50b0; try clear c50b1; try clear c52; try clear c55; try clear c55b0; try clear c56; try clear c57; try clear c59; try clear c61; try clear c61b0; try clear c62; try clear hcz14_0 hcz14_1 hcz14_2 hfz14_0 hfz14_1 hfz14_2; try clear hcz24_0 hcz24_1 hcz24_2 hfz24_0 hfz24_1 hfz24_2; try clear hcz28_0 hcz28_1 hcz28_2 hfz28_0 hfz28_1 hfz28_2; try clear hcz38_0 hcz38_1 hcz38_2 hfz38_0 hfz38_1 hfz38_2; try clear hcz42_0 hcz42_1 hcz42_2 hfz42_0 hfz42_1 hfz42_2; try clear hcz43_0 hcz43_1 hcz43_2 hfz43_0 hfz43_1 hfz43_2; try clear hcz45_0 hcz45_1 hcz45_2 hfz45_0 hfz45_1 hfz45_2; try clear hcz46_0 hcz46_1 hcz46_2 hfz46_0 hfz46_1 hfz46_2; try clear hcz48_0 hcz48_1 hcz48_2 hfz48_0 hfz48_1 hfz48_2; try clear hcz49_0 hcz49_1 hcz49_2 hfz49_0 hfz49_1 hfz49_2; try clear hcz53_0 hcz53_1 hcz53_2 hfz53_0 hfz53_1 hfz53_2; try clear hcz54_0 hcz54_1 hcz54_2 hfz54_0 hfz54_1 hfz54_2; try clear hcz60_0 hcz60_1 hcz60_2 hfz60_0 hfz60_1 hfz60_2
                obtain ⟨kq, x98_57, rfl, HA, HJ57, BK266, BK278, HB⟩ := hcut
                cases kq with
                | zero => exact absurd HA.out (by simp [laws_FnDates.j5])
                | succ kj57 =>
                 have H := HA.out
                 clear HA
                 simp only [laws_FnDates.j5] at H
                 by_cases c63 : x98_57 = true
                 ·
                  subst c63
                  have H1 : (none) = some r := by rw [if_pos rfl] at H; exact H
                  clear H
                  have H := H1
                  clear H1
                  exact absurd H (by simp)
                 ·
                  replace c63 := Bool.eq_false_iff.mpr c63
                  subst c63
                  have H1 : (laws_FnDates.j6 kj57 l1) = some r := by rw [if_neg (show ¬ (false = true) by decide)] at H; exact H
                  clear H
                  have H := H1
                  clear H1
                  have H' := Aside0.mk H
                  clear H
                  go_wp2
                  go_meet
                  case rel => exact ⟨_, H', ⟨by have := HJ2.out; have := HJ9.out; have := HJ20.out; have := HJ33.out; have := HJ57.out; first | omega | exact Nat.le_refl _⟩, ⟨by (with_reducible repeat (first | apply blk_drewN | apply blk_drew | apply blk_alloc)); exact BK266.out⟩, ⟨hbm⟩⟩
        ·
         replace c20 := Bool.eq_false_iff.mpr c20
         subst c20
         have H1 : (laws_FnDates.j6 kj9 l1) = some r := by rw [if_neg (show ¬ (false = true) by decide)] at H; exact H
         clear H
         have H := H1
         clear H1
         have H' := Aside0.mk H
         clear H
         go_wp2
         go_meet
         case rel => exact ⟨_, H', ⟨by have := HJ2.out; have := HJ9.out; first | omega | exact Nat.le_refl _⟩, ⟨by (with_reducible repeat (first | apply blk_drewN | apply blk_drew | apply blk_alloc)); exact BK266.out⟩, ⟨hbm⟩⟩
       case rest =>
        clear HC19
        try clear c1; try clear c2; try clear p2 p2; try clear c3; try clear c4; try clear c4b0; try clear c4b1; try clear c5; try clear c6; try clear p6 p6; try clear c8; try clear c9; try clear c9b0; try clear c18; try clear c18b0; try clear c20; try clear c23; try clear c23b0; try clear c32; try clear c37; try clear c39; try clear c39b0; try clear c39b1; try clear c40; try clear c40b0; try clear c40b1; try clear c41; try clear c42; try clear c44; try clear c47; try clear c50; try clear c50b0; try clear c50b1; try clear c52; try clear c55; try clear c55b0; try clear c56; try clear c57; try clear c59; try clear c61; try clear c61b0; try clear c62; try clear c63; try clear hcz14_0 hcz14_1 hcz14_2 hfz14_0 hfz14_1 hfz14_2; try clear hcz24_0 hcz24_1 hcz24_2 hfz24_0 hfz24_1 hfz24_2; try clear hcz28_0 hcz28_1 hcz28_2 hfz28_0 hfz28_1 hfz28_2; try clear hcz38_0 hcz38_1 hcz38_2 hfz38_0 hfz38_1 hfz38_2; try clear hcz42_0 hcz42_1 hcz42_2 hfz42_0 hfz42_1 hfz42_2; try clear hcz43_0 hcz43_1 hcz43_2 hfz43_0 hfz43_1 hfz43_2; try clear hcz45_0 hcz45_1 hcz45_2 hfz45_0 hfz45_1 hfz45_2; try clear hcz46_0 hcz46_1 hcz46_2 hfz46_0 hfz46_1 hfz46_2; try clear hcz48_0 hcz48_1 hcz48_2 hfz48_0 hfz48_1 hfz48_2; try clear hcz49_0 hcz49_1 hcz49_2 hfz49_0 hfz49_1 hfz49_2; try clear hcz53_0 hcz53_1 hcz53_2 hfz53_0 hfz53_1 hfz53_2; try clear hcz54_0 hcz54_1 hcz54_2 hfz54_0 hfz54_1 hfz54_2; try clear hcz60_0 hcz60_1 hcz60_2 hfz60_0 hfz60_1 hfz60_2
        obtain ⟨kq, HA, HJ18, BK266, HB⟩ := hcut
        cases kq with
        | zero => exact absurd HA.out (by simp [laws_FnDates.j6])
        | succ kj18 =>
         have H := HA.out
         clear HA
         simp only [laws_FnDates.j6] at H
         replace H := Option.bind_eq_some_iff.mp H
         obtain ⟨t279, A640, H⟩ := H
         (try dsimp only at H)
         have A64 := Aside0.mk A640
         clear A640
         replace H := Option.bind_eq_some_iff.mp H
         obtain ⟨⟨t280, t281⟩, A650, H⟩ := H
         (try dsimp only at H)
         have A65 := Aside0.mk A650
         clear A650
         replace H := Option.bind_eq_some_iff.mp H
         obtain ⟨⟨t283, t284⟩, A660, H⟩ := H
         (try dsimp only at H)
         have A66 := Aside0.mk A660
         clear A660
         by_cases c67 : (t280 == t283 && (t281 == t284)) = true
         ·
          rw [if_pos c67] at H
          have c67b0 : (t280 == t283 && (t281 == t284)) = true := c67
          (try (have c67b1 : decide (t280 = t283 && (t281 == t284)) = true := by simpa using c67))
          (try (have c67b2 : (t280 == t283 && (t281 == t284)) = true := by simpa using c67))
          clear c67
          by_cases c68 : t281 = 0
          ·
           rw [if_pos c68] at H
           have c68b0 : (t281 == 0) = true := beq_iff_eq.mpr c68
           have c68b1 : (t281 != 0) = false := bne_eq_false_iff_eq.mpr c68
           clear c68
           replace H := Option.bind_eq_some_iff.mp H
           obtain ⟨t285, A690, H⟩ := H
           (try dsimp only at H)
           have A69 := Aside0.mk A690
           clear A690
           obtain rfl := Option.some.inj H
           try go_wp2_with (first | ((with_reducible refine gate_callee (f := 44) rfl ?_); refine goesL_ (some 100) rfl rfl Tryd.func44 (by kernel_rfl) rfl #[.slice A1 l1.length c1] rfl glm ?_; (with_reducible refine (spec_DrawDateRead.calls kj18 _ _ l1 t279 _ ?side1 ?side2 A64.out).mono ?_); (case side1 => exact csb (Kd.C_below HR1.out HB.out)); (case side2 => exact HC1.out); rintro e w70 ⟨rfl, hb⟩; refine ⟨_, rfl, ?_⟩; have n0_ := bkb BK266 hb; have n1_ := bst hb; clear BK266; clear HB; have BK266 := n0_; have HB := n1_; clear n0_ n1_; (try clear hb); (try clear hb2); (try clear hk); (try clear hi)) | ((with_reducible refine gate_callee (f := 37) rfl ?_); refine goesL_ (some 102) rfl rfl Tryd.func37 (by kernel_rfl) rfl #[.string t279] rfl glm ?_; (with_reducible refine (impl_DateRead.calls kj18 t279 t280 t281 _ ?side1 A65.out).mono ?_); (case side1 => exact Ld.below HLd.out hbm); rintro e w71 ⟨rfl, hb⟩; refine ⟨_, rfl, ?_⟩; have n0_ := bkb BK266 hb; have n1_ := bst hb; clear BK266; clear HB; have BK266 := n0_; have HB := n1_; clear n0_ n1_; (try clear hb); (try clear hb2); (try clear hk); (try clear hi)) | ((with_reducible refine gate_dst (N := 11) rfl ?_); (try (refine gate_guard (by rfl) ?_; dsimp only)); refine bxe (N := 11) (cs := #[.int .i64 0, .int .i64 0]) (t := 69) ?_; intro gb282 hg w72 hbox hb; have n0_ := bkb BK266 hb; have n1_ := bst hb; have n2_ := Aside0.mk (hbox); have n3_ := (bsz hg : Aside0 (w.heap.size ≤ gb282)); have n4_ := n3_; have n5_ := (bkn BK266 hg : Aside0 (gb266 ≠ gb282)); have n6_ := Aside0.mk n5_.out.symm; clear BK266; clear HB; have BK266 := n0_; have HB := n1_; have BK282 := n2_; have GW282 := n3_; have GE282 := n4_; have NB266_282 := n5_; have NB282_266 := n6_; clear n0_ n1_ n2_ n3_ n4_ n5_ n6_; clear hb hbox hg; have hnb73 := NB282_266.out; have hnc73 := NB266_282.out; obtain ⟨hcz74_0, hcz74_1, hfz74_0, hfz74_1⟩ := bc2 BK282.out))
           have n0_ : Aside0 (((w72.setCell ⟨gb282, 0, none⟩ (.int .i64 t280)).setCell ⟨gb282, 1, none⟩ (.int .i64 t281)).heap[gb266]? = some (.cells #[.int .i64 t263, .int .i64 t264, .int .i64 t265] 74 (0, 0))) := ⟨by (with_reducible repeat (first | apply blk_drewN | apply blk_drew | apply blk_alloc)); refine blk_far ?_ NB266_282.out _; (with_reducible repeat (first | apply blk_drewN | apply blk_drew | apply blk_alloc)); refine blk_far ?_ NB266_282.out _; (with_reducible repeat (first | apply blk_drewN | apply blk_drew | apply blk_alloc)); exact BK266.out⟩
           have n1_ : Aside0 (((w72.setCell ⟨gb282, 0, none⟩ (.int .i64 t280)).setCell ⟨gb282, 1, none⟩ (.int .i64 t281)).heap[gb282]? = some (.cells #[.int .i64 t280, .int .i64 t281] 69 (0, 0))) := ⟨by (with_reducible repeat (first | apply blk_drewN | apply blk_drew | apply blk_alloc)); refine blk_put (cs := #[.int .i64 t280, .int .i64 0]) ?_ 1 _ rfl; (with_reducible repeat (first | apply blk_drewN | apply blk_drew | apply blk_alloc)); refine blk_put (cs := #[.int .i64 0, .int .i64 0]) ?_ 0 _ rfl; (with_reducible repeat (first | apply blk_drewN | apply blk_drew | apply blk_alloc)); exact BK282.out⟩
           have n2_ : Aside0 (Below w.heap.size w ((w72.setCell ⟨gb282, 0, none⟩ (.int .i64 t280)).setCell ⟨gb282, 1, none⟩ (.int .i64 t281))) := ⟨hbm⟩
           (try clear BK266)
           (try clear BK282)
           (try clear HB)
           generalize ((w72.setCell ⟨gb282, 0, none⟩ (.int .i64 t280)).setCell ⟨gb282, 1, none⟩ (.int .i64 t281)) = w75 at n0_ n1_ n2_ ⊢
           have BK266 := n0_
           have BK282 := n1_
           have HB := n2_
           clear n0_ n1_ n2_
           have n0_ := Aside0.mk (blk_drew BK266.out)
           have n1_ := Aside0.mk (blk_drew BK282.out)
           have n2_ := Aside0.mk (below_drew1 HB.out)
           clear BK266
           clear BK282
           clear HB
           have BK266 := n0_
           have BK282 := n1_
           have HB := n2_
           clear n0_ n1_ n2_
           refine start_ (n := 17) (S := fun w' => w'.cell? ⟨gb282, 0, none⟩ = some (.int .i64 t280) ∧ w'.cell? ⟨gb282, 1, none⟩ = some (.int .i64 t281)) (ds := []) #[false, false, false, false, false, false, false, false, false, false, false, false, false, false, false, false, false] (by kernel_rfl) rfl rfl ⟨(blk_cell BK282.out 0).trans rfl, (blk_cell BK282.out 1).trans rfl⟩ (fun hHeld => ?_); refine with_tabW laws_FnDates.tab17 laws_FnDates.bits17 (fun HT_ HW_ => ?_)
           generalize w75.drew = w76 at BK266 BK282 HB hHeld ⊢
           refine pur (i := 1) (N := some 104) #[false, true, false, false, false, false, false, false, false, false, false, false, false, false, false, false, false] (any_of HT_.out (by kernel_rfl)) ?_
           refine tak2 (i := 0) (N := some 103) #[true, true, false, false, false, false, false, false, false, false, false, false, false, false, false, false, false] (take_ofW HT_.out HW_.out (by kernel_rfl)) hHeld ?_
           refine one_ (i := 2) (N := some 105) #[true, true, true, false, false, false, false, false, false, false, false, false, false, false, false, false, false] rfl rfl (one_of HT_.out (by kernel_rfl)) (by decide) (fun K hK => ?_)
           refine goes_ Tryd.func36 (by kernel_rfl) rfl #[.string t279] (by rfl) rfl rfl glm ?_
           with_reducible refine (spec_DateRead.calls kj18 t279 t283 t284 _ A66.out).mono ?_
           rintro e w77 ⟨rfl, hb⟩
           refine ⟨_, rfl, ?_⟩
           have n0_ := bkb BK266 hb
           have n1_ := bkb BK282 hb
           have n2_ := bst hb
           clear BK266
           clear BK282
           clear HB
           have BK266 := n0_
           have BK282 := n1_
           have HB := n2_
           clear n0_ n1_ n2_
           (try clear hb)
           (try clear hb2)
           (try clear hk)
           (try clear hi)
           refine hK.out _ _ ⟨(blk_cell BK282.out 0).trans rfl, (blk_cell BK282.out 1).trans rfl⟩ (fun hHeld => ?_)
           clear hK K
           refine norm_ (a' := ?_) ?_ ?_
           rotate_left
           ·
            show Act.put _ (some 105) _ = _
            simp only [Act.put, List.setIfInBounds_toArray, List.set_cons_zero, List.set_cons_succ, i64_w, i32_w]
            rfl
           refine pur (i := 3) (N := some 106) #[true, true, true, true, false, false, false, false, false, false, false, false, false, false, false, false, false] (any_of HT_.out (by kernel_rfl)) ?_
           refine pur (i := 4) (N := some 107) #[true, true, true, true, true, false, false, false, false, false, false, false, false, false, false, false, false] (any_of HT_.out (by kernel_rfl)) ?_
           refine pur (i := 5) (N := some 108) #[true, true, true, true, true, true, false, false, false, false, false, false, false, false, false, false, false] (any_of HT_.out (by kernel_rfl)) ?_
           refine tak2 (i := 6) (N := some 109) #[true, true, true, true, true, true, true, false, false, false, false, false, false, false, false, false, false] (take_ofW HT_.out HW_.out (by kernel_rfl)) hHeld ?_
           refine pur (i := 7) (N := some 110) #[true, true, true, true, true, true, true, true, false, false, false, false, false, false, false, false, false] (any_of HT_.out (by kernel_rfl)) ?_
           refine pur (i := 8) (N := some 111) #[true, true, true, true, true, true, true, true, true, false, false, false, false, false, false, false, false] (any_of HT_.out (by kernel_rfl)) ?_
           refine pur (i := 9) (N := some 112) #[true, true, true, true, true, true, true, true, true, true, false, false, false, false, false, false, false] (any_of HT_.out (by kernel_rfl)) ?_
           refine pur (i := 12) (N := some 115) #[true, true, true, true, true, true, true, true, true, true, false, false, true, false, false, false, false] (any_of HT_.out (by kernel_rfl)) ?_
           refine tak2 (i := 10) (N := some 113) #[true, true, true, true, true, true, true, true, true, true, true, false, true, false, false, false, false] (take_ofW HT_.out HW_.out (by kernel_rfl)) hHeld ?_
           refine one_ (i := 11) (N := some 114) #[true, true, true, true, true, true, true, true, true, true, true, true, true, false, false, false, false] rfl rfl (one_of HT_.out (by kernel_rfl)) (by decide) (fun K hK => ?_)
           refine goes_ Tryd.func43 (by kernel_rfl) rfl #[.int .i64 t280] (by rfl) rfl rfl glm ?_
           with_reducible refine (impl_DateText.calls kj18 t280 t285 _ ?side1 A69.out).mono ?_
           (case side1 => exact Ld.below HLd.out hbm)
           rintro e w78 ⟨rfl, hb⟩
           refine ⟨_, rfl, ?_⟩
           have n0_ := bkb BK266 hb
           have n1_ := bkb BK282 hb
           have n2_ := bst hb
           clear BK266
           clear BK282
           clear HB
           have BK266 := n0_
           have BK282 := n1_
           have HB := n2_
           clear n0_ n1_ n2_
           (try clear hb)
           (try clear hb2)
           (try clear hk)
           (try clear hi)
           refine hK.out _ _ ⟨(blk_cell BK282.out 0).trans rfl, (blk_cell BK282.out 1).trans rfl⟩ (fun hHeld => ?_)
           clear hK K
           refine norm_ (a' := ?_) ?_ ?_
           rotate_left
           ·
            show Act.put _ (some 114) _ = _
            simp only [Act.put, List.setIfInBounds_toArray, List.set_cons_zero, List.set_cons_succ, i64_w, i32_w]
            rfl
           refine pur (i := 13) (N := some 116) #[true, true, true, true, true, true, true, true, true, true, true, true, true, true, false, false, false] (any_of HT_.out (by kernel_rfl)) ?_
           refine pur (i := 14) (N := some 117) #[true, true, true, true, true, true, true, true, true, true, true, true, true, true, true, false, false] (any_of HT_.out (by kernel_rfl)) ?_
           refine pur (i := 15) (N := some 118) #[true, true, true, true, true, true, true, true, true, true, true, true, true, true, true, true, false] (any_of HT_.out (by kernel_rfl)) ?_
           refine pur (i := 16) (N := some 4) #[true, true, true, true, true, true, true, true, true, true, true, true, true, true, true, true, true] (any_of HT_.out (by kernel_rfl)) ?_
           refine done_ (done_of HT_.out (by kernel_rfl)) ?_
           try go_wp2
           go_ret
           exact ⟨rfm, hbm⟩
          ·
           rw [if_neg c68] at H
           have c68b0 : (t281 == 0) = false := beq_eq_false_iff_ne.mpr c68
           have c68b1 : (t281 != 0) = true := bne_iff_ne.mpr c68
           obtain rfl := Option.some.inj H
           try go_wp2_with (first | ((with_reducible refine gate_callee (f := 44) rfl ?_); refine goesL_ (some 100) rfl rfl Tryd.func44 (by kernel_rfl) rfl #[.slice A1 l1.length c1] rfl glm ?_; (with_reducible refine (spec_DrawDateRead.calls kj18 _ _ l1 t279 _ ?side1 ?side2 A64.out).mono ?_); (case side1 => exact csb (Kd.C_below HR1.out HB.out)); (case side2 => exact HC1.out); rintro e w79 ⟨rfl, hb⟩; refine ⟨_, rfl, ?_⟩; have n0_ := bkb BK266 hb; have n1_ := bst hb; clear BK266; clear HB; have BK266 := n0_; have HB := n1_; clear n0_ n1_; (try clear hb); (try clear hb2); (try clear hk); (try clear hi)) | ((with_reducible refine gate_callee (f := 37) rfl ?_); refine goesL_ (some 102) rfl rfl Tryd.func37 (by kernel_rfl) rfl #[.string t279] rfl glm ?_; (with_reducible refine (impl_DateRead.calls kj18 t279 t280 t281 _ ?side1 A65.out).mono ?_); (case side1 => exact Ld.below HLd.out hbm); rintro e w80 ⟨rfl, hb⟩; refine ⟨_, rfl, ?_⟩; have n0_ := bkb BK266 hb; have n1_ := bst hb; clear BK266; clear HB; have BK266 := n0_; have HB := n1_; clear n0_ n1_; (try clear hb); (try clear hb2); (try clear hk); (try clear hi)) | ((with_reducible refine gate_dst (N := 11) rfl ?_); (try (refine gate_guard (by rfl) ?_; dsimp only)); refine bxe (N := 11) (cs := #[.int .i64 0, .int .i64 0]) (t := 69) ?_; intro gb282 hg w81 hbox hb; have n0_ := bkb BK266 hb; have n1_ := bst hb; have n2_ := Aside0.mk (hbox); have n3_ := (bsz hg : Aside0 (w.heap.size ≤ gb282)); have n4_ := n3_; have n5_ := (bkn BK266 hg : Aside0 (gb266 ≠ gb282)); have n6_ := Aside0.mk n5_.out.symm; clear BK266; clear HB; have BK266 := n0_; have HB := n1_; have BK282 := n2_; have GW282 := n3_; have GE282 := n4_; have NB266_282 := n5_; have NB282_266 := n6_; clear n0_ n1_ n2_ n3_ n4_ n5_ n6_; clear hb hbox hg; have hnb82 := NB282_266.out; have hnc82 := NB266_282.out; obtain ⟨hcz83_0, hcz83_1, hfz83_0, hfz83_1⟩ := bc2 BK282.out))
           have n0_ : Aside0 (((w81.setCell ⟨gb282, 0, none⟩ (.int .i64 t280)).setCell ⟨gb282, 1, none⟩ (.int .i64 t281)).heap[gb266]? = some (.cells #[.int .i64 t263, .int .i64 t264, .int .i64 t265] 74 (0, 0))) := ⟨by (with_reducible repeat (first | apply blk_drewN | apply blk_drew | apply blk_alloc)); refine blk_far ?_ NB266_282.out _; (with_reducible repeat (first | apply blk_drewN | apply blk_drew | apply blk_alloc)); refine blk_far ?_ NB266_282.out _; (with_reducible repeat (first | apply blk_drewN | apply blk_drew | apply blk_alloc)); exact BK266.out⟩
           have n1_ : Aside0 (((w81.setCell ⟨gb282, 0, none⟩ (.int .i64 t280)).setCell ⟨gb282, 1, none⟩ (.int .i64 t281)).heap[gb282]? = some (.cells #[.int .i64 t280, .int .i64 t281] 69 (0, 0))) := ⟨by (with_reducible repeat (first | apply blk_drewN | apply blk_drew | apply blk_alloc)); refine blk_put (cs := #[.int .i64 t280, .int .i64 0]) ?_ 1 _ rfl; (with_reducible repeat (first | apply blk_drewN | apply blk_drew | apply blk_alloc)); refine blk_put (cs := #[.int .i64 0, .int .i64 0]) ?_ 0 _ rfl; (with_reducible repeat (first | apply blk_drewN | apply blk_drew | apply blk_alloc)); exact BK282.out⟩
           have n2_ : Aside0 (Below w.heap.size w ((w81.setCell ⟨gb282, 0, none⟩ (.int .i64 t280)).setCell ⟨gb282, 1, none⟩ (.int .i64 t281))) := ⟨hbm⟩
           (try clear BK266)
           (try clear BK282)
           (try clear HB)
           generalize ((w81.setCell ⟨gb282, 0, none⟩ (.int .i64 t280)).setCell ⟨gb282, 1, none⟩ (.int .i64 t281)) = w84 at n0_ n1_ n2_ ⊢
           have BK266 := n0_
           have BK282 := n1_
           have HB := n2_
           clear n0_ n1_ n2_
           have n0_ := Aside0.mk (blk_drew BK266.out)
           have n1_ := Aside0.mk (blk_drew BK282.out)
           have n2_ := Aside0.mk (below_drew1 HB.out)
           clear BK266
           clear BK282
           clear HB
           have BK266 := n0_
           have BK282 := n1_
           have HB := n2_
           clear n0_ n1_ n2_
           refine start_ (n := 17) (S := fun w' => w'.cell? ⟨gb282, 0, none⟩ = some (.int .i64 t280) ∧ w'.cell? ⟨gb282, 1, none⟩ = some (.int .i64 t281)) (ds := []) #[false, false, false, false, false, false, false, false, false, false, false, false, false, false, false, false, false] (by kernel_rfl) rfl rfl ⟨(blk_cell BK282.out 0).trans rfl, (blk_cell BK282.out 1).trans rfl⟩ (fun hHeld => ?_); refine with_tabW laws_FnDates.tab17 laws_FnDates.bits17 (fun HT_ HW_ => ?_)
           generalize w84.drew = w85 at BK266 BK282 HB hHeld ⊢
           refine pur (i := 1) (N := some 104) #[false, true, false, false, false, false, false, false, false, false, false, false, false, false, false, false, false] (any_of HT_.out (by kernel_rfl)) ?_
           refine tak2 (i := 0) (N := some 103) #[true, true, false, false, false, false, false, false, false, false, false, false, false, false, false, false, false] (take_ofW HT_.out HW_.out (by kernel_rfl)) hHeld ?_
           refine one_ (i := 2) (N := some 105) #[true, true, true, false, false, false, false, false, false, false, false, false, false, false, false, false, false] rfl rfl (one_of HT_.out (by kernel_rfl)) (by decide) (fun K hK => ?_)
           refine goes_ Tryd.func36 (by kernel_rfl) rfl #[.string t279] (by rfl) rfl rfl glm ?_
           with_reducible refine (spec_DateRead.calls kj18 t279 t283 t284 _ A66.out).mono ?_
           rintro e w86 ⟨rfl, hb⟩
           refine ⟨_, rfl, ?_⟩
           have n0_ := bkb BK266 hb
           have n1_ := bkb BK282 hb
           have n2_ := bst hb
           clear BK266
           clear BK282
           clear HB
           have BK266 := n0_
           have BK282 := n1_
           have HB := n2_
           clear n0_ n1_ n2_
           (try clear hb)
           (try clear hb2)
           (try clear hk)
           (try clear hi)
           refine hK.out _ _ ⟨(blk_cell BK282.out 0).trans rfl, (blk_cell BK282.out 1).trans rfl⟩ (fun hHeld => ?_)
           clear hK K
           refine norm_ (a' := ?_) ?_ ?_
           rotate_left
           ·
            show Act.put _ (some 105) _ = _
            simp only [Act.put, List.setIfInBounds_toArray, List.set_cons_zero, List.set_cons_succ, i64_w, i32_w]
            rfl
           refine pur (i := 3) (N := some 106) #[true, true, true, true, false, false, false, false, false, false, false, false, false, false, false, false, false] (any_of HT_.out (by kernel_rfl)) ?_
           refine pur (i := 4) (N := some 107) #[true, true, true, true, true, false, false, false, false, false, false, false, false, false, false, false, false] (any_of HT_.out (by kernel_rfl)) ?_
           refine pur (i := 5) (N := some 108) #[true, true, true, true, true, true, false, false, false, false, false, false, false, false, false, false, false] (any_of HT_.out (by kernel_rfl)) ?_
           refine tak2 (i := 6) (N := some 109) #[true, true, true, true, true, true, true, false, false, false, false, false, false, false, false, false, false] (take_ofW HT_.out HW_.out (by kernel_rfl)) hHeld ?_
           refine pur (i := 7) (N := some 110) #[true, true, true, true, true, true, true, true, false, false, false, false, false, false, false, false, false] (any_of HT_.out (by kernel_rfl)) ?_
           refine pur (i := 8) (N := some 111) #[true, true, true, true, true, true, true, true, true, false, false, false, false, false, false, false, false] (any_of HT_.out (by kernel_rfl)) ?_
           refine pure_ (i := 9) (N := some 112) (v := undef) (a' := ?_) #[true, true, true, true, true, true, true, true, true, true, false, false, false, false, false, false, false] rfl rfl (any_of HT_.out (by kernel_rfl)) (fun _ _ _ h => h) (Or.inr ⟨by rfl, rfl⟩) ?_ ?_
           rotate_left
           ·
            simp only [Act.put, List.setIfInBounds_toArray, List.set_cons_zero, List.set_cons_succ, i64_w, i32_w]
            rfl
           refine pure_ (i := 10) (N := some 113) (v := undef) (a' := ?_) #[true, true, true, true, true, true, true, true, true, true, true, false, false, false, false, false, false] rfl rfl (any_of HT_.out (by kernel_rfl)) (fun _ _ _ h => h) (Or.inr ⟨by rfl, rfl⟩) ?_ ?_
           rotate_left
           ·
            simp only [Act.put, List.setIfInBounds_toArray, List.set_cons_zero, List.set_cons_succ, i64_w, i32_w]
            rfl
           refine pure_ (i := 11) (N := some 114) (v := undef) (a' := ?_) #[true, true, true, true, true, true, true, true, true, true, true, true, false, false, false, false, false] rfl rfl (any_of HT_.out (by kernel_rfl)) (fun _ _ _ h => h) (Or.inr ⟨by rfl, rfl⟩) ?_ ?_
           rotate_left
           ·
            simp only [Act.put, List.setIfInBounds_toArray, List.set_cons_zero, List.set_cons_succ, i64_w, i32_w]
            rfl
           refine pure_ (i := 12) (N := some 115) (v := undef) (a' := ?_) #[true, true, true, true, true, true, true, true, true, true, true, true, true, false, false, false, false] rfl rfl (any_of HT_.out (by kernel_rfl)) (fun _ _ _ h => h) (Or.inr ⟨by rfl, rfl⟩) ?_ ?_
           rotate_left
           ·
            simp only [Act.put, List.setIfInBounds_toArray, List.set_cons_zero, List.set_cons_succ, i64_w, i32_w]
            rfl
           refine pure_ (i := 13) (N := some 116) (v := undef) (a' := ?_) #[true, true, true, true, true, true, true, true, true, true, true, true, true, true, false, false, false] rfl rfl (any_of HT_.out (by kernel_rfl)) (fun _ _ _ h => h) (Or.inr ⟨by rfl, rfl⟩) ?_ ?_
           rotate_left
           ·
            simp only [Act.put, List.setIfInBounds_toArray, List.set_cons_zero, List.set_cons_succ, i64_w, i32_w]
            rfl
           refine pur (i := 14) (N := some 117) #[true, true, true, true, true, true, true, true, true, true, true, true, true, true, true, false, false] (any_of HT_.out (by kernel_rfl)) ?_
           refine pur (i := 15) (N := some 118) #[true, true, true, true, true, true, true, true, true, true, true, true, true, true, true, true, false] (any_of HT_.out (by kernel_rfl)) ?_
           refine pur (i := 16) (N := some 4) #[true, true, true, true, true, true, true, true, true, true, true, true, true, true, true, true, true] (any_of HT_.out (by kernel_rfl)) ?_
           refine done_ (done_of HT_.out (by kernel_rfl)) ?_
           try go_wp2
           go_ret
           exact ⟨rfm, hbm⟩
         ·
          rw [if_neg c67] at H
          have c67b0 : (t280 == t283 && (t281 == t284)) = false := by simpa using c67
          (try (have c67b1 : decide (t280 = t283 && (t281 == t284)) = false := by simpa using c67))
          (try (have c67b2 : (t280 == t283 && (t281 == t284)) = false := by simpa using c67))
          (try (have c67b3 : ¬ (t280 = t283 && (t281 == t284)) := by simpa using c67))
          clear c67
          exact absurd H (by simp)

end Go.Proofs.YtidlcolgiololaaDoor.S
