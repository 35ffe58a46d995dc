/- Proved: each Go function named here answers as its plain Lean function says, in whatever memory; no condition. Written by a program of this session over the print of the kit. -/
import Derived.Test.YtidlcolgiololaaDoorSq
import Derived.Test.YtidlcolgiololaaDoorS0
namespace Go.Proofs.YtidlcolgiololaaDoor.S
open Go.RowKit Go.Proofs.YtidlcolgiololaaDoorW.PrintWords Go.Proofs.YtidlcolgiololaaDoorW.PrintLast Go.Proofs.YtidlcolgiololaaDoorW.PrintMore
attribute [local go_sem] max2_int min2_int max_two min_two max_three min_three max_four min_four   -- for this text's walks alone
set_option linter.unusedVariables false
set_option linter.unusedSimpArgs false

/-! ### spec_l02Plain: function 102 -/
mutual
def spec_l02Plain.l0 : Nat → ByteArray → Int → Int → Int → Option (Int × Bool)
 | 0, _, _, _, _ => none
 | k + 1, x0, x4, x5, x6 => if x6 < (x0.size : Int) then (if 0 ≤ x6 then (if (bt x0 x6) ≥ 48 then (spec_l02Plain.j1 k x0 x4 x5 x6 (decide ((bt x0 x6) ≤ 57))) else (spec_l02Plain.j1 k x0 x4 x5 x6 false)) else (none)) else (some (x4, true))
def spec_l02Plain.j1 : Nat → ByteArray → Int → Int → Int → Bool → Option (Int × Bool)
 | 0, _, _, _, _, _ => none
 | k + 1, x0, x4, x5, x6, x22 => if x22 = true then (if 0 ≤ x6 then (if x6 < (x0.size : Int) then (spec_l02Plain.j2 k x0 (wrap64 ((wrap64 (10 * x4)) + (((bt x0 x6) - 48) % 256))) (wrap64 (x5 + 1)) x6) else (none)) else (none)) else (spec_l02Plain.j2 k x0 x4 x5 x6)
def spec_l02Plain.j2 : Nat → ByteArray → Int → Int → Int → Option (Int × Bool)
 | 0, _, _, _, _ => none
 | k + 1, x0, x4, x5, x6 => if x5 > 17 then (some (0, false)) else (spec_l02Plain.l0 k x0 x4 x5 (wrap64 (x6 + 1)))
end
def spec_l02Plain.f (k : Nat) (a0 : ByteArray) : Option (Int × Bool) := spec_l02Plain.l0 k a0 0 0 0
theorem spec_l02Plain.mono_l : ∀ k, (∀ y0 y1 y2 y3, LeO (spec_l02Plain.l0 k y0 y1 y2 y3) (spec_l02Plain.l0 (k + 1) y0 y1 y2 y3)) ∧ (∀ y0 y1 y2 y3 y4, LeO (spec_l02Plain.j1 k y0 y1 y2 y3 y4) (spec_l02Plain.j1 (k + 1) y0 y1 y2 y3 y4)) ∧ (∀ y0 y1 y2 y3, LeO (spec_l02Plain.j2 k y0 y1 y2 y3) (spec_l02Plain.j2 (k + 1) y0 y1 y2 y3))
 | 0 => ⟨fun _ _ _ _ r h => by simp [spec_l02Plain.l0] at h, fun _ _ _ _ _ r h => by simp [spec_l02Plain.j1] at h, fun _ _ _ _ r h => by simp [spec_l02Plain.j2] at h⟩
 | k + 1 => by
  obtain ⟨ih0, ih1, ih2⟩ := spec_l02Plain.mono_l k
  refine ⟨?_, ?_, ?_⟩
  ·
   intro y0 y1 y2 y3
   unfold spec_l02Plain.l0
   repeat' first
   | (with_reducible exact ih0 _ _ _ _)
   | (with_reducible exact ih1 _ _ _ _ _)
   | (with_reducible exact ih2 _ _ _ _)
   | (with_reducible exact LeO.refl _)
   | (with_reducible exact LeO.none _)
   | (with_reducible refine LeO.ite ?_ ?_)
   | (with_reducible refine LeO.bind ?_ (fun _ => ?_))
   | exact ih0 _ _ _ _
   | exact ih1 _ _ _ _ _
   | exact ih2 _ _ _ _
   | exact LeO.none _
   | refine LeO.ite ?_ ?_
   | refine LeO.bind ?_ (fun _ => ?_)
  ·
   intro y0 y1 y2 y3 y4
   unfold spec_l02Plain.j1
   repeat' first
   | (with_reducible exact ih0 _ _ _ _)
   | (with_reducible exact ih1 _ _ _ _ _)
   | (with_reducible exact ih2 _ _ _ _)
   | (with_reducible exact LeO.refl _)
   | (with_reducible exact LeO.none _)
   | (with_reducible refine LeO.ite ?_ ?_)
   | (with_reducible refine LeO.bind ?_ (fun _ => ?_))
   | exact ih0 _ _ _ _
   | exact ih1 _ _ _ _ _
   | exact ih2 _ _ _ _
   | exact LeO.none _
   | refine LeO.ite ?_ ?_
   | refine LeO.bind ?_ (fun _ => ?_)
  ·
   intro y0 y1 y2 y3
   unfold spec_l02Plain.j2
   repeat' first
   | (with_reducible exact ih0 _ _ _ _)
   | (with_reducible exact ih1 _ _ _ _ _)
   | (with_reducible exact ih2 _ _ _ _)
   | (with_reducible exact LeO.refl _)
   | (with_reducible exact LeO.none _)
   | (with_reducible refine LeO.ite ?_ ?_)
   | (with_reducible refine LeO.bind ?_ (fun _ => ?_))
   | exact ih0 _ _ _ _
   | exact ih1 _ _ _ _ _
   | exact ih2 _ _ _ _
   | exact LeO.none _
   | refine LeO.ite ?_ ?_
   | refine LeO.bind ?_ (fun _ => ?_)
theorem spec_l02Plain.mono : ∀ a0 k, LeO (spec_l02Plain.f k a0) (spec_l02Plain.f (k + 1) a0) := by
 intro a0 k
 obtain ⟨ih0, ih1, ih2⟩ := spec_l02Plain.mono_l k
 unfold spec_l02Plain.f
 repeat' first
   | (with_reducible exact ih0 _ _ _ _)
   | (with_reducible exact ih1 _ _ _ _ _)
   | (with_reducible exact ih2 _ _ _ _)
   | (with_reducible exact LeO.refl _)
   | (with_reducible exact LeO.none _)
   | (with_reducible refine LeO.ite ?_ ?_)
   | (with_reducible refine LeO.bind ?_ (fun _ => ?_))
   | exact ih0 _ _ _ _
   | exact ih1 _ _ _ _ _
   | exact ih2 _ _ _ _
   | exact LeO.none _
   | refine LeO.ite ?_ ?_
   | refine LeO.bind ?_ (fun _ => ?_)
set_option maxHeartbeats 8000000 in
set_option maxRecDepth 100000 in
theorem spec_l02Plain.calls (k : Nat) (a0 : ByteArray) (r1 : Int) (r2 : Bool) (w : World) (h : spec_l02Plain.f k a0 = some (r1, r2)) :
  Calls Tryd.prog 102 #[.string a0] w fun e w' => e = .returned (.tuple #[.int .i64 r1, .bool r2]) ∧ Drawn0 w w' := by
 have H : (spec_l02Plain.l0 k a0 0 0 0) = some (r1, r2) := h
 clear h
 have H' := Aside0.mk H
 clear H
 go_enter Tryd.func102, Tryd.ntmps102
 go_wp2
 go_loopg [4, 5, 6] k (fun kq v4 v5 v6 w' => ∃ (x4_1 : Int) (x5_1 : Int) (x6_1 : Int), v4 = .int .i64 x4_1 ∧ v5 = .int .i64 x5_1 ∧ v6 = .int .i64 x6_1 ∧ Aside0 (spec_l02Plain.l0 kq a0 x4_1 x5_1 x6_1 = some (r1, r2)) ∧ Aside0 (kq ≤ k) ∧ Drawn0 w w')
 case atStart => exact ⟨(0), (0), (0), (by first | rfl | (simp; done) | (simp [*]; done)), (by first | rfl | (simp; done) | (simp [*]; done)), (by first | rfl | (simp; done) | (simp [*]; done)), H', ⟨Nat.le_refl _⟩, drm⟩
 case round =>
  clear H'
  try clear c1
  obtain ⟨x4_1, x5_1, x6_1, rfl, rfl, rfl, HA, HK1, ⟨m1, rfl⟩⟩ := hrel
  cases gk with
  | zero => exact absurd HA.out (by simp [spec_l02Plain.l0])
  | succ k1 =>
   have H := HA.out
   clear HA
   simp only [spec_l02Plain.l0] at H
   by_cases c2 : x6_1 < (a0.size : Int)
   ·
    rw [if_pos c2] at H
    have c2b0 : decide (x6_1 < (a0.size : Int)) = true := decide_eq_true c2
    clear c2
    have HC3 := Aside0.mk H
    clear H
    go_upto_region 6 with (fail)
    go_cut [22] (fun v22 wc => ∃ (kq : Nat) (x22_2 : Bool), v22 = .bool x22_2 ∧ Aside0 (spec_l02Plain.j1 kq a0 x4_1 x5_1 x6_1 x22_2 = some (r1, r2)) ∧ Aside0 (kq ≤ k1) ∧ Drawn0 w wc)
    case first =>
     have H := HC3.out
     clear HC3
     by_cases c4 : 0 ≤ x6_1
     ·
      rw [if_pos c4] at H
      have c4b0 : decide (0 ≤ x6_1) = true := decide_eq_true c4
      clear c4
      (first | rw [c4b0] | (simp only [i64_w, i32_w]; rw [c4b0]) | skip)
      by_cases c6 : (bt a0 x6_1) ≥ 48
      ·
       rw [if_pos c6] at H
       have c6b0 : decide (48 ≤ (bt a0 x6_1)) = true := decide_eq_true c6
       clear c6
       have H' := Aside0.mk H
       clear H
       have p5 : 0 ≤ (x6_1 : Int) := of_decide_eq_true asm_
       have q5 : x6_1 < (a0.size : Int) := of_decide_eq_true asm_
       have hx5 := bt_at a0 x6_1
       replace p5 := eq_true p5
       replace q5 := eq_true q5
       have p7 : 0 ≤ (x6_1 : Int) := of_decide_eq_true asm_
       have q7 : x6_1 < (a0.size : Int) := of_decide_eq_true asm_
       have hx7 := bt_at a0 x6_1
       replace p7 := eq_true p7
       replace q7 := eq_true q7
       go_wp2
       go_meet
       case rel => exact ⟨_, (decide ((bt a0 x6_1) ≤ 57)), (by first | rfl | (simp; done) | (simp [*]; done)), H', ⟨by have := HK1.out; first | omega | exact Nat.le_refl _⟩, drm⟩
      ·
       rw [if_neg c6] at H
       have c6b0 : decide (48 ≤ (bt a0 x6_1)) = false := decide_eq_false c6
       clear c6
       have H' := Aside0.mk H
       clear H
       have p5 : 0 ≤ (x6_1 : Int) := of_decide_eq_true asm_
       have q5 : x6_1 < (a0.size : Int) := of_decide_eq_true asm_
       have hx5 := bt_at a0 x6_1
       replace p5 := eq_true p5
       replace q5 := eq_true q5
       go_wp2
       go_meet
       case rel => exact ⟨_, (false), (by first | rfl | (simp; done) | (simp [*]; done)), H', ⟨by have := HK1.out; first | omega | exact Nat.le_refl _⟩, drm⟩
     ·
      rw [if_neg c4] at H
      exact absurd H (by simp)
    case rest =>
     clear HC3
     try clear c1; try clear c2; try clear c2b0; try clear p2; try clear c4; try clear c4b0; try clear p5 p5; try clear q5 q5; try clear hx5; try clear c6; try clear c6b0; try clear p7 p7; try clear q7 q7; try clear hx7
     obtain ⟨kq, x22_2, rfl, HA, HJ2, ⟨mc2, rfl⟩⟩ := hcut
     cases kq with
     | zero => exact absurd HA.out (by simp [spec_l02Plain.j1])
     | succ kj2 =>
      have H := HA.out
      clear HA
      simp only [spec_l02Plain.j1] at H
      have HC8 := Aside0.mk H
      clear H
      go_upto_if 22 with (fail)
      go_cut [4, 5] (fun v4 v5 wc => ∃ (kq : Nat) (x4_7 : Int) (x5_7 : Int), v4 = .int .i64 x4_7 ∧ v5 = .int .i64 x5_7 ∧ Aside0 (spec_l02Plain.j2 kq a0 x4_7 x5_7 x6_1 = some (r1, r2)) ∧ Aside0 (kq ≤ kj2) ∧ Drawn0 w wc)
      case first =>
       have H := HC8.out
       clear HC8
       by_cases c9 : x22_2 = true
       ·
        subst c9
        have H1 : (if 0 ≤ x6_1 then (if x6_1 < (a0.size : Int) then (spec_l02Plain.j2 kj2 a0 (wrap64 ((wrap64 (10 * x4_1)) + (((bt a0 x6_1) - 48) % 256))) (wrap64 (x5_1 + 1)) x6_1) else (none)) else (none)) = some (r1, r2) := by rw [if_pos rfl] at H; exact H
        clear H
        have H := H1
        clear H1
        by_cases c10 : 0 ≤ x6_1
        ·
         rw [if_pos c10] at H
         have c10b0 : decide (0 ≤ x6_1) = true := decide_eq_true c10
         clear c10
         (first | rw [c10b0] | (simp only [i64_w, i32_w]; rw [c10b0]) | skip)
         by_cases c11 : x6_1 < (a0.size : Int)
         ·
          rw [if_pos c11] at H
          have c11b0 : decide (x6_1 < (a0.size : Int)) = true := decide_eq_true c11
          clear c11
          have H' := Aside0.mk H
          clear H
          have p12 : 0 ≤ (x6_1 : Int) := of_decide_eq_true asm_
          have q12 : x6_1 < (a0.size : Int) := of_decide_eq_true asm_
          have hx12 := bt_at a0 x6_1
          replace p12 := eq_true p12
          replace q12 := eq_true q12
          go_wp2
          go_meet
          case rel => exact ⟨_, (wrap64 ((wrap64 (10 * x4_1)) + (((bt a0 x6_1) - 48) % 256))), (wrap64 (x5_1 + 1)), (by first | rfl | (simp; done) | (simp [*]; done)), (by first | rfl | (simp; done) | (simp [*]; done)), H', ⟨by have := HK1.out; have := HJ2.out; first | omega | exact Nat.le_refl _⟩, drm⟩
         ·
          rw [if_neg c11] at H
          exact absurd H (by simp)
        ·
         rw [if_neg c10] at H
         exact absurd H (by simp)
       ·
        replace c9 := Bool.eq_false_iff.mpr c9
        subst c9
        have H1 : (spec_l02Plain.j2 kj2 a0 x4_1 x5_1 x6_1) = some (r1, r2) := by rw [if_neg (show ¬ (false = true) by decide)] at H; exact H
        clear H
        have H := H1
        clear H1
        have H' := Aside0.mk H
        clear H
        go_wp2
        go_meet
        case rel => exact ⟨_, (x4_1), (x5_1), (by first | rfl | (simp; done) | (simp [*]; done)), (by first | rfl | (simp; done) | (simp [*]; done)), H', ⟨by have := HK1.out; have := HJ2.out; first | omega | exact Nat.le_refl _⟩, drm⟩
      case rest =>
       clear HC8
       try clear c1; try clear p1; try clear q1; try clear hx1; try clear c2; try clear c2b0; try clear p2 p2; try clear c4; try clear c4b0; try clear p5 p5; try clear q5 q5; try clear hx5; try clear c6; try clear c6b0; try clear p6; try clear p7 p7; try clear q7 q7; try clear hx7; try clear c9; try clear c10; try clear c10b0; try clear c11; try clear c11b0; try clear p12 p12; try clear q12 q12; try clear hx12
       obtain ⟨kq, x4_7, x5_7, rfl, rfl, HA, HJ7, ⟨mc7, rfl⟩⟩ := hcut
       cases kq with
       | zero => exact absurd HA.out (by simp [spec_l02Plain.j2])
       | succ kj7 =>
        have H := HA.out
        clear HA
        simp only [spec_l02Plain.j2] at H
        by_cases c13 : x5_7 > 17
        ·
         rw [if_pos c13] at H
         have c13b0 : decide (17 < x5_7) = true := decide_eq_true c13
         clear c13
         simp only [Option.some.injEq, Prod.mk.injEq] at H
         obtain ⟨rfl, rfl⟩ := H
         go_wp2
         go_ret2
         exact ⟨by first | rfl | (simp; done) | (simp [*]; done), drm⟩
        ·
         rw [if_neg c13] at H
         have c13b0 : decide (17 < x5_7) = false := decide_eq_false c13
         clear c13
         have H' := Aside0.mk H
         clear H
         go_wp2
         go_roundg kj7
         case measure => have := HK1.out; have := HJ2.out; have := HJ7.out; omega
         case rel => exact ⟨(x4_7), (x5_7), (wrap64 (x6_1 + 1)), (by first | rfl | (simp; done) | (simp [*]; done)), (by first | rfl | (simp; done) | (simp [*]; done)), (by first | rfl | (simp; done) | (simp [*]; done)), H', ⟨by have := HK1.out; have := HJ2.out; have := HJ7.out; omega⟩, drm⟩
   ·
    rw [if_neg c2] at H
    have c2b0 : decide (x6_1 < (a0.size : Int)) = false := decide_eq_false c2
    clear c2
    simp only [Option.some.injEq, Prod.mk.injEq] at H
    obtain ⟨rfl, rfl⟩ := H
    go_wp2
    go_ret2
    exact ⟨by first | rfl | (simp; done) | (simp [*]; done), drm⟩

/-! ### spec_l03Len: function 111 -/
def spec_l03Len.j0 : Nat → Bool → Option (Int)
 | 0, _ => none
 | k + 1, x11 => if x11 = true then (some 30) else (some 31)
def spec_l03Len.f (k : Nat) (a0 : Int) (a1 : Int) : Option (Int) := if a1 = 2 then (if (Int.tmod a0 4) = 0 then (some 29) else (some 28)) else (if a1 = 4 then (spec_l03Len.j0 k (a1 == 4)) else (if a1 = 6 then (spec_l03Len.j0 k (a1 == 6)) else (if a1 = 9 then (spec_l03Len.j0 k (a1 == 9)) else (spec_l03Len.j0 k (a1 == 11)))))
theorem spec_l03Len.mono_l : ∀ k, (∀ y0, LeO (spec_l03Len.j0 k y0) (spec_l03Len.j0 (k + 1) y0))
 | 0 => fun _ r h => by simp [spec_l03Len.j0] at h
 | k + 1 => by
  have ih0 := spec_l03Len.mono_l k
  ·
   intro y0
   unfold spec_l03Len.j0
   repeat' first
   | (with_reducible exact ih0 _)
   | (with_reducible exact LeO.refl _)
   | (with_reducible exact LeO.none _)
   | (with_reducible refine LeO.ite ?_ ?_)
   | (with_reducible refine LeO.bind ?_ (fun _ => ?_))
   | exact ih0 _
   | exact LeO.none _
   | refine LeO.ite ?_ ?_
   | refine LeO.bind ?_ (fun _ => ?_)
theorem spec_l03Len.mono : ∀ a0 a1 k, LeO (spec_l03Len.f k a0 a1) (spec_l03Len.f (k + 1) a0 a1) := by
 intro a0 a1 k
 have ih0 := spec_l03Len.mono_l k
 unfold spec_l03Len.f
 repeat' first
   | (with_reducible exact ih0 _)
   | (with_reducible exact LeO.refl _)
   | (with_reducible exact LeO.none _)
   | (with_reducible refine LeO.ite ?_ ?_)
   | (with_reducible refine LeO.bind ?_ (fun _ => ?_))
   | exact ih0 _
   | exact LeO.none _
   | refine LeO.ite ?_ ?_
   | refine LeO.bind ?_ (fun _ => ?_)
set_option maxHeartbeats 8000000 in
set_option maxRecDepth 100000 in
theorem spec_l03Len.calls (k : Nat) (a0 : Int) (a1 : Int) (r : Int) (w : World) (h : spec_l03Len.f k a0 a1 = some r) :
  Calls Tryd.prog 111 #[.int .i64 a0, .int .i64 a1] w fun e w' => e = .returned (.int .i64 r) ∧ Drawn0 w w' := by
 have H : (if a1 = 2 then (if (Int.tmod a0 4) = 0 then (some 29) else (some 28)) else (if a1 = 4 then (spec_l03Len.j0 k (a1 == 4)) else (if a1 = 6 then (spec_l03Len.j0 k (a1 == 6)) else (if a1 = 9 then (spec_l03Len.j0 k (a1 == 9)) else (spec_l03Len.j0 k (a1 == 11)))))) = some r := h
 clear h
 by_cases c3 : a1 = 2
 ·
  rw [if_pos c3] at H
  have c3b0 : (a1 == 2) = true := beq_iff_eq.mpr c3
  have c3b1 : (a1 != 2) = false := bne_eq_false_iff_eq.mpr c3
  clear c3
  by_cases c4 : (Int.tmod a0 4) = 0
  ·
   rw [if_pos c4] at H
   have c4b0 : ((Int.tmod a0 4) == 0) = true := beq_iff_eq.mpr c4
   have c4b1 : ((Int.tmod a0 4) != 0) = false := bne_eq_false_iff_eq.mpr c4
   clear c4
   obtain rfl := Option.some.inj H
   go_enter Tryd.func111, Tryd.ntmps111
   go_wp2
   go_ret
   exact ⟨by first | rfl | (simp; done) | (simp [*]; done), drm⟩
  ·
   rw [if_neg c4] at H
   have c4b0 : ((Int.tmod a0 4) == 0) = false := beq_eq_false_iff_ne.mpr c4
   have c4b1 : ((Int.tmod a0 4) != 0) = true := bne_iff_ne.mpr c4
   obtain rfl := Option.some.inj H
   go_enter Tryd.func111, Tryd.ntmps111
   go_wp2
   go_ret
   exact ⟨by first | rfl | (simp; done) | (simp [*]; done), drm⟩
 ·
  rw [if_neg c3] at H
  have c3b0 : (a1 == 2) = false := beq_eq_false_iff_ne.mpr c3
  have c3b1 : (a1 != 2) = true := bne_iff_ne.mpr c3
  have HC5 := Aside0.mk H
  clear H
  go_enter Tryd.func111, Tryd.ntmps111
  go_upto_if 11 with (fail)
  go_cut [11] (fun v11 wc => ∃ (kq : Nat) (x11_4 : Bool), v11 = .bool x11_4 ∧ Aside0 (spec_l03Len.j0 kq x11_4 = some r) ∧ Aside0 (kq ≤ k) ∧ Drawn0 w wc)
  case first =>
   have H := HC5.out
   clear HC5
   by_cases c6 : a1 = 4
   ·
    rw [if_pos c6] at H
    have c6b0 : (a1 == 4) = true := beq_iff_eq.mpr c6
    have c6b1 : (a1 != 4) = false := bne_eq_false_iff_eq.mpr c6
    clear c6
    (first | rw [c6b0] | (simp only [i64_w, i32_w]; rw [c6b0]) | skip)
    have H' := Aside0.mk H
    clear H
    go_wp2
    go_meet
    case rel => exact ⟨_, ((a1 == 4)), (by first | rfl | (simp; done) | (simp [*]; done)), H', ⟨by first | omega | exact Nat.le_refl _⟩, drm⟩
   ·
    rw [if_neg c6] at H
    have c6b0 : (a1 == 4) = false := beq_eq_false_iff_ne.mpr c6
    have c6b1 : (a1 != 4) = true := bne_iff_ne.mpr c6
    (first | rw [c6b0] | (simp only [i64_w, i32_w]; rw [c6b0]) | skip)
    by_cases c7 : a1 = 6
    ·
     rw [if_pos c7] at H
     have c7b0 : (a1 == 6) = true := beq_iff_eq.mpr c7
     have c7b1 : (a1 != 6) = false := bne_eq_false_iff_eq.mpr c7
     clear c7
     have H' := Aside0.mk H
     clear H
     go_wp2
     go_meet
     case rel => exact ⟨_, ((a1 == 6)), (by first | rfl | (simp; done) | (simp [*]; done)), H', ⟨by first | omega | exact Nat.le_refl _⟩, drm⟩
    ·
     rw [if_neg c7] at H
     have c7b0 : (a1 == 6) = false := beq_eq_false_iff_ne.mpr c7
     have c7b1 : (a1 != 6) = true := bne_iff_ne.mpr c7
     by_cases c8 : a1 = 9
     ·
      rw [if_pos c8] at H
      have c8b0 : (a1 == 9) = true := beq_iff_eq.mpr c8
      have c8b1 : (a1 != 9) = false := bne_eq_false_iff_eq.mpr c8
      clear c8
      have H' := Aside0.mk H
      clear H
      go_wp2
      go_meet
      case rel => exact ⟨_, ((a1 == 9)), (by first | rfl | (simp; done) | (simp [*]; done)), H', ⟨by first | omega | exact Nat.le_refl _⟩, drm⟩
     ·
      rw [if_neg c8] at H
      have c8b0 : (a1 == 9) = false := beq_eq_false_iff_ne.mpr c8
      have c8b1 : (a1 != 9) = true := bne_iff_ne.mpr c8
      have H' := Aside0.mk H
      clear H
      go_wp2
      go_meet
      case rel => exact ⟨_, ((a1 == 11)), (by first | rfl | (simp; done) | (simp [*]; done)), H', ⟨by first | omega | exact Nat.le_refl _⟩, drm⟩
  case rest =>
   clear HC5
   try clear c1; try clear p2; try clear c3; try clear c3b0; try clear c3b1; try clear c4; try clear c4b0; try clear c4b1; try clear c6; try clear c6b0; try clear c6b1; try clear c7; try clear c7b0; try clear c7b1; try clear c8; try clear c8b0; try clear c8b1
   obtain ⟨kq, x11_4, rfl, HA, HJ4, ⟨mc4, rfl⟩⟩ := hcut
   cases kq with
   | zero => exact absurd HA.out (by simp [spec_l03Len.j0])
   | succ kj4 =>
    have H := HA.out
    clear HA
    simp only [spec_l03Len.j0] at H
    by_cases c9 : x11_4 = true
    ·
     subst c9
     have H1 : (some 30) = some r := by rw [if_pos rfl] at H; exact H
     clear H
     have H := H1
     clear H1
     obtain rfl := Option.some.inj H
     go_wp2
     go_ret
     exact ⟨by first | rfl | (simp; done) | (simp [*]; done), drm⟩
    ·
     replace c9 := Bool.eq_false_iff.mpr c9
     subst c9
     have H1 : (some 31) = some r := by rw [if_neg (show ¬ (false = true) by decide)] at H; exact H
     clear H
     have H := H1
     clear H1
     obtain rfl := Option.some.inj H
     go_wp2
     go_ret
     exact ⟨by first | rfl | (simp; done) | (simp [*]; done), drm⟩

/-! ### spec_l03Head: function 110 -/
def spec_l03Head.f (a0 : Int) : Option (Int) := some (wrap64 ((wrap64 (365 * (wrap64 (a0 - 2000)))) + (wrap64 (Int.tdiv (wrap64 ((wrap64 (a0 - 2000)) + 3)) 4))))
set_option maxHeartbeats 8000000 in
set_option maxRecDepth 100000 in
theorem spec_l03Head.calls (a0 : Int) (r : Int) (w : World) (h : spec_l03Head.f a0 = some r) :
  Calls Tryd.prog 110 #[.int .i64 a0] w fun e w' => e = .returned (.int .i64 r) ∧ Drawn0 w w' := by
 have H : (some (wrap64 ((wrap64 (365 * (wrap64 (a0 - 2000)))) + (wrap64 (Int.tdiv (wrap64 ((wrap64 (a0 - 2000)) + 3)) 4))))) = some r := h
 clear h
 obtain rfl := Option.some.inj H
 go_enter Tryd.func110, Tryd.ntmps110
 go_wp2
 go_ret
 exact ⟨by first | rfl | (simp; done) | (simp [*]; done), drm⟩

/-! ### spec_l03Day: function 162 -/
def spec_l03Day.l0 : Nat → Int → Int → Int → Int → Int → Option (Int)
 | 0, _, _, _, _, _ => none
 | k + 1, x3, x4, x102000, x102001, x102002 => if x4 < x102001 then ((spec_l03Len.f k x102000 x4).bind fun t103 => (spec_l03Day.l0 k (wrap64 (x3 + t103)) (wrap64 (x4 + 1)) x102000 x102001 x102002)) else (some (wrap64 ((wrap64 (x3 + x102002)) - 1)))
def spec_l03Day.f (k : Nat) (a0_0 : Int) (a0_1 : Int) (a0_2 : Int) : Option (Int) := (spec_l03Head.f a0_0).bind fun t102 => (spec_l03Day.l0 k t102 1 a0_0 a0_1 a0_2)
theorem spec_l03Day.mono_l : ∀ k, (∀ y0 y1 y2 y3 y4, LeO (spec_l03Day.l0 k y0 y1 y2 y3 y4) (spec_l03Day.l0 (k + 1) y0 y1 y2 y3 y4))
 | 0 => fun _ _ _ _ _ r h => by simp [spec_l03Day.l0] at h
 | k + 1 => by
  have ih0 := spec_l03Day.mono_l k
  ·
   intro y0 y1 y2 y3 y4
   unfold spec_l03Day.l0
   repeat' first
   | (with_reducible exact ih0 _ _ _ _ _)
   | (with_reducible exact spec_l03Len.mono _ _ _)
   | (with_reducible exact LeO.refl _)
   | (with_reducible exact LeO.none _)
   | (with_reducible refine LeO.ite ?_ ?_)
   | (with_reducible refine LeO.bind ?_ (fun _ => ?_))
   | exact ih0 _ _ _ _ _
   | exact spec_l03Len.mono _ _ _
   | exact LeO.none _
   | refine LeO.ite ?_ ?_
   | refine LeO.bind ?_ (fun _ => ?_)
theorem spec_l03Day.mono : ∀ a0 a1 a2 k, LeO (spec_l03Day.f k a0 a1 a2) (spec_l03Day.f (k + 1) a0 a1 a2) := by
 intro a0 a1 a2 k
 have ih0 := spec_l03Day.mono_l k
 unfold spec_l03Day.f
 repeat' first
   | (with_reducible exact ih0 _ _ _ _ _)
   | (with_reducible exact spec_l03Len.mono _ _ _)
   | (with_reducible exact LeO.refl _)
   | (with_reducible exact LeO.none _)
   | (with_reducible refine LeO.ite ?_ ?_)
   | (with_reducible refine LeO.bind ?_ (fun _ => ?_))
   | exact ih0 _ _ _ _ _
   | exact spec_l03Len.mono _ _ _
   | exact LeO.none _
   | refine LeO.ite ?_ ?_
   | refine LeO.bind ?_ (fun _ => ?_)
set_option maxHeartbeats 8000000 in
set_option maxRecDepth 100000 in
theorem spec_l03Day.calls (k : Nat) (a0_0 : Int) (a0_1 : Int) (a0_2 : Int) (r : Int) (w : World) (h : spec_l03Day.f k a0_0 a0_1 a0_2 = some r) :
  Calls Tryd.prog 162 #[.agg #[.int .i64 a0_0, .int .i64 a0_1, .int .i64 a0_2]] w fun e w' => e = .returned (.int .i64 r) ∧ Below w.heap.size w w' := by
 have hu74 := Tryd.underlying74
 have HB := Aside0.mk (Below.refl w.heap.size w)
 have H : ((spec_l03Head.f a0_0).bind fun t102 => (spec_l03Day.l0 k t102 1 a0_0 a0_1 a0_2)) = some r := h
 clear h
 replace H := Option.bind_eq_some_iff.mp H
 obtain ⟨t102, A20, H⟩ := H
 (try dsimp only at H)
 have A2 := Aside0.mk A20
 clear A20
 have H' := Aside0.mk H
 clear H
 go_enter Tryd.func162, Tryd.ntmps162
 go_wp2_with (first | ((with_reducible refine gate_dst (N := 1) rfl ?_); refine bxe (N := 1) (cs := #[.int .i64 a0_0, .int .i64 a0_1, .int .i64 a0_2]) (t := 74) ?_; intro gb101 hg w3 hbox hb; have n0_ := bst hb; have n1_ := Aside0.mk (hbox); have n2_ := (bsz hg : Aside0 (w.heap.size ≤ gb101)); have n3_ := n2_; clear HB; have HB := n0_; have BK101 := n1_; have GW101 := n2_; have GE101 := n3_; clear n0_ n1_ n2_ n3_; clear hb hbox hg; obtain ⟨hcz4_0, hcz4_1, hcz4_2, hfz4_0, hfz4_1, hfz4_2⟩ := bc3 BK101.out) | ((with_reducible refine gate_callee (f := 110) rfl ?_); refine goesL_ (some 7) rfl rfl Tryd.func110 (by kernel_rfl) rfl #[.int .i64 a0_0] rfl glm ?_; (with_reducible refine (spec_l03Head.calls a0_0 t102 _ A2.out).mono ?_); rintro e w' ⟨rfl, ⟨nd, rfl⟩⟩; refine ⟨_, rfl, ?_⟩))
 go_loopg [3, 4] k (fun kq v3 v4 w' => ∃ (x3_1 : Int) (x4_1 : Int), v3 = .int .i64 x3_1 ∧ v4 = .int .i64 x4_1 ∧ Aside0 (spec_l03Day.l0 kq x3_1 x4_1 a0_0 a0_1 a0_2 = some r) ∧ Aside0 (kq ≤ k) ∧ Aside0 (w'.heap[gb101]? = some (.cells #[.int .i64 a0_0, .int .i64 a0_1, .int .i64 a0_2] 74 (0, 0))) ∧ Aside0 (Below w.heap.size w w'))
 case atStart => exact ⟨(t102), (1), (by first | rfl | (simp; done) | (simp [*]; done)), (by first | rfl | (simp; done) | (simp [*]; done)), H', ⟨Nat.le_refl _⟩, ⟨by (with_reducible repeat (first | apply blk_drewN | apply blk_drew | apply blk_alloc)); exact BK101.out⟩, ⟨hbm⟩⟩
 case round =>
  clear H'
  try clear c1; try clear p2; try clear hcz4_0 hcz4_1 hcz4_2 hfz4_0 hfz4_1 hfz4_2
  obtain ⟨x3_1, x4_1, rfl, rfl, HA, HK1, BK101, HB⟩ := hrel
  cases gk with
  | zero => exact absurd HA.out (by simp [spec_l03Day.l0])
  | succ k1 =>
   have H := HA.out
   clear HA
   simp only [spec_l03Day.l0] at H
   by_cases c5 : x4_1 < a0_1
   ·
    rw [if_pos c5] at H
    have c5b0 : decide (x4_1 < a0_1) = true := decide_eq_true c5
    clear c5
    replace H := Option.bind_eq_some_iff.mp H
    obtain ⟨t103, A60, H⟩ := H
    (try dsimp only at H)
    have A6 := Aside0.mk A60
    clear A60
    have H' := Aside0.mk H
    clear H
    obtain ⟨hcz7_0, hcz7_1, hcz7_2, hfz7_0, hfz7_1, hfz7_2⟩ := bc3 BK101.out
    go_wp2_with (first | ((with_reducible refine gate_callee (f := 111) rfl ?_); refine goesL_ (some 18) rfl rfl Tryd.func111 (by kernel_rfl) rfl #[.int .i64 a0_0, .int .i64 x4_1] rfl glm ?_; (with_reducible refine (spec_l03Len.calls k1 a0_0 x4_1 t103 _ A6.out).mono ?_); rintro e w' ⟨rfl, ⟨nd, rfl⟩⟩; refine ⟨_, rfl, ?_⟩))
    go_roundg k1
    case measure => have := HK1.out; omega
    case rel => exact ⟨(wrap64 (x3_1 + t103)), (wrap64 (x4_1 + 1)), (by first | rfl | (simp; done) | (simp [*]; done)), (by first | rfl | (simp; done) | (simp [*]; done)), H', ⟨by have := HK1.out; omega⟩, ⟨by (with_reducible repeat (first | apply blk_drewN | apply blk_drew | apply blk_alloc)); exact BK101.out⟩, ⟨hbm⟩⟩
   ·
    rw [if_neg c5] at H
    have c5b0 : decide (x4_1 < a0_1) = false := decide_eq_false c5
    clear c5
    obtain rfl := Option.some.inj H
    obtain ⟨hcz8_0, hcz8_1, hcz8_2, hfz8_0, hfz8_1, hfz8_2⟩ := bc3 BK101.out
    go_wp2
    go_ret
    exact ⟨rfm, hbm⟩

end Go.Proofs.YtidlcolgiololaaDoor.S
