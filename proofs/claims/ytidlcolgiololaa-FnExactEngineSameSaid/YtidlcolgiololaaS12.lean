/- Proved: each Go function named here answers as its plain Lean function says, in whatever memory; no condition. Written by a program of this session over the print of the kit. -/
import Derived.Test.YtidlcolgiololaaSq
import Derived.Test.YtidlcolgiololaaS0
import Derived.Test.YtidlcolgiololaaS2
import Derived.Test.YtidlcolgiololaaS3
import Derived.Test.YtidlcolgiololaaS11
namespace Go.Proofs.Ytidlcolgiololaa.S
open Go.RowKit Go.Proofs.YtidlcolgiololaaW.PrintWords Go.Proofs.YtidlcolgiololaaW.PrintLast Go.Proofs.YtidlcolgiololaaW.PrintMore
attribute [local go_sem] max2_int min2_int max_two min_two max_three min_three max_four min_four   -- for this text's walks alone
set_option linter.unusedVariables false
set_option linter.unusedSimpArgs false

attribute [local go_sem high] eqA126 eqA133
/-! ### impl_Param: function 102 -/
def impl_Param.l0 : Nat → List (S126) → List (S126) → Int → Int → Option (Bool)
 | 0, _, _, _, _ => none
 | k + 1, x0, x1, x12, x13 => if x13 < x12 then (if 0 ≤ x13 then (if x13 < (x0.length : Int) then (if x13 < (x1.length : Int) then (if (!((((rd_T126 x0 x13).f0).toList) == (((rd_T126 x1 x13).f0).toList)) || (!(((rd_T126 x0 x13).f1) == ((rd_T126 x1 x13).f1)) || (!(((rd_T126 x0 x13).f2) == ((rd_T126 x1 x13).f2)) || (!(((rd_T126 x0 x13).f3) == ((rd_T126 x1 x13).f3)))))) = true then (some false) else (impl_Param.l0 k x0 x1 x12 (wrap64 (x13 + 1)))) else (none)) else (none)) else (none)) else (some true)
def impl_Param.f (k : Nat) (l0 : List (S126)) (l1 : List (S126)) : Option (Bool) := if (l0.length : Int) = (l1.length : Int) then (impl_Param.l0 k l0 l1 (l0.length : Int) 0) else (some false)
theorem impl_Param.mono_l : ∀ k, (∀ y0 y1 y2 y3, LeO (impl_Param.l0 k y0 y1 y2 y3) (impl_Param.l0 (k + 1) y0 y1 y2 y3))
 | 0 => fun _ _ _ _ r h => by simp [impl_Param.l0] at h
 | k + 1 => by
  have ih0 := impl_Param.mono_l k
  ·
   intro y0 y1 y2 y3
   unfold impl_Param.l0
   repeat' first
   | (with_reducible exact ih0 _ _ _ _)
   | (with_reducible exact LeO.refl _)
   | (with_reducible exact LeO.none _)
   | (with_reducible refine LeO.ite ?_ ?_)
   | (with_reducible refine LeO.bind ?_ (fun _ => ?_))
   | exact ih0 _ _ _ _
   | exact LeO.none _
   | refine LeO.ite ?_ ?_
   | refine LeO.bind ?_ (fun _ => ?_)
theorem impl_Param.mono : ∀ a0 a1 k, LeO (impl_Param.f k a0 a1) (impl_Param.f (k + 1) a0 a1) := by
 intro a0 a1 k
 have ih0 := impl_Param.mono_l k
 unfold impl_Param.f
 repeat' first
   | (with_reducible exact ih0 _ _ _ _)
   | (with_reducible exact LeO.refl _)
   | (with_reducible exact LeO.none _)
   | (with_reducible refine LeO.ite ?_ ?_)
   | (with_reducible refine LeO.bind ?_ (fun _ => ?_))
   | exact ih0 _ _ _ _
   | exact LeO.none _
   | refine LeO.ite ?_ ?_
   | refine LeO.bind ?_ (fun _ => ?_)
set_option maxHeartbeats 8000000 in
set_option maxRecDepth 100000 in
theorem impl_Param.calls (k : Nat) (A0 : Option Addr) (c0 : Nat) (l0 : List (S126)) (A1 : Option Addr) (c1 : Nat) (l1 : List (S126)) (r : Bool) (w : World) (hr0 : Kd.C k126 w A0 l0.length l0) (hc0 : l0.length ≤ c0) (hr1 : Kd.C k126 w A1 l1.length l1) (hc1 : l1.length ≤ c1) (h : impl_Param.f k l0 l1 = some r) :
  Calls Try.prog 102 #[.slice A0 l0.length c0, .slice A1 l1.length c1] w fun e w' => e = .returned (.bool r) ∧ Drawn0 w w' := by
 have hu126 := Try.underlying126
 have HR0 := Aside0.mk hr0
 have HC0 := Aside0.mk hc0
 clear hr0 hc0
 have HR1 := Aside0.mk hr1
 have HC1 := Aside0.mk hc1
 clear hr1 hc1
 have H : (if (l0.length : Int) = (l1.length : Int) then (impl_Param.l0 k l0 l1 (l0.length : Int) 0) else (some false)) = some r := h
 clear h
 by_cases c3 : (l0.length : Int) = (l1.length : Int)
 ·
  rw [if_pos c3] at H
  have c3b0 : ((l0.length : Int) == (l1.length : Int)) = true := beq_iff_eq.mpr c3
  have c3b1 : ((l0.length : Int) != (l1.length : Int)) = false := bne_eq_false_iff_eq.mpr c3
  have c3b2 : (l0.length == l1.length) = true := by first | simpa using c3 | (simp at c3 ⊢; omega)
  clear c3
  have H' := Aside0.mk H
  clear H
  go_enter Try.func102, Try.ntmps102
  go_wp2
  repeat (go_quiet (fail); try go_wp2)
  go_loopg [13] k (fun kq v13 w' => ∃ (x13_1 : Int), v13 = .int .i64 x13_1 ∧ Aside0 (impl_Param.l0 kq l0 l1 (l0.length : Int) x13_1 = some r) ∧ Aside0 (kq ≤ k) ∧ Drawn0 w w')
  case atStart => exact ⟨(0), (by first | rfl | (simp; done) | (simp [*]; done)), H', ⟨Nat.le_refl _⟩, drm⟩
  case round =>
   clear H'
   try clear c1; try clear p2; try clear c3; try clear c3b0; try clear c3b1; try clear c3b2
   obtain ⟨x13_1, rfl, HA, HK1, ⟨m1, rfl⟩⟩ := hrel
   cases gk with
   | zero => exact absurd HA.out (by simp [impl_Param.l0])
   | succ k1 =>
    have H := HA.out
    clear HA
    simp only [impl_Param.l0] at H
    by_cases c4 : x13_1 < (l0.length : Int)
    ·
     rw [if_pos c4] at H
     have c4b0 : decide (x13_1 < (l0.length : Int)) = true := decide_eq_true c4
     clear c4
     by_cases c5 : 0 ≤ x13_1
     ·
      rw [if_pos c5] at H
      have c5b0 : decide (0 ≤ x13_1) = true := decide_eq_true c5
      clear c5
      by_cases c6 : x13_1 < (l0.length : Int)
      ·
       rw [if_pos c6] at H
       have c6b0 : decide (x13_1 < (l0.length : Int)) = true := decide_eq_true c6
       clear c6
       by_cases c7 : x13_1 < (l1.length : Int)
       ·
        rw [if_pos c7] at H
        have c7b0 : decide (x13_1 < (l1.length : Int)) = true := decide_eq_true c7
        clear c7
        by_cases c8 : (!((((rd_T126 l0 x13_1).f0).toList) == (((rd_T126 l1 x13_1).f0).toList)) || (!(((rd_T126 l0 x13_1).f1) == ((rd_T126 l1 x13_1).f1)) || (!(((rd_T126 l0 x13_1).f2) == ((rd_T126 l1 x13_1).f2)) || (!(((rd_T126 l0 x13_1).f3) == ((rd_T126 l1 x13_1).f3)))))) = true
        ·
         rw [if_pos c8] at H
         have c8b0 : (!((((rd_T126 l0 x13_1).f0).toList) == (((rd_T126 l1 x13_1).f0).toList)) || (!(((rd_T126 l0 x13_1).f1) == ((rd_T126 l1 x13_1).f1)) || (!(((rd_T126 l0 x13_1).f2) == ((rd_T126 l1 x13_1).f2)) || (!(((rd_T126 l0 x13_1).f3) == ((rd_T126 l1 x13_1).f3)))))) = true := c8
         clear c8
         obtain rfl := Option.some.inj H
         have p307 : 0 ≤ (x13_1 : Int) := of_decide_eq_true asm_
         have q307 : x13_1 < (l0.length : Int) := of_decide_eq_true asm_
         obtain ⟨ad307, e307, hx307_0, hx307_1, hx307_2, hx307_3⟩ := at_T126 HR0.out x13_1 p307 q307
         cases e307
         replace p307 := eq_true p307
         replace q307 := eq_true q307
         have p308 : 0 ≤ (x13_1 : Int) := of_decide_eq_true asm_
         have q308 : x13_1 < (l1.length : Int) := of_decide_eq_true asm_
         obtain ⟨ad308, e308, hx308_0, hx308_1, hx308_2, hx308_3⟩ := at_T126 HR1.out x13_1 p308 q308
         cases e308
         replace p308 := eq_true p308
         replace q308 := eq_true q308
         go_wp2
         repeat (go_quiet (fail); try go_wp2)
         go_ret
         exact ⟨by first | rfl | (simp; done) | (simp [*]; done), drm⟩
        ·
         rw [if_neg c8] at H
         have c8b0 : (!((((rd_T126 l0 x13_1).f0).toList) == (((rd_T126 l1 x13_1).f0).toList)) || (!(((rd_T126 l0 x13_1).f1) == ((rd_T126 l1 x13_1).f1)) || (!(((rd_T126 l0 x13_1).f2) == ((rd_T126 l1 x13_1).f2)) || (!(((rd_T126 l0 x13_1).f3) == ((rd_T126 l1 x13_1).f3)))))) = false := by simpa using c8
         clear c8
         have H' := Aside0.mk H
         clear H
         have p307 : 0 ≤ (x13_1 : Int) := of_decide_eq_true asm_
         have q307 : x13_1 < (l0.length : Int) := of_decide_eq_true asm_
         obtain ⟨ad307, e307, hx307_0, hx307_1, hx307_2, hx307_3⟩ := at_T126 HR0.out x13_1 p307 q307
         cases e307
         replace p307 := eq_true p307
         replace q307 := eq_true q307
         have p308 : 0 ≤ (x13_1 : Int) := of_decide_eq_true asm_
         have q308 : x13_1 < (l1.length : Int) := of_decide_eq_true asm_
         obtain ⟨ad308, e308, hx308_0, hx308_1, hx308_2, hx308_3⟩ := at_T126 HR1.out x13_1 p308 q308
         cases e308
         replace p308 := eq_true p308
         replace q308 := eq_true q308
         go_wp2
         repeat (go_quiet (fail); try go_wp2)
         go_roundg k1
         case measure => have := HK1.out; omega
         case rel => exact ⟨(wrap64 (x13_1 + 1)), (by first | rfl | (simp; done) | (simp [*]; done)), H', ⟨by have := HK1.out; omega⟩, drm⟩
       ·
        rw [if_neg c7] at H
        exact absurd H (by simp)
      ·
       rw [if_neg c6] at H
       exact absurd H (by simp)
     ·
      rw [if_neg c5] at H
      exact absurd H (by simp)
    ·
     rw [if_neg c4] at H
     have c4b0 : decide (x13_1 < (l0.length : Int)) = false := decide_eq_false c4
     clear c4
     obtain rfl := Option.some.inj H
     go_wp2
     repeat (go_quiet (fail); try go_wp2)
     go_ret
     exact ⟨by first | rfl | (simp; done) | (simp [*]; done), drm⟩
 ·
  rw [if_neg c3] at H
  have c3b0 : ((l0.length : Int) == (l1.length : Int)) = false := beq_eq_false_iff_ne.mpr c3
  have c3b1 : ((l0.length : Int) != (l1.length : Int)) = true := bne_iff_ne.mpr c3
  have c3b2 : (l0.length == l1.length) = false := by first | simpa using c3 | (simp at c3 ⊢; omega)
  obtain rfl := Option.some.inj H
  go_enter Try.func102, Try.ntmps102
  go_wp2
  repeat (go_quiet (fail); try go_wp2)
  go_ret
  exact ⟨by first | rfl | (simp; done) | (simp [*]; done), drm⟩

/-! ### impl_sameFace: function 77 -/
def impl_sameFace.f (k : Nat) (a0_0 : ByteArray) (a0_1 : Int) (l0_2 : List ByteArray) (l0_3 : List ByteArray) (l0_4 : List (S126)) (l0_5 : List (S133)) (l0_6 : List (S133)) (l0_7 : List (S133)) (a1_0 : ByteArray) (a1_1 : Int) (l1_2 : List ByteArray) (l1_3 : List ByteArray) (l1_4 : List (S126)) (l1_5 : List (S133)) (l1_6 : List (S133)) (l1_7 : List (S133)) : Option (Bool) := if a0_1 = a1_1 then ((slices_Equal_string_string.f k l0_2 l1_2).bind fun t311 => (if t311 = true then ((slices_Equal_string_string.f k l0_3 l1_3).bind fun t312 => (if t312 = true then ((impl_Param.f k l0_4 l1_4).bind fun t313 => (some t313)) else (some false))) else (some false))) else (some false)
theorem impl_sameFace.mono : ∀ a0 a1 a2 a3 a4 a5 a6 a7 a8 a9 a10 a11 a12 a13 a14 a15 k, LeO (impl_sameFace.f k a0 a1 a2 a3 a4 a5 a6 a7 a8 a9 a10 a11 a12 a13 a14 a15) (impl_sameFace.f (k + 1) a0 a1 a2 a3 a4 a5 a6 a7 a8 a9 a10 a11 a12 a13 a14 a15) := by
 intro a0 a1 a2 a3 a4 a5 a6 a7 a8 a9 a10 a11 a12 a13 a14 a15 k
 unfold impl_sameFace.f
 repeat' first
   | (with_reducible exact impl_Param.mono _ _ _)
   | (with_reducible exact slices_Equal_string_string.mono _ _ _)
   | (with_reducible exact LeO.refl _)
   | (with_reducible exact LeO.none _)
   | (with_reducible refine LeO.ite ?_ ?_)
   | (with_reducible refine LeO.bind ?_ (fun _ => ?_))
   | exact impl_Param.mono _ _ _
   | exact slices_Equal_string_string.mono _ _ _
   | exact LeO.none _
   | refine LeO.ite ?_ ?_
   | refine LeO.bind ?_ (fun _ => ?_)
theorem impl_sameFace.m0 {P : Prop} (h : P := by
  go_enter Try.func77, Try.ntmps77
  go_wp2_with (first | ((with_reducible refine gate_dst (N := 2) rfl ?_); refine bxe (N := 2) (cs := #[.string a0_0, .int .i64 a0_1, .slice A0_2 l0_2.length c0_2, .slice A0_3 l0_3.length c0_3, .slice A0_4 l0_4.length c0_4, .slice A0_5 l0_5.length c0_5, .slice A0_6 l0_6.length c0_6, .slice A0_7 l0_7.length c0_7]) (t := 79) ?_; intro gb309 hg wq1 hbox hb; have n0_ := bst hb; have n1_ := Aside0.mk (hbox); have n2_ := (bsz hg : Aside0 (w.heap.size ≤ gb309)); have n3_ := n2_; clear HB; have HB := n0_; have BK309 := n1_; have GW309 := n2_; have GE309 := n3_; clear n0_ n1_ n2_ n3_; clear hb hbox hg) | ((with_reducible refine gate_dst (N := 3) rfl ?_); refine bxe (N := 3) (cs := #[.string a1_0, .int .i64 a1_1, .slice A1_2 l1_2.length c1_2, .slice A1_3 l1_3.length c1_3, .slice A1_4 l1_4.length c1_4, .slice A1_5 l1_5.length c1_5, .slice A1_6 l1_6.length c1_6, .slice A1_7 l1_7.length c1_7]) (t := 79) ?_; intro gb310 hg wq1 hbox hb; have n0_ := bkb BK309 hb; have n1_ := bst hb; have n2_ := Aside0.mk (hbox); have n3_ := (bsz hg : Aside0 (w.heap.size ≤ gb310)); have n4_ := n3_; have n5_ := (bkn BK309 hg : Aside0 (gb309 ≠ gb310)); have n6_ := Aside0.mk n5_.out.symm; clear BK309; clear HB; have BK309 := n0_; have HB := n1_; have BK310 := n2_; have GW310 := n3_; have GE310 := n4_; have NB309_310 := n5_; have NB310_309 := n6_; clear n0_ n1_ n2_ n3_ n4_ n5_ n6_; clear hb hbox hg; have hnbq1 := NB309_310.out; have hncq1 := NB310_309.out; obtain ⟨hczq1_0, hczq1_1, hczq1_2, hczq1_3, hczq1_4, hczq1_5, hczq1_6, hczq1_7, hfzq1_0, hfzq1_1, hfzq1_2, hfzq1_3, hfzq1_4, hfzq1_5, hfzq1_6, hfzq1_7⟩ := bc8 BK309.out; obtain ⟨hczq2_0, hczq2_1, hczq2_2, hczq2_3, hczq2_4, hczq2_5, hczq2_6, hczq2_7, hfzq2_0, hfzq2_1, hfzq2_2, hfzq2_3, hfzq2_4, hfzq2_5, hfzq2_6, hfzq2_7⟩ := bc8 BK310.out) | (go_at_call 44; (with_reducible refine (slices_Equal_string_string.calls k _ _ l0_2 _ _ l1_2 false _ ?side1 ?side2 ?side3 ?side4 A4.out).mono ?_); (case side1 => exact csb (Kd.C_below HR0_2.out HB.out)); (case side2 => exact HC0_2.out); (case side3 => exact csb (Kd.C_below HR1_2.out HB.out)); (case side4 => exact HC1_2.out); rintro e w' ⟨rfl, ⟨nd, rfl⟩⟩) | (go_at_call 44; (with_reducible refine (slices_Equal_string_string.calls k _ _ l0_2 _ _ l1_2 true _ ?side1 ?side2 ?side3 ?side4 A4.out).mono ?_); (case side1 => exact csb (Kd.C_below HR0_2.out HB.out)); (case side2 => exact HC0_2.out); (case side3 => exact csb (Kd.C_below HR1_2.out HB.out)); (case side4 => exact HC1_2.out); rintro e w' ⟨rfl, ⟨nd, rfl⟩⟩) | (go_at_call 44; (with_reducible refine (slices_Equal_string_string.calls k _ _ l0_3 _ _ l1_3 false _ ?side1 ?side2 ?side3 ?side4 A6.out).mono ?_); (case side1 => repeat (first | exact (Kd.C_below HR0_3.out hbm) | (with_reducible refine Kd.C_alloc ?_ _) | (with_reducible refine Kd.C_drewN ?_ _) | (with_reducible refine Kd.C_drew ?_))); (case side2 => exact HC0_3.out); (case side3 => repeat (first | exact (Kd.C_below HR1_3.out hbm) | (with_reducible refine Kd.C_alloc ?_ _) | (with_reducible refine Kd.C_drewN ?_ _) | (with_reducible refine Kd.C_drew ?_))); (case side4 => exact HC1_3.out); rintro e w' ⟨rfl, ⟨nd, rfl⟩⟩) | (go_at_call 44; (with_reducible refine (slices_Equal_string_string.calls k _ _ l0_3 _ _ l1_3 true _ ?side1 ?side2 ?side3 ?side4 A6.out).mono ?_); (case side1 => repeat (first | exact (Kd.C_below HR0_3.out hbm) | (with_reducible refine Kd.C_alloc ?_ _) | (with_reducible refine Kd.C_drewN ?_ _) | (with_reducible refine Kd.C_drew ?_))); (case side2 => exact HC0_3.out); (case side3 => repeat (first | exact (Kd.C_below HR1_3.out hbm) | (with_reducible refine Kd.C_alloc ?_ _) | (with_reducible refine Kd.C_drewN ?_ _) | (with_reducible refine Kd.C_drew ?_))); (case side4 => exact HC1_3.out); rintro e w' ⟨rfl, ⟨nd, rfl⟩⟩) | (go_at_call 102; (with_reducible refine (impl_Param.calls k _ _ l0_4 _ _ l1_4 t313 _ ?side1 ?side2 ?side3 ?side4 A8.out).mono ?_); (case side1 => repeat (first | exact (Kd.C_below HR0_4.out hbm) | (with_reducible refine Kd.C_alloc ?_ _) | (with_reducible refine Kd.C_drewN ?_ _) | (with_reducible refine Kd.C_drew ?_))); (case side2 => exact HC0_4.out); (case side3 => repeat (first | exact (Kd.C_below HR1_4.out hbm) | (with_reducible refine Kd.C_alloc ?_ _) | (with_reducible refine Kd.C_drewN ?_ _) | (with_reducible refine Kd.C_drew ?_))); (case side4 => exact HC1_4.out); rintro e w' ⟨rfl, ⟨nd, rfl⟩⟩))
  go_ret
  exact ⟨rfm, hbm⟩) : P := h
set_option maxHeartbeats 8000000 in
set_option maxRecDepth 100000 in
theorem impl_sameFace.calls (k : Nat) (a0_0 : ByteArray) (a0_1 : Int) (A0_2 : Option Addr) (c0_2 : Nat) (l0_2 : List ByteArray) (A0_3 : Option Addr) (c0_3 : Nat) (l0_3 : List ByteArray) (A0_4 : Option Addr) (c0_4 : Nat) (l0_4 : List (S126)) (A0_5 : Option Addr) (c0_5 : Nat) (l0_5 : List (S133)) (A0_6 : Option Addr) (c0_6 : Nat) (l0_6 : List (S133)) (A0_7 : Option Addr) (c0_7 : Nat) (l0_7 : List (S133)) (a1_0 : ByteArray) (a1_1 : Int) (A1_2 : Option Addr) (c1_2 : Nat) (l1_2 : List ByteArray) (A1_3 : Option Addr) (c1_3 : Nat) (l1_3 : List ByteArray) (A1_4 : Option Addr) (c1_4 : Nat) (l1_4 : List (S126)) (A1_5 : Option Addr) (c1_5 : Nat) (l1_5 : List (S133)) (A1_6 : Option Addr) (c1_6 : Nat) (l1_6 : List (S133)) (A1_7 : Option Addr) (c1_7 : Nat) (l1_7 : List (S133)) (r : Bool) (w : World) (hr0_2 : Kd.C Kd.string w A0_2 l0_2.length l0_2) (hc0_2 : l0_2.length ≤ c0_2) (hr0_3 : Kd.C Kd.string w A0_3 l0_3.length l0_3) (hc0_3 : l0_3.length ≤ c0_3) (hr0_4 : Kd.C k126 w A0_4 l0_4.length l0_4) (hc0_4 : l0_4.length ≤ c0_4) (hr0_5 : Kd.C k133 w A0_5 l0_5.length l0_5) (hc0_5 : l0_5.length ≤ c0_5) (hr0_6 : Kd.C k133 w A0_6 l0_6.length l0_6) (hc0_6 : l0_6.length ≤ c0_6) (hr0_7 : Kd.C k133 w A0_7 l0_7.length l0_7) (hc0_7 : l0_7.length ≤ c0_7) (hr1_2 : Kd.C Kd.string w A1_2 l1_2.length l1_2) (hc1_2 : l1_2.length ≤ c1_2) (hr1_3 : Kd.C Kd.string w A1_3 l1_3.length l1_3) (hc1_3 : l1_3.length ≤ c1_3) (hr1_4 : Kd.C k126 w A1_4 l1_4.length l1_4) (hc1_4 : l1_4.length ≤ c1_4) (hr1_5 : Kd.C k133 w A1_5 l1_5.length l1_5) (hc1_5 : l1_5.length ≤ c1_5) (hr1_6 : Kd.C k133 w A1_6 l1_6.length l1_6) (hc1_6 : l1_6.length ≤ c1_6) (hr1_7 : Kd.C k133 w A1_7 l1_7.length l1_7) (hc1_7 : l1_7.length ≤ c1_7) (h : impl_sameFace.f k a0_0 a0_1 l0_2 l0_3 l0_4 l0_5 l0_6 l0_7 a1_0 a1_1 l1_2 l1_3 l1_4 l1_5 l1_6 l1_7 = some r) :
  Calls Try.prog 77 #[.agg #[.string a0_0, .int .i64 a0_1, .slice A0_2 l0_2.length c0_2, .slice A0_3 l0_3.length c0_3, .slice A0_4 l0_4.length c0_4, .slice A0_5 l0_5.length c0_5, .slice A0_6 l0_6.length c0_6, .slice A0_7 l0_7.length c0_7], .agg #[.string a1_0, .int .i64 a1_1, .slice A1_2 l1_2.length c1_2, .slice A1_3 l1_3.length c1_3, .slice A1_4 l1_4.length c1_4, .slice A1_5 l1_5.length c1_5, .slice A1_6 l1_6.length c1_6, .slice A1_7 l1_7.length c1_7]] w fun e w' => e = .returned (.bool r) ∧ Below w.heap.size w w' := by
 have hu79 := Try.underlying79
 have HR0_2 := Aside0.mk hr0_2
 have HC0_2 := Aside0.mk hc0_2
 clear hr0_2 hc0_2
 have HR0_3 := Aside0.mk hr0_3
 have HC0_3 := Aside0.mk hc0_3
 clear hr0_3 hc0_3
 have HR0_4 := Aside0.mk hr0_4
 have HC0_4 := Aside0.mk hc0_4
 clear hr0_4 hc0_4
 have HR0_5 := Aside0.mk hr0_5
 have HC0_5 := Aside0.mk hc0_5
 clear hr0_5 hc0_5
 have HR0_6 := Aside0.mk hr0_6
 have HC0_6 := Aside0.mk hc0_6
 clear hr0_6 hc0_6
 have HR0_7 := Aside0.mk hr0_7
 have HC0_7 := Aside0.mk hc0_7
 clear hr0_7 hc0_7
 have HR1_2 := Aside0.mk hr1_2
 have HC1_2 := Aside0.mk hc1_2
 clear hr1_2 hc1_2
 have HR1_3 := Aside0.mk hr1_3
 have HC1_3 := Aside0.mk hc1_3
 clear hr1_3 hc1_3
 have HR1_4 := Aside0.mk hr1_4
 have HC1_4 := Aside0.mk hc1_4
 clear hr1_4 hc1_4
 have HR1_5 := Aside0.mk hr1_5
 have HC1_5 := Aside0.mk hc1_5
 clear hr1_5 hc1_5
 have HR1_6 := Aside0.mk hr1_6
 have HC1_6 := Aside0.mk hc1_6
 clear hr1_6 hc1_6
 have HR1_7 := Aside0.mk hr1_7
 have HC1_7 := Aside0.mk hc1_7
 clear hr1_7 hc1_7
 have HB := Aside0.mk (Below.refl w.heap.size w)
 have H : (if a0_1 = a1_1 then ((slices_Equal_string_string.f k l0_2 l1_2).bind fun t311 => (if t311 = true then ((slices_Equal_string_string.f k l0_3 l1_3).bind fun t312 => (if t312 = true then ((impl_Param.f k l0_4 l1_4).bind fun t313 => (some t313)) else (some false))) else (some false))) else (some false)) = some r := h
 clear h
 by_cases c3 : a0_1 = a1_1
 ·
  rw [if_pos c3] at H
  have c3b0 : (a0_1 == a1_1) = true := beq_iff_eq.mpr c3
  have c3b1 : (a0_1 != a1_1) = false := bne_eq_false_iff_eq.mpr c3
  clear c3
  replace H := Option.bind_eq_some_iff.mp H
  obtain ⟨t311, A40, H⟩ := H
  (try dsimp only at H)
  have A4 := Aside0.mk A40
  clear A40
  by_cases c5 : t311 = true
  ·
   subst c5
   have H1 : ((slices_Equal_string_string.f k l0_3 l1_3).bind fun t312 => (if t312 = true then ((impl_Param.f k l0_4 l1_4).bind fun t313 => (some t313)) else (some false))) = some r := by rw [if_pos rfl] at H; exact H
   clear H
   have H := H1
   clear H1
   replace H := Option.bind_eq_some_iff.mp H
   obtain ⟨t312, A60, H⟩ := H
   (try dsimp only at H)
   have A6 := Aside0.mk A60
   clear A60
   by_cases c7 : t312 = true
   ·
    subst c7
    have H1 : ((impl_Param.f k l0_4 l1_4).bind fun t313 => (some t313)) = some r := by rw [if_pos rfl] at H; exact H
    clear H
    have H := H1
    clear H1
    replace H := Option.bind_eq_some_iff.mp H
    obtain ⟨t313, A80, H⟩ := H
    (try dsimp only at H)
    have A8 := Aside0.mk A80
    clear A80
    obtain rfl := Option.some.inj H
    exact impl_sameFace.m0
   ·
    replace c7 := Bool.eq_false_iff.mpr c7
    subst c7
    have H1 : (some false) = some r := by rw [if_neg (show ¬ (false = true) by decide)] at H; exact H
    clear H
    have H := H1
    clear H1
    obtain rfl := Option.some.inj H
    exact impl_sameFace.m0
  ·
   replace c5 := Bool.eq_false_iff.mpr c5
   subst c5
   have H1 : (some false) = some r := by rw [if_neg (show ¬ (false = true) by decide)] at H; exact H
   clear H
   have H := H1
   clear H1
   obtain rfl := Option.some.inj H
   exact impl_sameFace.m0
 ·
  rw [if_neg c3] at H
  have c3b0 : (a0_1 == a1_1) = false := beq_eq_false_iff_ne.mpr c3
  have c3b1 : (a0_1 != a1_1) = true := bne_iff_ne.mpr c3
  obtain rfl := Option.some.inj H
  exact impl_sameFace.m0

/-! ### impl_Node: function 78 -/
def impl_Node.l0 : Nat → List (S133) → List (S133) → Int → Int → Option (Bool)
 | 0, _, _, _, _ => none
 | k + 1, x0, x1, x12, x13 => if x13 < x12 then (if 0 ≤ x13 then (if x13 < (x0.length : Int) then (if x13 < (x1.length : Int) then (if (!(((rd_T133 x0 x13).f0) == ((rd_T133 x1 x13).f0)) || (!((((rd_T133 x0 x13).f1).toList) == (((rd_T133 x1 x13).f1).toList)) || (!((((rd_T133 x0 x13).f2).toList) == (((rd_T133 x1 x13).f2).toList)) || (!(((rd_T133 x0 x13).f3) == ((rd_T133 x1 x13).f3)) || (!(((rd_T133 x0 x13).f4) == ((rd_T133 x1 x13).f4))))))) = true then (some false) else (impl_Node.l0 k x0 x1 x12 (wrap64 (x13 + 1)))) else (none)) else (none)) else (none)) else (some true)
def impl_Node.f (k : Nat) (l0 : List (S133)) (l1 : List (S133)) : Option (Bool) := if (l0.length : Int) = (l1.length : Int) then (impl_Node.l0 k l0 l1 (l0.length : Int) 0) else (some false)
theorem impl_Node.mono_l : ∀ k, (∀ y0 y1 y2 y3, LeO (impl_Node.l0 k y0 y1 y2 y3) (impl_Node.l0 (k + 1) y0 y1 y2 y3))
 | 0 => fun _ _ _ _ r h => by simp [impl_Node.l0] at h
 | k + 1 => by
  have ih0 := impl_Node.mono_l k
  ·
   intro y0 y1 y2 y3
   unfold impl_Node.l0
   repeat' first
   | (with_reducible exact ih0 _ _ _ _)
   | (with_reducible exact LeO.refl _)
   | (with_reducible exact LeO.none _)
   | (with_reducible refine LeO.ite ?_ ?_)
   | (with_reducible refine LeO.bind ?_ (fun _ => ?_))
   | exact ih0 _ _ _ _
   | exact LeO.none _
   | refine LeO.ite ?_ ?_
   | refine LeO.bind ?_ (fun _ => ?_)
theorem impl_Node.mono : ∀ a0 a1 k, LeO (impl_Node.f k a0 a1) (impl_Node.f (k + 1) a0 a1) := by
 intro a0 a1 k
 have ih0 := impl_Node.mono_l k
 unfold impl_Node.f
 repeat' first
   | (with_reducible exact ih0 _ _ _ _)
   | (with_reducible exact LeO.refl _)
   | (with_reducible exact LeO.none _)
   | (with_reducible refine LeO.ite ?_ ?_)
   | (with_reducible refine LeO.bind ?_ (fun _ => ?_))
   | exact ih0 _ _ _ _
   | exact LeO.none _
   | refine LeO.ite ?_ ?_
   | refine LeO.bind ?_ (fun _ => ?_)
set_option maxHeartbeats 8000000 in
set_option maxRecDepth 100000 in
theorem impl_Node.calls (k : Nat) (A0 : Option Addr) (c0 : Nat) (l0 : List (S133)) (A1 : Option Addr) (c1 : Nat) (l1 : List (S133)) (r : Bool) (w : World) (hr0 : Kd.C k133 w A0 l0.length l0) (hc0 : l0.length ≤ c0) (hr1 : Kd.C k133 w A1 l1.length l1) (hc1 : l1.length ≤ c1) (h : impl_Node.f k l0 l1 = some r) :
  Calls Try.prog 78 #[.slice A0 l0.length c0, .slice A1 l1.length c1] w fun e w' => e = .returned (.bool r) ∧ Drawn0 w w' := by
 have hu133 := Try.underlying133
 have HR0 := Aside0.mk hr0
 have HC0 := Aside0.mk hc0
 clear hr0 hc0
 have HR1 := Aside0.mk hr1
 have HC1 := Aside0.mk hc1
 clear hr1 hc1
 have H : (if (l0.length : Int) = (l1.length : Int) then (impl_Node.l0 k l0 l1 (l0.length : Int) 0) else (some false)) = some r := h
 clear h
 by_cases c3 : (l0.length : Int) = (l1.length : Int)
 ·
  rw [if_pos c3] at H
  have c3b0 : ((l0.length : Int) == (l1.length : Int)) = true := beq_iff_eq.mpr c3
  have c3b1 : ((l0.length : Int) != (l1.length : Int)) = false := bne_eq_false_iff_eq.mpr c3
  have c3b2 : (l0.length == l1.length) = true := by first | simpa using c3 | (simp at c3 ⊢; omega)
  clear c3
  have H' := Aside0.mk H
  clear H
  go_enter Try.func78, Try.ntmps78
  go_wp2
  repeat (go_quiet (fail); try go_wp2)
  go_loopg [13] k (fun kq v13 w' => ∃ (x13_1 : Int), v13 = .int .i64 x13_1 ∧ Aside0 (impl_Node.l0 kq l0 l1 (l0.length : Int) x13_1 = some r) ∧ Aside0 (kq ≤ k) ∧ Drawn0 w w')
  case atStart => exact ⟨(0), (by first | rfl | (simp; done) | (simp [*]; done)), H', ⟨Nat.le_refl _⟩, drm⟩
  case round =>
   clear H'
   try clear c1; try clear p2; try clear c3; try clear c3b0; try clear c3b1; try clear c3b2
   obtain ⟨x13_1, rfl, HA, HK1, ⟨m1, rfl⟩⟩ := hrel
   cases gk with
   | zero => exact absurd HA.out (by simp [impl_Node.l0])
   | succ k1 =>
    have H := HA.out
    clear HA
    simp only [impl_Node.l0] at H
    by_cases c4 : x13_1 < (l0.length : Int)
    ·
     rw [if_pos c4] at H
     have c4b0 : decide (x13_1 < (l0.length : Int)) = true := decide_eq_true c4
     clear c4
     by_cases c5 : 0 ≤ x13_1
     ·
      rw [if_pos c5] at H
      have c5b0 : decide (0 ≤ x13_1) = true := decide_eq_true c5
      clear c5
      by_cases c6 : x13_1 < (l0.length : Int)
      ·
       rw [if_pos c6] at H
       have c6b0 : decide (x13_1 < (l0.length : Int)) = true := decide_eq_true c6
       clear c6
       by_cases c7 : x13_1 < (l1.length : Int)
       ·
        rw [if_pos c7] at H
        have c7b0 : decide (x13_1 < (l1.length : Int)) = true := decide_eq_true c7
        clear c7
        by_cases c8 : (!(((rd_T133 l0 x13_1).f0) == ((rd_T133 l1 x13_1).f0)) || (!((((rd_T133 l0 x13_1).f1).toList) == (((rd_T133 l1 x13_1).f1).toList)) || (!((((rd_T133 l0 x13_1).f2).toList) == (((rd_T133 l1 x13_1).f2).toList)) || (!(((rd_T133 l0 x13_1).f3) == ((rd_T133 l1 x13_1).f3)) || (!(((rd_T133 l0 x13_1).f4) == ((rd_T133 l1 x13_1).f4))))))) = true
        ·
         rw [if_pos c8] at H
         have c8b0 : (!(((rd_T133 l0 x13_1).f0) == ((rd_T133 l1 x13_1).f0)) || (!((((rd_T133 l0 x13_1).f1).toList) == (((rd_T133 l1 x13_1).f1).toList)) || (!((((rd_T133 l0 x13_1).f2).toList) == (((rd_T133 l1 x13_1).f2).toList)) || (!(((rd_T133 l0 x13_1).f3) == ((rd_T133 l1 x13_1).f3)) || (!(((rd_T133 l0 x13_1).f4) == ((rd_T133 l1 x13_1).f4))))))) = true := c8
         clear c8
         obtain rfl := Option.some.inj H
         have p314 : 0 ≤ (x13_1 : Int) := of_decide_eq_true asm_
         have q314 : x13_1 < (l0.length : Int) := of_decide_eq_true asm_
         obtain ⟨ad314, e314, hx314_0, hx314_1, hx314_2, hx314_3, hx314_4⟩ := at_T133 HR0.out x13_1 p314 q314
         cases e314
         replace p314 := eq_true p314
         replace q314 := eq_true q314
         have p315 : 0 ≤ (x13_1 : Int) := of_decide_eq_true asm_
         have q315 : x13_1 < (l1.length : Int) := of_decide_eq_true asm_
         obtain ⟨ad315, e315, hx315_0, hx315_1, hx315_2, hx315_3, hx315_4⟩ := at_T133 HR1.out x13_1 p315 q315
         cases e315
         replace p315 := eq_true p315
         replace q315 := eq_true q315
         go_wp2
         repeat (go_quiet (fail); try go_wp2)
         go_ret
         exact ⟨by first | rfl | (simp; done) | (simp [*]; done), drm⟩
        ·
         rw [if_neg c8] at H
         have c8b0 : (!(((rd_T133 l0 x13_1).f0) == ((rd_T133 l1 x13_1).f0)) || (!((((rd_T133 l0 x13_1).f1).toList) == (((rd_T133 l1 x13_1).f1).toList)) || (!((((rd_T133 l0 x13_1).f2).toList) == (((rd_T133 l1 x13_1).f2).toList)) || (!(((rd_T133 l0 x13_1).f3) == ((rd_T133 l1 x13_1).f3)) || (!(((rd_T133 l0 x13_1).f4) == ((rd_T133 l1 x13_1).f4))))))) = false := by simpa using c8
         clear c8
         have H' := Aside0.mk H
         clear H
         have p314 : 0 ≤ (x13_1 : Int) := of_decide_eq_true asm_
         have q314 : x13_1 < (l0.length : Int) := of_decide_eq_true asm_
         obtain ⟨ad314, e314, hx314_0, hx314_1, hx314_2, hx314_3, hx314_4⟩ := at_T133 HR0.out x13_1 p314 q314
         cases e314
         replace p314 := eq_true p314
         replace q314 := eq_true q314
         have p315 : 0 ≤ (x13_1 : Int) := of_decide_eq_true asm_
         have q315 : x13_1 < (l1.length : Int) := of_decide_eq_true asm_
         obtain ⟨ad315, e315, hx315_0, hx315_1, hx315_2, hx315_3, hx315_4⟩ := at_T133 HR1.out x13_1 p315 q315
         cases e315
         replace p315 := eq_true p315
         replace q315 := eq_true q315
         go_wp2
         repeat (go_quiet (fail); try go_wp2)
         go_roundg k1
         case measure => have := HK1.out; omega
         case rel => exact ⟨(wrap64 (x13_1 + 1)), (by first | rfl | (simp; done) | (simp [*]; done)), H', ⟨by have := HK1.out; omega⟩, drm⟩
       ·
        rw [if_neg c7] at H
        exact absurd H (by simp)
      ·
       rw [if_neg c6] at H
       exact absurd H (by simp)
     ·
      rw [if_neg c5] at H
      exact absurd H (by simp)
    ·
     rw [if_neg c4] at H
     have c4b0 : decide (x13_1 < (l0.length : Int)) = false := decide_eq_false c4
     clear c4
     obtain rfl := Option.some.inj H
     go_wp2
     repeat (go_quiet (fail); try go_wp2)
     go_ret
     exact ⟨by first | rfl | (simp; done) | (simp [*]; done), drm⟩
 ·
  rw [if_neg c3] at H
  have c3b0 : ((l0.length : Int) == (l1.length : Int)) = false := beq_eq_false_iff_ne.mpr c3
  have c3b1 : ((l0.length : Int) != (l1.length : Int)) = true := bne_iff_ne.mpr c3
  have c3b2 : (l0.length == l1.length) = false := by first | simpa using c3 | (simp at c3 ⊢; omega)
  obtain rfl := Option.some.inj H
  go_enter Try.func78, Try.ntmps78
  go_wp2
  repeat (go_quiet (fail); try go_wp2)
  go_ret
  exact ⟨by first | rfl | (simp; done) | (simp [*]; done), drm⟩

/-! ### impl_ProductSame: function 39 -/
def impl_ProductSame.f (k : Nat) (a0_0 : ByteArray) (a0_1 : Int) (l0_2 : List ByteArray) (l0_3 : List ByteArray) (l0_4 : List (S126)) (l0_5 : List (S133)) (l0_6 : List (S133)) (l0_7 : List (S133)) (a1_0 : ByteArray) (a1_1 : Int) (l1_2 : List ByteArray) (l1_3 : List ByteArray) (l1_4 : List (S126)) (l1_5 : List (S133)) (l1_6 : List (S133)) (l1_7 : List (S133)) : Option (Bool) := if a0_0.toList = a1_0.toList then ((impl_sameFace.f k a0_0 a0_1 l0_2 l0_3 l0_4 l0_5 l0_6 l0_7 a1_0 a1_1 l1_2 l1_3 l1_4 l1_5 l1_6 l1_7).bind fun t318 => (if t318 = true then ((impl_Node.f k l0_5 l1_5).bind fun t319 => (if t319 = true then ((impl_Node.f k l0_6 l1_6).bind fun t320 => (if t320 = true then ((impl_Node.f k l0_7 l1_7).bind fun t321 => (some t321)) else (some false))) else (some false))) else (some false))) else (some false)
theorem impl_ProductSame.mono : ∀ a0 a1 a2 a3 a4 a5 a6 a7 a8 a9 a10 a11 a12 a13 a14 a15 k, LeO (impl_ProductSame.f k a0 a1 a2 a3 a4 a5 a6 a7 a8 a9 a10 a11 a12 a13 a14 a15) (impl_ProductSame.f (k + 1) a0 a1 a2 a3 a4 a5 a6 a7 a8 a9 a10 a11 a12 a13 a14 a15) := by
 intro a0 a1 a2 a3 a4 a5 a6 a7 a8 a9 a10 a11 a12 a13 a14 a15 k
 unfold impl_ProductSame.f
 repeat' first
   | (with_reducible exact impl_Node.mono _ _ _)
   | (with_reducible exact impl_sameFace.mono _ _ _ _ _ _ _ _ _ _ _ _ _ _ _ _ _)
   | (with_reducible exact LeO.refl _)
   | (with_reducible exact LeO.none _)
   | (with_reducible refine LeO.ite ?_ ?_)
   | (with_reducible refine LeO.bind ?_ (fun _ => ?_))
   | exact impl_Node.mono _ _ _
   | exact impl_sameFace.mono _ _ _ _ _ _ _ _ _ _ _ _ _ _ _ _ _
   | exact LeO.none _
   | refine LeO.ite ?_ ?_
   | refine LeO.bind ?_ (fun _ => ?_)
theorem impl_ProductSame.m0 {P : Prop} (h : P := by
  go_enter Try.func39, Try.ntmps39
  go_wp2_with (first | ((with_reducible refine gate_dst (N := 2) rfl ?_); refine bxe (N := 2) (cs := #[.string a0_0, .int .i64 a0_1, .slice A0_2 l0_2.length c0_2, .slice A0_3 l0_3.length c0_3, .slice A0_4 l0_4.length c0_4, .slice A0_5 l0_5.length c0_5, .slice A0_6 l0_6.length c0_6, .slice A0_7 l0_7.length c0_7]) (t := 79) ?_; intro gb316 hg wq1 hbox hb; have n0_ := bst hb; have n1_ := Aside0.mk (hbox); have n2_ := (bsz hg : Aside0 (w.heap.size ≤ gb316)); have n3_ := n2_; clear HB; have HB := n0_; have BK316 := n1_; have GW316 := n2_; have GE316 := n3_; clear n0_ n1_ n2_ n3_; clear hb hbox hg) | ((with_reducible refine gate_dst (N := 3) rfl ?_); refine bxe (N := 3) (cs := #[.string a1_0, .int .i64 a1_1, .slice A1_2 l1_2.length c1_2, .slice A1_3 l1_3.length c1_3, .slice A1_4 l1_4.length c1_4, .slice A1_5 l1_5.length c1_5, .slice A1_6 l1_6.length c1_6, .slice A1_7 l1_7.length c1_7]) (t := 79) ?_; intro gb317 hg wq1 hbox hb; have n0_ := bkb BK316 hb; have n1_ := bst hb; have n2_ := Aside0.mk (hbox); have n3_ := (bsz hg : Aside0 (w.heap.size ≤ gb317)); have n4_ := n3_; have n5_ := (bkn BK316 hg : Aside0 (gb316 ≠ gb317)); have n6_ := Aside0.mk n5_.out.symm; clear BK316; clear HB; have BK316 := n0_; have HB := n1_; have BK317 := n2_; have GW317 := n3_; have GE317 := n4_; have NB316_317 := n5_; have NB317_316 := n6_; clear n0_ n1_ n2_ n3_ n4_ n5_ n6_; clear hb hbox hg; have hnbq1 := NB316_317.out; have hncq1 := NB317_316.out; obtain ⟨hczq1_0, hczq1_1, hczq1_2, hczq1_3, hczq1_4, hczq1_5, hczq1_6, hczq1_7, hfzq1_0, hfzq1_1, hfzq1_2, hfzq1_3, hfzq1_4, hfzq1_5, hfzq1_6, hfzq1_7⟩ := bc8 BK316.out; obtain ⟨hczq2_0, hczq2_1, hczq2_2, hczq2_3, hczq2_4, hczq2_5, hczq2_6, hczq2_7, hfzq2_0, hfzq2_1, hfzq2_2, hfzq2_3, hfzq2_4, hfzq2_5, hfzq2_6, hfzq2_7⟩ := bc8 BK317.out) | (go_at_call 77; (with_reducible refine (impl_sameFace.calls k a0_0 a0_1 _ _ l0_2 _ _ l0_3 _ _ l0_4 _ _ l0_5 _ _ l0_6 _ _ l0_7 a1_0 a1_1 _ _ l1_2 _ _ l1_3 _ _ l1_4 _ _ l1_5 _ _ l1_6 _ _ l1_7 false _ ?side1 ?side2 ?side3 ?side4 ?side5 ?side6 ?side7 ?side8 ?side9 ?side10 ?side11 ?side12 ?side13 ?side14 ?side15 ?side16 ?side17 ?side18 ?side19 ?side20 ?side21 ?side22 ?side23 ?side24 A4.out).mono ?_); (case side1 => exact csb (Kd.C_below HR0_2.out HB.out)); (case side2 => exact HC0_2.out); (case side3 => exact csb (Kd.C_below HR0_3.out HB.out)); (case side4 => exact HC0_3.out); (case side5 => exact csb (Kd.C_below HR0_4.out HB.out)); (case side6 => exact HC0_4.out); (case side7 => exact csb (Kd.C_below HR0_5.out HB.out)); (case side8 => exact HC0_5.out); (case side9 => exact csb (Kd.C_below HR0_6.out HB.out)); (case side10 => exact HC0_6.out); (case side11 => exact csb (Kd.C_below HR0_7.out HB.out)); (case side12 => exact HC0_7.out); (case side13 => exact csb (Kd.C_below HR1_2.out HB.out)); (case side14 => exact HC1_2.out); (case side15 => exact csb (Kd.C_below HR1_3.out HB.out)); (case side16 => exact HC1_3.out); (case side17 => exact csb (Kd.C_below HR1_4.out HB.out)); (case side18 => exact HC1_4.out); (case side19 => exact csb (Kd.C_below HR1_5.out HB.out)); (case side20 => exact HC1_5.out); (case side21 => exact csb (Kd.C_below HR1_6.out HB.out)); (case side22 => exact HC1_6.out); (case side23 => exact csb (Kd.C_below HR1_7.out HB.out)); (case side24 => exact HC1_7.out); rintro e wq1 ⟨rfl, hb⟩; have n0_ := bkb BK316 hb; have n1_ := bkb BK317 hb; have n2_ := bst hb; clear BK316; clear BK317; clear HB; have BK316 := n0_; have BK317 := n1_; have HB := n2_; clear n0_ n1_ n2_; (try clear hb); (try clear hb2); (try clear hk); (try clear hi)) | (go_at_call 77; (with_reducible refine (impl_sameFace.calls k a0_0 a0_1 _ _ l0_2 _ _ l0_3 _ _ l0_4 _ _ l0_5 _ _ l0_6 _ _ l0_7 a1_0 a1_1 _ _ l1_2 _ _ l1_3 _ _ l1_4 _ _ l1_5 _ _ l1_6 _ _ l1_7 true _ ?side1 ?side2 ?side3 ?side4 ?side5 ?side6 ?side7 ?side8 ?side9 ?side10 ?side11 ?side12 ?side13 ?side14 ?side15 ?side16 ?side17 ?side18 ?side19 ?side20 ?side21 ?side22 ?side23 ?side24 A4.out).mono ?_); (case side1 => exact csb (Kd.C_below HR0_2.out HB.out)); (case side2 => exact HC0_2.out); (case side3 => exact csb (Kd.C_below HR0_3.out HB.out)); (case side4 => exact HC0_3.out); (case side5 => exact csb (Kd.C_below HR0_4.out HB.out)); (case side6 => exact HC0_4.out); (case side7 => exact csb (Kd.C_below HR0_5.out HB.out)); (case side8 => exact HC0_5.out); (case side9 => exact csb (Kd.C_below HR0_6.out HB.out)); (case side10 => exact HC0_6.out); (case side11 => exact csb (Kd.C_below HR0_7.out HB.out)); (case side12 => exact HC0_7.out); (case side13 => exact csb (Kd.C_below HR1_2.out HB.out)); (case side14 => exact HC1_2.out); (case side15 => exact csb (Kd.C_below HR1_3.out HB.out)); (case side16 => exact HC1_3.out); (case side17 => exact csb (Kd.C_below HR1_4.out HB.out)); (case side18 => exact HC1_4.out); (case side19 => exact csb (Kd.C_below HR1_5.out HB.out)); (case side20 => exact HC1_5.out); (case side21 => exact csb (Kd.C_below HR1_6.out HB.out)); (case side22 => exact HC1_6.out); (case side23 => exact csb (Kd.C_below HR1_7.out HB.out)); (case side24 => exact HC1_7.out); rintro e wq1 ⟨rfl, hb⟩; have n0_ := bkb BK316 hb; have n1_ := bkb BK317 hb; have n2_ := bst hb; clear BK316; clear BK317; clear HB; have BK316 := n0_; have BK317 := n1_; have HB := n2_; clear n0_ n1_ n2_; (try clear hb); (try clear hb2); (try clear hk); (try clear hi); obtain ⟨hczq1_0, hczq1_1, hczq1_2, hczq1_3, hczq1_4, hczq1_5, hczq1_6, hczq1_7, hfzq1_0, hfzq1_1, hfzq1_2, hfzq1_3, hfzq1_4, hfzq1_5, hfzq1_6, hfzq1_7⟩ := bc8 BK316.out; obtain ⟨hczq2_0, hczq2_1, hczq2_2, hczq2_3, hczq2_4, hczq2_5, hczq2_6, hczq2_7, hfzq2_0, hfzq2_1, hfzq2_2, hfzq2_3, hfzq2_4, hfzq2_5, hfzq2_6, hfzq2_7⟩ := bc8 BK317.out) | (go_at_call 78; (with_reducible refine (impl_Node.calls k _ _ l0_5 _ _ l1_5 false _ ?side1 ?side2 ?side3 ?side4 A6.out).mono ?_); (case side1 => exact csb (Kd.C_below HR0_5.out HB.out)); (case side2 => exact HC0_5.out); (case side3 => exact csb (Kd.C_below HR1_5.out HB.out)); (case side4 => exact HC1_5.out); rintro e w' ⟨rfl, ⟨nd, rfl⟩⟩) | (go_at_call 78; (with_reducible refine (impl_Node.calls k _ _ l0_5 _ _ l1_5 true _ ?side1 ?side2 ?side3 ?side4 A6.out).mono ?_); (case side1 => exact csb (Kd.C_below HR0_5.out HB.out)); (case side2 => exact HC0_5.out); (case side3 => exact csb (Kd.C_below HR1_5.out HB.out)); (case side4 => exact HC1_5.out); rintro e w' ⟨rfl, ⟨nd, rfl⟩⟩) | (go_at_call 78; (with_reducible refine (impl_Node.calls k _ _ l0_6 _ _ l1_6 false _ ?side1 ?side2 ?side3 ?side4 A8.out).mono ?_); (case side1 => repeat (first | exact (Kd.C_below HR0_6.out hbm) | (with_reducible refine Kd.C_alloc ?_ _) | (with_reducible refine Kd.C_drewN ?_ _) | (with_reducible refine Kd.C_drew ?_))); (case side2 => exact HC0_6.out); (case side3 => repeat (first | exact (Kd.C_below HR1_6.out hbm) | (with_reducible refine Kd.C_alloc ?_ _) | (with_reducible refine Kd.C_drewN ?_ _) | (with_reducible refine Kd.C_drew ?_))); (case side4 => exact HC1_6.out); rintro e w' ⟨rfl, ⟨nd, rfl⟩⟩) | (go_at_call 78; (with_reducible refine (impl_Node.calls k _ _ l0_6 _ _ l1_6 true _ ?side1 ?side2 ?side3 ?side4 A8.out).mono ?_); (case side1 => repeat (first | exact (Kd.C_below HR0_6.out hbm) | (with_reducible refine Kd.C_alloc ?_ _) | (with_reducible refine Kd.C_drewN ?_ _) | (with_reducible refine Kd.C_drew ?_))); (case side2 => exact HC0_6.out); (case side3 => repeat (first | exact (Kd.C_below HR1_6.out hbm) | (with_reducible refine Kd.C_alloc ?_ _) | (with_reducible refine Kd.C_drewN ?_ _) | (with_reducible refine Kd.C_drew ?_))); (case side4 => exact HC1_6.out); rintro e w' ⟨rfl, ⟨nd, rfl⟩⟩) | (go_at_call 78; (with_reducible refine (impl_Node.calls k _ _ l0_7 _ _ l1_7 t321 _ ?side1 ?side2 ?side3 ?side4 A10.out).mono ?_); (case side1 => repeat (first | exact (Kd.C_below HR0_7.out hbm) | (with_reducible refine Kd.C_alloc ?_ _) | (with_reducible refine Kd.C_drewN ?_ _) | (with_reducible refine Kd.C_drew ?_))); (case side2 => exact HC0_7.out); (case side3 => repeat (first | exact (Kd.C_below HR1_7.out hbm) | (with_reducible refine Kd.C_alloc ?_ _) | (with_reducible refine Kd.C_drewN ?_ _) | (with_reducible refine Kd.C_drew ?_))); (case side4 => exact HC1_7.out); rintro e w' ⟨rfl, ⟨nd, rfl⟩⟩))
  go_ret
  exact ⟨rfm, hbm⟩) : P := h
set_option maxHeartbeats 8000000 in
set_option maxRecDepth 100000 in
theorem impl_ProductSame.calls (k : Nat) (a0_0 : ByteArray) (a0_1 : Int) (A0_2 : Option Addr) (c0_2 : Nat) (l0_2 : List ByteArray) (A0_3 : Option Addr) (c0_3 : Nat) (l0_3 : List ByteArray) (A0_4 : Option Addr) (c0_4 : Nat) (l0_4 : List (S126)) (A0_5 : Option Addr) (c0_5 : Nat) (l0_5 : List (S133)) (A0_6 : Option Addr) (c0_6 : Nat) (l0_6 : List (S133)) (A0_7 : Option Addr) (c0_7 : Nat) (l0_7 : List (S133)) (a1_0 : ByteArray) (a1_1 : Int) (A1_2 : Option Addr) (c1_2 : Nat) (l1_2 : List ByteArray) (A1_3 : Option Addr) (c1_3 : Nat) (l1_3 : List ByteArray) (A1_4 : Option Addr) (c1_4 : Nat) (l1_4 : List (S126)) (A1_5 : Option Addr) (c1_5 : Nat) (l1_5 : List (S133)) (A1_6 : Option Addr) (c1_6 : Nat) (l1_6 : List (S133)) (A1_7 : Option Addr) (c1_7 : Nat) (l1_7 : List (S133)) (r : Bool) (w : World) (hr0_2 : Kd.C Kd.string w A0_2 l0_2.length l0_2) (hc0_2 : l0_2.length ≤ c0_2) (hr0_3 : Kd.C Kd.string w A0_3 l0_3.length l0_3) (hc0_3 : l0_3.length ≤ c0_3) (hr0_4 : Kd.C k126 w A0_4 l0_4.length l0_4) (hc0_4 : l0_4.length ≤ c0_4) (hr0_5 : Kd.C k133 w A0_5 l0_5.length l0_5) (hc0_5 : l0_5.length ≤ c0_5) (hr0_6 : Kd.C k133 w A0_6 l0_6.length l0_6) (hc0_6 : l0_6.length ≤ c0_6) (hr0_7 : Kd.C k133 w A0_7 l0_7.length l0_7) (hc0_7 : l0_7.length ≤ c0_7) (hr1_2 : Kd.C Kd.string w A1_2 l1_2.length l1_2) (hc1_2 : l1_2.length ≤ c1_2) (hr1_3 : Kd.C Kd.string w A1_3 l1_3.length l1_3) (hc1_3 : l1_3.length ≤ c1_3) (hr1_4 : Kd.C k126 w A1_4 l1_4.length l1_4) (hc1_4 : l1_4.length ≤ c1_4) (hr1_5 : Kd.C k133 w A1_5 l1_5.length l1_5) (hc1_5 : l1_5.length ≤ c1_5) (hr1_6 : Kd.C k133 w A1_6 l1_6.length l1_6) (hc1_6 : l1_6.length ≤ c1_6) (hr1_7 : Kd.C k133 w A1_7 l1_7.length l1_7) (hc1_7 : l1_7.length ≤ c1_7) (h : impl_ProductSame.f k a0_0 a0_1 l0_2 l0_3 l0_4 l0_5 l0_6 l0_7 a1_0 a1_1 l1_2 l1_3 l1_4 l1_5 l1_6 l1_7 = some r) :
  Calls Try.prog 39 #[.agg #[.string a0_0, .int .i64 a0_1, .slice A0_2 l0_2.length c0_2, .slice A0_3 l0_3.length c0_3, .slice A0_4 l0_4.length c0_4, .slice A0_5 l0_5.length c0_5, .slice A0_6 l0_6.length c0_6, .slice A0_7 l0_7.length c0_7], .agg #[.string a1_0, .int .i64 a1_1, .slice A1_2 l1_2.length c1_2, .slice A1_3 l1_3.length c1_3, .slice A1_4 l1_4.length c1_4, .slice A1_5 l1_5.length c1_5, .slice A1_6 l1_6.length c1_6, .slice A1_7 l1_7.length c1_7]] w fun e w' => e = .returned (.bool r) ∧ Below w.heap.size w w' := by
 have hu79 := Try.underlying79
 have HR0_2 := Aside0.mk hr0_2
 have HC0_2 := Aside0.mk hc0_2
 clear hr0_2 hc0_2
 have HR0_3 := Aside0.mk hr0_3
 have HC0_3 := Aside0.mk hc0_3
 clear hr0_3 hc0_3
 have HR0_4 := Aside0.mk hr0_4
 have HC0_4 := Aside0.mk hc0_4
 clear hr0_4 hc0_4
 have HR0_5 := Aside0.mk hr0_5
 have HC0_5 := Aside0.mk hc0_5
 clear hr0_5 hc0_5
 have HR0_6 := Aside0.mk hr0_6
 have HC0_6 := Aside0.mk hc0_6
 clear hr0_6 hc0_6
 have HR0_7 := Aside0.mk hr0_7
 have HC0_7 := Aside0.mk hc0_7
 clear hr0_7 hc0_7
 have HR1_2 := Aside0.mk hr1_2
 have HC1_2 := Aside0.mk hc1_2
 clear hr1_2 hc1_2
 have HR1_3 := Aside0.mk hr1_3
 have HC1_3 := Aside0.mk hc1_3
 clear hr1_3 hc1_3
 have HR1_4 := Aside0.mk hr1_4
 have HC1_4 := Aside0.mk hc1_4
 clear hr1_4 hc1_4
 have HR1_5 := Aside0.mk hr1_5
 have HC1_5 := Aside0.mk hc1_5
 clear hr1_5 hc1_5
 have HR1_6 := Aside0.mk hr1_6
 have HC1_6 := Aside0.mk hc1_6
 clear hr1_6 hc1_6
 have HR1_7 := Aside0.mk hr1_7
 have HC1_7 := Aside0.mk hc1_7
 clear hr1_7 hc1_7
 have HB := Aside0.mk (Below.refl w.heap.size w)
 have H : (if a0_0.toList = a1_0.toList then ((impl_sameFace.f k a0_0 a0_1 l0_2 l0_3 l0_4 l0_5 l0_6 l0_7 a1_0 a1_1 l1_2 l1_3 l1_4 l1_5 l1_6 l1_7).bind fun t318 => (if t318 = true then ((impl_Node.f k l0_5 l1_5).bind fun t319 => (if t319 = true then ((impl_Node.f k l0_6 l1_6).bind fun t320 => (if t320 = true then ((impl_Node.f k l0_7 l1_7).bind fun t321 => (some t321)) else (some false))) else (some false))) else (some false))) else (some false)) = some r := h
 clear h
 by_cases c3 : a0_0.toList = a1_0.toList
 ·
  rw [if_pos c3] at H
  have c3b0 : (a0_0.toList == a1_0.toList) = true := beq_iff_eq.mpr c3
  have c3b1 : (a0_0.toList != a1_0.toList) = false := bne_eq_false_iff_eq.mpr c3
  clear c3
  replace H := Option.bind_eq_some_iff.mp H
  obtain ⟨t318, A40, H⟩ := H
  (try dsimp only at H)
  have A4 := Aside0.mk A40
  clear A40
  by_cases c5 : t318 = true
  ·
   subst c5
   have H1 : ((impl_Node.f k l0_5 l1_5).bind fun t319 => (if t319 = true then ((impl_Node.f k l0_6 l1_6).bind fun t320 => (if t320 = true then ((impl_Node.f k l0_7 l1_7).bind fun t321 => (some t321)) else (some false))) else (some false))) = some r := by rw [if_pos rfl] at H; exact H
   clear H
   have H := H1
   clear H1
   replace H := Option.bind_eq_some_iff.mp H
   obtain ⟨t319, A60, H⟩ := H
   (try dsimp only at H)
   have A6 := Aside0.mk A60
   clear A60
   by_cases c7 : t319 = true
   ·
    subst c7
    have H1 : ((impl_Node.f k l0_6 l1_6).bind fun t320 => (if t320 = true then ((impl_Node.f k l0_7 l1_7).bind fun t321 => (some t321)) else (some false))) = some r := by rw [if_pos rfl] at H; exact H
    clear H
    have H := H1
    clear H1
    replace H := Option.bind_eq_some_iff.mp H
    obtain ⟨t320, A80, H⟩ := H
    (try dsimp only at H)
    have A8 := Aside0.mk A80
    clear A80
    by_cases c9 : t320 = true
    ·
     subst c9
     have H1 : ((impl_Node.f k l0_7 l1_7).bind fun t321 => (some t321)) = some r := by rw [if_pos rfl] at H; exact H
     clear H
     have H := H1
     clear H1
     replace H := Option.bind_eq_some_iff.mp H
     obtain ⟨t321, A100, H⟩ := H
     (try dsimp only at H)
     have A10 := Aside0.mk A100
     clear A100
     obtain rfl := Option.some.inj H
     exact impl_ProductSame.m0
    ·
     replace c9 := Bool.eq_false_iff.mpr c9
     subst c9
     have H1 : (some false) = some r := by rw [if_neg (show ¬ (false = true) by decide)] at H; exact H
     clear H
     have H := H1
     clear H1
     obtain rfl := Option.some.inj H
     exact impl_ProductSame.m0
   ·
    replace c7 := Bool.eq_false_iff.mpr c7
    subst c7
    have H1 : (some false) = some r := by rw [if_neg (show ¬ (false = true) by decide)] at H; exact H
    clear H
    have H := H1
    clear H1
    obtain rfl := Option.some.inj H
    exact impl_ProductSame.m0
  ·
   replace c5 := Bool.eq_false_iff.mpr c5
   subst c5
   have H1 : (some false) = some r := by rw [if_neg (show ¬ (false = true) by decide)] at H; exact H
   clear H
   have H := H1
   clear H1
   obtain rfl := Option.some.inj H
   exact impl_ProductSame.m0
 ·
  rw [if_neg c3] at H
  have c3b0 : (a0_0.toList == a1_0.toList) = false := beq_eq_false_iff_ne.mpr c3
  have c3b1 : (a0_0.toList != a1_0.toList) = true := bne_iff_ne.mpr c3
  obtain rfl := Option.some.inj H
  exact impl_ProductSame.m0

/-! ### impl_Product: function 38 -/
def impl_Product.l0 : Nat → List (S79) → List (S79) → Int → Int → Option (Bool)
 | 0, _, _, _, _ => none
 | k + 1, x1, x15, x16, x17 => if x17 < x16 then (if 0 ≤ x17 then (if x17 < (x15.length : Int) then (if x17 < (x1.length : Int) then ((impl_ProductSame.f k ((rd_T79 x15 x17).f0) ((rd_T79 x15 x17).f1) ((rd_T79 x15 x17).f2) ((rd_T79 x15 x17).f3) ((rd_T79 x15 x17).f4) ((rd_T79 x15 x17).f5) ((rd_T79 x15 x17).f6) ((rd_T79 x15 x17).f7) ((rd_T79 x1 x17).f0) ((rd_T79 x1 x17).f1) ((rd_T79 x1 x17).f2) ((rd_T79 x1 x17).f3) ((rd_T79 x1 x17).f4) ((rd_T79 x1 x17).f5) ((rd_T79 x1 x17).f6) ((rd_T79 x1 x17).f7)).bind fun t326 => (if t326 = true then (impl_Product.l0 k x1 x15 x16 (wrap64 (x17 + 1))) else (some false))) else (none)) else (none)) else (none)) else (some true)
def impl_Product.f (k : Nat) (l0 : List (S79)) (l1 : List (S79)) (a2 : Nat) : Option (Bool) := if a2 = 39 then (if (l0.length : Int) = (l1.length : Int) then (impl_Product.l0 k l1 l0 (l0.length : Int) 0) else (some false)) else none
theorem impl_Product.mono_l : ∀ k, (∀ y0 y1 y2 y3, LeO (impl_Product.l0 k y0 y1 y2 y3) (impl_Product.l0 (k + 1) y0 y1 y2 y3))
 | 0 => fun _ _ _ _ r h => by simp [impl_Product.l0] at h
 | k + 1 => by
  have ih0 := impl_Product.mono_l k
  ·
   intro y0 y1 y2 y3
   unfold impl_Product.l0
   repeat' first
   | (with_reducible exact ih0 _ _ _ _)
   | (with_reducible exact impl_ProductSame.mono _ _ _ _ _ _ _ _ _ _ _ _ _ _ _ _ _)
   | (with_reducible exact LeO.refl _)
   | (with_reducible exact LeO.none _)
   | (with_reducible refine LeO.ite ?_ ?_)
   | (with_reducible refine LeO.bind ?_ (fun _ => ?_))
   | exact ih0 _ _ _ _
   | exact impl_ProductSame.mono _ _ _ _ _ _ _ _ _ _ _ _ _ _ _ _ _
   | exact LeO.none _
   | refine LeO.ite ?_ ?_
   | refine LeO.bind ?_ (fun _ => ?_)
theorem impl_Product.mono : ∀ a0 a1 a2 k, LeO (impl_Product.f k a0 a1 a2) (impl_Product.f (k + 1) a0 a1 a2) := by
 intro a0 a1 a2 k
 have ih0 := impl_Product.mono_l k
 unfold impl_Product.f
 repeat' first
   | (with_reducible exact ih0 _ _ _ _)
   | (with_reducible exact impl_ProductSame.mono _ _ _ _ _ _ _ _ _ _ _ _ _ _ _ _ _)
   | (with_reducible exact LeO.refl _)
   | (with_reducible exact LeO.none _)
   | (with_reducible refine LeO.ite ?_ ?_)
   | (with_reducible refine LeO.bind ?_ (fun _ => ?_))
   | exact ih0 _ _ _ _
   | exact impl_ProductSame.mono _ _ _ _ _ _ _ _ _ _ _ _ _ _ _ _ _
   | exact LeO.none _
   | refine LeO.ite ?_ ?_
   | refine LeO.bind ?_ (fun _ => ?_)
set_option maxHeartbeats 8000000 in
set_option maxRecDepth 100000 in
theorem impl_Product.calls (k : Nat) (A0 : Option Addr) (c0 : Nat) (l0 : List (S79)) (A1 : Option Addr) (c1 : Nat) (l1 : List (S79)) (a2 : Nat) (r : Bool) (w : World) (hr0 : Kd.C k79 w A0 l0.length l0) (hc0 : l0.length ≤ c0) (hr1 : Kd.C k79 w A1 l1.length l1) (hc1 : l1.length ≤ c1) (h : impl_Product.f k l0 l1 a2 = some r) :
  Calls Try.prog 38 #[.slice A0 l0.length c0, .slice A1 l1.length c1, .func (.func a2) #[] #[]] w fun e w' => e = .returned (.bool r) ∧ Below w.heap.size w w' := by
 have hfn_ : a2 = 39 := by
  by_cases hn_ : a2 = 39
  ·
   exact hn_
  ·
   unfold impl_Product.f at h
   rw [if_neg hn_] at h
   cases h
 subst hfn_
 have hu79 := Try.underlying79
 have HR0 := Aside0.mk hr0
 have HC0 := Aside0.mk hc0
 clear hr0 hc0
 have HR1 := Aside0.mk hr1
 have HC1 := Aside0.mk hc1
 clear hr1 hc1
 have HB := Aside0.mk (Below.refl w.heap.size w)
 have H : (if (l0.length : Int) = (l1.length : Int) then (impl_Product.l0 k l1 l0 (l0.length : Int) 0) else (some false)) = some r := h
 clear h
 by_cases c4 : (l0.length : Int) = (l1.length : Int)
 ·
  rw [if_pos c4] at H
  have c4b0 : ((l0.length : Int) == (l1.length : Int)) = true := beq_iff_eq.mpr c4
  have c4b1 : ((l0.length : Int) != (l1.length : Int)) = false := bne_eq_false_iff_eq.mpr c4
  have c4b2 : (l0.length == l1.length) = true := by first | simpa using c4 | (simp at c4 ⊢; omega)
  clear c4
  have H' := Aside0.mk H
  clear H
  go_enter Try.func38, Try.ntmps38
  go_wp2
  go_loopg [17] k (fun kq v17 w' => ∃ (x17_1 : Int), v17 = .int .i64 x17_1 ∧ Aside0 (impl_Product.l0 kq l1 l0 (l0.length : Int) x17_1 = some r) ∧ Aside0 (kq ≤ k) ∧ Aside0 (Below w.heap.size w w'))
  case atStart => exact ⟨(0), (by first | rfl | (simp; done) | (simp [*]; done)), H', ⟨Nat.le_refl _⟩, ⟨hbm⟩⟩
  case round =>
   clear H'
   try clear c1; try clear p2; try clear c3; try clear c4; try clear c4b0; try clear c4b1; try clear c4b2
   obtain ⟨x17_1, rfl, HA, HK1, HB⟩ := hrel
   cases gk with
   | zero => exact absurd HA.out (by simp [impl_Product.l0])
   | succ k1 =>
    have H := HA.out
    clear HA
    simp only [impl_Product.l0] at H
    by_cases c5 : x17_1 < (l0.length : Int)
    ·
     rw [if_pos c5] at H
     have c5b0 : decide (x17_1 < (l0.length : Int)) = true := decide_eq_true c5
     clear c5
     by_cases c6 : 0 ≤ x17_1
     ·
      rw [if_pos c6] at H
      have c6b0 : decide (0 ≤ x17_1) = true := decide_eq_true c6
      clear c6
      by_cases c7 : x17_1 < (l0.length : Int)
      ·
       rw [if_pos c7] at H
       have c7b0 : decide (x17_1 < (l0.length : Int)) = true := decide_eq_true c7
       clear c7
       by_cases c8 : x17_1 < (l1.length : Int)
       ·
        rw [if_pos c8] at H
        have c8b0 : decide (x17_1 < (l1.length : Int)) = true := decide_eq_true c8
        clear c8
        replace H := Option.bind_eq_some_iff.mp H
        obtain ⟨t326, A90, H⟩ := H
        (try dsimp only at H)
        have A9 := Aside0.mk A90
        clear A90
        by_cases c10 : t326 = true
        ·
         subst c10
         have H1 : (impl_Product.l0 k1 l1 l0 (l0.length : Int) (wrap64 (x17_1 + 1))) = some r := by rw [if_pos rfl] at H; exact H
         clear H
         have H := H1
         clear H1
         have H' := Aside0.mk H
         clear H
         have p322 : 0 ≤ (x17_1 : Int) := of_decide_eq_true asm_
         have q322 : x17_1 < (l0.length : Int) := of_decide_eq_true asm_
         obtain ⟨ad322, A322_2, c322_2, A322_3, c322_3, A322_4, c322_4, A322_5, c322_5, A322_6, c322_6, A322_7, c322_7, e322, hx322_0, hx322_1, hx322_2, hx322_3, hx322_4, hx322_5, hx322_6, hx322_7, hl322_2, hi322_2, hl322_3, hi322_3, hl322_4, hi322_4, hl322_5, hi322_5, hl322_6, hi322_6, hl322_7, hi322_7⟩ := at_T79 HR0.out x17_1 p322 q322
         cases e322
         replace hx322_0 := hcl HB hx322_0
         replace hx322_1 := hcl HB hx322_1
         replace hx322_2 := hcl HB hx322_2
         replace hx322_3 := hcl HB hx322_3
         replace hx322_4 := hcl HB hx322_4
         replace hx322_5 := hcl HB hx322_5
         replace hx322_6 := hcl HB hx322_6
         replace hx322_7 := hcl HB hx322_7
         have HR322_2 := Aside0.mk hi322_2
         have HC322_2 := Aside0.mk hl322_2
         clear hi322_2 hl322_2
         have HR322_3 := Aside0.mk hi322_3
         have HC322_3 := Aside0.mk hl322_3
         clear hi322_3 hl322_3
         have HR322_4 := Aside0.mk hi322_4
         have HC322_4 := Aside0.mk hl322_4
         clear hi322_4 hl322_4
         have HR322_5 := Aside0.mk hi322_5
         have HC322_5 := Aside0.mk hl322_5
         clear hi322_5 hl322_5
         have HR322_6 := Aside0.mk hi322_6
         have HC322_6 := Aside0.mk hl322_6
         clear hi322_6 hl322_6
         have HR322_7 := Aside0.mk hi322_7
         have HC322_7 := Aside0.mk hl322_7
         clear hi322_7 hl322_7
         replace p322 := eq_true p322
         replace q322 := eq_true q322
         go_wp2_with (first | ((with_reducible refine gate_dst (N := 8) rfl ?_); refine bxe (N := 8) (cs := #[.string (⟨#[]⟩ : ByteArray), .int .i64 0, .slice none 0 0, .slice none 0 0, .slice none 0 0, .slice none 0 0, .slice none 0 0, .slice none 0 0]) (t := 79) ?_; intro gb323 hg w11 hbox hb; have n0_ := bst hb; have n1_ := Aside0.mk (hbox); have n2_ := (bsz hg : Aside0 (w.heap.size ≤ gb323)); have n3_ := n2_; clear HB; have HB := n0_; have BK323 := n1_; have GW323 := n2_; have GE323 := n3_; clear n0_ n1_ n2_ n3_; clear hb hbox hg; obtain ⟨hcz12_0, hcz12_1, hcz12_2, hcz12_3, hcz12_4, hcz12_5, hcz12_6, hcz12_7, hfz12_0, hfz12_1, hfz12_2, hfz12_3, hfz12_4, hfz12_5, hfz12_6, hfz12_7⟩ := bc8 BK323.out; have p324 : 0 ≤ (x17_1 : Int) := of_decide_eq_true asm_; have q324 : x17_1 < (l1.length : Int) := of_decide_eq_true asm_; obtain ⟨ad324, A324_2, c324_2, A324_3, c324_3, A324_4, c324_4, A324_5, c324_5, A324_6, c324_6, A324_7, c324_7, e324, hx324_0, hx324_1, hx324_2, hx324_3, hx324_4, hx324_5, hx324_6, hx324_7, hl324_2, hi324_2, hl324_3, hi324_3, hl324_4, hi324_4, hl324_5, hi324_5, hl324_6, hi324_6, hl324_7, hi324_7⟩ := at_T79 HR1.out x17_1 p324 q324; cases e324; have hn324_0 : ad324.block ≠ gb323 := Nat.ne_of_lt (Nat.lt_of_lt_of_le (by have := World.block_lt_of_cell? _ _ hx324_0; first | rwa [add_block] at this | exact this) GW323.out); have hn324_1 : ad324.block ≠ gb323 := Nat.ne_of_lt (Nat.lt_of_lt_of_le (by have := World.block_lt_of_cell? _ _ hx324_0; first | rwa [add_block] at this | exact this) GW323.out); have hn324_2 : ad324.block ≠ gb323 := Nat.ne_of_lt (Nat.lt_of_lt_of_le (by have := World.block_lt_of_cell? _ _ hx324_0; first | rwa [add_block] at this | exact this) GW323.out); have hn324_3 : ad324.block ≠ gb323 := Nat.ne_of_lt (Nat.lt_of_lt_of_le (by have := World.block_lt_of_cell? _ _ hx324_0; first | rwa [add_block] at this | exact this) GW323.out); have hn324_4 : ad324.block ≠ gb323 := Nat.ne_of_lt (Nat.lt_of_lt_of_le (by have := World.block_lt_of_cell? _ _ hx324_0; first | rwa [add_block] at this | exact this) GW323.out); have hn324_5 : ad324.block ≠ gb323 := Nat.ne_of_lt (Nat.lt_of_lt_of_le (by have := World.block_lt_of_cell? _ _ hx324_0; first | rwa [add_block] at this | exact this) GW323.out); have hn324_6 : ad324.block ≠ gb323 := Nat.ne_of_lt (Nat.lt_of_lt_of_le (by have := World.block_lt_of_cell? _ _ hx324_0; first | rwa [add_block] at this | exact this) GW323.out); have hn324_7 : ad324.block ≠ gb323 := Nat.ne_of_lt (Nat.lt_of_lt_of_le (by have := World.block_lt_of_cell? _ _ hx324_0; first | rwa [add_block] at this | exact this) GW323.out); replace hx324_0 := hcl HB hx324_0; replace hx324_1 := hcl HB hx324_1; replace hx324_2 := hcl HB hx324_2; replace hx324_3 := hcl HB hx324_3; replace hx324_4 := hcl HB hx324_4; replace hx324_5 := hcl HB hx324_5; replace hx324_6 := hcl HB hx324_6; replace hx324_7 := hcl HB hx324_7; have HR324_2 := Aside0.mk hi324_2; have HC324_2 := Aside0.mk hl324_2; clear hi324_2 hl324_2; have HR324_3 := Aside0.mk hi324_3; have HC324_3 := Aside0.mk hl324_3; clear hi324_3 hl324_3; have HR324_4 := Aside0.mk hi324_4; have HC324_4 := Aside0.mk hl324_4; clear hi324_4 hl324_4; have HR324_5 := Aside0.mk hi324_5; have HC324_5 := Aside0.mk hl324_5; clear hi324_5 hl324_5; have HR324_6 := Aside0.mk hi324_6; have HC324_6 := Aside0.mk hl324_6; clear hi324_6 hl324_6; have HR324_7 := Aside0.mk hi324_7; have HC324_7 := Aside0.mk hl324_7; clear hi324_7 hl324_7; replace hx324_0 := cfr gb323 0 (.string ((rd_T79 l0 x17_1).f0)) hn324_0 hx324_0; replace hx324_1 := cfr gb323 0 (.string ((rd_T79 l0 x17_1).f0)) hn324_0 hx324_1; replace hx324_2 := cfr gb323 0 (.string ((rd_T79 l0 x17_1).f0)) hn324_0 hx324_2; replace hx324_3 := cfr gb323 0 (.string ((rd_T79 l0 x17_1).f0)) hn324_0 hx324_3; replace hx324_4 := cfr gb323 0 (.string ((rd_T79 l0 x17_1).f0)) hn324_0 hx324_4; replace hx324_5 := cfr gb323 0 (.string ((rd_T79 l0 x17_1).f0)) hn324_0 hx324_5; replace hx324_6 := cfr gb323 0 (.string ((rd_T79 l0 x17_1).f0)) hn324_0 hx324_6; replace hx324_7 := cfr gb323 0 (.string ((rd_T79 l0 x17_1).f0)) hn324_0 hx324_7; replace hx324_0 := cfr gb323 1 (.int .i64 ((rd_T79 l0 x17_1).f1)) hn324_1 hx324_0; replace hx324_1 := cfr gb323 1 (.int .i64 ((rd_T79 l0 x17_1).f1)) hn324_1 hx324_1; replace hx324_2 := cfr gb323 1 (.int .i64 ((rd_T79 l0 x17_1).f1)) hn324_1 hx324_2; replace hx324_3 := cfr gb323 1 (.int .i64 ((rd_T79 l0 x17_1).f1)) hn324_1 hx324_3; replace hx324_4 := cfr gb323 1 (.int .i64 ((rd_T79 l0 x17_1).f1)) hn324_1 hx324_4; replace hx324_5 := cfr gb323 1 (.int .i64 ((rd_T79 l0 x17_1).f1)) hn324_1 hx324_5; replace hx324_6 := cfr gb323 1 (.int .i64 ((rd_T79 l0 x17_1).f1)) hn324_1 hx324_6; replace hx324_7 := cfr gb323 1 (.int .i64 ((rd_T79 l0 x17_1).f1)) hn324_1 hx324_7; replace hx324_0 := cfr gb323 2 (.slice A322_2 ((rd_T79 l0 x17_1).f2).length c322_2) hn324_2 hx324_0; replace hx324_1 := cfr gb323 2 (.slice A322_2 ((rd_T79 l0 x17_1).f2).length c322_2) hn324_2 hx324_1; replace hx324_2 := cfr gb323 2 (.slice A322_2 ((rd_T79 l0 x17_1).f2).length c322_2) hn324_2 hx324_2; replace hx324_3 := cfr gb323 2 (.slice A322_2 ((rd_T79 l0 x17_1).f2).length c322_2) hn324_2 hx324_3; replace hx324_4 := cfr gb323 2 (.slice A322_2 ((rd_T79 l0 x17_1).f2).length c322_2) hn324_2 hx324_4; replace hx324_5 := cfr gb323 2 (.slice A322_2 ((rd_T79 l0 x17_1).f2).length c322_2) hn324_2 hx324_5; replace hx324_6 := cfr gb323 2 (.slice A322_2 ((rd_T79 l0 x17_1).f2).length c322_2) hn324_2 hx324_6; replace hx324_7 := cfr gb323 2 (.slice A322_2 ((rd_T79 l0 x17_1).f2).length c322_2) hn324_2 hx324_7; replace hx324_0 := cfr gb323 3 (.slice A322_3 ((rd_T79 l0 x17_1).f3).length c322_3) hn324_3 hx324_0; replace hx324_1 := cfr gb323 3 (.slice A322_3 ((rd_T79 l0 x17_1).f3).length c322_3) hn324_3 hx324_1; replace hx324_2 := cfr gb323 3 (.slice A322_3 ((rd_T79 l0 x17_1).f3).length c322_3) hn324_3 hx324_2; replace hx324_3 := cfr gb323 3 (.slice A322_3 ((rd_T79 l0 x17_1).f3).length c322_3) hn324_3 hx324_3; replace hx324_4 := cfr gb323 3 (.slice A322_3 ((rd_T79 l0 x17_1).f3).length c322_3) hn324_3 hx324_4; replace hx324_5 := cfr gb323 3 (.slice A322_3 ((rd_T79 l0 x17_1).f3).length c322_3) hn324_3 hx324_5; replace hx324_6 := cfr gb323 3 (.slice A322_3 ((rd_T79 l0 x17_1).f3).length c322_3) hn324_3 hx324_6; replace hx324_7 := cfr gb323 3 (.slice A322_3 ((rd_T79 l0 x17_1).f3).length c322_3) hn324_3 hx324_7; replace hx324_0 := cfr gb323 4 (.slice A322_4 ((rd_T79 l0 x17_1).f4).length c322_4) hn324_4 hx324_0; replace hx324_1 := cfr gb323 4 (.slice A322_4 ((rd_T79 l0 x17_1).f4).length c322_4) hn324_4 hx324_1; replace hx324_2 := cfr gb323 4 (.slice A322_4 ((rd_T79 l0 x17_1).f4).length c322_4) hn324_4 hx324_2; replace hx324_3 := cfr gb323 4 (.slice A322_4 ((rd_T79 l0 x17_1).f4).length c322_4) hn324_4 hx324_3; replace hx324_4 := cfr gb323 4 (.slice A322_4 ((rd_T79 l0 x17_1).f4).length c322_4) hn324_4 hx324_4; replace hx324_5 := cfr gb323 4 (.slice A322_4 ((rd_T79 l0 x17_1).f4).length c322_4) hn324_4 hx324_5; replace hx324_6 := cfr gb323 4 (.slice A322_4 ((rd_T79 l0 x17_1).f4).length c322_4) hn324_4 hx324_6; replace hx324_7 := cfr gb323 4 (.slice A322_4 ((rd_T79 l0 x17_1).f4).length c322_4) hn324_4 hx324_7; replace hx324_0 := cfr gb323 5 (.slice A322_5 ((rd_T79 l0 x17_1).f5).length c322_5) hn324_5 hx324_0; replace hx324_1 := cfr gb323 5 (.slice A322_5 ((rd_T79 l0 x17_1).f5).length c322_5) hn324_5 hx324_1; replace hx324_2 := cfr gb323 5 (.slice A322_5 ((rd_T79 l0 x17_1).f5).length c322_5) hn324_5 hx324_2; replace hx324_3 := cfr gb323 5 (.slice A322_5 ((rd_T79 l0 x17_1).f5).length c322_5) hn324_5 hx324_3; replace hx324_4 := cfr gb323 5 (.slice A322_5 ((rd_T79 l0 x17_1).f5).length c322_5) hn324_5 hx324_4; replace hx324_5 := cfr gb323 5 (.slice A322_5 ((rd_T79 l0 x17_1).f5).length c322_5) hn324_5 hx324_5; replace hx324_6 := cfr gb323 5 (.slice A322_5 ((rd_T79 l0 x17_1).f5).length c322_5) hn324_5 hx324_6; replace hx324_7 := cfr gb323 5 (.slice A322_5 ((rd_T79 l0 x17_1).f5).length c322_5) hn324_5 hx324_7; replace hx324_0 := cfr gb323 6 (.slice A322_6 ((rd_T79 l0 x17_1).f6).length c322_6) hn324_6 hx324_0; replace hx324_1 := cfr gb323 6 (.slice A322_6 ((rd_T79 l0 x17_1).f6).length c322_6) hn324_6 hx324_1; replace hx324_2 := cfr gb323 6 (.slice A322_6 ((rd_T79 l0 x17_1).f6).length c322_6) hn324_6 hx324_2; replace hx324_3 := cfr gb323 6 (.slice A322_6 ((rd_T79 l0 x17_1).f6).length c322_6) hn324_6 hx324_3; replace hx324_4 := cfr gb323 6 (.slice A322_6 ((rd_T79 l0 x17_1).f6).length c322_6) hn324_6 hx324_4; replace hx324_5 := cfr gb323 6 (.slice A322_6 ((rd_T79 l0 x17_1).f6).length c322_6) hn324_6 hx324_5; replace hx324_6 := cfr gb323 6 (.slice A322_6 ((rd_T79 l0 x17_1).f6).length c322_6) hn324_6 hx324_6; replace hx324_7 := cfr gb323 6 (.slice A322_6 ((rd_T79 l0 x17_1).f6).length c322_6) hn324_6 hx324_7; replace hx324_0 := cfr gb323 7 (.slice A322_7 ((rd_T79 l0 x17_1).f7).length c322_7) hn324_7 hx324_0; replace hx324_1 := cfr gb323 7 (.slice A322_7 ((rd_T79 l0 x17_1).f7).length c322_7) hn324_7 hx324_1; replace hx324_2 := cfr gb323 7 (.slice A322_7 ((rd_T79 l0 x17_1).f7).length c322_7) hn324_7 hx324_2; replace hx324_3 := cfr gb323 7 (.slice A322_7 ((rd_T79 l0 x17_1).f7).length c322_7) hn324_7 hx324_3; replace hx324_4 := cfr gb323 7 (.slice A322_7 ((rd_T79 l0 x17_1).f7).length c322_7) hn324_7 hx324_4; replace hx324_5 := cfr gb323 7 (.slice A322_7 ((rd_T79 l0 x17_1).f7).length c322_7) hn324_7 hx324_5; replace hx324_6 := cfr gb323 7 (.slice A322_7 ((rd_T79 l0 x17_1).f7).length c322_7) hn324_7 hx324_6; replace hx324_7 := cfr gb323 7 (.slice A322_7 ((rd_T79 l0 x17_1).f7).length c322_7) hn324_7 hx324_7; clear hn324_0; clear hn324_1; clear hn324_2; clear hn324_3; clear hn324_4; clear hn324_5; clear hn324_6; clear hn324_7; replace p324 := eq_true p324; replace q324 := eq_true q324) | ((with_reducible refine gate_dst (N := 9) rfl ?_); refine bxe (N := 9) (cs := #[.string (⟨#[]⟩ : ByteArray), .int .i64 0, .slice none 0 0, .slice none 0 0, .slice none 0 0, .slice none 0 0, .slice none 0 0, .slice none 0 0]) (t := 79) ?_; intro gb325 hg w13 hbox hb; have n0_ := Aside0.mk (blk_below (g := gb323) (o := .cells #[.string ((rd_T79 l0 x17_1).f0), .int .i64 ((rd_T79 l0 x17_1).f1), .slice A322_2 ((rd_T79 l0 x17_1).f2).length c322_2, .slice A322_3 ((rd_T79 l0 x17_1).f3).length c322_3, .slice A322_4 ((rd_T79 l0 x17_1).f4).length c322_4, .slice A322_5 ((rd_T79 l0 x17_1).f5).length c322_5, .slice A322_6 ((rd_T79 l0 x17_1).f6).length c322_6, .slice A322_7 ((rd_T79 l0 x17_1).f7).length c322_7] 79 (0, 0)) (by (with_reducible repeat (first | apply blk_drewN | apply blk_drew | apply blk_alloc)); refine blk_put (cs := #[.string ((rd_T79 l0 x17_1).f0), .int .i64 ((rd_T79 l0 x17_1).f1), .slice A322_2 ((rd_T79 l0 x17_1).f2).length c322_2, .slice A322_3 ((rd_T79 l0 x17_1).f3).length c322_3, .slice A322_4 ((rd_T79 l0 x17_1).f4).length c322_4, .slice A322_5 ((rd_T79 l0 x17_1).f5).length c322_5, .slice A322_6 ((rd_T79 l0 x17_1).f6).length c322_6, .slice none 0 0]) ?_ 7 _ rfl; (with_reducible repeat (first | apply blk_drewN | apply blk_drew | apply blk_alloc)); refine blk_put (cs := #[.string ((rd_T79 l0 x17_1).f0), .int .i64 ((rd_T79 l0 x17_1).f1), .slice A322_2 ((rd_T79 l0 x17_1).f2).length c322_2, .slice A322_3 ((rd_T79 l0 x17_1).f3).length c322_3, .slice A322_4 ((rd_T79 l0 x17_1).f4).length c322_4, .slice A322_5 ((rd_T79 l0 x17_1).f5).length c322_5, .slice none 0 0, .slice none 0 0]) ?_ 6 _ rfl; (with_reducible repeat (first | apply blk_drewN | apply blk_drew | apply blk_alloc)); refine blk_put (cs := #[.string ((rd_T79 l0 x17_1).f0), .int .i64 ((rd_T79 l0 x17_1).f1), .slice A322_2 ((rd_T79 l0 x17_1).f2).length c322_2, .slice A322_3 ((rd_T79 l0 x17_1).f3).length c322_3, .slice A322_4 ((rd_T79 l0 x17_1).f4).length c322_4, .slice none 0 0, .slice none 0 0, .slice none 0 0]) ?_ 5 _ rfl; (with_reducible repeat (first | apply blk_drewN | apply blk_drew | apply blk_alloc)); refine blk_put (cs := #[.string ((rd_T79 l0 x17_1).f0), .int .i64 ((rd_T79 l0 x17_1).f1), .slice A322_2 ((rd_T79 l0 x17_1).f2).length c322_2, .slice A322_3 ((rd_T79 l0 x17_1).f3).length c322_3, .slice none 0 0, .slice none 0 0, .slice none 0 0, .slice none 0 0]) ?_ 4 _ rfl; (with_reducible repeat (first | apply blk_drewN | apply blk_drew | apply blk_alloc)); refine blk_put (cs := #[.string ((rd_T79 l0 x17_1).f0), .int .i64 ((rd_T79 l0 x17_1).f1), .slice A322_2 ((rd_T79 l0 x17_1).f2).length c322_2, .slice none 0 0, .slice none 0 0, .slice none 0 0, .slice none 0 0, .slice none 0 0]) ?_ 3 _ rfl; (with_reducible repeat (first | apply blk_drewN | apply blk_drew | apply blk_alloc)); refine blk_put (cs := #[.string ((rd_T79 l0 x17_1).f0), .int .i64 ((rd_T79 l0 x17_1).f1), .slice none 0 0, .slice none 0 0, .slice none 0 0, .slice none 0 0, .slice none 0 0, .slice none 0 0]) ?_ 2 _ rfl; (with_reducible repeat (first | apply blk_drewN | apply blk_drew | apply blk_alloc)); refine blk_put (cs := #[.string ((rd_T79 l0 x17_1).f0), .int .i64 0, .slice none 0 0, .slice none 0 0, .slice none 0 0, .slice none 0 0, .slice none 0 0, .slice none 0 0]) ?_ 1 _ rfl; (with_reducible repeat (first | apply blk_drewN | apply blk_drew | apply blk_alloc)); refine blk_put (cs := #[.string (⟨#[]⟩ : ByteArray), .int .i64 0, .slice none 0 0, .slice none 0 0, .slice none 0 0, .slice none 0 0, .slice none 0 0, .slice none 0 0]) ?_ 0 _ rfl; (with_reducible repeat (first | apply blk_drewN | apply blk_drew | apply blk_alloc)); exact BK323.out) hb); have n1_ := bst hb; have n2_ := Aside0.mk (hbox); have n3_ := (bsz hg : Aside0 (w.heap.size ≤ gb325)); have n4_ := n3_; have n5_ := Aside0.mk ((by rw [hg]; exact Nat.ne_of_lt (blk_lt (g := gb323) (o := .cells #[.string ((rd_T79 l0 x17_1).f0), .int .i64 ((rd_T79 l0 x17_1).f1), .slice A322_2 ((rd_T79 l0 x17_1).f2).length c322_2, .slice A322_3 ((rd_T79 l0 x17_1).f3).length c322_3, .slice A322_4 ((rd_T79 l0 x17_1).f4).length c322_4, .slice A322_5 ((rd_T79 l0 x17_1).f5).length c322_5, .slice A322_6 ((rd_T79 l0 x17_1).f6).length c322_6, .slice A322_7 ((rd_T79 l0 x17_1).f7).length c322_7] 79 (0, 0)) (by (with_reducible repeat (first | apply blk_drewN | apply blk_drew | apply blk_alloc)); refine blk_put (cs := #[.string ((rd_T79 l0 x17_1).f0), .int .i64 ((rd_T79 l0 x17_1).f1), .slice A322_2 ((rd_T79 l0 x17_1).f2).length c322_2, .slice A322_3 ((rd_T79 l0 x17_1).f3).length c322_3, .slice A322_4 ((rd_T79 l0 x17_1).f4).length c322_4, .slice A322_5 ((rd_T79 l0 x17_1).f5).length c322_5, .slice A322_6 ((rd_T79 l0 x17_1).f6).length c322_6, .slice none 0 0]) ?_ 7 _ rfl; (with_reducible repeat (first | apply blk_drewN | apply blk_drew | apply blk_alloc)); refine blk_put (cs := #[.string ((rd_T79 l0 x17_1).f0), .int .i64 ((rd_T79 l0 x17_1).f1), .slice A322_2 ((rd_T79 l0 x17_1).f2).length c322_2, .slice A322_3 ((rd_T79 l0 x17_1).f3).length c322_3, .slice A322_4 ((rd_T79 l0 x17_1).f4).length c322_4, .slice A322_5 ((rd_T79 l0 x17_1).f5).length c322_5, .slice none 0 0, .slice none 0 0]) ?_ 6 _ rfl; (with_reducible repeat (first | apply blk_drewN | apply blk_drew | apply blk_alloc)); refine blk_put (cs := #[.string ((rd_T79 l0 x17_1).f0), .int .i64 ((rd_T79 l0 x17_1).f1), .slice A322_2 ((rd_T79 l0 x17_1).f2).length c322_2, .slice A322_3 ((rd_T79 l0 x17_1).f3).length c322_3, .slice A322_4 ((rd_T79 l0 x17_1).f4).length c322_4, .slice none 0 0, .slice none 0 0, .slice none 0 0]) ?_ 5 _ rfl; (with_reducible repeat (first | apply blk_drewN | apply blk_drew | apply blk_alloc)); refine blk_put (cs := #[.string ((rd_T79 l0 x17_1).f0), .int .i64 ((rd_T79 l0 x17_1).f1), .slice A322_2 ((rd_T79 l0 x17_1).f2).length c322_2, .slice A322_3 ((rd_T79 l0 x17_1).f3).length c322_3, .slice none 0 0, .slice none 0 0, .slice none 0 0, .slice none 0 0]) ?_ 4 _ rfl; (with_reducible repeat (first | apply blk_drewN | apply blk_drew | apply blk_alloc)); refine blk_put (cs := #[.string ((rd_T79 l0 x17_1).f0), .int .i64 ((rd_T79 l0 x17_1).f1), .slice A322_2 ((rd_T79 l0 x17_1).f2).length c322_2, .slice none 0 0, .slice none 0 0, .slice none 0 0, .slice none 0 0, .slice none 0 0]) ?_ 3 _ rfl; (with_reducible repeat (first | apply blk_drewN | apply blk_drew | apply blk_alloc)); refine blk_put (cs := #[.string ((rd_T79 l0 x17_1).f0), .int .i64 ((rd_T79 l0 x17_1).f1), .slice none 0 0, .slice none 0 0, .slice none 0 0, .slice none 0 0, .slice none 0 0, .slice none 0 0]) ?_ 2 _ rfl; (with_reducible repeat (first | apply blk_drewN | apply blk_drew | apply blk_alloc)); refine blk_put (cs := #[.string ((rd_T79 l0 x17_1).f0), .int .i64 0, .slice none 0 0, .slice none 0 0, .slice none 0 0, .slice none 0 0, .slice none 0 0, .slice none 0 0]) ?_ 1 _ rfl; (with_reducible repeat (first | apply blk_drewN | apply blk_drew | apply blk_alloc)); refine blk_put (cs := #[.string (⟨#[]⟩ : ByteArray), .int .i64 0, .slice none 0 0, .slice none 0 0, .slice none 0 0, .slice none 0 0, .slice none 0 0, .slice none 0 0]) ?_ 0 _ rfl; (with_reducible repeat (first | apply blk_drewN | apply blk_drew | apply blk_alloc)); exact BK323.out)) : gb323 ≠ gb325)); have n6_ := Aside0.mk n5_.out.symm; clear BK323; clear HB; have BK323 := n0_; have HB := n1_; have BK325 := n2_; have GW325 := n3_; have GE325 := n4_; have NB323_325 := n5_; have NB325_323 := n6_; clear n0_ n1_ n2_ n3_ n4_ n5_ n6_; clear hb hbox hg; have hnb14 := NB325_323.out; have hnc14 := NB323_325.out; obtain ⟨hcz15_0, hcz15_1, hcz15_2, hcz15_3, hcz15_4, hcz15_5, hcz15_6, hcz15_7, hfz15_0, hfz15_1, hfz15_2, hfz15_3, hfz15_4, hfz15_5, hfz15_6, hfz15_7⟩ := bc8 BK325.out; obtain ⟨hcz16_0, hcz16_1, hcz16_2, hcz16_3, hcz16_4, hcz16_5, hcz16_6, hcz16_7, hfz16_0, hfz16_1, hfz16_2, hfz16_3, hfz16_4, hfz16_5, hfz16_6, hfz16_7⟩ := bc8 BK323.out) | ((refine gate_calleeV (f := 39) rfl (by rfl) ?_); refine goesLV_ (some 29) rfl rfl Try.func39 (by kernel_rfl) rfl #[.agg #[.string ((rd_T79 l0 x17_1).f0), .int .i64 ((rd_T79 l0 x17_1).f1), .slice A322_2 ((rd_T79 l0 x17_1).f2).length c322_2, .slice A322_3 ((rd_T79 l0 x17_1).f3).length c322_3, .slice A322_4 ((rd_T79 l0 x17_1).f4).length c322_4, .slice A322_5 ((rd_T79 l0 x17_1).f5).length c322_5, .slice A322_6 ((rd_T79 l0 x17_1).f6).length c322_6, .slice A322_7 ((rd_T79 l0 x17_1).f7).length c322_7], .agg #[.string ((rd_T79 l1 x17_1).f0), .int .i64 ((rd_T79 l1 x17_1).f1), .slice A324_2 ((rd_T79 l1 x17_1).f2).length c324_2, .slice A324_3 ((rd_T79 l1 x17_1).f3).length c324_3, .slice A324_4 ((rd_T79 l1 x17_1).f4).length c324_4, .slice A324_5 ((rd_T79 l1 x17_1).f5).length c324_5, .slice A324_6 ((rd_T79 l1 x17_1).f6).length c324_6, .slice A324_7 ((rd_T79 l1 x17_1).f7).length c324_7]] rfl (by rfl) glm ?_; (with_reducible refine (impl_ProductSame.calls k1 ((rd_T79 l0 x17_1).f0) ((rd_T79 l0 x17_1).f1) _ _ ((rd_T79 l0 x17_1).f2) _ _ ((rd_T79 l0 x17_1).f3) _ _ ((rd_T79 l0 x17_1).f4) _ _ ((rd_T79 l0 x17_1).f5) _ _ ((rd_T79 l0 x17_1).f6) _ _ ((rd_T79 l0 x17_1).f7) ((rd_T79 l1 x17_1).f0) ((rd_T79 l1 x17_1).f1) _ _ ((rd_T79 l1 x17_1).f2) _ _ ((rd_T79 l1 x17_1).f3) _ _ ((rd_T79 l1 x17_1).f4) _ _ ((rd_T79 l1 x17_1).f5) _ _ ((rd_T79 l1 x17_1).f6) _ _ ((rd_T79 l1 x17_1).f7) true _ ?side1 ?side2 ?side3 ?side4 ?side5 ?side6 ?side7 ?side8 ?side9 ?side10 ?side11 ?side12 ?side13 ?side14 ?side15 ?side16 ?side17 ?side18 ?side19 ?side20 ?side21 ?side22 ?side23 ?side24 A9.out).mono ?_); (case side1 => exact Kd.C_below HR322_2.out hbm); (case side2 => exact HC322_2.out); (case side3 => exact Kd.C_below HR322_3.out hbm); (case side4 => exact HC322_3.out); (case side5 => exact Kd.C_below HR322_4.out hbm); (case side6 => exact HC322_4.out); (case side7 => exact Kd.C_below HR322_5.out hbm); (case side8 => exact HC322_5.out); (case side9 => exact Kd.C_below HR322_6.out hbm); (case side10 => exact HC322_6.out); (case side11 => exact Kd.C_below HR322_7.out hbm); (case side12 => exact HC322_7.out); (case side13 => exact Kd.C_below HR324_2.out hbm); (case side14 => exact HC324_2.out); (case side15 => exact Kd.C_below HR324_3.out hbm); (case side16 => exact HC324_3.out); (case side17 => exact Kd.C_below HR324_4.out hbm); (case side18 => exact HC324_4.out); (case side19 => exact Kd.C_below HR324_5.out hbm); (case side20 => exact HC324_5.out); (case side21 => exact Kd.C_below HR324_6.out hbm); (case side22 => exact HC324_6.out); (case side23 => exact Kd.C_below HR324_7.out hbm); (case side24 => exact HC324_7.out); rintro e w17 ⟨rfl, hb⟩; refine ⟨_, rfl, ?_⟩; have n0_ := Aside0.mk (blk_below (g := gb323) (o := .cells #[.string ((rd_T79 l0 x17_1).f0), .int .i64 ((rd_T79 l0 x17_1).f1), .slice A322_2 ((rd_T79 l0 x17_1).f2).length c322_2, .slice A322_3 ((rd_T79 l0 x17_1).f3).length c322_3, .slice A322_4 ((rd_T79 l0 x17_1).f4).length c322_4, .slice A322_5 ((rd_T79 l0 x17_1).f5).length c322_5, .slice A322_6 ((rd_T79 l0 x17_1).f6).length c322_6, .slice A322_7 ((rd_T79 l0 x17_1).f7).length c322_7] 79 (0, 0)) (by (with_reducible repeat (first | apply blk_drewN | apply blk_drew | apply blk_alloc)); refine blk_far ?_ NB323_325.out _; (with_reducible repeat (first | apply blk_drewN | apply blk_drew | apply blk_alloc)); refine blk_far ?_ NB323_325.out _; (with_reducible repeat (first | apply blk_drewN | apply blk_drew | apply blk_alloc)); refine blk_far ?_ NB323_325.out _; (with_reducible repeat (first | apply blk_drewN | apply blk_drew | apply blk_alloc)); refine blk_far ?_ NB323_325.out _; (with_reducible repeat (first | apply blk_drewN | apply blk_drew | apply blk_alloc)); refine blk_far ?_ NB323_325.out _; (with_reducible repeat (first | apply blk_drewN | apply blk_drew | apply blk_alloc)); refine blk_far ?_ NB323_325.out _; (with_reducible repeat (first | apply blk_drewN | apply blk_drew | apply blk_alloc)); refine blk_far ?_ NB323_325.out _; (with_reducible repeat (first | apply blk_drewN | apply blk_drew | apply blk_alloc)); refine blk_far ?_ NB323_325.out _; (with_reducible repeat (first | apply blk_drewN | apply blk_drew | apply blk_alloc)); exact BK323.out) hb); have n1_ := Aside0.mk (blk_below (g := gb325) (o := .cells #[.string ((rd_T79 l1 x17_1).f0), .int .i64 ((rd_T79 l1 x17_1).f1), .slice A324_2 ((rd_T79 l1 x17_1).f2).length c324_2, .slice A324_3 ((rd_T79 l1 x17_1).f3).length c324_3, .slice A324_4 ((rd_T79 l1 x17_1).f4).length c324_4, .slice A324_5 ((rd_T79 l1 x17_1).f5).length c324_5, .slice A324_6 ((rd_T79 l1 x17_1).f6).length c324_6, .slice A324_7 ((rd_T79 l1 x17_1).f7).length c324_7] 79 (0, 0)) (by (with_reducible repeat (first | apply blk_drewN | apply blk_drew | apply blk_alloc)); refine blk_put (cs := #[.string ((rd_T79 l1 x17_1).f0), .int .i64 ((rd_T79 l1 x17_1).f1), .slice A324_2 ((rd_T79 l1 x17_1).f2).length c324_2, .slice A324_3 ((rd_T79 l1 x17_1).f3).length c324_3, .slice A324_4 ((rd_T79 l1 x17_1).f4).length c324_4, .slice A324_5 ((rd_T79 l1 x17_1).f5).length c324_5, .slice A324_6 ((rd_T79 l1 x17_1).f6).length c324_6, .slice none 0 0]) ?_ 7 _ rfl; (with_reducible repeat (first | apply blk_drewN | apply blk_drew | apply blk_alloc)); refine blk_put (cs := #[.string ((rd_T79 l1 x17_1).f0), .int .i64 ((rd_T79 l1 x17_1).f1), .slice A324_2 ((rd_T79 l1 x17_1).f2).length c324_2, .slice A324_3 ((rd_T79 l1 x17_1).f3).length c324_3, .slice A324_4 ((rd_T79 l1 x17_1).f4).length c324_4, .slice A324_5 ((rd_T79 l1 x17_1).f5).length c324_5, .slice none 0 0, .slice none 0 0]) ?_ 6 _ rfl; (with_reducible repeat (first | apply blk_drewN | apply blk_drew | apply blk_alloc)); refine blk_put (cs := #[.string ((rd_T79 l1 x17_1).f0), .int .i64 ((rd_T79 l1 x17_1).f1), .slice A324_2 ((rd_T79 l1 x17_1).f2).length c324_2, .slice A324_3 ((rd_T79 l1 x17_1).f3).length c324_3, .slice A324_4 ((rd_T79 l1 x17_1).f4).length c324_4, .slice none 0 0, .slice none 0 0, .slice none 0 0]) ?_ 5 _ rfl; (with_reducible repeat (first | apply blk_drewN | apply blk_drew | apply blk_alloc)); refine blk_put (cs := #[.string ((rd_T79 l1 x17_1).f0), .int .i64 ((rd_T79 l1 x17_1).f1), .slice A324_2 ((rd_T79 l1 x17_1).f2).length c324_2, .slice A324_3 ((rd_T79 l1 x17_1).f3).length c324_3, .slice none 0 0, .slice none 0 0, .slice none 0 0, .slice none 0 0]) ?_ 4 _ rfl; (with_reducible repeat (first | apply blk_drewN | apply blk_drew | apply blk_alloc)); refine blk_put (cs := #[.string ((rd_T79 l1 x17_1).f0), .int .i64 ((rd_T79 l1 x17_1).f1), .slice A324_2 ((rd_T79 l1 x17_1).f2).length c324_2, .slice none 0 0, .slice none 0 0, .slice none 0 0, .slice none 0 0, .slice none 0 0]) ?_ 3 _ rfl; (with_reducible repeat (first | apply blk_drewN | apply blk_drew | apply blk_alloc)); refine blk_put (cs := #[.string ((rd_T79 l1 x17_1).f0), .int .i64 ((rd_T79 l1 x17_1).f1), .slice none 0 0, .slice none 0 0, .slice none 0 0, .slice none 0 0, .slice none 0 0, .slice none 0 0]) ?_ 2 _ rfl; (with_reducible repeat (first | apply blk_drewN | apply blk_drew | apply blk_alloc)); refine blk_put (cs := #[.string ((rd_T79 l1 x17_1).f0), .int .i64 0, .slice none 0 0, .slice none 0 0, .slice none 0 0, .slice none 0 0, .slice none 0 0, .slice none 0 0]) ?_ 1 _ rfl; (with_reducible repeat (first | apply blk_drewN | apply blk_drew | apply blk_alloc)); refine blk_put (cs := #[.string (⟨#[]⟩ : ByteArray), .int .i64 0, .slice none 0 0, .slice none 0 0, .slice none 0 0, .slice none 0 0, .slice none 0 0, .slice none 0 0]) ?_ 0 _ rfl; (with_reducible repeat (first | apply blk_drewN | apply blk_drew | apply blk_alloc)); exact BK325.out) hb); have n2_ := bst hb; clear BK323; clear BK325; clear HB; have BK323 := n0_; have BK325 := n1_; have HB := n2_; clear n0_ n1_ n2_; (try clear hb); (try clear hb2); (try clear hk); (try clear hi)))
         go_roundg k1
         case measure => have := HK1.out; omega
         case rel => exact ⟨(wrap64 (x17_1 + 1)), (by first | rfl | (simp; done) | (simp [*]; done)), H', ⟨by have := HK1.out; omega⟩, ⟨hbm⟩⟩
        ·
         replace c10 := Bool.eq_false_iff.mpr c10
         subst c10
         have H1 : (some false) = some r := by rw [if_neg (show ¬ (false = true) by decide)] at H; exact H
         clear H
         have H := H1
         clear H1
         obtain rfl := Option.some.inj H
         have p322 : 0 ≤ (x17_1 : Int) := of_decide_eq_true asm_
         have q322 : x17_1 < (l0.length : Int) := of_decide_eq_true asm_
         obtain ⟨ad322, A322_2, c322_2, A322_3, c322_3, A322_4, c322_4, A322_5, c322_5, A322_6, c322_6, A322_7, c322_7, e322, hx322_0, hx322_1, hx322_2, hx322_3, hx322_4, hx322_5, hx322_6, hx322_7, hl322_2, hi322_2, hl322_3, hi322_3, hl322_4, hi322_4, hl322_5, hi322_5, hl322_6, hi322_6, hl322_7, hi322_7⟩ := at_T79 HR0.out x17_1 p322 q322
         cases e322
         replace hx322_0 := hcl HB hx322_0
         replace hx322_1 := hcl HB hx322_1
         replace hx322_2 := hcl HB hx322_2
         replace hx322_3 := hcl HB hx322_3
         replace hx322_4 := hcl HB hx322_4
         replace hx322_5 := hcl HB hx322_5
         replace hx322_6 := hcl HB hx322_6
         replace hx322_7 := hcl HB hx322_7
         have HR322_2 := Aside0.mk hi322_2
         have HC322_2 := Aside0.mk hl322_2
         clear hi322_2 hl322_2
         have HR322_3 := Aside0.mk hi322_3
         have HC322_3 := Aside0.mk hl322_3
         clear hi322_3 hl322_3
         have HR322_4 := Aside0.mk hi322_4
         have HC322_4 := Aside0.mk hl322_4
         clear hi322_4 hl322_4
         have HR322_5 := Aside0.mk hi322_5
         have HC322_5 := Aside0.mk hl322_5
         clear hi322_5 hl322_5
         have HR322_6 := Aside0.mk hi322_6
         have HC322_6 := Aside0.mk hl322_6
         clear hi322_6 hl322_6
         have HR322_7 := Aside0.mk hi322_7
         have HC322_7 := Aside0.mk hl322_7
         clear hi322_7 hl322_7
         replace p322 := eq_true p322
         replace q322 := eq_true q322
         go_wp2_with (first | ((with_reducible refine gate_dst (N := 8) rfl ?_); refine bxe (N := 8) (cs := #[.string (⟨#[]⟩ : ByteArray), .int .i64 0, .slice none 0 0, .slice none 0 0, .slice none 0 0, .slice none 0 0, .slice none 0 0, .slice none 0 0]) (t := 79) ?_; intro gb323 hg w18 hbox hb; have n0_ := bst hb; have n1_ := Aside0.mk (hbox); have n2_ := (bsz hg : Aside0 (w.heap.size ≤ gb323)); have n3_ := n2_; clear HB; have HB := n0_; have BK323 := n1_; have GW323 := n2_; have GE323 := n3_; clear n0_ n1_ n2_ n3_; clear hb hbox hg; obtain ⟨hcz19_0, hcz19_1, hcz19_2, hcz19_3, hcz19_4, hcz19_5, hcz19_6, hcz19_7, hfz19_0, hfz19_1, hfz19_2, hfz19_3, hfz19_4, hfz19_5, hfz19_6, hfz19_7⟩ := bc8 BK323.out; have p324 : 0 ≤ (x17_1 : Int) := of_decide_eq_true asm_; have q324 : x17_1 < (l1.length : Int) := of_decide_eq_true asm_; obtain ⟨ad324, A324_2, c324_2, A324_3, c324_3, A324_4, c324_4, A324_5, c324_5, A324_6, c324_6, A324_7, c324_7, e324, hx324_0, hx324_1, hx324_2, hx324_3, hx324_4, hx324_5, hx324_6, hx324_7, hl324_2, hi324_2, hl324_3, hi324_3, hl324_4, hi324_4, hl324_5, hi324_5, hl324_6, hi324_6, hl324_7, hi324_7⟩ := at_T79 HR1.out x17_1 p324 q324; cases e324; have hn324_0 : ad324.block ≠ gb323 := Nat.ne_of_lt (Nat.lt_of_lt_of_le (by have := World.block_lt_of_cell? _ _ hx324_0; first | rwa [add_block] at this | exact this) GW323.out); have hn324_1 : ad324.block ≠ gb323 := Nat.ne_of_lt (Nat.lt_of_lt_of_le (by have := World.block_lt_of_cell? _ _ hx324_0; first | rwa [add_block] at this | exact this) GW323.out); have hn324_2 : ad324.block ≠ gb323 := Nat.ne_of_lt (Nat.lt_of_lt_of_le (by have := World.block_lt_of_cell? _ _ hx324_0; first | rwa [add_block] at this | exact this) GW323.out); have hn324_3 : ad324.block ≠ gb323 := Nat.ne_of_lt (Nat.lt_of_lt_of_le (by have := World.block_lt_of_cell? _ _ hx324_0; first | rwa [add_block] at this | exact this) GW323.out); have hn324_4 : ad324.block ≠ gb323 := Nat.ne_of_lt (Nat.lt_of_lt_of_le (by have := World.block_lt_of_cell? _ _ hx324_0; first | rwa [add_block] at this | exact this) GW323.out); have hn324_5 : ad324.block ≠ gb323 := Nat.ne_of_lt (Nat.lt_of_lt_of_le (by have := World.block_lt_of_cell? _ _ hx324_0; first | rwa [add_block] at this | exact this) GW323.out); have hn324_6 : ad324.block ≠ gb323 := Nat.ne_of_lt (Nat.lt_of_lt_of_le (by have := World.block_lt_of_cell? _ _ hx324_0; first | rwa [add_block] at this | exact this) GW323.out); have hn324_7 : ad324.block ≠ gb323 := Nat.ne_of_lt (Nat.lt_of_lt_of_le (by have := World.block_lt_of_cell? _ _ hx324_0; first | rwa [add_block] at this | exact this) GW323.out); replace hx324_0 := hcl HB hx324_0; replace hx324_1 := hcl HB hx324_1; replace hx324_2 := hcl HB hx324_2; replace hx324_3 := hcl HB hx324_3; replace hx324_4 := hcl HB hx324_4; replace hx324_5 := hcl HB hx324_5; replace hx324_6 := hcl HB hx324_6; replace hx324_7 := hcl HB hx324_7; have HR324_2 := Aside0.mk hi324_2; have HC324_2 := Aside0.mk hl324_2; clear hi324_2 hl324_2; have HR324_3 := Aside0.mk hi324_3; have HC324_3 := Aside0.mk hl324_3; clear hi324_3 hl324_3; have HR324_4 := Aside0.mk hi324_4; have HC324_4 := Aside0.mk hl324_4; clear hi324_4 hl324_4; have HR324_5 := Aside0.mk hi324_5; have HC324_5 := Aside0.mk hl324_5; clear hi324_5 hl324_5; have HR324_6 := Aside0.mk hi324_6; have HC324_6 := Aside0.mk hl324_6; clear hi324_6 hl324_6; have HR324_7 := Aside0.mk hi324_7; have HC324_7 := Aside0.mk hl324_7; clear hi324_7 hl324_7; replace hx324_0 := cfr gb323 0 (.string ((rd_T79 l0 x17_1).f0)) hn324_0 hx324_0; replace hx324_1 := cfr gb323 0 (.string ((rd_T79 l0 x17_1).f0)) hn324_0 hx324_1; replace hx324_2 := cfr gb323 0 (.string ((rd_T79 l0 x17_1).f0)) hn324_0 hx324_2; replace hx324_3 := cfr gb323 0 (.string ((rd_T79 l0 x17_1).f0)) hn324_0 hx324_3; replace hx324_4 := cfr gb323 0 (.string ((rd_T79 l0 x17_1).f0)) hn324_0 hx324_4; replace hx324_5 := cfr gb323 0 (.string ((rd_T79 l0 x17_1).f0)) hn324_0 hx324_5; replace hx324_6 := cfr gb323 0 (.string ((rd_T79 l0 x17_1).f0)) hn324_0 hx324_6; replace hx324_7 := cfr gb323 0 (.string ((rd_T79 l0 x17_1).f0)) hn324_0 hx324_7; replace hx324_0 := cfr gb323 1 (.int .i64 ((rd_T79 l0 x17_1).f1)) hn324_1 hx324_0; replace hx324_1 := cfr gb323 1 (.int .i64 ((rd_T79 l0 x17_1).f1)) hn324_1 hx324_1; replace hx324_2 := cfr gb323 1 (.int .i64 ((rd_T79 l0 x17_1).f1)) hn324_1 hx324_2; replace hx324_3 := cfr gb323 1 (.int .i64 ((rd_T79 l0 x17_1).f1)) hn324_1 hx324_3; replace hx324_4 := cfr gb323 1 (.int .i64 ((rd_T79 l0 x17_1).f1)) hn324_1 hx324_4; replace hx324_5 := cfr gb323 1 (.int .i64 ((rd_T79 l0 x17_1).f1)) hn324_1 hx324_5; replace hx324_6 := cfr gb323 1 (.int .i64 ((rd_T79 l0 x17_1).f1)) hn324_1 hx324_6; replace hx324_7 := cfr gb323 1 (.int .i64 ((rd_T79 l0 x17_1).f1)) hn324_1 hx324_7; replace hx324_0 := cfr gb323 2 (.slice A322_2 ((rd_T79 l0 x17_1).f2).length c322_2) hn324_2 hx324_0; replace hx324_1 := cfr gb323 2 (.slice A322_2 ((rd_T79 l0 x17_1).f2).length c322_2) hn324_2 hx324_1; replace hx324_2 := cfr gb323 2 (.slice A322_2 ((rd_T79 l0 x17_1).f2).length c322_2) hn324_2 hx324_2; replace hx324_3 := cfr gb323 2 (.slice A322_2 ((rd_T79 l0 x17_1).f2).length c322_2) hn324_2 hx324_3; replace hx324_4 := cfr gb323 2 (.slice A322_2 ((rd_T79 l0 x17_1).f2).length c322_2) hn324_2 hx324_4; replace hx324_5 := cfr gb323 2 (.slice A322_2 ((rd_T79 l0 x17_1).f2).length c322_2) hn324_2 hx324_5; replace hx324_6 := cfr gb323 2 (.slice A322_2 ((rd_T79 l0 x17_1).f2).length c322_2) hn324_2 hx324_6; replace hx324_7 := cfr gb323 2 (.slice A322_2 ((rd_T79 l0 x17_1).f2).length c322_2) hn324_2 hx324_7; replace hx324_0 := cfr gb323 3 (.slice A322_3 ((rd_T79 l0 x17_1).f3).length c322_3) hn324_3 hx324_0; replace hx324_1 := cfr gb323 3 (.slice A322_3 ((rd_T79 l0 x17_1).f3).length c322_3) hn324_3 hx324_1; replace hx324_2 := cfr gb323 3 (.slice A322_3 ((rd_T79 l0 x17_1).f3).length c322_3) hn324_3 hx324_2; replace hx324_3 := cfr gb323 3 (.slice A322_3 ((rd_T79 l0 x17_1).f3).length c322_3) hn324_3 hx324_3; replace hx324_4 := cfr gb323 3 (.slice A322_3 ((rd_T79 l0 x17_1).f3).length c322_3) hn324_3 hx324_4; replace hx324_5 := cfr gb323 3 (.slice A322_3 ((rd_T79 l0 x17_1).f3).length c322_3) hn324_3 hx324_5; replace hx324_6 := cfr gb323 3 (.slice A322_3 ((rd_T79 l0 x17_1).f3).length c322_3) hn324_3 hx324_6; replace hx324_7 := cfr gb323 3 (.slice A322_3 ((rd_T79 l0 x17_1).f3).length c322_3) hn324_3 hx324_7; replace hx324_0 := cfr gb323 4 (.slice A322_4 ((rd_T79 l0 x17_1).f4).length c322_4) hn324_4 hx324_0; replace hx324_1 := cfr gb323 4 (.slice A322_4 ((rd_T79 l0 x17_1).f4).length c322_4) hn324_4 hx324_1; replace hx324_2 := cfr gb323 4 (.slice A322_4 ((rd_T79 l0 x17_1).f4).length c322_4) hn324_4 hx324_2; replace hx324_3 := cfr gb323 4 (.slice A322_4 ((rd_T79 l0 x17_1).f4).length c322_4) hn324_4 hx324_3; replace hx324_4 := cfr gb323 4 (.slice A322_4 ((rd_T79 l0 x17_1).f4).length c322_4) hn324_4 hx324_4; replace hx324_5 := cfr gb323 4 (.slice A322_4 ((rd_T79 l0 x17_1).f4).length c322_4) hn324_4 hx324_5; replace hx324_6 := cfr gb323 4 (.slice A322_4 ((rd_T79 l0 x17_1).f4).length c322_4) hn324_4 hx324_6; replace hx324_7 := cfr gb323 4 (.slice A322_4 ((rd_T79 l0 x17_1).f4).length c322_4) hn324_4 hx324_7; replace hx324_0 := cfr gb323 5 (.slice A322_5 ((rd_T79 l0 x17_1).f5).length c322_5) hn324_5 hx324_0; replace hx324_1 := cfr gb323 5 (.slice A322_5 ((rd_T79 l0 x17_1).f5).length c322_5) hn324_5 hx324_1; replace hx324_2 := cfr gb323 5 (.slice A322_5 ((rd_T79 l0 x17_1).f5).length c322_5) hn324_5 hx324_2; replace hx324_3 := cfr gb323 5 (.slice A322_5 ((rd_T79 l0 x17_1).f5).length c322_5) hn324_5 hx324_3; replace hx324_4 := cfr gb323 5 (.slice A322_5 ((rd_T79 l0 x17_1).f5).length c322_5) hn324_5 hx324_4; replace hx324_5 := cfr gb323 5 (.slice A322_5 ((rd_T79 l0 x17_1).f5).length c322_5) hn324_5 hx324_5; replace hx324_6 := cfr gb323 5 (.slice A322_5 ((rd_T79 l0 x17_1).f5).length c322_5) hn324_5 hx324_6; replace hx324_7 := cfr gb323 5 (.slice A322_5 ((rd_T79 l0 x17_1).f5).length c322_5) hn324_5 hx324_7; replace hx324_0 := cfr gb323 6 (.slice A322_6 ((rd_T79 l0 x17_1).f6).length c322_6) hn324_6 hx324_0; replace hx324_1 := cfr gb323 6 (.slice A322_6 ((rd_T79 l0 x17_1).f6).length c322_6) hn324_6 hx324_1; replace hx324_2 := cfr gb323 6 (.slice A322_6 ((rd_T79 l0 x17_1).f6).length c322_6) hn324_6 hx324_2; replace hx324_3 := cfr gb323 6 (.slice A322_6 ((rd_T79 l0 x17_1).f6).length c322_6) hn324_6 hx324_3; replace hx324_4 := cfr gb323 6 (.slice A322_6 ((rd_T79 l0 x17_1).f6).length c322_6) hn324_6 hx324_4; replace hx324_5 := cfr gb323 6 (.slice A322_6 ((rd_T79 l0 x17_1).f6).length c322_6) hn324_6 hx324_5; replace hx324_6 := cfr gb323 6 (.slice A322_6 ((rd_T79 l0 x17_1).f6).length c322_6) hn324_6 hx324_6; replace hx324_7 := cfr gb323 6 (.slice A322_6 ((rd_T79 l0 x17_1).f6).length c322_6) hn324_6 hx324_7; replace hx324_0 := cfr gb323 7 (.slice A322_7 ((rd_T79 l0 x17_1).f7).length c322_7) hn324_7 hx324_0; replace hx324_1 := cfr gb323 7 (.slice A322_7 ((rd_T79 l0 x17_1).f7).length c322_7) hn324_7 hx324_1; replace hx324_2 := cfr gb323 7 (.slice A322_7 ((rd_T79 l0 x17_1).f7).length c322_7) hn324_7 hx324_2; replace hx324_3 := cfr gb323 7 (.slice A322_7 ((rd_T79 l0 x17_1).f7).length c322_7) hn324_7 hx324_3; replace hx324_4 := cfr gb323 7 (.slice A322_7 ((rd_T79 l0 x17_1).f7).length c322_7) hn324_7 hx324_4; replace hx324_5 := cfr gb323 7 (.slice A322_7 ((rd_T79 l0 x17_1).f7).length c322_7) hn324_7 hx324_5; replace hx324_6 := cfr gb323 7 (.slice A322_7 ((rd_T79 l0 x17_1).f7).length c322_7) hn324_7 hx324_6; replace hx324_7 := cfr gb323 7 (.slice A322_7 ((rd_T79 l0 x17_1).f7).length c322_7) hn324_7 hx324_7; clear hn324_0; clear hn324_1; clear hn324_2; clear hn324_3; clear hn324_4; clear hn324_5; clear hn324_6; clear hn324_7; replace p324 := eq_true p324; replace q324 := eq_true q324) | ((with_reducible refine gate_dst (N := 9) rfl ?_); refine bxe (N := 9) (cs := #[.string (⟨#[]⟩ : ByteArray), .int .i64 0, .slice none 0 0, .slice none 0 0, .slice none 0 0, .slice none 0 0, .slice none 0 0, .slice none 0 0]) (t := 79) ?_; intro gb325 hg w20 hbox hb; have n0_ := Aside0.mk (blk_below (g := gb323) (o := .cells #[.string ((rd_T79 l0 x17_1).f0), .int .i64 ((rd_T79 l0 x17_1).f1), .slice A322_2 ((rd_T79 l0 x17_1).f2).length c322_2, .slice A322_3 ((rd_T79 l0 x17_1).f3).length c322_3, .slice A322_4 ((rd_T79 l0 x17_1).f4).length c322_4, .slice A322_5 ((rd_T79 l0 x17_1).f5).length c322_5, .slice A322_6 ((rd_T79 l0 x17_1).f6).length c322_6, .slice A322_7 ((rd_T79 l0 x17_1).f7).length c322_7] 79 (0, 0)) (by (with_reducible repeat (first | apply blk_drewN | apply blk_drew | apply blk_alloc)); refine blk_put (cs := #[.string ((rd_T79 l0 x17_1).f0), .int .i64 ((rd_T79 l0 x17_1).f1), .slice A322_2 ((rd_T79 l0 x17_1).f2).length c322_2, .slice A322_3 ((rd_T79 l0 x17_1).f3).length c322_3, .slice A322_4 ((rd_T79 l0 x17_1).f4).length c322_4, .slice A322_5 ((rd_T79 l0 x17_1).f5).length c322_5, .slice A322_6 ((rd_T79 l0 x17_1).f6).length c322_6, .slice none 0 0]) ?_ 7 _ rfl; (with_reducible repeat (first | apply blk_drewN | apply blk_drew | apply blk_alloc)); refine blk_put (cs := #[.string ((rd_T79 l0 x17_1).f0), .int .i64 ((rd_T79 l0 x17_1).f1), .slice A322_2 ((rd_T79 l0 x17_1).f2).length c322_2, .slice A322_3 ((rd_T79 l0 x17_1).f3).length c322_3, .slice A322_4 ((rd_T79 l0 x17_1).f4).length c322_4, .slice A322_5 ((rd_T79 l0 x17_1).f5).length c322_5, .slice none 0 0, .slice none 0 0]) ?_ 6 _ rfl; (with_reducible repeat (first | apply blk_drewN | apply blk_drew | apply blk_alloc)); refine blk_put (cs := #[.string ((rd_T79 l0 x17_1).f0), .int .i64 ((rd_T79 l0 x17_1).f1), .slice A322_2 ((rd_T79 l0 x17_1).f2).length c322_2, .slice A322_3 ((rd_T79 l0 x17_1).f3).length c322_3, .slice A322_4 ((rd_T79 l0 x17_1).f4).length c322_4, .slice none 0 0, .slice none 0 0, .slice none 0 0]) ?_ 5 _ rfl; (with_reducible repeat (first | apply blk_drewN | apply blk_drew | apply blk_alloc)); refine blk_put (cs := #[.string ((rd_T79 l0 x17_1).f0), .int .i64 ((rd_T79 l0 x17_1).f1), .slice A322_2 ((rd_T79 l0 x17_1).f2).length c322_2, .slice A322_3 ((rd_T79 l0 x17_1).f3).length c322_3, .slice none 0 0, .slice none 0 0, .slice none 0 0, .slice none 0 0]) ?_ 4 _ rfl; (with_reducible repeat (first | apply blk_drewN | apply blk_drew | apply blk_alloc)); refine blk_put (cs := #[.string ((rd_T79 l0 x17_1).f0), .int .i64 ((rd_T79 l0 x17_1).f1), .slice A322_2 ((rd_T79 l0 x17_1).f2).length c322_2, .slice none 0 0, .slice none 0 0, .slice none 0 0, .slice none 0 0, .slice none 0 0]) ?_ 3 _ rfl; (with_reducible repeat (first | apply blk_drewN | apply blk_drew | apply blk_alloc)); refine blk_put (cs := #[.string ((rd_T79 l0 x17_1).f0), .int .i64 ((rd_T79 l0 x17_1).f1), .slice none 0 0, .slice none 0 0, .slice none 0 0, .slice none 0 0, .slice none 0 0, .slice none 0 0]) ?_ 2 _ rfl; (with_reducible repeat (first | apply blk_drewN | apply blk_drew | apply blk_alloc)); refine blk_put (cs := #[.string ((rd_T79 l0 x17_1).f0), .int .i64 0, .slice none 0 0, .slice none 0 0, .slice none 0 0, .slice none 0 0, .slice none 0 0, .slice none 0 0]) ?_ 1 _ rfl; (with_reducible repeat (first | apply blk_drewN | apply blk_drew | apply blk_alloc)); refine blk_put (cs := #[.string (⟨#[]⟩ : ByteArray), .int .i64 0, .slice none 0 0, .slice none 0 0, .slice none 0 0, .slice none 0 0, .slice none 0 0, .slice none 0 0]) ?_ 0 _ rfl; (with_reducible repeat (first | apply blk_drewN | apply blk_drew | apply blk_alloc)); exact BK323.out) hb); have n1_ := bst hb; have n2_ := Aside0.mk (hbox); have n3_ := (bsz hg : Aside0 (w.heap.size ≤ gb325)); have n4_ := n3_; have n5_ := Aside0.mk ((by rw [hg]; exact Nat.ne_of_lt (blk_lt (g := gb323) (o := .cells #[.string ((rd_T79 l0 x17_1).f0), .int .i64 ((rd_T79 l0 x17_1).f1), .slice A322_2 ((rd_T79 l0 x17_1).f2).length c322_2, .slice A322_3 ((rd_T79 l0 x17_1).f3).length c322_3, .slice A322_4 ((rd_T79 l0 x17_1).f4).length c322_4, .slice A322_5 ((rd_T79 l0 x17_1).f5).length c322_5, .slice A322_6 ((rd_T79 l0 x17_1).f6).length c322_6, .slice A322_7 ((rd_T79 l0 x17_1).f7).length c322_7] 79 (0, 0)) (by (with_reducible repeat (first | apply blk_drewN | apply blk_drew | apply blk_alloc)); refine blk_put (cs := #[.string ((rd_T79 l0 x17_1).f0), .int .i64 ((rd_T79 l0 x17_1).f1), .slice A322_2 ((rd_T79 l0 x17_1).f2).length c322_2, .slice A322_3 ((rd_T79 l0 x17_1).f3).length c322_3, .slice A322_4 ((rd_T79 l0 x17_1).f4).length c322_4, .slice A322_5 ((rd_T79 l0 x17_1).f5).length c322_5, .slice A322_6 ((rd_T79 l0 x17_1).f6).length c322_6, .slice none 0 0]) ?_ 7 _ rfl; (with_reducible repeat (first | apply blk_drewN | apply blk_drew | apply blk_alloc)); refine blk_put (cs := #[.string ((rd_T79 l0 x17_1).f0), .int .i64 ((rd_T79 l0 x17_1).f1), .slice A322_2 ((rd_T79 l0 x17_1).f2).length c322_2, .slice A322_3 ((rd_T79 l0 x17_1).f3).length c322_3, .slice A322_4 ((rd_T79 l0 x17_1).f4).length c322_4, .slice A322_5 ((rd_T79 l0 x17_1).f5).length c322_5, .slice none 0 0, .slice none 0 0]) ?_ 6 _ rfl; (with_reducible repeat (first | apply blk_drewN | apply blk_drew | apply blk_alloc)); refine blk_put (cs := #[.string ((rd_T79 l0 x17_1).f0), .int .i64 ((rd_T79 l0 x17_1).f1), .slice A322_2 ((rd_T79 l0 x17_1).f2).length c322_2, .slice A322_3 ((rd_T79 l0 x17_1).f3).length c322_3, .slice A322_4 ((rd_T79 l0 x17_1).f4).length c322_4, .slice none 0 0, .slice none 0 0, .slice none 0 0]) ?_ 5 _ rfl; (with_reducible repeat (first | apply blk_drewN | apply blk_drew | apply blk_alloc)); refine blk_put (cs := #[.string ((rd_T79 l0 x17_1).f0), .int .i64 ((rd_T79 l0 x17_1).f1), .slice A322_2 ((rd_T79 l0 x17_1).f2).length c322_2, .slice A322_3 ((rd_T79 l0 x17_1).f3).length c322_3, .slice none 0 0, .slice none 0 0, .slice none 0 0, .slice none 0 0]) ?_ 4 _ rfl; (with_reducible repeat (first | apply blk_drewN | apply blk_drew | apply blk_alloc)); refine blk_put (cs := #[.string ((rd_T79 l0 x17_1).f0), .int .i64 ((rd_T79 l0 x17_1).f1), .slice A322_2 ((rd_T79 l0 x17_1).f2).length c322_2, .slice none 0 0, .slice none 0 0, .slice none 0 0, .slice none 0 0, .slice none 0 0]) ?_ 3 _ rfl; (with_reducible repeat (first | apply blk_drewN | apply blk_drew | apply blk_alloc)); refine blk_put (cs := #[.string ((rd_T79 l0 x17_1).f0), .int .i64 ((rd_T79 l0 x17_1).f1), .slice none 0 0, .slice none 0 0, .slice none 0 0, .slice none 0 0, .slice none 0 0, .slice none 0 0]) ?_ 2 _ rfl; (with_reducible repeat (first | apply blk_drewN | apply blk_drew | apply blk_alloc)); refine blk_put (cs := #[.string ((rd_T79 l0 x17_1).f0), .int .i64 0, .slice none 0 0, .slice none 0 0, .slice none 0 0, .slice none 0 0, .slice none 0 0, .slice none 0 0]) ?_ 1 _ rfl; (with_reducible repeat (first | apply blk_drewN | apply blk_drew | apply blk_alloc)); refine blk_put (cs := #[.string (⟨#[]⟩ : ByteArray), .int .i64 0, .slice none 0 0, .slice none 0 0, .slice none 0 0, .slice none 0 0, .slice none 0 0, .slice none 0 0]) ?_ 0 _ rfl; (with_reducible repeat (first | apply blk_drewN | apply blk_drew | apply blk_alloc)); exact BK323.out)) : gb323 ≠ gb325)); have n6_ := Aside0.mk n5_.out.symm; clear BK323; clear HB; have BK323 := n0_; have HB := n1_; have BK325 := n2_; have GW325 := n3_; have GE325 := n4_; have NB323_325 := n5_; have NB325_323 := n6_; clear n0_ n1_ n2_ n3_ n4_ n5_ n6_; clear hb hbox hg; have hnb21 := NB325_323.out; have hnc21 := NB323_325.out; obtain ⟨hcz22_0, hcz22_1, hcz22_2, hcz22_3, hcz22_4, hcz22_5, hcz22_6, hcz22_7, hfz22_0, hfz22_1, hfz22_2, hfz22_3, hfz22_4, hfz22_5, hfz22_6, hfz22_7⟩ := bc8 BK325.out; obtain ⟨hcz23_0, hcz23_1, hcz23_2, hcz23_3, hcz23_4, hcz23_5, hcz23_6, hcz23_7, hfz23_0, hfz23_1, hfz23_2, hfz23_3, hfz23_4, hfz23_5, hfz23_6, hfz23_7⟩ := bc8 BK323.out) | ((refine gate_calleeV (f := 39) rfl (by rfl) ?_); refine goesLV_ (some 29) rfl rfl Try.func39 (by kernel_rfl) rfl #[.agg #[.string ((rd_T79 l0 x17_1).f0), .int .i64 ((rd_T79 l0 x17_1).f1), .slice A322_2 ((rd_T79 l0 x17_1).f2).length c322_2, .slice A322_3 ((rd_T79 l0 x17_1).f3).length c322_3, .slice A322_4 ((rd_T79 l0 x17_1).f4).length c322_4, .slice A322_5 ((rd_T79 l0 x17_1).f5).length c322_5, .slice A322_6 ((rd_T79 l0 x17_1).f6).length c322_6, .slice A322_7 ((rd_T79 l0 x17_1).f7).length c322_7], .agg #[.string ((rd_T79 l1 x17_1).f0), .int .i64 ((rd_T79 l1 x17_1).f1), .slice A324_2 ((rd_T79 l1 x17_1).f2).length c324_2, .slice A324_3 ((rd_T79 l1 x17_1).f3).length c324_3, .slice A324_4 ((rd_T79 l1 x17_1).f4).length c324_4, .slice A324_5 ((rd_T79 l1 x17_1).f5).length c324_5, .slice A324_6 ((rd_T79 l1 x17_1).f6).length c324_6, .slice A324_7 ((rd_T79 l1 x17_1).f7).length c324_7]] rfl (by rfl) glm ?_; (with_reducible refine (impl_ProductSame.calls k1 ((rd_T79 l0 x17_1).f0) ((rd_T79 l0 x17_1).f1) _ _ ((rd_T79 l0 x17_1).f2) _ _ ((rd_T79 l0 x17_1).f3) _ _ ((rd_T79 l0 x17_1).f4) _ _ ((rd_T79 l0 x17_1).f5) _ _ ((rd_T79 l0 x17_1).f6) _ _ ((rd_T79 l0 x17_1).f7) ((rd_T79 l1 x17_1).f0) ((rd_T79 l1 x17_1).f1) _ _ ((rd_T79 l1 x17_1).f2) _ _ ((rd_T79 l1 x17_1).f3) _ _ ((rd_T79 l1 x17_1).f4) _ _ ((rd_T79 l1 x17_1).f5) _ _ ((rd_T79 l1 x17_1).f6) _ _ ((rd_T79 l1 x17_1).f7) false _ ?side1 ?side2 ?side3 ?side4 ?side5 ?side6 ?side7 ?side8 ?side9 ?side10 ?side11 ?side12 ?side13 ?side14 ?side15 ?side16 ?side17 ?side18 ?side19 ?side20 ?side21 ?side22 ?side23 ?side24 A9.out).mono ?_); (case side1 => exact Kd.C_below HR322_2.out hbm); (case side2 => exact HC322_2.out); (case side3 => exact Kd.C_below HR322_3.out hbm); (case side4 => exact HC322_3.out); (case side5 => exact Kd.C_below HR322_4.out hbm); (case side6 => exact HC322_4.out); (case side7 => exact Kd.C_below HR322_5.out hbm); (case side8 => exact HC322_5.out); (case side9 => exact Kd.C_below HR322_6.out hbm); (case side10 => exact HC322_6.out); (case side11 => exact Kd.C_below HR322_7.out hbm); (case side12 => exact HC322_7.out); (case side13 => exact Kd.C_below HR324_2.out hbm); (case side14 => exact HC324_2.out); (case side15 => exact Kd.C_below HR324_3.out hbm); (case side16 => exact HC324_3.out); (case side17 => exact Kd.C_below HR324_4.out hbm); (case side18 => exact HC324_4.out); (case side19 => exact Kd.C_below HR324_5.out hbm); (case side20 => exact HC324_5.out); (case side21 => exact Kd.C_below HR324_6.out hbm); (case side22 => exact HC324_6.out); (case side23 => exact Kd.C_below HR324_7.out hbm); (case side24 => exact HC324_7.out); rintro e w24 ⟨rfl, hb⟩; refine ⟨_, rfl, ?_⟩; have n0_ := Aside0.mk (blk_below (g := gb323) (o := .cells #[.string ((rd_T79 l0 x17_1).f0), .int .i64 ((rd_T79 l0 x17_1).f1), .slice A322_2 ((rd_T79 l0 x17_1).f2).length c322_2, .slice A322_3 ((rd_T79 l0 x17_1).f3).length c322_3, .slice A322_4 ((rd_T79 l0 x17_1).f4).length c322_4, .slice A322_5 ((rd_T79 l0 x17_1).f5).length c322_5, .slice A322_6 ((rd_T79 l0 x17_1).f6).length c322_6, .slice A322_7 ((rd_T79 l0 x17_1).f7).length c322_7] 79 (0, 0)) (by (with_reducible repeat (first | apply blk_drewN | apply blk_drew | apply blk_alloc)); refine blk_far ?_ NB323_325.out _; (with_reducible repeat (first | apply blk_drewN | apply blk_drew | apply blk_alloc)); refine blk_far ?_ NB323_325.out _; (with_reducible repeat (first | apply blk_drewN | apply blk_drew | apply blk_alloc)); refine blk_far ?_ NB323_325.out _; (with_reducible repeat (first | apply blk_drewN | apply blk_drew | apply blk_alloc)); refine blk_far ?_ NB323_325.out _; (with_reducible repeat (first | apply blk_drewN | apply blk_drew | apply blk_alloc)); refine blk_far ?_ NB323_325.out _; (with_reducible repeat (first | apply blk_drewN | apply blk_drew | apply blk_alloc)); refine blk_far ?_ NB323_325.out _; (with_reducible repeat (first | apply blk_drewN | apply blk_drew | apply blk_alloc)); refine blk_far ?_ NB323_325.out _; (with_reducible repeat (first | apply blk_drewN | apply blk_drew | apply blk_alloc)); refine blk_far ?_ NB323_325.out _; (with_reducible repeat (first | apply blk_drewN | apply blk_drew | apply blk_alloc)); exact BK323.out) hb); have n1_ := Aside0.mk (blk_below (g := gb325) (o := .cells #[.string ((rd_T79 l1 x17_1).f0), .int .i64 ((rd_T79 l1 x17_1).f1), .slice A324_2 ((rd_T79 l1 x17_1).f2).length c324_2, .slice A324_3 ((rd_T79 l1 x17_1).f3).length c324_3, .slice A324_4 ((rd_T79 l1 x17_1).f4).length c324_4, .slice A324_5 ((rd_T79 l1 x17_1).f5).length c324_5, .slice A324_6 ((rd_T79 l1 x17_1).f6).length c324_6, .slice A324_7 ((rd_T79 l1 x17_1).f7).length c324_7] 79 (0, 0)) (by (with_reducible repeat (first | apply blk_drewN | apply blk_drew | apply blk_alloc)); refine blk_put (cs := #[.string ((rd_T79 l1 x17_1).f0), .int .i64 ((rd_T79 l1 x17_1).f1), .slice A324_2 ((rd_T79 l1 x17_1).f2).length c324_2, .slice A324_3 ((rd_T79 l1 x17_1).f3).length c324_3, .slice A324_4 ((rd_T79 l1 x17_1).f4).length c324_4, .slice A324_5 ((rd_T79 l1 x17_1).f5).length c324_5, .slice A324_6 ((rd_T79 l1 x17_1).f6).length c324_6, .slice none 0 0]) ?_ 7 _ rfl; (with_reducible repeat (first | apply blk_drewN | apply blk_drew | apply blk_alloc)); refine blk_put (cs := #[.string ((rd_T79 l1 x17_1).f0), .int .i64 ((rd_T79 l1 x17_1).f1), .slice A324_2 ((rd_T79 l1 x17_1).f2).length c324_2, .slice A324_3 ((rd_T79 l1 x17_1).f3).length c324_3, .slice A324_4 ((rd_T79 l1 x17_1).f4).length c324_4, .slice A324_5 ((rd_T79 l1 x17_1).f5).length c324_5, .slice none 0 0, .slice none 0 0]) ?_ 6 _ rfl; (with_reducible repeat (first | apply blk_drewN | apply blk_drew | apply blk_alloc)); refine blk_put (cs := #[.string ((rd_T79 l1 x17_1).f0), .int .i64 ((rd_T79 l1 x17_1).f1), .slice A324_2 ((rd_T79 l1 x17_1).f2).length c324_2, .slice A324_3 ((rd_T79 l1 x17_1).f3).length c324_3, .slice A324_4 ((rd_T79 l1 x17_1).f4).length c324_4, .slice none 0 0, .slice none 0 0, .slice none 0 0]) ?_ 5 _ rfl; (with_reducible repeat (first | apply blk_drewN | apply blk_drew | apply blk_alloc)); refine blk_put (cs := #[.string ((rd_T79 l1 x17_1).f0), .int .i64 ((rd_T79 l1 x17_1).f1), .slice A324_2 ((rd_T79 l1 x17_1).f2).length c324_2, .slice A324_3 ((rd_T79 l1 x17_1).f3).length c324_3, .slice none 0 0, .slice none 0 0, .slice none 0 0, .slice none 0 0]) ?_ 4 _ rfl; (with_reducible repeat (first | apply blk_drewN | apply blk_drew | apply blk_alloc)); refine blk_put (cs := #[.string ((rd_T79 l1 x17_1).f0), .int .i64 ((rd_T79 l1 x17_1).f1), .slice A324_2 ((rd_T79 l1 x17_1).f2).length c324_2, .slice none 0 0, .slice none 0 0, .slice none 0 0, .slice none 0 0, .slice none 0 0]) ?_ 3 _ rfl; (with_reducible repeat (first | apply blk_drewN | apply blk_drew | apply blk_alloc)); refine blk_put (cs := #[.string ((rd_T79 l1 x17_1).f0), .int .i64 ((rd_T79 l1 x17_1).f1), .slice none 0 0, .slice none 0 0, .slice none 0 0, .slice none 0 0, .slice none 0 0, .slice none 0 0]) ?_ 2 _ rfl; (with_reducible repeat (first | apply blk_drewN | apply blk_drew | apply blk_alloc)); refine blk_put (cs := #[.string ((rd_T79 l1 x17_1).f0), .int .i64 0, .slice none 0 0, .slice none 0 0, .slice none 0 0, .slice none 0 0, .slice none 0 0, .slice none 0 0]) ?_ 1 _ rfl; (with_reducible repeat (first | apply blk_drewN | apply blk_drew | apply blk_alloc)); refine blk_put (cs := #[.string (⟨#[]⟩ : ByteArray), .int .i64 0, .slice none 0 0, .slice none 0 0, .slice none 0 0, .slice none 0 0, .slice none 0 0, .slice none 0 0]) ?_ 0 _ rfl; (with_reducible repeat (first | apply blk_drewN | apply blk_drew | apply blk_alloc)); exact BK325.out) hb); have n2_ := bst hb; clear BK323; clear BK325; clear HB; have BK323 := n0_; have BK325 := n1_; have HB := n2_; clear n0_ n1_ n2_; (try clear hb); (try clear hb2); (try clear hk); (try clear hi)))
         go_ret
         exact ⟨rfm, hbm⟩
       ·
        rw [if_neg c8] at H
        exact absurd H (by simp)
      ·
       rw [if_neg c7] at H
       exact absurd H (by simp)
     ·
      rw [if_neg c6] at H
      exact absurd H (by simp)
    ·
     rw [if_neg c5] at H
     have c5b0 : decide (x17_1 < (l0.length : Int)) = false := decide_eq_false c5
     clear c5
     obtain rfl := Option.some.inj H
     go_wp2
     go_ret
     exact ⟨rfm, hbm⟩
 ·
  rw [if_neg c4] at H
  have c4b0 : ((l0.length : Int) == (l1.length : Int)) = false := beq_eq_false_iff_ne.mpr c4
  have c4b1 : ((l0.length : Int) != (l1.length : Int)) = true := bne_iff_ne.mpr c4
  have c4b2 : (l0.length == l1.length) = false := by first | simpa using c4 | (simp at c4 ⊢; omega)
  obtain rfl := Option.some.inj H
  go_enter Try.func38, Try.ntmps38
  go_wp2
  go_ret
  exact ⟨rfm, hbm⟩

end Go.Proofs.Ytidlcolgiololaa.S
