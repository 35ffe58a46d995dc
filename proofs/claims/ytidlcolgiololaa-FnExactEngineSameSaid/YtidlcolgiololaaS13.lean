/- Proved: each Go function named here answers as its plain Lean function says, in whatever memory; no condition. Written by a program of this session over the print of the kit. -/
import Derived.Test.YtidlcolgiololaaSq
import Derived.Test.YtidlcolgiololaaS0
import Derived.Test.YtidlcolgiololaaS1
import Derived.Test.YtidlcolgiololaaS11
import Derived.Test.YtidlcolgiololaaS12
namespace Go.Proofs.Ytidlcolgiololaa.S
open Go.RowKit Go.Proofs.YtidlcolgiololaaW.PrintWords Go.Proofs.YtidlcolgiololaaW.PrintLast Go.Proofs.YtidlcolgiololaaW.PrintMore
attribute [local go_sem] max2_int min2_int max_two min_two max_three min_three max_four min_four   -- for this text's walks alone
set_option linter.unusedVariables false
set_option linter.unusedSimpArgs false

attribute [local go_sem high] eqA93
/-! ### slices_Equal_int64_int64: function 42 -/
def slices_Equal_int64_int64.l0 : Nat → List Int → List Int → Int → Int → Option (Bool)
 | 0, _, _, _, _ => none
 | k + 1, x0, x1, x12, x13 => if x13 < x12 then (if 0 ≤ x13 then (if x13 < (x0.length : Int) then (if x13 < (x1.length : Int) then (if (rd x0 x13) = (rd x1 x13) then (slices_Equal_int64_int64.l0 k x0 x1 x12 (wrap64 (x13 + 1))) else (some false)) else (none)) else (none)) else (none)) else (some true)
def slices_Equal_int64_int64.f (k : Nat) (l0 : List Int) (l1 : List Int) : Option (Bool) := if (l0.length : Int) = (l1.length : Int) then (slices_Equal_int64_int64.l0 k l0 l1 (l0.length : Int) 0) else (some false)
theorem slices_Equal_int64_int64.mono_l : ∀ k, (∀ y0 y1 y2 y3, LeO (slices_Equal_int64_int64.l0 k y0 y1 y2 y3) (slices_Equal_int64_int64.l0 (k + 1) y0 y1 y2 y3))
 | 0 => fun _ _ _ _ r h => by simp [slices_Equal_int64_int64.l0] at h
 | k + 1 => by
  have ih0 := slices_Equal_int64_int64.mono_l k
  ·
   intro y0 y1 y2 y3
   unfold slices_Equal_int64_int64.l0
   repeat' first
   | (with_reducible exact ih0 _ _ _ _)
   | (with_reducible exact LeO.refl _)
   | (with_reducible exact LeO.none _)
   | (with_reducible refine LeO.ite ?_ ?_)
   | (with_reducible refine LeO.bind ?_ (fun _ => ?_))
   | exact ih0 _ _ _ _
   | exact LeO.none _
   | refine LeO.ite ?_ ?_
   | refine LeO.bind ?_ (fun _ => ?_)
theorem slices_Equal_int64_int64.mono : ∀ a0 a1 k, LeO (slices_Equal_int64_int64.f k a0 a1) (slices_Equal_int64_int64.f (k + 1) a0 a1) := by
 intro a0 a1 k
 have ih0 := slices_Equal_int64_int64.mono_l k
 unfold slices_Equal_int64_int64.f
 repeat' first
   | (with_reducible exact ih0 _ _ _ _)
   | (with_reducible exact LeO.refl _)
   | (with_reducible exact LeO.none _)
   | (with_reducible refine LeO.ite ?_ ?_)
   | (with_reducible refine LeO.bind ?_ (fun _ => ?_))
   | exact ih0 _ _ _ _
   | exact LeO.none _
   | refine LeO.ite ?_ ?_
   | refine LeO.bind ?_ (fun _ => ?_)
set_option maxHeartbeats 8000000 in
set_option maxRecDepth 100000 in
theorem slices_Equal_int64_int64.calls (k : Nat) (A0 : Option Addr) (c0 : Nat) (l0 : List Int) (A1 : Option Addr) (c1 : Nat) (l1 : List Int) (r : Bool) (w : World) (hr0 : Kd.C (Kd.int .i64) w A0 l0.length l0) (hc0 : l0.length ≤ c0) (hr1 : Kd.C (Kd.int .i64) w A1 l1.length l1) (hc1 : l1.length ≤ c1) (h : slices_Equal_int64_int64.f k l0 l1 = some r) :
  Calls Try.prog 42 #[.slice A0 l0.length c0, .slice A1 l1.length c1] w fun e w' => e = .returned (.bool r) ∧ Drawn0 w w' := by
 have HR0 := Aside0.mk hr0
 have HC0 := Aside0.mk hc0
 clear hr0 hc0
 have HR1 := Aside0.mk hr1
 have HC1 := Aside0.mk hc1
 clear hr1 hc1
 have H : (if (l0.length : Int) = (l1.length : Int) then (slices_Equal_int64_int64.l0 k l0 l1 (l0.length : Int) 0) else (some false)) = some r := h
 clear h
 by_cases c3 : (l0.length : Int) = (l1.length : Int)
 ·
  rw [if_pos c3] at H
  have c3b0 : ((l0.length : Int) == (l1.length : Int)) = true := beq_iff_eq.mpr c3
  have c3b1 : ((l0.length : Int) != (l1.length : Int)) = false := bne_eq_false_iff_eq.mpr c3
  have c3b2 : (l0.length == l1.length) = true := by first | simpa using c3 | (simp at c3 ⊢; omega)
  clear c3
  have H' := Aside0.mk H
  clear H
  go_enter Try.func42, Try.ntmps42
  go_wp2
  repeat (go_quiet (fail); try go_wp2)
  go_loopg [13] k (fun kq v13 w' => ∃ (x13_1 : Int), v13 = .int .i64 x13_1 ∧ Aside0 (slices_Equal_int64_int64.l0 kq l0 l1 (l0.length : Int) x13_1 = some r) ∧ Aside0 (kq ≤ k) ∧ Drawn0 w w')
  case atStart => exact ⟨(0), (by first | rfl | (simp; done) | (simp [*]; done)), H', ⟨Nat.le_refl _⟩, drm⟩
  case round =>
   clear H'
   try clear c1; try clear p2; try clear c3; try clear c3b0; try clear c3b1; try clear c3b2
   obtain ⟨x13_1, rfl, HA, HK1, ⟨m1, rfl⟩⟩ := hrel
   cases gk with
   | zero => exact absurd HA.out (by simp [slices_Equal_int64_int64.l0])
   | succ k1 =>
    have H := HA.out
    clear HA
    simp only [slices_Equal_int64_int64.l0] at H
    by_cases c4 : x13_1 < (l0.length : Int)
    ·
     rw [if_pos c4] at H
     have c4b0 : decide (x13_1 < (l0.length : Int)) = true := decide_eq_true c4
     clear c4
     by_cases c5 : 0 ≤ x13_1
     ·
      rw [if_pos c5] at H
      have c5b0 : decide (0 ≤ x13_1) = true := decide_eq_true c5
      clear c5
      by_cases c6 : x13_1 < (l0.length : Int)
      ·
       rw [if_pos c6] at H
       have c6b0 : decide (x13_1 < (l0.length : Int)) = true := decide_eq_true c6
       clear c6
       by_cases c7 : x13_1 < (l1.length : Int)
       ·
        rw [if_pos c7] at H
        have c7b0 : decide (x13_1 < (l1.length : Int)) = true := decide_eq_true c7
        clear c7
        by_cases c8 : (rd l0 x13_1) = (rd l1 x13_1)
        ·
         rw [if_pos c8] at H
         have c8b0 : ((rd l0 x13_1) == (rd l1 x13_1)) = true := beq_iff_eq.mpr c8
         have c8b1 : ((rd l0 x13_1) != (rd l1 x13_1)) = false := bne_eq_false_iff_eq.mpr c8
         clear c8
         have H' := Aside0.mk H
         clear H
         have p327 : 0 ≤ (x13_1 : Int) := of_decide_eq_true asm_
         have q327 : x13_1 < (l0.length : Int) := of_decide_eq_true asm_
         obtain ⟨ad327, e327, hx327_0⟩ := Kd.at_int HR0.out x13_1 p327 q327
         cases e327
         replace p327 := eq_true p327
         replace q327 := eq_true q327
         have p328 : 0 ≤ (x13_1 : Int) := of_decide_eq_true asm_
         have q328 : x13_1 < (l1.length : Int) := of_decide_eq_true asm_
         obtain ⟨ad328, e328, hx328_0⟩ := Kd.at_int HR1.out x13_1 p328 q328
         cases e328
         replace p328 := eq_true p328
         replace q328 := eq_true q328
         go_wp2
         repeat (go_quiet (fail); try go_wp2)
         go_roundg k1
         case measure => have := HK1.out; omega
         case rel => exact ⟨(wrap64 (x13_1 + 1)), (by first | rfl | (simp; done) | (simp [*]; done)), H', ⟨by have := HK1.out; omega⟩, drm⟩
        ·
         rw [if_neg c8] at H
         have c8b0 : ((rd l0 x13_1) == (rd l1 x13_1)) = false := beq_eq_false_iff_ne.mpr c8
         have c8b1 : ((rd l0 x13_1) != (rd l1 x13_1)) = true := bne_iff_ne.mpr c8
         obtain rfl := Option.some.inj H
         have p327 : 0 ≤ (x13_1 : Int) := of_decide_eq_true asm_
         have q327 : x13_1 < (l0.length : Int) := of_decide_eq_true asm_
         obtain ⟨ad327, e327, hx327_0⟩ := Kd.at_int HR0.out x13_1 p327 q327
         cases e327
         replace p327 := eq_true p327
         replace q327 := eq_true q327
         have p328 : 0 ≤ (x13_1 : Int) := of_decide_eq_true asm_
         have q328 : x13_1 < (l1.length : Int) := of_decide_eq_true asm_
         obtain ⟨ad328, e328, hx328_0⟩ := Kd.at_int HR1.out x13_1 p328 q328
         cases e328
         replace p328 := eq_true p328
         replace q328 := eq_true q328
         go_wp2
         repeat (go_quiet (fail); try go_wp2)
         go_ret
         exact ⟨by first | rfl | (simp; done) | (simp [*]; done), drm⟩
       ·
        rw [if_neg c7] at H
        exact absurd H (by simp)
      ·
       rw [if_neg c6] at H
       exact absurd H (by simp)
     ·
      rw [if_neg c5] at H
      exact absurd H (by simp)
    ·
     rw [if_neg c4] at H
     have c4b0 : decide (x13_1 < (l0.length : Int)) = false := decide_eq_false c4
     clear c4
     obtain rfl := Option.some.inj H
     go_wp2
     repeat (go_quiet (fail); try go_wp2)
     go_ret
     exact ⟨by first | rfl | (simp; done) | (simp [*]; done), drm⟩
 ·
  rw [if_neg c3] at H
  have c3b0 : ((l0.length : Int) == (l1.length : Int)) = false := beq_eq_false_iff_ne.mpr c3
  have c3b1 : ((l0.length : Int) != (l1.length : Int)) = true := bne_iff_ne.mpr c3
  have c3b2 : (l0.length == l1.length) = false := by first | simpa using c3 | (simp at c3 ⊢; omega)
  obtain rfl := Option.some.inj H
  go_enter Try.func42, Try.ntmps42
  go_wp2
  repeat (go_quiet (fail); try go_wp2)
  go_ret
  exact ⟨by first | rfl | (simp; done) | (simp [*]; done), drm⟩

/-! ### impl_EngineSame_1: function 41 -/
def impl_EngineSame_1.f (k : Nat) (a0_0 : ByteArray) (a0_1 : ByteArray) (l0_2 : List Int) (a0_3 : Int) (a0_4 : Int) (a0_5 : Int) (a0_6 : Bool) (a1_0 : ByteArray) (a1_1 : ByteArray) (l1_2 : List Int) (a1_3 : Int) (a1_4 : Int) (a1_5 : Int) (a1_6 : Bool) : Option (Bool) := if a0_0.toList = a1_0.toList then (if a0_1.toList = a1_1.toList then ((slices_Equal_int64_int64.f k l0_2 l1_2).bind fun t331 => (if t331 = true then (if a0_3 = a1_3 then (if a0_4 = a1_4 then (if a0_5 = a1_5 then (some (a0_6 == a1_6)) else (some false)) else (some false)) else (some false)) else (some false))) else (some false)) else (some false)
theorem impl_EngineSame_1.mono : ∀ a0 a1 a2 a3 a4 a5 a6 a7 a8 a9 a10 a11 a12 a13 k, LeO (impl_EngineSame_1.f k a0 a1 a2 a3 a4 a5 a6 a7 a8 a9 a10 a11 a12 a13) (impl_EngineSame_1.f (k + 1) a0 a1 a2 a3 a4 a5 a6 a7 a8 a9 a10 a11 a12 a13) := by
 intro a0 a1 a2 a3 a4 a5 a6 a7 a8 a9 a10 a11 a12 a13 k
 unfold impl_EngineSame_1.f
 repeat' first
   | (with_reducible exact slices_Equal_int64_int64.mono _ _ _)
   | (with_reducible exact LeO.refl _)
   | (with_reducible exact LeO.none _)
   | (with_reducible refine LeO.ite ?_ ?_)
   | (with_reducible refine LeO.bind ?_ (fun _ => ?_))
   | exact slices_Equal_int64_int64.mono _ _ _
   | exact LeO.none _
   | refine LeO.ite ?_ ?_
   | refine LeO.bind ?_ (fun _ => ?_)
theorem impl_EngineSame_1.m0 {P : Prop} (h : P := by
  go_enter Try.func41, Try.ntmps41
  go_wp2_with (first | ((with_reducible refine gate_dst (N := 2) rfl ?_); refine bxe (N := 2) (cs := #[.string a0_0, .string a0_1, .slice A0_2 l0_2.length c0_2, .int .i64 a0_3, .int .i64 a0_4, .int .i64 a0_5, .bool a0_6]) (t := 81) ?_; intro gb329 hg wq1 hbox hb; have n0_ := bst hb; have n1_ := Aside0.mk (hbox); have n2_ := (bsz hg : Aside0 (w.heap.size ≤ gb329)); have n3_ := n2_; clear HB; have HB := n0_; have BK329 := n1_; have GW329 := n2_; have GE329 := n3_; clear n0_ n1_ n2_ n3_; clear hb hbox hg) | ((with_reducible refine gate_dst (N := 3) rfl ?_); refine bxe (N := 3) (cs := #[.string a1_0, .string a1_1, .slice A1_2 l1_2.length c1_2, .int .i64 a1_3, .int .i64 a1_4, .int .i64 a1_5, .bool a1_6]) (t := 81) ?_; intro gb330 hg wq1 hbox hb; have n0_ := bkb BK329 hb; have n1_ := bst hb; have n2_ := Aside0.mk (hbox); have n3_ := (bsz hg : Aside0 (w.heap.size ≤ gb330)); have n4_ := n3_; have n5_ := (bkn BK329 hg : Aside0 (gb329 ≠ gb330)); have n6_ := Aside0.mk n5_.out.symm; clear BK329; clear HB; have BK329 := n0_; have HB := n1_; have BK330 := n2_; have GW330 := n3_; have GE330 := n4_; have NB329_330 := n5_; have NB330_329 := n6_; clear n0_ n1_ n2_ n3_ n4_ n5_ n6_; clear hb hbox hg; have hnbq1 := NB329_330.out; have hncq1 := NB330_329.out; obtain ⟨hczq1_0, hczq1_1, hczq1_2, hczq1_3, hczq1_4, hczq1_5, hczq1_6, hfzq1_0, hfzq1_1, hfzq1_2, hfzq1_3, hfzq1_4, hfzq1_5, hfzq1_6⟩ := bc7 BK329.out; obtain ⟨hczq2_0, hczq2_1, hczq2_2, hczq2_3, hczq2_4, hczq2_5, hczq2_6, hfzq2_0, hfzq2_1, hfzq2_2, hfzq2_3, hfzq2_4, hfzq2_5, hfzq2_6⟩ := bc7 BK330.out) | (go_at_call 42; (with_reducible refine (slices_Equal_int64_int64.calls k _ _ l0_2 _ _ l1_2 false _ ?side1 ?side2 ?side3 ?side4 A5.out).mono ?_); (case side1 => exact csb (Kd.C_below HR0_2.out HB.out)); (case side2 => exact HC0_2.out); (case side3 => exact csb (Kd.C_below HR1_2.out HB.out)); (case side4 => exact HC1_2.out); rintro e w' ⟨rfl, ⟨nd, rfl⟩⟩) | (go_at_call 42; (with_reducible refine (slices_Equal_int64_int64.calls k _ _ l0_2 _ _ l1_2 true _ ?side1 ?side2 ?side3 ?side4 A5.out).mono ?_); (case side1 => exact csb (Kd.C_below HR0_2.out HB.out)); (case side2 => exact HC0_2.out); (case side3 => exact csb (Kd.C_below HR1_2.out HB.out)); (case side4 => exact HC1_2.out); rintro e w' ⟨rfl, ⟨nd, rfl⟩⟩))
  go_ret
  exact ⟨rfm, hbm⟩) : P := h
set_option maxHeartbeats 8000000 in
set_option maxRecDepth 100000 in
theorem impl_EngineSame_1.calls (k : Nat) (a0_0 : ByteArray) (a0_1 : ByteArray) (A0_2 : Option Addr) (c0_2 : Nat) (l0_2 : List Int) (a0_3 : Int) (a0_4 : Int) (a0_5 : Int) (a0_6 : Bool) (a1_0 : ByteArray) (a1_1 : ByteArray) (A1_2 : Option Addr) (c1_2 : Nat) (l1_2 : List Int) (a1_3 : Int) (a1_4 : Int) (a1_5 : Int) (a1_6 : Bool) (r : Bool) (w : World) (hr0_2 : Kd.C (Kd.int .i64) w A0_2 l0_2.length l0_2) (hc0_2 : l0_2.length ≤ c0_2) (hr1_2 : Kd.C (Kd.int .i64) w A1_2 l1_2.length l1_2) (hc1_2 : l1_2.length ≤ c1_2) (h : impl_EngineSame_1.f k a0_0 a0_1 l0_2 a0_3 a0_4 a0_5 a0_6 a1_0 a1_1 l1_2 a1_3 a1_4 a1_5 a1_6 = some r) :
  Calls Try.prog 41 #[.agg #[.string a0_0, .string a0_1, .slice A0_2 l0_2.length c0_2, .int .i64 a0_3, .int .i64 a0_4, .int .i64 a0_5, .bool a0_6], .agg #[.string a1_0, .string a1_1, .slice A1_2 l1_2.length c1_2, .int .i64 a1_3, .int .i64 a1_4, .int .i64 a1_5, .bool a1_6]] w fun e w' => e = .returned (.bool r) ∧ Below w.heap.size w w' := by
 have hu81 := Try.underlying81
 have HR0_2 := Aside0.mk hr0_2
 have HC0_2 := Aside0.mk hc0_2
 clear hr0_2 hc0_2
 have HR1_2 := Aside0.mk hr1_2
 have HC1_2 := Aside0.mk hc1_2
 clear hr1_2 hc1_2
 have HB := Aside0.mk (Below.refl w.heap.size w)
 have H : (if a0_0.toList = a1_0.toList then (if a0_1.toList = a1_1.toList then ((slices_Equal_int64_int64.f k l0_2 l1_2).bind fun t331 => (if t331 = true then (if a0_3 = a1_3 then (if a0_4 = a1_4 then (if a0_5 = a1_5 then (some (a0_6 == a1_6)) else (some false)) else (some false)) else (some false)) else (some false))) else (some false)) else (some false)) = some r := h
 clear h
 by_cases c3 : a0_0.toList = a1_0.toList
 ·
  rw [if_pos c3] at H
  have c3b0 : (a0_0.toList == a1_0.toList) = true := beq_iff_eq.mpr c3
  have c3b1 : (a0_0.toList != a1_0.toList) = false := bne_eq_false_iff_eq.mpr c3
  clear c3
  by_cases c4 : a0_1.toList = a1_1.toList
  ·
   rw [if_pos c4] at H
   have c4b0 : (a0_1.toList == a1_1.toList) = true := beq_iff_eq.mpr c4
   have c4b1 : (a0_1.toList != a1_1.toList) = false := bne_eq_false_iff_eq.mpr c4
   clear c4
   replace H := Option.bind_eq_some_iff.mp H
   obtain ⟨t331, A50, H⟩ := H
   (try dsimp only at H)
   have A5 := Aside0.mk A50
   clear A50
   by_cases c6 : t331 = true
   ·
    subst c6
    have H1 : (if a0_3 = a1_3 then (if a0_4 = a1_4 then (if a0_5 = a1_5 then (some (a0_6 == a1_6)) else (some false)) else (some false)) else (some false)) = some r := by rw [if_pos rfl] at H; exact H
    clear H
    have H := H1
    clear H1
    by_cases c7 : a0_3 = a1_3
    ·
     rw [if_pos c7] at H
     have c7b0 : (a0_3 == a1_3) = true := beq_iff_eq.mpr c7
     have c7b1 : (a0_3 != a1_3) = false := bne_eq_false_iff_eq.mpr c7
     clear c7
     by_cases c8 : a0_4 = a1_4
     ·
      rw [if_pos c8] at H
      have c8b0 : (a0_4 == a1_4) = true := beq_iff_eq.mpr c8
      have c8b1 : (a0_4 != a1_4) = false := bne_eq_false_iff_eq.mpr c8
      clear c8
      by_cases c9 : a0_5 = a1_5
      ·
       rw [if_pos c9] at H
       have c9b0 : (a0_5 == a1_5) = true := beq_iff_eq.mpr c9
       have c9b1 : (a0_5 != a1_5) = false := bne_eq_false_iff_eq.mpr c9
       clear c9
       obtain rfl := Option.some.inj H
       exact impl_EngineSame_1.m0
      ·
       rw [if_neg c9] at H
       have c9b0 : (a0_5 == a1_5) = false := beq_eq_false_iff_ne.mpr c9
       have c9b1 : (a0_5 != a1_5) = true := bne_iff_ne.mpr c9
       obtain rfl := Option.some.inj H
       exact impl_EngineSame_1.m0
     ·
      rw [if_neg c8] at H
      have c8b0 : (a0_4 == a1_4) = false := beq_eq_false_iff_ne.mpr c8
      have c8b1 : (a0_4 != a1_4) = true := bne_iff_ne.mpr c8
      obtain rfl := Option.some.inj H
      exact impl_EngineSame_1.m0
    ·
     rw [if_neg c7] at H
     have c7b0 : (a0_3 == a1_3) = false := beq_eq_false_iff_ne.mpr c7
     have c7b1 : (a0_3 != a1_3) = true := bne_iff_ne.mpr c7
     obtain rfl := Option.some.inj H
     exact impl_EngineSame_1.m0
   ·
    replace c6 := Bool.eq_false_iff.mpr c6
    subst c6
    have H1 : (some false) = some r := by rw [if_neg (show ¬ (false = true) by decide)] at H; exact H
    clear H
    have H := H1
    clear H1
    obtain rfl := Option.some.inj H
    exact impl_EngineSame_1.m0
  ·
   rw [if_neg c4] at H
   have c4b0 : (a0_1.toList == a1_1.toList) = false := beq_eq_false_iff_ne.mpr c4
   have c4b1 : (a0_1.toList != a1_1.toList) = true := bne_iff_ne.mpr c4
   obtain rfl := Option.some.inj H
   exact impl_EngineSame_1.m0
 ·
  rw [if_neg c3] at H
  have c3b0 : (a0_0.toList == a1_0.toList) = false := beq_eq_false_iff_ne.mpr c3
  have c3b1 : (a0_0.toList != a1_0.toList) = true := bne_iff_ne.mpr c3
  obtain rfl := Option.some.inj H
  exact impl_EngineSame_1.m0

/-! ### impl_Account: function 40 -/
def impl_Account.l0 : Nat → List (S81) → List (S81) → Int → Int → Option (Bool)
 | 0, _, _, _, _ => none
 | k + 1, x1, x15, x16, x17 => if x17 < x16 then (if 0 ≤ x17 then (if x17 < (x15.length : Int) then (if x17 < (x1.length : Int) then ((impl_EngineSame_1.f k ((rd_T81 x15 x17).f0) ((rd_T81 x15 x17).f1) ((rd_T81 x15 x17).f2) ((rd_T81 x15 x17).f3) ((rd_T81 x15 x17).f4) ((rd_T81 x15 x17).f5) ((rd_T81 x15 x17).f6) ((rd_T81 x1 x17).f0) ((rd_T81 x1 x17).f1) ((rd_T81 x1 x17).f2) ((rd_T81 x1 x17).f3) ((rd_T81 x1 x17).f4) ((rd_T81 x1 x17).f5) ((rd_T81 x1 x17).f6)).bind fun t336 => (if t336 = true then (impl_Account.l0 k x1 x15 x16 (wrap64 (x17 + 1))) else (some false))) else (none)) else (none)) else (none)) else (some true)
def impl_Account.f (k : Nat) (l0 : List (S81)) (l1 : List (S81)) (a2 : Nat) : Option (Bool) := if a2 = 41 then (if (l0.length : Int) = (l1.length : Int) then (impl_Account.l0 k l1 l0 (l0.length : Int) 0) else (some false)) else none
theorem impl_Account.mono_l : ∀ k, (∀ y0 y1 y2 y3, LeO (impl_Account.l0 k y0 y1 y2 y3) (impl_Account.l0 (k + 1) y0 y1 y2 y3))
 | 0 => fun _ _ _ _ r h => by simp [impl_Account.l0] at h
 | k + 1 => by
  have ih0 := impl_Account.mono_l k
  ·
   intro y0 y1 y2 y3
   unfold impl_Account.l0
   repeat' first
   | (with_reducible exact ih0 _ _ _ _)
   | (with_reducible exact impl_EngineSame_1.mono _ _ _ _ _ _ _ _ _ _ _ _ _ _ _)
   | (with_reducible exact LeO.refl _)
   | (with_reducible exact LeO.none _)
   | (with_reducible refine LeO.ite ?_ ?_)
   | (with_reducible refine LeO.bind ?_ (fun _ => ?_))
   | exact ih0 _ _ _ _
   | exact impl_EngineSame_1.mono _ _ _ _ _ _ _ _ _ _ _ _ _ _ _
   | exact LeO.none _
   | refine LeO.ite ?_ ?_
   | refine LeO.bind ?_ (fun _ => ?_)
theorem impl_Account.mono : ∀ a0 a1 a2 k, LeO (impl_Account.f k a0 a1 a2) (impl_Account.f (k + 1) a0 a1 a2) := by
 intro a0 a1 a2 k
 have ih0 := impl_Account.mono_l k
 unfold impl_Account.f
 repeat' first
   | (with_reducible exact ih0 _ _ _ _)
   | (with_reducible exact impl_EngineSame_1.mono _ _ _ _ _ _ _ _ _ _ _ _ _ _ _)
   | (with_reducible exact LeO.refl _)
   | (with_reducible exact LeO.none _)
   | (with_reducible refine LeO.ite ?_ ?_)
   | (with_reducible refine LeO.bind ?_ (fun _ => ?_))
   | exact ih0 _ _ _ _
   | exact impl_EngineSame_1.mono _ _ _ _ _ _ _ _ _ _ _ _ _ _ _
   | exact LeO.none _
   | refine LeO.ite ?_ ?_
   | refine LeO.bind ?_ (fun _ => ?_)
set_option maxHeartbeats 8000000 in
set_option maxRecDepth 100000 in
theorem impl_Account.calls (k : Nat) (A0 : Option Addr) (c0 : Nat) (l0 : List (S81)) (A1 : Option Addr) (c1 : Nat) (l1 : List (S81)) (a2 : Nat) (r : Bool) (w : World) (hr0 : Kd.C k81 w A0 l0.length l0) (hc0 : l0.length ≤ c0) (hr1 : Kd.C k81 w A1 l1.length l1) (hc1 : l1.length ≤ c1) (h : impl_Account.f k l0 l1 a2 = some r) :
  Calls Try.prog 40 #[.slice A0 l0.length c0, .slice A1 l1.length c1, .func (.func a2) #[] #[]] w fun e w' => e = .returned (.bool r) ∧ Below w.heap.size w w' := by
 have hfn_ : a2 = 41 := by
  by_cases hn_ : a2 = 41
  ·
   exact hn_
  ·
   unfold impl_Account.f at h
   rw [if_neg hn_] at h
   cases h
 subst hfn_
 have hu81 := Try.underlying81
 have HR0 := Aside0.mk hr0
 have HC0 := Aside0.mk hc0
 clear hr0 hc0
 have HR1 := Aside0.mk hr1
 have HC1 := Aside0.mk hc1
 clear hr1 hc1
 have HB := Aside0.mk (Below.refl w.heap.size w)
 have H : (if (l0.length : Int) = (l1.length : Int) then (impl_Account.l0 k l1 l0 (l0.length : Int) 0) else (some false)) = some r := h
 clear h
 by_cases c4 : (l0.length : Int) = (l1.length : Int)
 ·
  rw [if_pos c4] at H
  have c4b0 : ((l0.length : Int) == (l1.length : Int)) = true := beq_iff_eq.mpr c4
  have c4b1 : ((l0.length : Int) != (l1.length : Int)) = false := bne_eq_false_iff_eq.mpr c4
  have c4b2 : (l0.length == l1.length) = true := by first | simpa using c4 | (simp at c4 ⊢; omega)
  clear c4
  have H' := Aside0.mk H
  clear H
  go_enter Try.func40, Try.ntmps40
  go_wp2
  go_loopg [17] k (fun kq v17 w' => ∃ (x17_1 : Int), v17 = .int .i64 x17_1 ∧ Aside0 (impl_Account.l0 kq l1 l0 (l0.length : Int) x17_1 = some r) ∧ Aside0 (kq ≤ k) ∧ Aside0 (Below w.heap.size w w'))
  case atStart => exact ⟨(0), (by first | rfl | (simp; done) | (simp [*]; done)), H', ⟨Nat.le_refl _⟩, ⟨hbm⟩⟩
  case round =>
   clear H'
   try clear c1; try clear p2; try clear c4; try clear c4b0; try clear c4b1; try clear c4b2
   obtain ⟨x17_1, rfl, HA, HK1, HB⟩ := hrel
   cases gk with
   | zero => exact absurd HA.out (by simp [impl_Account.l0])
   | succ k1 =>
    have H := HA.out
    clear HA
    simp only [impl_Account.l0] at H
    by_cases c5 : x17_1 < (l0.length : Int)
    ·
     rw [if_pos c5] at H
     have c5b0 : decide (x17_1 < (l0.length : Int)) = true := decide_eq_true c5
     clear c5
     by_cases c6 : 0 ≤ x17_1
     ·
      rw [if_pos c6] at H
      have c6b0 : decide (0 ≤ x17_1) = true := decide_eq_true c6
      clear c6
      by_cases c7 : x17_1 < (l0.length : Int)
      ·
       rw [if_pos c7] at H
       have c7b0 : decide (x17_1 < (l0.length : Int)) = true := decide_eq_true c7
       clear c7
       by_cases c8 : x17_1 < (l1.length : Int)
       ·
        rw [if_pos c8] at H
        have c8b0 : decide (x17_1 < (l1.length : Int)) = true := decide_eq_true c8
        clear c8
        replace H := Option.bind_eq_some_iff.mp H
        obtain ⟨t336, A90, H⟩ := H
        (try dsimp only at H)
        have A9 := Aside0.mk A90
        clear A90
        by_cases c10 : t336 = true
        ·
         subst c10
         have H1 : (impl_Account.l0 k1 l1 l0 (l0.length : Int) (wrap64 (x17_1 + 1))) = some r := by rw [if_pos rfl] at H; exact H
         clear H
         have H := H1
         clear H1
         have H' := Aside0.mk H
         clear H
         have p332 : 0 ≤ (x17_1 : Int) := of_decide_eq_true asm_
         have q332 : x17_1 < (l0.length : Int) := of_decide_eq_true asm_
         obtain ⟨ad332, A332_2, c332_2, e332, hx332_0, hx332_1, hx332_2, hx332_3, hx332_4, hx332_5, hx332_6, hl332_2, hi332_2⟩ := at_T81 HR0.out x17_1 p332 q332
         cases e332
         replace hx332_0 := hcl HB hx332_0
         replace hx332_1 := hcl HB hx332_1
         replace hx332_2 := hcl HB hx332_2
         replace hx332_3 := hcl HB hx332_3
         replace hx332_4 := hcl HB hx332_4
         replace hx332_5 := hcl HB hx332_5
         replace hx332_6 := hcl HB hx332_6
         have HR332_2 := Aside0.mk hi332_2
         have HC332_2 := Aside0.mk hl332_2
         clear hi332_2 hl332_2
         replace p332 := eq_true p332
         replace q332 := eq_true q332
         go_wp2_with (first | ((with_reducible refine gate_dst (N := 8) rfl ?_); refine bxe (N := 8) (cs := #[.string (⟨#[]⟩ : ByteArray), .string (⟨#[]⟩ : ByteArray), .slice none 0 0, .int .i64 0, .int .i64 0, .int .i64 0, .bool false]) (t := 81) ?_; intro gb333 hg w11 hbox hb; have n0_ := bst hb; have n1_ := Aside0.mk (hbox); have n2_ := (bsz hg : Aside0 (w.heap.size ≤ gb333)); have n3_ := n2_; clear HB; have HB := n0_; have BK333 := n1_; have GW333 := n2_; have GE333 := n3_; clear n0_ n1_ n2_ n3_; clear hb hbox hg; obtain ⟨hcz12_0, hcz12_1, hcz12_2, hcz12_3, hcz12_4, hcz12_5, hcz12_6, hfz12_0, hfz12_1, hfz12_2, hfz12_3, hfz12_4, hfz12_5, hfz12_6⟩ := bc7 BK333.out; have p334 : 0 ≤ (x17_1 : Int) := of_decide_eq_true asm_; have q334 : x17_1 < (l1.length : Int) := of_decide_eq_true asm_; obtain ⟨ad334, A334_2, c334_2, e334, hx334_0, hx334_1, hx334_2, hx334_3, hx334_4, hx334_5, hx334_6, hl334_2, hi334_2⟩ := at_T81 HR1.out x17_1 p334 q334; cases e334; have hn334_0 : ad334.block ≠ gb333 := Nat.ne_of_lt (Nat.lt_of_lt_of_le (by have := World.block_lt_of_cell? _ _ hx334_0; first | rwa [add_block] at this | exact this) GW333.out); have hn334_1 : ad334.block ≠ gb333 := Nat.ne_of_lt (Nat.lt_of_lt_of_le (by have := World.block_lt_of_cell? _ _ hx334_0; first | rwa [add_block] at this | exact this) GW333.out); have hn334_2 : ad334.block ≠ gb333 := Nat.ne_of_lt (Nat.lt_of_lt_of_le (by have := World.block_lt_of_cell? _ _ hx334_0; first | rwa [add_block] at this | exact this) GW333.out); have hn334_3 : ad334.block ≠ gb333 := Nat.ne_of_lt (Nat.lt_of_lt_of_le (by have := World.block_lt_of_cell? _ _ hx334_0; first | rwa [add_block] at this | exact this) GW333.out); have hn334_4 : ad334.block ≠ gb333 := Nat.ne_of_lt (Nat.lt_of_lt_of_le (by have := World.block_lt_of_cell? _ _ hx334_0; first | rwa [add_block] at this | exact this) GW333.out); have hn334_5 : ad334.block ≠ gb333 := Nat.ne_of_lt (Nat.lt_of_lt_of_le (by have := World.block_lt_of_cell? _ _ hx334_0; first | rwa [add_block] at this | exact this) GW333.out); have hn334_6 : ad334.block ≠ gb333 := Nat.ne_of_lt (Nat.lt_of_lt_of_le (by have := World.block_lt_of_cell? _ _ hx334_0; first | rwa [add_block] at this | exact this) GW333.out); replace hx334_0 := hcl HB hx334_0; replace hx334_1 := hcl HB hx334_1; replace hx334_2 := hcl HB hx334_2; replace hx334_3 := hcl HB hx334_3; replace hx334_4 := hcl HB hx334_4; replace hx334_5 := hcl HB hx334_5; replace hx334_6 := hcl HB hx334_6; have HR334_2 := Aside0.mk hi334_2; have HC334_2 := Aside0.mk hl334_2; clear hi334_2 hl334_2; replace hx334_0 := cfr gb333 0 (.string ((rd_T81 l0 x17_1).f0)) hn334_0 hx334_0; replace hx334_1 := cfr gb333 0 (.string ((rd_T81 l0 x17_1).f0)) hn334_0 hx334_1; replace hx334_2 := cfr gb333 0 (.string ((rd_T81 l0 x17_1).f0)) hn334_0 hx334_2; replace hx334_3 := cfr gb333 0 (.string ((rd_T81 l0 x17_1).f0)) hn334_0 hx334_3; replace hx334_4 := cfr gb333 0 (.string ((rd_T81 l0 x17_1).f0)) hn334_0 hx334_4; replace hx334_5 := cfr gb333 0 (.string ((rd_T81 l0 x17_1).f0)) hn334_0 hx334_5; replace hx334_6 := cfr gb333 0 (.string ((rd_T81 l0 x17_1).f0)) hn334_0 hx334_6; replace hx334_0 := cfr gb333 1 (.string ((rd_T81 l0 x17_1).f1)) hn334_1 hx334_0; replace hx334_1 := cfr gb333 1 (.string ((rd_T81 l0 x17_1).f1)) hn334_1 hx334_1; replace hx334_2 := cfr gb333 1 (.string ((rd_T81 l0 x17_1).f1)) hn334_1 hx334_2; replace hx334_3 := cfr gb333 1 (.string ((rd_T81 l0 x17_1).f1)) hn334_1 hx334_3; replace hx334_4 := cfr gb333 1 (.string ((rd_T81 l0 x17_1).f1)) hn334_1 hx334_4; replace hx334_5 := cfr gb333 1 (.string ((rd_T81 l0 x17_1).f1)) hn334_1 hx334_5; replace hx334_6 := cfr gb333 1 (.string ((rd_T81 l0 x17_1).f1)) hn334_1 hx334_6; replace hx334_0 := cfr gb333 2 (.slice A332_2 ((rd_T81 l0 x17_1).f2).length c332_2) hn334_2 hx334_0; replace hx334_1 := cfr gb333 2 (.slice A332_2 ((rd_T81 l0 x17_1).f2).length c332_2) hn334_2 hx334_1; replace hx334_2 := cfr gb333 2 (.slice A332_2 ((rd_T81 l0 x17_1).f2).length c332_2) hn334_2 hx334_2; replace hx334_3 := cfr gb333 2 (.slice A332_2 ((rd_T81 l0 x17_1).f2).length c332_2) hn334_2 hx334_3; replace hx334_4 := cfr gb333 2 (.slice A332_2 ((rd_T81 l0 x17_1).f2).length c332_2) hn334_2 hx334_4; replace hx334_5 := cfr gb333 2 (.slice A332_2 ((rd_T81 l0 x17_1).f2).length c332_2) hn334_2 hx334_5; replace hx334_6 := cfr gb333 2 (.slice A332_2 ((rd_T81 l0 x17_1).f2).length c332_2) hn334_2 hx334_6; replace hx334_0 := cfr gb333 3 (.int .i64 ((rd_T81 l0 x17_1).f3)) hn334_3 hx334_0; replace hx334_1 := cfr gb333 3 (.int .i64 ((rd_T81 l0 x17_1).f3)) hn334_3 hx334_1; replace hx334_2 := cfr gb333 3 (.int .i64 ((rd_T81 l0 x17_1).f3)) hn334_3 hx334_2; replace hx334_3 := cfr gb333 3 (.int .i64 ((rd_T81 l0 x17_1).f3)) hn334_3 hx334_3; replace hx334_4 := cfr gb333 3 (.int .i64 ((rd_T81 l0 x17_1).f3)) hn334_3 hx334_4; replace hx334_5 := cfr gb333 3 (.int .i64 ((rd_T81 l0 x17_1).f3)) hn334_3 hx334_5; replace hx334_6 := cfr gb333 3 (.int .i64 ((rd_T81 l0 x17_1).f3)) hn334_3 hx334_6; replace hx334_0 := cfr gb333 4 (.int .i64 ((rd_T81 l0 x17_1).f4)) hn334_4 hx334_0; replace hx334_1 := cfr gb333 4 (.int .i64 ((rd_T81 l0 x17_1).f4)) hn334_4 hx334_1; replace hx334_2 := cfr gb333 4 (.int .i64 ((rd_T81 l0 x17_1).f4)) hn334_4 hx334_2; replace hx334_3 := cfr gb333 4 (.int .i64 ((rd_T81 l0 x17_1).f4)) hn334_4 hx334_3; replace hx334_4 := cfr gb333 4 (.int .i64 ((rd_T81 l0 x17_1).f4)) hn334_4 hx334_4; replace hx334_5 := cfr gb333 4 (.int .i64 ((rd_T81 l0 x17_1).f4)) hn334_4 hx334_5; replace hx334_6 := cfr gb333 4 (.int .i64 ((rd_T81 l0 x17_1).f4)) hn334_4 hx334_6; replace hx334_0 := cfr gb333 5 (.int .i64 ((rd_T81 l0 x17_1).f5)) hn334_5 hx334_0; replace hx334_1 := cfr gb333 5 (.int .i64 ((rd_T81 l0 x17_1).f5)) hn334_5 hx334_1; replace hx334_2 := cfr gb333 5 (.int .i64 ((rd_T81 l0 x17_1).f5)) hn334_5 hx334_2; replace hx334_3 := cfr gb333 5 (.int .i64 ((rd_T81 l0 x17_1).f5)) hn334_5 hx334_3; replace hx334_4 := cfr gb333 5 (.int .i64 ((rd_T81 l0 x17_1).f5)) hn334_5 hx334_4; replace hx334_5 := cfr gb333 5 (.int .i64 ((rd_T81 l0 x17_1).f5)) hn334_5 hx334_5; replace hx334_6 := cfr gb333 5 (.int .i64 ((rd_T81 l0 x17_1).f5)) hn334_5 hx334_6; replace hx334_0 := cfr gb333 6 (.bool ((rd_T81 l0 x17_1).f6)) hn334_6 hx334_0; replace hx334_1 := cfr gb333 6 (.bool ((rd_T81 l0 x17_1).f6)) hn334_6 hx334_1; replace hx334_2 := cfr gb333 6 (.bool ((rd_T81 l0 x17_1).f6)) hn334_6 hx334_2; replace hx334_3 := cfr gb333 6 (.bool ((rd_T81 l0 x17_1).f6)) hn334_6 hx334_3; replace hx334_4 := cfr gb333 6 (.bool ((rd_T81 l0 x17_1).f6)) hn334_6 hx334_4; replace hx334_5 := cfr gb333 6 (.bool ((rd_T81 l0 x17_1).f6)) hn334_6 hx334_5; replace hx334_6 := cfr gb333 6 (.bool ((rd_T81 l0 x17_1).f6)) hn334_6 hx334_6; clear hn334_0; clear hn334_1; clear hn334_2; clear hn334_3; clear hn334_4; clear hn334_5; clear hn334_6; replace p334 := eq_true p334; replace q334 := eq_true q334) | ((with_reducible refine gate_dst (N := 9) rfl ?_); refine bxe (N := 9) (cs := #[.string (⟨#[]⟩ : ByteArray), .string (⟨#[]⟩ : ByteArray), .slice none 0 0, .int .i64 0, .int .i64 0, .int .i64 0, .bool false]) (t := 81) ?_; intro gb335 hg w13 hbox hb; have n0_ := Aside0.mk (blk_below (g := gb333) (o := .cells #[.string ((rd_T81 l0 x17_1).f0), .string ((rd_T81 l0 x17_1).f1), .slice A332_2 ((rd_T81 l0 x17_1).f2).length c332_2, .int .i64 ((rd_T81 l0 x17_1).f3), .int .i64 ((rd_T81 l0 x17_1).f4), .int .i64 ((rd_T81 l0 x17_1).f5), .bool ((rd_T81 l0 x17_1).f6)] 81 (0, 0)) (by (with_reducible repeat (first | apply blk_drewN | apply blk_drew | apply blk_alloc)); refine blk_put (cs := #[.string ((rd_T81 l0 x17_1).f0), .string ((rd_T81 l0 x17_1).f1), .slice A332_2 ((rd_T81 l0 x17_1).f2).length c332_2, .int .i64 ((rd_T81 l0 x17_1).f3), .int .i64 ((rd_T81 l0 x17_1).f4), .int .i64 ((rd_T81 l0 x17_1).f5), .bool false]) ?_ 6 _ rfl; (with_reducible repeat (first | apply blk_drewN | apply blk_drew | apply blk_alloc)); refine blk_put (cs := #[.string ((rd_T81 l0 x17_1).f0), .string ((rd_T81 l0 x17_1).f1), .slice A332_2 ((rd_T81 l0 x17_1).f2).length c332_2, .int .i64 ((rd_T81 l0 x17_1).f3), .int .i64 ((rd_T81 l0 x17_1).f4), .int .i64 0, .bool false]) ?_ 5 _ rfl; (with_reducible repeat (first | apply blk_drewN | apply blk_drew | apply blk_alloc)); refine blk_put (cs := #[.string ((rd_T81 l0 x17_1).f0), .string ((rd_T81 l0 x17_1).f1), .slice A332_2 ((rd_T81 l0 x17_1).f2).length c332_2, .int .i64 ((rd_T81 l0 x17_1).f3), .int .i64 0, .int .i64 0, .bool false]) ?_ 4 _ rfl; (with_reducible repeat (first | apply blk_drewN | apply blk_drew | apply blk_alloc)); refine blk_put (cs := #[.string ((rd_T81 l0 x17_1).f0), .string ((rd_T81 l0 x17_1).f1), .slice A332_2 ((rd_T81 l0 x17_1).f2).length c332_2, .int .i64 0, .int .i64 0, .int .i64 0, .bool false]) ?_ 3 _ rfl; (with_reducible repeat (first | apply blk_drewN | apply blk_drew | apply blk_alloc)); refine blk_put (cs := #[.string ((rd_T81 l0 x17_1).f0), .string ((rd_T81 l0 x17_1).f1), .slice none 0 0, .int .i64 0, .int .i64 0, .int .i64 0, .bool false]) ?_ 2 _ rfl; (with_reducible repeat (first | apply blk_drewN | apply blk_drew | apply blk_alloc)); refine blk_put (cs := #[.string ((rd_T81 l0 x17_1).f0), .string (⟨#[]⟩ : ByteArray), .slice none 0 0, .int .i64 0, .int .i64 0, .int .i64 0, .bool false]) ?_ 1 _ rfl; (with_reducible repeat (first | apply blk_drewN | apply blk_drew | apply blk_alloc)); refine blk_put (cs := #[.string (⟨#[]⟩ : ByteArray), .string (⟨#[]⟩ : ByteArray), .slice none 0 0, .int .i64 0, .int .i64 0, .int .i64 0, .bool false]) ?_ 0 _ rfl; (with_reducible repeat (first | apply blk_drewN | apply blk_drew | apply blk_alloc)); exact BK333.out) hb); have n1_ := bst hb; have n2_ := Aside0.mk (hbox); have n3_ := (bsz hg : Aside0 (w.heap.size ≤ gb335)); have n4_ := n3_; have n5_ := Aside0.mk ((by rw [hg]; exact Nat.ne_of_lt (blk_lt (g := gb333) (o := .cells #[.string ((rd_T81 l0 x17_1).f0), .string ((rd_T81 l0 x17_1).f1), .slice A332_2 ((rd_T81 l0 x17_1).f2).length c332_2, .int .i64 ((rd_T81 l0 x17_1).f3), .int .i64 ((rd_T81 l0 x17_1).f4), .int .i64 ((rd_T81 l0 x17_1).f5), .bool ((rd_T81 l0 x17_1).f6)] 81 (0, 0)) (by (with_reducible repeat (first | apply blk_drewN | apply blk_drew | apply blk_alloc)); refine blk_put (cs := #[.string ((rd_T81 l0 x17_1).f0), .string ((rd_T81 l0 x17_1).f1), .slice A332_2 ((rd_T81 l0 x17_1).f2).length c332_2, .int .i64 ((rd_T81 l0 x17_1).f3), .int .i64 ((rd_T81 l0 x17_1).f4), .int .i64 ((rd_T81 l0 x17_1).f5), .bool false]) ?_ 6 _ rfl; (with_reducible repeat (first | apply blk_drewN | apply blk_drew | apply blk_alloc)); refine blk_put (cs := #[.string ((rd_T81 l0 x17_1).f0), .string ((rd_T81 l0 x17_1).f1), .slice A332_2 ((rd_T81 l0 x17_1).f2).length c332_2, .int .i64 ((rd_T81 l0 x17_1).f3), .int .i64 ((rd_T81 l0 x17_1).f4), .int .i64 0, .bool false]) ?_ 5 _ rfl; (with_reducible repeat (first | apply blk_drewN | apply blk_drew | apply blk_alloc)); refine blk_put (cs := #[.string ((rd_T81 l0 x17_1).f0), .string ((rd_T81 l0 x17_1).f1), .slice A332_2 ((rd_T81 l0 x17_1).f2).length c332_2, .int .i64 ((rd_T81 l0 x17_1).f3), .int .i64 0, .int .i64 0, .bool false]) ?_ 4 _ rfl; (with_reducible repeat (first | apply blk_drewN | apply blk_drew | apply blk_alloc)); refine blk_put (cs := #[.string ((rd_T81 l0 x17_1).f0), .string ((rd_T81 l0 x17_1).f1), .slice A332_2 ((rd_T81 l0 x17_1).f2).length c332_2, .int .i64 0, .int .i64 0, .int .i64 0, .bool false]) ?_ 3 _ rfl; (with_reducible repeat (first | apply blk_drewN | apply blk_drew | apply blk_alloc)); refine blk_put (cs := #[.string ((rd_T81 l0 x17_1).f0), .string ((rd_T81 l0 x17_1).f1), .slice none 0 0, .int .i64 0, .int .i64 0, .int .i64 0, .bool false]) ?_ 2 _ rfl; (with_reducible repeat (first | apply blk_drewN | apply blk_drew | apply blk_alloc)); refine blk_put (cs := #[.string ((rd_T81 l0 x17_1).f0), .string (⟨#[]⟩ : ByteArray), .slice none 0 0, .int .i64 0, .int .i64 0, .int .i64 0, .bool false]) ?_ 1 _ rfl; (with_reducible repeat (first | apply blk_drewN | apply blk_drew | apply blk_alloc)); refine blk_put (cs := #[.string (⟨#[]⟩ : ByteArray), .string (⟨#[]⟩ : ByteArray), .slice none 0 0, .int .i64 0, .int .i64 0, .int .i64 0, .bool false]) ?_ 0 _ rfl; (with_reducible repeat (first | apply blk_drewN | apply blk_drew | apply blk_alloc)); exact BK333.out)) : gb333 ≠ gb335)); have n6_ := Aside0.mk n5_.out.symm; clear BK333; clear HB; have BK333 := n0_; have HB := n1_; have BK335 := n2_; have GW335 := n3_; have GE335 := n4_; have NB333_335 := n5_; have NB335_333 := n6_; clear n0_ n1_ n2_ n3_ n4_ n5_ n6_; clear hb hbox hg; have hnb14 := NB335_333.out; have hnc14 := NB333_335.out; obtain ⟨hcz15_0, hcz15_1, hcz15_2, hcz15_3, hcz15_4, hcz15_5, hcz15_6, hfz15_0, hfz15_1, hfz15_2, hfz15_3, hfz15_4, hfz15_5, hfz15_6⟩ := bc7 BK335.out; obtain ⟨hcz16_0, hcz16_1, hcz16_2, hcz16_3, hcz16_4, hcz16_5, hcz16_6, hfz16_0, hfz16_1, hfz16_2, hfz16_3, hfz16_4, hfz16_5, hfz16_6⟩ := bc7 BK333.out) | ((refine gate_calleeV (f := 41) rfl (by rfl) ?_); refine goesLV_ (some 29) rfl rfl Try.func41 (by kernel_rfl) rfl #[.agg #[.string ((rd_T81 l0 x17_1).f0), .string ((rd_T81 l0 x17_1).f1), .slice A332_2 ((rd_T81 l0 x17_1).f2).length c332_2, .int .i64 ((rd_T81 l0 x17_1).f3), .int .i64 ((rd_T81 l0 x17_1).f4), .int .i64 ((rd_T81 l0 x17_1).f5), .bool ((rd_T81 l0 x17_1).f6)], .agg #[.string ((rd_T81 l1 x17_1).f0), .string ((rd_T81 l1 x17_1).f1), .slice A334_2 ((rd_T81 l1 x17_1).f2).length c334_2, .int .i64 ((rd_T81 l1 x17_1).f3), .int .i64 ((rd_T81 l1 x17_1).f4), .int .i64 ((rd_T81 l1 x17_1).f5), .bool ((rd_T81 l1 x17_1).f6)]] rfl (by rfl) glm ?_; (with_reducible refine (impl_EngineSame_1.calls k1 ((rd_T81 l0 x17_1).f0) ((rd_T81 l0 x17_1).f1) _ _ ((rd_T81 l0 x17_1).f2) ((rd_T81 l0 x17_1).f3) ((rd_T81 l0 x17_1).f4) ((rd_T81 l0 x17_1).f5) ((rd_T81 l0 x17_1).f6) ((rd_T81 l1 x17_1).f0) ((rd_T81 l1 x17_1).f1) _ _ ((rd_T81 l1 x17_1).f2) ((rd_T81 l1 x17_1).f3) ((rd_T81 l1 x17_1).f4) ((rd_T81 l1 x17_1).f5) ((rd_T81 l1 x17_1).f6) true _ ?side1 ?side2 ?side3 ?side4 A9.out).mono ?_); (case side1 => exact Kd.C_below HR332_2.out hbm); (case side2 => exact HC332_2.out); (case side3 => exact Kd.C_below HR334_2.out hbm); (case side4 => exact HC334_2.out); rintro e w17 ⟨rfl, hb⟩; refine ⟨_, rfl, ?_⟩; have n0_ := Aside0.mk (blk_below (g := gb333) (o := .cells #[.string ((rd_T81 l0 x17_1).f0), .string ((rd_T81 l0 x17_1).f1), .slice A332_2 ((rd_T81 l0 x17_1).f2).length c332_2, .int .i64 ((rd_T81 l0 x17_1).f3), .int .i64 ((rd_T81 l0 x17_1).f4), .int .i64 ((rd_T81 l0 x17_1).f5), .bool ((rd_T81 l0 x17_1).f6)] 81 (0, 0)) (by (with_reducible repeat (first | apply blk_drewN | apply blk_drew | apply blk_alloc)); refine blk_far ?_ NB333_335.out _; (with_reducible repeat (first | apply blk_drewN | apply blk_drew | apply blk_alloc)); refine blk_far ?_ NB333_335.out _; (with_reducible repeat (first | apply blk_drewN | apply blk_drew | apply blk_alloc)); refine blk_far ?_ NB333_335.out _; (with_reducible repeat (first | apply blk_drewN | apply blk_drew | apply blk_alloc)); refine blk_far ?_ NB333_335.out _; (with_reducible repeat (first | apply blk_drewN | apply blk_drew | apply blk_alloc)); refine blk_far ?_ NB333_335.out _; (with_reducible repeat (first | apply blk_drewN | apply blk_drew | apply blk_alloc)); refine blk_far ?_ NB333_335.out _; (with_reducible repeat (first | apply blk_drewN | apply blk_drew | apply blk_alloc)); refine blk_far ?_ NB333_335.out _; (with_reducible repeat (first | apply blk_drewN | apply blk_drew | apply blk_alloc)); exact BK333.out) hb); have n1_ := Aside0.mk (blk_below (g := gb335) (o := .cells #[.string ((rd_T81 l1 x17_1).f0), .string ((rd_T81 l1 x17_1).f1), .slice A334_2 ((rd_T81 l1 x17_1).f2).length c334_2, .int .i64 ((rd_T81 l1 x17_1).f3), .int .i64 ((rd_T81 l1 x17_1).f4), .int .i64 ((rd_T81 l1 x17_1).f5), .bool ((rd_T81 l1 x17_1).f6)] 81 (0, 0)) (by (with_reducible repeat (first | apply blk_drewN | apply blk_drew | apply blk_alloc)); refine blk_put (cs := #[.string ((rd_T81 l1 x17_1).f0), .string ((rd_T81 l1 x17_1).f1), .slice A334_2 ((rd_T81 l1 x17_1).f2).length c334_2, .int .i64 ((rd_T81 l1 x17_1).f3), .int .i64 ((rd_T81 l1 x17_1).f4), .int .i64 ((rd_T81 l1 x17_1).f5), .bool false]) ?_ 6 _ rfl; (with_reducible repeat (first | apply blk_drewN | apply blk_drew | apply blk_alloc)); refine blk_put (cs := #[.string ((rd_T81 l1 x17_1).f0), .string ((rd_T81 l1 x17_1).f1), .slice A334_2 ((rd_T81 l1 x17_1).f2).length c334_2, .int .i64 ((rd_T81 l1 x17_1).f3), .int .i64 ((rd_T81 l1 x17_1).f4), .int .i64 0, .bool false]) ?_ 5 _ rfl; (with_reducible repeat (first | apply blk_drewN | apply blk_drew | apply blk_alloc)); refine blk_put (cs := #[.string ((rd_T81 l1 x17_1).f0), .string ((rd_T81 l1 x17_1).f1), .slice A334_2 ((rd_T81 l1 x17_1).f2).length c334_2, .int .i64 ((rd_T81 l1 x17_1).f3), .int .i64 0, .int .i64 0, .bool false]) ?_ 4 _ rfl; (with_reducible repeat (first | apply blk_drewN | apply blk_drew | apply blk_alloc)); refine blk_put (cs := #[.string ((rd_T81 l1 x17_1).f0), .string ((rd_T81 l1 x17_1).f1), .slice A334_2 ((rd_T81 l1 x17_1).f2).length c334_2, .int .i64 0, .int .i64 0, .int .i64 0, .bool false]) ?_ 3 _ rfl; (with_reducible repeat (first | apply blk_drewN | apply blk_drew | apply blk_alloc)); refine blk_put (cs := #[.string ((rd_T81 l1 x17_1).f0), .string ((rd_T81 l1 x17_1).f1), .slice none 0 0, .int .i64 0, .int .i64 0, .int .i64 0, .bool false]) ?_ 2 _ rfl; (with_reducible repeat (first | apply blk_drewN | apply blk_drew | apply blk_alloc)); refine blk_put (cs := #[.string ((rd_T81 l1 x17_1).f0), .string (⟨#[]⟩ : ByteArray), .slice none 0 0, .int .i64 0, .int .i64 0, .int .i64 0, .bool false]) ?_ 1 _ rfl; (with_reducible repeat (first | apply blk_drewN | apply blk_drew | apply blk_alloc)); refine blk_put (cs := #[.string (⟨#[]⟩ : ByteArray), .string (⟨#[]⟩ : ByteArray), .slice none 0 0, .int .i64 0, .int .i64 0, .int .i64 0, .bool false]) ?_ 0 _ rfl; (with_reducible repeat (first | apply blk_drewN | apply blk_drew | apply blk_alloc)); exact BK335.out) hb); have n2_ := bst hb; clear BK333; clear BK335; clear HB; have BK333 := n0_; have BK335 := n1_; have HB := n2_; clear n0_ n1_ n2_; (try clear hb); (try clear hb2); (try clear hk); (try clear hi)))
         go_roundg k1
         case measure => have := HK1.out; omega
         case rel => exact ⟨(wrap64 (x17_1 + 1)), (by first | rfl | (simp; done) | (simp [*]; done)), H', ⟨by have := HK1.out; omega⟩, ⟨hbm⟩⟩
        ·
         replace c10 := Bool.eq_false_iff.mpr c10
         subst c10
         have H1 : (some false) = some r := by rw [if_neg (show ¬ (false = true) by decide)] at H; exact H
         clear H
         have H := H1
         clear H1
         obtain rfl := Option.some.inj H
         have p332 : 0 ≤ (x17_1 : Int) := of_decide_eq_true asm_
         have q332 : x17_1 < (l0.length : Int) := of_decide_eq_true asm_
         obtain ⟨ad332, A332_2, c332_2, e332, hx332_0, hx332_1, hx332_2, hx332_3, hx332_4, hx332_5, hx332_6, hl332_2, hi332_2⟩ := at_T81 HR0.out x17_1 p332 q332
         cases e332
         replace hx332_0 := hcl HB hx332_0
         replace hx332_1 := hcl HB hx332_1
         replace hx332_2 := hcl HB hx332_2
         replace hx332_3 := hcl HB hx332_3
         replace hx332_4 := hcl HB hx332_4
         replace hx332_5 := hcl HB hx332_5
         replace hx332_6 := hcl HB hx332_6
         have HR332_2 := Aside0.mk hi332_2
         have HC332_2 := Aside0.mk hl332_2
         clear hi332_2 hl332_2
         replace p332 := eq_true p332
         replace q332 := eq_true q332
         go_wp2_with (first | ((with_reducible refine gate_dst (N := 8) rfl ?_); refine bxe (N := 8) (cs := #[.string (⟨#[]⟩ : ByteArray), .string (⟨#[]⟩ : ByteArray), .slice none 0 0, .int .i64 0, .int .i64 0, .int .i64 0, .bool false]) (t := 81) ?_; intro gb333 hg w18 hbox hb; have n0_ := bst hb; have n1_ := Aside0.mk (hbox); have n2_ := (bsz hg : Aside0 (w.heap.size ≤ gb333)); have n3_ := n2_; clear HB; have HB := n0_; have BK333 := n1_; have GW333 := n2_; have GE333 := n3_; clear n0_ n1_ n2_ n3_; clear hb hbox hg; obtain ⟨hcz19_0, hcz19_1, hcz19_2, hcz19_3, hcz19_4, hcz19_5, hcz19_6, hfz19_0, hfz19_1, hfz19_2, hfz19_3, hfz19_4, hfz19_5, hfz19_6⟩ := bc7 BK333.out; have p334 : 0 ≤ (x17_1 : Int) := of_decide_eq_true asm_; have q334 : x17_1 < (l1.length : Int) := of_decide_eq_true asm_; obtain ⟨ad334, A334_2, c334_2, e334, hx334_0, hx334_1, hx334_2, hx334_3, hx334_4, hx334_5, hx334_6, hl334_2, hi334_2⟩ := at_T81 HR1.out x17_1 p334 q334; cases e334; have hn334_0 : ad334.block ≠ gb333 := Nat.ne_of_lt (Nat.lt_of_lt_of_le (by have := World.block_lt_of_cell? _ _ hx334_0; first | rwa [add_block] at this | exact this) GW333.out); have hn334_1 : ad334.block ≠ gb333 := Nat.ne_of_lt (Nat.lt_of_lt_of_le (by have := World.block_lt_of_cell? _ _ hx334_0; first | rwa [add_block] at this | exact this) GW333.out); have hn334_2 : ad334.block ≠ gb333 := Nat.ne_of_lt (Nat.lt_of_lt_of_le (by have := World.block_lt_of_cell? _ _ hx334_0; first | rwa [add_block] at this | exact this) GW333.out); have hn334_3 : ad334.block ≠ gb333 := Nat.ne_of_lt (Nat.lt_of_lt_of_le (by have := World.block_lt_of_cell? _ _ hx334_0; first | rwa [add_block] at this | exact this) GW333.out); have hn334_4 : ad334.block ≠ gb333 := Nat.ne_of_lt (Nat.lt_of_lt_of_le (by have := World.block_lt_of_cell? _ _ hx334_0; first | rwa [add_block] at this | exact this) GW333.out); have hn334_5 : ad334.block ≠ gb333 := Nat.ne_of_lt (Nat.lt_of_lt_of_le (by have := World.block_lt_of_cell? _ _ hx334_0; first | rwa [add_block] at this | exact this) GW333.out); have hn334_6 : ad334.block ≠ gb333 := Nat.ne_of_lt (Nat.lt_of_lt_of_le (by have := World.block_lt_of_cell? _ _ hx334_0; first | rwa [add_block] at this | exact this) GW333.out); replace hx334_0 := hcl HB hx334_0; replace hx334_1 := hcl HB hx334_1; replace hx334_2 := hcl HB hx334_2; replace hx334_3 := hcl HB hx334_3; replace hx334_4 := hcl HB hx334_4; replace hx334_5 := hcl HB hx334_5; replace hx334_6 := hcl HB hx334_6; have HR334_2 := Aside0.mk hi334_2; have HC334_2 := Aside0.mk hl334_2; clear hi334_2 hl334_2; replace hx334_0 := cfr gb333 0 (.string ((rd_T81 l0 x17_1).f0)) hn334_0 hx334_0; replace hx334_1 := cfr gb333 0 (.string ((rd_T81 l0 x17_1).f0)) hn334_0 hx334_1; replace hx334_2 := cfr gb333 0 (.string ((rd_T81 l0 x17_1).f0)) hn334_0 hx334_2; replace hx334_3 := cfr gb333 0 (.string ((rd_T81 l0 x17_1).f0)) hn334_0 hx334_3; replace hx334_4 := cfr gb333 0 (.string ((rd_T81 l0 x17_1).f0)) hn334_0 hx334_4; replace hx334_5 := cfr gb333 0 (.string ((rd_T81 l0 x17_1).f0)) hn334_0 hx334_5; replace hx334_6 := cfr gb333 0 (.string ((rd_T81 l0 x17_1).f0)) hn334_0 hx334_6; replace hx334_0 := cfr gb333 1 (.string ((rd_T81 l0 x17_1).f1)) hn334_1 hx334_0; replace hx334_1 := cfr gb333 1 (.string ((rd_T81 l0 x17_1).f1)) hn334_1 hx334_1; replace hx334_2 := cfr gb333 1 (.string ((rd_T81 l0 x17_1).f1)) hn334_1 hx334_2; replace hx334_3 := cfr gb333 1 (.string ((rd_T81 l0 x17_1).f1)) hn334_1 hx334_3; replace hx334_4 := cfr gb333 1 (.string ((rd_T81 l0 x17_1).f1)) hn334_1 hx334_4; replace hx334_5 := cfr gb333 1 (.string ((rd_T81 l0 x17_1).f1)) hn334_1 hx334_5; replace hx334_6 := cfr gb333 1 (.string ((rd_T81 l0 x17_1).f1)) hn334_1 hx334_6; replace hx334_0 := cfr gb333 2 (.slice A332_2 ((rd_T81 l0 x17_1).f2).length c332_2) hn334_2 hx334_0; replace hx334_1 := cfr gb333 2 (.slice A332_2 ((rd_T81 l0 x17_1).f2).length c332_2) hn334_2 hx334_1; replace hx334_2 := cfr gb333 2 (.slice A332_2 ((rd_T81 l0 x17_1).f2).length c332_2) hn334_2 hx334_2; replace hx334_3 := cfr gb333 2 (.slice A332_2 ((rd_T81 l0 x17_1).f2).length c332_2) hn334_2 hx334_3; replace hx334_4 := cfr gb333 2 (.slice A332_2 ((rd_T81 l0 x17_1).f2).length c332_2) hn334_2 hx334_4; replace hx334_5 := cfr gb333 2 (.slice A332_2 ((rd_T81 l0 x17_1).f2).length c332_2) hn334_2 hx334_5; replace hx334_6 := cfr gb333 2 (.slice A332_2 ((rd_T81 l0 x17_1).f2).length c332_2) hn334_2 hx334_6; replace hx334_0 := cfr gb333 3 (.int .i64 ((rd_T81 l0 x17_1).f3)) hn334_3 hx334_0; replace hx334_1 := cfr gb333 3 (.int .i64 ((rd_T81 l0 x17_1).f3)) hn334_3 hx334_1; replace hx334_2 := cfr gb333 3 (.int .i64 ((rd_T81 l0 x17_1).f3)) hn334_3 hx334_2; replace hx334_3 := cfr gb333 3 (.int .i64 ((rd_T81 l0 x17_1).f3)) hn334_3 hx334_3; replace hx334_4 := cfr gb333 3 (.int .i64 ((rd_T81 l0 x17_1).f3)) hn334_3 hx334_4; replace hx334_5 := cfr gb333 3 (.int .i64 ((rd_T81 l0 x17_1).f3)) hn334_3 hx334_5; replace hx334_6 := cfr gb333 3 (.int .i64 ((rd_T81 l0 x17_1).f3)) hn334_3 hx334_6; replace hx334_0 := cfr gb333 4 (.int .i64 ((rd_T81 l0 x17_1).f4)) hn334_4 hx334_0; replace hx334_1 := cfr gb333 4 (.int .i64 ((rd_T81 l0 x17_1).f4)) hn334_4 hx334_1; replace hx334_2 := cfr gb333 4 (.int .i64 ((rd_T81 l0 x17_1).f4)) hn334_4 hx334_2; replace hx334_3 := cfr gb333 4 (.int .i64 ((rd_T81 l0 x17_1).f4)) hn334_4 hx334_3; replace hx334_4 := cfr gb333 4 (.int .i64 ((rd_T81 l0 x17_1).f4)) hn334_4 hx334_4; replace hx334_5 := cfr gb333 4 (.int .i64 ((rd_T81 l0 x17_1).f4)) hn334_4 hx334_5; replace hx334_6 := cfr gb333 4 (.int .i64 ((rd_T81 l0 x17_1).f4)) hn334_4 hx334_6; replace hx334_0 := cfr gb333 5 (.int .i64 ((rd_T81 l0 x17_1).f5)) hn334_5 hx334_0; replace hx334_1 := cfr gb333 5 (.int .i64 ((rd_T81 l0 x17_1).f5)) hn334_5 hx334_1; replace hx334_2 := cfr gb333 5 (.int .i64 ((rd_T81 l0 x17_1).f5)) hn334_5 hx334_2; replace hx334_3 := cfr gb333 5 (.int .i64 ((rd_T81 l0 x17_1).f5)) hn334_5 hx334_3; replace hx334_4 := cfr gb333 5 (.int .i64 ((rd_T81 l0 x17_1).f5)) hn334_5 hx334_4; replace hx334_5 := cfr gb333 5 (.int .i64 ((rd_T81 l0 x17_1).f5)) hn334_5 hx334_5; replace hx334_6 := cfr gb333 5 (.int .i64 ((rd_T81 l0 x17_1).f5)) hn334_5 hx334_6; replace hx334_0 := cfr gb333 6 (.bool ((rd_T81 l0 x17_1).f6)) hn334_6 hx334_0; replace hx334_1 := cfr gb333 6 (.bool ((rd_T81 l0 x17_1).f6)) hn334_6 hx334_1; replace hx334_2 := cfr gb333 6 (.bool ((rd_T81 l0 x17_1).f6)) hn334_6 hx334_2; replace hx334_3 := cfr gb333 6 (.bool ((rd_T81 l0 x17_1).f6)) hn334_6 hx334_3; replace hx334_4 := cfr gb333 6 (.bool ((rd_T81 l0 x17_1).f6)) hn334_6 hx334_4; replace hx334_5 := cfr gb333 6 (.bool ((rd_T81 l0 x17_1).f6)) hn334_6 hx334_5; replace hx334_6 := cfr gb333 6 (.bool ((rd_T81 l0 x17_1).f6)) hn334_6 hx334_6; clear hn334_0; clear hn334_1; clear hn334_2; clear hn334_3; clear hn334_4; clear hn334_5; clear hn334_6; replace p334 := eq_true p334; replace q334 := eq_true q334) | ((with_reducible refine gate_dst (N := 9) rfl ?_); refine bxe (N := 9) (cs := #[.string (⟨#[]⟩ : ByteArray), .string (⟨#[]⟩ : ByteArray), .slice none 0 0, .int .i64 0, .int .i64 0, .int .i64 0, .bool false]) (t := 81) ?_; intro gb335 hg w20 hbox hb; have n0_ := Aside0.mk (blk_below (g := gb333) (o := .cells #[.string ((rd_T81 l0 x17_1).f0), .string ((rd_T81 l0 x17_1).f1), .slice A332_2 ((rd_T81 l0 x17_1).f2).length c332_2, .int .i64 ((rd_T81 l0 x17_1).f3), .int .i64 ((rd_T81 l0 x17_1).f4), .int .i64 ((rd_T81 l0 x17_1).f5), .bool ((rd_T81 l0 x17_1).f6)] 81 (0, 0)) (by (with_reducible repeat (first | apply blk_drewN | apply blk_drew | apply blk_alloc)); refine blk_put (cs := #[.string ((rd_T81 l0 x17_1).f0), .string ((rd_T81 l0 x17_1).f1), .slice A332_2 ((rd_T81 l0 x17_1).f2).length c332_2, .int .i64 ((rd_T81 l0 x17_1).f3), .int .i64 ((rd_T81 l0 x17_1).f4), .int .i64 ((rd_T81 l0 x17_1).f5), .bool false]) ?_ 6 _ rfl; (with_reducible repeat (first | apply blk_drewN | apply blk_drew | apply blk_alloc)); refine blk_put (cs := #[.string ((rd_T81 l0 x17_1).f0), .string ((rd_T81 l0 x17_1).f1), .slice A332_2 ((rd_T81 l0 x17_1).f2).length c332_2, .int .i64 ((rd_T81 l0 x17_1).f3), .int .i64 ((rd_T81 l0 x17_1).f4), .int .i64 0, .bool false]) ?_ 5 _ rfl; (with_reducible repeat (first | apply blk_drewN | apply blk_drew | apply blk_alloc)); refine blk_put (cs := #[.string ((rd_T81 l0 x17_1).f0), .string ((rd_T81 l0 x17_1).f1), .slice A332_2 ((rd_T81 l0 x17_1).f2).length c332_2, .int .i64 ((rd_T81 l0 x17_1).f3), .int .i64 0, .int .i64 0, .bool false]) ?_ 4 _ rfl; (with_reducible repeat (first | apply blk_drewN | apply blk_drew | apply blk_alloc)); refine blk_put (cs := #[.string ((rd_T81 l0 x17_1).f0), .string ((rd_T81 l0 x17_1).f1), .slice A332_2 ((rd_T81 l0 x17_1).f2).length c332_2, .int .i64 0, .int .i64 0, .int .i64 0, .bool false]) ?_ 3 _ rfl; (with_reducible repeat (first | apply blk_drewN | apply blk_drew | apply blk_alloc)); refine blk_put (cs := #[.string ((rd_T81 l0 x17_1).f0), .string ((rd_T81 l0 x17_1).f1), .slice none 0 0, .int .i64 0, .int .i64 0, .int .i64 0, .bool false]) ?_ 2 _ rfl; (with_reducible repeat (first | apply blk_drewN | apply blk_drew | apply blk_alloc)); refine blk_put (cs := #[.string ((rd_T81 l0 x17_1).f0), .string (⟨#[]⟩ : ByteArray), .slice none 0 0, .int .i64 0, .int .i64 0, .int .i64 0, .bool false]) ?_ 1 _ rfl; (with_reducible repeat (first | apply blk_drewN | apply blk_drew | apply blk_alloc)); refine blk_put (cs := #[.string (⟨#[]⟩ : ByteArray), .string (⟨#[]⟩ : ByteArray), .slice none 0 0, .int .i64 0, .int .i64 0, .int .i64 0, .bool false]) ?_ 0 _ rfl; (with_reducible repeat (first | apply blk_drewN | apply blk_drew | apply blk_alloc)); exact BK333.out) hb); have n1_ := bst hb; have n2_ := Aside0.mk (hbox); have n3_ := (bsz hg : Aside0 (w.heap.size ≤ gb335)); have n4_ := n3_; have n5_ := Aside0.mk ((by rw [hg]; exact Nat.ne_of_lt (blk_lt (g := gb333) (o := .cells #[.string ((rd_T81 l0 x17_1).f0), .string ((rd_T81 l0 x17_1).f1), .slice A332_2 ((rd_T81 l0 x17_1).f2).length c332_2, .int .i64 ((rd_T81 l0 x17_1).f3), .int .i64 ((rd_T81 l0 x17_1).f4), .int .i64 ((rd_T81 l0 x17_1).f5), .bool ((rd_T81 l0 x17_1).f6)] 81 (0, 0)) (by (with_reducible repeat (first | apply blk_drewN | apply blk_drew | apply blk_alloc)); refine blk_put (cs := #[.string ((rd_T81 l0 x17_1).f0), .string ((rd_T81 l0 x17_1).f1), .slice A332_2 ((rd_T81 l0 x17_1).f2).length c332_2, .int .i64 ((rd_T81 l0 x17_1).f3), .int .i64 ((rd_T81 l0 x17_1).f4), .int .i64 ((rd_T81 l0 x17_1).f5), .bool false]) ?_ 6 _ rfl; (with_reducible repeat (first | apply blk_drewN | apply blk_drew | apply blk_alloc)); refine blk_put (cs := #[.string ((rd_T81 l0 x17_1).f0), .string ((rd_T81 l0 x17_1).f1), .slice A332_2 ((rd_T81 l0 x17_1).f2).length c332_2, .int .i64 ((rd_T81 l0 x17_1).f3), .int .i64 ((rd_T81 l0 x17_1).f4), .int .i64 0, .bool false]) ?_ 5 _ rfl; (with_reducible repeat (first | apply blk_drewN | apply blk_drew | apply blk_alloc)); refine blk_put (cs := #[.string ((rd_T81 l0 x17_1).f0), .string ((rd_T81 l0 x17_1).f1), .slice A332_2 ((rd_T81 l0 x17_1).f2).length c332_2, .int .i64 ((rd_T81 l0 x17_1).f3), .int .i64 0, .int .i64 0, .bool false]) ?_ 4 _ rfl; (with_reducible repeat (first | apply blk_drewN | apply blk_drew | apply blk_alloc)); refine blk_put (cs := #[.string ((rd_T81 l0 x17_1).f0), .string ((rd_T81 l0 x17_1).f1), .slice A332_2 ((rd_T81 l0 x17_1).f2).length c332_2, .int .i64 0, .int .i64 0, .int .i64 0, .bool false]) ?_ 3 _ rfl; (with_reducible repeat (first | apply blk_drewN | apply blk_drew | apply blk_alloc)); refine blk_put (cs := #[.string ((rd_T81 l0 x17_1).f0), .string ((rd_T81 l0 x17_1).f1), .slice none 0 0, .int .i64 0, .int .i64 0, .int .i64 0, .bool false]) ?_ 2 _ rfl; (with_reducible repeat (first | apply blk_drewN | apply blk_drew | apply blk_alloc)); refine blk_put (cs := #[.string ((rd_T81 l0 x17_1).f0), .string (⟨#[]⟩ : ByteArray), .slice none 0 0, .int .i64 0, .int .i64 0, .int .i64 0, .bool false]) ?_ 1 _ rfl; (with_reducible repeat (first | apply blk_drewN | apply blk_drew | apply blk_alloc)); refine blk_put (cs := #[.string (⟨#[]⟩ : ByteArray), .string (⟨#[]⟩ : ByteArray), .slice none 0 0, .int .i64 0, .int .i64 0, .int .i64 0, .bool false]) ?_ 0 _ rfl; (with_reducible repeat (first | apply blk_drewN | apply blk_drew | apply blk_alloc)); exact BK333.out)) : gb333 ≠ gb335)); have n6_ := Aside0.mk n5_.out.symm; clear BK333; clear HB; have BK333 := n0_; have HB := n1_; have BK335 := n2_; have GW335 := n3_; have GE335 := n4_; have NB333_335 := n5_; have NB335_333 := n6_; clear n0_ n1_ n2_ n3_ n4_ n5_ n6_; clear hb hbox hg; have hnb21 := NB335_333.out; have hnc21 := NB333_335.out; obtain ⟨hcz22_0, hcz22_1, hcz22_2, hcz22_3, hcz22_4, hcz22_5, hcz22_6, hfz22_0, hfz22_1, hfz22_2, hfz22_3, hfz22_4, hfz22_5, hfz22_6⟩ := bc7 BK335.out; obtain ⟨hcz23_0, hcz23_1, hcz23_2, hcz23_3, hcz23_4, hcz23_5, hcz23_6, hfz23_0, hfz23_1, hfz23_2, hfz23_3, hfz23_4, hfz23_5, hfz23_6⟩ := bc7 BK333.out) | ((refine gate_calleeV (f := 41) rfl (by rfl) ?_); refine goesLV_ (some 29) rfl rfl Try.func41 (by kernel_rfl) rfl #[.agg #[.string ((rd_T81 l0 x17_1).f0), .string ((rd_T81 l0 x17_1).f1), .slice A332_2 ((rd_T81 l0 x17_1).f2).length c332_2, .int .i64 ((rd_T81 l0 x17_1).f3), .int .i64 ((rd_T81 l0 x17_1).f4), .int .i64 ((rd_T81 l0 x17_1).f5), .bool ((rd_T81 l0 x17_1).f6)], .agg #[.string ((rd_T81 l1 x17_1).f0), .string ((rd_T81 l1 x17_1).f1), .slice A334_2 ((rd_T81 l1 x17_1).f2).length c334_2, .int .i64 ((rd_T81 l1 x17_1).f3), .int .i64 ((rd_T81 l1 x17_1).f4), .int .i64 ((rd_T81 l1 x17_1).f5), .bool ((rd_T81 l1 x17_1).f6)]] rfl (by rfl) glm ?_; (with_reducible refine (impl_EngineSame_1.calls k1 ((rd_T81 l0 x17_1).f0) ((rd_T81 l0 x17_1).f1) _ _ ((rd_T81 l0 x17_1).f2) ((rd_T81 l0 x17_1).f3) ((rd_T81 l0 x17_1).f4) ((rd_T81 l0 x17_1).f5) ((rd_T81 l0 x17_1).f6) ((rd_T81 l1 x17_1).f0) ((rd_T81 l1 x17_1).f1) _ _ ((rd_T81 l1 x17_1).f2) ((rd_T81 l1 x17_1).f3) ((rd_T81 l1 x17_1).f4) ((rd_T81 l1 x17_1).f5) ((rd_T81 l1 x17_1).f6) false _ ?side1 ?side2 ?side3 ?side4 A9.out).mono ?_); (case side1 => exact Kd.C_below HR332_2.out hbm); (case side2 => exact HC332_2.out); (case side3 => exact Kd.C_below HR334_2.out hbm); (case side4 => exact HC334_2.out); rintro e w24 ⟨rfl, hb⟩; refine ⟨_, rfl, ?_⟩; have n0_ := Aside0.mk (blk_below (g := gb333) (o := .cells #[.string ((rd_T81 l0 x17_1).f0), .string ((rd_T81 l0 x17_1).f1), .slice A332_2 ((rd_T81 l0 x17_1).f2).length c332_2, .int .i64 ((rd_T81 l0 x17_1).f3), .int .i64 ((rd_T81 l0 x17_1).f4), .int .i64 ((rd_T81 l0 x17_1).f5), .bool ((rd_T81 l0 x17_1).f6)] 81 (0, 0)) (by (with_reducible repeat (first | apply blk_drewN | apply blk_drew | apply blk_alloc)); refine blk_far ?_ NB333_335.out _; (with_reducible repeat (first | apply blk_drewN | apply blk_drew | apply blk_alloc)); refine blk_far ?_ NB333_335.out _; (with_reducible repeat (first | apply blk_drewN | apply blk_drew | apply blk_alloc)); refine blk_far ?_ NB333_335.out _; (with_reducible repeat (first | apply blk_drewN | apply blk_drew | apply blk_alloc)); refine blk_far ?_ NB333_335.out _; (with_reducible repeat (first | apply blk_drewN | apply blk_drew | apply blk_alloc)); refine blk_far ?_ NB333_335.out _; (with_reducible repeat (first | apply blk_drewN | apply blk_drew | apply blk_alloc)); refine blk_far ?_ NB333_335.out _; (with_reducible repeat (first | apply blk_drewN | apply blk_drew | apply blk_alloc)); refine blk_far ?_ NB333_335.out _; (with_reducible repeat (first | apply blk_drewN | apply blk_drew | apply blk_alloc)); exact BK333.out) hb); have n1_ := Aside0.mk (blk_below (g := gb335) (o := .cells #[.string ((rd_T81 l1 x17_1).f0), .string ((rd_T81 l1 x17_1).f1), .slice A334_2 ((rd_T81 l1 x17_1).f2).length c334_2, .int .i64 ((rd_T81 l1 x17_1).f3), .int .i64 ((rd_T81 l1 x17_1).f4), .int .i64 ((rd_T81 l1 x17_1).f5), .bool ((rd_T81 l1 x17_1).f6)] 81 (0, 0)) (by (with_reducible repeat (first | apply blk_drewN | apply blk_drew | apply blk_alloc)); refine blk_put (cs := #[.string ((rd_T81 l1 x17_1).f0), .string ((rd_T81 l1 x17_1).f1), .slice A334_2 ((rd_T81 l1 x17_1).f2).length c334_2, .int .i64 ((rd_T81 l1 x17_1).f3), .int .i64 ((rd_T81 l1 x17_1).f4), .int .i64 ((rd_T81 l1 x17_1).f5), .bool false]) ?_ 6 _ rfl; (with_reducible repeat (first | apply blk_drewN | apply blk_drew | apply blk_alloc)); refine blk_put (cs := #[.string ((rd_T81 l1 x17_1).f0), .string ((rd_T81 l1 x17_1).f1), .slice A334_2 ((rd_T81 l1 x17_1).f2).length c334_2, .int .i64 ((rd_T81 l1 x17_1).f3), .int .i64 ((rd_T81 l1 x17_1).f4), .int .i64 0, .bool false]) ?_ 5 _ rfl; (with_reducible repeat (first | apply blk_drewN | apply blk_drew | apply blk_alloc)); refine blk_put (cs := #[.string ((rd_T81 l1 x17_1).f0), .string ((rd_T81 l1 x17_1).f1), .slice A334_2 ((rd_T81 l1 x17_1).f2).length c334_2, .int .i64 ((rd_T81 l1 x17_1).f3), .int .i64 0, .int .i64 0, .bool false]) ?_ 4 _ rfl; (with_reducible repeat (first | apply blk_drewN | apply blk_drew | apply blk_alloc)); refine blk_put (cs := #[.string ((rd_T81 l1 x17_1).f0), .string ((rd_T81 l1 x17_1).f1), .slice A334_2 ((rd_T81 l1 x17_1).f2).length c334_2, .int .i64 0, .int .i64 0, .int .i64 0, .bool false]) ?_ 3 _ rfl; (with_reducible repeat (first | apply blk_drewN | apply blk_drew | apply blk_alloc)); refine blk_put (cs := #[.string ((rd_T81 l1 x17_1).f0), .string ((rd_T81 l1 x17_1).f1), .slice none 0 0, .int .i64 0, .int .i64 0, .int .i64 0, .bool false]) ?_ 2 _ rfl; (with_reducible repeat (first | apply blk_drewN | apply blk_drew | apply blk_alloc)); refine blk_put (cs := #[.string ((rd_T81 l1 x17_1).f0), .string (⟨#[]⟩ : ByteArray), .slice none 0 0, .int .i64 0, .int .i64 0, .int .i64 0, .bool false]) ?_ 1 _ rfl; (with_reducible repeat (first | apply blk_drewN | apply blk_drew | apply blk_alloc)); refine blk_put (cs := #[.string (⟨#[]⟩ : ByteArray), .string (⟨#[]⟩ : ByteArray), .slice none 0 0, .int .i64 0, .int .i64 0, .int .i64 0, .bool false]) ?_ 0 _ rfl; (with_reducible repeat (first | apply blk_drewN | apply blk_drew | apply blk_alloc)); exact BK335.out) hb); have n2_ := bst hb; clear BK333; clear BK335; clear HB; have BK333 := n0_; have BK335 := n1_; have HB := n2_; clear n0_ n1_ n2_; (try clear hb); (try clear hb2); (try clear hk); (try clear hi)))
         go_ret
         exact ⟨rfm, hbm⟩
       ·
        rw [if_neg c8] at H
        exact absurd H (by simp)
      ·
       rw [if_neg c7] at H
       exact absurd H (by simp)
     ·
      rw [if_neg c6] at H
      exact absurd H (by simp)
    ·
     rw [if_neg c5] at H
     have c5b0 : decide (x17_1 < (l0.length : Int)) = false := decide_eq_false c5
     clear c5
     obtain rfl := Option.some.inj H
     go_wp2
     go_ret
     exact ⟨rfm, hbm⟩
 ·
  rw [if_neg c4] at H
  have c4b0 : ((l0.length : Int) == (l1.length : Int)) = false := beq_eq_false_iff_ne.mpr c4
  have c4b1 : ((l0.length : Int) != (l1.length : Int)) = true := bne_iff_ne.mpr c4
  have c4b2 : (l0.length == l1.length) = false := by first | simpa using c4 | (simp at c4 ⊢; omega)
  obtain rfl := Option.some.inj H
  go_enter Try.func40, Try.ntmps40
  go_wp2
  go_ret
  exact ⟨rfm, hbm⟩

/-! ### impl_Line: function 43 -/
def impl_Line.l0 : Nat → List (S93) → List (S93) → Int → Int → Option (Bool)
 | 0, _, _, _, _ => none
 | k + 1, x0, x1, x12, x13 => if x13 < x12 then (if 0 ≤ x13 then (if x13 < (x0.length : Int) then (if x13 < (x1.length : Int) then (if ((!((((rd_T93 x0 x13).f0.f0).toList) == (((rd_T93 x1 x13).f0.f0).toList)) || (!((((rd_T93 x0 x13).f0.f1).toList) == (((rd_T93 x1 x13).f0.f1).toList)))) || (!(((rd_T93 x0 x13).f1) == ((rd_T93 x1 x13).f1)))) = true then (some false) else (impl_Line.l0 k x0 x1 x12 (wrap64 (x13 + 1)))) else (none)) else (none)) else (none)) else (some true)
def impl_Line.f (k : Nat) (l0 : List (S93)) (l1 : List (S93)) : Option (Bool) := if (l0.length : Int) = (l1.length : Int) then (impl_Line.l0 k l0 l1 (l0.length : Int) 0) else (some false)
theorem impl_Line.mono_l : ∀ k, (∀ y0 y1 y2 y3, LeO (impl_Line.l0 k y0 y1 y2 y3) (impl_Line.l0 (k + 1) y0 y1 y2 y3))
 | 0 => fun _ _ _ _ r h => by simp [impl_Line.l0] at h
 | k + 1 => by
  have ih0 := impl_Line.mono_l k
  ·
   intro y0 y1 y2 y3
   unfold impl_Line.l0
   repeat' first
   | (with_reducible exact ih0 _ _ _ _)
   | (with_reducible exact LeO.refl _)
   | (with_reducible exact LeO.none _)
   | (with_reducible refine LeO.ite ?_ ?_)
   | (with_reducible refine LeO.bind ?_ (fun _ => ?_))
   | exact ih0 _ _ _ _
   | exact LeO.none _
   | refine LeO.ite ?_ ?_
   | refine LeO.bind ?_ (fun _ => ?_)
theorem impl_Line.mono : ∀ a0 a1 k, LeO (impl_Line.f k a0 a1) (impl_Line.f (k + 1) a0 a1) := by
 intro a0 a1 k
 have ih0 := impl_Line.mono_l k
 unfold impl_Line.f
 repeat' first
   | (with_reducible exact ih0 _ _ _ _)
   | (with_reducible exact LeO.refl _)
   | (with_reducible exact LeO.none _)
   | (with_reducible refine LeO.ite ?_ ?_)
   | (with_reducible refine LeO.bind ?_ (fun _ => ?_))
   | exact ih0 _ _ _ _
   | exact LeO.none _
   | refine LeO.ite ?_ ?_
   | refine LeO.bind ?_ (fun _ => ?_)
set_option maxHeartbeats 8000000 in
set_option maxRecDepth 100000 in
theorem impl_Line.calls (k : Nat) (A0 : Option Addr) (c0 : Nat) (l0 : List (S93)) (A1 : Option Addr) (c1 : Nat) (l1 : List (S93)) (r : Bool) (w : World) (hr0 : Kd.C k93 w A0 l0.length l0) (hc0 : l0.length ≤ c0) (hr1 : Kd.C k93 w A1 l1.length l1) (hc1 : l1.length ≤ c1) (h : impl_Line.f k l0 l1 = some r) :
  Calls Try.prog 43 #[.slice A0 l0.length c0, .slice A1 l1.length c1] w fun e w' => e = .returned (.bool r) ∧ Drawn0 w w' := by
 have hu93 := Try.underlying93
 have HR0 := Aside0.mk hr0
 have HC0 := Aside0.mk hc0
 clear hr0 hc0
 have HR1 := Aside0.mk hr1
 have HC1 := Aside0.mk hc1
 clear hr1 hc1
 have H : (if (l0.length : Int) = (l1.length : Int) then (impl_Line.l0 k l0 l1 (l0.length : Int) 0) else (some false)) = some r := h
 clear h
 by_cases c3 : (l0.length : Int) = (l1.length : Int)
 ·
  rw [if_pos c3] at H
  have c3b0 : ((l0.length : Int) == (l1.length : Int)) = true := beq_iff_eq.mpr c3
  have c3b1 : ((l0.length : Int) != (l1.length : Int)) = false := bne_eq_false_iff_eq.mpr c3
  have c3b2 : (l0.length == l1.length) = true := by first | simpa using c3 | (simp at c3 ⊢; omega)
  clear c3
  have H' := Aside0.mk H
  clear H
  go_enter Try.func43, Try.ntmps43
  go_wp2
  repeat (go_quiet (fail); try go_wp2)
  go_loopg [13] k (fun kq v13 w' => ∃ (x13_1 : Int), v13 = .int .i64 x13_1 ∧ Aside0 (impl_Line.l0 kq l0 l1 (l0.length : Int) x13_1 = some r) ∧ Aside0 (kq ≤ k) ∧ Drawn0 w w')
  case atStart => exact ⟨(0), (by first | rfl | (simp; done) | (simp [*]; done)), H', ⟨Nat.le_refl _⟩, drm⟩
  case round =>
   clear H'
   try clear c1; try clear p2; try clear c3; try clear c3b0; try clear c3b1; try clear c3b2
   obtain ⟨x13_1, rfl, HA, HK1, ⟨m1, rfl⟩⟩ := hrel
   cases gk with
   | zero => exact absurd HA.out (by simp [impl_Line.l0])
   | succ k1 =>
    have H := HA.out
    clear HA
    simp only [impl_Line.l0] at H
    by_cases c4 : x13_1 < (l0.length : Int)
    ·
     rw [if_pos c4] at H
     have c4b0 : decide (x13_1 < (l0.length : Int)) = true := decide_eq_true c4
     clear c4
     by_cases c5 : 0 ≤ x13_1
     ·
      rw [if_pos c5] at H
      have c5b0 : decide (0 ≤ x13_1) = true := decide_eq_true c5
      clear c5
      by_cases c6 : x13_1 < (l0.length : Int)
      ·
       rw [if_pos c6] at H
       have c6b0 : decide (x13_1 < (l0.length : Int)) = true := decide_eq_true c6
       clear c6
       by_cases c7 : x13_1 < (l1.length : Int)
       ·
        rw [if_pos c7] at H
        have c7b0 : decide (x13_1 < (l1.length : Int)) = true := decide_eq_true c7
        clear c7
        by_cases c8 : ((!((((rd_T93 l0 x13_1).f0.f0).toList) == (((rd_T93 l1 x13_1).f0.f0).toList)) || (!((((rd_T93 l0 x13_1).f0.f1).toList) == (((rd_T93 l1 x13_1).f0.f1).toList)))) || (!(((rd_T93 l0 x13_1).f1) == ((rd_T93 l1 x13_1).f1)))) = true
        ·
         rw [if_pos c8] at H
         have c8b0 : ((!((((rd_T93 l0 x13_1).f0.f0).toList) == (((rd_T93 l1 x13_1).f0.f0).toList)) || (!((((rd_T93 l0 x13_1).f0.f1).toList) == (((rd_T93 l1 x13_1).f0.f1).toList)))) || (!(((rd_T93 l0 x13_1).f1) == ((rd_T93 l1 x13_1).f1)))) = true := c8
         clear c8
         obtain rfl := Option.some.inj H
         have p337 : 0 ≤ (x13_1 : Int) := of_decide_eq_true asm_
         have q337 : x13_1 < (l0.length : Int) := of_decide_eq_true asm_
         obtain ⟨ad337, e337, hx337_0, hx337_1, hx337_2⟩ := at_T93 HR0.out x13_1 p337 q337
         cases e337
         replace p337 := eq_true p337
         replace q337 := eq_true q337
         have p338 : 0 ≤ (x13_1 : Int) := of_decide_eq_true asm_
         have q338 : x13_1 < (l1.length : Int) := of_decide_eq_true asm_
         obtain ⟨ad338, e338, hx338_0, hx338_1, hx338_2⟩ := at_T93 HR1.out x13_1 p338 q338
         cases e338
         replace p338 := eq_true p338
         replace q338 := eq_true q338
         go_wp2
         repeat (go_quiet (fail); try go_wp2)
         go_ret
         exact ⟨by first | rfl | (simp; done) | (simp [*]; done), drm⟩
        ·
         rw [if_neg c8] at H
         have c8b0 : ((!((((rd_T93 l0 x13_1).f0.f0).toList) == (((rd_T93 l1 x13_1).f0.f0).toList)) || (!((((rd_T93 l0 x13_1).f0.f1).toList) == (((rd_T93 l1 x13_1).f0.f1).toList)))) || (!(((rd_T93 l0 x13_1).f1) == ((rd_T93 l1 x13_1).f1)))) = false := by simpa using c8
         clear c8
         have H' := Aside0.mk H
         clear H
         have p337 : 0 ≤ (x13_1 : Int) := of_decide_eq_true asm_
         have q337 : x13_1 < (l0.length : Int) := of_decide_eq_true asm_
         obtain ⟨ad337, e337, hx337_0, hx337_1, hx337_2⟩ := at_T93 HR0.out x13_1 p337 q337
         cases e337
         replace p337 := eq_true p337
         replace q337 := eq_true q337
         have p338 : 0 ≤ (x13_1 : Int) := of_decide_eq_true asm_
         have q338 : x13_1 < (l1.length : Int) := of_decide_eq_true asm_
         obtain ⟨ad338, e338, hx338_0, hx338_1, hx338_2⟩ := at_T93 HR1.out x13_1 p338 q338
         cases e338
         replace p338 := eq_true p338
         replace q338 := eq_true q338
         go_wp2
         repeat (go_quiet (fail); try go_wp2)
         go_roundg k1
         case measure => have := HK1.out; omega
         case rel => exact ⟨(wrap64 (x13_1 + 1)), (by first | rfl | (simp; done) | (simp [*]; done)), H', ⟨by have := HK1.out; omega⟩, drm⟩
       ·
        rw [if_neg c7] at H
        exact absurd H (by simp)
      ·
       rw [if_neg c6] at H
       exact absurd H (by simp)
     ·
      rw [if_neg c5] at H
      exact absurd H (by simp)
    ·
     rw [if_neg c4] at H
     have c4b0 : decide (x13_1 < (l0.length : Int)) = false := decide_eq_false c4
     clear c4
     obtain rfl := Option.some.inj H
     go_wp2
     repeat (go_quiet (fail); try go_wp2)
     go_ret
     exact ⟨by first | rfl | (simp; done) | (simp [*]; done), drm⟩
 ·
  rw [if_neg c3] at H
  have c3b0 : ((l0.length : Int) == (l1.length : Int)) = false := beq_eq_false_iff_ne.mpr c3
  have c3b1 : ((l0.length : Int) != (l1.length : Int)) = true := bne_iff_ne.mpr c3
  have c3b2 : (l0.length == l1.length) = false := by first | simpa using c3 | (simp at c3 ⊢; omega)
  obtain rfl := Option.some.inj H
  go_enter Try.func43, Try.ntmps43
  go_wp2
  repeat (go_quiet (fail); try go_wp2)
  go_ret
  exact ⟨by first | rfl | (simp; done) | (simp [*]; done), drm⟩

/-! ### impl_EngineSame: function 14 -/
def impl_EngineSame.f (k : Nat) (a0_0 : Int) (l0_1 : List (S79)) (l0_2 : List (S81)) (l0_3 : List (S93)) (l0_4 : List ByteArray) (a1_0 : Int) (l1_1 : List (S79)) (l1_2 : List (S81)) (l1_3 : List (S93)) (l1_4 : List ByteArray) : Option (Bool) := if a0_0 = a1_0 then ((impl_Product.f k l0_1 l1_1 39).bind fun t341 => (if t341 = true then ((impl_Account.f k l0_2 l1_2 41).bind fun t342 => (if t342 = true then ((impl_Line.f k l0_3 l1_3).bind fun t343 => (if t343 = true then ((slices_Equal_string_string.f k l0_4 l1_4).bind fun t344 => (some t344)) else (some false))) else (some false))) else (some false))) else (some false)
theorem impl_EngineSame.mono : ∀ a0 a1 a2 a3 a4 a5 a6 a7 a8 a9 k, LeO (impl_EngineSame.f k a0 a1 a2 a3 a4 a5 a6 a7 a8 a9) (impl_EngineSame.f (k + 1) a0 a1 a2 a3 a4 a5 a6 a7 a8 a9) := by
 intro a0 a1 a2 a3 a4 a5 a6 a7 a8 a9 k
 unfold impl_EngineSame.f
 repeat' first
   | (with_reducible exact impl_Account.mono _ _ _ _)
   | (with_reducible exact impl_Line.mono _ _ _)
   | (with_reducible exact impl_Product.mono _ _ _ _)
   | (with_reducible exact slices_Equal_string_string.mono _ _ _)
   | (with_reducible exact LeO.refl _)
   | (with_reducible exact LeO.none _)
   | (with_reducible refine LeO.ite ?_ ?_)
   | (with_reducible refine LeO.bind ?_ (fun _ => ?_))
   | exact impl_Account.mono _ _ _ _
   | exact impl_Line.mono _ _ _
   | exact impl_Product.mono _ _ _ _
   | exact slices_Equal_string_string.mono _ _ _
   | exact LeO.none _
   | refine LeO.ite ?_ ?_
   | refine LeO.bind ?_ (fun _ => ?_)
theorem impl_EngineSame.m0 {P : Prop} (h : P := by
  go_enter Try.func14, Try.ntmps14
  go_wp2_with (first | ((with_reducible refine gate_dst (N := 2) rfl ?_); refine bxe (N := 2) (cs := #[.int .i64 a0_0, .slice A0_1 l0_1.length c0_1, .slice A0_2 l0_2.length c0_2, .slice A0_3 l0_3.length c0_3, .slice A0_4 l0_4.length c0_4]) (t := 47) ?_; intro gb339 hg wq1 hbox hb; have n0_ := bst hb; have n1_ := Aside0.mk (hbox); have n2_ := (bsz hg : Aside0 (w.heap.size ≤ gb339)); have n3_ := n2_; clear HB; have HB := n0_; have BK339 := n1_; have GW339 := n2_; have GE339 := n3_; clear n0_ n1_ n2_ n3_; clear hb hbox hg) | ((with_reducible refine gate_dst (N := 3) rfl ?_); refine bxe (N := 3) (cs := #[.int .i64 a1_0, .slice A1_1 l1_1.length c1_1, .slice A1_2 l1_2.length c1_2, .slice A1_3 l1_3.length c1_3, .slice A1_4 l1_4.length c1_4]) (t := 47) ?_; intro gb340 hg wq1 hbox hb; have n0_ := bkb BK339 hb; have n1_ := bst hb; have n2_ := Aside0.mk (hbox); have n3_ := (bsz hg : Aside0 (w.heap.size ≤ gb340)); have n4_ := n3_; have n5_ := (bkn BK339 hg : Aside0 (gb339 ≠ gb340)); have n6_ := Aside0.mk n5_.out.symm; clear BK339; clear HB; have BK339 := n0_; have HB := n1_; have BK340 := n2_; have GW340 := n3_; have GE340 := n4_; have NB339_340 := n5_; have NB340_339 := n6_; clear n0_ n1_ n2_ n3_ n4_ n5_ n6_; clear hb hbox hg; have hnbq1 := NB339_340.out; have hncq1 := NB340_339.out; obtain ⟨hczq1_0, hczq1_1, hczq1_2, hczq1_3, hczq1_4, hfzq1_0, hfzq1_1, hfzq1_2, hfzq1_3, hfzq1_4⟩ := bc5 BK339.out; obtain ⟨hczq2_0, hczq2_1, hczq2_2, hczq2_3, hczq2_4, hfzq2_0, hfzq2_1, hfzq2_2, hfzq2_3, hfzq2_4⟩ := bc5 BK340.out) | (go_at_call 38; (with_reducible refine (impl_Product.calls k _ _ l0_1 _ _ l1_1 39 false _ ?side1 ?side2 ?side3 ?side4 A4.out).mono ?_); (case side1 => exact csb (Kd.C_below HR0_1.out HB.out)); (case side2 => exact HC0_1.out); (case side3 => exact csb (Kd.C_below HR1_1.out HB.out)); (case side4 => exact HC1_1.out); rintro e wq1 ⟨rfl, hb⟩; have n0_ := bkb BK339 hb; have n1_ := bkb BK340 hb; have n2_ := bst hb; clear BK339; clear BK340; clear HB; have BK339 := n0_; have BK340 := n1_; have HB := n2_; clear n0_ n1_ n2_; (try clear hb); (try clear hb2); (try clear hk); (try clear hi)) | (go_at_call 38; (with_reducible refine (impl_Product.calls k _ _ l0_1 _ _ l1_1 39 true _ ?side1 ?side2 ?side3 ?side4 A4.out).mono ?_); (case side1 => exact csb (Kd.C_below HR0_1.out HB.out)); (case side2 => exact HC0_1.out); (case side3 => exact csb (Kd.C_below HR1_1.out HB.out)); (case side4 => exact HC1_1.out); rintro e wq1 ⟨rfl, hb⟩; have n0_ := bkb BK339 hb; have n1_ := bkb BK340 hb; have n2_ := bst hb; clear BK339; clear BK340; clear HB; have BK339 := n0_; have BK340 := n1_; have HB := n2_; clear n0_ n1_ n2_; (try clear hb); (try clear hb2); (try clear hk); (try clear hi); obtain ⟨hczq1_0, hczq1_1, hczq1_2, hczq1_3, hczq1_4, hfzq1_0, hfzq1_1, hfzq1_2, hfzq1_3, hfzq1_4⟩ := bc5 BK339.out; obtain ⟨hczq2_0, hczq2_1, hczq2_2, hczq2_3, hczq2_4, hfzq2_0, hfzq2_1, hfzq2_2, hfzq2_3, hfzq2_4⟩ := bc5 BK340.out) | (go_at_call 40; (with_reducible refine (impl_Account.calls k _ _ l0_2 _ _ l1_2 41 false _ ?side1 ?side2 ?side3 ?side4 A6.out).mono ?_); (case side1 => exact csb (Kd.C_below HR0_2.out HB.out)); (case side2 => exact HC0_2.out); (case side3 => exact csb (Kd.C_below HR1_2.out HB.out)); (case side4 => exact HC1_2.out); rintro e wq1 ⟨rfl, hb⟩; have n0_ := bkb BK339 hb; have n1_ := bkb BK340 hb; have n2_ := bst hb; clear BK339; clear BK340; clear HB; have BK339 := n0_; have BK340 := n1_; have HB := n2_; clear n0_ n1_ n2_; (try clear hb); (try clear hb2); (try clear hk); (try clear hi)) | (go_at_call 40; (with_reducible refine (impl_Account.calls k _ _ l0_2 _ _ l1_2 41 true _ ?side1 ?side2 ?side3 ?side4 A6.out).mono ?_); (case side1 => exact csb (Kd.C_below HR0_2.out HB.out)); (case side2 => exact HC0_2.out); (case side3 => exact csb (Kd.C_below HR1_2.out HB.out)); (case side4 => exact HC1_2.out); rintro e wq1 ⟨rfl, hb⟩; have n0_ := bkb BK339 hb; have n1_ := bkb BK340 hb; have n2_ := bst hb; clear BK339; clear BK340; clear HB; have BK339 := n0_; have BK340 := n1_; have HB := n2_; clear n0_ n1_ n2_; (try clear hb); (try clear hb2); (try clear hk); (try clear hi); obtain ⟨hczq1_0, hczq1_1, hczq1_2, hczq1_3, hczq1_4, hfzq1_0, hfzq1_1, hfzq1_2, hfzq1_3, hfzq1_4⟩ := bc5 BK339.out; obtain ⟨hczq2_0, hczq2_1, hczq2_2, hczq2_3, hczq2_4, hfzq2_0, hfzq2_1, hfzq2_2, hfzq2_3, hfzq2_4⟩ := bc5 BK340.out) | (go_at_call 43; (with_reducible refine (impl_Line.calls k _ _ l0_3 _ _ l1_3 false _ ?side1 ?side2 ?side3 ?side4 A8.out).mono ?_); (case side1 => exact csb (Kd.C_below HR0_3.out HB.out)); (case side2 => exact HC0_3.out); (case side3 => exact csb (Kd.C_below HR1_3.out HB.out)); (case side4 => exact HC1_3.out); rintro e w' ⟨rfl, ⟨nd, rfl⟩⟩) | (go_at_call 43; (with_reducible refine (impl_Line.calls k _ _ l0_3 _ _ l1_3 true _ ?side1 ?side2 ?side3 ?side4 A8.out).mono ?_); (case side1 => exact csb (Kd.C_below HR0_3.out HB.out)); (case side2 => exact HC0_3.out); (case side3 => exact csb (Kd.C_below HR1_3.out HB.out)); (case side4 => exact HC1_3.out); rintro e w' ⟨rfl, ⟨nd, rfl⟩⟩) | (go_at_call 44; (with_reducible refine (slices_Equal_string_string.calls k _ _ l0_4 _ _ l1_4 t344 _ ?side1 ?side2 ?side3 ?side4 A10.out).mono ?_); (case side1 => repeat (first | exact (Kd.C_below HR0_4.out hbm) | (with_reducible refine Kd.C_alloc ?_ _) | (with_reducible refine Kd.C_drewN ?_ _) | (with_reducible refine Kd.C_drew ?_))); (case side2 => exact HC0_4.out); (case side3 => repeat (first | exact (Kd.C_below HR1_4.out hbm) | (with_reducible refine Kd.C_alloc ?_ _) | (with_reducible refine Kd.C_drewN ?_ _) | (with_reducible refine Kd.C_drew ?_))); (case side4 => exact HC1_4.out); rintro e w' ⟨rfl, ⟨nd, rfl⟩⟩))
  go_ret
  exact ⟨rfm, hbm⟩) : P := h
set_option maxHeartbeats 8000000 in
set_option maxRecDepth 100000 in
theorem impl_EngineSame.calls (k : Nat) (a0_0 : Int) (A0_1 : Option Addr) (c0_1 : Nat) (l0_1 : List (S79)) (A0_2 : Option Addr) (c0_2 : Nat) (l0_2 : List (S81)) (A0_3 : Option Addr) (c0_3 : Nat) (l0_3 : List (S93)) (A0_4 : Option Addr) (c0_4 : Nat) (l0_4 : List ByteArray) (a1_0 : Int) (A1_1 : Option Addr) (c1_1 : Nat) (l1_1 : List (S79)) (A1_2 : Option Addr) (c1_2 : Nat) (l1_2 : List (S81)) (A1_3 : Option Addr) (c1_3 : Nat) (l1_3 : List (S93)) (A1_4 : Option Addr) (c1_4 : Nat) (l1_4 : List ByteArray) (r : Bool) (w : World) (hr0_1 : Kd.C k79 w A0_1 l0_1.length l0_1) (hc0_1 : l0_1.length ≤ c0_1) (hr0_2 : Kd.C k81 w A0_2 l0_2.length l0_2) (hc0_2 : l0_2.length ≤ c0_2) (hr0_3 : Kd.C k93 w A0_3 l0_3.length l0_3) (hc0_3 : l0_3.length ≤ c0_3) (hr0_4 : Kd.C Kd.string w A0_4 l0_4.length l0_4) (hc0_4 : l0_4.length ≤ c0_4) (hr1_1 : Kd.C k79 w A1_1 l1_1.length l1_1) (hc1_1 : l1_1.length ≤ c1_1) (hr1_2 : Kd.C k81 w A1_2 l1_2.length l1_2) (hc1_2 : l1_2.length ≤ c1_2) (hr1_3 : Kd.C k93 w A1_3 l1_3.length l1_3) (hc1_3 : l1_3.length ≤ c1_3) (hr1_4 : Kd.C Kd.string w A1_4 l1_4.length l1_4) (hc1_4 : l1_4.length ≤ c1_4) (h : impl_EngineSame.f k a0_0 l0_1 l0_2 l0_3 l0_4 a1_0 l1_1 l1_2 l1_3 l1_4 = some r) :
  Calls Try.prog 14 #[.agg #[.int .i64 a0_0, .slice A0_1 l0_1.length c0_1, .slice A0_2 l0_2.length c0_2, .slice A0_3 l0_3.length c0_3, .slice A0_4 l0_4.length c0_4], .agg #[.int .i64 a1_0, .slice A1_1 l1_1.length c1_1, .slice A1_2 l1_2.length c1_2, .slice A1_3 l1_3.length c1_3, .slice A1_4 l1_4.length c1_4]] w fun e w' => e = .returned (.bool r) ∧ Below w.heap.size w w' := by
 have hu47 := Try.underlying47
 have HR0_1 := Aside0.mk hr0_1
 have HC0_1 := Aside0.mk hc0_1
 clear hr0_1 hc0_1
 have HR0_2 := Aside0.mk hr0_2
 have HC0_2 := Aside0.mk hc0_2
 clear hr0_2 hc0_2
 have HR0_3 := Aside0.mk hr0_3
 have HC0_3 := Aside0.mk hc0_3
 clear hr0_3 hc0_3
 have HR0_4 := Aside0.mk hr0_4
 have HC0_4 := Aside0.mk hc0_4
 clear hr0_4 hc0_4
 have HR1_1 := Aside0.mk hr1_1
 have HC1_1 := Aside0.mk hc1_1
 clear hr1_1 hc1_1
 have HR1_2 := Aside0.mk hr1_2
 have HC1_2 := Aside0.mk hc1_2
 clear hr1_2 hc1_2
 have HR1_3 := Aside0.mk hr1_3
 have HC1_3 := Aside0.mk hc1_3
 clear hr1_3 hc1_3
 have HR1_4 := Aside0.mk hr1_4
 have HC1_4 := Aside0.mk hc1_4
 clear hr1_4 hc1_4
 have HB := Aside0.mk (Below.refl w.heap.size w)
 have H : (if a0_0 = a1_0 then ((impl_Product.f k l0_1 l1_1 39).bind fun t341 => (if t341 = true then ((impl_Account.f k l0_2 l1_2 41).bind fun t342 => (if t342 = true then ((impl_Line.f k l0_3 l1_3).bind fun t343 => (if t343 = true then ((slices_Equal_string_string.f k l0_4 l1_4).bind fun t344 => (some t344)) else (some false))) else (some false))) else (some false))) else (some false)) = some r := h
 clear h
 by_cases c3 : a0_0 = a1_0
 ·
  rw [if_pos c3] at H
  have c3b0 : (a0_0 == a1_0) = true := beq_iff_eq.mpr c3
  have c3b1 : (a0_0 != a1_0) = false := bne_eq_false_iff_eq.mpr c3
  clear c3
  replace H := Option.bind_eq_some_iff.mp H
  obtain ⟨t341, A40, H⟩ := H
  (try dsimp only at H)
  have A4 := Aside0.mk A40
  clear A40
  by_cases c5 : t341 = true
  ·
   subst c5
   have H1 : ((impl_Account.f k l0_2 l1_2 41).bind fun t342 => (if t342 = true then ((impl_Line.f k l0_3 l1_3).bind fun t343 => (if t343 = true then ((slices_Equal_string_string.f k l0_4 l1_4).bind fun t344 => (some t344)) else (some false))) else (some false))) = some r := by rw [if_pos rfl] at H; exact H
   clear H
   have H := H1
   clear H1
   replace H := Option.bind_eq_some_iff.mp H
   obtain ⟨t342, A60, H⟩ := H
   (try dsimp only at H)
   have A6 := Aside0.mk A60
   clear A60
   by_cases c7 : t342 = true
   ·
    subst c7
    have H1 : ((impl_Line.f k l0_3 l1_3).bind fun t343 => (if t343 = true then ((slices_Equal_string_string.f k l0_4 l1_4).bind fun t344 => (some t344)) else (some false))) = some r := by rw [if_pos rfl] at H; exact H
    clear H
    have H := H1
    clear H1
    replace H := Option.bind_eq_some_iff.mp H
    obtain ⟨t343, A80, H⟩ := H
    (try dsimp only at H)
    have A8 := Aside0.mk A80
    clear A80
    by_cases c9 : t343 = true
    ·
     subst c9
     have H1 : ((slices_Equal_string_string.f k l0_4 l1_4).bind fun t344 => (some t344)) = some r := by rw [if_pos rfl] at H; exact H
     clear H
     have H := H1
     clear H1
     replace H := Option.bind_eq_some_iff.mp H
     obtain ⟨t344, A100, H⟩ := H
     (try dsimp only at H)
     have A10 := Aside0.mk A100
     clear A100
     obtain rfl := Option.some.inj H
     exact impl_EngineSame.m0
    ·
     replace c9 := Bool.eq_false_iff.mpr c9
     subst c9
     have H1 : (some false) = some r := by rw [if_neg (show ¬ (false = true) by decide)] at H; exact H
     clear H
     have H := H1
     clear H1
     obtain rfl := Option.some.inj H
     exact impl_EngineSame.m0
   ·
    replace c7 := Bool.eq_false_iff.mpr c7
    subst c7
    have H1 : (some false) = some r := by rw [if_neg (show ¬ (false = true) by decide)] at H; exact H
    clear H
    have H := H1
    clear H1
    obtain rfl := Option.some.inj H
    exact impl_EngineSame.m0
  ·
   replace c5 := Bool.eq_false_iff.mpr c5
   subst c5
   have H1 : (some false) = some r := by rw [if_neg (show ¬ (false = true) by decide)] at H; exact H
   clear H
   have H := H1
   clear H1
   obtain rfl := Option.some.inj H
   exact impl_EngineSame.m0
 ·
  rw [if_neg c3] at H
  have c3b0 : (a0_0 == a1_0) = false := beq_eq_false_iff_ne.mpr c3
  have c3b1 : (a0_0 != a1_0) = true := bne_iff_ne.mpr c3
  obtain rfl := Option.some.inj H
  exact impl_EngineSame.m0

end Go.Proofs.Ytidlcolgiololaa.S
