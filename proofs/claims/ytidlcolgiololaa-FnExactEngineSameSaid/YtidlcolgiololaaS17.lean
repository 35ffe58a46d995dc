/- Proved: each Go function named here answers as its plain Lean function says, in whatever memory; no condition. Written by a program of this session over the print of the kit. -/
import Derived.Test.YtidlcolgiololaaSq
import Derived.Test.YtidlcolgiololaaS0
import Derived.Test.YtidlcolgiololaaS16
namespace Go.Proofs.Ytidlcolgiololaa.S
open Go.RowKit Go.Proofs.YtidlcolgiololaaW.PrintWords Go.Proofs.YtidlcolgiololaaW.PrintLast Go.Proofs.YtidlcolgiololaaW.PrintMore
attribute [local go_sem] max2_int min2_int max_two min_two max_three min_three max_four min_four   -- for this text's walks alone
set_option linter.unusedVariables false
set_option linter.unusedSimpArgs false

/-! ### laws_eqAccount: function 80 -/
def laws_eqAccount.f (k : Nat) (a0_0 : ByteArray) (a0_1 : ByteArray) (l0_2 : List Int) (a0_3 : Int) (a0_4 : Int) (a0_5 : Int) (a0_6 : Bool) (a1_0 : ByteArray) (a1_1 : ByteArray) (l1_2 : List Int) (a1_3 : Int) (a1_4 : Int) (a1_5 : Int) (a1_6 : Bool) : Option (Bool) := if a0_0.toList = a1_0.toList then (if a0_1.toList = a1_1.toList then ((laws_eqInt64S.f k l0_2 l1_2).bind fun t372 => (if t372 = true then (if a0_3 = a1_3 then (if a0_4 = a1_4 then (if a0_5 = a1_5 then (if (a0_6 != a1_6) = true then (some false) else (some true)) else (some false)) else (some false)) else (some false)) else (some false))) else (some false)) else (some false)
theorem laws_eqAccount.mono : ∀ a0 a1 a2 a3 a4 a5 a6 a7 a8 a9 a10 a11 a12 a13 k, LeO (laws_eqAccount.f k a0 a1 a2 a3 a4 a5 a6 a7 a8 a9 a10 a11 a12 a13) (laws_eqAccount.f (k + 1) a0 a1 a2 a3 a4 a5 a6 a7 a8 a9 a10 a11 a12 a13) := by
 intro a0 a1 a2 a3 a4 a5 a6 a7 a8 a9 a10 a11 a12 a13 k
 unfold laws_eqAccount.f
 repeat' first
   | (with_reducible exact laws_eqInt64S.mono _ _ _)
   | (with_reducible exact LeO.refl _)
   | (with_reducible exact LeO.none _)
   | (with_reducible refine LeO.ite ?_ ?_)
   | (with_reducible refine LeO.bind ?_ (fun _ => ?_))
   | exact laws_eqInt64S.mono _ _ _
   | exact LeO.none _
   | refine LeO.ite ?_ ?_
   | refine LeO.bind ?_ (fun _ => ?_)
theorem laws_eqAccount.m0 {P : Prop} (h : P := by
  go_enter Try.func80, Try.ntmps80
  go_wp2_with (first | ((with_reducible refine gate_dst (N := 2) rfl ?_); refine bxe (N := 2) (cs := #[.string a0_0, .string a0_1, .slice A0_2 l0_2.length c0_2, .int .i64 a0_3, .int .i64 a0_4, .int .i64 a0_5, .bool a0_6]) (t := 81) ?_; intro gb370 hg wq1 hbox hb; have n0_ := bst hb; have n1_ := Aside0.mk (hbox); have n2_ := (bsz hg : Aside0 (w.heap.size ≤ gb370)); have n3_ := n2_; clear HB; have HB := n0_; have BK370 := n1_; have GW370 := n2_; have GE370 := n3_; clear n0_ n1_ n2_ n3_; clear hb hbox hg) | ((with_reducible refine gate_dst (N := 3) rfl ?_); refine bxe (N := 3) (cs := #[.string a1_0, .string a1_1, .slice A1_2 l1_2.length c1_2, .int .i64 a1_3, .int .i64 a1_4, .int .i64 a1_5, .bool a1_6]) (t := 81) ?_; intro gb371 hg wq1 hbox hb; have n0_ := bkb BK370 hb; have n1_ := bst hb; have n2_ := Aside0.mk (hbox); have n3_ := (bsz hg : Aside0 (w.heap.size ≤ gb371)); have n4_ := n3_; have n5_ := (bkn BK370 hg : Aside0 (gb370 ≠ gb371)); have n6_ := Aside0.mk n5_.out.symm; clear BK370; clear HB; have BK370 := n0_; have HB := n1_; have BK371 := n2_; have GW371 := n3_; have GE371 := n4_; have NB370_371 := n5_; have NB371_370 := n6_; clear n0_ n1_ n2_ n3_ n4_ n5_ n6_; clear hb hbox hg; have hnbq1 := NB370_371.out; have hncq1 := NB371_370.out; obtain ⟨hczq1_0, hczq1_1, hczq1_2, hczq1_3, hczq1_4, hczq1_5, hczq1_6, hfzq1_0, hfzq1_1, hfzq1_2, hfzq1_3, hfzq1_4, hfzq1_5, hfzq1_6⟩ := bc7 BK370.out; obtain ⟨hczq2_0, hczq2_1, hczq2_2, hczq2_3, hczq2_4, hczq2_5, hczq2_6, hfzq2_0, hfzq2_1, hfzq2_2, hfzq2_3, hfzq2_4, hfzq2_5, hfzq2_6⟩ := bc7 BK371.out) | ((with_reducible refine gate_callee (f := 105) rfl ?_); refine goesL_ (some 19) rfl rfl Try.func105 (by kernel_rfl) rfl #[.slice A0_2 l0_2.length c0_2, .slice A1_2 l1_2.length c1_2] rfl glm ?_; (with_reducible refine (laws_eqInt64S.calls k _ _ l0_2 _ _ l1_2 false _ ?side1 ?side2 ?side3 ?side4 A5.out).mono ?_); (case side1 => exact csb (Kd.C_below HR0_2.out HB.out)); (case side2 => exact HC0_2.out); (case side3 => exact csb (Kd.C_below HR1_2.out HB.out)); (case side4 => exact HC1_2.out); rintro e w' ⟨rfl, ⟨nd, rfl⟩⟩; refine ⟨_, rfl, ?_⟩) | ((with_reducible refine gate_callee (f := 105) rfl ?_); refine goesL_ (some 19) rfl rfl Try.func105 (by kernel_rfl) rfl #[.slice A0_2 l0_2.length c0_2, .slice A1_2 l1_2.length c1_2] rfl glm ?_; (with_reducible refine (laws_eqInt64S.calls k _ _ l0_2 _ _ l1_2 true _ ?side1 ?side2 ?side3 ?side4 A5.out).mono ?_); (case side1 => exact csb (Kd.C_below HR0_2.out HB.out)); (case side2 => exact HC0_2.out); (case side3 => exact csb (Kd.C_below HR1_2.out HB.out)); (case side4 => exact HC1_2.out); rintro e w' ⟨rfl, ⟨nd, rfl⟩⟩; refine ⟨_, rfl, ?_⟩))
  go_ret
  exact ⟨rfm, hbm⟩) : P := h
set_option maxHeartbeats 8000000 in
set_option maxRecDepth 100000 in
theorem laws_eqAccount.calls (k : Nat) (a0_0 : ByteArray) (a0_1 : ByteArray) (A0_2 : Option Addr) (c0_2 : Nat) (l0_2 : List Int) (a0_3 : Int) (a0_4 : Int) (a0_5 : Int) (a0_6 : Bool) (a1_0 : ByteArray) (a1_1 : ByteArray) (A1_2 : Option Addr) (c1_2 : Nat) (l1_2 : List Int) (a1_3 : Int) (a1_4 : Int) (a1_5 : Int) (a1_6 : Bool) (r : Bool) (w : World) (hr0_2 : Kd.C (Kd.int .i64) w A0_2 l0_2.length l0_2) (hc0_2 : l0_2.length ≤ c0_2) (hr1_2 : Kd.C (Kd.int .i64) w A1_2 l1_2.length l1_2) (hc1_2 : l1_2.length ≤ c1_2) (h : laws_eqAccount.f k a0_0 a0_1 l0_2 a0_3 a0_4 a0_5 a0_6 a1_0 a1_1 l1_2 a1_3 a1_4 a1_5 a1_6 = some r) :
  Calls Try.prog 80 #[.agg #[.string a0_0, .string a0_1, .slice A0_2 l0_2.length c0_2, .int .i64 a0_3, .int .i64 a0_4, .int .i64 a0_5, .bool a0_6], .agg #[.string a1_0, .string a1_1, .slice A1_2 l1_2.length c1_2, .int .i64 a1_3, .int .i64 a1_4, .int .i64 a1_5, .bool a1_6]] w fun e w' => e = .returned (.bool r) ∧ Below w.heap.size w w' := by
 have hu81 := Try.underlying81
 have HR0_2 := Aside0.mk hr0_2
 have HC0_2 := Aside0.mk hc0_2
 clear hr0_2 hc0_2
 have HR1_2 := Aside0.mk hr1_2
 have HC1_2 := Aside0.mk hc1_2
 clear hr1_2 hc1_2
 have HB := Aside0.mk (Below.refl w.heap.size w)
 have H : (if a0_0.toList = a1_0.toList then (if a0_1.toList = a1_1.toList then ((laws_eqInt64S.f k l0_2 l1_2).bind fun t372 => (if t372 = true then (if a0_3 = a1_3 then (if a0_4 = a1_4 then (if a0_5 = a1_5 then (if (a0_6 != a1_6) = true then (some false) else (some true)) else (some false)) else (some false)) else (some false)) else (some false))) else (some false)) else (some false)) = some r := h
 clear h
 by_cases c3 : a0_0.toList = a1_0.toList
 ·
  rw [if_pos c3] at H
  have c3b0 : (a0_0.toList == a1_0.toList) = true := beq_iff_eq.mpr c3
  have c3b1 : (a0_0.toList != a1_0.toList) = false := bne_eq_false_iff_eq.mpr c3
  clear c3
  by_cases c4 : a0_1.toList = a1_1.toList
  ·
   rw [if_pos c4] at H
   have c4b0 : (a0_1.toList == a1_1.toList) = true := beq_iff_eq.mpr c4
   have c4b1 : (a0_1.toList != a1_1.toList) = false := bne_eq_false_iff_eq.mpr c4
   clear c4
   replace H := Option.bind_eq_some_iff.mp H
   obtain ⟨t372, A50, H⟩ := H
   (try dsimp only at H)
   have A5 := Aside0.mk A50
   clear A50
   by_cases c6 : t372 = true
   ·
    subst c6
    have H1 : (if a0_3 = a1_3 then (if a0_4 = a1_4 then (if a0_5 = a1_5 then (if (a0_6 != a1_6) = true then (some false) else (some true)) else (some false)) else (some false)) else (some false)) = some r := by rw [if_pos rfl] at H; exact H
    clear H
    have H := H1
    clear H1
    by_cases c7 : a0_3 = a1_3
    ·
     rw [if_pos c7] at H
     have c7b0 : (a0_3 == a1_3) = true := beq_iff_eq.mpr c7
     have c7b1 : (a0_3 != a1_3) = false := bne_eq_false_iff_eq.mpr c7
     clear c7
     by_cases c8 : a0_4 = a1_4
     ·
      rw [if_pos c8] at H
      have c8b0 : (a0_4 == a1_4) = true := beq_iff_eq.mpr c8
      have c8b1 : (a0_4 != a1_4) = false := bne_eq_false_iff_eq.mpr c8
      clear c8
      by_cases c9 : a0_5 = a1_5
      ·
       rw [if_pos c9] at H
       have c9b0 : (a0_5 == a1_5) = true := beq_iff_eq.mpr c9
       have c9b1 : (a0_5 != a1_5) = false := bne_eq_false_iff_eq.mpr c9
       clear c9
       by_cases c10 : (a0_6 != a1_6) = true
       ·
        rw [if_pos c10] at H
        have c10b0 : (a0_6 != a1_6) = true := c10
        (try (have c10b1 : decide (a0_6 = a1_6) = false := by simpa using c10))
        (try (have c10b2 : (a0_6 == a1_6) = false := by simpa using c10))
        (try (have c10b3 : ¬ (a0_6 = a1_6) := by simpa using c10))
        clear c10
        obtain rfl := Option.some.inj H
        exact laws_eqAccount.m0
       ·
        rw [if_neg c10] at H
        have c10b0 : (a0_6 != a1_6) = false := by simpa using c10
        (try (have c10b1 : decide (a0_6 = a1_6) = true := by simpa using c10))
        (try (have c10b2 : (a0_6 == a1_6) = true := by simpa using c10))
        clear c10
        obtain rfl := Option.some.inj H
        exact laws_eqAccount.m0
      ·
       rw [if_neg c9] at H
       have c9b0 : (a0_5 == a1_5) = false := beq_eq_false_iff_ne.mpr c9
       have c9b1 : (a0_5 != a1_5) = true := bne_iff_ne.mpr c9
       obtain rfl := Option.some.inj H
       exact laws_eqAccount.m0
     ·
      rw [if_neg c8] at H
      have c8b0 : (a0_4 == a1_4) = false := beq_eq_false_iff_ne.mpr c8
      have c8b1 : (a0_4 != a1_4) = true := bne_iff_ne.mpr c8
      obtain rfl := Option.some.inj H
      exact laws_eqAccount.m0
    ·
     rw [if_neg c7] at H
     have c7b0 : (a0_3 == a1_3) = false := beq_eq_false_iff_ne.mpr c7
     have c7b1 : (a0_3 != a1_3) = true := bne_iff_ne.mpr c7
     obtain rfl := Option.some.inj H
     exact laws_eqAccount.m0
   ·
    replace c6 := Bool.eq_false_iff.mpr c6
    subst c6
    have H1 : (some false) = some r := by rw [if_neg (show ¬ (false = true) by decide)] at H; exact H
    clear H
    have H := H1
    clear H1
    obtain rfl := Option.some.inj H
    exact laws_eqAccount.m0
  ·
   rw [if_neg c4] at H
   have c4b0 : (a0_1.toList == a1_1.toList) = false := beq_eq_false_iff_ne.mpr c4
   have c4b1 : (a0_1.toList != a1_1.toList) = true := bne_iff_ne.mpr c4
   obtain rfl := Option.some.inj H
   exact laws_eqAccount.m0
 ·
  rw [if_neg c3] at H
  have c3b0 : (a0_0.toList == a1_0.toList) = false := beq_eq_false_iff_ne.mpr c3
  have c3b1 : (a0_0.toList != a1_0.toList) = true := bne_iff_ne.mpr c3
  obtain rfl := Option.some.inj H
  exact laws_eqAccount.m0

/-! ### laws_eqAccountS: function 46 -/
def laws_eqAccountS.l0 : Nat → List (S81) → List (S81) → Int → Option (Bool)
 | 0, _, _, _ => none
 | k + 1, x0, x1, x5 => if x5 < (x0.length : Int) then (if 0 ≤ x5 then (if x5 < (x1.length : Int) then ((laws_eqAccount.f k ((rd_T81 x0 x5).f0) ((rd_T81 x0 x5).f1) ((rd_T81 x0 x5).f2) ((rd_T81 x0 x5).f3) ((rd_T81 x0 x5).f4) ((rd_T81 x0 x5).f5) ((rd_T81 x0 x5).f6) ((rd_T81 x1 x5).f0) ((rd_T81 x1 x5).f1) ((rd_T81 x1 x5).f2) ((rd_T81 x1 x5).f3) ((rd_T81 x1 x5).f4) ((rd_T81 x1 x5).f5) ((rd_T81 x1 x5).f6)).bind fun t375 => (if t375 = true then (laws_eqAccountS.l0 k x0 x1 (wrap64 (x5 + 1))) else (some false))) else (none)) else (none)) else (some true)
def laws_eqAccountS.f (k : Nat) (l0 : List (S81)) (l1 : List (S81)) : Option (Bool) := if (l0.length : Int) = (l1.length : Int) then (laws_eqAccountS.l0 k l0 l1 0) else (some false)
theorem laws_eqAccountS.mono_l : ∀ k, (∀ y0 y1 y2, LeO (laws_eqAccountS.l0 k y0 y1 y2) (laws_eqAccountS.l0 (k + 1) y0 y1 y2))
 | 0 => fun _ _ _ r h => by simp [laws_eqAccountS.l0] at h
 | k + 1 => by
  have ih0 := laws_eqAccountS.mono_l k
  ·
   intro y0 y1 y2
   unfold laws_eqAccountS.l0
   repeat' first
   | (with_reducible exact ih0 _ _ _)
   | (with_reducible exact laws_eqAccount.mono _ _ _ _ _ _ _ _ _ _ _ _ _ _ _)
   | (with_reducible exact LeO.refl _)
   | (with_reducible exact LeO.none _)
   | (with_reducible refine LeO.ite ?_ ?_)
   | (with_reducible refine LeO.bind ?_ (fun _ => ?_))
   | exact ih0 _ _ _
   | exact laws_eqAccount.mono _ _ _ _ _ _ _ _ _ _ _ _ _ _ _
   | exact LeO.none _
   | refine LeO.ite ?_ ?_
   | refine LeO.bind ?_ (fun _ => ?_)
theorem laws_eqAccountS.mono : ∀ a0 a1 k, LeO (laws_eqAccountS.f k a0 a1) (laws_eqAccountS.f (k + 1) a0 a1) := by
 intro a0 a1 k
 have ih0 := laws_eqAccountS.mono_l k
 unfold laws_eqAccountS.f
 repeat' first
   | (with_reducible exact ih0 _ _ _)
   | (with_reducible exact laws_eqAccount.mono _ _ _ _ _ _ _ _ _ _ _ _ _ _ _)
   | (with_reducible exact LeO.refl _)
   | (with_reducible exact LeO.none _)
   | (with_reducible refine LeO.ite ?_ ?_)
   | (with_reducible refine LeO.bind ?_ (fun _ => ?_))
   | exact ih0 _ _ _
   | exact laws_eqAccount.mono _ _ _ _ _ _ _ _ _ _ _ _ _ _ _
   | exact LeO.none _
   | refine LeO.ite ?_ ?_
   | refine LeO.bind ?_ (fun _ => ?_)
def laws_eqAccountS.T6 : Bool × List (List Nat × List Nat) := (true, [([], []), ([], []), ([0, 1], [0, 1]), ([2], [2]), ([], []), ([], []), ([4, 5], [4, 5]), ([6], [6]), ([3, 7], [3, 7]), ([8], [8])])
def laws_eqAccountS.B6 : List Nat := [0, 0, 3, 7, 0, 0, 48, 112, 255, 511]
theorem laws_eqAccountS.tab6 : rtab .any (opsOf Try.f46 6) = laws_eqAccountS.T6 := by kernel_rfl
theorem laws_eqAccountS.bits6 : waitsOk laws_eqAccountS.T6.2 laws_eqAccountS.B6 = true := by kernel_rfl
set_option maxHeartbeats 8000000 in
set_option maxRecDepth 100000 in
theorem laws_eqAccountS.calls (k : Nat) (A0 : Option Addr) (c0 : Nat) (l0 : List (S81)) (A1 : Option Addr) (c1 : Nat) (l1 : List (S81)) (r : Bool) (w : World) (hr0 : Kd.C k81 w A0 l0.length l0) (hc0 : l0.length ≤ c0) (hr1 : Kd.C k81 w A1 l1.length l1) (hc1 : l1.length ≤ c1) (h : laws_eqAccountS.f k l0 l1 = some r) :
  Calls Try.prog 46 #[.slice A0 l0.length c0, .slice A1 l1.length c1] w fun e w' => e = .returned (.bool r) ∧ Below w.heap.size w w' := by
 have hu81 := Try.underlying81
 have HR0 := Aside0.mk hr0
 have HC0 := Aside0.mk hc0
 clear hr0 hc0
 have HR1 := Aside0.mk hr1
 have HC1 := Aside0.mk hc1
 clear hr1 hc1
 have HB := Aside0.mk (Below.refl w.heap.size w)
 have H : (if (l0.length : Int) = (l1.length : Int) then (laws_eqAccountS.l0 k l0 l1 0) else (some false)) = some r := h
 clear h
 by_cases c3 : (l0.length : Int) = (l1.length : Int)
 ·
  rw [if_pos c3] at H
  have c3b0 : ((l0.length : Int) == (l1.length : Int)) = true := beq_iff_eq.mpr c3
  have c3b1 : ((l0.length : Int) != (l1.length : Int)) = false := bne_eq_false_iff_eq.mpr c3
  have c3b2 : (l0.length == l1.length) = true := by first | simpa using c3 | (simp at c3 ⊢; omega)
  clear c3
  have H' := Aside0.mk H
  clear H
  go_enter Try.func46, Try.ntmps46
  go_wp2
  go_loopg [5] k (fun kq v5 w' => ∃ (x5_1 : Int), v5 = .int .i64 x5_1 ∧ Aside0 (laws_eqAccountS.l0 kq l0 l1 x5_1 = some r) ∧ Aside0 (kq ≤ k) ∧ Aside0 (Below w.heap.size w w'))
  case atStart => exact ⟨(0), (by first | rfl | (simp; done) | (simp [*]; done)), H', ⟨Nat.le_refl _⟩, ⟨hbm⟩⟩
  case round =>
   clear H'
   try clear c1; try clear p2; try clear c3; try clear c3b0; try clear c3b1; try clear c3b2
   obtain ⟨x5_1, rfl, HA, HK1, HB⟩ := hrel
   cases gk with
   | zero => exact absurd HA.out (by simp [laws_eqAccountS.l0])
   | succ k1 =>
    have H := HA.out
    clear HA
    simp only [laws_eqAccountS.l0] at H
    by_cases c4 : x5_1 < (l0.length : Int)
    ·
     rw [if_pos c4] at H
     have c4b0 : decide (x5_1 < (l0.length : Int)) = true := decide_eq_true c4
     clear c4
     by_cases c5 : 0 ≤ x5_1
     ·
      rw [if_pos c5] at H
      have c5b0 : decide (0 ≤ x5_1) = true := decide_eq_true c5
      clear c5
      by_cases c6 : x5_1 < (l1.length : Int)
      ·
       rw [if_pos c6] at H
       have c6b0 : decide (x5_1 < (l1.length : Int)) = true := decide_eq_true c6
       clear c6
       replace H := Option.bind_eq_some_iff.mp H
       obtain ⟨t375, A70, H⟩ := H
       (try dsimp only at H)
       have A7 := Aside0.mk A70
       clear A70
       by_cases c8 : t375 = true
       ·
        subst c8
        have H1 : (laws_eqAccountS.l0 k1 l0 l1 (wrap64 (x5_1 + 1))) = some r := by rw [if_pos rfl] at H; exact H
        clear H
        have H := H1
        clear H1
        have H' := Aside0.mk H
        clear H
        try go_wp2
        have n0_ := Aside0.mk (below_drew1 HB.out)
        clear HB
        have HB := n0_
        clear n0_
        have p373 : 0 ≤ (x5_1 : Int) := of_decide_eq_true asm_
        have q373 : x5_1 < (l0.length : Int) := of_decide_eq_true asm_
        obtain ⟨ad373, A373_2, c373_2, e373, hx373_0, hx373_1, hx373_2, hx373_3, hx373_4, hx373_5, hx373_6, hl373_2, hi373_2⟩ := at_T81 HR0.out x5_1 p373 q373
        have hw373_6 := hx373_6
        have hw373_5 := hx373_5
        have hw373_4 := hx373_4
        have hw373_3 := hx373_3
        have hw373_2 := hx373_2
        have hw373_1 := hx373_1
        have hw373_0 := hx373_0
        cases e373
        replace hx373_0 := hcl HB hx373_0
        replace hx373_1 := hcl HB hx373_1
        replace hx373_2 := hcl HB hx373_2
        replace hx373_3 := hcl HB hx373_3
        replace hx373_4 := hcl HB hx373_4
        replace hx373_5 := hcl HB hx373_5
        replace hx373_6 := hcl HB hx373_6
        have HR373_2 := Aside0.mk hi373_2
        have HC373_2 := Aside0.mk hl373_2
        clear hi373_2 hl373_2
        replace p373 := eq_true p373
        replace q373 := eq_true q373
        have p374 : 0 ≤ (x5_1 : Int) := of_decide_eq_true asm_
        have q374 : x5_1 < (l1.length : Int) := of_decide_eq_true asm_
        obtain ⟨ad374, A374_2, c374_2, e374, hx374_0, hx374_1, hx374_2, hx374_3, hx374_4, hx374_5, hx374_6, hl374_2, hi374_2⟩ := at_T81 HR1.out x5_1 p374 q374
        have hw374_6 := hx374_6
        have hw374_5 := hx374_5
        have hw374_4 := hx374_4
        have hw374_3 := hx374_3
        have hw374_2 := hx374_2
        have hw374_1 := hx374_1
        have hw374_0 := hx374_0
        cases e374
        replace hx374_0 := hcl HB hx374_0
        replace hx374_1 := hcl HB hx374_1
        replace hx374_2 := hcl HB hx374_2
        replace hx374_3 := hcl HB hx374_3
        replace hx374_4 := hcl HB hx374_4
        replace hx374_5 := hcl HB hx374_5
        replace hx374_6 := hcl HB hx374_6
        have HR374_2 := Aside0.mk hi374_2
        have HC374_2 := Aside0.mk hl374_2
        clear hi374_2 hl374_2
        replace p374 := eq_true p374
        replace q374 := eq_true q374
        refine start_ (n := 10) (S := fun w' => w'.cell? (ad373.add ((x5_1).toNat * 7)) = some (.string ((rd_T81 l0 x5_1).f0)) ∧ w'.cell? ⟨(ad373.add ((x5_1).toNat * 7)).block, (ad373.add ((x5_1).toNat * 7)).off + 1, none⟩ = some (.string ((rd_T81 l0 x5_1).f1)) ∧ w'.cell? ⟨(ad373.add ((x5_1).toNat * 7)).block, (ad373.add ((x5_1).toNat * 7)).off + 2, none⟩ = some (.slice A373_2 ((rd_T81 l0 x5_1).f2).length c373_2) ∧ w'.cell? ⟨(ad373.add ((x5_1).toNat * 7)).block, (ad373.add ((x5_1).toNat * 7)).off + 3, none⟩ = some (.int .i64 ((rd_T81 l0 x5_1).f3)) ∧ w'.cell? ⟨(ad373.add ((x5_1).toNat * 7)).block, (ad373.add ((x5_1).toNat * 7)).off + 4, none⟩ = some (.int .i64 ((rd_T81 l0 x5_1).f4)) ∧ w'.cell? ⟨(ad373.add ((x5_1).toNat * 7)).block, (ad373.add ((x5_1).toNat * 7)).off + 5, none⟩ = some (.int .i64 ((rd_T81 l0 x5_1).f5)) ∧ w'.cell? ⟨(ad373.add ((x5_1).toNat * 7)).block, (ad373.add ((x5_1).toNat * 7)).off + 6, none⟩ = some (.bool ((rd_T81 l0 x5_1).f6)) ∧ w'.cell? (ad374.add ((x5_1).toNat * 7)) = some (.string ((rd_T81 l1 x5_1).f0)) ∧ w'.cell? ⟨(ad374.add ((x5_1).toNat * 7)).block, (ad374.add ((x5_1).toNat * 7)).off + 1, none⟩ = some (.string ((rd_T81 l1 x5_1).f1)) ∧ w'.cell? ⟨(ad374.add ((x5_1).toNat * 7)).block, (ad374.add ((x5_1).toNat * 7)).off + 2, none⟩ = some (.slice A374_2 ((rd_T81 l1 x5_1).f2).length c374_2) ∧ w'.cell? ⟨(ad374.add ((x5_1).toNat * 7)).block, (ad374.add ((x5_1).toNat * 7)).off + 3, none⟩ = some (.int .i64 ((rd_T81 l1 x5_1).f3)) ∧ w'.cell? ⟨(ad374.add ((x5_1).toNat * 7)).block, (ad374.add ((x5_1).toNat * 7)).off + 4, none⟩ = some (.int .i64 ((rd_T81 l1 x5_1).f4)) ∧ w'.cell? ⟨(ad374.add ((x5_1).toNat * 7)).block, (ad374.add ((x5_1).toNat * 7)).off + 5, none⟩ = some (.int .i64 ((rd_T81 l1 x5_1).f5)) ∧ w'.cell? ⟨(ad374.add ((x5_1).toNat * 7)).block, (ad374.add ((x5_1).toNat * 7)).off + 6, none⟩ = some (.bool ((rd_T81 l1 x5_1).f6))) (ds := []) #[false, false, false, false, false, false, false, false, false, false] (by kernel_rfl) rfl rfl ⟨((HB.out.cell (World.block_lt_of_cell? _ _ hw373_0)).trans hw373_0), ((HB.out.cell (World.block_lt_of_cell? _ _ hw373_1)).trans hw373_1), ((HB.out.cell (World.block_lt_of_cell? _ _ hw373_2)).trans hw373_2), ((HB.out.cell (World.block_lt_of_cell? _ _ hw373_3)).trans hw373_3), ((HB.out.cell (World.block_lt_of_cell? _ _ hw373_4)).trans hw373_4), ((HB.out.cell (World.block_lt_of_cell? _ _ hw373_5)).trans hw373_5), ((HB.out.cell (World.block_lt_of_cell? _ _ hw373_6)).trans hw373_6), ((HB.out.cell (World.block_lt_of_cell? _ _ hw374_0)).trans hw374_0), ((HB.out.cell (World.block_lt_of_cell? _ _ hw374_1)).trans hw374_1), ((HB.out.cell (World.block_lt_of_cell? _ _ hw374_2)).trans hw374_2), ((HB.out.cell (World.block_lt_of_cell? _ _ hw374_3)).trans hw374_3), ((HB.out.cell (World.block_lt_of_cell? _ _ hw374_4)).trans hw374_4), ((HB.out.cell (World.block_lt_of_cell? _ _ hw374_5)).trans hw374_5), ((HB.out.cell (World.block_lt_of_cell? _ _ hw374_6)).trans hw374_6)⟩ (fun hHeld => ?_); refine with_tabW laws_eqAccountS.tab6 laws_eqAccountS.bits6 (fun HT_ HW_ => ?_)
        generalize wr.drew = w9 at HB HR373_2 HR374_2 hx373_0 hx373_1 hx373_2 hx373_3 hx373_4 hx373_5 hx373_6 hx374_0 hx374_1 hx374_2 hx374_3 hx374_4 hx374_5 hx374_6 hHeld ⊢
        refine pur (i := 0) (N := some 17) #[true, false, false, false, false, false, false, false, false, false] (any_of HT_.out (by kernel_rfl)) ?_
        refine pur (i := 1) (N := some 18) #[true, true, false, false, false, false, false, false, false, false] (any_of HT_.out (by kernel_rfl)) ?_
        refine pur (i := 2) (N := some 19) #[true, true, true, false, false, false, false, false, false, false] (any_of HT_.out (by kernel_rfl)) ?_
        refine pur (i := 4) (N := some 21) #[true, true, true, false, true, false, false, false, false, false] (any_of HT_.out (by kernel_rfl)) ?_
        refine pur (i := 5) (N := some 22) #[true, true, true, false, true, true, false, false, false, false] (any_of HT_.out (by kernel_rfl)) ?_
        refine pur (i := 6) (N := some 23) #[true, true, true, false, true, true, true, false, false, false] (any_of HT_.out (by kernel_rfl)) ?_
        refine tak14 (i := 3) (N := some 20) #[true, true, true, true, true, true, true, false, false, false] (take_ofW HT_.out HW_.out (by kernel_rfl)) hHeld ?_
        refine tak14 (i := 7) (N := some 24) #[true, true, true, true, true, true, true, true, false, false] (take_ofW HT_.out HW_.out (by kernel_rfl)) hHeld ?_
        refine one_ (i := 8) (N := some 25) #[true, true, true, true, true, true, true, true, true, false] rfl rfl (one_of HT_.out (by kernel_rfl)) (by decide) (fun K hK => ?_)
        refine goes_ Try.func80 (by kernel_rfl) rfl #[.agg #[.string ((rd_T81 l0 x5_1).f0), .string ((rd_T81 l0 x5_1).f1), .slice A373_2 ((rd_T81 l0 x5_1).f2).length c373_2, .int .i64 ((rd_T81 l0 x5_1).f3), .int .i64 ((rd_T81 l0 x5_1).f4), .int .i64 ((rd_T81 l0 x5_1).f5), .bool ((rd_T81 l0 x5_1).f6)], .agg #[.string ((rd_T81 l1 x5_1).f0), .string ((rd_T81 l1 x5_1).f1), .slice A374_2 ((rd_T81 l1 x5_1).f2).length c374_2, .int .i64 ((rd_T81 l1 x5_1).f3), .int .i64 ((rd_T81 l1 x5_1).f4), .int .i64 ((rd_T81 l1 x5_1).f5), .bool ((rd_T81 l1 x5_1).f6)]] (by rfl) rfl rfl glm ?_
        with_reducible refine (laws_eqAccount.calls k1 ((rd_T81 l0 x5_1).f0) ((rd_T81 l0 x5_1).f1) _ _ ((rd_T81 l0 x5_1).f2) ((rd_T81 l0 x5_1).f3) ((rd_T81 l0 x5_1).f4) ((rd_T81 l0 x5_1).f5) ((rd_T81 l0 x5_1).f6) ((rd_T81 l1 x5_1).f0) ((rd_T81 l1 x5_1).f1) _ _ ((rd_T81 l1 x5_1).f2) ((rd_T81 l1 x5_1).f3) ((rd_T81 l1 x5_1).f4) ((rd_T81 l1 x5_1).f5) ((rd_T81 l1 x5_1).f6) true _ ?side1 ?side2 ?side3 ?side4 A7.out).mono ?_
        (case side1 => exact csb (Kd.C_below HR373_2.out HB.out))
        (case side2 => exact HC373_2.out)
        (case side3 => exact csb (Kd.C_below HR374_2.out HB.out))
        (case side4 => exact HC374_2.out)
        rintro e w10 ⟨rfl, hb⟩
        refine ⟨_, rfl, ?_⟩
        have n0_ := bst hb
        clear HB
        have HB := n0_
        clear n0_
        (try clear hb)
        (try clear hb2)
        (try clear hk)
        (try clear hi)
        refine hK.out _ _ ⟨((HB.out.cell (World.block_lt_of_cell? _ _ hw373_0)).trans hw373_0), ((HB.out.cell (World.block_lt_of_cell? _ _ hw373_1)).trans hw373_1), ((HB.out.cell (World.block_lt_of_cell? _ _ hw373_2)).trans hw373_2), ((HB.out.cell (World.block_lt_of_cell? _ _ hw373_3)).trans hw373_3), ((HB.out.cell (World.block_lt_of_cell? _ _ hw373_4)).trans hw373_4), ((HB.out.cell (World.block_lt_of_cell? _ _ hw373_5)).trans hw373_5), ((HB.out.cell (World.block_lt_of_cell? _ _ hw373_6)).trans hw373_6), ((HB.out.cell (World.block_lt_of_cell? _ _ hw374_0)).trans hw374_0), ((HB.out.cell (World.block_lt_of_cell? _ _ hw374_1)).trans hw374_1), ((HB.out.cell (World.block_lt_of_cell? _ _ hw374_2)).trans hw374_2), ((HB.out.cell (World.block_lt_of_cell? _ _ hw374_3)).trans hw374_3), ((HB.out.cell (World.block_lt_of_cell? _ _ hw374_4)).trans hw374_4), ((HB.out.cell (World.block_lt_of_cell? _ _ hw374_5)).trans hw374_5), ((HB.out.cell (World.block_lt_of_cell? _ _ hw374_6)).trans hw374_6)⟩ (fun hHeld => ?_)
        clear hK K
        refine norm_ (a' := ?_) ?_ ?_
        rotate_left
        ·
         show Act.put _ (some 25) _ = _
         simp only [Act.put, List.setIfInBounds_toArray, List.set_cons_zero, List.set_cons_succ, i64_w, i32_w]
         rfl
        refine pur (i := 9) (N := some 26) #[true, true, true, true, true, true, true, true, true, true] (any_of HT_.out (by kernel_rfl)) ?_
        refine done_ (done_of HT_.out (by kernel_rfl)) ?_
        try go_wp2
        go_roundg k1
        case measure => have := HK1.out; omega
        case rel => exact ⟨(wrap64 (x5_1 + 1)), (by first | rfl | (simp; done) | (simp [*]; done)), H', ⟨by have := HK1.out; omega⟩, ⟨hbm⟩⟩
       ·
        replace c8 := Bool.eq_false_iff.mpr c8
        subst c8
        have H1 : (some false) = some r := by rw [if_neg (show ¬ (false = true) by decide)] at H; exact H
        clear H
        have H := H1
        clear H1
        obtain rfl := Option.some.inj H
        try go_wp2
        have n0_ := Aside0.mk (below_drew1 HB.out)
        clear HB
        have HB := n0_
        clear n0_
        have p373 : 0 ≤ (x5_1 : Int) := of_decide_eq_true asm_
        have q373 : x5_1 < (l0.length : Int) := of_decide_eq_true asm_
        obtain ⟨ad373, A373_2, c373_2, e373, hx373_0, hx373_1, hx373_2, hx373_3, hx373_4, hx373_5, hx373_6, hl373_2, hi373_2⟩ := at_T81 HR0.out x5_1 p373 q373
        have hw373_6 := hx373_6
        have hw373_5 := hx373_5
        have hw373_4 := hx373_4
        have hw373_3 := hx373_3
        have hw373_2 := hx373_2
        have hw373_1 := hx373_1
        have hw373_0 := hx373_0
        cases e373
        replace hx373_0 := hcl HB hx373_0
        replace hx373_1 := hcl HB hx373_1
        replace hx373_2 := hcl HB hx373_2
        replace hx373_3 := hcl HB hx373_3
        replace hx373_4 := hcl HB hx373_4
        replace hx373_5 := hcl HB hx373_5
        replace hx373_6 := hcl HB hx373_6
        have HR373_2 := Aside0.mk hi373_2
        have HC373_2 := Aside0.mk hl373_2
        clear hi373_2 hl373_2
        replace p373 := eq_true p373
        replace q373 := eq_true q373
        have p374 : 0 ≤ (x5_1 : Int) := of_decide_eq_true asm_
        have q374 : x5_1 < (l1.length : Int) := of_decide_eq_true asm_
        obtain ⟨ad374, A374_2, c374_2, e374, hx374_0, hx374_1, hx374_2, hx374_3, hx374_4, hx374_5, hx374_6, hl374_2, hi374_2⟩ := at_T81 HR1.out x5_1 p374 q374
        have hw374_6 := hx374_6
        have hw374_5 := hx374_5
        have hw374_4 := hx374_4
        have hw374_3 := hx374_3
        have hw374_2 := hx374_2
        have hw374_1 := hx374_1
        have hw374_0 := hx374_0
        cases e374
        replace hx374_0 := hcl HB hx374_0
        replace hx374_1 := hcl HB hx374_1
        replace hx374_2 := hcl HB hx374_2
        replace hx374_3 := hcl HB hx374_3
        replace hx374_4 := hcl HB hx374_4
        replace hx374_5 := hcl HB hx374_5
        replace hx374_6 := hcl HB hx374_6
        have HR374_2 := Aside0.mk hi374_2
        have HC374_2 := Aside0.mk hl374_2
        clear hi374_2 hl374_2
        replace p374 := eq_true p374
        replace q374 := eq_true q374
        refine start_ (n := 10) (S := fun w' => w'.cell? (ad373.add ((x5_1).toNat * 7)) = some (.string ((rd_T81 l0 x5_1).f0)) ∧ w'.cell? ⟨(ad373.add ((x5_1).toNat * 7)).block, (ad373.add ((x5_1).toNat * 7)).off + 1, none⟩ = some (.string ((rd_T81 l0 x5_1).f1)) ∧ w'.cell? ⟨(ad373.add ((x5_1).toNat * 7)).block, (ad373.add ((x5_1).toNat * 7)).off + 2, none⟩ = some (.slice A373_2 ((rd_T81 l0 x5_1).f2).length c373_2) ∧ w'.cell? ⟨(ad373.add ((x5_1).toNat * 7)).block, (ad373.add ((x5_1).toNat * 7)).off + 3, none⟩ = some (.int .i64 ((rd_T81 l0 x5_1).f3)) ∧ w'.cell? ⟨(ad373.add ((x5_1).toNat * 7)).block, (ad373.add ((x5_1).toNat * 7)).off + 4, none⟩ = some (.int .i64 ((rd_T81 l0 x5_1).f4)) ∧ w'.cell? ⟨(ad373.add ((x5_1).toNat * 7)).block, (ad373.add ((x5_1).toNat * 7)).off + 5, none⟩ = some (.int .i64 ((rd_T81 l0 x5_1).f5)) ∧ w'.cell? ⟨(ad373.add ((x5_1).toNat * 7)).block, (ad373.add ((x5_1).toNat * 7)).off + 6, none⟩ = some (.bool ((rd_T81 l0 x5_1).f6)) ∧ w'.cell? (ad374.add ((x5_1).toNat * 7)) = some (.string ((rd_T81 l1 x5_1).f0)) ∧ w'.cell? ⟨(ad374.add ((x5_1).toNat * 7)).block, (ad374.add ((x5_1).toNat * 7)).off + 1, none⟩ = some (.string ((rd_T81 l1 x5_1).f1)) ∧ w'.cell? ⟨(ad374.add ((x5_1).toNat * 7)).block, (ad374.add ((x5_1).toNat * 7)).off + 2, none⟩ = some (.slice A374_2 ((rd_T81 l1 x5_1).f2).length c374_2) ∧ w'.cell? ⟨(ad374.add ((x5_1).toNat * 7)).block, (ad374.add ((x5_1).toNat * 7)).off + 3, none⟩ = some (.int .i64 ((rd_T81 l1 x5_1).f3)) ∧ w'.cell? ⟨(ad374.add ((x5_1).toNat * 7)).block, (ad374.add ((x5_1).toNat * 7)).off + 4, none⟩ = some (.int .i64 ((rd_T81 l1 x5_1).f4)) ∧ w'.cell? ⟨(ad374.add ((x5_1).toNat * 7)).block, (ad374.add ((x5_1).toNat * 7)).off + 5, none⟩ = some (.int .i64 ((rd_T81 l1 x5_1).f5)) ∧ w'.cell? ⟨(ad374.add ((x5_1).toNat * 7)).block, (ad374.add ((x5_1).toNat * 7)).off + 6, none⟩ = some (.bool ((rd_T81 l1 x5_1).f6))) (ds := []) #[false, false, false, false, false, false, false, false, false, false] (by kernel_rfl) rfl rfl ⟨((HB.out.cell (World.block_lt_of_cell? _ _ hw373_0)).trans hw373_0), ((HB.out.cell (World.block_lt_of_cell? _ _ hw373_1)).trans hw373_1), ((HB.out.cell (World.block_lt_of_cell? _ _ hw373_2)).trans hw373_2), ((HB.out.cell (World.block_lt_of_cell? _ _ hw373_3)).trans hw373_3), ((HB.out.cell (World.block_lt_of_cell? _ _ hw373_4)).trans hw373_4), ((HB.out.cell (World.block_lt_of_cell? _ _ hw373_5)).trans hw373_5), ((HB.out.cell (World.block_lt_of_cell? _ _ hw373_6)).trans hw373_6), ((HB.out.cell (World.block_lt_of_cell? _ _ hw374_0)).trans hw374_0), ((HB.out.cell (World.block_lt_of_cell? _ _ hw374_1)).trans hw374_1), ((HB.out.cell (World.block_lt_of_cell? _ _ hw374_2)).trans hw374_2), ((HB.out.cell (World.block_lt_of_cell? _ _ hw374_3)).trans hw374_3), ((HB.out.cell (World.block_lt_of_cell? _ _ hw374_4)).trans hw374_4), ((HB.out.cell (World.block_lt_of_cell? _ _ hw374_5)).trans hw374_5), ((HB.out.cell (World.block_lt_of_cell? _ _ hw374_6)).trans hw374_6)⟩ (fun hHeld => ?_); refine with_tabW laws_eqAccountS.tab6 laws_eqAccountS.bits6 (fun HT_ HW_ => ?_)
        generalize wr.drew = w11 at HB HR373_2 HR374_2 hx373_0 hx373_1 hx373_2 hx373_3 hx373_4 hx373_5 hx373_6 hx374_0 hx374_1 hx374_2 hx374_3 hx374_4 hx374_5 hx374_6 hHeld ⊢
        refine pur (i := 0) (N := some 17) #[true, false, false, false, false, false, false, false, false, false] (any_of HT_.out (by kernel_rfl)) ?_
        refine pur (i := 1) (N := some 18) #[true, true, false, false, false, false, false, false, false, false] (any_of HT_.out (by kernel_rfl)) ?_
        refine pur (i := 2) (N := some 19) #[true, true, true, false, false, false, false, false, false, false] (any_of HT_.out (by kernel_rfl)) ?_
        refine pur (i := 4) (N := some 21) #[true, true, true, false, true, false, false, false, false, false] (any_of HT_.out (by kernel_rfl)) ?_
        refine pur (i := 5) (N := some 22) #[true, true, true, false, true, true, false, false, false, false] (any_of HT_.out (by kernel_rfl)) ?_
        refine pur (i := 6) (N := some 23) #[true, true, true, false, true, true, true, false, false, false] (any_of HT_.out (by kernel_rfl)) ?_
        refine tak14 (i := 3) (N := some 20) #[true, true, true, true, true, true, true, false, false, false] (take_ofW HT_.out HW_.out (by kernel_rfl)) hHeld ?_
        refine tak14 (i := 7) (N := some 24) #[true, true, true, true, true, true, true, true, false, false] (take_ofW HT_.out HW_.out (by kernel_rfl)) hHeld ?_
        refine one_ (i := 8) (N := some 25) #[true, true, true, true, true, true, true, true, true, false] rfl rfl (one_of HT_.out (by kernel_rfl)) (by decide) (fun K hK => ?_)
        refine goes_ Try.func80 (by kernel_rfl) rfl #[.agg #[.string ((rd_T81 l0 x5_1).f0), .string ((rd_T81 l0 x5_1).f1), .slice A373_2 ((rd_T81 l0 x5_1).f2).length c373_2, .int .i64 ((rd_T81 l0 x5_1).f3), .int .i64 ((rd_T81 l0 x5_1).f4), .int .i64 ((rd_T81 l0 x5_1).f5), .bool ((rd_T81 l0 x5_1).f6)], .agg #[.string ((rd_T81 l1 x5_1).f0), .string ((rd_T81 l1 x5_1).f1), .slice A374_2 ((rd_T81 l1 x5_1).f2).length c374_2, .int .i64 ((rd_T81 l1 x5_1).f3), .int .i64 ((rd_T81 l1 x5_1).f4), .int .i64 ((rd_T81 l1 x5_1).f5), .bool ((rd_T81 l1 x5_1).f6)]] (by rfl) rfl rfl glm ?_
        with_reducible refine (laws_eqAccount.calls k1 ((rd_T81 l0 x5_1).f0) ((rd_T81 l0 x5_1).f1) _ _ ((rd_T81 l0 x5_1).f2) ((rd_T81 l0 x5_1).f3) ((rd_T81 l0 x5_1).f4) ((rd_T81 l0 x5_1).f5) ((rd_T81 l0 x5_1).f6) ((rd_T81 l1 x5_1).f0) ((rd_T81 l1 x5_1).f1) _ _ ((rd_T81 l1 x5_1).f2) ((rd_T81 l1 x5_1).f3) ((rd_T81 l1 x5_1).f4) ((rd_T81 l1 x5_1).f5) ((rd_T81 l1 x5_1).f6) false _ ?side1 ?side2 ?side3 ?side4 A7.out).mono ?_
        (case side1 => exact csb (Kd.C_below HR373_2.out HB.out))
        (case side2 => exact HC373_2.out)
        (case side3 => exact csb (Kd.C_below HR374_2.out HB.out))
        (case side4 => exact HC374_2.out)
        rintro e w12 ⟨rfl, hb⟩
        refine ⟨_, rfl, ?_⟩
        have n0_ := bst hb
        clear HB
        have HB := n0_
        clear n0_
        (try clear hb)
        (try clear hb2)
        (try clear hk)
        (try clear hi)
        refine hK.out _ _ ⟨((HB.out.cell (World.block_lt_of_cell? _ _ hw373_0)).trans hw373_0), ((HB.out.cell (World.block_lt_of_cell? _ _ hw373_1)).trans hw373_1), ((HB.out.cell (World.block_lt_of_cell? _ _ hw373_2)).trans hw373_2), ((HB.out.cell (World.block_lt_of_cell? _ _ hw373_3)).trans hw373_3), ((HB.out.cell (World.block_lt_of_cell? _ _ hw373_4)).trans hw373_4), ((HB.out.cell (World.block_lt_of_cell? _ _ hw373_5)).trans hw373_5), ((HB.out.cell (World.block_lt_of_cell? _ _ hw373_6)).trans hw373_6), ((HB.out.cell (World.block_lt_of_cell? _ _ hw374_0)).trans hw374_0), ((HB.out.cell (World.block_lt_of_cell? _ _ hw374_1)).trans hw374_1), ((HB.out.cell (World.block_lt_of_cell? _ _ hw374_2)).trans hw374_2), ((HB.out.cell (World.block_lt_of_cell? _ _ hw374_3)).trans hw374_3), ((HB.out.cell (World.block_lt_of_cell? _ _ hw374_4)).trans hw374_4), ((HB.out.cell (World.block_lt_of_cell? _ _ hw374_5)).trans hw374_5), ((HB.out.cell (World.block_lt_of_cell? _ _ hw374_6)).trans hw374_6)⟩ (fun hHeld => ?_)
        clear hK K
        refine norm_ (a' := ?_) ?_ ?_
        rotate_left
        ·
         show Act.put _ (some 25) _ = _
         simp only [Act.put, List.setIfInBounds_toArray, List.set_cons_zero, List.set_cons_succ, i64_w, i32_w]
         rfl
        refine pur (i := 9) (N := some 26) #[true, true, true, true, true, true, true, true, true, true] (any_of HT_.out (by kernel_rfl)) ?_
        refine done_ (done_of HT_.out (by kernel_rfl)) ?_
        try go_wp2
        go_ret
        exact ⟨rfm, hbm⟩
      ·
       rw [if_neg c6] at H
       exact absurd H (by simp)
     ·
      rw [if_neg c5] at H
      exact absurd H (by simp)
    ·
     rw [if_neg c4] at H
     have c4b0 : decide (x5_1 < (l0.length : Int)) = false := decide_eq_false c4
     clear c4
     obtain rfl := Option.some.inj H
     go_wp2
     go_ret
     exact ⟨rfm, hbm⟩
 ·
  rw [if_neg c3] at H
  have c3b0 : ((l0.length : Int) == (l1.length : Int)) = false := beq_eq_false_iff_ne.mpr c3
  have c3b1 : ((l0.length : Int) != (l1.length : Int)) = true := bne_iff_ne.mpr c3
  have c3b2 : (l0.length == l1.length) = false := by first | simpa using c3 | (simp at c3 ⊢; omega)
  obtain rfl := Option.some.inj H
  go_enter Try.func46, Try.ntmps46
  go_wp2
  go_ret
  exact ⟨rfm, hbm⟩

/-! ### laws_eqSpot: function 126 -/
def laws_eqSpot.f (a0_0 : ByteArray) (a0_1 : ByteArray) (a1_0 : ByteArray) (a1_1 : ByteArray) : Option (Bool) := if a0_0.toList = a1_0.toList then (if a0_1.toList = a1_1.toList then (some true) else (some false)) else (some false)
theorem laws_eqSpot.m0 {P : Prop} (h : P := by
  go_enter Try.func126, Try.ntmps126
  go_wp2_with (first | ((with_reducible refine gate_dst (N := 2) rfl ?_); refine bxe (N := 2) (cs := #[.string a0_0, .string a0_1]) (t := 91) ?_; intro gb376 hg wq1 hbox hb; have n0_ := bst hb; have n1_ := Aside0.mk (hbox); have n2_ := (bsz hg : Aside0 (w.heap.size ≤ gb376)); have n3_ := n2_; clear HB; have HB := n0_; have BK376 := n1_; have GW376 := n2_; have GE376 := n3_; clear n0_ n1_ n2_ n3_; clear hb hbox hg) | ((with_reducible refine gate_dst (N := 3) rfl ?_); refine bxe (N := 3) (cs := #[.string a1_0, .string a1_1]) (t := 91) ?_; intro gb377 hg wq1 hbox hb; have n0_ := bkb BK376 hb; have n1_ := bst hb; have n2_ := Aside0.mk (hbox); have n3_ := (bsz hg : Aside0 (w.heap.size ≤ gb377)); have n4_ := n3_; have n5_ := (bkn BK376 hg : Aside0 (gb376 ≠ gb377)); have n6_ := Aside0.mk n5_.out.symm; clear BK376; clear HB; have BK376 := n0_; have HB := n1_; have BK377 := n2_; have GW377 := n3_; have GE377 := n4_; have NB376_377 := n5_; have NB377_376 := n6_; clear n0_ n1_ n2_ n3_ n4_ n5_ n6_; clear hb hbox hg; have hnbq1 := NB376_377.out; have hncq1 := NB377_376.out; obtain ⟨hczq1_0, hczq1_1, hfzq1_0, hfzq1_1⟩ := bc2 BK376.out; obtain ⟨hczq2_0, hczq2_1, hfzq2_0, hfzq2_1⟩ := bc2 BK377.out))
  go_ret
  exact ⟨rfm, hbm⟩) : P := h
set_option maxHeartbeats 8000000 in
set_option maxRecDepth 100000 in
theorem laws_eqSpot.calls (a0_0 : ByteArray) (a0_1 : ByteArray) (a1_0 : ByteArray) (a1_1 : ByteArray) (r : Bool) (w : World) (h : laws_eqSpot.f a0_0 a0_1 a1_0 a1_1 = some r) :
  Calls Try.prog 126 #[.agg #[.string a0_0, .string a0_1], .agg #[.string a1_0, .string a1_1]] w fun e w' => e = .returned (.bool r) ∧ Below w.heap.size w w' := by
 have hu91 := Try.underlying91
 have HB := Aside0.mk (Below.refl w.heap.size w)
 have H : (if a0_0.toList = a1_0.toList then (if a0_1.toList = a1_1.toList then (some true) else (some false)) else (some false)) = some r := h
 clear h
 by_cases c3 : a0_0.toList = a1_0.toList
 ·
  rw [if_pos c3] at H
  have c3b0 : (a0_0.toList == a1_0.toList) = true := beq_iff_eq.mpr c3
  have c3b1 : (a0_0.toList != a1_0.toList) = false := bne_eq_false_iff_eq.mpr c3
  clear c3
  by_cases c4 : a0_1.toList = a1_1.toList
  ·
   rw [if_pos c4] at H
   have c4b0 : (a0_1.toList == a1_1.toList) = true := beq_iff_eq.mpr c4
   have c4b1 : (a0_1.toList != a1_1.toList) = false := bne_eq_false_iff_eq.mpr c4
   clear c4
   obtain rfl := Option.some.inj H
   exact laws_eqSpot.m0
  ·
   rw [if_neg c4] at H
   have c4b0 : (a0_1.toList == a1_1.toList) = false := beq_eq_false_iff_ne.mpr c4
   have c4b1 : (a0_1.toList != a1_1.toList) = true := bne_iff_ne.mpr c4
   obtain rfl := Option.some.inj H
   exact laws_eqSpot.m0
 ·
  rw [if_neg c3] at H
  have c3b0 : (a0_0.toList == a1_0.toList) = false := beq_eq_false_iff_ne.mpr c3
  have c3b1 : (a0_0.toList != a1_0.toList) = true := bne_iff_ne.mpr c3
  obtain rfl := Option.some.inj H
  exact laws_eqSpot.m0

/-! ### laws_eqLine: function 106 -/
def laws_eqLine.f (a0_0 : ByteArray) (a0_1 : ByteArray) (a0_2 : Int) (a1_0 : ByteArray) (a1_1 : ByteArray) (a1_2 : Int) : Option (Bool) := (laws_eqSpot.f a0_0 a0_1 a1_0 a1_1).bind fun t380 => (if t380 = true then (if a0_2 = a1_2 then (some true) else (some false)) else (some false))
theorem laws_eqLine.m0 {P : Prop} (h : P := by
  go_enter Try.func106, Try.ntmps106
  go_wp2_with (first | ((with_reducible refine gate_dst (N := 2) rfl ?_); refine bxe (N := 2) (cs := #[.string a0_0, .string a0_1, .int .i64 a0_2]) (t := 93) ?_; intro gb378 hg wq1 hbox hb; have n0_ := bst hb; have n1_ := Aside0.mk (hbox); have n2_ := (bsz hg : Aside0 (w.heap.size ≤ gb378)); have n3_ := n2_; clear HB; have HB := n0_; have BK378 := n1_; have GW378 := n2_; have GE378 := n3_; clear n0_ n1_ n2_ n3_; clear hb hbox hg) | ((with_reducible refine gate_dst (N := 3) rfl ?_); refine bxe (N := 3) (cs := #[.string a1_0, .string a1_1, .int .i64 a1_2]) (t := 93) ?_; intro gb379 hg wq1 hbox hb; have n0_ := bkb BK378 hb; have n1_ := bst hb; have n2_ := Aside0.mk (hbox); have n3_ := (bsz hg : Aside0 (w.heap.size ≤ gb379)); have n4_ := n3_; have n5_ := (bkn BK378 hg : Aside0 (gb378 ≠ gb379)); have n6_ := Aside0.mk n5_.out.symm; clear BK378; clear HB; have BK378 := n0_; have HB := n1_; have BK379 := n2_; have GW379 := n3_; have GE379 := n4_; have NB378_379 := n5_; have NB379_378 := n6_; clear n0_ n1_ n2_ n3_ n4_ n5_ n6_; clear hb hbox hg; have hnbq1 := NB378_379.out; have hncq1 := NB379_378.out; obtain ⟨hczq1_0, hczq1_1, hczq1_2, hfzq1_0, hfzq1_1, hfzq1_2⟩ := bc3 BK378.out; obtain ⟨hczq2_0, hczq2_1, hczq2_2, hfzq2_0, hfzq2_1, hfzq2_2⟩ := bc3 BK379.out) | ((with_reducible refine gate_callee (f := 126) rfl ?_); refine goesL_ (some 9) rfl rfl Try.func126 (by kernel_rfl) rfl #[.agg #[.string a0_0, .string a0_1], .agg #[.string a1_0, .string a1_1]] rfl glm ?_; (with_reducible refine (laws_eqSpot.calls a0_0 a0_1 a1_0 a1_1 false _ A3.out).mono ?_); rintro e wq1 ⟨rfl, hb⟩; refine ⟨_, rfl, ?_⟩; have n0_ := bkb BK378 hb; have n1_ := bkb BK379 hb; have n2_ := bst hb; clear BK378; clear BK379; clear HB; have BK378 := n0_; have BK379 := n1_; have HB := n2_; clear n0_ n1_ n2_; (try clear hb); (try clear hb2); (try clear hk); (try clear hi)) | ((with_reducible refine gate_callee (f := 126) rfl ?_); refine goesL_ (some 9) rfl rfl Try.func126 (by kernel_rfl) rfl #[.agg #[.string a0_0, .string a0_1], .agg #[.string a1_0, .string a1_1]] rfl glm ?_; (with_reducible refine (laws_eqSpot.calls a0_0 a0_1 a1_0 a1_1 true _ A3.out).mono ?_); rintro e wq1 ⟨rfl, hb⟩; refine ⟨_, rfl, ?_⟩; have n0_ := bkb BK378 hb; have n1_ := bkb BK379 hb; have n2_ := bst hb; clear BK378; clear BK379; clear HB; have BK378 := n0_; have BK379 := n1_; have HB := n2_; clear n0_ n1_ n2_; (try clear hb); (try clear hb2); (try clear hk); (try clear hi); obtain ⟨hczq1_0, hczq1_1, hczq1_2, hfzq1_0, hfzq1_1, hfzq1_2⟩ := bc3 BK378.out; obtain ⟨hczq2_0, hczq2_1, hczq2_2, hfzq2_0, hfzq2_1, hfzq2_2⟩ := bc3 BK379.out))
  go_ret
  exact ⟨rfm, hbm⟩) : P := h
set_option maxHeartbeats 8000000 in
set_option maxRecDepth 100000 in
theorem laws_eqLine.calls (a0_0 : ByteArray) (a0_1 : ByteArray) (a0_2 : Int) (a1_0 : ByteArray) (a1_1 : ByteArray) (a1_2 : Int) (r : Bool) (w : World) (h : laws_eqLine.f a0_0 a0_1 a0_2 a1_0 a1_1 a1_2 = some r) :
  Calls Try.prog 106 #[.agg #[.string a0_0, .string a0_1, .int .i64 a0_2], .agg #[.string a1_0, .string a1_1, .int .i64 a1_2]] w fun e w' => e = .returned (.bool r) ∧ Below w.heap.size w w' := by
 have hu93 := Try.underlying93
 have hu91 := Try.underlying91
 have HB := Aside0.mk (Below.refl w.heap.size w)
 have H : ((laws_eqSpot.f a0_0 a0_1 a1_0 a1_1).bind fun t380 => (if t380 = true then (if a0_2 = a1_2 then (some true) else (some false)) else (some false))) = some r := h
 clear h
 replace H := Option.bind_eq_some_iff.mp H
 obtain ⟨t380, A30, H⟩ := H
 (try dsimp only at H)
 have A3 := Aside0.mk A30
 clear A30
 by_cases c4 : t380 = true
 ·
  subst c4
  have H1 : (if a0_2 = a1_2 then (some true) else (some false)) = some r := by rw [if_pos rfl] at H; exact H
  clear H
  have H := H1
  clear H1
  by_cases c5 : a0_2 = a1_2
  ·
   rw [if_pos c5] at H
   have c5b0 : (a0_2 == a1_2) = true := beq_iff_eq.mpr c5
   have c5b1 : (a0_2 != a1_2) = false := bne_eq_false_iff_eq.mpr c5
   clear c5
   obtain rfl := Option.some.inj H
   exact laws_eqLine.m0
  ·
   rw [if_neg c5] at H
   have c5b0 : (a0_2 == a1_2) = false := beq_eq_false_iff_ne.mpr c5
   have c5b1 : (a0_2 != a1_2) = true := bne_iff_ne.mpr c5
   obtain rfl := Option.some.inj H
   exact laws_eqLine.m0
 ·
  replace c4 := Bool.eq_false_iff.mpr c4
  subst c4
  have H1 : (some false) = some r := by rw [if_neg (show ¬ (false = true) by decide)] at H; exact H
  clear H
  have H := H1
  clear H1
  obtain rfl := Option.some.inj H
  exact laws_eqLine.m0

end Go.Proofs.Ytidlcolgiololaa.S
