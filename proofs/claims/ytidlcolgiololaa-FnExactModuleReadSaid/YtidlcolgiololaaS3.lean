/- Proved: each Go function named here answers as its plain Lean function says, in whatever memory; no condition. Written by a program of this session over the print of the kit. -/
import Derived.Test.YtidlcolgiololaaSq
import Derived.Test.YtidlcolgiololaaS0
import Derived.Test.YtidlcolgiololaaS2
namespace Go.Proofs.Ytidlcolgiololaa.S
open Go.RowKit Go.Proofs.YtidlcolgiololaaW.PrintWords Go.Proofs.YtidlcolgiololaaW.PrintLast Go.Proofs.YtidlcolgiololaaW.PrintMore
attribute [local go_sem] max2_int min2_int max_two min_two max_three min_three max_four min_four   -- for this text's walks alone
set_option linter.unusedVariables false
set_option linter.unusedSimpArgs false

/-! ### spec_InsRight: function 62 -/
mutual
def spec_InsRight.j0 : Nat → Bool → Int → Int → Int → Int → List (S64) → Int → Int → Int → Option (Bool)
 | 0, _, _, _, _, _, _, _, _, _ => none
 | k + 1, x12, x107000, x107001, x107002, x107003, x107004, x108000, x108001, x108002 => if x12 = true then (some false) else (if x108000 = 2 then ((spec_MoneyRight.f x108001).bind fun t108 => (some t108)) else (if x108000 = 3 then (spec_InsRight.j1 k x108000 (x108000 == 3) x107000 x107001 x107002 x107003 x107004 x108000 x108001 x108002) else (spec_InsRight.j1 k x108000 (x108000 == 4) x107000 x107001 x107002 x107003 x107004 x108000 x108001 x108002)))
def spec_InsRight.j1 : Nat → Int → Bool → Int → Int → Int → Int → List (S64) → Int → Int → Int → Option (Bool)
 | 0, _, _, _, _, _, _, _, _, _, _ => none
 | k + 1, x14, x20, x107000, x107001, x107002, x107003, x107004, x108000, x108001, x108002 => if x20 = true then ((spec_l10In.f x108001 0 49).bind fun t109 => (some t109)) else (if x14 = 5 then (if x108001 ≥ 0 then (some (decide (x108001 < x107003))) else (some false)) else (if x14 = 6 then (if x108001 ≥ 0 then (some (decide (x108001 < x107001))) else (some false)) else (if x14 = 20 then ((spec_l10In.f x108001 1 7).bind fun t110 => (some t110)) else (if x14 = 21 then (spec_InsRight.j2 k x14 (x14 == 21) x107000 x107001 x107002 x107003 x107004 x108000 x108001 x108002) else (spec_InsRight.j2 k x14 (x14 == 22) x107000 x107001 x107002 x107003 x107004 x108000 x108001 x108002)))))
def spec_InsRight.j2 : Nat → Int → Bool → Int → Int → Int → Int → List (S64) → Int → Int → Int → Option (Bool)
 | 0, _, _, _, _, _, _, _, _, _, _ => none
 | k + 1, x14, x55, x107000, x107001, x107002, x107003, x107004, x108000, x108001, x108002 => if x55 = true then (if x108001 ≥ 0 then (some (decide (x108001 < (x107004.length : Int)))) else (some false)) else (if x14 = 23 then (if x108001 ≥ 0 then (if x108001 < x107002 then (if x108002 ≥ 0 then (some (decide (x108002 < x107002))) else (some false)) else (some false)) else (some false)) else (if x14 = 24 then ((spec_l10In.f x108001 1 99).bind fun t111 => (some t111)) else (if x108000 ≥ 1 then (if x108000 ≤ 26 then (some (x108001 == 0)) else (some false)) else (some false))))
end
def spec_InsRight.f (k : Nat) (a0_0 : Int) (a0_1 : Int) (a0_2 : Int) (a0_3 : Int) (l0_4 : List (S64)) (a1_0 : Int) (a1_1 : Int) (a1_2 : Int) : Option (Bool) := if a1_0 = 23 then (spec_InsRight.j0 k false a0_0 a0_1 a0_2 a0_3 l0_4 a1_0 a1_1 a1_2) else (spec_InsRight.j0 k (a1_2 != 0) a0_0 a0_1 a0_2 a0_3 l0_4 a1_0 a1_1 a1_2)
theorem spec_InsRight.mono_l : ∀ k, (∀ y0 y1 y2 y3 y4 y5 y6 y7 y8, LeO (spec_InsRight.j0 k y0 y1 y2 y3 y4 y5 y6 y7 y8) (spec_InsRight.j0 (k + 1) y0 y1 y2 y3 y4 y5 y6 y7 y8)) ∧ (∀ y0 y1 y2 y3 y4 y5 y6 y7 y8 y9, LeO (spec_InsRight.j1 k y0 y1 y2 y3 y4 y5 y6 y7 y8 y9) (spec_InsRight.j1 (k + 1) y0 y1 y2 y3 y4 y5 y6 y7 y8 y9)) ∧ (∀ y0 y1 y2 y3 y4 y5 y6 y7 y8 y9, LeO (spec_InsRight.j2 k y0 y1 y2 y3 y4 y5 y6 y7 y8 y9) (spec_InsRight.j2 (k + 1) y0 y1 y2 y3 y4 y5 y6 y7 y8 y9))
 | 0 => ⟨fun _ _ _ _ _ _ _ _ _ r h => by simp [spec_InsRight.j0] at h, fun _ _ _ _ _ _ _ _ _ _ r h => by simp [spec_InsRight.j1] at h, fun _ _ _ _ _ _ _ _ _ _ r h => by simp [spec_InsRight.j2] at h⟩
 | k + 1 => by
  obtain ⟨ih0, ih1, ih2⟩ := spec_InsRight.mono_l k
  refine ⟨?_, ?_, ?_⟩
  ·
   intro y0 y1 y2 y3 y4 y5 y6 y7 y8
   unfold spec_InsRight.j0
   repeat' first
   | (with_reducible exact ih0 _ _ _ _ _ _ _ _ _)
   | (with_reducible exact ih1 _ _ _ _ _ _ _ _ _ _)
   | (with_reducible exact ih2 _ _ _ _ _ _ _ _ _ _)
   | (with_reducible exact LeO.refl _)
   | (with_reducible exact LeO.none _)
   | (with_reducible refine LeO.ite ?_ ?_)
   | (with_reducible refine LeO.bind ?_ (fun _ => ?_))
   | exact ih0 _ _ _ _ _ _ _ _ _
   | exact ih1 _ _ _ _ _ _ _ _ _ _
   | exact ih2 _ _ _ _ _ _ _ _ _ _
   | exact LeO.none _
   | refine LeO.ite ?_ ?_
   | refine LeO.bind ?_ (fun _ => ?_)
  ·
   intro y0 y1 y2 y3 y4 y5 y6 y7 y8 y9
   unfold spec_InsRight.j1
   repeat' first
   | (with_reducible exact ih0 _ _ _ _ _ _ _ _ _)
   | (with_reducible exact ih1 _ _ _ _ _ _ _ _ _ _)
   | (with_reducible exact ih2 _ _ _ _ _ _ _ _ _ _)
   | (with_reducible exact LeO.refl _)
   | (with_reducible exact LeO.none _)
   | (with_reducible refine LeO.ite ?_ ?_)
   | (with_reducible refine LeO.bind ?_ (fun _ => ?_))
   | exact ih0 _ _ _ _ _ _ _ _ _
   | exact ih1 _ _ _ _ _ _ _ _ _ _
   | exact ih2 _ _ _ _ _ _ _ _ _ _
   | exact LeO.none _
   | refine LeO.ite ?_ ?_
   | refine LeO.bind ?_ (fun _ => ?_)
  ·
   intro y0 y1 y2 y3 y4 y5 y6 y7 y8 y9
   unfold spec_InsRight.j2
   repeat' first
   | (with_reducible exact ih0 _ _ _ _ _ _ _ _ _)
   | (with_reducible exact ih1 _ _ _ _ _ _ _ _ _ _)
   | (with_reducible exact ih2 _ _ _ _ _ _ _ _ _ _)
   | (with_reducible exact LeO.refl _)
   | (with_reducible exact LeO.none _)
   | (with_reducible refine LeO.ite ?_ ?_)
   | (with_reducible refine LeO.bind ?_ (fun _ => ?_))
   | exact ih0 _ _ _ _ _ _ _ _ _
   | exact ih1 _ _ _ _ _ _ _ _ _ _
   | exact ih2 _ _ _ _ _ _ _ _ _ _
   | exact LeO.none _
   | refine LeO.ite ?_ ?_
   | refine LeO.bind ?_ (fun _ => ?_)
theorem spec_InsRight.mono : ∀ a0 a1 a2 a3 a4 a5 a6 a7 k, LeO (spec_InsRight.f k a0 a1 a2 a3 a4 a5 a6 a7) (spec_InsRight.f (k + 1) a0 a1 a2 a3 a4 a5 a6 a7) := by
 intro a0 a1 a2 a3 a4 a5 a6 a7 k
 obtain ⟨ih0, ih1, ih2⟩ := spec_InsRight.mono_l k
 unfold spec_InsRight.f
 repeat' first
   | (with_reducible exact ih0 _ _ _ _ _ _ _ _ _)
   | (with_reducible exact ih1 _ _ _ _ _ _ _ _ _ _)
   | (with_reducible exact ih2 _ _ _ _ _ _ _ _ _ _)
   | (with_reducible exact LeO.refl _)
   | (with_reducible exact LeO.none _)
   | (with_reducible refine LeO.ite ?_ ?_)
   | (with_reducible refine LeO.bind ?_ (fun _ => ?_))
   | exact ih0 _ _ _ _ _ _ _ _ _
   | exact ih1 _ _ _ _ _ _ _ _ _ _
   | exact ih2 _ _ _ _ _ _ _ _ _ _
   | exact LeO.none _
   | refine LeO.ite ?_ ?_
   | refine LeO.bind ?_ (fun _ => ?_)
set_option maxHeartbeats 8000000 in
set_option maxRecDepth 100000 in
theorem spec_InsRight.calls (k : Nat) (a0_0 : Int) (a0_1 : Int) (a0_2 : Int) (a0_3 : Int) (A0_4 : Option Addr) (c0_4 : Nat) (l0_4 : List (S64)) (a1_0 : Int) (a1_1 : Int) (a1_2 : Int) (r : Bool) (w : World) (hr0_4 : Kd.C k64 w A0_4 l0_4.length l0_4) (hc0_4 : l0_4.length ≤ c0_4) (h : spec_InsRight.f k a0_0 a0_1 a0_2 a0_3 l0_4 a1_0 a1_1 a1_2 = some r) :
  Calls Try.prog 62 #[.agg #[.int .i64 a0_0, .int .i64 a0_1, .int .i64 a0_2, .int .i64 a0_3, .slice A0_4 l0_4.length c0_4], .agg #[.int .i64 a1_0, .int .i64 a1_1, .int .i64 a1_2]] w fun e w' => e = .returned (.bool r) ∧ Below w.heap.size w w' := by
 have hu24 := Try.underlying24
 have hu64 := Try.underlying64
 have HR0_4 := Aside0.mk hr0_4
 have HC0_4 := Aside0.mk hc0_4
 clear hr0_4 hc0_4
 have HB := Aside0.mk (Below.refl w.heap.size w)
 have H : (if a1_0 = 23 then (spec_InsRight.j0 k false a0_0 a0_1 a0_2 a0_3 l0_4 a1_0 a1_1 a1_2) else (spec_InsRight.j0 k (a1_2 != 0) a0_0 a0_1 a0_2 a0_3 l0_4 a1_0 a1_1 a1_2)) = some r := h
 clear h
 have HC3 := Aside0.mk H
 clear H
 go_enter Try.func62, Try.ntmps62
 go_upto_region 1 with (first | ((with_reducible refine gate_dst (N := 2) rfl ?_); (try (refine gate_guard (by rfl) ?_; dsimp only)); refine bxe (N := 2) (cs := #[.int .i64 a0_0, .int .i64 a0_1, .int .i64 a0_2, .int .i64 a0_3, .slice A0_4 l0_4.length c0_4]) (t := 24) ?_; intro gb106 hg w4 hbox hb; have n0_ := bst hb; have n1_ := Aside0.mk (hbox); have n2_ := (bsz hg : Aside0 (w.heap.size ≤ gb106)); have n3_ := n2_; clear HB; have HB := n0_; have BK106 := n1_; have GW106 := n2_; have GE106 := n3_; clear n0_ n1_ n2_ n3_; clear hb hbox hg) | ((with_reducible refine gate_dst (N := 3) rfl ?_); (try (refine gate_guard (by rfl) ?_; dsimp only)); refine bxe (N := 3) (cs := #[.int .i64 a1_0, .int .i64 a1_1, .int .i64 a1_2]) (t := 64) ?_; intro gb107 hg w5 hbox hb; have n0_ := bkb BK106 hb; have n1_ := bst hb; have n2_ := Aside0.mk (hbox); have n3_ := (bsz hg : Aside0 (w.heap.size ≤ gb107)); have n4_ := n3_; have n5_ := (bkn BK106 hg : Aside0 (gb106 ≠ gb107)); have n6_ := Aside0.mk n5_.out.symm; clear BK106; clear HB; have BK106 := n0_; have HB := n1_; have BK107 := n2_; have GW107 := n3_; have GE107 := n4_; have NB106_107 := n5_; have NB107_106 := n6_; clear n0_ n1_ n2_ n3_ n4_ n5_ n6_; clear hb hbox hg))
 (try simp only [Act.put, List.setIfInBounds_toArray, List.set_cons_zero, List.set_cons_succ])
 go_cut [12] (fun v12 wc => ∃ (kq : Nat) (x12_2 : Bool), v12 = .bool x12_2 ∧ Aside0 (spec_InsRight.j0 kq x12_2 a0_0 a0_1 a0_2 a0_3 l0_4 a1_0 a1_1 a1_2 = some r) ∧ Aside0 (kq ≤ k) ∧ Aside0 (wc.heap[gb106]? = some (.cells #[.int .i64 a0_0, .int .i64 a0_1, .int .i64 a0_2, .int .i64 a0_3, (.slice A0_4 l0_4.length c0_4)] 24 (0, 0))) ∧ Aside0 (wc.heap[gb107]? = some (.cells #[.int .i64 a1_0, .int .i64 a1_1, .int .i64 a1_2] 64 (0, 0))) ∧ Aside0 (Below w.heap.size w wc))
 case first =>
  have H := HC3.out
  clear HC3
  by_cases c6 : a1_0 = 23
  ·
   rw [if_pos c6] at H
   have c6b0 : (a1_0 == 23) = true := beq_iff_eq.mpr c6
   have c6b1 : (a1_0 != 23) = false := bne_eq_false_iff_eq.mpr c6
   clear c6
   (first | rw [c6b0] | (simp only [i64_w, i32_w]; rw [c6b0]) | skip)
   have H' := Aside0.mk H
   clear H
   have hnb7 := NB107_106.out
   have hnc7 := NB106_107.out
   obtain ⟨hcz8_0, hcz8_1, hcz8_2, hfz8_0, hfz8_1, hfz8_2⟩ := bc3 BK107.out
   go_wp2
   go_meet
   case rel => exact ⟨_, (false), (by first | rfl | (simp; done) | (simp [*]; done)), H', ⟨by first | omega | exact Nat.le_refl _⟩, ⟨by (with_reducible repeat (first | apply blk_drewN | apply blk_drew | apply blk_alloc)); exact BK106.out⟩, ⟨by (with_reducible repeat (first | apply blk_drewN | apply blk_drew | apply blk_alloc)); exact BK107.out⟩, ⟨hbm⟩⟩
  ·
   rw [if_neg c6] at H
   have c6b0 : (a1_0 == 23) = false := beq_eq_false_iff_ne.mpr c6
   have c6b1 : (a1_0 != 23) = true := bne_iff_ne.mpr c6
   (first | rw [c6b0] | (simp only [i64_w, i32_w]; rw [c6b0]) | skip)
   have H' := Aside0.mk H
   clear H
   have hnb9 := NB107_106.out
   have hnc9 := NB106_107.out
   obtain ⟨hcz10_0, hcz10_1, hcz10_2, hfz10_0, hfz10_1, hfz10_2⟩ := bc3 BK107.out
   go_wp2
   go_meet
   case rel => exact ⟨_, ((a1_2 != 0)), (by first | rfl | (simp; done) | (simp [*]; done)), H', ⟨by first | omega | exact Nat.le_refl _⟩, ⟨by (with_reducible repeat (first | apply blk_drewN | apply blk_drew | apply blk_alloc)); exact BK106.out⟩, ⟨by (with_reducible repeat (first | apply blk_drewN | apply blk_drew | apply blk_alloc)); exact BK107.out⟩, ⟨hbm⟩⟩
 case rest =>
  clear HC3
  try clear p2; try clear c6; try clear c6b0; try clear c6b1; try clear c7; try clear c9; try clear hcz10_0 hcz10_1 hcz10_2 hfz10_0 hfz10_1 hfz10_2; try clear hcz8_0 hcz8_1 hcz8_2 hfz8_0 hfz8_1 hfz8_2
  obtain ⟨kq, x12_2, rfl, HA, HJ2, BK106, BK107, HB⟩ := hcut
  cases kq with
  | zero => exact absurd HA.out (by simp [spec_InsRight.j0])
  | succ kj2 =>
   have H := HA.out
   clear HA
   simp only [spec_InsRight.j0] at H
   by_cases c11 : x12_2 = true
   ·
    subst c11
    have H1 : (some false) = some r := by rw [if_pos rfl] at H; exact H
    clear H
    have H := H1
    clear H1
    obtain rfl := Option.some.inj H
    go_wp2
    go_ret
    exact ⟨rfm, hbm⟩
   ·
    replace c11 := Bool.eq_false_iff.mpr c11
    subst c11
    have H1 : (if a1_0 = 2 then ((spec_MoneyRight.f a1_1).bind fun t108 => (some t108)) else (if a1_0 = 3 then (spec_InsRight.j1 kj2 a1_0 (a1_0 == 3) a0_0 a0_1 a0_2 a0_3 l0_4 a1_0 a1_1 a1_2) else (spec_InsRight.j1 kj2 a1_0 (a1_0 == 4) a0_0 a0_1 a0_2 a0_3 l0_4 a1_0 a1_1 a1_2))) = some r := by rw [if_neg (show ¬ (false = true) by decide)] at H; exact H
    clear H
    have H := H1
    clear H1
    by_cases c12 : a1_0 = 2
    ·
     rw [if_pos c12] at H
     have c12b0 : (a1_0 == 2) = true := beq_iff_eq.mpr c12
     have c12b1 : (a1_0 != 2) = false := bne_eq_false_iff_eq.mpr c12
     clear c12
     replace H := Option.bind_eq_some_iff.mp H
     obtain ⟨t108, A130, H⟩ := H
     (try dsimp only at H)
     have A13 := Aside0.mk A130
     clear A130
     obtain rfl := Option.some.inj H
     have hnb14 := NB107_106.out
     have hnc14 := NB106_107.out
     obtain ⟨hcz15_0, hcz15_1, hcz15_2, hfz15_0, hfz15_1, hfz15_2⟩ := bc3 BK107.out
     go_wp2_with (first | ((with_reducible refine gate_callee (f := 91) rfl ?_); refine goesL_ (some 19) rfl rfl Try.func91 (by kernel_rfl) rfl #[.int .i64 a1_1] rfl glm ?_; (with_reducible refine (spec_MoneyRight.calls a1_1 t108 _ A13.out).mono ?_); rintro e w' ⟨rfl, ⟨nd, rfl⟩⟩; refine ⟨_, rfl, ?_⟩))
     go_ret
     exact ⟨rfm, hbm⟩
    ·
     rw [if_neg c12] at H
     have c12b0 : (a1_0 == 2) = false := beq_eq_false_iff_ne.mpr c12
     have c12b1 : (a1_0 != 2) = true := bne_iff_ne.mpr c12
     have HC16 := Aside0.mk H
     clear H
     have hnb17 := NB107_106.out
     have hnc17 := NB106_107.out
     obtain ⟨hcz18_0, hcz18_1, hcz18_2, hfz18_0, hfz18_1, hfz18_2⟩ := bc3 BK107.out
     go_upto_if 20 with (fail)
     go_cut [20] (fun v20 wc => ∃ (kq : Nat) (x20_15 : Bool), v20 = .bool x20_15 ∧ Aside0 (spec_InsRight.j1 kq a1_0 x20_15 a0_0 a0_1 a0_2 a0_3 l0_4 a1_0 a1_1 a1_2 = some r) ∧ Aside0 (kq ≤ kj2) ∧ Aside0 (wc.heap[gb106]? = some (.cells #[.int .i64 a0_0, .int .i64 a0_1, .int .i64 a0_2, .int .i64 a0_3, (.slice A0_4 l0_4.length c0_4)] 24 (0, 0))) ∧ Aside0 (wc.heap[gb107]? = some (.cells #[.int .i64 a1_0, .int .i64 a1_1, .int .i64 a1_2] 64 (0, 0))) ∧ Aside0 (Below w.heap.size w wc))
     case first =>
      have H := HC16.out
      clear HC16
      by_cases c19 : a1_0 = 3
      ·
       rw [if_pos c19] at H
       have c19b0 : (a1_0 == 3) = true := beq_iff_eq.mpr c19
       have c19b1 : (a1_0 != 3) = false := bne_eq_false_iff_eq.mpr c19
       clear c19
       (first | rw [c19b0] | (simp only [i64_w, i32_w]; rw [c19b0]) | skip)
       have H' := Aside0.mk H
       clear H
       go_wp2
       go_meet
       case rel => exact ⟨_, ((a1_0 == 3)), (by first | rfl | (simp; done) | (simp [*]; done)), H', ⟨by have := HJ2.out; first | omega | exact Nat.le_refl _⟩, ⟨by (with_reducible repeat (first | apply blk_drewN | apply blk_drew | apply blk_alloc)); exact BK106.out⟩, ⟨by (with_reducible repeat (first | apply blk_drewN | apply blk_drew | apply blk_alloc)); exact BK107.out⟩, ⟨hbm⟩⟩
      ·
       rw [if_neg c19] at H
       have c19b0 : (a1_0 == 3) = false := beq_eq_false_iff_ne.mpr c19
       have c19b1 : (a1_0 != 3) = true := bne_iff_ne.mpr c19
       (first | rw [c19b0] | (simp only [i64_w, i32_w]; rw [c19b0]) | skip)
       have H' := Aside0.mk H
       clear H
       go_wp2
       go_meet
       case rel => exact ⟨_, ((a1_0 == 4)), (by first | rfl | (simp; done) | (simp [*]; done)), H', ⟨by have := HJ2.out; first | omega | exact Nat.le_refl _⟩, ⟨by (with_reducible repeat (first | apply blk_drewN | apply blk_drew | apply blk_alloc)); exact BK106.out⟩, ⟨by (with_reducible repeat (first | apply blk_drewN | apply blk_drew | apply blk_alloc)); exact BK107.out⟩, ⟨hbm⟩⟩
     case rest =>
      clear HC16
      try clear c1; try clear p2 p2; try clear c6; try clear c6b0; try clear c6b1; try clear c7; try clear c9; try clear c11; try clear c12; try clear c12b0; try clear c12b1; try clear c14; try clear c17; try clear c19; try clear c19b0; try clear c19b1; try clear hcz10_0 hcz10_1 hcz10_2 hfz10_0 hfz10_1 hfz10_2; try clear hcz15_0 hcz15_1 hcz15_2 hfz15_0 hfz15_1 hfz15_2; try clear hcz18_0 hcz18_1 hcz18_2 hfz18_0 hfz18_1 hfz18_2; try clear hcz8_0 hcz8_1 hcz8_2 hfz8_0 hfz8_1 hfz8_2
      obtain ⟨kq, x20_15, rfl, HA, HJ15, BK106, BK107, HB⟩ := hcut
      cases kq with
      | zero => exact absurd HA.out (by simp [spec_InsRight.j1])
      | succ kj15 =>
       have H := HA.out
       clear HA
       simp only [spec_InsRight.j1] at H
       by_cases c20 : x20_15 = true
       ·
        subst c20
        have H1 : ((spec_l10In.f a1_1 0 49).bind fun t109 => (some t109)) = some r := by rw [if_pos rfl] at H; exact H
        clear H
        have H := H1
        clear H1
        replace H := Option.bind_eq_some_iff.mp H
        obtain ⟨t109, A210, H⟩ := H
        (try dsimp only at H)
        have A21 := Aside0.mk A210
        clear A210
        obtain rfl := Option.some.inj H
        have hnb22 := NB107_106.out
        have hnc22 := NB106_107.out
        obtain ⟨hcz23_0, hcz23_1, hcz23_2, hfz23_0, hfz23_1, hfz23_2⟩ := bc3 BK107.out
        go_wp2_with (first | ((with_reducible refine gate_callee (f := 61) rfl ?_); refine goesL_ (some 25) rfl rfl Try.func61 (by kernel_rfl) rfl #[.int .i64 a1_1, .int .i64 0, .int .i64 49] rfl glm ?_; (with_reducible refine (spec_l10In.calls a1_1 0 49 t109 _ A21.out).mono ?_); rintro e w' ⟨rfl, ⟨nd, rfl⟩⟩; refine ⟨_, rfl, ?_⟩))
        go_ret
        exact ⟨rfm, hbm⟩
       ·
        replace c20 := Bool.eq_false_iff.mpr c20
        subst c20
        have H1 : (if a1_0 = 5 then (if a1_1 ≥ 0 then (some (decide (a1_1 < a0_3))) else (some false)) else (if a1_0 = 6 then (if a1_1 ≥ 0 then (some (decide (a1_1 < a0_1))) else (some false)) else (if a1_0 = 20 then ((spec_l10In.f a1_1 1 7).bind fun t110 => (some t110)) else (if a1_0 = 21 then (spec_InsRight.j2 kj15 a1_0 (a1_0 == 21) a0_0 a0_1 a0_2 a0_3 l0_4 a1_0 a1_1 a1_2) else (spec_InsRight.j2 kj15 a1_0 (a1_0 == 22) a0_0 a0_1 a0_2 a0_3 l0_4 a1_0 a1_1 a1_2))))) = some r := by rw [if_neg (show ¬ (false = true) by decide)] at H; exact H
        clear H
        have H := H1
        clear H1
        by_cases c24 : a1_0 = 5
        ·
         rw [if_pos c24] at H
         have c24b0 : (a1_0 == 5) = true := beq_iff_eq.mpr c24
         have c24b1 : (a1_0 != 5) = false := bne_eq_false_iff_eq.mpr c24
         clear c24
         by_cases c25 : a1_1 ≥ 0
         ·
          rw [if_pos c25] at H
          have c25b0 : decide (0 ≤ a1_1) = true := decide_eq_true c25
          clear c25
          obtain rfl := Option.some.inj H
          have hnb26 := NB107_106.out
          have hnc26 := NB106_107.out
          obtain ⟨hcz27_0, hcz27_1, hcz27_2, hfz27_0, hfz27_1, hfz27_2⟩ := bc3 BK107.out
          obtain ⟨hcz28_0, hcz28_1, hcz28_2, hcz28_3, hcz28_4, hfz28_0, hfz28_1, hfz28_2, hfz28_3, hfz28_4⟩ := bc5 BK106.out
          go_wp2
          go_ret
          exact ⟨rfm, hbm⟩
         ·
          rw [if_neg c25] at H
          have c25b0 : decide (0 ≤ a1_1) = false := decide_eq_false c25
          clear c25
          obtain rfl := Option.some.inj H
          have hnb29 := NB107_106.out
          have hnc29 := NB106_107.out
          obtain ⟨hcz30_0, hcz30_1, hcz30_2, hfz30_0, hfz30_1, hfz30_2⟩ := bc3 BK107.out
          go_wp2
          go_ret
          exact ⟨rfm, hbm⟩
        ·
         rw [if_neg c24] at H
         have c24b0 : (a1_0 == 5) = false := beq_eq_false_iff_ne.mpr c24
         have c24b1 : (a1_0 != 5) = true := bne_iff_ne.mpr c24
         by_cases c31 : a1_0 = 6
         ·
          rw [if_pos c31] at H
          have c31b0 : (a1_0 == 6) = true := beq_iff_eq.mpr c31
          have c31b1 : (a1_0 != 6) = false := bne_eq_false_iff_eq.mpr c31
          clear c31
          by_cases c32 : a1_1 ≥ 0
          ·
           rw [if_pos c32] at H
           have c32b0 : decide (0 ≤ a1_1) = true := decide_eq_true c32
           clear c32
           obtain rfl := Option.some.inj H
           have hnb33 := NB107_106.out
           have hnc33 := NB106_107.out
           obtain ⟨hcz34_0, hcz34_1, hcz34_2, hfz34_0, hfz34_1, hfz34_2⟩ := bc3 BK107.out
           obtain ⟨hcz35_0, hcz35_1, hcz35_2, hcz35_3, hcz35_4, hfz35_0, hfz35_1, hfz35_2, hfz35_3, hfz35_4⟩ := bc5 BK106.out
           go_wp2
           go_ret
           exact ⟨rfm, hbm⟩
          ·
           rw [if_neg c32] at H
           have c32b0 : decide (0 ≤ a1_1) = false := decide_eq_false c32
           clear c32
           obtain rfl := Option.some.inj H
           have hnb36 := NB107_106.out
           have hnc36 := NB106_107.out
           obtain ⟨hcz37_0, hcz37_1, hcz37_2, hfz37_0, hfz37_1, hfz37_2⟩ := bc3 BK107.out
           go_wp2
           go_ret
           exact ⟨rfm, hbm⟩
         ·
          rw [if_neg c31] at H
          have c31b0 : (a1_0 == 6) = false := beq_eq_false_iff_ne.mpr c31
          have c31b1 : (a1_0 != 6) = true := bne_iff_ne.mpr c31
          by_cases c38 : a1_0 = 20
          ·
           rw [if_pos c38] at H
           have c38b0 : (a1_0 == 20) = true := beq_iff_eq.mpr c38
           have c38b1 : (a1_0 != 20) = false := bne_eq_false_iff_eq.mpr c38
           clear c38
           replace H := Option.bind_eq_some_iff.mp H
           obtain ⟨t110, A390, H⟩ := H
           (try dsimp only at H)
           have A39 := Aside0.mk A390
           clear A390
           obtain rfl := Option.some.inj H
           have hnb40 := NB107_106.out
           have hnc40 := NB106_107.out
           obtain ⟨hcz41_0, hcz41_1, hcz41_2, hfz41_0, hfz41_1, hfz41_2⟩ := bc3 BK107.out
           go_wp2_with (first | ((with_reducible refine gate_callee (f := 61) rfl ?_); refine goesL_ (some 54) rfl rfl Try.func61 (by kernel_rfl) rfl #[.int .i64 a1_1, .int .i64 1, .int .i64 7] rfl glm ?_; (with_reducible refine (spec_l10In.calls a1_1 1 7 t110 _ A39.out).mono ?_); rintro e w' ⟨rfl, ⟨nd, rfl⟩⟩; refine ⟨_, rfl, ?_⟩))
           go_ret
           exact ⟨rfm, hbm⟩
          ·
           rw [if_neg c38] at H
           have c38b0 : (a1_0 == 20) = false := beq_eq_false_iff_ne.mpr c38
           have c38b1 : (a1_0 != 20) = true := bne_iff_ne.mpr c38
           have HC42 := Aside0.mk H
           clear H
           go_upto_if 55 with (fail)
           go_cut [55] (fun v55 wc => ∃ (kq : Nat) (x55_41 : Bool), v55 = .bool x55_41 ∧ Aside0 (spec_InsRight.j2 kq a1_0 x55_41 a0_0 a0_1 a0_2 a0_3 l0_4 a1_0 a1_1 a1_2 = some r) ∧ Aside0 (kq ≤ kj15) ∧ Aside0 (wc.heap[gb106]? = some (.cells #[.int .i64 a0_0, .int .i64 a0_1, .int .i64 a0_2, .int .i64 a0_3, (.slice A0_4 l0_4.length c0_4)] 24 (0, 0))) ∧ Aside0 (wc.heap[gb107]? = some (.cells #[.int .i64 a1_0, .int .i64 a1_1, .int .i64 a1_2] 64 (0, 0))) ∧ Aside0 (Below w.heap.size w wc))
           case first =>
            have H := HC42.out
            clear HC42
            by_cases c43 : a1_0 = 21
            ·
             rw [if_pos c43] at H
             have c43b0 : (a1_0 == 21) = true := beq_iff_eq.mpr c43
             have c43b1 : (a1_0 != 21) = false := bne_eq_false_iff_eq.mpr c43
             clear c43
             (first | rw [c43b0] | (simp only [i64_w, i32_w]; rw [c43b0]) | skip)
             have H' := Aside0.mk H
             clear H
             go_wp2
             go_meet
             case rel => exact ⟨_, ((a1_0 == 21)), (by first | rfl | (simp; done) | (simp [*]; done)), H', ⟨by have := HJ2.out; have := HJ15.out; first | omega | exact Nat.le_refl _⟩, ⟨by (with_reducible repeat (first | apply blk_drewN | apply blk_drew | apply blk_alloc)); exact BK106.out⟩, ⟨by (with_reducible repeat (first | apply blk_drewN | apply blk_drew | apply blk_alloc)); exact BK107.out⟩, ⟨hbm⟩⟩
            ·
             rw [if_neg c43] at H
             have c43b0 : (a1_0 == 21) = false := beq_eq_false_iff_ne.mpr c43
             have c43b1 : (a1_0 != 21) = true := bne_iff_ne.mpr c43
             (first | rw [c43b0] | (simp only [i64_w, i32_w]; rw [c43b0]) | skip)
             have H' := Aside0.mk H
             clear H
             go_wp2
             go_meet
             case rel => exact ⟨_, ((a1_0 == 22)), (by first | rfl | (simp; done) | (simp [*]; done)), H', ⟨by have := HJ2.out; have := HJ15.out; first | omega | exact Nat.le_refl _⟩, ⟨by (with_reducible repeat (first | apply blk_drewN | apply blk_drew | apply blk_alloc)); exact BK106.out⟩, ⟨by (with_reducible repeat (first | apply blk_drewN | apply blk_drew | apply blk_alloc)); exact BK107.out⟩, ⟨hbm⟩⟩
           case rest =>
            clear HC42
            try clear c1; try clear c2; try clear p2 p2; try clear c3; try clear c4; try clear c6; try clear c6b0; try clear c6b1; try clear c7; try clear c9; try clear c11; try clear c12; try clear c12b0; try clear c12b1; try clear c14; try clear c17; try clear c19; try clear c19b0; try clear c19b1; try clear c20; try clear c22; try clear c24; try clear c24b0; try clear c24b1; try clear c25; try clear c25b0; try clear c26; try clear c29; try clear c31; try clear c31b0; try clear c31b1; try clear c32; try clear c32b0; try clear c33; try clear c36; try clear c38; try clear c38b0; try clear c38b1; try clear c40; try clear c43; try clear c43b0; try clear c43b1; try clear hcz10_0 hcz10_1 hcz10_2 hfz10_0 hfz10_1 hfz10_2; try clear hcz15_0 hcz15_1 hcz15_2 hfz15_0 hfz15_1 hfz15_2; try clear hcz18_0 hcz18_1 hcz18_2 hfz18_0 hfz18_1 hfz18_2; try clear hcz23_0 hcz23_1 hcz23_2 hfz23_0 hfz23_1 hfz23_2; try clear hcz27_0 hcz27_1 hcz27_2 hfz27_0 hfz27_1 hfz27_2; try clear hcz28_0 hcz28_1 hcz28_2 hcz28_3 hcz28_4 hfz28_0 hfz28_1 hfz28_2 hfz28_3 hfz28_4; try clear hcz30_0 hcz30_1 hcz30_2 hfz30_0 hfz30_1 hfz30_2; try clear hcz34_0 hcz34_1 hcz34_2 hfz34_0 hfz34_1 hfz34_2; try clear hcz35_0 hcz35_1 hcz35_2 hcz35_3 hcz35_4 hfz35_0 hfz35_1 hfz35_2 hfz35_3 hfz35_4; try clear hcz37_0 hcz37_1 hcz37_2 hfz37_0 hfz37_1 hfz37_2; try clear hcz41_0 hcz41_1 hcz41_2 hfz41_0 hfz41_1 hfz41_2; try clear hcz8_0 hcz8_1 hcz8_2 hfz8_0 hfz8_1 hfz8_2
            obtain ⟨kq, x55_41, rfl, HA, HJ41, BK106, BK107, HB⟩ := hcut
            cases kq with
            | zero => exact absurd HA.out (by simp [spec_InsRight.j2])
            | succ kj41 =>
             have H := HA.out
             clear HA
             simp only [spec_InsRight.j2] at H
             by_cases c44 : x55_41 = true
             ·
              subst c44
              have H1 : (if a1_1 ≥ 0 then (some (decide (a1_1 < (l0_4.length : Int)))) else (some false)) = some r := by rw [if_pos rfl] at H; exact H
              clear H
              have H := H1
              clear H1
              by_cases c45 : a1_1 ≥ 0
              ·
               rw [if_pos c45] at H
               have c45b0 : decide (0 ≤ a1_1) = true := decide_eq_true c45
               clear c45
               obtain rfl := Option.some.inj H
               have hnb46 := NB107_106.out
               have hnc46 := NB106_107.out
               obtain ⟨hcz47_0, hcz47_1, hcz47_2, hfz47_0, hfz47_1, hfz47_2⟩ := bc3 BK107.out
               obtain ⟨hcz48_0, hcz48_1, hcz48_2, hcz48_3, hcz48_4, hfz48_0, hfz48_1, hfz48_2, hfz48_3, hfz48_4⟩ := bc5 BK106.out
               go_wp2
               go_ret
               exact ⟨rfm, hbm⟩
              ·
               rw [if_neg c45] at H
               have c45b0 : decide (0 ≤ a1_1) = false := decide_eq_false c45
               clear c45
               obtain rfl := Option.some.inj H
               have hnb49 := NB107_106.out
               have hnc49 := NB106_107.out
               obtain ⟨hcz50_0, hcz50_1, hcz50_2, hfz50_0, hfz50_1, hfz50_2⟩ := bc3 BK107.out
               go_wp2
               go_ret
               exact ⟨rfm, hbm⟩
             ·
              replace c44 := Bool.eq_false_iff.mpr c44
              subst c44
              have H1 : (if a1_0 = 23 then (if a1_1 ≥ 0 then (if a1_1 < a0_2 then (if a1_2 ≥ 0 then (some (decide (a1_2 < a0_2))) else (some false)) else (some false)) else (some false)) else (if a1_0 = 24 then ((spec_l10In.f a1_1 1 99).bind fun t111 => (some t111)) else (if a1_0 ≥ 1 then (if a1_0 ≤ 26 then (some (a1_1 == 0)) else (some false)) else (some false)))) = some r := by rw [if_neg (show ¬ (false = true) by decide)] at H; exact H
              clear H
              have H := H1
              clear H1
              by_cases c51 : a1_0 = 23
              ·
               rw [if_pos c51] at H
               have c51b0 : (a1_0 == 23) = true := beq_iff_eq.mpr c51
               have c51b1 : (a1_0 != 23) = false := bne_eq_false_iff_eq.mpr c51
               clear c51
               by_cases c52 : a1_1 ≥ 0
               ·
                rw [if_pos c52] at H
                have c52b0 : decide (0 ≤ a1_1) = true := decide_eq_true c52
                clear c52
                by_cases c53 : a1_1 < a0_2
                ·
                 rw [if_pos c53] at H
                 have c53b0 := decide_eq_true c53
                 clear c53
                 by_cases c54 : a1_2 ≥ 0
                 ·
                  rw [if_pos c54] at H
                  have c54b0 : decide (0 ≤ a1_2) = true := decide_eq_true c54
                  clear c54
                  obtain rfl := Option.some.inj H
                  have hnb55 := NB107_106.out
                  have hnc55 := NB106_107.out
                  obtain ⟨hcz56_0, hcz56_1, hcz56_2, hfz56_0, hfz56_1, hfz56_2⟩ := bc3 BK107.out
                  obtain ⟨hcz57_0, hcz57_1, hcz57_2, hcz57_3, hcz57_4, hfz57_0, hfz57_1, hfz57_2, hfz57_3, hfz57_4⟩ := bc5 BK106.out
                  go_wp2
                  go_ret
                  exact ⟨rfm, hbm⟩
                 ·
                  rw [if_neg c54] at H
                  have c54b0 : decide (0 ≤ a1_2) = false := decide_eq_false c54
                  clear c54
                  obtain rfl := Option.some.inj H
                  have hnb58 := NB107_106.out
                  have hnc58 := NB106_107.out
                  obtain ⟨hcz59_0, hcz59_1, hcz59_2, hfz59_0, hfz59_1, hfz59_2⟩ := bc3 BK107.out
                  obtain ⟨hcz60_0, hcz60_1, hcz60_2, hcz60_3, hcz60_4, hfz60_0, hfz60_1, hfz60_2, hfz60_3, hfz60_4⟩ := bc5 BK106.out
                  go_wp2
                  go_ret
                  exact ⟨rfm, hbm⟩
                ·
                 rw [if_neg c53] at H
                 have c53b0 := decide_eq_false c53
                 clear c53
                 obtain rfl := Option.some.inj H
                 have hnb61 := NB107_106.out
                 have hnc61 := NB106_107.out
                 obtain ⟨hcz62_0, hcz62_1, hcz62_2, hfz62_0, hfz62_1, hfz62_2⟩ := bc3 BK107.out
                 obtain ⟨hcz63_0, hcz63_1, hcz63_2, hcz63_3, hcz63_4, hfz63_0, hfz63_1, hfz63_2, hfz63_3, hfz63_4⟩ := bc5 BK106.out
                 go_wp2
                 go_ret
                 exact ⟨rfm, hbm⟩
               ·
                rw [if_neg c52] at H
                have c52b0 : decide (0 ≤ a1_1) = false := decide_eq_false c52
                clear c52
                obtain rfl := Option.some.inj H
                have hnb64 := NB107_106.out
                have hnc64 := NB106_107.out
                obtain ⟨hcz65_0, hcz65_1, hcz65_2, hfz65_0, hfz65_1, hfz65_2⟩ := bc3 BK107.out
                go_wp2
                go_ret
                exact ⟨rfm, hbm⟩
              ·
               rw [if_neg c51] at H
               have c51b0 : (a1_0 == 23) = false := beq_eq_false_iff_ne.mpr c51
               have c51b1 : (a1_0 != 23) = true := bne_iff_ne.mpr c51
               by_cases c66 : a1_0 = 24
               ·
                rw [if_pos c66] at H
                have c66b0 : (a1_0 == 24) = true := beq_iff_eq.mpr c66
                have c66b1 : (a1_0 != 24) = false := bne_eq_false_iff_eq.mpr c66
                clear c66
                replace H := Option.bind_eq_some_iff.mp H
                obtain ⟨t111, A670, H⟩ := H
                (try dsimp only at H)
                have A67 := Aside0.mk A670
                clear A670
                obtain rfl := Option.some.inj H
                have hnb68 := NB107_106.out
                have hnc68 := NB106_107.out
                obtain ⟨hcz69_0, hcz69_1, hcz69_2, hfz69_0, hfz69_1, hfz69_2⟩ := bc3 BK107.out
                go_wp2_with (first | ((with_reducible refine gate_callee (f := 61) rfl ?_); refine goesL_ (some 97) rfl rfl Try.func61 (by kernel_rfl) rfl #[.int .i64 a1_1, .int .i64 1, .int .i64 99] rfl glm ?_; (with_reducible refine (spec_l10In.calls a1_1 1 99 t111 _ A67.out).mono ?_); rintro e w' ⟨rfl, ⟨nd, rfl⟩⟩; refine ⟨_, rfl, ?_⟩))
                go_ret
                exact ⟨rfm, hbm⟩
               ·
                rw [if_neg c66] at H
                have c66b0 : (a1_0 == 24) = false := beq_eq_false_iff_ne.mpr c66
                have c66b1 : (a1_0 != 24) = true := bne_iff_ne.mpr c66
                by_cases c70 : a1_0 ≥ 1
                ·
                 rw [if_pos c70] at H
                 have c70b0 : decide (1 ≤ a1_0) = true := decide_eq_true c70
                 clear c70
                 by_cases c71 : a1_0 ≤ 26
                 ·
                  rw [if_pos c71] at H
                  have c71b0 := decide_eq_true c71
                  clear c71
                  obtain rfl := Option.some.inj H
                  have hnb72 := NB107_106.out
                  have hnc72 := NB106_107.out
                  obtain ⟨hcz73_0, hcz73_1, hcz73_2, hfz73_0, hfz73_1, hfz73_2⟩ := bc3 BK107.out
                  go_wp2
                  go_ret
                  exact ⟨rfm, hbm⟩
                 ·
                  rw [if_neg c71] at H
                  have c71b0 := decide_eq_false c71
                  clear c71
                  obtain rfl := Option.some.inj H
                  have hnb74 := NB107_106.out
                  have hnc74 := NB106_107.out
                  obtain ⟨hcz75_0, hcz75_1, hcz75_2, hfz75_0, hfz75_1, hfz75_2⟩ := bc3 BK107.out
                  go_wp2
                  go_ret
                  exact ⟨rfm, hbm⟩
                ·
                 rw [if_neg c70] at H
                 have c70b0 : decide (1 ≤ a1_0) = false := decide_eq_false c70
                 clear c70
                 obtain rfl := Option.some.inj H
                 have hnb76 := NB107_106.out
                 have hnc76 := NB106_107.out
                 obtain ⟨hcz77_0, hcz77_1, hcz77_2, hfz77_0, hfz77_1, hfz77_2⟩ := bc3 BK107.out
                 go_wp2
                 go_ret
                 exact ⟨rfm, hbm⟩

end Go.Proofs.Ytidlcolgiololaa.S
