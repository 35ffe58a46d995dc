/- Proved: each Go function named here answers as its plain Lean function says, in whatever memory; no condition. Written by a program of this session over the print of the kit. -/
import Derived.Test.YtidlcolgiololaaDoorSq
import Derived.Test.YtidlcolgiololaaDoorS0
import Derived.Test.YtidlcolgiololaaDoorS1
namespace Go.Proofs.YtidlcolgiololaaDoor.S
open Go.RowKit Go.Proofs.YtidlcolgiololaaDoorW.PrintWords Go.Proofs.YtidlcolgiololaaDoorW.PrintLast Go.Proofs.YtidlcolgiololaaDoorW.PrintMore
attribute [local go_sem] max2_int min2_int max_two min_two max_three min_three max_four min_four   -- for this text's walks alone
set_option linter.unusedVariables false
set_option linter.unusedSimpArgs false

/-! ### spec_DayAdd: function 171 -/
mutual
def spec_DayAdd.j0 : Nat → Int → Int → Bool → Option (Int × Int)
 | 0, _, _, _ => none
 | k + 1, x0, x1, x16 => if x16 = true then (some (0, 13)) else ((spec_DateOf.f k x0).bind fun bt115 => (if (wrap64 ((wrap64 ((wrap64 ((wrap64 (12 * (wrap64 (bt115.1 - 2000)))) + bt115.2.1)) - 1)) + x1)) < 0 then (spec_DayAdd.j1 k (wrap64 ((wrap64 ((wrap64 ((wrap64 (12 * (wrap64 (bt115.1 - 2000)))) + bt115.2.1)) - 1)) + x1)) true bt115.1 bt115.2.1 bt115.2.2) else (spec_DayAdd.j1 k (wrap64 ((wrap64 ((wrap64 ((wrap64 (12 * (wrap64 (bt115.1 - 2000)))) + bt115.2.1)) - 1)) + x1)) (decide ((wrap64 ((wrap64 ((wrap64 ((wrap64 (12 * (wrap64 (bt115.1 - 2000)))) + bt115.2.1)) - 1)) + x1)) ≥ 1200)) bt115.1 bt115.2.1 bt115.2.2)))
def spec_DayAdd.j1 : Nat → Int → Bool → Int → Int → Int → Option (Int × Int)
 | 0, _, _, _, _, _ => none
 | k + 1, x6, x35, x119000, x119001, x119002 => if x35 = true then (some (0, 13)) else ((spec_l03Len.f (wrap64 (2000 + (wrap64 (Int.tdiv x6 12)))) (wrap64 ((Int.tmod x6 12) + 1))).bind fun t119 => ((spec_l01Min.f x119002 t119).bind fun t120 => ((spec_l03Day.f k (wrap64 (2000 + (wrap64 (Int.tdiv x6 12)))) (wrap64 ((Int.tmod x6 12) + 1)) t120).bind fun t121 => (some (t121, 0)))))
end
def spec_DayAdd.f (k : Nat) (a0 : Int) (a1 : Int) : Option (Int × Int) := (spec_l03Right.f a0).bind fun t114 => (if t114 = true then (if a1 < (-1200) then (spec_DayAdd.j0 k a0 a1 true) else (spec_DayAdd.j0 k a0 a1 (decide (a1 > 1200)))) else (some (0, 1)))
theorem spec_DayAdd.mono_l : ∀ k, (∀ y0 y1 y2, LeO (spec_DayAdd.j0 k y0 y1 y2) (spec_DayAdd.j0 (k + 1) y0 y1 y2)) ∧ (∀ y0 y1 y2 y3 y4, LeO (spec_DayAdd.j1 k y0 y1 y2 y3 y4) (spec_DayAdd.j1 (k + 1) y0 y1 y2 y3 y4))
 | 0 => ⟨fun _ _ _ r h => by simp [spec_DayAdd.j0] at h, fun _ _ _ _ _ r h => by simp [spec_DayAdd.j1] at h⟩
 | k + 1 => by
  obtain ⟨ih0, ih1⟩ := spec_DayAdd.mono_l k
  refine ⟨?_, ?_⟩
  ·
   intro y0 y1 y2
   unfold spec_DayAdd.j0
   repeat' first
   | (with_reducible exact ih0 _ _ _)
   | (with_reducible exact ih1 _ _ _ _ _)
   | (with_reducible exact spec_DateOf.mono _ _)
   | (with_reducible exact spec_l03Day.mono _ _ _ _)
   | (with_reducible exact LeO.refl _)
   | (with_reducible exact LeO.none _)
   | (with_reducible refine LeO.ite ?_ ?_)
   | (with_reducible refine LeO.bind ?_ (fun _ => ?_))
   | exact ih0 _ _ _
   | exact ih1 _ _ _ _ _
   | exact spec_DateOf.mono _ _
   | exact spec_l03Day.mono _ _ _ _
   | exact LeO.none _
   | refine LeO.ite ?_ ?_
   | refine LeO.bind ?_ (fun _ => ?_)
  ·
   intro y0 y1 y2 y3 y4
   unfold spec_DayAdd.j1
   repeat' first
   | (with_reducible exact ih0 _ _ _)
   | (with_reducible exact ih1 _ _ _ _ _)
   | (with_reducible exact spec_DateOf.mono _ _)
   | (with_reducible exact spec_l03Day.mono _ _ _ _)
   | (with_reducible exact LeO.refl _)
   | (with_reducible exact LeO.none _)
   | (with_reducible refine LeO.ite ?_ ?_)
   | (with_reducible refine LeO.bind ?_ (fun _ => ?_))
   | exact ih0 _ _ _
   | exact ih1 _ _ _ _ _
   | exact spec_DateOf.mono _ _
   | exact spec_l03Day.mono _ _ _ _
   | exact LeO.none _
   | refine LeO.ite ?_ ?_
   | refine LeO.bind ?_ (fun _ => ?_)
theorem spec_DayAdd.mono : ∀ a0 a1 k, LeO (spec_DayAdd.f k a0 a1) (spec_DayAdd.f (k + 1) a0 a1) := by
 intro a0 a1 k
 obtain ⟨ih0, ih1⟩ := spec_DayAdd.mono_l k
 unfold spec_DayAdd.f
 repeat' first
   | (with_reducible exact ih0 _ _ _)
   | (with_reducible exact ih1 _ _ _ _ _)
   | (with_reducible exact spec_DateOf.mono _ _)
   | (with_reducible exact spec_l03Day.mono _ _ _ _)
   | (with_reducible exact LeO.refl _)
   | (with_reducible exact LeO.none _)
   | (with_reducible refine LeO.ite ?_ ?_)
   | (with_reducible refine LeO.bind ?_ (fun _ => ?_))
   | exact ih0 _ _ _
   | exact ih1 _ _ _ _ _
   | exact spec_DateOf.mono _ _
   | exact spec_l03Day.mono _ _ _ _
   | exact LeO.none _
   | refine LeO.ite ?_ ?_
   | refine LeO.bind ?_ (fun _ => ?_)
def spec_DayAdd.T11 : Bool × List (List Nat × List Nat) := (true, [([], []), ([0], [0]), ([], []), ([2], [2]), ([], []), ([4], [4]), ([3, 5], [3, 5]), ([1, 6, 6], [1, 6]), ([0, 1, 2, 3, 4, 5, 6, 7], []), ([8, 7, 7, 0, 1, 2, 3, 4, 5, 6, 7], [7, 8])])
def spec_DayAdd.B11 : List Nat := [0, 1, 0, 4, 0, 16, 60, 127, 255, 511]
theorem spec_DayAdd.tab11 : rtab .any (opsOf Tryd.f171 11) = spec_DayAdd.T11 := by kernel_rfl
theorem spec_DayAdd.bits11 : waitsOk spec_DayAdd.T11.2 spec_DayAdd.B11 = true := by kernel_rfl
set_option maxHeartbeats 8000000 in
set_option maxRecDepth 100000 in
theorem spec_DayAdd.calls (k : Nat) (a0 : Int) (a1 : Int) (r1 : Int) (r2 : Int) (w : World) (h : spec_DayAdd.f k a0 a1 = some (r1, r2)) :
  Calls Tryd.prog 171 #[.int .i64 a0, .int .i64 a1] w fun e w' => e = .returned (.agg #[.int .i64 r1, .int .i64 r2]) ∧ Below w.heap.size w w' := by
 have hu69 := Tryd.underlying69
 have hu74 := Tryd.underlying74
 have HB := Aside0.mk (Below.refl w.heap.size w)
 have H : ((spec_l03Right.f a0).bind fun t114 => (if t114 = true then (if a1 < (-1200) then (spec_DayAdd.j0 k a0 a1 true) else (spec_DayAdd.j0 k a0 a1 (decide (a1 > 1200)))) else (some (0, 1)))) = some (r1, r2) := h
 clear h
 replace H := Option.bind_eq_some_iff.mp H
 obtain ⟨t114, A30, H⟩ := H
 (try dsimp only at H)
 have A3 := Aside0.mk A30
 clear A30
 by_cases c4 : t114 = true
 ·
  subst c4
  have H1 : (if a1 < (-1200) then (spec_DayAdd.j0 k a0 a1 true) else (spec_DayAdd.j0 k a0 a1 (decide (a1 > 1200)))) = some (r1, r2) := by rw [if_pos rfl] at H; exact H
  clear H
  have H := H1
  clear H1
  have HC5 := Aside0.mk H
  clear H
  go_enter Tryd.func171, Tryd.ntmps171
  go_upto_region 3 with (first | ((with_reducible refine gate_dst (N := 4) rfl ?_); refine bxe (N := 4) (cs := #[.int .i64 0, .int .i64 0]) (t := 69) ?_; intro gb113 hg w6 hbox hb; have n0_ := bst hb; have n1_ := Aside0.mk (hbox); have n2_ := (bsz hg : Aside0 (w.heap.size ≤ gb113)); have n3_ := n2_; clear HB; have HB := n0_; have BK113 := n1_; have GW113 := n2_; have GE113 := n3_; clear n0_ n1_ n2_ n3_; clear hb hbox hg) | ((with_reducible refine gate_callee (f := 109) rfl ?_); refine goesL_ (some 8) rfl rfl Tryd.func109 (by kernel_rfl) rfl #[.int .i64 a0] rfl glm ?_; (with_reducible refine (spec_l03Right.calls a0 true _ A3.out).mono ?_); rintro e w' ⟨rfl, ⟨nd, rfl⟩⟩; refine ⟨_, rfl, ?_⟩))
  (try simp only [Act.put, List.setIfInBounds_toArray, List.set_cons_zero, List.set_cons_succ])
  go_cut [16] (fun v16 wc => ∃ (kq : Nat) (x16_4 : Bool), v16 = .bool x16_4 ∧ Aside0 (spec_DayAdd.j0 kq a0 a1 x16_4 = some (r1, r2)) ∧ Aside0 (kq ≤ k) ∧ Aside0 (wc.heap[gb113]? = some (.cells #[.int .i64 0, .int .i64 0] 69 (0, 0))) ∧ Aside0 (Below w.heap.size w wc))
  case first =>
   have H := HC5.out
   clear HC5
   by_cases c7 : a1 < (-1200)
   ·
    rw [if_pos c7] at H
    have c7b0 : decide (a1 < (-1200)) = true := decide_eq_true c7
    clear c7
    (first | rw [c7b0] | (simp only [i64_w, i32_w]; rw [c7b0]) | skip)
    have H' := Aside0.mk H
    clear H
    go_wp2
    go_meet
    case rel => exact ⟨_, (true), (by first | rfl | (simp; done) | (simp [*]; done)), H', ⟨by first | omega | exact Nat.le_refl _⟩, ⟨by (with_reducible repeat (first | apply blk_drewN | apply blk_drew | apply blk_alloc)); exact BK113.out⟩, ⟨hbm⟩⟩
   ·
    rw [if_neg c7] at H
    have c7b0 : decide (a1 < (-1200)) = false := decide_eq_false c7
    clear c7
    (first | rw [c7b0] | (simp only [i64_w, i32_w]; rw [c7b0]) | skip)
    have H' := Aside0.mk H
    clear H
    go_wp2
    go_meet
    case rel => exact ⟨_, (decide (a1 > 1200)), (by first | rfl | (simp; done) | (simp [*]; done)), H', ⟨by first | omega | exact Nat.le_refl _⟩, ⟨by (with_reducible repeat (first | apply blk_drewN | apply blk_drew | apply blk_alloc)); exact BK113.out⟩, ⟨hbm⟩⟩
  case rest =>
   clear HC5
   try clear c1; try clear p2; try clear c4; try clear c7; try clear c7b0
   obtain ⟨kq, x16_4, rfl, HA, HJ4, BK113, HB⟩ := hcut
   cases kq with
   | zero => exact absurd HA.out (by simp [spec_DayAdd.j0])
   | succ kj4 =>
    have H := HA.out
    clear HA
    simp only [spec_DayAdd.j0] at H
    by_cases c8 : x16_4 = true
    ·
     subst c8
     have H1 : (some (0, 13)) = some (r1, r2) := by rw [if_pos rfl] at H; exact H
     clear H
     have H := H1
     clear H1
     simp only [Option.some.injEq, Prod.mk.injEq] at H
     obtain ⟨rfl, rfl⟩ := H
     obtain ⟨hcz9_0, hcz9_1, hfz9_0, hfz9_1⟩ := bc2 BK113.out
     go_wp2
     refine bodyPost_ret (results_cell_row rfl _ _ gb113 69 #[.int .i64 0, .int .i64 13] (0, 0) _ rfl (by (with_reducible repeat (first | apply blk_drewN | apply blk_drew | apply blk_alloc)); refine blk_put (cs := #[.int .i64 0, .int .i64 0]) ?_ 1 _ rfl; (with_reducible repeat (first | apply blk_drewN | apply blk_drew | apply blk_alloc)); refine blk_put (cs := #[.int .i64 0, .int .i64 0]) ?_ 0 _ rfl; (with_reducible repeat (first | apply blk_drewN | apply blk_drew | apply blk_alloc)); exact BK113.out) Tryd.underlying69 rfl (by kernel_rfl)) rfl ?_
     exact ⟨rfm, hbm⟩
    ·
     replace c8 := Bool.eq_false_iff.mpr c8
     subst c8
     have H1 : ((spec_DateOf.f kj4 a0).bind fun bt115 => (if (wrap64 ((wrap64 ((wrap64 ((wrap64 (12 * (wrap64 (bt115.1 - 2000)))) + bt115.2.1)) - 1)) + a1)) < 0 then (spec_DayAdd.j1 kj4 (wrap64 ((wrap64 ((wrap64 ((wrap64 (12 * (wrap64 (bt115.1 - 2000)))) + bt115.2.1)) - 1)) + a1)) true bt115.1 bt115.2.1 bt115.2.2) else (spec_DayAdd.j1 kj4 (wrap64 ((wrap64 ((wrap64 ((wrap64 (12 * (wrap64 (bt115.1 - 2000)))) + bt115.2.1)) - 1)) + a1)) (decide ((wrap64 ((wrap64 ((wrap64 ((wrap64 (12 * (wrap64 (bt115.1 - 2000)))) + bt115.2.1)) - 1)) + a1)) ≥ 1200)) bt115.1 bt115.2.1 bt115.2.2))) = some (r1, r2) := by rw [if_neg (show ¬ (false = true) by decide)] at H; exact H
     clear H
     have H := H1
     clear H1
     replace H := Option.bind_eq_some_iff.mp H
     obtain ⟨⟨t115, t116, t117⟩, A100, H⟩ := H
     (try dsimp only at H)
     have A10 := Aside0.mk A100
     clear A100
     have HC11 := Aside0.mk H
     clear H
     go_upto_region 7 with (first | ((with_reducible refine gate_callee (f := 41) rfl ?_); refine goesL_ (some 19) rfl rfl Tryd.func41 (by kernel_rfl) rfl #[.int .i64 a0] rfl glm ?_; (with_reducible refine (spec_DateOf.calls kj4 a0 t115 t116 t117 _ A10.out).mono ?_); rintro e w12 ⟨rfl, hb⟩; refine ⟨_, rfl, ?_⟩; have n0_ := bkb BK113 hb; have n1_ := bst hb; clear BK113; clear HB; have BK113 := n0_; have HB := n1_; clear n0_ n1_; (try clear hb); (try clear hb2); (try clear hk); (try clear hi)) | ((with_reducible refine gate_dst (N := 5) rfl ?_); refine bxe (N := 5) (cs := #[.int .i64 0, .int .i64 0, .int .i64 0]) (t := 74) ?_; intro gb118 hg w13 hbox hb; have n0_ := bkb BK113 hb; have n1_ := bst hb; have n2_ := Aside0.mk (hbox); have n3_ := (bsz hg : Aside0 (w.heap.size ≤ gb118)); have n4_ := n3_; have n5_ := (bkn BK113 hg : Aside0 (gb113 ≠ gb118)); have n6_ := Aside0.mk n5_.out.symm; clear BK113; clear HB; have BK113 := n0_; have HB := n1_; have BK118 := n2_; have GW118 := n3_; have GE118 := n4_; have NB113_118 := n5_; have NB118_113 := n6_; clear n0_ n1_ n2_ n3_ n4_ n5_ n6_; clear hb hbox hg; have hnb14 := NB118_113.out; have hnc14 := NB113_118.out; obtain ⟨hcz15_0, hcz15_1, hcz15_2, hfz15_0, hfz15_1, hfz15_2⟩ := bc3 BK118.out))
     (try simp only [Act.put, List.setIfInBounds_toArray, List.set_cons_zero, List.set_cons_succ])
     go_cut [35] (fun v35 wc => ∃ (kq : Nat) (x35_10 : Bool), v35 = .bool x35_10 ∧ Aside0 (spec_DayAdd.j1 kq (wrap64 ((wrap64 ((wrap64 ((wrap64 (12 * (wrap64 (t115 - 2000)))) + t116)) - 1)) + a1)) x35_10 t115 t116 t117 = some (r1, r2)) ∧ Aside0 (kq ≤ kj4) ∧ Aside0 (wc.heap[gb113]? = some (.cells #[.int .i64 0, .int .i64 0] 69 (0, 0))) ∧ Aside0 (wc.heap[gb118]? = some (.cells #[.int .i64 t115, .int .i64 t116, .int .i64 t117] 74 (0, 0))) ∧ Aside0 (Below w.heap.size w wc))
     case first =>
      have H := HC11.out
      clear HC11
      by_cases c16 : (wrap64 ((wrap64 ((wrap64 ((wrap64 (12 * (wrap64 (t115 - 2000)))) + t116)) - 1)) + a1)) < 0
      ·
       rw [if_pos c16] at H
       have c16b0 : decide ((wrap64 ((wrap64 ((wrap64 ((wrap64 (12 * (wrap64 (t115 - 2000)))) + t116)) - 1)) + a1)) < 0) = true := decide_eq_true c16
       clear c16
       (first | rw [c16b0] | (simp only [i64_w, i32_w]; rw [c16b0]) | skip)
       have H' := Aside0.mk H
       clear H
       go_wp2
       go_meet
       case rel => exact ⟨_, (true), (by first | rfl | (simp; done) | (simp [*]; done)), H', ⟨by have := HJ4.out; first | omega | exact Nat.le_refl _⟩, ⟨by (with_reducible repeat (first | apply blk_drewN | apply blk_drew | apply blk_alloc)); refine blk_far ?_ NB113_118.out _; (with_reducible repeat (first | apply blk_drewN | apply blk_drew | apply blk_alloc)); refine blk_far ?_ NB113_118.out _; (with_reducible repeat (first | apply blk_drewN | apply blk_drew | apply blk_alloc)); refine blk_far ?_ NB113_118.out _; (with_reducible repeat (first | apply blk_drewN | apply blk_drew | apply blk_alloc)); exact BK113.out⟩, ⟨by (with_reducible repeat (first | apply blk_drewN | apply blk_drew | apply blk_alloc)); refine blk_put (cs := #[.int .i64 t115, .int .i64 t116, .int .i64 0]) ?_ 2 _ rfl; (with_reducible repeat (first | apply blk_drewN | apply blk_drew | apply blk_alloc)); refine blk_put (cs := #[.int .i64 t115, .int .i64 0, .int .i64 0]) ?_ 1 _ rfl; (with_reducible repeat (first | apply blk_drewN | apply blk_drew | apply blk_alloc)); refine blk_put (cs := #[.int .i64 0, .int .i64 0, .int .i64 0]) ?_ 0 _ rfl; (with_reducible repeat (first | apply blk_drewN | apply blk_drew | apply blk_alloc)); exact BK118.out⟩, ⟨hbm⟩⟩
      ·
       rw [if_neg c16] at H
       have c16b0 : decide ((wrap64 ((wrap64 ((wrap64 ((wrap64 (12 * (wrap64 (t115 - 2000)))) + t116)) - 1)) + a1)) < 0) = false := decide_eq_false c16
       clear c16
       (first | rw [c16b0] | (simp only [i64_w, i32_w]; rw [c16b0]) | skip)
       have H' := Aside0.mk H
       clear H
       go_wp2
       go_meet
       case rel => exact ⟨_, (decide ((wrap64 ((wrap64 ((wrap64 ((wrap64 (12 * (wrap64 (t115 - 2000)))) + t116)) - 1)) + a1)) ≥ 1200)), (by first | rfl | (simp; done) | (simp [*]; done)), H', ⟨by have := HJ4.out; first | omega | exact Nat.le_refl _⟩, ⟨by (with_reducible repeat (first | apply blk_drewN | apply blk_drew | apply blk_alloc)); refine blk_far ?_ NB113_118.out _; (with_reducible repeat (first | apply blk_drewN | apply blk_drew | apply blk_alloc)); refine blk_far ?_ NB113_118.out _; (with_reducible repeat (first | apply blk_drewN | apply blk_drew | apply blk_alloc)); refine blk_far ?_ NB113_118.out _; (with_reducible repeat (first | apply blk_drewN | apply blk_drew | apply blk_alloc)); exact BK113.out⟩, ⟨by (with_reducible repeat (first | apply blk_drewN | apply blk_drew | apply blk_alloc)); refine blk_put (cs := #[.int .i64 t115, .int .i64 t116, .int .i64 0]) ?_ 2 _ rfl; (with_reducible repeat (first | apply blk_drewN | apply blk_drew | apply blk_alloc)); refine blk_put (cs := #[.int .i64 t115, .int .i64 0, .int .i64 0]) ?_ 1 _ rfl; (with_reducible repeat (first | apply blk_drewN | apply blk_drew | apply blk_alloc)); refine blk_put (cs := #[.int .i64 0, .int .i64 0, .int .i64 0]) ?_ 0 _ rfl; (with_reducible repeat (first | apply blk_drewN | apply blk_drew | apply blk_alloc)); exact BK118.out⟩, ⟨hbm⟩⟩
     case rest =>
      clear HC11
      try clear c1; try clear p2 p2; try clear c4; try clear p6; try clear c7; try clear c7b0; try clear c8; try clear c10; try clear c14; try clear c16; try clear c16b0; try clear hcz15_0 hcz15_1 hcz15_2 hfz15_0 hfz15_1 hfz15_2; try clear hcz9_0 hcz9_1 hfz9_0 hfz9_1
      obtain ⟨kq, x35_10, rfl, HA, HJ10, BK113, BK118, HB⟩ := hcut
      cases kq with
      | zero => exact absurd HA.out (by simp [spec_DayAdd.j1])
      | succ kj10 =>
       have H := HA.out
       clear HA
       simp only [spec_DayAdd.j1] at H
       by_cases c17 : x35_10 = true
       ·
        subst c17
        have H1 : (some (0, 13)) = some (r1, r2) := by rw [if_pos rfl] at H; exact H
        clear H
        have H := H1
        clear H1
        simp only [Option.some.injEq, Prod.mk.injEq] at H
        obtain ⟨rfl, rfl⟩ := H
        have hnb18 := NB113_118.out
        have hnc18 := NB118_113.out
        obtain ⟨hcz19_0, hcz19_1, hfz19_0, hfz19_1⟩ := bc2 BK113.out
        go_wp2
        refine bodyPost_ret (results_cell_row rfl _ _ gb113 69 #[.int .i64 0, .int .i64 13] (0, 0) _ rfl (by (with_reducible repeat (first | apply blk_drewN | apply blk_drew | apply blk_alloc)); refine blk_put (cs := #[.int .i64 0, .int .i64 0]) ?_ 1 _ rfl; (with_reducible repeat (first | apply blk_drewN | apply blk_drew | apply blk_alloc)); refine blk_put (cs := #[.int .i64 0, .int .i64 0]) ?_ 0 _ rfl; (with_reducible repeat (first | apply blk_drewN | apply blk_drew | apply blk_alloc)); exact BK113.out) Tryd.underlying69 rfl (by kernel_rfl)) rfl ?_
        exact ⟨rfm, hbm⟩
       ·
        replace c17 := Bool.eq_false_iff.mpr c17
        subst c17
        have H1 : ((spec_l03Len.f (wrap64 (2000 + (wrap64 (Int.tdiv (wrap64 ((wrap64 ((wrap64 ((wrap64 (12 * (wrap64 (t115 - 2000)))) + t116)) - 1)) + a1)) 12)))) (wrap64 ((Int.tmod (wrap64 ((wrap64 ((wrap64 ((wrap64 (12 * (wrap64 (t115 - 2000)))) + t116)) - 1)) + a1)) 12) + 1))).bind fun t119 => ((spec_l01Min.f t117 t119).bind fun t120 => ((spec_l03Day.f kj10 (wrap64 (2000 + (wrap64 (Int.tdiv (wrap64 ((wrap64 ((wrap64 ((wrap64 (12 * (wrap64 (t115 - 2000)))) + t116)) - 1)) + a1)) 12)))) (wrap64 ((Int.tmod (wrap64 ((wrap64 ((wrap64 ((wrap64 (12 * (wrap64 (t115 - 2000)))) + t116)) - 1)) + a1)) 12) + 1)) t120).bind fun t121 => (some (t121, 0))))) = some (r1, r2) := by rw [if_neg (show ¬ (false = true) by decide)] at H; exact H
        clear H
        have H := H1
        clear H1
        replace H := Option.bind_eq_some_iff.mp H
        obtain ⟨t119, A200, H⟩ := H
        (try dsimp only at H)
        have A20 := Aside0.mk A200
        clear A200
        replace H := Option.bind_eq_some_iff.mp H
        obtain ⟨t120, A210, H⟩ := H
        (try dsimp only at H)
        have A21 := Aside0.mk A210
        clear A210
        replace H := Option.bind_eq_some_iff.mp H
        obtain ⟨t121, A220, H⟩ := H
        (try dsimp only at H)
        have A22 := Aside0.mk A220
        clear A220
        simp only [Option.some.injEq, Prod.mk.injEq] at H
        obtain ⟨rfl, rfl⟩ := H
        have hnb23 := NB118_113.out
        have hnc23 := NB113_118.out
        obtain ⟨hcz24_0, hcz24_1, hcz24_2, hfz24_0, hfz24_1, hfz24_2⟩ := bc3 BK118.out
        try go_wp2
        have n0_ : Aside0 (((wc.setCell ⟨gb118, 0, none⟩ (.int .i64 (wrap64 (2000 + (wrap64 (Int.tdiv (wrap64 ((wrap64 ((wrap64 ((wrap64 (12 * (wrap64 (t115 - 2000)))) + t116)) - 1)) + a1)) 12)))))).setCell ⟨gb118, 1, none⟩ (.int .i64 (wrap64 ((Int.tmod (wrap64 ((wrap64 ((wrap64 ((wrap64 (12 * (wrap64 (t115 - 2000)))) + t116)) - 1)) + a1)) 12) + 1)))).heap[gb113]? = some (.cells #[.int .i64 0, .int .i64 0] 69 (0, 0))) := ⟨by (with_reducible repeat (first | apply blk_drewN | apply blk_drew | apply blk_alloc)); refine blk_far ?_ NB113_118.out _; (with_reducible repeat (first | apply blk_drewN | apply blk_drew | apply blk_alloc)); refine blk_far ?_ NB113_118.out _; (with_reducible repeat (first | apply blk_drewN | apply blk_drew | apply blk_alloc)); exact BK113.out⟩
        have n1_ : Aside0 (((wc.setCell ⟨gb118, 0, none⟩ (.int .i64 (wrap64 (2000 + (wrap64 (Int.tdiv (wrap64 ((wrap64 ((wrap64 ((wrap64 (12 * (wrap64 (t115 - 2000)))) + t116)) - 1)) + a1)) 12)))))).setCell ⟨gb118, 1, none⟩ (.int .i64 (wrap64 ((Int.tmod (wrap64 ((wrap64 ((wrap64 ((wrap64 (12 * (wrap64 (t115 - 2000)))) + t116)) - 1)) + a1)) 12) + 1)))).heap[gb118]? = some (.cells #[.int .i64 (wrap64 (2000 + (wrap64 (Int.tdiv (wrap64 ((wrap64 ((wrap64 ((wrap64 (12 * (wrap64 (t115 - 2000)))) + t116)) - 1)) + a1)) 12)))), .int .i64 (wrap64 ((Int.tmod (wrap64 ((wrap64 ((wrap64 ((wrap64 (12 * (wrap64 (t115 - 2000)))) + t116)) - 1)) + a1)) 12) + 1)), .int .i64 t117] 74 (0, 0))) := ⟨by (with_reducible repeat (first | apply blk_drewN | apply blk_drew | apply blk_alloc)); refine blk_put (cs := #[.int .i64 (wrap64 (2000 + (wrap64 (Int.tdiv (wrap64 ((wrap64 ((wrap64 ((wrap64 (12 * (wrap64 (t115 - 2000)))) + t116)) - 1)) + a1)) 12)))), .int .i64 t116, .int .i64 t117]) ?_ 1 _ rfl; (with_reducible repeat (first | apply blk_drewN | apply blk_drew | apply blk_alloc)); refine blk_put (cs := #[.int .i64 t115, .int .i64 t116, .int .i64 t117]) ?_ 0 _ rfl; (with_reducible repeat (first | apply blk_drewN | apply blk_drew | apply blk_alloc)); exact BK118.out⟩
        have n2_ : Aside0 (Below w.heap.size w ((wc.setCell ⟨gb118, 0, none⟩ (.int .i64 (wrap64 (2000 + (wrap64 (Int.tdiv (wrap64 ((wrap64 ((wrap64 ((wrap64 (12 * (wrap64 (t115 - 2000)))) + t116)) - 1)) + a1)) 12)))))).setCell ⟨gb118, 1, none⟩ (.int .i64 (wrap64 ((Int.tmod (wrap64 ((wrap64 ((wrap64 ((wrap64 (12 * (wrap64 (t115 - 2000)))) + t116)) - 1)) + a1)) 12) + 1))))) := ⟨hbm⟩
        (try clear BK113)
        (try clear BK118)
        (try clear HB)
        generalize ((wc.setCell ⟨gb118, 0, none⟩ (.int .i64 (wrap64 (2000 + (wrap64 (Int.tdiv (wrap64 ((wrap64 ((wrap64 ((wrap64 (12 * (wrap64 (t115 - 2000)))) + t116)) - 1)) + a1)) 12)))))).setCell ⟨gb118, 1, none⟩ (.int .i64 (wrap64 ((Int.tmod (wrap64 ((wrap64 ((wrap64 ((wrap64 (12 * (wrap64 (t115 - 2000)))) + t116)) - 1)) + a1)) 12) + 1)))) = w25 at n0_ n1_ n2_ ⊢
        have BK113 := n0_
        have BK118 := n1_
        have HB := n2_
        clear n0_ n1_ n2_
        have n0_ := Aside0.mk (blk_drew BK113.out)
        have n1_ := Aside0.mk (blk_drew BK118.out)
        have n2_ := Aside0.mk (below_drew1 HB.out)
        clear BK113
        clear BK118
        clear HB
        have BK113 := n0_
        have BK118 := n1_
        have HB := n2_
        clear n0_ n1_ n2_
        refine start_ (n := 10) (S := fun w' => w'.cell? ⟨gb118, 0, none⟩ = some (.int .i64 (wrap64 (2000 + (wrap64 (Int.tdiv (wrap64 ((wrap64 ((wrap64 ((wrap64 (12 * (wrap64 (t115 - 2000)))) + t116)) - 1)) + a1)) 12))))) ∧ w'.cell? ⟨gb118, 1, none⟩ = some (.int .i64 (wrap64 ((Int.tmod (wrap64 ((wrap64 ((wrap64 ((wrap64 (12 * (wrap64 (t115 - 2000)))) + t116)) - 1)) + a1)) 12) + 1))) ∧ w'.cell? ⟨gb118, 2, none⟩ = some (.int .i64 t117)) (ds := [9]) #[false, false, false, false, false, false, false, false, false, false] (by kernel_rfl) rfl rfl ⟨(blk_cell BK118.out 0).trans rfl, (blk_cell BK118.out 1).trans rfl, (blk_cell BK118.out 2).trans rfl⟩ (fun hHeld => ?_); refine with_tabW spec_DayAdd.tab11 spec_DayAdd.bits11 (fun HT_ HW_ => ?_)
        generalize w25.drew = w26 at BK113 BK118 HB hHeld ⊢
        refine pur (i := 0) (N := some 45) #[true, false, false, false, false, false, false, false, false, false] (any_of HT_.out (by kernel_rfl)) ?_
        refine pur (i := 2) (N := some 47) #[true, false, true, false, false, false, false, false, false, false] (any_of HT_.out (by kernel_rfl)) ?_
        refine pur (i := 4) (N := some 49) #[true, false, true, false, true, false, false, false, false, false] (any_of HT_.out (by kernel_rfl)) ?_
        refine tak3 (i := 1) (N := some 46) #[true, true, true, false, true, false, false, false, false, false] (take_ofW HT_.out HW_.out (by kernel_rfl)) hHeld ?_
        refine tak3 (i := 3) (N := some 48) #[true, true, true, true, true, false, false, false, false, false] (take_ofW HT_.out HW_.out (by kernel_rfl)) hHeld ?_
        refine tak3 (i := 5) (N := some 50) #[true, true, true, true, true, true, false, false, false, false] (take_ofW HT_.out HW_.out (by kernel_rfl)) hHeld ?_
        refine one_ (i := 6) (N := some 51) #[true, true, true, true, true, true, true, false, false, false] rfl rfl (one_of HT_.out (by kernel_rfl)) (by decide) (fun K hK => ?_)
        refine goes_ Tryd.func111 (by kernel_rfl) rfl #[.int .i64 (wrap64 (2000 + (wrap64 (Int.tdiv (wrap64 ((wrap64 ((wrap64 ((wrap64 (12 * (wrap64 (t115 - 2000)))) + t116)) - 1)) + a1)) 12)))), .int .i64 (wrap64 ((Int.tmod (wrap64 ((wrap64 ((wrap64 ((wrap64 (12 * (wrap64 (t115 - 2000)))) + t116)) - 1)) + a1)) 12) + 1))] (by rfl) rfl rfl glm ?_
        with_reducible refine (spec_l03Len.calls (wrap64 (2000 + (wrap64 (Int.tdiv (wrap64 ((wrap64 ((wrap64 ((wrap64 (12 * (wrap64 (t115 - 2000)))) + t116)) - 1)) + a1)) 12)))) (wrap64 ((Int.tmod (wrap64 ((wrap64 ((wrap64 ((wrap64 (12 * (wrap64 (t115 - 2000)))) + t116)) - 1)) + a1)) 12) + 1)) t119 _ A20.out).mono ?_
        rintro e w' ⟨rfl, ⟨nd, rfl⟩⟩
        refine ⟨_, rfl, ?_⟩
        refine hK.out _ _ ⟨(blk_cell BK118.out 0).trans rfl, (blk_cell BK118.out 1).trans rfl, (blk_cell BK118.out 2).trans rfl⟩ (fun hHeld => ?_)
        clear hK K
        refine norm_ (a' := ?_) ?_ ?_
        rotate_left
        ·
         show Act.put _ (some 51) _ = _
         simp only [Act.put, List.setIfInBounds_toArray, List.set_cons_zero, List.set_cons_succ, i64_w, i32_w]
         rfl
        refine one_ (i := 7) (N := some 52) #[true, true, true, true, true, true, true, true, false, false] rfl rfl (one_of HT_.out (by kernel_rfl)) (by decide) (fun K hK => ?_)
        refine goes_ Tryd.func209 (by kernel_rfl) rfl #[.int .i64 t117, .int .i64 t119] (by rfl) rfl rfl glm ?_
        with_reducible refine (spec_l01Min.calls t117 t119 t120 _ A21.out).mono ?_
        rintro e w' ⟨rfl, ⟨nd, rfl⟩⟩
        refine ⟨_, rfl, ?_⟩
        refine hK.out _ _ ⟨(blk_cell BK118.out 0).trans rfl, (blk_cell BK118.out 1).trans rfl, (blk_cell BK118.out 2).trans rfl⟩ (fun hHeld => ?_)
        clear hK K
        refine norm_ (a' := ?_) ?_ ?_
        rotate_left
        ·
         show Act.put _ (some 52) _ = _
         simp only [Act.put, List.setIfInBounds_toArray, List.set_cons_zero, List.set_cons_succ, i64_w, i32_w]
         rfl
        refine pur (i := 8) (N := some 53) #[true, true, true, true, true, true, true, true, true, false] (any_of HT_.out (by kernel_rfl)) ?_
        refine last_ (i := 9) (N := none) #[true, true, true, true, true, true, true, true, true, true] rfl rfl (one_of HT_.out (by kernel_rfl)) (by decide) (fun K hK => ?_)
        have hs27 : w26.cell? ⟨gb118, 2, none⟩ = some (.int .i64 t117) := (blk_cell BK118.out 2).trans rfl
        have hfs27 := blk_frozen BK118.out 2
        have hns27_0 := NB113_118.out
        have hms27_0 := NB118_113.out
        refine skip_ (w1 := ?_) (by rfl) rfl ?_ ?_
        rotate_left
        ·
         go_simp
         rfl
        refine hK.out _ _ ?_
        clear hK K
        refine done_ (done_of HT_.out (by kernel_rfl)) ?_
        obtain ⟨hcz28_0, hcz28_1, hcz28_2, hfz28_0, hfz28_1, hfz28_2⟩ := bc3 BK118.out
        try go_wp2_with (first | ((with_reducible refine gate_callee (f := 162) rfl ?_); refine goesL_ (some 55) rfl rfl Tryd.func162 (by kernel_rfl) rfl #[.agg #[.int .i64 (wrap64 (2000 + (wrap64 (Int.tdiv (wrap64 ((wrap64 ((wrap64 ((wrap64 (12 * (wrap64 (t115 - 2000)))) + t116)) - 1)) + a1)) 12)))), .int .i64 (wrap64 ((Int.tmod (wrap64 ((wrap64 ((wrap64 ((wrap64 (12 * (wrap64 (t115 - 2000)))) + t116)) - 1)) + a1)) 12) + 1)), .int .i64 t120]] rfl glm ?_; (with_reducible refine (spec_l03Day.calls kj10 (wrap64 (2000 + (wrap64 (Int.tdiv (wrap64 ((wrap64 ((wrap64 ((wrap64 (12 * (wrap64 (t115 - 2000)))) + t116)) - 1)) + a1)) 12)))) (wrap64 ((Int.tmod (wrap64 ((wrap64 ((wrap64 ((wrap64 (12 * (wrap64 (t115 - 2000)))) + t116)) - 1)) + a1)) 12) + 1)) t120 t121 _ A22.out).mono ?_); rintro e w29 ⟨rfl, hb⟩; refine ⟨_, rfl, ?_⟩; have n0_ := Aside0.mk (blk_below (g := gb113) (o := .cells #[.int .i64 0, .int .i64 0] 69 (0, 0)) (by (with_reducible repeat (first | apply blk_drewN | apply blk_drew | apply blk_alloc)); refine blk_far ?_ NB113_118.out _; (with_reducible repeat (first | apply blk_drewN | apply blk_drew | apply blk_alloc)); exact BK113.out) hb); have n1_ := Aside0.mk (blk_below (g := gb118) (o := .cells #[.int .i64 (wrap64 (2000 + (wrap64 (Int.tdiv (wrap64 ((wrap64 ((wrap64 ((wrap64 (12 * (wrap64 (t115 - 2000)))) + t116)) - 1)) + a1)) 12)))), .int .i64 (wrap64 ((Int.tmod (wrap64 ((wrap64 ((wrap64 ((wrap64 (12 * (wrap64 (t115 - 2000)))) + t116)) - 1)) + a1)) 12) + 1)), .int .i64 t120] 74 (0, 0)) (by (with_reducible repeat (first | apply blk_drewN | apply blk_drew | apply blk_alloc)); refine blk_put (cs := #[.int .i64 (wrap64 (2000 + (wrap64 (Int.tdiv (wrap64 ((wrap64 ((wrap64 ((wrap64 (12 * (wrap64 (t115 - 2000)))) + t116)) - 1)) + a1)) 12)))), .int .i64 (wrap64 ((Int.tmod (wrap64 ((wrap64 ((wrap64 ((wrap64 (12 * (wrap64 (t115 - 2000)))) + t116)) - 1)) + a1)) 12) + 1)), .int .i64 t117]) ?_ 2 _ rfl; (with_reducible repeat (first | apply blk_drewN | apply blk_drew | apply blk_alloc)); exact BK118.out) hb); have n2_ := bst hb; clear BK113; clear BK118; clear HB; have BK113 := n0_; have BK118 := n1_; have HB := n2_; clear n0_ n1_ n2_; (try clear hb); (try clear hb2); (try clear hk); (try clear hi); obtain ⟨hcz30_0, hcz30_1, hfz30_0, hfz30_1⟩ := bc2 BK113.out))
        refine bodyPost_ret (results_cell_row rfl _ _ gb113 69 #[.int .i64 t121, .int .i64 0] (0, 0) _ rfl (by (with_reducible repeat (first | apply blk_drewN | apply blk_drew | apply blk_alloc)); refine blk_put (cs := #[.int .i64 t121, .int .i64 0]) ?_ 1 _ rfl; (with_reducible repeat (first | apply blk_drewN | apply blk_drew | apply blk_alloc)); refine blk_put (cs := #[.int .i64 0, .int .i64 0]) ?_ 0 _ rfl; (with_reducible repeat (first | apply blk_drewN | apply blk_drew | apply blk_alloc)); exact BK113.out) Tryd.underlying69 rfl (by kernel_rfl)) rfl ?_
        exact ⟨rfm, hbm⟩
 ·
  replace c4 := Bool.eq_false_iff.mpr c4
  subst c4
  have H1 : (some (0, 1)) = some (r1, r2) := by rw [if_neg (show ¬ (false = true) by decide)] at H; exact H
  clear H
  have H := H1
  clear H1
  simp only [Option.some.injEq, Prod.mk.injEq] at H
  obtain ⟨rfl, rfl⟩ := H
  go_enter Tryd.func171, Tryd.ntmps171
  go_wp2_with (first | ((with_reducible refine gate_dst (N := 4) rfl ?_); refine bxe (N := 4) (cs := #[.int .i64 0, .int .i64 0]) (t := 69) ?_; intro gb113 hg w31 hbox hb; have n0_ := bst hb; have n1_ := Aside0.mk (hbox); have n2_ := (bsz hg : Aside0 (w.heap.size ≤ gb113)); have n3_ := n2_; clear HB; have HB := n0_; have BK113 := n1_; have GW113 := n2_; have GE113 := n3_; clear n0_ n1_ n2_ n3_; clear hb hbox hg) | ((with_reducible refine gate_callee (f := 109) rfl ?_); refine goesL_ (some 8) rfl rfl Tryd.func109 (by kernel_rfl) rfl #[.int .i64 a0] rfl glm ?_; (with_reducible refine (spec_l03Right.calls a0 false _ A3.out).mono ?_); rintro e w' ⟨rfl, ⟨nd, rfl⟩⟩; refine ⟨_, rfl, ?_⟩; (try (rw [drewN_self w31]; generalize hq_ : World.drewN w31 _ = w31; have n0_ : Aside0 (w31.heap[gb113]? = some (.cells #[.int .i64 0, .int .i64 0] 69 (0, 0))) := ⟨by rw [← hq_]; exact (by (with_reducible repeat (first | apply blk_drewN | apply blk_drew | apply blk_alloc)); exact BK113.out)⟩; have n1_ : Aside0 (Below w.heap.size w w31) := ⟨by rw [← hq_]; exact hbm⟩; clear BK113 HB hq_; have BK113 := n0_; have HB := n1_; clear n0_ n1_)); obtain ⟨hcz32_0, hcz32_1, hfz32_0, hfz32_1⟩ := bc2 BK113.out))
  refine bodyPost_ret (results_cell_row rfl _ _ gb113 69 #[.int .i64 0, .int .i64 1] (0, 0) _ rfl (by (with_reducible repeat (first | apply blk_drewN | apply blk_drew | apply blk_alloc)); refine blk_put (cs := #[.int .i64 0, .int .i64 0]) ?_ 1 _ rfl; (with_reducible repeat (first | apply blk_drewN | apply blk_drew | apply blk_alloc)); refine blk_put (cs := #[.int .i64 0, .int .i64 0]) ?_ 0 _ rfl; (with_reducible repeat (first | apply blk_drewN | apply blk_drew | apply blk_alloc)); exact BK113.out) Tryd.underlying69 rfl (by kernel_rfl)) rfl ?_
  exact ⟨rfm, hbm⟩

theorem spec_LoanRight.fld69_1 (w : World) (x0 : Int) (x1 : Int) : (Instr.field 69 (.agg #[.int .i64 x0, .int .i64 x1]) 1).run Tryd.prog w = .ok (.int .i64 x1) w := by kernel_rfl
attribute [local go_sem] spec_LoanRight.fld69_1
/-! ### spec_LoanRight: function 121 -/
def spec_LoanRight.f (k : Nat) (a0_0 : Int) (a0_1 : Int) (a0_2 : Int) (a0_3 : Int) (a0_4 : Int) : Option (Bool) := if a0_0 ≥ 1 then (if a0_0 ≤ 10000000000 then (if a0_1 ≥ 0 then (if a0_1 ≤ 500000 then (if a0_2 ≥ 1 then (if a0_2 ≤ 3 then (if a0_4 ≥ 1 then (if a0_4 ≤ 60 then ((spec_l03Right.f a0_3).bind fun t123 => (if t123 = true then ((spec_DayAdd.f k a0_3 a0_4).bind fun bt124 => (some (bt124.2 == 0))) else (some false))) else (some false)) else (some false)) else (some false)) else (some false)) else (some false)) else (some false)) else (some false)) else (some false)
theorem spec_LoanRight.mono : ∀ a0 a1 a2 a3 a4 k, LeO (spec_LoanRight.f k a0 a1 a2 a3 a4) (spec_LoanRight.f (k + 1) a0 a1 a2 a3 a4) := by
 intro a0 a1 a2 a3 a4 k
 unfold spec_LoanRight.f
 repeat' first
   | (with_reducible exact spec_DayAdd.mono _ _ _)
   | (with_reducible exact LeO.refl _)
   | (with_reducible exact LeO.none _)
   | (with_reducible refine LeO.ite ?_ ?_)
   | (with_reducible refine LeO.bind ?_ (fun _ => ?_))
   | exact spec_DayAdd.mono _ _ _
   | exact LeO.none _
   | refine LeO.ite ?_ ?_
   | refine LeO.bind ?_ (fun _ => ?_)
theorem spec_LoanRight.m0 {P : Prop} (h : P := by
  go_enter Tryd.func121, Tryd.ntmps121
  go_wp2_with (first | ((with_reducible refine gate_dst (N := 1) rfl ?_); refine bxe (N := 1) (cs := #[.int .i64 a0_0, .int .i64 a0_1, .int .i64 a0_2, .int .i64 a0_3, .int .i64 a0_4]) (t := 90) ?_; intro gb122 hg wq1 hbox hb; have n0_ := bst hb; have n1_ := Aside0.mk (hbox); have n2_ := (bsz hg : Aside0 (w.heap.size ≤ gb122)); have n3_ := n2_; clear HB; have HB := n0_; have BK122 := n1_; have GW122 := n2_; have GE122 := n3_; clear n0_ n1_ n2_ n3_; clear hb hbox hg; obtain ⟨hczq1_0, hczq1_1, hczq1_2, hczq1_3, hczq1_4, hfzq1_0, hfzq1_1, hfzq1_2, hfzq1_3, hfzq1_4⟩ := bc5 BK122.out) | (go_at_call 109; (with_reducible refine (spec_l03Right.calls a0_3 false _ A10.out).mono ?_); rintro e w' ⟨rfl, ⟨nd, rfl⟩⟩) | (go_at_call 109; (with_reducible refine (spec_l03Right.calls a0_3 true _ A10.out).mono ?_); rintro e w' ⟨rfl, ⟨nd, rfl⟩⟩) | (go_at_call 171; (with_reducible refine (spec_DayAdd.calls k a0_3 a0_4 t124 t125 _ A12.out).mono ?_); rintro e wq1 ⟨rfl, hb⟩; have n0_ := bkb BK122 hb; have n1_ := bst hb; clear BK122; clear HB; have BK122 := n0_; have HB := n1_; clear n0_ n1_; (try clear hb); (try clear hb2); (try clear hk); (try clear hi)))
  go_ret
  exact ⟨rfm, hbm⟩) : P := h
set_option maxHeartbeats 8000000 in
set_option maxRecDepth 100000 in
theorem spec_LoanRight.calls (k : Nat) (a0_0 : Int) (a0_1 : Int) (a0_2 : Int) (a0_3 : Int) (a0_4 : Int) (r : Bool) (w : World) (h : spec_LoanRight.f k a0_0 a0_1 a0_2 a0_3 a0_4 = some r) :
  Calls Tryd.prog 121 #[.agg #[.int .i64 a0_0, .int .i64 a0_1, .int .i64 a0_2, .int .i64 a0_3, .int .i64 a0_4]] w fun e w' => e = .returned (.bool r) ∧ Below w.heap.size w w' := by
 have hu90 := Tryd.underlying90
 have hu69 := Tryd.underlying69
 have HB := Aside0.mk (Below.refl w.heap.size w)
 have H : (if a0_0 ≥ 1 then (if a0_0 ≤ 10000000000 then (if a0_1 ≥ 0 then (if a0_1 ≤ 500000 then (if a0_2 ≥ 1 then (if a0_2 ≤ 3 then (if a0_4 ≥ 1 then (if a0_4 ≤ 60 then ((spec_l03Right.f a0_3).bind fun t123 => (if t123 = true then ((spec_DayAdd.f k a0_3 a0_4).bind fun bt124 => (some (bt124.2 == 0))) else (some false))) else (some false)) else (some false)) else (some false)) else (some false)) else (some false)) else (some false)) else (some false)) else (some false)) = some r := h
 clear h
 by_cases c2 : a0_0 ≥ 1
 ·
  rw [if_pos c2] at H
  have c2b0 : decide (1 ≤ a0_0) = true := decide_eq_true c2
  clear c2
  by_cases c3 : a0_0 ≤ 10000000000
  ·
   rw [if_pos c3] at H
   have c3b0 : decide (a0_0 ≤ 10000000000) = true := decide_eq_true c3
   clear c3
   by_cases c4 : a0_1 ≥ 0
   ·
    rw [if_pos c4] at H
    have c4b0 : decide (0 ≤ a0_1) = true := decide_eq_true c4
    clear c4
    by_cases c5 : a0_1 ≤ 500000
    ·
     rw [if_pos c5] at H
     have c5b0 : decide (a0_1 ≤ 500000) = true := decide_eq_true c5
     clear c5
     by_cases c6 : a0_2 ≥ 1
     ·
      rw [if_pos c6] at H
      have c6b0 : decide (1 ≤ a0_2) = true := decide_eq_true c6
      clear c6
      by_cases c7 : a0_2 ≤ 3
      ·
       rw [if_pos c7] at H
       have c7b0 : decide (a0_2 ≤ 3) = true := decide_eq_true c7
       clear c7
       by_cases c8 : a0_4 ≥ 1
       ·
        rw [if_pos c8] at H
        have c8b0 : decide (1 ≤ a0_4) = true := decide_eq_true c8
        clear c8
        by_cases c9 : a0_4 ≤ 60
        ·
         rw [if_pos c9] at H
         have c9b0 : decide (a0_4 ≤ 60) = true := decide_eq_true c9
         clear c9
         replace H := Option.bind_eq_some_iff.mp H
         obtain ⟨t123, A100, H⟩ := H
         (try dsimp only at H)
         have A10 := Aside0.mk A100
         clear A100
         by_cases c11 : t123 = true
         ·
          subst c11
          have H1 : ((spec_DayAdd.f k a0_3 a0_4).bind fun bt124 => (some (bt124.2 == 0))) = some r := by rw [if_pos rfl] at H; exact H
          clear H
          have H := H1
          clear H1
          replace H := Option.bind_eq_some_iff.mp H
          obtain ⟨⟨t124, t125⟩, A120, H⟩ := H
          (try dsimp only at H)
          have A12 := Aside0.mk A120
          clear A120
          obtain rfl := Option.some.inj H
          exact spec_LoanRight.m0
         ·
          replace c11 := Bool.eq_false_iff.mpr c11
          subst c11
          have H1 : (some false) = some r := by rw [if_neg (show ¬ (false = true) by decide)] at H; exact H
          clear H
          have H := H1
          clear H1
          obtain rfl := Option.some.inj H
          exact spec_LoanRight.m0
        ·
         rw [if_neg c9] at H
         have c9b0 : decide (a0_4 ≤ 60) = false := decide_eq_false c9
         clear c9
         obtain rfl := Option.some.inj H
         exact spec_LoanRight.m0
       ·
        rw [if_neg c8] at H
        have c8b0 : decide (1 ≤ a0_4) = false := decide_eq_false c8
        clear c8
        obtain rfl := Option.some.inj H
        exact spec_LoanRight.m0
      ·
       rw [if_neg c7] at H
       have c7b0 : decide (a0_2 ≤ 3) = false := decide_eq_false c7
       clear c7
       obtain rfl := Option.some.inj H
       exact spec_LoanRight.m0
     ·
      rw [if_neg c6] at H
      have c6b0 : decide (1 ≤ a0_2) = false := decide_eq_false c6
      clear c6
      obtain rfl := Option.some.inj H
      exact spec_LoanRight.m0
    ·
     rw [if_neg c5] at H
     have c5b0 : decide (a0_1 ≤ 500000) = false := decide_eq_false c5
     clear c5
     obtain rfl := Option.some.inj H
     exact spec_LoanRight.m0
   ·
    rw [if_neg c4] at H
    have c4b0 : decide (0 ≤ a0_1) = false := decide_eq_false c4
    clear c4
    obtain rfl := Option.some.inj H
    exact spec_LoanRight.m0
  ·
   rw [if_neg c3] at H
   have c3b0 : decide (a0_0 ≤ 10000000000) = false := decide_eq_false c3
   clear c3
   obtain rfl := Option.some.inj H
   exact spec_LoanRight.m0
 ·
  rw [if_neg c2] at H
  have c2b0 : decide (1 ≤ a0_0) = false := decide_eq_false c2
  clear c2
  obtain rfl := Option.some.inj H
  exact spec_LoanRight.m0

/-! ### spec_LibText: function 122 -/
def spec_LibText.f (a0 : ByteArray) : Option (ByteArray) := if a0.toList = ([97, 110, 110, 117, 105, 116, 121] : List UInt8) then (some (⟨#[112, 114, 111, 100, 117, 99, 116, 32, 97, 110, 110, 117, 105, 116, 121, 32, 98, 97, 115, 105, 115, 32, 49, 32, 123, 32, 99, 111, 110, 116, 114, 97, 32, 105, 110, 99, 111, 109, 101, 32, 59, 32, 99, 111, 110, 116, 114, 97, 32, 116, 105, 108, 108, 32, 59, 32, 115, 108, 111, 116, 32, 100, 117, 101, 32, 59, 32, 115, 108, 111, 116, 32, 111, 119, 101, 100, 32, 59, 32, 112, 97, 114, 97, 109, 32, 121, 101, 97, 114, 108, 121, 32, 114, 97, 116, 101, 32, 48, 46, 48, 48, 48, 48, 37, 32, 53, 48, 46, 48, 48, 48, 48, 37, 32, 59, 32, 112, 97, 114, 97, 109, 32, 116, 101, 114, 109, 32, 105, 110, 116, 32, 49, 32, 54, 48, 32, 59, 32, 112, 97, 114, 97, 109, 32, 115, 116, 97, 114, 116, 32, 100, 97, 116, 101, 32, 50, 48, 48, 48, 45, 48, 49, 45, 48, 49, 32, 50, 48, 57, 57, 45, 49, 50, 45, 51, 49, 32, 59, 32, 111, 112, 101, 110, 32, 123, 32, 105, 102, 32, 40, 32, 40, 32, 116, 111, 100, 97, 121, 32, 61, 32, 115, 116, 97, 114, 116, 32, 41, 32, 97, 110, 100, 32, 40, 32, 48, 46, 48, 48, 32, 60, 32, 97, 109, 111, 117, 110, 116, 32, 41, 32, 41, 32, 123, 32, 112, 111, 115, 116, 32, 97, 109, 111, 117, 110, 116, 32, 102, 114, 111, 109, 32, 116, 105, 108, 108, 32, 116, 111, 32, 111, 119, 101, 100, 32, 59, 32, 110, 101, 120, 116, 32, 108, 97, 116, 101, 114, 32, 40, 32, 115, 116, 97, 114, 116, 32, 49, 32, 41, 32, 59, 32, 125, 32, 101, 108, 115, 101, 32, 123, 32, 114, 101, 106, 101, 99, 116, 32, 49, 32, 59, 32, 125, 32, 125, 32, 112, 97, 121, 32, 123, 32, 108, 101, 116, 32, 102, 105, 110, 101, 32, 61, 32, 108, 101, 97, 115, 116, 32, 40, 32, 97, 109, 111, 117, 110, 116, 32, 98, 97, 108, 32, 100, 117, 101, 32, 41, 32, 59, 32, 108, 101, 116, 32, 114, 101, 115, 116, 32, 61, 32, 40, 32, 97, 109, 111, 117, 110, 116, 32, 45, 32, 102, 105, 110, 101, 32, 41, 32, 59, 32, 105, 102, 32, 40, 32, 98, 97, 108, 32, 111, 119, 101, 100, 32, 60, 32, 114, 101, 115, 116, 32, 41, 32, 123, 32, 114, 101, 106, 101, 99, 116, 32, 50, 32, 59, 32, 125, 32, 101, 108, 115, 101, 32, 123, 32, 112, 111, 115, 116, 32, 102, 105, 110, 101, 32, 102, 114, 111, 109, 32, 100, 117, 101, 32, 116, 111, 32, 116, 105, 108, 108, 32, 59, 32, 112, 111, 115, 116, 32, 114, 101, 115, 116, 32, 102, 114, 111, 109, 32, 111, 119, 101, 100, 32, 116, 111, 32, 116, 105, 108, 108, 32, 59, 32, 125, 32, 125, 32, 116, 105, 99, 107, 32, 123, 32, 112, 111, 115, 116, 32, 105, 110, 116, 101, 114, 101, 115, 116, 32, 40, 32, 98, 97, 108, 32, 111, 119, 101, 100, 32, 121, 101, 97, 114, 108, 121, 32, 115, 105, 110, 99, 101, 32, 116, 111, 100, 97, 121, 32, 41, 32, 102, 114, 111, 109, 32, 105, 110, 99, 111, 109, 101, 32, 116, 111, 32, 100, 117, 101, 32, 59, 32, 105, 102, 32, 40, 32, 40, 32, 99, 111, 117, 110, 116, 32, 43, 32, 49, 32, 41, 32, 60, 32, 116, 101, 114, 109, 32, 41, 32, 123, 32, 110, 101, 120, 116, 32, 108, 97, 116, 101, 114, 32, 40, 32, 115, 116, 97, 114, 116, 32, 40, 32, 99, 111, 117, 110, 116, 32, 43, 32, 50, 32, 41, 32, 41, 32, 59, 32, 125, 32, 101, 108, 115, 101, 32, 123, 32, 125, 32, 125, 32, 125]⟩ : ByteArray)) else (if a0.toList = ([98, 117, 108, 108, 101, 116] : List UInt8) then (some (⟨#[112, 114, 111, 100, 117, 99, 116, 32, 98, 117, 108, 108, 101, 116, 32, 98, 97, 115, 105, 115, 32, 50, 32, 123, 32, 99, 111, 110, 116, 114, 97, 32, 105, 110, 99, 111, 109, 101, 32, 59, 32, 99, 111, 110, 116, 114, 97, 32, 116, 105, 108, 108, 32, 59, 32, 115, 108, 111, 116, 32, 100, 117, 101, 32, 59, 32, 115, 108, 111, 116, 32, 111, 119, 101, 100, 32, 59, 32, 112, 97, 114, 97, 109, 32, 121, 101, 97, 114, 108, 121, 32, 114, 97, 116, 101, 32, 48, 46, 48, 48, 48, 48, 37, 32, 53, 48, 46, 48, 48, 48, 48, 37, 32, 59, 32, 112, 97, 114, 97, 109, 32, 108, 97, 115, 116, 32, 100, 97, 116, 101, 32, 50, 48, 48, 48, 45, 48, 49, 45, 48, 49, 32, 50, 48, 57, 57, 45, 49, 50, 45, 51, 49, 32, 59, 32, 111, 112, 101, 110, 32, 123, 32, 105, 102, 32, 40, 32, 40, 32, 116, 111, 100, 97, 121, 32, 60, 32, 108, 97, 115, 116, 32, 41, 32, 97, 110, 100, 32, 40, 32, 48, 46, 48, 48, 32, 60, 32, 97, 109, 111, 117, 110, 116, 32, 41, 32, 41, 32, 123, 32, 112, 111, 115, 116, 32, 97, 109, 111, 117, 110, 116, 32, 102, 114, 111, 109, 32, 116, 105, 108, 108, 32, 116, 111, 32, 111, 119, 101, 100, 32, 59, 32, 110, 101, 120, 116, 32, 108, 97, 115, 116, 32, 59, 32, 125, 32, 101, 108, 115, 101, 32, 123, 32, 114, 101, 106, 101, 99, 116, 32, 49, 32, 59, 32, 125, 32, 125, 32, 112, 97, 121, 32, 123, 32, 105, 102, 32, 40, 32, 40, 32, 98, 97, 108, 32, 111, 119, 101, 100, 32, 43, 32, 98, 97, 108, 32, 100, 117, 101, 32, 41, 32, 60, 32, 97, 109, 111, 117, 110, 116, 32, 41, 32, 123, 32, 114, 101, 106, 101, 99, 116, 32, 50, 32, 59, 32, 125, 32, 101, 108, 115, 101, 32, 123, 32, 108, 101, 116, 32, 102, 105, 110, 101, 32, 61, 32, 108, 101, 97, 115, 116, 32, 40, 32, 97, 109, 111, 117, 110, 116, 32, 98, 97, 108, 32, 100, 117, 101, 32, 41, 32, 59, 32, 112, 111, 115, 116, 32, 102, 105, 110, 101, 32, 102, 114, 111, 109, 32, 100, 117, 101, 32, 116, 111, 32, 116, 105, 108, 108, 32, 59, 32, 112, 111, 115, 116, 32, 40, 32, 97, 109, 111, 117, 110, 116, 32, 45, 32, 102, 105, 110, 101, 32, 41, 32, 102, 114, 111, 109, 32, 111, 119, 101, 100, 32, 116, 111, 32, 116, 105, 108, 108, 32, 59, 32, 125, 32, 125, 32, 116, 105, 99, 107, 32, 123, 32, 112, 111, 115, 116, 32, 105, 110, 116, 101, 114, 101, 115, 116, 32, 40, 32, 98, 97, 108, 32, 111, 119, 101, 100, 32, 121, 101, 97, 114, 108, 121, 32, 115, 105, 110, 99, 101, 32, 116, 111, 100, 97, 121, 32, 41, 32, 102, 114, 111, 109, 32, 105, 110, 99, 111, 109, 101, 32, 116, 111, 32, 100, 117, 101, 32, 59, 32, 125, 32, 125]⟩ : ByteArray)) else (if a0.toList = ([99, 114, 101, 100, 105, 116] : List UInt8) then (some (⟨#[112, 114, 111, 100, 117, 99, 116, 32, 99, 114, 101, 100, 105, 116, 32, 98, 97, 115, 105, 115, 32, 51, 32, 123, 32, 99, 111, 110, 116, 114, 97, 32, 105, 110, 99, 111, 109, 101, 32, 59, 32, 99, 111, 110, 116, 114, 97, 32, 116, 105, 108, 108, 32, 59, 32, 115, 108, 111, 116, 32, 100, 117, 101, 32, 59, 32, 115, 108, 111, 116, 32, 111, 119, 101, 100, 32, 59, 32, 112, 97, 114, 97, 109, 32, 121, 101, 97, 114, 108, 121, 32, 114, 97, 116, 101, 32, 48, 46, 48, 48, 48, 48, 37, 32, 53, 48, 46, 48, 48, 48, 48, 37, 32, 59, 32, 112, 97, 114, 97, 109, 32, 109, 111, 115, 116, 95, 111, 119, 101, 100, 32, 109, 111, 110, 101, 121, 32, 49, 46, 48, 48, 32, 49, 48, 48, 48, 48, 48, 48, 48, 46, 48, 48, 32, 59, 32, 111, 112, 101, 110, 32, 123, 32, 105, 102, 32, 40, 32, 109, 111, 115, 116, 95, 111, 119, 101, 100, 32, 60, 32, 97, 109, 111, 117, 110, 116, 32, 41, 32, 123, 32, 114, 101, 106, 101, 99, 116, 32, 49, 32, 59, 32, 125, 32, 101, 108, 115, 101, 32, 123, 32, 112, 111, 115, 116, 32, 97, 109, 111, 117, 110, 116, 32, 102, 114, 111, 109, 32, 116, 105, 108, 108, 32, 116, 111, 32, 111, 119, 101, 100, 32, 59, 32, 110, 101, 120, 116, 32, 108, 97, 116, 101, 114, 32, 40, 32, 116, 111, 100, 97, 121, 32, 49, 32, 41, 32, 59, 32, 125, 32, 125, 32, 112, 97, 121, 32, 123, 32, 108, 101, 116, 32, 102, 105, 110, 101, 32, 61, 32, 108, 101, 97, 115, 116, 32, 40, 32, 97, 109, 111, 117, 110, 116, 32, 98, 97, 108, 32, 100, 117, 101, 32, 41, 32, 59, 32, 108, 101, 116, 32, 114, 101, 115, 116, 32, 61, 32, 108, 101, 97, 115, 116, 32, 40, 32, 40, 32, 97, 109, 111, 117, 110, 116, 32, 45, 32, 102, 105, 110, 101, 32, 41, 32, 98, 97, 108, 32, 111, 119, 101, 100, 32, 41, 32, 59, 32, 112, 111, 115, 116, 32, 102, 105, 110, 101, 32, 102, 114, 111, 109, 32, 100, 117, 101, 32, 116, 111, 32, 116, 105, 108, 108, 32, 59, 32, 112, 111, 115, 116, 32, 114, 101, 115, 116, 32, 102, 114, 111, 109, 32, 111, 119, 101, 100, 32, 116, 111, 32, 116, 105, 108, 108, 32, 59, 32, 125, 32, 116, 105, 99, 107, 32, 123, 32, 112, 111, 115, 116, 32, 105, 110, 116, 101, 114, 101, 115, 116, 32, 40, 32, 98, 97, 108, 32, 111, 119, 101, 100, 32, 121, 101, 97, 114, 108, 121, 32, 115, 105, 110, 99, 101, 32, 116, 111, 100, 97, 121, 32, 41, 32, 102, 114, 111, 109, 32, 105, 110, 99, 111, 109, 101, 32, 116, 111, 32, 100, 117, 101, 32, 59, 32, 108, 101, 116, 32, 112, 97, 114, 116, 32, 61, 32, 115, 104, 97, 114, 101, 32, 40, 32, 98, 97, 108, 32, 100, 117, 101, 32, 49, 46, 48, 48, 48, 48, 37, 32, 41, 32, 59, 32, 112, 111, 115, 116, 32, 112, 97, 114, 116, 32, 102, 114, 111, 109, 32, 105, 110, 99, 111, 109, 101, 32, 116, 111, 32, 100, 117, 101, 32, 59, 32, 110, 101, 120, 116, 32, 108, 97, 116, 101, 114, 32, 40, 32, 116, 111, 100, 97, 121, 32, 49, 32, 41, 32, 59, 32, 125, 32, 125]⟩ : ByteArray)) else (some (⟨#[]⟩ : ByteArray))))
theorem spec_LibText.m0 {P : Prop} (h : P := by
  go_enter Tryd.func122, Tryd.ntmps122
  go_wp2
  go_ret
  exact ⟨by first | rfl | (simp; done) | (simp [*]; done), drm⟩) : P := h
set_option maxHeartbeats 8000000 in
set_option maxRecDepth 100000 in
theorem spec_LibText.calls (a0 : ByteArray) (r : ByteArray) (w : World) (h : spec_LibText.f a0 = some r) :
  Calls Tryd.prog 122 #[.string a0] w fun e w' => e = .returned (.string r) ∧ Drawn0 w w' := by
 have H : (if a0.toList = ([97, 110, 110, 117, 105, 116, 121] : List UInt8) then (some (⟨#[112, 114, 111, 100, 117, 99, 116, 32, 97, 110, 110, 117, 105, 116, 121, 32, 98, 97, 115, 105, 115, 32, 49, 32, 123, 32, 99, 111, 110, 116, 114, 97, 32, 105, 110, 99, 111, 109, 101, 32, 59, 32, 99, 111, 110, 116, 114, 97, 32, 116, 105, 108, 108, 32, 59, 32, 115, 108, 111, 116, 32, 100, 117, 101, 32, 59, 32, 115, 108, 111, 116, 32, 111, 119, 101, 100, 32, 59, 32, 112, 97, 114, 97, 109, 32, 121, 101, 97, 114, 108, 121, 32, 114, 97, 116, 101, 32, 48, 46, 48, 48, 48, 48, 37, 32, 53, 48, 46, 48, 48, 48, 48, 37, 32, 59, 32, 112, 97, 114, 97, 109, 32, 116, 101, 114, 109, 32, 105, 110, 116, 32, 49, 32, 54, 48, 32, 59, 32, 112, 97, 114, 97, 109, 32, 115, 116, 97, 114, 116, 32, 100, 97, 116, 101, 32, 50, 48, 48, 48, 45, 48, 49, 45, 48, 49, 32, 50, 48, 57, 57, 45, 49, 50, 45, 51, 49, 32, 59, 32, 111, 112, 101, 110, 32, 123, 32, 105, 102, 32, 40, 32, 40, 32, 116, 111, 100, 97, 121, 32, 61, 32, 115, 116, 97, 114, 116, 32, 41, 32, 97, 110, 100, 32, 40, 32, 48, 46, 48, 48, 32, 60, 32, 97, 109, 111, 117, 110, 116, 32, 41, 32, 41, 32, 123, 32, 112, 111, 115, 116, 32, 97, 109, 111, 117, 110, 116, 32, 102, 114, 111, 109, 32, 116, 105, 108, 108, 32, 116, 111, 32, 111, 119, 101, 100, 32, 59, 32, 110, 101, 120, 116, 32, 108, 97, 116, 101, 114, 32, 40, 32, 115, 116, 97, 114, 116, 32, 49, 32, 41, 32, 59, 32, 125, 32, 101, 108, 115, 101, 32, 123, 32, 114, 101, 106, 101, 99, 116, 32, 49, 32, 59, 32, 125, 32, 125, 32, 112, 97, 121, 32, 123, 32, 108, 101, 116, 32, 102, 105, 110, 101, 32, 61, 32, 108, 101, 97, 115, 116, 32, 40, 32, 97, 109, 111, 117, 110, 116, 32, 98, 97, 108, 32, 100, 117, 101, 32, 41, 32, 59, 32, 108, 101, 116, 32, 114, 101, 115, 116, 32, 61, 32, 40, 32, 97, 109, 111, 117, 110, 116, 32, 45, 32, 102, 105, 110, 101, 32, 41, 32, 59, 32, 105, 102, 32, 40, 32, 98, 97, 108, 32, 111, 119, 101, 100, 32, 60, 32, 114, 101, 115, 116, 32, 41, 32, 123, 32, 114, 101, 106, 101, 99, 116, 32, 50, 32, 59, 32, 125, 32, 101, 108, 115, 101, 32, 123, 32, 112, 111, 115, 116, 32, 102, 105, 110, 101, 32, 102, 114, 111, 109, 32, 100, 117, 101, 32, 116, 111, 32, 116, 105, 108, 108, 32, 59, 32, 112, 111, 115, 116, 32, 114, 101, 115, 116, 32, 102, 114, 111, 109, 32, 111, 119, 101, 100, 32, 116, 111, 32, 116, 105, 108, 108, 32, 59, 32, 125, 32, 125, 32, 116, 105, 99, 107, 32, 123, 32, 112, 111, 115, 116, 32, 105, 110, 116, 101, 114, 101, 115, 116, 32, 40, 32, 98, 97, 108, 32, 111, 119, 101, 100, 32, 121, 101, 97, 114, 108, 121, 32, 115, 105, 110, 99, 101, 32, 116, 111, 100, 97, 121, 32, 41, 32, 102, 114, 111, 109, 32, 105, 110, 99, 111, 109, 101, 32, 116, 111, 32, 100, 117, 101, 32, 59, 32, 105, 102, 32, 40, 32, 40, 32, 99, 111, 117, 110, 116, 32, 43, 32, 49, 32, 41, 32, 60, 32, 116, 101, 114, 109, 32, 41, 32, 123, 32, 110, 101, 120, 116, 32, 108, 97, 116, 101, 114, 32, 40, 32, 115, 116, 97, 114, 116, 32, 40, 32, 99, 111, 117, 110, 116, 32, 43, 32, 50, 32, 41, 32, 41, 32, 59, 32, 125, 32, 101, 108, 115, 101, 32, 123, 32, 125, 32, 125, 32, 125]⟩ : ByteArray)) else (if a0.toList = ([98, 117, 108, 108, 101, 116] : List UInt8) then (some (⟨#[112, 114, 111, 100, 117, 99, 116, 32, 98, 117, 108, 108, 101, 116, 32, 98, 97, 115, 105, 115, 32, 50, 32, 123, 32, 99, 111, 110, 116, 114, 97, 32, 105, 110, 99, 111, 109, 101, 32, 59, 32, 99, 111, 110, 116, 114, 97, 32, 116, 105, 108, 108, 32, 59, 32, 115, 108, 111, 116, 32, 100, 117, 101, 32, 59, 32, 115, 108, 111, 116, 32, 111, 119, 101, 100, 32, 59, 32, 112, 97, 114, 97, 109, 32, 121, 101, 97, 114, 108, 121, 32, 114, 97, 116, 101, 32, 48, 46, 48, 48, 48, 48, 37, 32, 53, 48, 46, 48, 48, 48, 48, 37, 32, 59, 32, 112, 97, 114, 97, 109, 32, 108, 97, 115, 116, 32, 100, 97, 116, 101, 32, 50, 48, 48, 48, 45, 48, 49, 45, 48, 49, 32, 50, 48, 57, 57, 45, 49, 50, 45, 51, 49, 32, 59, 32, 111, 112, 101, 110, 32, 123, 32, 105, 102, 32, 40, 32, 40, 32, 116, 111, 100, 97, 121, 32, 60, 32, 108, 97, 115, 116, 32, 41, 32, 97, 110, 100, 32, 40, 32, 48, 46, 48, 48, 32, 60, 32, 97, 109, 111, 117, 110, 116, 32, 41, 32, 41, 32, 123, 32, 112, 111, 115, 116, 32, 97, 109, 111, 117, 110, 116, 32, 102, 114, 111, 109, 32, 116, 105, 108, 108, 32, 116, 111, 32, 111, 119, 101, 100, 32, 59, 32, 110, 101, 120, 116, 32, 108, 97, 115, 116, 32, 59, 32, 125, 32, 101, 108, 115, 101, 32, 123, 32, 114, 101, 106, 101, 99, 116, 32, 49, 32, 59, 32, 125, 32, 125, 32, 112, 97, 121, 32, 123, 32, 105, 102, 32, 40, 32, 40, 32, 98, 97, 108, 32, 111, 119, 101, 100, 32, 43, 32, 98, 97, 108, 32, 100, 117, 101, 32, 41, 32, 60, 32, 97, 109, 111, 117, 110, 116, 32, 41, 32, 123, 32, 114, 101, 106, 101, 99, 116, 32, 50, 32, 59, 32, 125, 32, 101, 108, 115, 101, 32, 123, 32, 108, 101, 116, 32, 102, 105, 110, 101, 32, 61, 32, 108, 101, 97, 115, 116, 32, 40, 32, 97, 109, 111, 117, 110, 116, 32, 98, 97, 108, 32, 100, 117, 101, 32, 41, 32, 59, 32, 112, 111, 115, 116, 32, 102, 105, 110, 101, 32, 102, 114, 111, 109, 32, 100, 117, 101, 32, 116, 111, 32, 116, 105, 108, 108, 32, 59, 32, 112, 111, 115, 116, 32, 40, 32, 97, 109, 111, 117, 110, 116, 32, 45, 32, 102, 105, 110, 101, 32, 41, 32, 102, 114, 111, 109, 32, 111, 119, 101, 100, 32, 116, 111, 32, 116, 105, 108, 108, 32, 59, 32, 125, 32, 125, 32, 116, 105, 99, 107, 32, 123, 32, 112, 111, 115, 116, 32, 105, 110, 116, 101, 114, 101, 115, 116, 32, 40, 32, 98, 97, 108, 32, 111, 119, 101, 100, 32, 121, 101, 97, 114, 108, 121, 32, 115, 105, 110, 99, 101, 32, 116, 111, 100, 97, 121, 32, 41, 32, 102, 114, 111, 109, 32, 105, 110, 99, 111, 109, 101, 32, 116, 111, 32, 100, 117, 101, 32, 59, 32, 125, 32, 125]⟩ : ByteArray)) else (if a0.toList = ([99, 114, 101, 100, 105, 116] : List UInt8) then (some (⟨#[112, 114, 111, 100, 117, 99, 116, 32, 99, 114, 101, 100, 105, 116, 32, 98, 97, 115, 105, 115, 32, 51, 32, 123, 32, 99, 111, 110, 116, 114, 97, 32, 105, 110, 99, 111, 109, 101, 32, 59, 32, 99, 111, 110, 116, 114, 97, 32, 116, 105, 108, 108, 32, 59, 32, 115, 108, 111, 116, 32, 100, 117, 101, 32, 59, 32, 115, 108, 111, 116, 32, 111, 119, 101, 100, 32, 59, 32, 112, 97, 114, 97, 109, 32, 121, 101, 97, 114, 108, 121, 32, 114, 97, 116, 101, 32, 48, 46, 48, 48, 48, 48, 37, 32, 53, 48, 46, 48, 48, 48, 48, 37, 32, 59, 32, 112, 97, 114, 97, 109, 32, 109, 111, 115, 116, 95, 111, 119, 101, 100, 32, 109, 111, 110, 101, 121, 32, 49, 46, 48, 48, 32, 49, 48, 48, 48, 48, 48, 48, 48, 46, 48, 48, 32, 59, 32, 111, 112, 101, 110, 32, 123, 32, 105, 102, 32, 40, 32, 109, 111, 115, 116, 95, 111, 119, 101, 100, 32, 60, 32, 97, 109, 111, 117, 110, 116, 32, 41, 32, 123, 32, 114, 101, 106, 101, 99, 116, 32, 49, 32, 59, 32, 125, 32, 101, 108, 115, 101, 32, 123, 32, 112, 111, 115, 116, 32, 97, 109, 111, 117, 110, 116, 32, 102, 114, 111, 109, 32, 116, 105, 108, 108, 32, 116, 111, 32, 111, 119, 101, 100, 32, 59, 32, 110, 101, 120, 116, 32, 108, 97, 116, 101, 114, 32, 40, 32, 116, 111, 100, 97, 121, 32, 49, 32, 41, 32, 59, 32, 125, 32, 125, 32, 112, 97, 121, 32, 123, 32, 108, 101, 116, 32, 102, 105, 110, 101, 32, 61, 32, 108, 101, 97, 115, 116, 32, 40, 32, 97, 109, 111, 117, 110, 116, 32, 98, 97, 108, 32, 100, 117, 101, 32, 41, 32, 59, 32, 108, 101, 116, 32, 114, 101, 115, 116, 32, 61, 32, 108, 101, 97, 115, 116, 32, 40, 32, 40, 32, 97, 109, 111, 117, 110, 116, 32, 45, 32, 102, 105, 110, 101, 32, 41, 32, 98, 97, 108, 32, 111, 119, 101, 100, 32, 41, 32, 59, 32, 112, 111, 115, 116, 32, 102, 105, 110, 101, 32, 102, 114, 111, 109, 32, 100, 117, 101, 32, 116, 111, 32, 116, 105, 108, 108, 32, 59, 32, 112, 111, 115, 116, 32, 114, 101, 115, 116, 32, 102, 114, 111, 109, 32, 111, 119, 101, 100, 32, 116, 111, 32, 116, 105, 108, 108, 32, 59, 32, 125, 32, 116, 105, 99, 107, 32, 123, 32, 112, 111, 115, 116, 32, 105, 110, 116, 101, 114, 101, 115, 116, 32, 40, 32, 98, 97, 108, 32, 111, 119, 101, 100, 32, 121, 101, 97, 114, 108, 121, 32, 115, 105, 110, 99, 101, 32, 116, 111, 100, 97, 121, 32, 41, 32, 102, 114, 111, 109, 32, 105, 110, 99, 111, 109, 101, 32, 116, 111, 32, 100, 117, 101, 32, 59, 32, 108, 101, 116, 32, 112, 97, 114, 116, 32, 61, 32, 115, 104, 97, 114, 101, 32, 40, 32, 98, 97, 108, 32, 100, 117, 101, 32, 49, 46, 48, 48, 48, 48, 37, 32, 41, 32, 59, 32, 112, 111, 115, 116, 32, 112, 97, 114, 116, 32, 102, 114, 111, 109, 32, 105, 110, 99, 111, 109, 101, 32, 116, 111, 32, 100, 117, 101, 32, 59, 32, 110, 101, 120, 116, 32, 108, 97, 116, 101, 114, 32, 40, 32, 116, 111, 100, 97, 121, 32, 49, 32, 41, 32, 59, 32, 125, 32, 125]⟩ : ByteArray)) else (some (⟨#[]⟩ : ByteArray))))) = some r := h
 clear h
 by_cases c2 : a0.toList = ([97, 110, 110, 117, 105, 116, 121] : List UInt8)
 ·
  rw [if_pos c2] at H
  have c2b0 : (a0.toList == ([97, 110, 110, 117, 105, 116, 121] : List UInt8)) = true := beq_iff_eq.mpr c2
  have c2b1 : (a0.toList != ([97, 110, 110, 117, 105, 116, 121] : List UInt8)) = false := bne_eq_false_iff_eq.mpr c2
  clear c2
  obtain rfl := Option.some.inj H
  exact spec_LibText.m0
 ·
  rw [if_neg c2] at H
  have c2b0 : (a0.toList == ([97, 110, 110, 117, 105, 116, 121] : List UInt8)) = false := beq_eq_false_iff_ne.mpr c2
  have c2b1 : (a0.toList != ([97, 110, 110, 117, 105, 116, 121] : List UInt8)) = true := bne_iff_ne.mpr c2
  by_cases c3 : a0.toList = ([98, 117, 108, 108, 101, 116] : List UInt8)
  ·
   rw [if_pos c3] at H
   have c3b0 : (a0.toList == ([98, 117, 108, 108, 101, 116] : List UInt8)) = true := beq_iff_eq.mpr c3
   have c3b1 : (a0.toList != ([98, 117, 108, 108, 101, 116] : List UInt8)) = false := bne_eq_false_iff_eq.mpr c3
   clear c3
   obtain rfl := Option.some.inj H
   exact spec_LibText.m0
  ·
   rw [if_neg c3] at H
   have c3b0 : (a0.toList == ([98, 117, 108, 108, 101, 116] : List UInt8)) = false := beq_eq_false_iff_ne.mpr c3
   have c3b1 : (a0.toList != ([98, 117, 108, 108, 101, 116] : List UInt8)) = true := bne_iff_ne.mpr c3
   by_cases c4 : a0.toList = ([99, 114, 101, 100, 105, 116] : List UInt8)
   ·
    rw [if_pos c4] at H
    have c4b0 : (a0.toList == ([99, 114, 101, 100, 105, 116] : List UInt8)) = true := beq_iff_eq.mpr c4
    have c4b1 : (a0.toList != ([99, 114, 101, 100, 105, 116] : List UInt8)) = false := bne_eq_false_iff_eq.mpr c4
    clear c4
    obtain rfl := Option.some.inj H
    exact spec_LibText.m0
   ·
    rw [if_neg c4] at H
    have c4b0 : (a0.toList == ([99, 114, 101, 100, 105, 116] : List UInt8)) = false := beq_eq_false_iff_ne.mpr c4
    have c4b1 : (a0.toList != ([99, 114, 101, 100, 105, 116] : List UInt8)) = true := bne_iff_ne.mpr c4
    obtain rfl := Option.some.inj H
    exact spec_LibText.m0

theorem spec_l04Due.fld69_0 (w : World) (x0 : Int) (x1 : Int) : (Instr.field 69 (.agg #[.int .i64 x0, .int .i64 x1]) 0).run Tryd.prog w = .ok (.int .i64 x0) w := by kernel_rfl
attribute [local go_sem] spec_l04Due.fld69_0
/-! ### spec_l04Due: function 172 -/
def spec_l04Due.l0 : Nat → List Int → Int → Int → Int → Int → Int → Int → Option (List Int)
 | 0, _, _, _, _, _, _, _ => none
 | k + 1, x3, x4, x127000, x127001, x127002, x127003, x127004 => if x4 ≤ x127004 then ((spec_DayAdd.f k x127003 x4).bind fun bt130 => (if x3.length < 17592186044416 then (spec_l04Due.l0 k (x3 ++ [bt130.1]) (wrap64 (x4 + 1)) x127000 x127001 x127002 x127003 x127004) else (none))) else (some x3)
def spec_l04Due.f (k : Nat) (a0_0 : Int) (a0_1 : Int) (a0_2 : Int) (a0_3 : Int) (a0_4 : Int) : Option (List Int) := spec_l04Due.l0 k (([] : List Int)) 0 a0_0 a0_1 a0_2 a0_3 a0_4
theorem spec_l04Due.mono_l : ∀ k, (∀ y0 y1 y2 y3 y4 y5 y6, LeO (spec_l04Due.l0 k y0 y1 y2 y3 y4 y5 y6) (spec_l04Due.l0 (k + 1) y0 y1 y2 y3 y4 y5 y6))
 | 0 => fun _ _ _ _ _ _ _ r h => by simp [spec_l04Due.l0] at h
 | k + 1 => by
  have ih0 := spec_l04Due.mono_l k
  ·
   intro y0 y1 y2 y3 y4 y5 y6
   unfold spec_l04Due.l0
   repeat' first
   | (with_reducible exact ih0 _ _ _ _ _ _ _)
   | (with_reducible exact spec_DayAdd.mono _ _ _)
   | (with_reducible exact LeO.refl _)
   | (with_reducible exact LeO.none _)
   | (with_reducible refine LeO.ite ?_ ?_)
   | (with_reducible refine LeO.bind ?_ (fun _ => ?_))
   | exact ih0 _ _ _ _ _ _ _
   | exact spec_DayAdd.mono _ _ _
   | exact LeO.none _
   | refine LeO.ite ?_ ?_
   | refine LeO.bind ?_ (fun _ => ?_)
theorem spec_l04Due.mono : ∀ a0 a1 a2 a3 a4 k, LeO (spec_l04Due.f k a0 a1 a2 a3 a4) (spec_l04Due.f (k + 1) a0 a1 a2 a3 a4) := by
 intro a0 a1 a2 a3 a4 k
 have ih0 := spec_l04Due.mono_l k
 unfold spec_l04Due.f
 repeat' first
   | (with_reducible exact ih0 _ _ _ _ _ _ _)
   | (with_reducible exact spec_DayAdd.mono _ _ _)
   | (with_reducible exact LeO.refl _)
   | (with_reducible exact LeO.none _)
   | (with_reducible refine LeO.ite ?_ ?_)
   | (with_reducible refine LeO.bind ?_ (fun _ => ?_))
   | exact ih0 _ _ _ _ _ _ _
   | exact spec_DayAdd.mono _ _ _
   | exact LeO.none _
   | refine LeO.ite ?_ ?_
   | refine LeO.bind ?_ (fun _ => ?_)
set_option maxHeartbeats 8000000 in
set_option maxRecDepth 100000 in
theorem spec_l04Due.calls (k : Nat) (a0_0 : Int) (a0_1 : Int) (a0_2 : Int) (a0_3 : Int) (a0_4 : Int) (r : List Int) (w : World) (h : spec_l04Due.f k a0_0 a0_1 a0_2 a0_3 a0_4 = some r) :
  Calls Tryd.prog 172 #[.agg #[.int .i64 a0_0, .int .i64 a0_1, .int .i64 a0_2, .int .i64 a0_3, .int .i64 a0_4]] w fun e w' => ∃ v0_ : Value, e = .returned (v0_) ∧ Kd.R (Kd.int .i64) 2 w' w.heap.size (fun _ => True) v0_ r ∧ Below w.heap.size w w' := by
 have hu90 := Tryd.underlying90
 have hu69 := Tryd.underlying69
 have HB := Aside0.mk (Below.refl w.heap.size w)
 have H : (spec_l04Due.l0 k (([] : List Int)) 0 a0_0 a0_1 a0_2 a0_3 a0_4) = some r := h
 clear h
 obtain ⟨y127, hy127⟩ : ∃ y_ : List Int, y_ = (([] : List Int)) := ⟨_, rfl⟩
 replace H : (spec_l04Due.l0 k y127 0 a0_0 a0_1 a0_2 a0_3 a0_4) = some r := by first | (rw [hy127]; with_reducible exact H) | (have H2_ := (Option.bind_some _ _).symm.trans H; rw [hy127]; with_reducible exact H2_) | (have H2_ := (Option.bind_some _ _).symm.trans H; with_reducible exact H2_) | with_reducible exact H | (rw [hy127]; exact H) | exact H
 have Ny127 := Aside0.mk hy127
 clear hy127
 have H' := Aside0.mk H
 clear H
 go_enter Tryd.func172, Tryd.ntmps172
 go_wp2_with (first | ((with_reducible refine gate_dst (N := 1) rfl ?_); refine bxe (N := 1) (cs := #[.int .i64 a0_0, .int .i64 a0_1, .int .i64 a0_2, .int .i64 a0_3, .int .i64 a0_4]) (t := 90) ?_; intro gb126 hg w2 hbox hb; have n0_ := bst hb; have n1_ := Aside0.mk (hbox); have n2_ := (bsz hg : Aside0 (w.heap.size ≤ gb126)); have n3_ := n2_; clear HB; have HB := n0_; have BK126 := n1_; have GW126 := n2_; have GE126 := n3_; clear n0_ n1_ n2_ n3_; clear hb hbox hg) | ((with_reducible refine gate_dst (N := 5) rfl ?_); refine Kd.R_lit (Kd.int .i64) _ 2 ?hg (N := 5) ?hd (xs := ([] : List Int)) (inner := []) (ok := fun _ => True) (okp := fun _ => True) ?hr ?hp (fun _ hk => hk) trivial (Below.refl _ _) (Nat.le_refl _) (by simp) ?_; (case hd => rfl); (case hg => rfl); (case hr => first | (go_simp; done) | (go_simp; rfl)); (case hp => exact (Reps.none _ _)); intro v128 w3 ho4 hb hg_ hnew_; clear hg_ hnew_; (first | rw [← Ny127.out] at ho4 | (simp only [Int.reduceToNat] at ho4; rw [← Ny127.out] at ho4)); have n0_ := Aside0.mk (Kd.R_lower ho4 (below_size hbm)); have n1_ := bkb BK126 hb; have n2_ := bst hb; clear BK126; clear HB; have HO129 := n0_; have BK126 := n1_; have HB := n2_; clear n0_ n1_ n2_; clear hb ho4))
 go_loopg [3, 4] k (fun kq v3 v4 w' => ∃ (x3_1 : List Int) (x4_1 : Int), v4 = .int .i64 x4_1 ∧ Aside0 (spec_l04Due.l0 kq x3_1 x4_1 a0_0 a0_1 a0_2 a0_3 a0_4 = some r) ∧ Aside0 (kq ≤ k) ∧ Aside0 (Kd.R (Kd.int .i64) 2 w' w.heap.size (fun _ => True) v3 x3_1) ∧ Aside0 (w'.heap[gb126]? = some (.cells #[.int .i64 a0_0, .int .i64 a0_1, .int .i64 a0_2, .int .i64 a0_3, .int .i64 a0_4] 90 (0, 0))) ∧ Aside0 (Below w.heap.size w w'))
 case atStart => exact ⟨(y127), (0), (by first | rfl | (simp; done) | (simp [*]; done)), H', ⟨Nat.le_refl _⟩, ⟨by (with_reducible repeat (first | apply Kd.R_alloc | apply Kd.R_drewN | apply Kd.R_drew)); exact HO129.out⟩, ⟨by (with_reducible repeat (first | apply blk_drewN | apply blk_drew | apply blk_alloc)); exact BK126.out⟩, ⟨hbm⟩⟩
 case round =>
  clear H'
  try clear c1
  try clear p2
  obtain ⟨x3_1, x4_1, rfl, HA, HK1, HO_3, BK126, HB⟩ := hrel
  cases gk with
  | zero => exact absurd HA.out (by simp [spec_l04Due.l0])
  | succ k1 =>
   have H := HA.out
   clear HA
   simp only [spec_l04Due.l0] at H
   by_cases c5 : x4_1 ≤ a0_4
   ·
    rw [if_pos c5] at H
    have c5b0 : decide (x4_1 ≤ a0_4) = true := decide_eq_true c5
    clear c5
    replace H := Option.bind_eq_some_iff.mp H
    obtain ⟨⟨t130, t131⟩, A60, H⟩ := H
    (try dsimp only at H)
    have A6 := Aside0.mk A60
    clear A60
    by_cases c7 : x3_1.length < 17592186044416
    ·
     rw [if_pos c7] at H
     have LMc7 := Aside0.mk c7
     clear c7
     obtain ⟨y132, hy132⟩ : ∃ y_ : List Int, y_ = (x3_1 ++ [t130]) := ⟨_, rfl⟩
     replace H : (spec_l04Due.l0 k1 y132 (wrap64 (x4_1 + 1)) a0_0 a0_1 a0_2 a0_3 a0_4) = some r := by first | (rw [hy132]; with_reducible exact H) | (have H2_ := (Option.bind_some _ _).symm.trans H; rw [hy132]; with_reducible exact H2_) | (have H2_ := (Option.bind_some _ _).symm.trans H; with_reducible exact H2_) | with_reducible exact H | (rw [hy132]; exact H) | exact H
     have Ny132 := Aside0.mk hy132
     clear hy132
     have H' := Aside0.mk H
     clear H
     obtain ⟨hcz8_0, hcz8_1, hcz8_2, hcz8_3, hcz8_4, hfz8_0, hfz8_1, hfz8_2, hfz8_3, hfz8_4⟩ := bc5 BK126.out
     go_wp2_with (first | ((with_reducible refine gate_callee (f := 171) rfl ?_); refine goesL_ (some 16) rfl rfl Tryd.func171 (by kernel_rfl) rfl #[.int .i64 a0_3, .int .i64 x4_1] rfl glm ?_; (with_reducible refine (spec_DayAdd.calls k1 a0_3 x4_1 t130 t131 _ A6.out).mono ?_); rintro e w9 ⟨rfl, hb⟩; refine ⟨_, rfl, ?_⟩; have n0_ := Aside0.mk (Kd.R_below (prR HO_3.out) hb); have n1_ := bkb BK126 hb; have n2_ := bst hb; clear HO_3; clear BK126; clear HB; have HO_3 := n0_; have BK126 := n1_; have HB := n2_; clear n0_ n1_ n2_; (try clear hb); (try clear hb2); (try clear hk); (try clear hi)) | ((with_reducible refine gate_builtin (b := .append) (xs := #[.tmp 12, .tmp 18]) rfl ?_); at_builtin; refine Kd.R_append (Kd.int .i64) (w0 := w) w.heap.size rfl (.tmp 12) (.tmp 18) 22 2 (.int .i64 0) 8 rfl Tryd.underlying22 info2 rfl (by decide) (by omega) u3 x3_1 t130 [.int .i64 t130] (fun _ => True) (fun _ => False) rfl rfl ?aP (fun _ hk => hk.elim) ?aF ?aO ?aB ?aS ?aL ?_; (case aP => exact rfl); (case aB => exact hbm); (case aF => exact (fun _ _ => trivial)); (case aO => exact (prR HO_3.out)); (case aS => exact (below_size hbm)); (case aL => have := LMc7.out; omega); intro v133 w10 ho hb hg hat; rw [← Ny132.out] at ho; have n0_ := Aside0.mk (blk_grown (g := gb126) (o := .cells #[.int .i64 a0_0, .int .i64 a0_1, .int .i64 a0_2, .int .i64 a0_3, .int .i64 a0_4] 90 (0, 0)) (by (with_reducible repeat (first | apply blk_drewN | apply blk_drew | apply blk_alloc)); exact BK126.out) hg (Kd.R_ne HO_3.out BK126.out (by decide))); have n1_ := Aside0.mk (hb); have n2_ := Aside0.mk (ho); clear BK126; clear HB; clear HO_3; have BK126 := n0_; have HB := n1_; have HO134 := n2_; clear n0_ n1_ n2_; clear ho hb hg hat))
     go_roundg k1
     case measure => have := HK1.out; omega
     case rel => exact ⟨(y132), (wrap64 (x4_1 + 1)), (by first | rfl | (simp; done) | (simp [*]; done)), H', ⟨by have := HK1.out; omega⟩, ⟨by (with_reducible repeat (first | apply Kd.R_alloc | apply Kd.R_drewN | apply Kd.R_drew)); exact HO134.out⟩, ⟨by (with_reducible repeat (first | apply blk_drewN | apply blk_drew | apply blk_alloc)); exact BK126.out⟩, ⟨hbm⟩⟩
    ·
     rw [if_neg c7] at H
     exact absurd H (by simp)
   ·
    rw [if_neg c5] at H
    have c5b0 : decide (x4_1 ≤ a0_4) = false := decide_eq_false c5
    clear c5
    obtain rfl := Option.some.inj H
    obtain ⟨hcz11_0, hcz11_1, hcz11_2, hcz11_3, hcz11_4, hfz11_0, hfz11_1, hfz11_2, hfz11_3, hfz11_4⟩ := bc5 BK126.out
    go_wp2
    go_ret
    exact ⟨_, rfm, by (with_reducible repeat (first | apply Kd.R_alloc | apply Kd.R_drewN | apply Kd.R_drew)); exact HO_3.out, hbm⟩

/-! ### spec_MoneyRight: function 99 -/
def spec_MoneyRight.f (a0 : Int) : Option (Bool) := if a0 ≥ (-1000000000000) then (some (decide (a0 ≤ 1000000000000))) else (some false)
set_option maxHeartbeats 8000000 in
set_option maxRecDepth 100000 in
theorem spec_MoneyRight.calls (a0 : Int) (r : Bool) (w : World) (h : spec_MoneyRight.f a0 = some r) :
  Calls Tryd.prog 99 #[.int .i64 a0] w fun e w' => e = .returned (.bool r) ∧ Drawn0 w w' := by
 have H : (if a0 ≥ (-1000000000000) then (some (decide (a0 ≤ 1000000000000))) else (some false)) = some r := h
 clear h
 by_cases c2 : a0 ≥ (-1000000000000)
 ·
  rw [if_pos c2] at H
  have c2b0 : decide ((-1000000000000) ≤ a0) = true := decide_eq_true c2
  clear c2
  obtain rfl := Option.some.inj H
  go_enter Tryd.func99, Tryd.ntmps99
  go_wp2
  go_ret
  exact ⟨by first | rfl | (simp; done) | (simp [*]; done), drm⟩
 ·
  rw [if_neg c2] at H
  have c2b0 : decide ((-1000000000000) ≤ a0) = false := decide_eq_false c2
  clear c2
  obtain rfl := Option.some.inj H
  go_enter Tryd.func99, Tryd.ntmps99
  go_wp2
  go_ret
  exact ⟨by first | rfl | (simp; done) | (simp [*]; done), drm⟩

/-! ### spec_l03Rate: function 241 -/
def spec_l03Rate.f (a0 : Int) : Option (Bool) := if a0 ≥ 0 then (some (decide (a0 ≤ 1000000))) else (some false)
set_option maxHeartbeats 8000000 in
set_option maxRecDepth 100000 in
theorem spec_l03Rate.calls (a0 : Int) (r : Bool) (w : World) (h : spec_l03Rate.f a0 = some r) :
  Calls Tryd.prog 241 #[.int .i64 a0] w fun e w' => e = .returned (.bool r) ∧ Drawn0 w w' := by
 have H : (if a0 ≥ 0 then (some (decide (a0 ≤ 1000000))) else (some false)) = some r := h
 clear h
 by_cases c2 : a0 ≥ 0
 ·
  rw [if_pos c2] at H
  have c2b0 : decide (0 ≤ a0) = true := decide_eq_true c2
  clear c2
  obtain rfl := Option.some.inj H
  go_enter Tryd.func241, Tryd.ntmps241
  go_wp2
  go_ret
  exact ⟨by first | rfl | (simp; done) | (simp [*]; done), drm⟩
 ·
  rw [if_neg c2] at H
  have c2b0 : decide (0 ≤ a0) = false := decide_eq_false c2
  clear c2
  obtain rfl := Option.some.inj H
  go_enter Tryd.func241, Tryd.ntmps241
  go_wp2
  go_ret
  exact ⟨by first | rfl | (simp; done) | (simp [*]; done), drm⟩

/-! ### spec_l01Max: function 270 -/
def spec_l01Max.f (a0 : Int) (a1 : Int) : Option (Int) := if a0 > a1 then (some a0) else (some a1)
set_option maxHeartbeats 8000000 in
set_option maxRecDepth 100000 in
theorem spec_l01Max.calls (a0 : Int) (a1 : Int) (r : Int) (w : World) (h : spec_l01Max.f a0 a1 = some r) :
  Calls Tryd.prog 270 #[.int .i64 a0, .int .i64 a1] w fun e w' => e = .returned (.int .i64 r) ∧ Drawn0 w w' := by
 have H : (if a0 > a1 then (some a0) else (some a1)) = some r := h
 clear h
 by_cases c3 : a0 > a1
 ·
  rw [if_pos c3] at H
  have c3b0 : decide (a1 < a0) = true := decide_eq_true c3
  clear c3
  obtain rfl := Option.some.inj H
  go_enter Tryd.func270, Tryd.ntmps270
  go_wp2
  go_ret
  exact ⟨by first | rfl | (simp; done) | (simp [*]; done), drm⟩
 ·
  rw [if_neg c3] at H
  have c3b0 : decide (a1 < a0) = false := decide_eq_false c3
  clear c3
  obtain rfl := Option.some.inj H
  go_enter Tryd.func270, Tryd.ntmps270
  go_wp2
  go_ret
  exact ⟨by first | rfl | (simp; done) | (simp [*]; done), drm⟩

end Go.Proofs.YtidlcolgiololaaDoor.S
