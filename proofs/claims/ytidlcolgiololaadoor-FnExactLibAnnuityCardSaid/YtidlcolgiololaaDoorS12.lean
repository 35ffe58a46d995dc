/- Proved: each Go function named here answers as its plain Lean function says, in whatever memory; no condition. Written by a program of this session over the print of the kit. -/
import Derived.Test.YtidlcolgiololaaDoorSq
import Derived.Test.YtidlcolgiololaaDoorS0
import Derived.Test.YtidlcolgiololaaDoorS8
import Derived.Test.YtidlcolgiololaaDoorS11
namespace Go.Proofs.YtidlcolgiololaaDoor.S
open Go.RowKit Go.Proofs.YtidlcolgiololaaDoorW.PrintWords Go.Proofs.YtidlcolgiololaaDoorW.PrintLast Go.Proofs.YtidlcolgiololaaDoorW.PrintMore
attribute [local go_sem] max2_int min2_int max_two min_two max_three min_three max_four min_four   -- for this text's walks alone
set_option linter.unusedVariables false
set_option linter.unusedSimpArgs false

theorem impl_Loan_rows.fld69_0 (w : World) (x0 : Int) (x1 : Int) : (Instr.field 69 (.agg #[.int .i64 x0, .int .i64 x1]) 0).run Tryd.prog w = .ok (.int .i64 x0) w := by kernel_rfl
attribute [local go_sem] impl_Loan_rows.fld69_0
theorem impl_Loan_rows.fld45_0 (w : World) (x0 : Int) (x1 : Int) : (Instr.field 45 (.agg #[.int .i64 x0, .int .i64 x1]) 0).run Tryd.prog w = .ok (.int .i64 x0) w := by kernel_rfl
attribute [local go_sem] impl_Loan_rows.fld45_0
/-! ### impl_Loan_rows: function 177 -/
def impl_Loan_rows.l0 : Nat → Int → List (S158) → Int → Int → Int → Int → Int → Int → Int → Int → Option ((List (S158)))
 | 0, _, _, _, _, _, _, _, _, _, _ => none
 | k + 1, x1, x5, x6, x7, x8, x300000, x300001, x300002, x300003, x300004 => if x8 ≤ x300004 then ((impl_DayAdd.f k x300003 x8).bind fun bt303 => ((impl_Interest.f k x6 x300001 x300002 x7 bt303.1).bind fun bt306 => (if x5.length < 4398046511104 then (impl_Loan_rows.l0 k x1 (x5 ++ [(⟨bt303.1, bt306.1, mn x1 (wrap64 (x6 + bt306.1)), wrap64 ((wrap64 (x6 + bt306.1)) - (mn x1 (wrap64 (x6 + bt306.1))))⟩ : S158)]) (wrap64 ((wrap64 (x6 + bt306.1)) - (mn x1 (wrap64 (x6 + bt306.1))))) bt303.1 (wrap64 (x8 + 1)) x300000 x300001 x300002 x300003 x300004) else (none)))) else (some x5)
def impl_Loan_rows.f (k : Nat) (a0_0 : Int) (a0_1 : Int) (a0_2 : Int) (a0_3 : Int) (a0_4 : Int) (a1 : Int) : Option ((List (S158))) := impl_Loan_rows.l0 k a1 (([] : List (S158))) a0_0 a0_3 1 a0_0 a0_1 a0_2 a0_3 a0_4
theorem impl_Loan_rows.mono_l : ∀ k, (∀ y0 y1 y2 y3 y4 y5 y6 y7 y8 y9, LeO (impl_Loan_rows.l0 k y0 y1 y2 y3 y4 y5 y6 y7 y8 y9) (impl_Loan_rows.l0 (k + 1) y0 y1 y2 y3 y4 y5 y6 y7 y8 y9))
 | 0 => fun _ _ _ _ _ _ _ _ _ _ r h => by simp [impl_Loan_rows.l0] at h
 | k + 1 => by
  have ih0 := impl_Loan_rows.mono_l k
  ·
   intro y0 y1 y2 y3 y4 y5 y6 y7 y8 y9
   unfold impl_Loan_rows.l0
   repeat' first
   | (with_reducible exact ih0 _ _ _ _ _ _ _ _ _ _)
   | (with_reducible exact impl_DayAdd.mono _ _ _)
   | (with_reducible exact impl_Interest.mono _ _ _ _ _ _)
   | (with_reducible exact LeO.refl _)
   | (with_reducible exact LeO.none _)
   | (with_reducible refine LeO.ite ?_ ?_)
   | (with_reducible refine LeO.bind ?_ (fun _ => ?_))
   | exact ih0 _ _ _ _ _ _ _ _ _ _
   | exact impl_DayAdd.mono _ _ _
   | exact impl_Interest.mono _ _ _ _ _ _
   | exact LeO.none _
   | refine LeO.ite ?_ ?_
   | refine LeO.bind ?_ (fun _ => ?_)
theorem impl_Loan_rows.mono : ∀ a0 a1 a2 a3 a4 a5 k, LeO (impl_Loan_rows.f k a0 a1 a2 a3 a4 a5) (impl_Loan_rows.f (k + 1) a0 a1 a2 a3 a4 a5) := by
 intro a0 a1 a2 a3 a4 a5 k
 have ih0 := impl_Loan_rows.mono_l k
 unfold impl_Loan_rows.f
 repeat' first
   | (with_reducible exact ih0 _ _ _ _ _ _ _ _ _ _)
   | (with_reducible exact impl_DayAdd.mono _ _ _)
   | (with_reducible exact impl_Interest.mono _ _ _ _ _ _)
   | (with_reducible exact LeO.refl _)
   | (with_reducible exact LeO.none _)
   | (with_reducible refine LeO.ite ?_ ?_)
   | (with_reducible refine LeO.bind ?_ (fun _ => ?_))
   | exact ih0 _ _ _ _ _ _ _ _ _ _
   | exact impl_DayAdd.mono _ _ _
   | exact impl_Interest.mono _ _ _ _ _ _
   | exact LeO.none _
   | refine LeO.ite ?_ ?_
   | refine LeO.bind ?_ (fun _ => ?_)
def impl_Loan_rows.T1 : Bool × List (List Nat × List Nat) := (true, [([], []), ([], []), ([1], [1]), ([], []), ([3], [3]), ([0, 0], [0]), ([2, 5, 0, 1, 2, 5], [2]), ([4, 6, 0, 1, 2, 3, 4, 5, 6], [4])])
def impl_Loan_rows.B1 : List Nat := [0, 0, 2, 0, 8, 1, 39, 127]
theorem impl_Loan_rows.tab1 : rtab .any (opsOf Tryd.f177 1) = impl_Loan_rows.T1 := by kernel_rfl
theorem impl_Loan_rows.bits1 : waitsOk impl_Loan_rows.T1.2 impl_Loan_rows.B1 = true := by kernel_rfl
set_option maxHeartbeats 8000000 in
set_option maxRecDepth 100000 in
theorem impl_Loan_rows.calls (k : Nat) (a0_0 : Int) (a0_1 : Int) (a0_2 : Int) (a0_3 : Int) (a0_4 : Int) (a1 : Int) (r : List (S158)) (w : World) (h : impl_Loan_rows.f k a0_0 a0_1 a0_2 a0_3 a0_4 a1 = some r) :
  Calls Tryd.prog 177 #[.agg #[.int .i64 a0_0, .int .i64 a0_1, .int .i64 a0_2, .int .i64 a0_3, .int .i64 a0_4], .int .i64 a1] w fun e w' => ∃ v0_ : Value, e = .returned (v0_) ∧ Kd.R k158 158 w' w.heap.size (fun _ => True) v0_ r ∧ Below w.heap.size w w' := by
 have hu90 := Tryd.underlying90
 have hu69 := Tryd.underlying69
 have hu158 := Tryd.underlying158
 have hu45 := Tryd.underlying45
 have HB := Aside0.mk (Below.refl w.heap.size w)
 have H : (impl_Loan_rows.l0 k a1 (([] : List (S158))) a0_0 a0_3 1 a0_0 a0_1 a0_2 a0_3 a0_4) = some r := h
 clear h
 obtain ⟨y300, hy300⟩ : ∃ y_ : List (S158), y_ = (([] : List (S158))) := ⟨_, rfl⟩
 replace H : (impl_Loan_rows.l0 k a1 y300 a0_0 a0_3 1 a0_0 a0_1 a0_2 a0_3 a0_4) = some r := by first | (rw [hy300]; with_reducible exact H) | (have H2_ := (Option.bind_some _ _).symm.trans H; rw [hy300]; with_reducible exact H2_) | (have H2_ := (Option.bind_some _ _).symm.trans H; with_reducible exact H2_) | with_reducible exact H | (rw [hy300]; exact H) | exact H
 have Ny300 := Aside0.mk hy300
 clear hy300
 have H' := Aside0.mk H
 clear H
 go_enter Tryd.func177, Tryd.ntmps177
 try go_wp2_with (first | ((with_reducible refine gate_dst (N := 2) rfl ?_); refine bxe (N := 2) (cs := #[.int .i64 a0_0, .int .i64 a0_1, .int .i64 a0_2, .int .i64 a0_3, .int .i64 a0_4]) (t := 90) ?_; intro gb299 hg w3 hbox hb; have n0_ := bst hb; have n1_ := Aside0.mk (hbox); have n2_ := (bsz hg : Aside0 (w.heap.size ≤ gb299)); have n3_ := n2_; clear HB; have HB := n0_; have BK299 := n1_; have GW299 := n2_; have GE299 := n3_; clear n0_ n1_ n2_ n3_; clear hb hbox hg))
 have n0_ := Aside0.mk (blk_drew BK299.out)
 have n1_ := Aside0.mk (below_drew1 HB.out)
 clear BK299
 clear HB
 have BK299 := n0_
 have HB := n1_
 clear n0_ n1_
 refine start_ (n := 8) (S := fun w' => w'.cell? ⟨gb299, 0, none⟩ = some (.int .i64 a0_0) ∧ w'.cell? ⟨gb299, 1, none⟩ = some (.int .i64 a0_1) ∧ w'.cell? ⟨gb299, 2, none⟩ = some (.int .i64 a0_2) ∧ w'.cell? ⟨gb299, 3, none⟩ = some (.int .i64 a0_3) ∧ w'.cell? ⟨gb299, 4, none⟩ = some (.int .i64 a0_4)) (ds := []) #[false, false, false, false, false, false, false, false] (by kernel_rfl) rfl rfl ⟨(blk_cell BK299.out 0).trans rfl, (blk_cell BK299.out 1).trans rfl, (blk_cell BK299.out 2).trans rfl, (blk_cell BK299.out 3).trans rfl, (blk_cell BK299.out 4).trans rfl⟩ (fun hHeld => ?_); refine with_tabW impl_Loan_rows.tab1 impl_Loan_rows.bits1 (fun HT_ HW_ => ?_)
 generalize w3.drew = w4 at BK299 HB hHeld ⊢
 refine pur (i := 1) (N := some 11) #[false, true, false, false, false, false, false, false] (any_of HT_.out (by kernel_rfl)) ?_
 refine pur (i := 3) (N := some 13) #[false, true, false, true, false, false, false, false] (any_of HT_.out (by kernel_rfl)) ?_
 refine tak5 (i := 2) (N := some 12) #[false, true, true, true, false, false, false, false] (take_ofW HT_.out HW_.out (by kernel_rfl)) hHeld ?_
 refine tak5 (i := 4) (N := some 14) #[false, true, true, true, true, false, false, false] (take_ofW HT_.out HW_.out (by kernel_rfl)) hHeld ?_
 refine one_ (i := 0) (N := some 10) #[true, true, true, true, true, false, false, false] rfl rfl (one_of HT_.out (by kernel_rfl)) (by decide) (fun K hK => ?_)
 refine Kd.R_lit_step k158 _ 158 ?hg (N := 10) ?hd (xs := ([] : List (S158))) (inner := []) (ok := fun _ => True) (okp := fun _ => True) ?hr ?hp (fun _ hk => hk) trivial (Below.refl _ _) (Nat.le_refl _) (by simp) ?_; (case hd => rfl); (case hg => rfl); (case hr => first | (go_simp; done) | (go_simp; rfl)); (case hp => exact (Reps.none _ _))
 intro v301 w5 ho6 hb hg_ hnew_
 clear hg_ hnew_
 (first | rw [← Ny300.out] at ho6 | (simp only [Int.reduceToNat] at ho6; rw [← Ny300.out] at ho6))
 have n0_ := Aside0.mk (Kd.R_lower ho6 (below_size hbm))
 have n1_ := bkb BK299 hb
 have n2_ := bst hb
 clear BK299
 clear HB
 have HO302 := n0_
 have BK299 := n1_
 have HB := n2_
 clear n0_ n1_ n2_
 clear hb ho6
 refine hK.out _ _ ⟨(blk_cell BK299.out 0).trans rfl, (blk_cell BK299.out 1).trans rfl, (blk_cell BK299.out 2).trans rfl, (blk_cell BK299.out 3).trans rfl, (blk_cell BK299.out 4).trans rfl⟩ (fun hHeld => ?_)
 clear hK K
 refine norm_ (a' := ?_) ?_ ?_
 rotate_left
 ·
  show Act.put _ (some 10) _ = _
  simp only [Act.put, List.setIfInBounds_toArray, List.set_cons_zero, List.set_cons_succ, i64_w, i32_w]
  rfl
 refine pur (i := 5) (N := some 5) #[true, true, true, true, true, true, false, false] (any_of HT_.out (by kernel_rfl)) ?_
 refine pur (i := 6) (N := some 6) #[true, true, true, true, true, true, true, false] (any_of HT_.out (by kernel_rfl)) ?_
 refine pur (i := 7) (N := some 7) #[true, true, true, true, true, true, true, true] (any_of HT_.out (by kernel_rfl)) ?_
 refine done_ (done_of HT_.out (by kernel_rfl)) ?_
 try go_wp2
 go_loopg [5, 6, 7, 8] k (fun kq v5 v6 v7 v8 w' => ∃ (x5_1 : List (S158)) (x6_1 : Int) (x7_1 : Int) (x8_1 : Int), v6 = .int .i64 x6_1 ∧ v7 = .int .i64 x7_1 ∧ v8 = .int .i64 x8_1 ∧ Aside0 (impl_Loan_rows.l0 kq a1 x5_1 x6_1 x7_1 x8_1 a0_0 a0_1 a0_2 a0_3 a0_4 = some r) ∧ Aside0 (kq ≤ k) ∧ Aside0 (Kd.R k158 158 w' w.heap.size (fun _ => True) v5 x5_1) ∧ Aside0 (w'.heap[gb299]? = some (.cells #[.int .i64 a0_0, .int .i64 a0_1, .int .i64 a0_2, .int .i64 a0_3, .int .i64 a0_4] 90 (0, 0))) ∧ Aside0 (Below w.heap.size w w'))
 case atStart => exact ⟨(y300), (a0_0), (a0_3), (1), (by first | rfl | (simp; done) | (simp [*]; done)), (by first | rfl | (simp; done) | (simp [*]; done)), (by first | rfl | (simp; done) | (simp [*]; done)), H', ⟨Nat.le_refl _⟩, ⟨by (with_reducible repeat (first | apply Kd.R_alloc | apply Kd.R_drewN | apply Kd.R_drew)); exact HO302.out⟩, ⟨by (with_reducible repeat (first | apply blk_drewN | apply blk_drew | apply blk_alloc)); exact BK299.out⟩, ⟨hbm⟩⟩
 case round =>
  clear H'
  try clear c1
  try clear p2
  obtain ⟨x5_1, x6_1, x7_1, x8_1, rfl, rfl, rfl, HA, HK1, HO_5, BK299, HB⟩ := hrel
  cases gk with
  | zero => exact absurd HA.out (by simp [impl_Loan_rows.l0])
  | succ k1 =>
   have H := HA.out
   clear HA
   simp only [impl_Loan_rows.l0] at H
   by_cases c7 : x8_1 ≤ a0_4
   ·
    rw [if_pos c7] at H
    have c7b0 : decide (x8_1 ≤ a0_4) = true := decide_eq_true c7
    clear c7
    replace H := Option.bind_eq_some_iff.mp H
    obtain ⟨⟨t303, t304⟩, A80, H⟩ := H
    (try dsimp only at H)
    have A8 := Aside0.mk A80
    clear A80
    replace H := Option.bind_eq_some_iff.mp H
    obtain ⟨⟨t306, t307⟩, A90, H⟩ := H
    (try dsimp only at H)
    have A9 := Aside0.mk A90
    clear A90
    obtain ⟨ji10, hji10⟩ : ∃ j_ : Int, (mn a1 (wrap64 (x6_1 + t306))) = j_ := ⟨_, rfl⟩
    replace H : (if x5_1.length < 4398046511104 then (impl_Loan_rows.l0 k1 a1 (x5_1 ++ [(⟨t303, t306, ji10, wrap64 ((wrap64 (x6_1 + t306)) - (ji10))⟩ : S158)]) (wrap64 ((wrap64 (x6_1 + t306)) - (ji10))) t303 (wrap64 (x8_1 + 1)) a0_0 a0_1 a0_2 a0_3 a0_4) else (none)) = some r := by first | (rw [hji10] at H; exact H) | (simp only [hji10] at H ⊢; exact H)
    (try rw [hji10] at A8)
    (try rw [hji10] at A9)
    have hji10_ : (if (wrap64 (x6_1 + t306)) < a1 then (wrap64 (x6_1 + t306)) else a1) = ji10 := hji10
    by_cases c11 : x5_1.length < 4398046511104
    ·
     rw [if_pos c11] at H
     have LMc11 := Aside0.mk c11
     clear c11
     obtain ⟨y308, hy308⟩ : ∃ y_ : List (S158), y_ = (x5_1 ++ [(⟨t303, t306, ji10, wrap64 ((wrap64 (x6_1 + t306)) - (ji10))⟩ : S158)]) := ⟨_, rfl⟩
     replace H : (impl_Loan_rows.l0 k1 a1 y308 (wrap64 ((wrap64 (x6_1 + t306)) - (ji10))) t303 (wrap64 (x8_1 + 1)) a0_0 a0_1 a0_2 a0_3 a0_4) = some r := by first | (rw [hy308]; with_reducible exact H) | (have H2_ := (Option.bind_some _ _).symm.trans H; rw [hy308]; with_reducible exact H2_) | (have H2_ := (Option.bind_some _ _).symm.trans H; with_reducible exact H2_) | with_reducible exact H | (rw [hy308]; exact H) | exact H
     have Ny308 := Aside0.mk hy308
     clear hy308
     have H' := Aside0.mk H
     clear H
     obtain ⟨hcz12_0, hcz12_1, hcz12_2, hcz12_3, hcz12_4, hfz12_0, hfz12_1, hfz12_2, hfz12_3, hfz12_4⟩ := bc5 BK299.out
     try go_wp2_with (first | ((with_reducible refine gate_callee (f := 213) rfl ?_); refine goesL_ (some 24) rfl rfl Tryd.func213 (by kernel_rfl) rfl #[.int .i64 a0_3, .int .i64 x8_1] rfl glm ?_; (with_reducible refine (impl_DayAdd.calls k1 a0_3 x8_1 t303 t304 _ A8.out).mono ?_); rintro e w13 ⟨rfl, hb⟩; refine ⟨_, rfl, ?_⟩; have n0_ := Aside0.mk (Kd.R_below (prR HO_5.out) hb); have n1_ := bkb BK299 hb; have n2_ := bst hb; clear HO_5; clear BK299; clear HB; have HO_5 := n0_; have BK299 := n1_; have HB := n2_; clear n0_ n1_ n2_; (try clear hb); (try clear hb2); (try clear hk); (try clear hi)) | ((with_reducible refine gate_dst (N := 9) rfl ?_); refine bxe (N := 9) (cs := #[.int .i64 0, .int .i64 0, .int .i64 0, .int .i64 0]) (t := 158) ?_; intro gb305 hg w14 hbox hb; have n0_ := Aside0.mk (Kd.R_below (Kd.R_elderB (prR HO_5.out) gb305 (Nat.le_of_eq hg.symm)) hb); have n1_ := bkb BK299 hb; have n2_ := bst hb; have n3_ := Aside0.mk (hbox); have n4_ := (bsz hg : Aside0 (w.heap.size ≤ gb305)); have n5_ := n4_; have n6_ := (bkn BK299 hg : Aside0 (gb299 ≠ gb305)); have n7_ := Aside0.mk n6_.out.symm; clear HO_5; clear BK299; clear HB; have HO_5 := n0_; have BK299 := n1_; have HB := n2_; have BK305 := n3_; have GW305 := n4_; have GE305 := n5_; have NB299_305 := n6_; have NB305_299 := n7_; clear n0_ n1_ n2_ n3_ n4_ n5_ n6_ n7_; clear hb hbox hg; have hnb15 := NB305_299.out; have hnc15 := NB299_305.out; obtain ⟨hcz16_0, hcz16_1, hcz16_2, hcz16_3, hfz16_0, hfz16_1, hfz16_2, hfz16_3⟩ := bc4 BK305.out; obtain ⟨hcz17_0, hcz17_1, hcz17_2, hcz17_3, hcz17_4, hfz17_0, hfz17_1, hfz17_2, hfz17_3, hfz17_4⟩ := bc5 BK299.out) | ((with_reducible refine gate_callee (f := 215) rfl ?_); refine goesL_ (some 35) rfl rfl Tryd.func215 (by kernel_rfl) rfl #[.int .i64 x6_1, .int .i64 a0_1, .int .i64 a0_2, .int .i64 x7_1, .int .i64 t303] rfl glm ?_; (with_reducible refine (impl_Interest.calls k1 x6_1 a0_1 a0_2 x7_1 t303 t306 t307 _ A9.out).mono ?_); rintro e w18 ⟨rfl, hb⟩; refine ⟨_, rfl, ?_⟩; have n0_ := Aside0.mk (Kd.R_below (by (with_reducible repeat (first | apply Kd.R_alloc | apply Kd.R_drewN | apply Kd.R_drew)); exact (Kd.R_mono (Kd.R_far (p := ⟨gb305, 3, none⟩) (Kd.R_far (p := ⟨gb305, 2, none⟩) (Kd.R_far (p := ⟨gb305, 1, none⟩) (Kd.R_far (p := ⟨gb305, 0, none⟩) (Kd.R_mono HO_5.out (fun k_ hk => (⟨hk, hk.2⟩ : _ ∧ k_ ≠ gb305))) (fun _ hk => hk.2) (.int .i64 t303)) (fun _ hk => hk.2) (.int .i64 0)) (fun _ hk => hk.2) (.int .i64 0)) (fun _ hk => hk.2) (.int .i64 0)) (fun _ h_ => h_.1))) hb); have n1_ := Aside0.mk (blk_below (g := gb299) (o := .cells #[.int .i64 a0_0, .int .i64 a0_1, .int .i64 a0_2, .int .i64 a0_3, .int .i64 a0_4] 90 (0, 0)) (by (with_reducible repeat (first | apply blk_drewN | apply blk_drew | apply blk_alloc)); refine blk_far ?_ NB299_305.out _; (with_reducible repeat (first | apply blk_drewN | apply blk_drew | apply blk_alloc)); refine blk_far ?_ NB299_305.out _; (with_reducible repeat (first | apply blk_drewN | apply blk_drew | apply blk_alloc)); refine blk_far ?_ NB299_305.out _; (with_reducible repeat (first | apply blk_drewN | apply blk_drew | apply blk_alloc)); refine blk_far ?_ NB299_305.out _; (with_reducible repeat (first | apply blk_drewN | apply blk_drew | apply blk_alloc)); exact BK299.out) hb); have n2_ := Aside0.mk (blk_below (g := gb305) (o := .cells #[.int .i64 t303, .int .i64 0, .int .i64 0, .int .i64 0] 158 (0, 0)) (by (with_reducible repeat (first | apply blk_drewN | apply blk_drew | apply blk_alloc)); refine blk_put (cs := #[.int .i64 t303, .int .i64 0, .int .i64 0, .int .i64 0]) ?_ 3 _ rfl; (with_reducible repeat (first | apply blk_drewN | apply blk_drew | apply blk_alloc)); refine blk_put (cs := #[.int .i64 t303, .int .i64 0, .int .i64 0, .int .i64 0]) ?_ 2 _ rfl; (with_reducible repeat (first | apply blk_drewN | apply blk_drew | apply blk_alloc)); refine blk_put (cs := #[.int .i64 t303, .int .i64 0, .int .i64 0, .int .i64 0]) ?_ 1 _ rfl; (with_reducible repeat (first | apply blk_drewN | apply blk_drew | apply blk_alloc)); refine blk_put (cs := #[.int .i64 0, .int .i64 0, .int .i64 0, .int .i64 0]) ?_ 0 _ rfl; (with_reducible repeat (first | apply blk_drewN | apply blk_drew | apply blk_alloc)); exact BK305.out) hb); have n3_ := bst hb; clear HO_5; clear BK299; clear BK305; clear HB; have HO_5 := n0_; have BK299 := n1_; have BK305 := n2_; have HB := n3_; clear n0_ n1_ n2_ n3_; (try clear hb); (try clear hb2); (try clear hk); (try clear hi); obtain ⟨hcz19_0, hcz19_1, hcz19_2, hcz19_3, hfz19_0, hfz19_1, hfz19_2, hfz19_3⟩ := bc4 BK305.out))
     have n0_ : Aside0 (Kd.R k158 158 (((w18.setCell ⟨gb305, 1, none⟩ (.int .i64 t306)).setCell ⟨gb305, 2, none⟩ (.int .i64 ji10)).setCell ⟨gb305, 3, none⟩ (.int .i64 (wrap64 ((wrap64 (x6_1 + t306)) - (ji10))))) w.heap.size (fun k_ => k_ ≠ gb305) u5 x5_1) := ⟨by (with_reducible repeat (first | apply Kd.R_alloc | apply Kd.R_drewN | apply Kd.R_drew)); exact Kd.R_mono (Kd.R_far (p := ⟨gb305, 3, none⟩) (Kd.R_far (p := ⟨gb305, 2, none⟩) (Kd.R_far (p := ⟨gb305, 1, none⟩) (Kd.R_mono HO_5.out (fun k_ hk => (⟨hk, hk.2⟩ : _ ∧ k_ ≠ gb305))) (fun _ hk => hk.2) (.int .i64 t306)) (fun _ hk => hk.2) (.int .i64 ji10)) (fun _ hk => hk.2) (.int .i64 (wrap64 ((wrap64 (x6_1 + t306)) - (ji10))))) (fun _ hk => hk.1.2)⟩
     have n1_ : Aside0 ((((w18.setCell ⟨gb305, 1, none⟩ (.int .i64 t306)).setCell ⟨gb305, 2, none⟩ (.int .i64 ji10)).setCell ⟨gb305, 3, none⟩ (.int .i64 (wrap64 ((wrap64 (x6_1 + t306)) - (ji10))))).heap[gb299]? = some (.cells #[.int .i64 a0_0, .int .i64 a0_1, .int .i64 a0_2, .int .i64 a0_3, .int .i64 a0_4] 90 (0, 0))) := ⟨by (with_reducible repeat (first | apply blk_drewN | apply blk_drew | apply blk_alloc)); refine blk_far ?_ NB299_305.out _; (with_reducible repeat (first | apply blk_drewN | apply blk_drew | apply blk_alloc)); refine blk_far ?_ NB299_305.out _; (with_reducible repeat (first | apply blk_drewN | apply blk_drew | apply blk_alloc)); refine blk_far ?_ NB299_305.out _; (with_reducible repeat (first | apply blk_drewN | apply blk_drew | apply blk_alloc)); exact BK299.out⟩
     have n2_ : Aside0 ((((w18.setCell ⟨gb305, 1, none⟩ (.int .i64 t306)).setCell ⟨gb305, 2, none⟩ (.int .i64 ji10)).setCell ⟨gb305, 3, none⟩ (.int .i64 (wrap64 ((wrap64 (x6_1 + t306)) - (ji10))))).heap[gb305]? = some (.cells #[.int .i64 t303, .int .i64 t306, .int .i64 ji10, .int .i64 (wrap64 ((wrap64 (x6_1 + t306)) - (ji10)))] 158 (0, 0))) := ⟨by (with_reducible repeat (first | apply blk_drewN | apply blk_drew | apply blk_alloc)); refine blk_put (cs := #[.int .i64 t303, .int .i64 t306, .int .i64 ji10, .int .i64 0]) ?_ 3 _ rfl; (with_reducible repeat (first | apply blk_drewN | apply blk_drew | apply blk_alloc)); refine blk_put (cs := #[.int .i64 t303, .int .i64 t306, .int .i64 0, .int .i64 0]) ?_ 2 _ rfl; (with_reducible repeat (first | apply blk_drewN | apply blk_drew | apply blk_alloc)); refine blk_put (cs := #[.int .i64 t303, .int .i64 0, .int .i64 0, .int .i64 0]) ?_ 1 _ rfl; (with_reducible repeat (first | apply blk_drewN | apply blk_drew | apply blk_alloc)); exact BK305.out⟩
     have n3_ : Aside0 (Below w.heap.size w (((w18.setCell ⟨gb305, 1, none⟩ (.int .i64 t306)).setCell ⟨gb305, 2, none⟩ (.int .i64 ji10)).setCell ⟨gb305, 3, none⟩ (.int .i64 (wrap64 ((wrap64 (x6_1 + t306)) - (ji10)))))) := ⟨hbm⟩
     (try clear HO_5)
     (try clear BK299)
     (try clear BK305)
     (try clear HB)
     generalize (((w18.setCell ⟨gb305, 1, none⟩ (.int .i64 t306)).setCell ⟨gb305, 2, none⟩ (.int .i64 ji10)).setCell ⟨gb305, 3, none⟩ (.int .i64 (wrap64 ((wrap64 (x6_1 + t306)) - (ji10))))) = w20 at n0_ n1_ n2_ n3_ ⊢
     have HO_5 := n0_
     have BK299 := n1_
     have BK305 := n2_
     have HB := n3_
     clear n0_ n1_ n2_ n3_
     have n0_ := Aside0.mk (Kd.R_drew HO_5.out)
     have n1_ := Aside0.mk (blk_drew BK299.out)
     have n2_ := Aside0.mk (blk_drew BK305.out)
     have n3_ := Aside0.mk (below_drew1 HB.out)
     clear HO_5
     clear BK299
     clear BK305
     clear HB
     have HO_5 := n0_
     have BK299 := n1_
     have BK305 := n2_
     have HB := n3_
     clear n0_ n1_ n2_ n3_
     refine start_ (n := 6) (S := fun w' => w'.cell? ⟨gb305, 0, none⟩ = some (.int .i64 t303) ∧ w'.cell? ⟨gb305, 1, none⟩ = some (.int .i64 t306) ∧ w'.cell? ⟨gb305, 2, none⟩ = some (.int .i64 ji10) ∧ w'.cell? ⟨gb305, 3, none⟩ = some (.int .i64 (wrap64 ((wrap64 (x6_1 + t306)) - (ji10))))) (ds := []) #[false, false, false, false, false, false] (by kernel_rfl) rfl rfl ⟨(blk_cell BK305.out 0).trans rfl, (blk_cell BK305.out 1).trans rfl, (blk_cell BK305.out 2).trans rfl, (blk_cell BK305.out 3).trans rfl⟩ (fun hHeld => ?_)
     generalize w20.drew = w21 at HO_5 BK299 BK305 HB hHeld ⊢
     refine pur (i := 0) (N := some 53) #[true, false, false, false, false, false] (by kernel_rfl) ?_
     refine pur (i := 2) (N := some 55) #[true, false, true, false, false, false] (by kernel_rfl) ?_
     refine tak4 (i := 1) (N := some 54) #[true, true, true, false, false, false] (by kernel_rfl) hHeld ?_
     refine pur (i := 4) (N := some 6) #[true, true, true, false, true, false] (by kernel_rfl) ?_
     refine tak4 (i := 3) (N := some 56) #[true, true, true, true, true, false] (by kernel_rfl) hHeld ?_
     refine pur (i := 5) (N := some 7) #[true, true, true, true, true, true] (by kernel_rfl) ?_
     refine done_ (by kernel_rfl) ?_
     obtain ⟨hcz22_0, hcz22_1, hcz22_2, hcz22_3, hfz22_0, hfz22_1, hfz22_2, hfz22_3⟩ := bc4 BK305.out
     try go_wp2_with (first | ((with_reducible refine gate_builtin (b := .append) (xs := #[.tmp 57, .tmp 59]) rfl ?_); at_builtin; refine Kd.R_append k158 (w0 := w) w.heap.size rfl (.tmp 57) (.tmp 59) 153 158 (.agg #[(.int .i64 0), (.int .i64 0), (.int .i64 0), (.int .i64 0)]) 32 rfl Tryd.underlying153 info158 rfl (by decide) (by omega) u5 x5_1 (⟨t303, t306, ji10, wrap64 ((wrap64 (x6_1 + t306)) - (ji10))⟩ : S158) [.int .i64 t303, .int .i64 t306, .int .i64 ji10, .int .i64 (wrap64 ((wrap64 (x6_1 + t306)) - (ji10)))] (fun k_ => k_ ≠ gb305) (fun _ => False) rfl rfl ?aP (fun _ hk => hk.elim) ?aF ?aO ?aB ?aS ?aL ?_; (case aP => exact k158_mkM _ _ _ (⟨t303, t306, ji10, wrap64 ((wrap64 (x6_1 + t306)) - (ji10))⟩ : S158)); (case aB => exact hbm); (case aF => exact (fun k_ hk => Kd.freshB (g := gb305) (o := .cells #[.int .i64 t303, .int .i64 t306, .int .i64 ji10, .int .i64 (wrap64 ((wrap64 (x6_1 + t306)) - (ji10)))] 158 (0, 0)) (by (with_reducible repeat (first | apply blk_drewN | apply blk_drew | apply blk_alloc)); exact BK305.out) k_ hk)); (case aO => exact (prR HO_5.out)); (case aS => exact (below_size hbm)); (case aL => have := LMc11.out; omega); intro v309 w23 ho hb hg hat; rw [← Ny308.out] at ho; have n0_ := Aside0.mk (blk_grown (g := gb299) (o := .cells #[.int .i64 a0_0, .int .i64 a0_1, .int .i64 a0_2, .int .i64 a0_3, .int .i64 a0_4] 90 (0, 0)) (by (with_reducible repeat (first | apply blk_drewN | apply blk_drew | apply blk_alloc)); exact BK299.out) hg (Kd.R_ne HO_5.out BK299.out (by decide))); have n1_ := Aside0.mk (blk_grown (g := gb305) (o := .cells #[.int .i64 t303, .int .i64 t306, .int .i64 ji10, .int .i64 (wrap64 ((wrap64 (x6_1 + t306)) - (ji10)))] 158 (0, 0)) (by (with_reducible repeat (first | apply blk_drewN | apply blk_drew | apply blk_alloc)); exact BK305.out) hg (Kd.R_away HO_5.out (fun _ hk => hk))); have n2_ := Aside0.mk (hb); have n3_ := Aside0.mk (ho); clear BK299; clear BK305; clear HB; clear HO_5; have BK299 := n0_; have BK305 := n1_; have HB := n2_; have HO310 := n3_; clear n0_ n1_ n2_ n3_; clear ho hb hg hat))
     go_roundg k1
     case measure => have := HK1.out; omega
     case rel => exact ⟨(y308), (wrap64 ((wrap64 (x6_1 + t306)) - (ji10))), (t303), (wrap64 (x8_1 + 1)), (by first | rfl | (simp; done) | (simp only [← hji10] <;> (first | rfl | simp)) | (simp [*]; done)), (by first | rfl | (simp; done) | (simp [*]; done)), (by first | rfl | (simp; done) | (simp [*]; done)), H', ⟨by have := HK1.out; omega⟩, ⟨by (with_reducible repeat (first | apply Kd.R_alloc | apply Kd.R_drewN | apply Kd.R_drew)); exact Kd.R_mono HO310.out (fun _ hk => trivial)⟩, ⟨by (with_reducible repeat (first | apply blk_drewN | apply blk_drew | apply blk_alloc)); exact BK299.out⟩, ⟨hbm⟩⟩
    ·
     rw [if_neg c11] at H
     exact absurd H (by simp)
   ·
    rw [if_neg c7] at H
    have c7b0 : decide (x8_1 ≤ a0_4) = false := decide_eq_false c7
    clear c7
    obtain rfl := Option.some.inj H
    obtain ⟨hcz24_0, hcz24_1, hcz24_2, hcz24_3, hcz24_4, hfz24_0, hfz24_1, hfz24_2, hfz24_3, hfz24_4⟩ := bc5 BK299.out
    go_wp2
    go_ret
    exact ⟨_, rfm, by (with_reducible repeat (first | apply Kd.R_alloc | apply Kd.R_drewN | apply Kd.R_drew)); exact HO_5.out, hbm⟩

/-! ### impl_Loan_left: function 216 -/
def impl_Loan_left.f (k : Nat) (a0_0 : Int) (a0_1 : Int) (a0_2 : Int) (a0_3 : Int) (a0_4 : Int) (a1 : Int) : Option (Int) := (impl_Loan_rows.f k a0_0 a0_1 a0_2 a0_3 a0_4 a1).bind fun t312 => (if 0 ≤ (wrap64 (a0_4 - 1)) then (if (wrap64 (a0_4 - 1)) < (t312.length : Int) then (some ((rd_T158 t312 (wrap64 (a0_4 - 1))).f3)) else (none)) else (none))
theorem impl_Loan_left.mono : ∀ a0 a1 a2 a3 a4 a5 k, LeO (impl_Loan_left.f k a0 a1 a2 a3 a4 a5) (impl_Loan_left.f (k + 1) a0 a1 a2 a3 a4 a5) := by
 intro a0 a1 a2 a3 a4 a5 k
 unfold impl_Loan_left.f
 repeat' first
   | (with_reducible exact impl_Loan_rows.mono _ _ _ _ _ _ _)
   | (with_reducible exact LeO.refl _)
   | (with_reducible exact LeO.none _)
   | (with_reducible refine LeO.ite ?_ ?_)
   | (with_reducible refine LeO.bind ?_ (fun _ => ?_))
   | exact impl_Loan_rows.mono _ _ _ _ _ _ _
   | exact LeO.none _
   | refine LeO.ite ?_ ?_
   | refine LeO.bind ?_ (fun _ => ?_)
def impl_Loan_left.T1 : Bool × List (List Nat × List Nat) := (true, [([], []), ([], []), ([0, 1], [0, 1]), ([], []), ([3], [3]), ([4], [4]), ([2, 5], [2, 5]), ([6], [6]), ([7], [7]), ([8, 2, 0, 1, 2, 3, 4, 5, 6, 7, 8], [8])])
def impl_Loan_left.B1 : List Nat := [0, 0, 3, 0, 8, 24, 63, 127, 255, 511]
theorem impl_Loan_left.tab1 : rtab .any (opsOf Tryd.f216 1) = impl_Loan_left.T1 := by kernel_rfl
theorem impl_Loan_left.bits1 : waitsOk impl_Loan_left.T1.2 impl_Loan_left.B1 = true := by kernel_rfl
set_option maxHeartbeats 8000000 in
set_option maxRecDepth 100000 in
theorem impl_Loan_left.calls (k : Nat) (a0_0 : Int) (a0_1 : Int) (a0_2 : Int) (a0_3 : Int) (a0_4 : Int) (a1 : Int) (r : Int) (w : World) (h : impl_Loan_left.f k a0_0 a0_1 a0_2 a0_3 a0_4 a1 = some r) :
  Calls Tryd.prog 216 #[.agg #[.int .i64 a0_0, .int .i64 a0_1, .int .i64 a0_2, .int .i64 a0_3, .int .i64 a0_4], .int .i64 a1] w fun e w' => e = .returned (.int .i64 r) ∧ Below w.heap.size w w' := by
 have hu90 := Tryd.underlying90
 have HB := Aside0.mk (Below.refl w.heap.size w)
 have H : ((impl_Loan_rows.f k a0_0 a0_1 a0_2 a0_3 a0_4 a1).bind fun t312 => (if 0 ≤ (wrap64 (a0_4 - 1)) then (if (wrap64 (a0_4 - 1)) < (t312.length : Int) then (some ((rd_T158 t312 (wrap64 (a0_4 - 1))).f3)) else (none)) else (none))) = some r := h
 clear h
 replace H := Option.bind_eq_some_iff.mp H
 obtain ⟨t312, A30, H⟩ := H
 (try dsimp only at H)
 have A3 := Aside0.mk A30
 clear A30
 obtain ⟨ji4, hji4⟩ : ∃ j_ : Int, (wrap64 (a0_4 - 1)) = j_ := ⟨_, rfl⟩
 replace H : (if 0 ≤ (ji4) then (if (ji4) < (t312.length : Int) then (some ((rd_T158 t312 (ji4)).f3)) else (none)) else (none)) = some r := by first | (rw [hji4] at H; exact H) | (simp only [hji4] at H ⊢; exact H)
 (try rw [hji4] at A3)
 have hji4w : (IntKind.i64.wrap (a0_4 - 1)) = ji4 := (i64_w _).trans hji4
 by_cases c5 : 0 ≤ (ji4)
 ·
  rw [if_pos c5] at H
  have c5b0 : decide (0 ≤ (ji4)) = true := decide_eq_true c5
  clear c5
  by_cases c6 : (ji4) < (t312.length : Int)
  ·
   rw [if_pos c6] at H
   have c6b0 : decide ((ji4) < (t312.length : Int)) = true := decide_eq_true c6
   clear c6
   obtain rfl := Option.some.inj H
   go_enter Tryd.func216, Tryd.ntmps216
   try go_wp2_with (first | ((with_reducible refine gate_dst (N := 2) rfl ?_); refine bxe (N := 2) (cs := #[.int .i64 a0_0, .int .i64 a0_1, .int .i64 a0_2, .int .i64 a0_3, .int .i64 a0_4]) (t := 90) ?_; intro gb311 hg w7 hbox hb; have n0_ := bst hb; have n1_ := Aside0.mk (hbox); have n2_ := (bsz hg : Aside0 (w.heap.size ≤ gb311)); have n3_ := n2_; clear HB; have HB := n0_; have BK311 := n1_; have GW311 := n2_; have GE311 := n3_; clear n0_ n1_ n2_ n3_; clear hb hbox hg))
   have n0_ := Aside0.mk (blk_drew BK311.out)
   have n1_ := Aside0.mk (below_drew1 HB.out)
   clear BK311
   clear HB
   have BK311 := n0_
   have HB := n1_
   clear n0_ n1_
   refine start_ (n := 10) (S := fun w' => w'.cell? ⟨gb311, 0, none⟩ = some (.int .i64 a0_0) ∧ w'.cell? ⟨gb311, 1, none⟩ = some (.int .i64 a0_1) ∧ w'.cell? ⟨gb311, 2, none⟩ = some (.int .i64 a0_2) ∧ w'.cell? ⟨gb311, 3, none⟩ = some (.int .i64 a0_3) ∧ w'.cell? ⟨gb311, 4, none⟩ = some (.int .i64 a0_4)) (ds := []) #[false, false, false, false, false, false, false, false, false, false] (by kernel_rfl) rfl rfl ⟨(blk_cell BK311.out 0).trans rfl, (blk_cell BK311.out 1).trans rfl, (blk_cell BK311.out 2).trans rfl, (blk_cell BK311.out 3).trans rfl, (blk_cell BK311.out 4).trans rfl⟩ (fun hHeld => ?_); refine with_tabW impl_Loan_left.tab1 impl_Loan_left.bits1 (fun HT_ HW_ => ?_)
   generalize w7.drew = w8 at BK311 HB hHeld ⊢
   refine pur (i := 1) (N := some 6) #[false, true, false, false, false, false, false, false, false, false] (any_of HT_.out (by kernel_rfl)) ?_
   refine pur (i := 3) (N := some 8) #[false, true, false, true, false, false, false, false, false, false] (any_of HT_.out (by kernel_rfl)) ?_
   refine tak5 (i := 0) (N := some 5) #[true, true, false, true, false, false, false, false, false, false] (take_ofW HT_.out HW_.out (by kernel_rfl)) hHeld ?_
   refine tak5 (i := 4) (N := some 9) #[true, true, false, true, true, false, false, false, false, false] (take_ofW HT_.out HW_.out (by kernel_rfl)) hHeld ?_
   refine pur (i := 5) (N := some 10) #[true, true, false, true, true, true, false, false, false, false] (any_of HT_.out (by kernel_rfl)) ?_
   refine one_ (i := 2) (N := some 7) #[true, true, true, true, true, true, false, false, false, false] rfl rfl (one_of HT_.out (by kernel_rfl)) (by decide) (fun K hK => ?_)
   refine goes_ Tryd.func177 (by kernel_rfl) rfl #[.agg #[.int .i64 a0_0, .int .i64 a0_1, .int .i64 a0_2, .int .i64 a0_3, .int .i64 a0_4], .int .i64 a1] (by rfl) rfl rfl glm ?_
   with_reducible refine (impl_Loan_rows.calls k a0_0 a0_1 a0_2 a0_3 a0_4 a1 t312 _ A3.out).mono ?_
   rintro e w9 ⟨v313, rfl, ho0, hb⟩
   refine ⟨_, rfl, ?_⟩
   have n0_ := Aside0.mk (Kd.R_lower ho0 (below_size hbm))
   have n1_ := bkb BK311 hb
   have n2_ := bst hb
   clear BK311
   clear HB
   have HO314 := n0_
   have BK311 := n1_
   have HB := n2_
   clear n0_ n1_ n2_
   (try clear hb)
   (try clear hb2)
   (try clear hk)
   (try clear hi)
   (try clear ho0)
   obtain ⟨Ao10, co10, eo10⟩ := Kd.R_slice HO314.out
   (first | subst eo10 | (injection eo10 with f1_ f2_ f3_; have f4_ := f1_.symm; have f5_ := f3_.symm; clear f1_ f2_ f3_; subst f4_; subst f5_))
   have p315 : 0 ≤ ((ji4) : Int) := of_decide_eq_true asm_
   have q315 : (ji4) < (t312.length : Int) := of_decide_eq_true asm_
   obtain ⟨ad315, e315, hx315_0, hx315_1, hx315_2, hx315_3⟩ := at_T158 (Kd.R_reads' HO314.out).2.2 (ji4) p315 q315
   cases e315
   replace p315 := eq_true p315
   replace q315 := eq_true q315
   refine hK.out _ _ ⟨(blk_cell BK311.out 0).trans rfl, (blk_cell BK311.out 1).trans rfl, (blk_cell BK311.out 2).trans rfl, (blk_cell BK311.out 3).trans rfl, (blk_cell BK311.out 4).trans rfl⟩ (fun hHeld => ?_)
   clear hK K
   refine norm_ (a' := ?_) ?_ ?_
   rotate_left
   ·
    show Act.put _ (some 7) _ = _
    simp only [Act.put, List.setIfInBounds_toArray, List.set_cons_zero, List.set_cons_succ, i64_w, i32_w]
    rfl
   refine pur (i := 6) (N := some 11) #[true, true, true, true, true, true, true, false, false, false] (any_of HT_.out (by kernel_rfl)) ?_
   refine pur (i := 7) (N := some 12) #[true, true, true, true, true, true, true, true, false, false] (any_of HT_.out (by kernel_rfl)) ?_
   refine one_ (i := 8) (N := some 13) #[true, true, true, true, true, true, true, true, true, false] rfl rfl (one_of HT_.out (by kernel_rfl)) (by decide) (fun K hK => ?_)
   refine value_ (v := ?_) (w1 := ?_) rfl rfl ?hrun ?hput
   case hrun =>
     go_simp
     first | with_reducible rfl | (refine ⟨?_, ?_⟩ <;> with_reducible rfl)
   refine hK.out _ _ hHeld (fun hHeld => ?_)
   clear hK K
   refine norm_ (a' := ?_) ?_ ?_
   rotate_left
   · show Act.put _ (some 13) _ = _
     simp only [Act.put, List.setIfInBounds_toArray, List.set_cons_zero, List.set_cons_succ, i64_w, i32_w]
     rfl
   refine pur (i := 9) (N := some 4) #[true, true, true, true, true, true, true, true, true, true] (any_of HT_.out (by kernel_rfl)) ?_
   refine done_ (done_of HT_.out (by kernel_rfl)) ?_
   try go_wp2
   go_ret
   exact ⟨by first | rfl | (simp [errW_none, errW_some] <;> rfl) | (simp only [← hji4]; first | rfl | (simp [errW_none, errW_some] <;> rfl)) | (simp [*, errW_none, errW_some] <;> rfl), hbm⟩
  ·
   rw [if_neg c6] at H
   exact absurd H (by simp)
 ·
  rw [if_neg c5] at H
  exact absurd H (by simp)

/-! ### impl_Loan_instalment: function 178 -/
def impl_Loan_instalment.l0 : Nat → Int → Int → Int → Int → Int → Int → Int → Option (Int)
 | 0, _, _, _, _, _, _, _ => none
 | k + 1, x3, x4, x317000, x317001, x317002, x317003, x317004 => if x3 < x4 then ((impl_Loan_left.f k x317000 x317001 x317002 x317003 x317004 (wrap64 (Int.tdiv (wrap64 (x3 + x4)) 2))).bind fun t317 => (if t317 = 0 then (impl_Loan_instalment.l0 k x3 (wrap64 (Int.tdiv (wrap64 (x3 + x4)) 2)) x317000 x317001 x317002 x317003 x317004) else (impl_Loan_instalment.l0 k (wrap64 ((wrap64 (Int.tdiv (wrap64 (x3 + x4)) 2)) + 1)) x4 x317000 x317001 x317002 x317003 x317004))) else (some x3)
def impl_Loan_instalment.f (k : Nat) (a0_0 : Int) (a0_1 : Int) (a0_2 : Int) (a0_3 : Int) (a0_4 : Int) : Option (Int) := impl_Loan_instalment.l0 k 0 40000000000 a0_0 a0_1 a0_2 a0_3 a0_4
theorem impl_Loan_instalment.mono_l : ∀ k, (∀ y0 y1 y2 y3 y4 y5 y6, LeO (impl_Loan_instalment.l0 k y0 y1 y2 y3 y4 y5 y6) (impl_Loan_instalment.l0 (k + 1) y0 y1 y2 y3 y4 y5 y6))
 | 0 => fun _ _ _ _ _ _ _ r h => by simp [impl_Loan_instalment.l0] at h
 | k + 1 => by
  have ih0 := impl_Loan_instalment.mono_l k
  ·
   intro y0 y1 y2 y3 y4 y5 y6
   unfold impl_Loan_instalment.l0
   repeat' first
   | (with_reducible exact ih0 _ _ _ _ _ _ _)
   | (with_reducible exact impl_Loan_left.mono _ _ _ _ _ _ _)
   | (with_reducible exact LeO.refl _)
   | (with_reducible exact LeO.none _)
   | (with_reducible refine LeO.ite ?_ ?_)
   | (with_reducible refine LeO.bind ?_ (fun _ => ?_))
   | exact ih0 _ _ _ _ _ _ _
   | exact impl_Loan_left.mono _ _ _ _ _ _ _
   | exact LeO.none _
   | refine LeO.ite ?_ ?_
   | refine LeO.bind ?_ (fun _ => ?_)
theorem impl_Loan_instalment.mono : ∀ a0 a1 a2 a3 a4 k, LeO (impl_Loan_instalment.f k a0 a1 a2 a3 a4) (impl_Loan_instalment.f (k + 1) a0 a1 a2 a3 a4) := by
 intro a0 a1 a2 a3 a4 k
 have ih0 := impl_Loan_instalment.mono_l k
 unfold impl_Loan_instalment.f
 repeat' first
   | (with_reducible exact ih0 _ _ _ _ _ _ _)
   | (with_reducible exact impl_Loan_left.mono _ _ _ _ _ _ _)
   | (with_reducible exact LeO.refl _)
   | (with_reducible exact LeO.none _)
   | (with_reducible refine LeO.ite ?_ ?_)
   | (with_reducible refine LeO.bind ?_ (fun _ => ?_))
   | exact ih0 _ _ _ _ _ _ _
   | exact impl_Loan_left.mono _ _ _ _ _ _ _
   | exact LeO.none _
   | refine LeO.ite ?_ ?_
   | refine LeO.bind ?_ (fun _ => ?_)
set_option maxHeartbeats 8000000 in
set_option maxRecDepth 100000 in
theorem impl_Loan_instalment.calls (k : Nat) (a0_0 : Int) (a0_1 : Int) (a0_2 : Int) (a0_3 : Int) (a0_4 : Int) (r : Int) (w : World) (h : impl_Loan_instalment.f k a0_0 a0_1 a0_2 a0_3 a0_4 = some r) :
  Calls Tryd.prog 178 #[.agg #[.int .i64 a0_0, .int .i64 a0_1, .int .i64 a0_2, .int .i64 a0_3, .int .i64 a0_4]] w fun e w' => e = .returned (.int .i64 r) ∧ Below w.heap.size w w' := by
 have hu90 := Tryd.underlying90
 have HB := Aside0.mk (Below.refl w.heap.size w)
 have H : (impl_Loan_instalment.l0 k 0 40000000000 a0_0 a0_1 a0_2 a0_3 a0_4) = some r := h
 clear h
 have H' := Aside0.mk H
 clear H
 go_enter Tryd.func178, Tryd.ntmps178
 go_wp2_with (first | ((with_reducible refine gate_dst (N := 1) rfl ?_); refine bxe (N := 1) (cs := #[.int .i64 a0_0, .int .i64 a0_1, .int .i64 a0_2, .int .i64 a0_3, .int .i64 a0_4]) (t := 90) ?_; intro gb316 hg w2 hbox hb; have n0_ := bst hb; have n1_ := Aside0.mk (hbox); have n2_ := (bsz hg : Aside0 (w.heap.size ≤ gb316)); have n3_ := n2_; clear HB; have HB := n0_; have BK316 := n1_; have GW316 := n2_; have GE316 := n3_; clear n0_ n1_ n2_ n3_; clear hb hbox hg))
 go_loopg [3, 4] k (fun kq v3 v4 w' => ∃ (x3_1 : Int) (x4_1 : Int), v3 = .int .i64 x3_1 ∧ v4 = .int .i64 x4_1 ∧ Aside0 (impl_Loan_instalment.l0 kq x3_1 x4_1 a0_0 a0_1 a0_2 a0_3 a0_4 = some r) ∧ Aside0 (kq ≤ k) ∧ Aside0 (w'.heap[gb316]? = some (.cells #[.int .i64 a0_0, .int .i64 a0_1, .int .i64 a0_2, .int .i64 a0_3, .int .i64 a0_4] 90 (0, 0))) ∧ Aside0 (Below w.heap.size w w'))
 case atStart => exact ⟨(0), (40000000000), (by first | rfl | (simp; done) | (simp [*]; done)), (by first | rfl | (simp; done) | (simp [*]; done)), H', ⟨Nat.le_refl _⟩, ⟨by (with_reducible repeat (first | apply blk_drewN | apply blk_drew | apply blk_alloc)); exact BK316.out⟩, ⟨hbm⟩⟩
 case round =>
  clear H'
  try clear c1
  try clear p2
  obtain ⟨x3_1, x4_1, rfl, rfl, HA, HK1, BK316, HB⟩ := hrel
  cases gk with
  | zero => exact absurd HA.out (by simp [impl_Loan_instalment.l0])
  | succ k1 =>
   have H := HA.out
   clear HA
   simp only [impl_Loan_instalment.l0] at H
   by_cases c3 : x3_1 < x4_1
   ·
    rw [if_pos c3] at H
    have c3b0 : decide (x3_1 < x4_1) = true := decide_eq_true c3
    clear c3
    replace H := Option.bind_eq_some_iff.mp H
    obtain ⟨t317, A40, H⟩ := H
    (try dsimp only at H)
    have A4 := Aside0.mk A40
    clear A40
    by_cases c5 : t317 = 0
    ·
     rw [if_pos c5] at H
     have c5b0 : (t317 == 0) = true := beq_iff_eq.mpr c5
     have c5b1 : (t317 != 0) = false := bne_eq_false_iff_eq.mpr c5
     clear c5
     have H' := Aside0.mk H
     clear H
     obtain ⟨hcz6_0, hcz6_1, hcz6_2, hcz6_3, hcz6_4, hfz6_0, hfz6_1, hfz6_2, hfz6_3, hfz6_4⟩ := bc5 BK316.out
     go_wp2_with (first | ((with_reducible refine gate_callee (f := 216) rfl ?_); refine goesL_ (some 15) rfl rfl Tryd.func216 (by kernel_rfl) rfl #[.agg #[.int .i64 a0_0, .int .i64 a0_1, .int .i64 a0_2, .int .i64 a0_3, .int .i64 a0_4], .int .i64 (wrap64 (Int.tdiv (wrap64 (x3_1 + x4_1)) 2))] rfl glm ?_; (with_reducible refine (impl_Loan_left.calls k1 a0_0 a0_1 a0_2 a0_3 a0_4 (wrap64 (Int.tdiv (wrap64 (x3_1 + x4_1)) 2)) t317 _ A4.out).mono ?_); rintro e w7 ⟨rfl, hb⟩; refine ⟨_, rfl, ?_⟩; have n0_ := bkb BK316 hb; have n1_ := bst hb; clear BK316; clear HB; have BK316 := n0_; have HB := n1_; clear n0_ n1_; (try clear hb); (try clear hb2); (try clear hk); (try clear hi)))
     go_roundg k1
     case measure => have := HK1.out; omega
     case rel => exact ⟨(x3_1), (wrap64 (Int.tdiv (wrap64 (x3_1 + x4_1)) 2)), (by first | rfl | (simp; done) | (simp [*]; done)), (by first | rfl | (simp; done) | (simp [*]; done)), H', ⟨by have := HK1.out; omega⟩, ⟨by (with_reducible repeat (first | apply blk_drewN | apply blk_drew | apply blk_alloc)); exact BK316.out⟩, ⟨hbm⟩⟩
    ·
     rw [if_neg c5] at H
     have c5b0 : (t317 == 0) = false := beq_eq_false_iff_ne.mpr c5
     have c5b1 : (t317 != 0) = true := bne_iff_ne.mpr c5
     have H' := Aside0.mk H
     clear H
     obtain ⟨hcz8_0, hcz8_1, hcz8_2, hcz8_3, hcz8_4, hfz8_0, hfz8_1, hfz8_2, hfz8_3, hfz8_4⟩ := bc5 BK316.out
     go_wp2_with (first | ((with_reducible refine gate_callee (f := 216) rfl ?_); refine goesL_ (some 15) rfl rfl Tryd.func216 (by kernel_rfl) rfl #[.agg #[.int .i64 a0_0, .int .i64 a0_1, .int .i64 a0_2, .int .i64 a0_3, .int .i64 a0_4], .int .i64 (wrap64 (Int.tdiv (wrap64 (x3_1 + x4_1)) 2))] rfl glm ?_; (with_reducible refine (impl_Loan_left.calls k1 a0_0 a0_1 a0_2 a0_3 a0_4 (wrap64 (Int.tdiv (wrap64 (x3_1 + x4_1)) 2)) t317 _ A4.out).mono ?_); rintro e w9 ⟨rfl, hb⟩; refine ⟨_, rfl, ?_⟩; have n0_ := bkb BK316 hb; have n1_ := bst hb; clear BK316; clear HB; have BK316 := n0_; have HB := n1_; clear n0_ n1_; (try clear hb); (try clear hb2); (try clear hk); (try clear hi)))
     go_roundg k1
     case measure => have := HK1.out; omega
     case rel => exact ⟨(wrap64 ((wrap64 (Int.tdiv (wrap64 (x3_1 + x4_1)) 2)) + 1)), (x4_1), (by first | rfl | (simp; done) | (simp [*]; done)), (by first | rfl | (simp; done) | (simp [*]; done)), H', ⟨by have := HK1.out; omega⟩, ⟨by (with_reducible repeat (first | apply blk_drewN | apply blk_drew | apply blk_alloc)); exact BK316.out⟩, ⟨hbm⟩⟩
   ·
    rw [if_neg c3] at H
    have c3b0 : decide (x3_1 < x4_1) = false := decide_eq_false c3
    clear c3
    obtain rfl := Option.some.inj H
    go_wp2
    go_ret
    exact ⟨rfm, hbm⟩

/-! ### impl_dec: function 168 -/
def impl_dec.f (a0 : Int) : Option ByteArray := if -9223372036854775808 ≤ a0 ∧ a0 ≤ 9223372036854775807 then some ⟨(Lib.itoa a0).toArray⟩ else none
set_option maxHeartbeats 8000000 in
set_option maxRecDepth 100000 in
theorem impl_dec.calls (a0 : Int) (r : ByteArray) (w : World) (hLd : Ld w) (h : impl_dec.f a0 = some r) :
    Calls Tryd.prog 168 #[.int .i64 a0] w fun e w' => e = .returned (.string r) ∧ Below w.heap.size w w' := by
  unfold impl_dec.f at h
  by_cases hb : -9223372036854775808 ≤ a0 ∧ a0 ≤ 9223372036854775807
  case neg => rw [if_neg hb] at h; cases h
  rw [if_pos hb] at h
  obtain rfl := Option.some.inj h
  have e1 : ∀ args w, (callFunc 202 args).run Tryd.prog w = .ok (.enter 202 args) w := enters_of Tryd.func202 (by kernel_rfl) rfl
  have ht := hLd.tab
  clear hLd
  go_enter Tryd.func168, Tryd.ntmps168
  go_wp2_with (go_at_fn 202; refine (Any.strconv_FormatInt_10 YtidlcolgiololaaDoor.laysM173 a0 hb.1 hb.2 _ ht).mono ?_; rintro e w' ⟨rfl, k, os, rfl⟩)
  go_ret
  exact ⟨rfl, Lib.below_grow _ w (Nat.le_refl _) k os⟩

end Go.Proofs.YtidlcolgiololaaDoor.S
