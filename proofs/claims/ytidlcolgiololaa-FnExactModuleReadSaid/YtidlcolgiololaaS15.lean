/- Proved: each Go function named here answers as its plain Lean function says, in whatever memory; no condition. Written by a program of this session over the print of the kit. -/
import Derived.Test.YtidlcolgiololaaSq
import Derived.Test.YtidlcolgiololaaS0
import Derived.Test.YtidlcolgiololaaS8
import Derived.Test.YtidlcolgiololaaS14
namespace Go.Proofs.Ytidlcolgiololaa.S
open Go.RowKit Go.Proofs.YtidlcolgiololaaW.PrintWords Go.Proofs.YtidlcolgiololaaW.PrintLast Go.Proofs.YtidlcolgiololaaW.PrintMore
attribute [local go_sem] max2_int min2_int max_two min_two max_three min_three max_four min_four   -- for this text's walks alone
set_option linter.unusedVariables false
set_option linter.unusedSimpArgs false

/-! ### impl_ModuleRead: function 7 -/
mutual
def impl_ModuleRead.l0 : Nat → ByteArray → List Int → Int → Int → Option (Int × Int × Int × Int × (List (S64)) × Int × Int)
 | 0, _, _, _, _ => none
 | k + 1, x0, x3, x4, x5 => if (x3.length : Int) < x5 then ((impl_getNum.f k x0 x4).bind fun bt304 => (if bt304.2.2 = 0 then (if x3.length < 17592186044416 then ((some (x3 ++ [bt304.1] : List Int)).bind fun y308 => (if (y308.length : Int) = 5 then ((impl_in.f bt304.1 1 2000).bind fun t311 => (if t311 = true then (impl_ModuleRead.l0 k x0 y308 bt304.2.1 (wrap64 (x5 + (wrap64 (3 * bt304.1))))) else (some (0, 0, 0, 0, ([] : List (S64)), x4, 1)))) else (impl_ModuleRead.l0 k x0 y308 bt304.2.1 x5))) else (none)) else (some (0, 0, 0, 0, ([] : List (S64)), x4, bt304.2.2)))) else (if x4 < (x0.size : Int) then (some (0, 0, 0, 0, ([] : List (S64)), x4, 3)) else (if 0 < (x3.length : Int) then (if 1 < (x3.length : Int) then (if 2 < (x3.length : Int) then (if 3 < (x3.length : Int) then (impl_ModuleRead.l1 k x3 x5 5 (rd x3 0) (rd x3 1) (rd x3 2) (rd x3 3) ([] : List (S64))) else (none)) else (none)) else (none)) else (none)))
def impl_ModuleRead.l1 : Nat → List Int → Int → Int → Int → Int → Int → Int → List (S64) → Option (Int × Int × Int × Int × (List (S64)) × Int × Int)
 | 0, _, _, _, _, _, _, _, _ => none
 | k + 1, x3, x5, x8, x317000, x317001, x317002, x317003, x317004 => if x8 < x5 then (if 0 ≤ x8 then (if x8 < (x3.length : Int) then (if 0 ≤ (wrap64 (x8 + 1)) then (if (wrap64 (x8 + 1)) < (x3.length : Int) then (if 0 ≤ (wrap64 (x8 + 2)) then (if (wrap64 (x8 + 2)) < (x3.length : Int) then (if x317004.length < 5864062014805 then (impl_ModuleRead.l1 k x3 x5 (wrap64 (x8 + 3)) x317000 x317001 x317002 x317003 (x317004 ++ [(⟨rd x3 x8, rd x3 (wrap64 (x8 + 1)), rd x3 (wrap64 (x8 + 2))⟩ : S64)])) else (none)) else (none)) else (none)) else (none)) else (none)) else (none)) else (none)) else ((impl_ModuleRight.f k x317000 x317001 x317002 x317003 x317004).bind fun t323 => (if t323 = true then (some (x317000, x317001, x317002, x317003, x317004, 0, 0)) else (some (0, 0, 0, 0, ([] : List (S64)), 0, 1))))
end
def impl_ModuleRead.f (k : Nat) (a0 : ByteArray) : Option (Int × Int × Int × Int × (List (S64)) × Int × Int) := if (a0.size : Int) > 20000 then (some (0, 0, 0, 0, ([] : List (S64)), 0, 2)) else (impl_ModuleRead.l0 k a0 (([] : List Int)) 0 5)
theorem impl_ModuleRead.mono_l : ∀ k, (∀ y0 y1 y2 y3, LeO (impl_ModuleRead.l0 k y0 y1 y2 y3) (impl_ModuleRead.l0 (k + 1) y0 y1 y2 y3)) ∧ (∀ y0 y1 y2 y3 y4 y5 y6 y7, LeO (impl_ModuleRead.l1 k y0 y1 y2 y3 y4 y5 y6 y7) (impl_ModuleRead.l1 (k + 1) y0 y1 y2 y3 y4 y5 y6 y7))
 | 0 => ⟨fun _ _ _ _ r h => by simp [impl_ModuleRead.l0] at h, fun _ _ _ _ _ _ _ _ r h => by simp [impl_ModuleRead.l1] at h⟩
 | k + 1 => by
  obtain ⟨ih0, ih1⟩ := impl_ModuleRead.mono_l k
  refine ⟨?_, ?_⟩
  ·
   intro y0 y1 y2 y3
   unfold impl_ModuleRead.l0
   repeat' first
   | (with_reducible exact ih0 _ _ _ _)
   | (with_reducible exact ih1 _ _ _ _ _ _ _ _)
   | (with_reducible exact impl_ModuleRight.mono _ _ _ _ _ _)
   | (with_reducible exact impl_getNum.mono _ _ _)
   | (with_reducible exact LeO.refl _)
   | (with_reducible exact LeO.none _)
   | (with_reducible refine LeO.ite ?_ ?_)
   | (with_reducible refine LeO.bind ?_ (fun _ => ?_))
   | exact ih0 _ _ _ _
   | exact ih1 _ _ _ _ _ _ _ _
   | exact impl_ModuleRight.mono _ _ _ _ _ _
   | exact impl_getNum.mono _ _ _
   | exact LeO.none _
   | refine LeO.ite ?_ ?_
   | refine LeO.bind ?_ (fun _ => ?_)
  ·
   intro y0 y1 y2 y3 y4 y5 y6 y7
   unfold impl_ModuleRead.l1
   repeat' first
   | (with_reducible exact ih0 _ _ _ _)
   | (with_reducible exact ih1 _ _ _ _ _ _ _ _)
   | (with_reducible exact impl_ModuleRight.mono _ _ _ _ _ _)
   | (with_reducible exact impl_getNum.mono _ _ _)
   | (with_reducible exact LeO.refl _)
   | (with_reducible exact LeO.none _)
   | (with_reducible refine LeO.ite ?_ ?_)
   | (with_reducible refine LeO.bind ?_ (fun _ => ?_))
   | exact ih0 _ _ _ _
   | exact ih1 _ _ _ _ _ _ _ _
   | exact impl_ModuleRight.mono _ _ _ _ _ _
   | exact impl_getNum.mono _ _ _
   | exact LeO.none _
   | refine LeO.ite ?_ ?_
   | refine LeO.bind ?_ (fun _ => ?_)
theorem impl_ModuleRead.mono : ∀ a0 k, LeO (impl_ModuleRead.f k a0) (impl_ModuleRead.f (k + 1) a0) := by
 intro a0 k
 obtain ⟨ih0, ih1⟩ := impl_ModuleRead.mono_l k
 unfold impl_ModuleRead.f
 repeat' first
   | (with_reducible exact ih0 _ _ _ _)
   | (with_reducible exact ih1 _ _ _ _ _ _ _ _)
   | (with_reducible exact impl_ModuleRight.mono _ _ _ _ _ _)
   | (with_reducible exact impl_getNum.mono _ _ _)
   | (with_reducible exact LeO.refl _)
   | (with_reducible exact LeO.none _)
   | (with_reducible refine LeO.ite ?_ ?_)
   | (with_reducible refine LeO.bind ?_ (fun _ => ?_))
   | exact ih0 _ _ _ _
   | exact ih1 _ _ _ _ _ _ _ _
   | exact impl_ModuleRight.mono _ _ _ _ _ _
   | exact impl_getNum.mono _ _ _
   | exact LeO.none _
   | refine LeO.ite ?_ ?_
   | refine LeO.bind ?_ (fun _ => ?_)
def impl_ModuleRead.T16 : Bool × List (List Nat × List Nat) := (true, [([], []), ([0], [0]), ([1], [1]), ([], []), ([3], [3]), ([4], [4]), ([], []), ([6], [6]), ([7], [7]), ([], []), ([9], [9]), ([10], [10]), ([2, 5, 8, 11], [2, 5, 8, 11]), ([], []), ([13, 12, 0, 1, 2, 3, 4, 5, 6, 7, 8, 9, 10, 11, 12, 13], [12, 13])])
def impl_ModuleRead.B16 : List Nat := [0, 1, 3, 0, 8, 24, 0, 64, 192, 0, 512, 1536, 4095, 0, 16383]
theorem impl_ModuleRead.tab16 : rtab .any (opsOf Try.f7 16) = impl_ModuleRead.T16 := by kernel_rfl
theorem impl_ModuleRead.bits16 : waitsOk impl_ModuleRead.T16.2 impl_ModuleRead.B16 = true := by kernel_rfl
def impl_ModuleRead.T20 : Bool × List (List Nat × List Nat) := (true, [([], []), ([0], [0]), ([], []), ([], []), ([2, 3], [2, 3]), ([4], [4]), ([], []), ([], []), ([7], [7]), ([6, 8], [6, 8]), ([9], [9]), ([], []), ([], []), ([12], [12]), ([11, 13], [11, 13]), ([14], [14]), ([5, 10, 15], [5, 10, 15]), ([16], [16]), ([1, 17], [1, 17]), ([0, 1, 2, 3, 4, 5, 6, 7, 8, 9, 10, 11, 12, 13, 14, 15, 16, 17, 18], []), ([19, 18, 18, 0, 1, 2, 3, 4, 5, 6, 7, 8, 9, 10, 11, 12, 13, 14, 15, 16, 17, 18], [18, 19])])
def impl_ModuleRead.B20 : List Nat := [0, 1, 0, 0, 12, 28, 0, 0, 128, 448, 960, 0, 0, 4096, 14336, 30720, 65532, 131068, 262143, 524287, 1048575]
theorem impl_ModuleRead.tab20 : rtab .any (opsOf Try.f7 20) = impl_ModuleRead.T20 := by kernel_rfl
theorem impl_ModuleRead.bits20 : waitsOk impl_ModuleRead.T20.2 impl_ModuleRead.B20 = true := by kernel_rfl
set_option maxHeartbeats 8000000 in
set_option maxRecDepth 100000 in
theorem impl_ModuleRead.calls (k : Nat) (a0 : ByteArray) (r1 : Int) (r2 : Int) (r3 : Int) (r4 : Int) (r5 : List (S64)) (r6 : Int) (r7 : Int) (w : World) (h : impl_ModuleRead.f k a0 = some (r1, r2, r3, r4, r5, r6, r7)) :
  Calls Try.prog 7 #[.string a0] w fun e w' => ∃ v4_ : Value, e = .returned (.agg #[.int .i64 r1, .int .i64 r2, .int .i64 r3, .int .i64 r4, v4_, .int .i64 r6, .int .i64 r7]) ∧ Kd.R k64 64 w' w.heap.size (fun _ => True) v4_ r5 ∧ Below w.heap.size w w' := by
 have hu26 := Try.underlying26
 have hu66 := Try.underlying66
 have hu24 := Try.underlying24
 have hu64 := Try.underlying64
 have HB := Aside0.mk (Below.refl w.heap.size w)
 have H : (if (a0.size : Int) > 20000 then (some (0, 0, 0, 0, ([] : List (S64)), 0, 2)) else (impl_ModuleRead.l0 k a0 (([] : List Int)) 0 5)) = some (r1, r2, r3, r4, r5, r6, r7) := h
 clear h
 by_cases c2 : (a0.size : Int) > 20000
 ·
  rw [if_pos c2] at H
  have c2b0 : decide (20000 < (a0.size : Int)) = true := decide_eq_true c2
  have c2b1 : decide (20000 < a0.size) = true := decide_eq_true (by omega)
  clear c2
  simp only [Option.some.injEq, Prod.mk.injEq] at H
  obtain ⟨rfl, rfl, rfl, rfl, rfl, rfl, rfl⟩ := H
  go_enter Try.func7, Try.ntmps7
  go_wp2_with (first | ((with_reducible refine gate_dst (N := 2) rfl ?_); refine bxe (N := 2) (cs := #[.int .i64 0, .int .i64 0, .int .i64 0, .int .i64 0, .slice none 0 0, .int .i64 0, .int .i64 0]) (t := 26) ?_; intro gb300 hg w3 hbox hb; have n0_ := bst hb; have n1_ := Aside0.mk (hbox); have n2_ := (bsz hg : Aside0 (w.heap.size ≤ gb300)); have n3_ := n2_; clear HB; have HB := n0_; have BK300 := n1_; have GW300 := n2_; have GE300 := n3_; clear n0_ n1_ n2_ n3_; clear hb hbox hg; obtain ⟨hcz4_0, hcz4_1, hcz4_2, hcz4_3, hcz4_4, hcz4_5, hcz4_6, hfz4_0, hfz4_1, hfz4_2, hfz4_3, hfz4_4, hfz4_5, hfz4_6⟩ := bc7 BK300.out))
  refine bodyPost_ret (results_cell_row rfl _ _ gb300 26 #[.int .i64 0, .int .i64 0, .int .i64 0, .int .i64 0, .slice none 0 0, .int .i64 0, .int .i64 2] (0, 0) _ rfl (by (with_reducible repeat (first | apply blk_drewN | apply blk_drew | apply blk_alloc)); refine blk_put (cs := #[.int .i64 0, .int .i64 0, .int .i64 0, .int .i64 0, .slice none 0 0, .int .i64 0, .int .i64 0]) ?_ 6 _ rfl; (with_reducible repeat (first | apply blk_drewN | apply blk_drew | apply blk_alloc)); refine blk_put (cs := #[.int .i64 0, .int .i64 0, .int .i64 0, .int .i64 0, .slice none 0 0, .int .i64 0, .int .i64 0]) ?_ 5 _ rfl; (with_reducible repeat (first | apply blk_drewN | apply blk_drew | apply blk_alloc)); refine blk_put (cs := #[.int .i64 0, .int .i64 0, .int .i64 0, .int .i64 0, .slice none 0 0, .int .i64 0, .int .i64 0]) ?_ 4 _ rfl; (with_reducible repeat (first | apply blk_drewN | apply blk_drew | apply blk_alloc)); refine blk_put (cs := #[.int .i64 0, .int .i64 0, .int .i64 0, .int .i64 0, .slice none 0 0, .int .i64 0, .int .i64 0]) ?_ 3 _ rfl; (with_reducible repeat (first | apply blk_drewN | apply blk_drew | apply blk_alloc)); refine blk_put (cs := #[.int .i64 0, .int .i64 0, .int .i64 0, .int .i64 0, .slice none 0 0, .int .i64 0, .int .i64 0]) ?_ 2 _ rfl; (with_reducible repeat (first | apply blk_drewN | apply blk_drew | apply blk_alloc)); refine blk_put (cs := #[.int .i64 0, .int .i64 0, .int .i64 0, .int .i64 0, .slice none 0 0, .int .i64 0, .int .i64 0]) ?_ 1 _ rfl; (with_reducible repeat (first | apply blk_drewN | apply blk_drew | apply blk_alloc)); refine blk_put (cs := #[.int .i64 0, .int .i64 0, .int .i64 0, .int .i64 0, .slice none 0 0, .int .i64 0, .int .i64 0]) ?_ 0 _ rfl; (with_reducible repeat (first | apply blk_drewN | apply blk_drew | apply blk_alloc)); exact BK300.out) Try.underlying26 rfl (by kernel_rfl)) rfl ?_
  exact ⟨_, rfm, by first | exact Kd.R_nil _ _ _ _ _ | exact Kd.N_nil _ _ _ _ _ | exact Kd.V_nil _ _ _ _ _ | exact Kd.Q_nil _ _ _ _ _ | exact Kd.S_nil _ _ _ _ _, hbm⟩
 ·
  rw [if_neg c2] at H
  have c2b0 : decide (20000 < (a0.size : Int)) = false := decide_eq_false c2
  have c2b1 : decide (20000 < a0.size) = false := decide_eq_false (by omega)
  clear c2
  obtain ⟨y301, hy301⟩ : ∃ y_ : List Int, y_ = (([] : List Int)) := ⟨_, rfl⟩
  replace H : (impl_ModuleRead.l0 k a0 y301 0 5) = some (r1, r2, r3, r4, r5, r6, r7) := by first | (rw [hy301]; with_reducible exact H) | (have H2_ := (Option.bind_some _ _).symm.trans H; rw [hy301]; with_reducible exact H2_) | (have H2_ := (Option.bind_some _ _).symm.trans H; with_reducible exact H2_) | with_reducible exact H | (rw [hy301]; exact H) | exact H
  have Ny301 := Aside0.mk hy301
  clear hy301
  have H' := Aside0.mk H
  clear H
  go_enter Try.func7, Try.ntmps7
  go_wp2_with (first | ((with_reducible refine gate_dst (N := 2) rfl ?_); refine bxe (N := 2) (cs := #[.int .i64 0, .int .i64 0, .int .i64 0, .int .i64 0, .slice none 0 0, .int .i64 0, .int .i64 0]) (t := 26) ?_; intro gb300 hg w5 hbox hb; have n0_ := bst hb; have n1_ := Aside0.mk (hbox); have n2_ := (bsz hg : Aside0 (w.heap.size ≤ gb300)); have n3_ := n2_; clear HB; have HB := n0_; have BK300 := n1_; have GW300 := n2_; have GE300 := n3_; clear n0_ n1_ n2_ n3_; clear hb hbox hg) | ((with_reducible refine gate_dst (N := 13) rfl ?_); refine Kd.R_lit (Kd.int .i64) _ 2 ?hg (N := 13) ?hd (xs := ([] : List Int)) (inner := []) (ok := fun _ => True) (okp := fun _ => True) ?hr ?hp (fun _ hk => hk) trivial (Below.refl _ _) (Nat.le_refl _) (by simp) ?_; (case hd => rfl); (case hg => rfl); (case hr => first | (go_simp; done) | (go_simp; rfl)); (case hp => exact (Reps.none _ _)); intro v302 w6 ho7 hb hg_ hnew_; clear hg_ hnew_; (first | rw [← Ny301.out] at ho7 | (simp only [Int.reduceToNat] at ho7; rw [← Ny301.out] at ho7)); have n0_ := Aside0.mk (Kd.R_lower ho7 (below_size hbm)); have n1_ := bkb BK300 hb; have n2_ := bst hb; clear BK300; clear HB; have HO303 := n0_; have BK300 := n1_; have HB := n2_; clear n0_ n1_ n2_; clear hb ho7))
  go_loopg [3, 4, 5] k (fun kq v3 v4 v5 w' => ∃ (x3_1 : List Int) (x4_1 : Int) (x5_1 : Int) (x301000_1 : Int) (x301001_1 : Int) (x301002_1 : Int) (x301003_1 : Int) (x301005_1 : Int) (x301006_1 : Int), v4 = .int .i64 x4_1 ∧ v5 = .int .i64 x5_1 ∧ Aside0 (impl_ModuleRead.l0 kq a0 x3_1 x4_1 x5_1 = some (r1, r2, r3, r4, r5, r6, r7)) ∧ Aside0 (kq ≤ k) ∧ Aside0 (Kd.R (Kd.int .i64) 2 w' w.heap.size (fun _ => True) v3 x3_1) ∧ Aside0 (w'.heap[gb300]? = some (.cells #[.int .i64 x301000_1, .int .i64 x301001_1, .int .i64 x301002_1, .int .i64 x301003_1, (.slice none 0 0), .int .i64 x301005_1, .int .i64 x301006_1] 26 (0, 0))) ∧ Aside0 (Below w.heap.size w w'))
  case atStart => exact ⟨(y301), (0), (5), (0), (0), (0), (0), (0), (0), (by first | rfl | (simp; done) | (simp [*]; done)), (by first | rfl | (simp; done) | (simp [*]; done)), H', ⟨Nat.le_refl _⟩, ⟨by (with_reducible repeat (first | apply Kd.R_alloc | apply Kd.R_drewN | apply Kd.R_drew)); exact HO303.out⟩, ⟨by (with_reducible repeat (first | apply blk_drewN | apply blk_drew | apply blk_alloc)); exact BK300.out⟩, ⟨hbm⟩⟩
  case round =>
   clear H'
   try clear c2; try clear c2b0; try clear c2b1; try clear p2; try clear c7; try clear hcz4_0 hcz4_1 hcz4_2 hcz4_3 hcz4_4 hcz4_5 hcz4_6 hfz4_0 hfz4_1 hfz4_2 hfz4_3 hfz4_4 hfz4_5 hfz4_6
   obtain ⟨x3_1, x4_1, x5_1, x301000_1, x301001_1, x301002_1, x301003_1, x301005_1, x301006_1, rfl, rfl, HA, HK1, HO_3, BK300, HB⟩ := hrel
   cases gk with
   | zero => exact absurd HA.out (by simp [impl_ModuleRead.l0])
   | succ k1 =>
    have H := HA.out
    clear HA
    simp only [impl_ModuleRead.l0] at H
    by_cases c8 : (x3_1.length : Int) < x5_1
    ·
     rw [if_pos c8] at H
     have c8b0 := decide_eq_true c8
     clear c8
     replace H := Option.bind_eq_some_iff.mp H
     obtain ⟨⟨t304, t305, t306⟩, A90, H⟩ := H
     (try dsimp only at H)
     have A9 := Aside0.mk A90
     clear A90
     by_cases c10 : t306 = 0
     ·
      rw [if_pos c10] at H
      have c10b0 : (t306 == 0) = true := beq_iff_eq.mpr c10
      have c10b1 : (t306 != 0) = false := bne_eq_false_iff_eq.mpr c10
      clear c10
      by_cases c11 : x3_1.length < 17592186044416
      ·
       rw [if_pos c11] at H
       have LMc11 := Aside0.mk c11
       clear c11
       obtain ⟨y308, hy308⟩ : ∃ y_ : List Int, y_ = (x3_1 ++ [t304]) := ⟨_, rfl⟩
       replace H : (if (y308.length : Int) = 5 then ((impl_in.f t304 1 2000).bind fun t311 => (if t311 = true then (impl_ModuleRead.l0 k1 a0 y308 t305 (wrap64 (x5_1 + (wrap64 (3 * t304))))) else (some (0, 0, 0, 0, ([] : List (S64)), x4_1, 1)))) else (impl_ModuleRead.l0 k1 a0 y308 t305 x5_1)) = some (r1, r2, r3, r4, r5, r6, r7) := by first | (rw [hy308]; with_reducible exact H) | (have H2_ := (Option.bind_some _ _).symm.trans H; rw [hy308]; with_reducible exact H2_) | (have H2_ := (Option.bind_some _ _).symm.trans H; with_reducible exact H2_) | with_reducible exact H | (rw [hy308]; exact H) | exact H
       have Ny308 := Aside0.mk hy308
       clear hy308
       by_cases c12 : (y308.length : Int) = 5
       ·
        rw [if_pos c12] at H
        have c12b0 : ((y308.length : Int) == 5) = true := beq_iff_eq.mpr c12
        have c12b1 : ((y308.length : Int) != 5) = false := bne_eq_false_iff_eq.mpr c12
        clear c12
        replace H := Option.bind_eq_some_iff.mp H
        obtain ⟨t311, A130, H⟩ := H
        (try dsimp only at H)
        have A13 := Aside0.mk A130
        clear A130
        by_cases c14 : t311 = true
        ·
         subst c14
         have H1 : (impl_ModuleRead.l0 k1 a0 y308 t305 (wrap64 (x5_1 + (wrap64 (3 * t304))))) = some (r1, r2, r3, r4, r5, r6, r7) := by rw [if_pos rfl] at H; exact H
         clear H
         have H := H1
         clear H1
         have H' := Aside0.mk H
         clear H
         obtain ⟨Ao15, co15, eo15⟩ := Kd.R_slice HO_3.out
         subst eo15
         go_wp2_with (first | ((with_reducible refine gate_callee (f := 24) rfl ?_); refine goesL_ (some 20) rfl rfl Try.func24 (by kernel_rfl) rfl #[.string a0, .int .i64 x4_1] rfl glm ?_; (with_reducible refine (impl_getNum.calls k1 a0 x4_1 t304 t305 t306 _ A9.out).mono ?_); rintro e w16 ⟨rfl, hb⟩; refine ⟨_, rfl, ?_⟩; have n0_ := Aside0.mk (Kd.R_below (prR HO_3.out) hb); have n1_ := bkb BK300 hb; have n2_ := bst hb; clear HO_3; clear BK300; clear HB; have HO_3 := n0_; have BK300 := n1_; have HB := n2_; clear n0_ n1_ n2_; (try clear hb); (try clear hb2); (try clear hk); (try clear hi)) | ((with_reducible refine gate_dst (N := 6) rfl ?_); refine bxe (N := 6) (cs := #[.int .i64 0, .int .i64 0, .int .i64 0]) (t := 66) ?_; intro gb307 hg w17 hbox hb; have n0_ := Aside0.mk (Kd.R_below (prR HO_3.out) hb); have n1_ := bkb BK300 hb; have n2_ := bst hb; have n3_ := Aside0.mk (hbox); have n4_ := (bsz hg : Aside0 (w.heap.size ≤ gb307)); have n5_ := n4_; have n6_ := (bkn BK300 hg : Aside0 (gb300 ≠ gb307)); have n7_ := Aside0.mk n6_.out.symm; clear HO_3; clear BK300; clear HB; have HO_3 := n0_; have BK300 := n1_; have HB := n2_; have BK307 := n3_; have GW307 := n4_; have GE307 := n5_; have NB300_307 := n6_; have NB307_300 := n7_; clear n0_ n1_ n2_ n3_ n4_ n5_ n6_ n7_; clear hb hbox hg; have hnb18 := NB307_300.out; have hnc18 := NB300_307.out; obtain ⟨hcz19_0, hcz19_1, hcz19_2, hfz19_0, hfz19_1, hfz19_2⟩ := bc3 BK307.out) | ((with_reducible refine gate_builtin (b := .append) (xs := #[.tmp 28, .tmp 31]) rfl ?_); at_builtin; refine Kd.R_append (Kd.int .i64) (w0 := w) w.heap.size rfl (.tmp 28) (.tmp 31) 53 2 (.int .i64 0) 8 rfl Try.underlying53 info2 rfl (by decide) (by omega) (.slice Ao15 x3_1.length co15) x3_1 t304 [.int .i64 t304] (fun _ => True) (fun _ => False) rfl (by first | (go_simp; done) | (go_simp; rfl)) ?aP (fun _ hk => hk.elim) ?aF ?aO ?aB ?aS ?aL ?_; (case aP => exact rfl); (case aB => exact hbm); (case aF => exact (fun _ _ => trivial)); (case aO => exact (by (with_reducible repeat (first | apply Kd.R_alloc | apply Kd.R_drewN | apply Kd.R_drew)); exact Kd.R_mono (Kd.R_far (p := ⟨gb307, 2, none⟩) (Kd.R_far (p := ⟨gb307, 1, none⟩) (Kd.R_far (p := ⟨gb307, 0, none⟩) (Kd.R_types HO_3.out BK307.out (by decide)) (fun _ hk => hk.2) (.int .i64 t304)) (fun _ hk => hk.2) (.int .i64 t305)) (fun _ hk => hk.2) (.int .i64 t306)) (fun _ hk => trivial))); (case aS => exact (below_size hbm)); (case aL => have := LMc11.out; omega); intro v309 w20 ho hb hg hat; rw [← Ny308.out] at ho; have n0_ := Aside0.mk (blk_grown (g := gb300) (o := .cells #[.int .i64 x301000_1, .int .i64 x301001_1, .int .i64 x301002_1, .int .i64 x301003_1, .slice none 0 0, .int .i64 x301005_1, .int .i64 x301006_1] 26 (0, 0)) (by (with_reducible repeat (first | apply blk_drewN | apply blk_drew | apply blk_alloc)); refine blk_far ?_ NB300_307.out _; (with_reducible repeat (first | apply blk_drewN | apply blk_drew | apply blk_alloc)); refine blk_far ?_ NB300_307.out _; (with_reducible repeat (first | apply blk_drewN | apply blk_drew | apply blk_alloc)); refine blk_far ?_ NB300_307.out _; (with_reducible repeat (first | apply blk_drewN | apply blk_drew | apply blk_alloc)); exact BK300.out) hg (Kd.R_ne HO_3.out BK300.out (by decide))); have n1_ := Aside0.mk (blk_grown (g := gb307) (o := .cells #[.int .i64 t304, .int .i64 t305, .int .i64 t306] 66 (0, 0)) (by (with_reducible repeat (first | apply blk_drewN | apply blk_drew | apply blk_alloc)); refine blk_put (cs := #[.int .i64 t304, .int .i64 t305, .int .i64 0]) ?_ 2 _ rfl; (with_reducible repeat (first | apply blk_drewN | apply blk_drew | apply blk_alloc)); refine blk_put (cs := #[.int .i64 t304, .int .i64 0, .int .i64 0]) ?_ 1 _ rfl; (with_reducible repeat (first | apply blk_drewN | apply blk_drew | apply blk_alloc)); refine blk_put (cs := #[.int .i64 0, .int .i64 0, .int .i64 0]) ?_ 0 _ rfl; (with_reducible repeat (first | apply blk_drewN | apply blk_drew | apply blk_alloc)); exact BK307.out) hg (Kd.R_ne HO_3.out BK307.out (by decide))); have n2_ := Aside0.mk (hb); have n3_ := Aside0.mk (ho); clear BK300; clear BK307; clear HB; clear HO_3; have BK300 := n0_; have BK307 := n1_; have HB := n2_; have HO310 := n3_; clear n0_ n1_ n2_ n3_; clear ho hb hg hat; obtain ⟨Ao21, co21, eo21⟩ := Kd.R_slice HO310.out; subst eo21; obtain ⟨hcz22_0, hcz22_1, hcz22_2, hfz22_0, hfz22_1, hfz22_2⟩ := bc3 BK307.out) | ((with_reducible refine gate_callee (f := 25) rfl ?_); refine goesL_ (some 38) rfl rfl Try.func25 (by kernel_rfl) rfl #[.int .i64 t304, .int .i64 1, .int .i64 2000] rfl glm ?_; (with_reducible refine (impl_in.calls t304 1 2000 true _ A13.out).mono ?_); rintro e w' ⟨rfl, ⟨nd, rfl⟩⟩; refine ⟨_, rfl, ?_⟩))
         go_roundg k1
         case measure => have := HK1.out; omega
         case rel => exact ⟨(y308), (t305), (wrap64 (x5_1 + (wrap64 (3 * t304)))), (x301000_1), (x301001_1), (x301002_1), (x301003_1), (x301005_1), (x301006_1), (by first | rfl | (simp; done) | (simp [*]; done)), (by first | rfl | (simp; done) | (simp [*]; done)), H', ⟨by have := HK1.out; omega⟩, ⟨by (with_reducible repeat (first | apply Kd.R_alloc | apply Kd.R_drewN | apply Kd.R_drew)); exact HO310.out⟩, ⟨by (with_reducible repeat (first | apply blk_drewN | apply blk_drew | apply blk_alloc)); exact BK300.out⟩, ⟨hbm⟩⟩
        ·
         replace c14 := Bool.eq_false_iff.mpr c14
         subst c14
         have H1 : (some (0, 0, 0, 0, ([] : List (S64)), x4_1, 1)) = some (r1, r2, r3, r4, r5, r6, r7) := by rw [if_neg (show ¬ (false = true) by decide)] at H; exact H
         clear H
         have H := H1
         clear H1
         simp only [Option.some.injEq, Prod.mk.injEq] at H
         obtain ⟨rfl, rfl, rfl, rfl, rfl, rfl, rfl⟩ := H
         obtain ⟨Ao23, co23, eo23⟩ := Kd.R_slice HO_3.out
         subst eo23
         go_wp2_with (first | ((with_reducible refine gate_callee (f := 24) rfl ?_); refine goesL_ (some 20) rfl rfl Try.func24 (by kernel_rfl) rfl #[.string a0, .int .i64 x4_1] rfl glm ?_; (with_reducible refine (impl_getNum.calls k1 a0 x4_1 t304 t305 t306 _ A9.out).mono ?_); rintro e w24 ⟨rfl, hb⟩; refine ⟨_, rfl, ?_⟩; have n0_ := Aside0.mk (Kd.R_below (prR HO_3.out) hb); have n1_ := bkb BK300 hb; have n2_ := bst hb; clear HO_3; clear BK300; clear HB; have HO_3 := n0_; have BK300 := n1_; have HB := n2_; clear n0_ n1_ n2_; (try clear hb); (try clear hb2); (try clear hk); (try clear hi)) | ((with_reducible refine gate_dst (N := 6) rfl ?_); refine bxe (N := 6) (cs := #[.int .i64 0, .int .i64 0, .int .i64 0]) (t := 66) ?_; intro gb307 hg w25 hbox hb; have n0_ := Aside0.mk (Kd.R_below (prR HO_3.out) hb); have n1_ := bkb BK300 hb; have n2_ := bst hb; have n3_ := Aside0.mk (hbox); have n4_ := (bsz hg : Aside0 (w.heap.size ≤ gb307)); have n5_ := n4_; have n6_ := (bkn BK300 hg : Aside0 (gb300 ≠ gb307)); have n7_ := Aside0.mk n6_.out.symm; clear HO_3; clear BK300; clear HB; have HO_3 := n0_; have BK300 := n1_; have HB := n2_; have BK307 := n3_; have GW307 := n4_; have GE307 := n5_; have NB300_307 := n6_; have NB307_300 := n7_; clear n0_ n1_ n2_ n3_ n4_ n5_ n6_ n7_; clear hb hbox hg; have hnb26 := NB307_300.out; have hnc26 := NB300_307.out; obtain ⟨hcz27_0, hcz27_1, hcz27_2, hfz27_0, hfz27_1, hfz27_2⟩ := bc3 BK307.out) | ((with_reducible refine gate_builtin (b := .append) (xs := #[.tmp 28, .tmp 31]) rfl ?_); at_builtin; refine Kd.R_append (Kd.int .i64) (w0 := w) w.heap.size rfl (.tmp 28) (.tmp 31) 53 2 (.int .i64 0) 8 rfl Try.underlying53 info2 rfl (by decide) (by omega) (.slice Ao23 x3_1.length co23) x3_1 t304 [.int .i64 t304] (fun _ => True) (fun _ => False) rfl (by first | (go_simp; done) | (go_simp; rfl)) ?aP (fun _ hk => hk.elim) ?aF ?aO ?aB ?aS ?aL ?_; (case aP => exact rfl); (case aB => exact hbm); (case aF => exact (fun _ _ => trivial)); (case aO => exact (by (with_reducible repeat (first | apply Kd.R_alloc | apply Kd.R_drewN | apply Kd.R_drew)); exact Kd.R_mono (Kd.R_far (p := ⟨gb307, 2, none⟩) (Kd.R_far (p := ⟨gb307, 1, none⟩) (Kd.R_far (p := ⟨gb307, 0, none⟩) (Kd.R_types HO_3.out BK307.out (by decide)) (fun _ hk => hk.2) (.int .i64 t304)) (fun _ hk => hk.2) (.int .i64 t305)) (fun _ hk => hk.2) (.int .i64 t306)) (fun _ hk => trivial))); (case aS => exact (below_size hbm)); (case aL => have := LMc11.out; omega); intro v309 w28 ho hb hg hat; rw [← Ny308.out] at ho; have n0_ := Aside0.mk (blk_grown (g := gb300) (o := .cells #[.int .i64 x301000_1, .int .i64 x301001_1, .int .i64 x301002_1, .int .i64 x301003_1, .slice none 0 0, .int .i64 x301005_1, .int .i64 x301006_1] 26 (0, 0)) (by (with_reducible repeat (first | apply blk_drewN | apply blk_drew | apply blk_alloc)); refine blk_far ?_ NB300_307.out _; (with_reducible repeat (first | apply blk_drewN | apply blk_drew | apply blk_alloc)); refine blk_far ?_ NB300_307.out _; (with_reducible repeat (first | apply blk_drewN | apply blk_drew | apply blk_alloc)); refine blk_far ?_ NB300_307.out _; (with_reducible repeat (first | apply blk_drewN | apply blk_drew | apply blk_alloc)); exact BK300.out) hg (Kd.R_ne HO_3.out BK300.out (by decide))); have n1_ := Aside0.mk (blk_grown (g := gb307) (o := .cells #[.int .i64 t304, .int .i64 t305, .int .i64 t306] 66 (0, 0)) (by (with_reducible repeat (first | apply blk_drewN | apply blk_drew | apply blk_alloc)); refine blk_put (cs := #[.int .i64 t304, .int .i64 t305, .int .i64 0]) ?_ 2 _ rfl; (with_reducible repeat (first | apply blk_drewN | apply blk_drew | apply blk_alloc)); refine blk_put (cs := #[.int .i64 t304, .int .i64 0, .int .i64 0]) ?_ 1 _ rfl; (with_reducible repeat (first | apply blk_drewN | apply blk_drew | apply blk_alloc)); refine blk_put (cs := #[.int .i64 0, .int .i64 0, .int .i64 0]) ?_ 0 _ rfl; (with_reducible repeat (first | apply blk_drewN | apply blk_drew | apply blk_alloc)); exact BK307.out) hg (Kd.R_ne HO_3.out BK307.out (by decide))); have n2_ := Aside0.mk (hb); have n3_ := Aside0.mk (ho); clear BK300; clear BK307; clear HB; clear HO_3; have BK300 := n0_; have BK307 := n1_; have HB := n2_; have HO310 := n3_; clear n0_ n1_ n2_ n3_; clear ho hb hg hat; obtain ⟨Ao29, co29, eo29⟩ := Kd.R_slice HO310.out; subst eo29; obtain ⟨hcz30_0, hcz30_1, hcz30_2, hfz30_0, hfz30_1, hfz30_2⟩ := bc3 BK307.out) | ((with_reducible refine gate_callee (f := 25) rfl ?_); refine goesL_ (some 38) rfl rfl Try.func25 (by kernel_rfl) rfl #[.int .i64 t304, .int .i64 1, .int .i64 2000] rfl glm ?_; (with_reducible refine (impl_in.calls t304 1 2000 false _ A13.out).mono ?_); rintro e w' ⟨rfl, ⟨nd, rfl⟩⟩; refine ⟨_, rfl, ?_⟩; (try (rw [drewN_self w28]; generalize hq_ : World.drewN w28 _ = w28; have n0_ : Aside0 (Kd.R (Kd.int .i64) 2 w28 w.heap.size (fun _ => True) (.slice Ao29 y308.length co29) y308) := ⟨by rw [← hq_]; exact (prR HO310.out)⟩; have n1_ : Aside0 (w28.heap[gb300]? = some (.cells #[.int .i64 x301000_1, .int .i64 x301001_1, .int .i64 x301002_1, .int .i64 x301003_1, .slice none 0 0, .int .i64 x301005_1, .int .i64 x301006_1] 26 (0, 0))) := ⟨by rw [← hq_]; exact (by (with_reducible repeat (first | apply blk_drewN | apply blk_drew | apply blk_alloc)); exact BK300.out)⟩; have n2_ : Aside0 (w28.heap[gb307]? = some (.cells #[.int .i64 t304, .int .i64 t305, .int .i64 t306] 66 (0, 0))) := ⟨by rw [← hq_]; exact (by (with_reducible repeat (first | apply blk_drewN | apply blk_drew | apply blk_alloc)); exact BK307.out)⟩; have n3_ : Aside0 (Below w.heap.size w w28) := ⟨by rw [← hq_]; exact hbm⟩; clear HO310 BK300 BK307 HB hq_; have HO310 := n0_; have BK300 := n1_; have BK307 := n2_; have HB := n3_; clear n0_ n1_ n2_ n3_)); obtain ⟨hcz31_0, hcz31_1, hcz31_2, hcz31_3, hcz31_4, hcz31_5, hcz31_6, hfz31_0, hfz31_1, hfz31_2, hfz31_3, hfz31_4, hfz31_5, hfz31_6⟩ := bc7 BK300.out))
         refine bodyPost_ret (results_cell_row rfl _ _ gb300 26 #[.int .i64 0, .int .i64 0, .int .i64 0, .int .i64 0, .slice none 0 0, .int .i64 x4_1, .int .i64 1] (0, 0) _ rfl (by (with_reducible repeat (first | apply blk_drewN | apply blk_drew | apply blk_alloc)); refine blk_put (cs := #[.int .i64 0, .int .i64 0, .int .i64 0, .int .i64 0, .slice none 0 0, .int .i64 x4_1, .int .i64 x301006_1]) ?_ 6 _ rfl; (with_reducible repeat (first | apply blk_drewN | apply blk_drew | apply blk_alloc)); refine blk_put (cs := #[.int .i64 0, .int .i64 0, .int .i64 0, .int .i64 0, .slice none 0 0, .int .i64 x301005_1, .int .i64 x301006_1]) ?_ 5 _ rfl; (with_reducible repeat (first | apply blk_drewN | apply blk_drew | apply blk_alloc)); refine blk_put (cs := #[.int .i64 0, .int .i64 0, .int .i64 0, .int .i64 0, .slice none 0 0, .int .i64 x301005_1, .int .i64 x301006_1]) ?_ 4 _ rfl; (with_reducible repeat (first | apply blk_drewN | apply blk_drew | apply blk_alloc)); refine blk_put (cs := #[.int .i64 0, .int .i64 0, .int .i64 0, .int .i64 x301003_1, .slice none 0 0, .int .i64 x301005_1, .int .i64 x301006_1]) ?_ 3 _ rfl; (with_reducible repeat (first | apply blk_drewN | apply blk_drew | apply blk_alloc)); refine blk_put (cs := #[.int .i64 0, .int .i64 0, .int .i64 x301002_1, .int .i64 x301003_1, .slice none 0 0, .int .i64 x301005_1, .int .i64 x301006_1]) ?_ 2 _ rfl; (with_reducible repeat (first | apply blk_drewN | apply blk_drew | apply blk_alloc)); refine blk_put (cs := #[.int .i64 0, .int .i64 x301001_1, .int .i64 x301002_1, .int .i64 x301003_1, .slice none 0 0, .int .i64 x301005_1, .int .i64 x301006_1]) ?_ 1 _ rfl; (with_reducible repeat (first | apply blk_drewN | apply blk_drew | apply blk_alloc)); refine blk_put (cs := #[.int .i64 x301000_1, .int .i64 x301001_1, .int .i64 x301002_1, .int .i64 x301003_1, .slice none 0 0, .int .i64 x301005_1, .int .i64 x301006_1]) ?_ 0 _ rfl; (with_reducible repeat (first | apply blk_drewN | apply blk_drew | apply blk_alloc)); exact BK300.out) Try.underlying26 rfl (by kernel_rfl)) rfl ?_
         exact ⟨_, rfm, by first | exact Kd.R_nil _ _ _ _ _ | exact Kd.N_nil _ _ _ _ _ | exact Kd.V_nil _ _ _ _ _ | exact Kd.Q_nil _ _ _ _ _ | exact Kd.S_nil _ _ _ _ _, hbm⟩
       ·
        rw [if_neg c12] at H
        have c12b0 : ((y308.length : Int) == 5) = false := beq_eq_false_iff_ne.mpr c12
        have c12b1 : ((y308.length : Int) != 5) = true := bne_iff_ne.mpr c12
        have H' := Aside0.mk H
        clear H
        obtain ⟨Ao32, co32, eo32⟩ := Kd.R_slice HO_3.out
        subst eo32
        go_wp2_with (first | ((with_reducible refine gate_callee (f := 24) rfl ?_); refine goesL_ (some 20) rfl rfl Try.func24 (by kernel_rfl) rfl #[.string a0, .int .i64 x4_1] rfl glm ?_; (with_reducible refine (impl_getNum.calls k1 a0 x4_1 t304 t305 t306 _ A9.out).mono ?_); rintro e w33 ⟨rfl, hb⟩; refine ⟨_, rfl, ?_⟩; have n0_ := Aside0.mk (Kd.R_below (prR HO_3.out) hb); have n1_ := bkb BK300 hb; have n2_ := bst hb; clear HO_3; clear BK300; clear HB; have HO_3 := n0_; have BK300 := n1_; have HB := n2_; clear n0_ n1_ n2_; (try clear hb); (try clear hb2); (try clear hk); (try clear hi)) | ((with_reducible refine gate_dst (N := 6) rfl ?_); refine bxe (N := 6) (cs := #[.int .i64 0, .int .i64 0, .int .i64 0]) (t := 66) ?_; intro gb307 hg w34 hbox hb; have n0_ := Aside0.mk (Kd.R_below (prR HO_3.out) hb); have n1_ := bkb BK300 hb; have n2_ := bst hb; have n3_ := Aside0.mk (hbox); have n4_ := (bsz hg : Aside0 (w.heap.size ≤ gb307)); have n5_ := n4_; have n6_ := (bkn BK300 hg : Aside0 (gb300 ≠ gb307)); have n7_ := Aside0.mk n6_.out.symm; clear HO_3; clear BK300; clear HB; have HO_3 := n0_; have BK300 := n1_; have HB := n2_; have BK307 := n3_; have GW307 := n4_; have GE307 := n5_; have NB300_307 := n6_; have NB307_300 := n7_; clear n0_ n1_ n2_ n3_ n4_ n5_ n6_ n7_; clear hb hbox hg; have hnb35 := NB307_300.out; have hnc35 := NB300_307.out; obtain ⟨hcz36_0, hcz36_1, hcz36_2, hfz36_0, hfz36_1, hfz36_2⟩ := bc3 BK307.out) | ((with_reducible refine gate_builtin (b := .append) (xs := #[.tmp 28, .tmp 31]) rfl ?_); at_builtin; refine Kd.R_append (Kd.int .i64) (w0 := w) w.heap.size rfl (.tmp 28) (.tmp 31) 53 2 (.int .i64 0) 8 rfl Try.underlying53 info2 rfl (by decide) (by omega) (.slice Ao32 x3_1.length co32) x3_1 t304 [.int .i64 t304] (fun _ => True) (fun _ => False) rfl (by first | (go_simp; done) | (go_simp; rfl)) ?aP (fun _ hk => hk.elim) ?aF ?aO ?aB ?aS ?aL ?_; (case aP => exact rfl); (case aB => exact hbm); (case aF => exact (fun _ _ => trivial)); (case aO => exact (by (with_reducible repeat (first | apply Kd.R_alloc | apply Kd.R_drewN | apply Kd.R_drew)); exact Kd.R_mono (Kd.R_far (p := ⟨gb307, 2, none⟩) (Kd.R_far (p := ⟨gb307, 1, none⟩) (Kd.R_far (p := ⟨gb307, 0, none⟩) (Kd.R_types HO_3.out BK307.out (by decide)) (fun _ hk => hk.2) (.int .i64 t304)) (fun _ hk => hk.2) (.int .i64 t305)) (fun _ hk => hk.2) (.int .i64 t306)) (fun _ hk => trivial))); (case aS => exact (below_size hbm)); (case aL => have := LMc11.out; omega); intro v309 w37 ho hb hg hat; rw [← Ny308.out] at ho; have n0_ := Aside0.mk (blk_grown (g := gb300) (o := .cells #[.int .i64 x301000_1, .int .i64 x301001_1, .int .i64 x301002_1, .int .i64 x301003_1, .slice none 0 0, .int .i64 x301005_1, .int .i64 x301006_1] 26 (0, 0)) (by (with_reducible repeat (first | apply blk_drewN | apply blk_drew | apply blk_alloc)); refine blk_far ?_ NB300_307.out _; (with_reducible repeat (first | apply blk_drewN | apply blk_drew | apply blk_alloc)); refine blk_far ?_ NB300_307.out _; (with_reducible repeat (first | apply blk_drewN | apply blk_drew | apply blk_alloc)); refine blk_far ?_ NB300_307.out _; (with_reducible repeat (first | apply blk_drewN | apply blk_drew | apply blk_alloc)); exact BK300.out) hg (Kd.R_ne HO_3.out BK300.out (by decide))); have n1_ := Aside0.mk (blk_grown (g := gb307) (o := .cells #[.int .i64 t304, .int .i64 t305, .int .i64 t306] 66 (0, 0)) (by (with_reducible repeat (first | apply blk_drewN | apply blk_drew | apply blk_alloc)); refine blk_put (cs := #[.int .i64 t304, .int .i64 t305, .int .i64 0]) ?_ 2 _ rfl; (with_reducible repeat (first | apply blk_drewN | apply blk_drew | apply blk_alloc)); refine blk_put (cs := #[.int .i64 t304, .int .i64 0, .int .i64 0]) ?_ 1 _ rfl; (with_reducible repeat (first | apply blk_drewN | apply blk_drew | apply blk_alloc)); refine blk_put (cs := #[.int .i64 0, .int .i64 0, .int .i64 0]) ?_ 0 _ rfl; (with_reducible repeat (first | apply blk_drewN | apply blk_drew | apply blk_alloc)); exact BK307.out) hg (Kd.R_ne HO_3.out BK307.out (by decide))); have n2_ := Aside0.mk (hb); have n3_ := Aside0.mk (ho); clear BK300; clear BK307; clear HB; clear HO_3; have BK300 := n0_; have BK307 := n1_; have HB := n2_; have HO310 := n3_; clear n0_ n1_ n2_ n3_; clear ho hb hg hat; obtain ⟨Ao38, co38, eo38⟩ := Kd.R_slice HO310.out; subst eo38; obtain ⟨hcz39_0, hcz39_1, hcz39_2, hfz39_0, hfz39_1, hfz39_2⟩ := bc3 BK307.out))
        go_roundg k1
        case measure => have := HK1.out; omega
        case rel => exact ⟨(y308), (t305), (x5_1), (x301000_1), (x301001_1), (x301002_1), (x301003_1), (x301005_1), (x301006_1), (by first | rfl | (simp; done) | (simp [*]; done)), (by first | rfl | (simp; done) | (simp [*]; done)), H', ⟨by have := HK1.out; omega⟩, ⟨by (with_reducible repeat (first | apply Kd.R_alloc | apply Kd.R_drewN | apply Kd.R_drew)); exact HO310.out⟩, ⟨by (with_reducible repeat (first | apply blk_drewN | apply blk_drew | apply blk_alloc)); exact BK300.out⟩, ⟨hbm⟩⟩
      ·
       rw [if_neg c11] at H
       exact absurd H (by simp)
     ·
      rw [if_neg c10] at H
      have c10b0 : (t306 == 0) = false := beq_eq_false_iff_ne.mpr c10
      have c10b1 : (t306 != 0) = true := bne_iff_ne.mpr c10
      simp only [Option.some.injEq, Prod.mk.injEq] at H
      obtain ⟨rfl, rfl, rfl, rfl, rfl, rfl, rfl⟩ := H
      obtain ⟨Ao40, co40, eo40⟩ := Kd.R_slice HO_3.out
      subst eo40
      go_wp2_with (first | ((with_reducible refine gate_callee (f := 24) rfl ?_); refine goesL_ (some 20) rfl rfl Try.func24 (by kernel_rfl) rfl #[.string a0, .int .i64 x4_1] rfl glm ?_; (with_reducible refine (impl_getNum.calls k1 a0 x4_1 t304 t305 t306 _ A9.out).mono ?_); rintro e w41 ⟨rfl, hb⟩; refine ⟨_, rfl, ?_⟩; have n0_ := Aside0.mk (Kd.R_below (prR HO_3.out) hb); have n1_ := bkb BK300 hb; have n2_ := bst hb; clear HO_3; clear BK300; clear HB; have HO_3 := n0_; have BK300 := n1_; have HB := n2_; clear n0_ n1_ n2_; (try clear hb); (try clear hb2); (try clear hk); (try clear hi)) | ((with_reducible refine gate_dst (N := 6) rfl ?_); refine bxe (N := 6) (cs := #[.int .i64 0, .int .i64 0, .int .i64 0]) (t := 66) ?_; intro gb307 hg w42 hbox hb; have n0_ := Aside0.mk (Kd.R_below (prR HO_3.out) hb); have n1_ := bkb BK300 hb; have n2_ := bst hb; have n3_ := Aside0.mk (hbox); have n4_ := (bsz hg : Aside0 (w.heap.size ≤ gb307)); have n5_ := n4_; have n6_ := (bkn BK300 hg : Aside0 (gb300 ≠ gb307)); have n7_ := Aside0.mk n6_.out.symm; clear HO_3; clear BK300; clear HB; have HO_3 := n0_; have BK300 := n1_; have HB := n2_; have BK307 := n3_; have GW307 := n4_; have GE307 := n5_; have NB300_307 := n6_; have NB307_300 := n7_; clear n0_ n1_ n2_ n3_ n4_ n5_ n6_ n7_; clear hb hbox hg; have hnb43 := NB307_300.out; have hnc43 := NB300_307.out; obtain ⟨hcz44_0, hcz44_1, hcz44_2, hfz44_0, hfz44_1, hfz44_2⟩ := bc3 BK307.out; obtain ⟨hcz45_0, hcz45_1, hcz45_2, hcz45_3, hcz45_4, hcz45_5, hcz45_6, hfz45_0, hfz45_1, hfz45_2, hfz45_3, hfz45_4, hfz45_5, hfz45_6⟩ := bc7 BK300.out))
      refine bodyPost_ret (results_cell_row rfl _ _ gb300 26 #[.int .i64 0, .int .i64 0, .int .i64 0, .int .i64 0, .slice none 0 0, .int .i64 x4_1, .int .i64 t306] (0, 0) _ rfl (by (with_reducible repeat (first | apply blk_drewN | apply blk_drew | apply blk_alloc)); refine blk_put (cs := #[.int .i64 0, .int .i64 0, .int .i64 0, .int .i64 0, .slice none 0 0, .int .i64 x4_1, .int .i64 x301006_1]) ?_ 6 _ rfl; (with_reducible repeat (first | apply blk_drewN | apply blk_drew | apply blk_alloc)); refine blk_put (cs := #[.int .i64 0, .int .i64 0, .int .i64 0, .int .i64 0, .slice none 0 0, .int .i64 x301005_1, .int .i64 x301006_1]) ?_ 5 _ rfl; (with_reducible repeat (first | apply blk_drewN | apply blk_drew | apply blk_alloc)); refine blk_put (cs := #[.int .i64 0, .int .i64 0, .int .i64 0, .int .i64 0, .slice none 0 0, .int .i64 x301005_1, .int .i64 x301006_1]) ?_ 4 _ rfl; (with_reducible repeat (first | apply blk_drewN | apply blk_drew | apply blk_alloc)); refine blk_put (cs := #[.int .i64 0, .int .i64 0, .int .i64 0, .int .i64 x301003_1, .slice none 0 0, .int .i64 x301005_1, .int .i64 x301006_1]) ?_ 3 _ rfl; (with_reducible repeat (first | apply blk_drewN | apply blk_drew | apply blk_alloc)); refine blk_put (cs := #[.int .i64 0, .int .i64 0, .int .i64 x301002_1, .int .i64 x301003_1, .slice none 0 0, .int .i64 x301005_1, .int .i64 x301006_1]) ?_ 2 _ rfl; (with_reducible repeat (first | apply blk_drewN | apply blk_drew | apply blk_alloc)); refine blk_put (cs := #[.int .i64 0, .int .i64 x301001_1, .int .i64 x301002_1, .int .i64 x301003_1, .slice none 0 0, .int .i64 x301005_1, .int .i64 x301006_1]) ?_ 1 _ rfl; (with_reducible repeat (first | apply blk_drewN | apply blk_drew | apply blk_alloc)); refine blk_put (cs := #[.int .i64 x301000_1, .int .i64 x301001_1, .int .i64 x301002_1, .int .i64 x301003_1, .slice none 0 0, .int .i64 x301005_1, .int .i64 x301006_1]) ?_ 0 _ rfl; (with_reducible repeat (first | apply blk_drewN | apply blk_drew | apply blk_alloc)); refine blk_far ?_ NB300_307.out _; (with_reducible repeat (first | apply blk_drewN | apply blk_drew | apply blk_alloc)); refine blk_far ?_ NB300_307.out _; (with_reducible repeat (first | apply blk_drewN | apply blk_drew | apply blk_alloc)); refine blk_far ?_ NB300_307.out _; (with_reducible repeat (first | apply blk_drewN | apply blk_drew | apply blk_alloc)); exact BK300.out) Try.underlying26 rfl (by kernel_rfl)) rfl ?_
      exact ⟨_, rfm, by first | exact Kd.R_nil _ _ _ _ _ | exact Kd.N_nil _ _ _ _ _ | exact Kd.V_nil _ _ _ _ _ | exact Kd.Q_nil _ _ _ _ _ | exact Kd.S_nil _ _ _ _ _, hbm⟩
    ·
     rw [if_neg c8] at H
     have c8b0 := decide_eq_false c8
     clear c8
     by_cases c46 : x4_1 < (a0.size : Int)
     ·
      rw [if_pos c46] at H
      have c46b0 := decide_eq_true c46
      clear c46
      simp only [Option.some.injEq, Prod.mk.injEq] at H
      obtain ⟨rfl, rfl, rfl, rfl, rfl, rfl, rfl⟩ := H
      obtain ⟨Ao47, co47, eo47⟩ := Kd.R_slice HO_3.out
      subst eo47
      obtain ⟨hcz48_0, hcz48_1, hcz48_2, hcz48_3, hcz48_4, hcz48_5, hcz48_6, hfz48_0, hfz48_1, hfz48_2, hfz48_3, hfz48_4, hfz48_5, hfz48_6⟩ := bc7 BK300.out
      go_wp2
      refine bodyPost_ret (results_cell_row rfl _ _ gb300 26 #[.int .i64 0, .int .i64 0, .int .i64 0, .int .i64 0, .slice none 0 0, .int .i64 x4_1, .int .i64 3] (0, 0) _ rfl (by (with_reducible repeat (first | apply blk_drewN | apply blk_drew | apply blk_alloc)); refine blk_put (cs := #[.int .i64 0, .int .i64 0, .int .i64 0, .int .i64 0, .slice none 0 0, .int .i64 x4_1, .int .i64 x301006_1]) ?_ 6 _ rfl; (with_reducible repeat (first | apply blk_drewN | apply blk_drew | apply blk_alloc)); refine blk_put (cs := #[.int .i64 0, .int .i64 0, .int .i64 0, .int .i64 0, .slice none 0 0, .int .i64 x301005_1, .int .i64 x301006_1]) ?_ 5 _ rfl; (with_reducible repeat (first | apply blk_drewN | apply blk_drew | apply blk_alloc)); refine blk_put (cs := #[.int .i64 0, .int .i64 0, .int .i64 0, .int .i64 0, .slice none 0 0, .int .i64 x301005_1, .int .i64 x301006_1]) ?_ 4 _ rfl; (with_reducible repeat (first | apply blk_drewN | apply blk_drew | apply blk_alloc)); refine blk_put (cs := #[.int .i64 0, .int .i64 0, .int .i64 0, .int .i64 x301003_1, .slice none 0 0, .int .i64 x301005_1, .int .i64 x301006_1]) ?_ 3 _ rfl; (with_reducible repeat (first | apply blk_drewN | apply blk_drew | apply blk_alloc)); refine blk_put (cs := #[.int .i64 0, .int .i64 0, .int .i64 x301002_1, .int .i64 x301003_1, .slice none 0 0, .int .i64 x301005_1, .int .i64 x301006_1]) ?_ 2 _ rfl; (with_reducible repeat (first | apply blk_drewN | apply blk_drew | apply blk_alloc)); refine blk_put (cs := #[.int .i64 0, .int .i64 x301001_1, .int .i64 x301002_1, .int .i64 x301003_1, .slice none 0 0, .int .i64 x301005_1, .int .i64 x301006_1]) ?_ 1 _ rfl; (with_reducible repeat (first | apply blk_drewN | apply blk_drew | apply blk_alloc)); refine blk_put (cs := #[.int .i64 x301000_1, .int .i64 x301001_1, .int .i64 x301002_1, .int .i64 x301003_1, .slice none 0 0, .int .i64 x301005_1, .int .i64 x301006_1]) ?_ 0 _ rfl; (with_reducible repeat (first | apply blk_drewN | apply blk_drew | apply blk_alloc)); exact BK300.out) Try.underlying26 rfl (by kernel_rfl)) rfl ?_
      exact ⟨_, rfm, by first | exact Kd.R_nil _ _ _ _ _ | exact Kd.N_nil _ _ _ _ _ | exact Kd.V_nil _ _ _ _ _ | exact Kd.Q_nil _ _ _ _ _ | exact Kd.S_nil _ _ _ _ _, hbm⟩
     ·
      rw [if_neg c46] at H
      have c46b0 := decide_eq_false c46
      clear c46
      by_cases c49 : 0 < (x3_1.length : Int)
      ·
       rw [if_pos c49] at H
       have c49b0 := decide_eq_true c49
       have c49b1 : decide (0 < x3_1.length) = true := decide_eq_true (by omega)
       clear c49
       by_cases c50 : 1 < (x3_1.length : Int)
       ·
        rw [if_pos c50] at H
        have c50b0 := decide_eq_true c50
        have c50b1 : decide (1 < x3_1.length) = true := decide_eq_true (by omega)
        clear c50
        by_cases c51 : 2 < (x3_1.length : Int)
        ·
         rw [if_pos c51] at H
         have c51b0 := decide_eq_true c51
         have c51b1 : decide (2 < x3_1.length) = true := decide_eq_true (by omega)
         clear c51
         by_cases c52 : 3 < (x3_1.length : Int)
         ·
          rw [if_pos c52] at H
          have c52b0 := decide_eq_true c52
          have c52b1 : decide (3 < x3_1.length) = true := decide_eq_true (by omega)
          clear c52
          have H' := Aside0.mk H
          clear H
          obtain ⟨Ao53, co53, eo53⟩ := Kd.R_slice HO_3.out
          subst eo53
          try go_wp2
          have n0_ := Aside0.mk (Kd.R_drew HO_3.out)
          have n1_ := Aside0.mk (blk_drew BK300.out)
          have n2_ := Aside0.mk (below_drew1 HB.out)
          clear HO_3
          clear BK300
          clear HB
          have HO_3 := n0_
          have BK300 := n1_
          have HB := n2_
          clear n0_ n1_ n2_
          have p312 : 0 ≤ (0 : Int) := (by omega)
          have q312 : 0 < (x3_1.length : Int) := of_decide_eq_true asm_
          obtain ⟨ad312, e312, hx312_0⟩ := Kd.at_int (Kd.R_reads' HO_3.out).2.2 0 p312 q312
          cases e312
          have qi312 : (0 < x3_1.length) = True := eq_true (by omega)
          (try rw [show ((0 : Int)).toNat = 0 from rfl] at hx312_0)
          (try rw [Addr.add_zero'] at hx312_0)
          replace p312 := eq_true p312
          replace q312 := eq_true q312
          have p313 : 0 ≤ (1 : Int) := (by omega)
          have q313 : 1 < (x3_1.length : Int) := of_decide_eq_true asm_
          obtain ⟨ad313, e313, hx313_0⟩ := Kd.at_int (Kd.R_reads' HO_3.out).2.2 1 p313 q313
          obtain rfl : ad312 = ad313 := (by injection e313)
          (try simp only [show (1 : Int).toNat = 1 from rfl, Nat.reduceMul, Nat.reduceEqDiff, Go.Addr.add, ↓reduceIte] at hx313_0)
          have qi313 : (1 < x3_1.length) = True := eq_true (by omega)
          (try rw [show ((1 : Int)).toNat = 1 from rfl] at hx313_0)
          replace p313 := eq_true p313
          replace q313 := eq_true q313
          have p314 : 0 ≤ (2 : Int) := (by omega)
          have q314 : 2 < (x3_1.length : Int) := of_decide_eq_true asm_
          obtain ⟨ad314, e314, hx314_0⟩ := Kd.at_int (Kd.R_reads' HO_3.out).2.2 2 p314 q314
          obtain rfl : ad312 = ad314 := (by injection e314)
          (try simp only [show (2 : Int).toNat = 2 from rfl, Nat.reduceMul, Nat.reduceEqDiff, Go.Addr.add, ↓reduceIte] at hx314_0)
          have qi314 : (2 < x3_1.length) = True := eq_true (by omega)
          (try rw [show ((2 : Int)).toNat = 2 from rfl] at hx314_0)
          replace p314 := eq_true p314
          replace q314 := eq_true q314
          have p315 : 0 ≤ (3 : Int) := (by omega)
          have q315 : 3 < (x3_1.length : Int) := of_decide_eq_true asm_
          obtain ⟨ad315, e315, hx315_0⟩ := Kd.at_int (Kd.R_reads' HO_3.out).2.2 3 p315 q315
          obtain rfl : ad312 = ad315 := (by injection e315)
          (try simp only [show (3 : Int).toNat = 3 from rfl, Nat.reduceMul, Nat.reduceEqDiff, Go.Addr.add, ↓reduceIte] at hx315_0)
          have qi315 : (3 < x3_1.length) = True := eq_true (by omega)
          (try rw [show ((3 : Int)).toNat = 3 from rfl] at hx315_0)
          replace p315 := eq_true p315
          replace q315 := eq_true q315
          refine start_ (n := 15) (S := fun w' => w'.cell? ad312 = some (.int .i64 (rd x3_1 0)) ∧ w'.cell? ⟨ad312.block, ad312.off + 1, none⟩ = some (.int .i64 (rd x3_1 1)) ∧ w'.cell? ⟨ad312.block, ad312.off + 2, none⟩ = some (.int .i64 (rd x3_1 2)) ∧ w'.cell? ⟨ad312.block, ad312.off + 3, none⟩ = some (.int .i64 (rd x3_1 3))) (ds := []) #[false, false, false, false, false, false, false, false, false, false, false, false, false, false, false] (by kernel_rfl) rfl rfl ⟨hx312_0, hx313_0, hx314_0, hx315_0⟩ (fun hHeld => ?_); refine with_tabW impl_ModuleRead.tab16 impl_ModuleRead.bits16 (fun HT_ HW_ => ?_)
          generalize wr.drew = w54 at HO_3 BK300 HB hx312_0 hx313_0 hx314_0 hx315_0 hHeld ⊢
          refine pur (i := 0) (N := some 55) #[true, false, false, false, false, false, false, false, false, false, false, false, false, false, false] (any_of HT_.out (by kernel_rfl)) ?_
          refine pur (i := 1) (N := some 56) #[true, true, false, false, false, false, false, false, false, false, false, false, false, false, false] (any_of HT_.out (by kernel_rfl)) ?_
          refine pur (i := 3) (N := some 58) #[true, true, false, true, false, false, false, false, false, false, false, false, false, false, false] (any_of HT_.out (by kernel_rfl)) ?_
          refine pur (i := 4) (N := some 59) #[true, true, false, true, true, false, false, false, false, false, false, false, false, false, false] (any_of HT_.out (by kernel_rfl)) ?_
          refine pur (i := 6) (N := some 61) #[true, true, false, true, true, false, true, false, false, false, false, false, false, false, false] (any_of HT_.out (by kernel_rfl)) ?_
          refine pur (i := 7) (N := some 62) #[true, true, false, true, true, false, true, true, false, false, false, false, false, false, false] (any_of HT_.out (by kernel_rfl)) ?_
          refine pur (i := 9) (N := some 64) #[true, true, false, true, true, false, true, true, false, true, false, false, false, false, false] (any_of HT_.out (by kernel_rfl)) ?_
          refine pur (i := 10) (N := some 65) #[true, true, false, true, true, false, true, true, false, true, true, false, false, false, false] (any_of HT_.out (by kernel_rfl)) ?_
          refine tak4 (i := 2) (N := some 57) #[true, true, true, true, true, false, true, true, false, true, true, false, false, false, false] (take_ofW HT_.out HW_.out (by kernel_rfl)) hHeld ?_
          refine tak4 (i := 5) (N := some 60) #[true, true, true, true, true, true, true, true, false, true, true, false, false, false, false] (take_ofW HT_.out HW_.out (by kernel_rfl)) hHeld ?_
          refine tak4 (i := 8) (N := some 63) #[true, true, true, true, true, true, true, true, true, true, true, false, false, false, false] (take_ofW HT_.out HW_.out (by kernel_rfl)) hHeld ?_
          refine tak4 (i := 11) (N := some 66) #[true, true, true, true, true, true, true, true, true, true, true, true, false, false, false] (take_ofW HT_.out HW_.out (by kernel_rfl)) hHeld ?_
          refine pur (i := 12) (N := some 67) #[true, true, true, true, true, true, true, true, true, true, true, true, true, false, false] (any_of HT_.out (by kernel_rfl)) ?_
          refine one_ (i := 13) (N := some 7) #[true, true, true, true, true, true, true, true, true, true, true, true, true, true, false] rfl rfl (one_of HT_.out (by kernel_rfl)) (by decide) (fun K hK => ?_)
          refine box_step ?hg (N := 7) ?hd (cs := #[.int .i64 0, .int .i64 0, .int .i64 0, .int .i64 0, .slice none 0 0]) (t := 24) ?hr ?_; (case hd => rfl); (case hg => rfl); (case hr => first | (go_simp; done) | (go_simp; rfl))
          intro gb316 hg w55 hbox hb
          have HS0_ := (hb.cell (World.block_lt_of_cell? _ _ (hHeld.1))).trans (hHeld.1)
          have HS1_ := (hb.cell (World.block_lt_of_cell? _ _ (hHeld.2.1))).trans (hHeld.2.1)
          have HS2_ := (hb.cell (World.block_lt_of_cell? _ _ (hHeld.2.2.1))).trans (hHeld.2.2.1)
          have HS3_ := (hb.cell (World.block_lt_of_cell? _ _ (hHeld.2.2.2))).trans (hHeld.2.2.2)
          have n0_ := Aside0.mk (Kd.R_below (prR HO_3.out) hb)
          have n1_ := bkb BK300 hb
          have n2_ := bst hb
          have n3_ := Aside0.mk (hbox)
          have n4_ := (bsz hg : Aside0 (w.heap.size ≤ gb316))
          have n5_ := (bsz hg : Aside0 (w.heap.size ≤ gb316))
          have n6_ := (bkn BK300 hg : Aside0 (gb300 ≠ gb316))
          have n7_ := Aside0.mk ((by rw [hg]; exact Nat.ne_of_gt (blk_lt (g := gb300) (o := .cells #[.int .i64 x301000_1, .int .i64 x301001_1, .int .i64 x301002_1, .int .i64 x301003_1, .slice none 0 0, .int .i64 x301005_1, .int .i64 x301006_1] 26 (0, 0)) (by (with_reducible repeat (first | apply blk_drewN | apply blk_drew | apply blk_alloc)); exact BK300.out)) : gb316 ≠ gb300))
          clear HO_3
          clear BK300
          clear HB
          have HO_3 := n0_
          have BK300 := n1_
          have HB := n2_
          have BK316 := n3_
          have GW316 := n4_
          have GE316 := n5_
          have NB300_316 := n6_
          have NB316_300 := n7_
          clear n0_ n1_ n2_ n3_ n4_ n5_ n6_ n7_
          clear hb hbox hg
          refine hK.out _ _ ⟨HS0_, HS1_, HS2_, HS3_⟩ (fun hHeld => ?_)
          clear hK K
          refine norm_ (a' := ?_) ?_ ?_
          rotate_left
          ·
           show Act.put _ (some 7) _ = _
           simp only [Act.put, List.setIfInBounds_toArray, List.set_cons_zero, List.set_cons_succ, i64_w, i32_w]
           rfl
          refine one_ (i := 14) (N := none) #[true, true, true, true, true, true, true, true, true, true, true, true, true, true, true] rfl rfl (one_of HT_.out (by kernel_rfl)) (by decide) (fun K hK => ?_)
          have hs56 : w55.cell? ⟨gb316, 0, none⟩ = some (.int .i64 0) := (blk_cell BK316.out 0).trans rfl
          have hfs56 := blk_frozen BK316.out 0
          have hns56_0 := NB300_316.out
          have hms56_0 := NB316_300.out
          have hs57 : w55.cell? ⟨gb316, 1, none⟩ = some (.int .i64 0) := (blk_cell BK316.out 1).trans rfl
          have hfs57 := blk_frozen BK316.out 1
          have hns57_0 := NB300_316.out
          have hms57_0 := NB316_300.out
          have hs58 : w55.cell? ⟨gb316, 2, none⟩ = some (.int .i64 0) := (blk_cell BK316.out 2).trans rfl
          have hfs58 := blk_frozen BK316.out 2
          have hns58_0 := NB300_316.out
          have hms58_0 := NB316_300.out
          have hs59 : w55.cell? ⟨gb316, 3, none⟩ = some (.int .i64 0) := (blk_cell BK316.out 3).trans rfl
          have hfs59 := blk_frozen BK316.out 3
          have hns59_0 := NB300_316.out
          have hms59_0 := NB316_300.out
          have hs60 : w55.cell? ⟨gb316, 4, none⟩ = some (.slice none 0 0) := (blk_cell BK316.out 4).trans rfl
          have hfs60 := blk_frozen BK316.out 4
          have hns60_0 := NB300_316.out
          have hms60_0 := NB316_300.out
          refine skip_ (w1 := ?_) (by rfl) rfl ?_ ?_
          rotate_left
          ·
           go_simp
           rfl
          refine hK.out _ _ ⟨((cell_far (p := ⟨gb316, _, none⟩) (by first | exact Kd.own_blk (Kd.R_ne HO_3.out BK316.out (by decide)) | (rw [add_block]; exact Kd.own_blk (Kd.R_ne HO_3.out BK316.out (by decide))) | (show (Addr.add _ _).block ≠ _; rw [add_block]; exact Kd.own_blk (Kd.R_ne HO_3.out BK316.out (by decide))) | (dsimp only; exact Kd.own_blk (Kd.R_ne HO_3.out BK316.out (by decide)))) _).trans (((cell_far (p := ⟨gb316, _, none⟩) (by first | exact Kd.own_blk (Kd.R_ne HO_3.out BK316.out (by decide)) | (rw [add_block]; exact Kd.own_blk (Kd.R_ne HO_3.out BK316.out (by decide))) | (show (Addr.add _ _).block ≠ _; rw [add_block]; exact Kd.own_blk (Kd.R_ne HO_3.out BK316.out (by decide))) | (dsimp only; exact Kd.own_blk (Kd.R_ne HO_3.out BK316.out (by decide)))) _).trans (((cell_far (p := ⟨gb316, _, none⟩) (by first | exact Kd.own_blk (Kd.R_ne HO_3.out BK316.out (by decide)) | (rw [add_block]; exact Kd.own_blk (Kd.R_ne HO_3.out BK316.out (by decide))) | (show (Addr.add _ _).block ≠ _; rw [add_block]; exact Kd.own_blk (Kd.R_ne HO_3.out BK316.out (by decide))) | (dsimp only; exact Kd.own_blk (Kd.R_ne HO_3.out BK316.out (by decide)))) _).trans (((cell_far (p := ⟨gb316, _, none⟩) (by first | exact Kd.own_blk (Kd.R_ne HO_3.out BK316.out (by decide)) | (rw [add_block]; exact Kd.own_blk (Kd.R_ne HO_3.out BK316.out (by decide))) | (show (Addr.add _ _).block ≠ _; rw [add_block]; exact Kd.own_blk (Kd.R_ne HO_3.out BK316.out (by decide))) | (dsimp only; exact Kd.own_blk (Kd.R_ne HO_3.out BK316.out (by decide)))) _).trans (((cell_far (p := ⟨gb316, _, none⟩) (by first | exact Kd.own_blk (Kd.R_ne HO_3.out BK316.out (by decide)) | (rw [add_block]; exact Kd.own_blk (Kd.R_ne HO_3.out BK316.out (by decide))) | (show (Addr.add _ _).block ≠ _; rw [add_block]; exact Kd.own_blk (Kd.R_ne HO_3.out BK316.out (by decide))) | (dsimp only; exact Kd.own_blk (Kd.R_ne HO_3.out BK316.out (by decide)))) _).trans (hHeld.1)))))))))), ((cell_far (p := ⟨gb316, _, none⟩) (by first | exact Kd.own_blk (Kd.R_ne HO_3.out BK316.out (by decide)) | (rw [add_block]; exact Kd.own_blk (Kd.R_ne HO_3.out BK316.out (by decide))) | (show (Addr.add _ _).block ≠ _; rw [add_block]; exact Kd.own_blk (Kd.R_ne HO_3.out BK316.out (by decide))) | (dsimp only; exact Kd.own_blk (Kd.R_ne HO_3.out BK316.out (by decide)))) _).trans (((cell_far (p := ⟨gb316, _, none⟩) (by first | exact Kd.own_blk (Kd.R_ne HO_3.out BK316.out (by decide)) | (rw [add_block]; exact Kd.own_blk (Kd.R_ne HO_3.out BK316.out (by decide))) | (show (Addr.add _ _).block ≠ _; rw [add_block]; exact Kd.own_blk (Kd.R_ne HO_3.out BK316.out (by decide))) | (dsimp only; exact Kd.own_blk (Kd.R_ne HO_3.out BK316.out (by decide)))) _).trans (((cell_far (p := ⟨gb316, _, none⟩) (by first | exact Kd.own_blk (Kd.R_ne HO_3.out BK316.out (by decide)) | (rw [add_block]; exact Kd.own_blk (Kd.R_ne HO_3.out BK316.out (by decide))) | (show (Addr.add _ _).block ≠ _; rw [add_block]; exact Kd.own_blk (Kd.R_ne HO_3.out BK316.out (by decide))) | (dsimp only; exact Kd.own_blk (Kd.R_ne HO_3.out BK316.out (by decide)))) _).trans (((cell_far (p := ⟨gb316, _, none⟩) (by first | exact Kd.own_blk (Kd.R_ne HO_3.out BK316.out (by decide)) | (rw [add_block]; exact Kd.own_blk (Kd.R_ne HO_3.out BK316.out (by decide))) | (show (Addr.add _ _).block ≠ _; rw [add_block]; exact Kd.own_blk (Kd.R_ne HO_3.out BK316.out (by decide))) | (dsimp only; exact Kd.own_blk (Kd.R_ne HO_3.out BK316.out (by decide)))) _).trans (((cell_far (p := ⟨gb316, _, none⟩) (by first | exact Kd.own_blk (Kd.R_ne HO_3.out BK316.out (by decide)) | (rw [add_block]; exact Kd.own_blk (Kd.R_ne HO_3.out BK316.out (by decide))) | (show (Addr.add _ _).block ≠ _; rw [add_block]; exact Kd.own_blk (Kd.R_ne HO_3.out BK316.out (by decide))) | (dsimp only; exact Kd.own_blk (Kd.R_ne HO_3.out BK316.out (by decide)))) _).trans (hHeld.2.1)))))))))), ((cell_far (p := ⟨gb316, _, none⟩) (by first | exact Kd.own_blk (Kd.R_ne HO_3.out BK316.out (by decide)) | (rw [add_block]; exact Kd.own_blk (Kd.R_ne HO_3.out BK316.out (by decide))) | (show (Addr.add _ _).block ≠ _; rw [add_block]; exact Kd.own_blk (Kd.R_ne HO_3.out BK316.out (by decide))) | (dsimp only; exact Kd.own_blk (Kd.R_ne HO_3.out BK316.out (by decide)))) _).trans (((cell_far (p := ⟨gb316, _, none⟩) (by first | exact Kd.own_blk (Kd.R_ne HO_3.out BK316.out (by decide)) | (rw [add_block]; exact Kd.own_blk (Kd.R_ne HO_3.out BK316.out (by decide))) | (show (Addr.add _ _).block ≠ _; rw [add_block]; exact Kd.own_blk (Kd.R_ne HO_3.out BK316.out (by decide))) | (dsimp only; exact Kd.own_blk (Kd.R_ne HO_3.out BK316.out (by decide)))) _).trans (((cell_far (p := ⟨gb316, _, none⟩) (by first | exact Kd.own_blk (Kd.R_ne HO_3.out BK316.out (by decide)) | (rw [add_block]; exact Kd.own_blk (Kd.R_ne HO_3.out BK316.out (by decide))) | (show (Addr.add _ _).block ≠ _; rw [add_block]; exact Kd.own_blk (Kd.R_ne HO_3.out BK316.out (by decide))) | (dsimp only; exact Kd.own_blk (Kd.R_ne HO_3.out BK316.out (by decide)))) _).trans (((cell_far (p := ⟨gb316, _, none⟩) (by first | exact Kd.own_blk (Kd.R_ne HO_3.out BK316.out (by decide)) | (rw [add_block]; exact Kd.own_blk (Kd.R_ne HO_3.out BK316.out (by decide))) | (show (Addr.add _ _).block ≠ _; rw [add_block]; exact Kd.own_blk (Kd.R_ne HO_3.out BK316.out (by decide))) | (dsimp only; exact Kd.own_blk (Kd.R_ne HO_3.out BK316.out (by decide)))) _).trans (((cell_far (p := ⟨gb316, _, none⟩) (by first | exact Kd.own_blk (Kd.R_ne HO_3.out BK316.out (by decide)) | (rw [add_block]; exact Kd.own_blk (Kd.R_ne HO_3.out BK316.out (by decide))) | (show (Addr.add _ _).block ≠ _; rw [add_block]; exact Kd.own_blk (Kd.R_ne HO_3.out BK316.out (by decide))) | (dsimp only; exact Kd.own_blk (Kd.R_ne HO_3.out BK316.out (by decide)))) _).trans (hHeld.2.2.1)))))))))), ((cell_far (p := ⟨gb316, _, none⟩) (by first | exact Kd.own_blk (Kd.R_ne HO_3.out BK316.out (by decide)) | (rw [add_block]; exact Kd.own_blk (Kd.R_ne HO_3.out BK316.out (by decide))) | (show (Addr.add _ _).block ≠ _; rw [add_block]; exact Kd.own_blk (Kd.R_ne HO_3.out BK316.out (by decide))) | (dsimp only; exact Kd.own_blk (Kd.R_ne HO_3.out BK316.out (by decide)))) _).trans (((cell_far (p := ⟨gb316, _, none⟩) (by first | exact Kd.own_blk (Kd.R_ne HO_3.out BK316.out (by decide)) | (rw [add_block]; exact Kd.own_blk (Kd.R_ne HO_3.out BK316.out (by decide))) | (show (Addr.add _ _).block ≠ _; rw [add_block]; exact Kd.own_blk (Kd.R_ne HO_3.out BK316.out (by decide))) | (dsimp only; exact Kd.own_blk (Kd.R_ne HO_3.out BK316.out (by decide)))) _).trans (((cell_far (p := ⟨gb316, _, none⟩) (by first | exact Kd.own_blk (Kd.R_ne HO_3.out BK316.out (by decide)) | (rw [add_block]; exact Kd.own_blk (Kd.R_ne HO_3.out BK316.out (by decide))) | (show (Addr.add _ _).block ≠ _; rw [add_block]; exact Kd.own_blk (Kd.R_ne HO_3.out BK316.out (by decide))) | (dsimp only; exact Kd.own_blk (Kd.R_ne HO_3.out BK316.out (by decide)))) _).trans (((cell_far (p := ⟨gb316, _, none⟩) (by first | exact Kd.own_blk (Kd.R_ne HO_3.out BK316.out (by decide)) | (rw [add_block]; exact Kd.own_blk (Kd.R_ne HO_3.out BK316.out (by decide))) | (show (Addr.add _ _).block ≠ _; rw [add_block]; exact Kd.own_blk (Kd.R_ne HO_3.out BK316.out (by decide))) | (dsimp only; exact Kd.own_blk (Kd.R_ne HO_3.out BK316.out (by decide)))) _).trans (((cell_far (p := ⟨gb316, _, none⟩) (by first | exact Kd.own_blk (Kd.R_ne HO_3.out BK316.out (by decide)) | (rw [add_block]; exact Kd.own_blk (Kd.R_ne HO_3.out BK316.out (by decide))) | (show (Addr.add _ _).block ≠ _; rw [add_block]; exact Kd.own_blk (Kd.R_ne HO_3.out BK316.out (by decide))) | (dsimp only; exact Kd.own_blk (Kd.R_ne HO_3.out BK316.out (by decide)))) _).trans (hHeld.2.2.2))))))))))⟩ (fun hHeld => ?_)
          clear hK K
          refine done_ (done_of HT_.out (by kernel_rfl)) ?_
          try go_wp2
          go_loopg [8] k1 (fun kq v8 w' => ∃ (x8_2 : Int) (x317004_2 : List (S64)) (u317004 : Value), v8 = .int .i64 x8_2 ∧ Aside0 (impl_ModuleRead.l1 kq x3_1 x5_1 x8_2 (rd x3_1 0) (rd x3_1 1) (rd x3_1 2) (rd x3_1 3) x317004_2 = some (r1, r2, r3, r4, r5, r6, r7)) ∧ Aside0 (kq ≤ k1) ∧ Aside0 (Kd.R (Kd.int .i64) 2 w' w.heap.size (fun _ => True) (.slice (some ad312) x3_1.length co53) x3_1) ∧ Aside0 (Kd.R k64 64 w' w.heap.size (fun _ => True) u317004 x317004_2) ∧ Aside0 (w'.heap[gb300]? = some (.cells #[.int .i64 x301000_1, .int .i64 x301001_1, .int .i64 x301002_1, .int .i64 x301003_1, (.slice none 0 0), .int .i64 x301005_1, .int .i64 x301006_1] 26 (0, 0))) ∧ Aside0 (w'.heap[gb316]? = some (.cells #[.int .i64 (rd x3_1 0), .int .i64 (rd x3_1 1), .int .i64 (rd x3_1 2), .int .i64 (rd x3_1 3), u317004] 24 (0, 0))) ∧ Aside0 (Below w.heap.size w w'))
          case atStart => exact ⟨(5), (([] : List (S64))), (.slice none 0 0), (by first | rfl | (simp; done) | (simp [*]; done)), H', ⟨Nat.le_refl _⟩, ⟨by (with_reducible repeat (first | apply Kd.R_alloc | apply Kd.R_drewN | apply Kd.R_drew)); exact Kd.R_mono (Kd.R_far (p := ⟨gb316, 4, none⟩) (Kd.R_far (p := ⟨gb316, 3, none⟩) (Kd.R_far (p := ⟨gb316, 2, none⟩) (Kd.R_far (p := ⟨gb316, 1, none⟩) (Kd.R_far (p := ⟨gb316, 0, none⟩) (Kd.R_types HO_3.out BK316.out (by decide)) (fun _ hk => hk.2) (.int .i64 (rd x3_1 0))) (fun _ hk => hk.2) (.int .i64 (rd x3_1 1))) (fun _ hk => hk.2) (.int .i64 (rd x3_1 2))) (fun _ hk => hk.2) (.int .i64 (rd x3_1 3))) (fun _ hk => hk.2) (.slice none 0 0)) (fun _ hk => trivial)⟩, ⟨by first | exact Kd.R_nil _ _ _ _ _ | exact Kd.N_nil _ _ _ _ _ | exact Kd.V_nil _ _ _ _ _ | exact Kd.Q_nil _ _ _ _ _ | exact Kd.S_nil _ _ _ _ _⟩, ⟨by (with_reducible repeat (first | apply blk_drewN | apply blk_drew | apply blk_alloc)); refine blk_far ?_ NB300_316.out _; (with_reducible repeat (first | apply blk_drewN | apply blk_drew | apply blk_alloc)); refine blk_far ?_ NB300_316.out _; (with_reducible repeat (first | apply blk_drewN | apply blk_drew | apply blk_alloc)); refine blk_far ?_ NB300_316.out _; (with_reducible repeat (first | apply blk_drewN | apply blk_drew | apply blk_alloc)); refine blk_far ?_ NB300_316.out _; (with_reducible repeat (first | apply blk_drewN | apply blk_drew | apply blk_alloc)); refine blk_far ?_ NB300_316.out _; (with_reducible repeat (first | apply blk_drewN | apply blk_drew | apply blk_alloc)); exact BK300.out⟩, ⟨by (with_reducible repeat (first | apply blk_drewN | apply blk_drew | apply blk_alloc)); refine blk_put (cs := #[.int .i64 (rd x3_1 0), .int .i64 (rd x3_1 1), .int .i64 (rd x3_1 2), .int .i64 (rd x3_1 3), .slice none 0 0]) ?_ 4 _ rfl; (with_reducible repeat (first | apply blk_drewN | apply blk_drew | apply blk_alloc)); refine blk_put (cs := #[.int .i64 (rd x3_1 0), .int .i64 (rd x3_1 1), .int .i64 (rd x3_1 2), .int .i64 0, .slice none 0 0]) ?_ 3 _ rfl; (with_reducible repeat (first | apply blk_drewN | apply blk_drew | apply blk_alloc)); refine blk_put (cs := #[.int .i64 (rd x3_1 0), .int .i64 (rd x3_1 1), .int .i64 0, .int .i64 0, .slice none 0 0]) ?_ 2 _ rfl; (with_reducible repeat (first | apply blk_drewN | apply blk_drew | apply blk_alloc)); refine blk_put (cs := #[.int .i64 (rd x3_1 0), .int .i64 0, .int .i64 0, .int .i64 0, .slice none 0 0]) ?_ 1 _ rfl; (with_reducible repeat (first | apply blk_drewN | apply blk_drew | apply blk_alloc)); refine blk_put (cs := #[.int .i64 0, .int .i64 0, .int .i64 0, .int .i64 0, .slice none 0 0]) ?_ 0 _ rfl; (with_reducible repeat (first | apply blk_drewN | apply blk_drew | apply blk_alloc)); exact BK316.out⟩, ⟨hbm⟩⟩
          case round =>
           clear H'
           try clear c1; try clear c2; try clear c2b0; try clear c2b1; try clear p2 p2; try clear c3; try clear p3; try clear q3; try clear hx3; try clear qi3; try clear c4; try clear c5; try clear p6; try clear c7; try clear c8; try clear c8b0; try clear c10; try clear c10b0; try clear c10b1; try clear c11; try clear c12; try clear c12b0; try clear c12b1; try clear c14; try clear c18; try clear c24; try clear c25; try clear c26; try clear p31; try clear q31; try clear hx31; try clear qi31; try clear c35; try clear c43; try clear c46; try clear c46b0; try clear c49; try clear c49b0; try clear c49b1; try clear c50; try clear c50b0; try clear c50b1; try clear c51; try clear c51b0; try clear c51b1; try clear c52; try clear c52b0; try clear c52b1; try clear hcz19_0 hcz19_1 hcz19_2 hfz19_0 hfz19_1 hfz19_2; try clear hcz22_0 hcz22_1 hcz22_2 hfz22_0 hfz22_1 hfz22_2; try clear hcz27_0 hcz27_1 hcz27_2 hfz27_0 hfz27_1 hfz27_2; try clear hcz30_0 hcz30_1 hcz30_2 hfz30_0 hfz30_1 hfz30_2; try clear hcz31_0 hcz31_1 hcz31_2 hcz31_3 hcz31_4 hcz31_5 hcz31_6 hfz31_0 hfz31_1 hfz31_2 hfz31_3 hfz31_4 hfz31_5 hfz31_6; try clear hcz36_0 hcz36_1 hcz36_2 hfz36_0 hfz36_1 hfz36_2; try clear hcz39_0 hcz39_1 hcz39_2 hfz39_0 hfz39_1 hfz39_2; try clear hcz44_0 hcz44_1 hcz44_2 hfz44_0 hfz44_1 hfz44_2; try clear hcz45_0 hcz45_1 hcz45_2 hcz45_3 hcz45_4 hcz45_5 hcz45_6 hfz45_0 hfz45_1 hfz45_2 hfz45_3 hfz45_4 hfz45_5 hfz45_6; try clear hcz48_0 hcz48_1 hcz48_2 hcz48_3 hcz48_4 hcz48_5 hcz48_6 hfz48_0 hfz48_1 hfz48_2 hfz48_3 hfz48_4 hfz48_5 hfz48_6; try clear hcz4_0 hcz4_1 hcz4_2 hcz4_3 hcz4_4 hcz4_5 hcz4_6 hfz4_0 hfz4_1 hfz4_2 hfz4_3 hfz4_4 hfz4_5 hfz4_6; try clear hx312_0; try clear hx313_0; try clear hx314_0; try clear hx315_0; try clear p312; try clear p313; try clear p314; try clear p315; try clear q312; try clear q313; try clear q314; try clear q315
           obtain ⟨x8_2, x317004_2, u317004, rfl, HA, HK2, HO_3, HO_317004, BK300, BK316, HB⟩ := hrel
           cases gk with
           | zero => exact absurd HA.out (by simp [impl_ModuleRead.l1])
           | succ k2 =>
            have H := HA.out
            clear HA
            simp only [impl_ModuleRead.l1] at H
            by_cases c61 : x8_2 < x5_1
            ·
             rw [if_pos c61] at H
             have c61b0 := decide_eq_true c61
             clear c61
             by_cases c62 : 0 ≤ x8_2
             ·
              rw [if_pos c62] at H
              have c62b0 := decide_eq_true c62
              clear c62
              by_cases c63 : x8_2 < (x3_1.length : Int)
              ·
               rw [if_pos c63] at H
               have c63b0 := decide_eq_true c63
               clear c63
               obtain ⟨ji64, hji64⟩ : ∃ j_ : Int, (wrap64 (x8_2 + 1)) = j_ := ⟨_, rfl⟩
               replace H : (if 0 ≤ (ji64) then (if (ji64) < (x3_1.length : Int) then (if 0 ≤ (wrap64 (x8_2 + 2)) then (if (wrap64 (x8_2 + 2)) < (x3_1.length : Int) then (if x317004_2.length < 5864062014805 then (impl_ModuleRead.l1 k2 x3_1 x5_1 (wrap64 (x8_2 + 3)) (rd x3_1 0) (rd x3_1 1) (rd x3_1 2) (rd x3_1 3) (x317004_2 ++ [(⟨rd x3_1 x8_2, rd x3_1 (ji64), rd x3_1 (wrap64 (x8_2 + 2))⟩ : S64)])) else (none)) else (none)) else (none)) else (none)) else (none)) = some (r1, r2, r3, r4, r5, r6, r7) := by first | (rw [hji64] at H; exact H) | (simp only [hji64] at H ⊢; exact H)
               have hji64w : (IntKind.i64.wrap (x8_2 + 1)) = ji64 := (i64_w _).trans hji64
               by_cases c65 : 0 ≤ (ji64)
               ·
                rw [if_pos c65] at H
                have c65b0 := decide_eq_true c65
                clear c65
                by_cases c66 : (ji64) < (x3_1.length : Int)
                ·
                 rw [if_pos c66] at H
                 have c66b0 := decide_eq_true c66
                 clear c66
                 obtain ⟨ji67, hji67⟩ : ∃ j_ : Int, (wrap64 (x8_2 + 2)) = j_ := ⟨_, rfl⟩
                 replace H : (if 0 ≤ (ji67) then (if (ji67) < (x3_1.length : Int) then (if x317004_2.length < 5864062014805 then (impl_ModuleRead.l1 k2 x3_1 x5_1 (wrap64 (x8_2 + 3)) (rd x3_1 0) (rd x3_1 1) (rd x3_1 2) (rd x3_1 3) (x317004_2 ++ [(⟨rd x3_1 x8_2, rd x3_1 (ji64), rd x3_1 (ji67)⟩ : S64)])) else (none)) else (none)) else (none)) = some (r1, r2, r3, r4, r5, r6, r7) := by first | (rw [hji67] at H; exact H) | (simp only [hji67] at H ⊢; exact H)
                 have hji67w : (IntKind.i64.wrap (x8_2 + 2)) = ji67 := (i64_w _).trans hji67
                 by_cases c68 : 0 ≤ (ji67)
                 ·
                  rw [if_pos c68] at H
                  have c68b0 := decide_eq_true c68
                  clear c68
                  by_cases c69 : (ji67) < (x3_1.length : Int)
                  ·
                   rw [if_pos c69] at H
                   have c69b0 := decide_eq_true c69
                   clear c69
                   by_cases c70 : x317004_2.length < 5864062014805
                   ·
                    rw [if_pos c70] at H
                    have LMc70 := Aside0.mk c70
                    clear c70
                    obtain ⟨y320, hy320⟩ : ∃ y_ : List (S64), y_ = (x317004_2 ++ [(⟨rd x3_1 x8_2, rd x3_1 (ji64), rd x3_1 (ji67)⟩ : S64)]) := ⟨_, rfl⟩
                    replace H : (impl_ModuleRead.l1 k2 x3_1 x5_1 (wrap64 (x8_2 + 3)) (rd x3_1 0) (rd x3_1 1) (rd x3_1 2) (rd x3_1 3) y320) = some (r1, r2, r3, r4, r5, r6, r7) := by first | (rw [hy320]; with_reducible exact H) | (have H2_ := (Option.bind_some _ _).symm.trans H; rw [hy320]; with_reducible exact H2_) | (have H2_ := (Option.bind_some _ _).symm.trans H; with_reducible exact H2_) | with_reducible exact H | (rw [hy320]; exact H) | exact H
                    have Ny320 := Aside0.mk hy320
                    clear hy320
                    have H' := Aside0.mk H
                    clear H
                    try go_wp2
                    have n0_ := Aside0.mk (Kd.R_drew HO_3.out)
                    have n1_ := Aside0.mk (Kd.R_drew HO_317004.out)
                    have n2_ := Aside0.mk (blk_drew BK300.out)
                    have n3_ := Aside0.mk (blk_drew BK316.out)
                    have n4_ := Aside0.mk (below_drew1 HB.out)
                    clear HO_3
                    clear HO_317004
                    clear BK300
                    clear BK316
                    clear HB
                    have HO_3 := n0_
                    have HO_317004 := n1_
                    have BK300 := n2_
                    have BK316 := n3_
                    have HB := n4_
                    clear n0_ n1_ n2_ n3_ n4_
                    have p317 : 0 ≤ (x8_2 : Int) := of_decide_eq_true asm_
                    have q317 : x8_2 < (x3_1.length : Int) := of_decide_eq_true asm_
                    obtain ⟨ad317, e317, hx317_0⟩ := Kd.at_int (Kd.R_reads' HO_3.out).2.2 x8_2 p317 q317
                    obtain rfl : ad312 = ad317 := (by injection e317)
                    replace p317 := eq_true p317
                    replace q317 := eq_true q317
                    have p318 : 0 ≤ ((ji64) : Int) := of_decide_eq_true asm_
                    have q318 : (ji64) < (x3_1.length : Int) := of_decide_eq_true asm_
                    obtain ⟨ad318, e318, hx318_0⟩ := Kd.at_int (Kd.R_reads' HO_3.out).2.2 (ji64) p318 q318
                    obtain rfl : ad312 = ad318 := (by injection e318)
                    replace p318 := eq_true p318
                    replace q318 := eq_true q318
                    have p319 : 0 ≤ ((ji67) : Int) := of_decide_eq_true asm_
                    have q319 : (ji67) < (x3_1.length : Int) := of_decide_eq_true asm_
                    obtain ⟨ad319, e319, hx319_0⟩ := Kd.at_int (Kd.R_reads' HO_3.out).2.2 (ji67) p319 q319
                    obtain rfl : ad312 = ad319 := (by injection e319)
                    replace p319 := eq_true p319
                    replace q319 := eq_true q319
                    refine start_ (n := 21) (S := fun w' => w'.cell? ⟨gb316, 0, none⟩ = some (.int .i64 (rd x3_1 0)) ∧ w'.cell? ⟨gb316, 1, none⟩ = some (.int .i64 (rd x3_1 1)) ∧ w'.cell? ⟨gb316, 2, none⟩ = some (.int .i64 (rd x3_1 2)) ∧ w'.cell? ⟨gb316, 3, none⟩ = some (.int .i64 (rd x3_1 3)) ∧ w'.cell? ⟨gb316, 4, none⟩ = some (u317004) ∧ w'.cell? (ad312.add (x8_2).toNat) = some (.int .i64 (rd x3_1 x8_2)) ∧ w'.cell? (ad312.add ((ji64)).toNat) = some (.int .i64 (rd x3_1 (ji64))) ∧ w'.cell? (ad312.add ((ji67)).toNat) = some (.int .i64 (rd x3_1 (ji67)))) (ds := [18, 20]) #[false, false, false, false, false, false, false, false, false, false, false, false, false, false, false, false, false, false, false, false, false] (by kernel_rfl) rfl rfl ⟨(blk_cell BK316.out 0).trans rfl, (blk_cell BK316.out 1).trans rfl, (blk_cell BK316.out 2).trans rfl, (blk_cell BK316.out 3).trans rfl, (blk_cell BK316.out 4).trans rfl, hx317_0, hx318_0, hx319_0⟩ (fun hHeld => ?_); refine with_tabW impl_ModuleRead.tab20 impl_ModuleRead.bits20 (fun HT_ HW_ => ?_)
                    generalize wr.drew = w71 at HO_3 HO_317004 BK300 BK316 HB hx317_0 hx318_0 hx319_0 hHeld ⊢
                    refine pur (i := 0) (N := some 73) #[true, false, false, false, false, false, false, false, false, false, false, false, false, false, false, false, false, false, false, false, false] (any_of HT_.out (by kernel_rfl)) ?_
                    refine pur (i := 2) (N := some 75) #[true, false, true, false, false, false, false, false, false, false, false, false, false, false, false, false, false, false, false, false, false] (any_of HT_.out (by kernel_rfl)) ?_
                    refine pur (i := 3) (N := some 76) #[true, false, true, true, false, false, false, false, false, false, false, false, false, false, false, false, false, false, false, false, false] (any_of HT_.out (by kernel_rfl)) ?_
                    refine pur (i := 4) (N := some 77) #[true, false, true, true, true, false, false, false, false, false, false, false, false, false, false, false, false, false, false, false, false] (any_of HT_.out (by kernel_rfl)) ?_
                    refine pur (i := 6) (N := some 79) #[true, false, true, true, true, false, true, false, false, false, false, false, false, false, false, false, false, false, false, false, false] (any_of HT_.out (by kernel_rfl)) ?_
                    refine pur (i := 7) (N := some 80) #[true, false, true, true, true, false, true, true, false, false, false, false, false, false, false, false, false, false, false, false, false] (any_of HT_.out (by kernel_rfl)) ?_
                    refine pur (i := 8) (N := some 81) #[true, false, true, true, true, false, true, true, true, false, false, false, false, false, false, false, false, false, false, false, false] (any_of HT_.out (by kernel_rfl)) ?_
                    refine pur (i := 9) (N := some 82) #[true, false, true, true, true, false, true, true, true, true, false, false, false, false, false, false, false, false, false, false, false] (any_of HT_.out (by kernel_rfl)) ?_
                    refine pur (i := 11) (N := some 84) #[true, false, true, true, true, false, true, true, true, true, false, true, false, false, false, false, false, false, false, false, false] (any_of HT_.out (by kernel_rfl)) ?_
                    refine pur (i := 12) (N := some 85) #[true, false, true, true, true, false, true, true, true, true, false, true, true, false, false, false, false, false, false, false, false] (any_of HT_.out (by kernel_rfl)) ?_
                    refine pur (i := 13) (N := some 86) #[true, false, true, true, true, false, true, true, true, true, false, true, true, true, false, false, false, false, false, false, false] (any_of HT_.out (by kernel_rfl)) ?_
                    refine pur (i := 14) (N := some 87) #[true, false, true, true, true, false, true, true, true, true, false, true, true, true, true, false, false, false, false, false, false] (any_of HT_.out (by kernel_rfl)) ?_
                    refine tak8 (i := 1) (N := some 74) #[true, true, true, true, true, false, true, true, true, true, false, true, true, true, true, false, false, false, false, false, false] (take_ofW HT_.out HW_.out (by kernel_rfl)) hHeld ?_
                    refine tak8 (i := 5) (N := some 78) #[true, true, true, true, true, true, true, true, true, true, false, true, true, true, true, false, false, false, false, false, false] (take_ofW HT_.out HW_.out (by kernel_rfl)) hHeld ?_
                    refine tak8 (i := 10) (N := some 83) #[true, true, true, true, true, true, true, true, true, true, true, true, true, true, true, false, false, false, false, false, false] (take_ofW HT_.out HW_.out (by kernel_rfl)) hHeld ?_
                    refine tak8 (i := 15) (N := some 88) #[true, true, true, true, true, true, true, true, true, true, true, true, true, true, true, true, false, false, false, false, false] (take_ofW HT_.out HW_.out (by kernel_rfl)) hHeld ?_
                    refine pur (i := 16) (N := some 89) #[true, true, true, true, true, true, true, true, true, true, true, true, true, true, true, true, true, false, false, false, false] (any_of HT_.out (by kernel_rfl)) ?_
                    refine one_ (i := 17) (N := some 90) #[true, true, true, true, true, true, true, true, true, true, true, true, true, true, true, true, true, true, false, false, false] rfl rfl (one_of HT_.out (by kernel_rfl)) (by decide) (fun K hK => ?_)
                    refine value_ (w1 := ?_) (v := ?_) (by rfl) rfl ?_ ?_
                    rotate_left 2
                    ·
                     go_simp
                     constructor
                     ·
                      rfl
                     ·
                      rfl
                    refine hK.out _ _ ⟨(blk_cell (blk_alloc BK316.out _) 0).trans rfl, (blk_cell (blk_alloc BK316.out _) 1).trans rfl, (blk_cell (blk_alloc BK316.out _) 2).trans rfl, (blk_cell (blk_alloc BK316.out _) 3).trans rfl, (blk_cell (blk_alloc BK316.out _) 4).trans rfl, (World.cell?_alloc_lt _ _ _ (World.block_lt_of_cell? _ _ (hHeld.2.2.2.2.2.1))).trans (hHeld.2.2.2.2.2.1), (World.cell?_alloc_lt _ _ _ (World.block_lt_of_cell? _ _ (hHeld.2.2.2.2.2.2.1))).trans (hHeld.2.2.2.2.2.2.1), (World.cell?_alloc_lt _ _ _ (World.block_lt_of_cell? _ _ (hHeld.2.2.2.2.2.2.2))).trans (hHeld.2.2.2.2.2.2.2)⟩ (fun hHeld => ?_)
                    clear hK K
                    refine norm_ (a' := ?_) ?_ ?_
                    rotate_left
                    ·
                     show Act.put _ (some 90) _ = _
                     simp only [Act.put, List.setIfInBounds_toArray, List.set_cons_zero, List.set_cons_succ, i64_w, i32_w]
                     rfl
                    refine last_ (i := 18) (N := some 91) #[true, true, true, true, true, true, true, true, true, true, true, true, true, true, true, true, true, true, true, false, false] rfl rfl (one_of HT_.out (by kernel_rfl)) (by decide) (fun K hK => ?_)
                    refine Kd.R_append_step k64 (w0 := w) w.heap.size (by rfl) (.tmp 74) (.tmp 90) 22 64 (.agg #[(.int .i64 0), (.int .i64 0), (.int .i64 0)]) 24 rfl Try.underlying22 info64 rfl (by decide) (by omega) u317004 x317004_2 (⟨rd x3_1 x8_2, rd x3_1 (ji64), rd x3_1 (ji67)⟩ : S64) [.int .i64 (rd x3_1 x8_2), .int .i64 (rd x3_1 (ji64)), .int .i64 (rd x3_1 (ji67))] (fun _ => True) (fun _ => False) rfl rfl ?aP (fun _ hk => hk.elim) ?aF ?aO ?aB ?aS ?aL ?_
                    (case aP => exact k64_mkM _ _ _ (⟨rd x3_1 x8_2, rd x3_1 (ji64), rd x3_1 (ji67)⟩ : S64))
                    (case aB => exact hbm)
                    (case aF => exact (fun _ _ => trivial))
                    (case aO => exact (prR HO_317004.out))
                    (case aS => exact (below_size hbm))
                    (case aL => have := LMc70.out; omega)
                    intro v321 w72 ho hb hg hat
                    rw [← Ny320.out] at ho
                    have n0_ := Aside0.mk (Kd.R_over' (prR HO_3.out) (Kd.R_typed (prR HO_317004.out)) (by decide) hg)
                    have n1_ := Aside0.mk (blk_grown (g := gb300) (o := .cells #[.int .i64 x301000_1, .int .i64 x301001_1, .int .i64 x301002_1, .int .i64 x301003_1, .slice none 0 0, .int .i64 x301005_1, .int .i64 x301006_1] 26 (0, 0)) (by (with_reducible repeat (first | apply blk_drewN | apply blk_drew | apply blk_alloc)); exact BK300.out) hg (Kd.R_ne HO_317004.out BK300.out (by decide)))
                    have n2_ := Aside0.mk (blk_grown (g := gb316) (o := .cells #[.int .i64 (rd x3_1 0), .int .i64 (rd x3_1 1), .int .i64 (rd x3_1 2), .int .i64 (rd x3_1 3), u317004] 24 (0, 0)) (by (with_reducible repeat (first | apply blk_drewN | apply blk_drew | apply blk_alloc)); exact BK316.out) hg (Kd.R_ne HO_317004.out BK316.out (by decide)))
                    have n3_ := Aside0.mk (hb)
                    have n4_ := Aside0.mk (ho)
                    clear HO_3
                    clear BK300
                    clear BK316
                    clear HB
                    clear HO_317004
                    have HO_3 := n0_
                    have BK300 := n1_
                    have BK316 := n2_
                    have HB := n3_
                    have HO322 := n4_
                    clear n0_ n1_ n2_ n3_ n4_
                    clear ho hb hg hat
                    obtain ⟨Ao73, co73, eo73⟩ := Kd.R_slice HO322.out
                    (first | subst eo73 | (injection eo73 with f1_ f2_ f3_; have f4_ := f1_.symm; have f5_ := f3_.symm; clear f1_ f2_ f3_; subst f4_; subst f5_))
                    refine hK.out _ _ ?_
                    clear hK K
                    refine norm_ (a' := ?_) ?_ ?_
                    rotate_left
                    ·
                     show Act.put _ (some 91) _ = _
                     simp only [Act.put, List.setIfInBounds_toArray, List.set_cons_zero, List.set_cons_succ, i64_w, i32_w]
                     rfl
                    refine pur (i := 19) (N := some 92) #[true, true, true, true, true, true, true, true, true, true, true, true, true, true, true, true, true, true, true, true, false] (any_of HT_.out (by kernel_rfl)) ?_
                    refine last_ (i := 20) (N := none) #[true, true, true, true, true, true, true, true, true, true, true, true, true, true, true, true, true, true, true, true, true] rfl rfl (one_of HT_.out (by kernel_rfl)) (by decide) (fun K hK => ?_)
                    have hs74 : w72.cell? ⟨gb316, 4, none⟩ = some (u317004) := (blk_cell BK316.out 4).trans rfl
                    have hfs74 := blk_frozen BK316.out 4
                    have hns74_0 := NB300_316.out
                    have hms74_0 := NB316_300.out
                    refine skip_ (w1 := ?_) (by rfl) rfl ?_ ?_
                    rotate_left
                    ·
                     go_simp
                     rfl
                    refine hK.out _ _ ?_
                    clear hK K
                    refine done_ (done_of HT_.out (by kernel_rfl)) ?_
                    try go_wp2
                    go_roundg k2
                    case measure => have := HK1.out; have := HK2.out; omega
                    case rel => exact ⟨(wrap64 (x8_2 + 3)), (y320), (.slice Ao73 y320.length co73), (by first | rfl | (simp; done) | (simp [*]; done)), H', ⟨by have := HK1.out; have := HK2.out; omega⟩, ⟨by (with_reducible repeat (first | apply Kd.R_alloc | apply Kd.R_drewN | apply Kd.R_drew)); exact Kd.R_mono (Kd.R_far (p := ⟨gb316, 4, none⟩) (Kd.R_types HO_3.out BK316.out (by decide)) (fun _ hk => hk.2) (.slice Ao73 y320.length co73)) (fun _ hk => trivial)⟩, ⟨by (with_reducible repeat (first | apply Kd.R_alloc | apply Kd.R_drewN | apply Kd.R_drew)); exact Kd.R_mono (Kd.R_far (p := ⟨gb316, 4, none⟩) (Kd.R_types HO322.out BK316.out (by decide)) (fun _ hk => hk.2) (.slice Ao73 y320.length co73)) (fun _ hk => trivial)⟩, ⟨by (with_reducible repeat (first | apply blk_drewN | apply blk_drew | apply blk_alloc)); refine blk_far ?_ NB300_316.out _; (with_reducible repeat (first | apply blk_drewN | apply blk_drew | apply blk_alloc)); exact BK300.out⟩, ⟨by (with_reducible repeat (first | apply blk_drewN | apply blk_drew | apply blk_alloc)); refine blk_put (cs := #[.int .i64 (rd x3_1 0), .int .i64 (rd x3_1 1), .int .i64 (rd x3_1 2), .int .i64 (rd x3_1 3), u317004]) ?_ 4 _ rfl; (with_reducible repeat (first | apply blk_drewN | apply blk_drew | apply blk_alloc)); exact BK316.out⟩, ⟨hbm⟩⟩
                   ·
                    rw [if_neg c70] at H
                    exact absurd H (by simp)
                  ·
                   rw [if_neg c69] at H
                   exact absurd H (by simp)
                 ·
                  rw [if_neg c68] at H
                  exact absurd H (by simp)
                ·
                 rw [if_neg c66] at H
                 exact absurd H (by simp)
               ·
                rw [if_neg c65] at H
                exact absurd H (by simp)
              ·
               rw [if_neg c63] at H
               exact absurd H (by simp)
             ·
              rw [if_neg c62] at H
              exact absurd H (by simp)
            ·
             rw [if_neg c61] at H
             have c61b0 := decide_eq_false c61
             clear c61
             replace H := Option.bind_eq_some_iff.mp H
             obtain ⟨t323, A750, H⟩ := H
             (try dsimp only at H)
             have A75 := Aside0.mk A750
             clear A750
             by_cases c76 : t323 = true
             ·
              subst c76
              have H1 : (some ((rd x3_1 0), (rd x3_1 1), (rd x3_1 2), (rd x3_1 3), x317004_2, 0, 0)) = some (r1, r2, r3, r4, r5, r6, r7) := by rw [if_pos rfl] at H; exact H
              clear H
              have H := H1
              clear H1
              simp only [Option.some.injEq, Prod.mk.injEq] at H
              obtain ⟨rfl, rfl, rfl, rfl, rfl, rfl, rfl⟩ := H
              have hnb77 := NB316_300.out
              have hnc77 := NB300_316.out
              obtain ⟨hcz78_0, hcz78_1, hcz78_2, hcz78_3, hcz78_4, hfz78_0, hfz78_1, hfz78_2, hfz78_3, hfz78_4⟩ := bc5 BK316.out
              obtain ⟨Ao79, co79, eo79⟩ := Kd.R_slice HO_317004.out
              subst eo79
              go_wp2_with (first | ((with_reducible refine gate_callee (f := 20) rfl ?_); refine goesL_ (some 94) rfl rfl Try.func20 (by kernel_rfl) rfl #[.agg #[.int .i64 (rd x3_1 0), .int .i64 (rd x3_1 1), .int .i64 (rd x3_1 2), .int .i64 (rd x3_1 3), .slice Ao79 x317004_2.length co79]] rfl glm ?_; (with_reducible refine (impl_ModuleRight.calls k2 (rd x3_1 0) (rd x3_1 1) (rd x3_1 2) (rd x3_1 3) _ _ x317004_2 true _ ?side1 ?side2 A75.out).mono ?_); (case side1 => repeat (first | exact (Kd.R_reads' HO_317004.out).2.2 | (with_reducible refine Kd.C_alloc ?_ _) | (with_reducible refine Kd.C_drewN ?_ _) | (with_reducible refine Kd.C_drew ?_))); (case side2 => exact (Kd.R_reads' HO_317004.out).2.1); rintro e w80 ⟨rfl, hb⟩; refine ⟨_, rfl, ?_⟩; have n0_ := Aside0.mk (Kd.R_below (prR HO_3.out) hb); have n1_ := Aside0.mk (Kd.R_below (prR HO_317004.out) hb); have n2_ := bkb BK300 hb; have n3_ := bkb BK316 hb; have n4_ := bst hb; clear HO_3; clear HO_317004; clear BK300; clear BK316; clear HB; have HO_3 := n0_; have HO_317004 := n1_; have BK300 := n2_; have BK316 := n3_; have HB := n4_; clear n0_ n1_ n2_ n3_ n4_; (try clear hb); (try clear hb2); (try clear hk); (try clear hi); obtain ⟨hcz81_0, hcz81_1, hcz81_2, hcz81_3, hcz81_4, hfz81_0, hfz81_1, hfz81_2, hfz81_3, hfz81_4⟩ := bc5 BK316.out; obtain ⟨hcz82_0, hcz82_1, hcz82_2, hcz82_3, hcz82_4, hcz82_5, hcz82_6, hfz82_0, hfz82_1, hfz82_2, hfz82_3, hfz82_4, hfz82_5, hfz82_6⟩ := bc7 BK300.out))
              refine bodyPost_ret (results_cell_row rfl _ _ gb300 26 #[.int .i64 (rd x3_1 0), .int .i64 (rd x3_1 1), .int .i64 (rd x3_1 2), .int .i64 (rd x3_1 3), .slice Ao79 x317004_2.length co79, .int .i64 0, .int .i64 0] (0, 0) _ rfl (by (with_reducible repeat (first | apply blk_drewN | apply blk_drew | apply blk_alloc)); refine blk_put (cs := #[.int .i64 (rd x3_1 0), .int .i64 (rd x3_1 1), .int .i64 (rd x3_1 2), .int .i64 (rd x3_1 3), .slice Ao79 x317004_2.length co79, .int .i64 0, .int .i64 x301006_1]) ?_ 6 _ rfl; (with_reducible repeat (first | apply blk_drewN | apply blk_drew | apply blk_alloc)); refine blk_put (cs := #[.int .i64 (rd x3_1 0), .int .i64 (rd x3_1 1), .int .i64 (rd x3_1 2), .int .i64 (rd x3_1 3), .slice Ao79 x317004_2.length co79, .int .i64 x301005_1, .int .i64 x301006_1]) ?_ 5 _ rfl; (with_reducible repeat (first | apply blk_drewN | apply blk_drew | apply blk_alloc)); refine blk_put (cs := #[.int .i64 (rd x3_1 0), .int .i64 (rd x3_1 1), .int .i64 (rd x3_1 2), .int .i64 (rd x3_1 3), .slice none 0 0, .int .i64 x301005_1, .int .i64 x301006_1]) ?_ 4 _ rfl; (with_reducible repeat (first | apply blk_drewN | apply blk_drew | apply blk_alloc)); refine blk_put (cs := #[.int .i64 (rd x3_1 0), .int .i64 (rd x3_1 1), .int .i64 (rd x3_1 2), .int .i64 x301003_1, .slice none 0 0, .int .i64 x301005_1, .int .i64 x301006_1]) ?_ 3 _ rfl; (with_reducible repeat (first | apply blk_drewN | apply blk_drew | apply blk_alloc)); refine blk_put (cs := #[.int .i64 (rd x3_1 0), .int .i64 (rd x3_1 1), .int .i64 x301002_1, .int .i64 x301003_1, .slice none 0 0, .int .i64 x301005_1, .int .i64 x301006_1]) ?_ 2 _ rfl; (with_reducible repeat (first | apply blk_drewN | apply blk_drew | apply blk_alloc)); refine blk_put (cs := #[.int .i64 (rd x3_1 0), .int .i64 x301001_1, .int .i64 x301002_1, .int .i64 x301003_1, .slice none 0 0, .int .i64 x301005_1, .int .i64 x301006_1]) ?_ 1 _ rfl; (with_reducible repeat (first | apply blk_drewN | apply blk_drew | apply blk_alloc)); refine blk_put (cs := #[.int .i64 x301000_1, .int .i64 x301001_1, .int .i64 x301002_1, .int .i64 x301003_1, .slice none 0 0, .int .i64 x301005_1, .int .i64 x301006_1]) ?_ 0 _ rfl; (with_reducible repeat (first | apply blk_drewN | apply blk_drew | apply blk_alloc)); exact BK300.out) Try.underlying26 rfl (by kernel_rfl)) rfl ?_
              exact ⟨_, rfm, by (with_reducible repeat (first | apply Kd.R_alloc | apply Kd.R_drewN | apply Kd.R_drew)); exact Kd.R_mono (Kd.R_far (p := ⟨gb300, 6, none⟩) (Kd.R_far (p := ⟨gb300, 5, none⟩) (Kd.R_far (p := ⟨gb300, 4, none⟩) (Kd.R_far (p := ⟨gb300, 3, none⟩) (Kd.R_far (p := ⟨gb300, 2, none⟩) (Kd.R_far (p := ⟨gb300, 1, none⟩) (Kd.R_far (p := ⟨gb300, 0, none⟩) (Kd.R_types HO_317004.out BK300.out (by decide)) (fun _ hk => hk.2) (.int .i64 (rd x3_1 0))) (fun _ hk => hk.2) (.int .i64 (rd x3_1 1))) (fun _ hk => hk.2) (.int .i64 (rd x3_1 2))) (fun _ hk => hk.2) (.int .i64 (rd x3_1 3))) (fun _ hk => hk.2) (.slice Ao79 x317004_2.length co79)) (fun _ hk => hk.2) (.int .i64 0)) (fun _ hk => hk.2) (.int .i64 0)) (fun _ hk => trivial), hbm⟩
             ·
              replace c76 := Bool.eq_false_iff.mpr c76
              subst c76
              have H1 : (some (0, 0, 0, 0, ([] : List (S64)), 0, 1)) = some (r1, r2, r3, r4, r5, r6, r7) := by rw [if_neg (show ¬ (false = true) by decide)] at H; exact H
              clear H
              have H := H1
              clear H1
              simp only [Option.some.injEq, Prod.mk.injEq] at H
              obtain ⟨rfl, rfl, rfl, rfl, rfl, rfl, rfl⟩ := H
              have hnb83 := NB316_300.out
              have hnc83 := NB300_316.out
              obtain ⟨hcz84_0, hcz84_1, hcz84_2, hcz84_3, hcz84_4, hfz84_0, hfz84_1, hfz84_2, hfz84_3, hfz84_4⟩ := bc5 BK316.out
              obtain ⟨Ao85, co85, eo85⟩ := Kd.R_slice HO_317004.out
              subst eo85
              go_wp2_with (first | ((with_reducible refine gate_callee (f := 20) rfl ?_); refine goesL_ (some 94) rfl rfl Try.func20 (by kernel_rfl) rfl #[.agg #[.int .i64 (rd x3_1 0), .int .i64 (rd x3_1 1), .int .i64 (rd x3_1 2), .int .i64 (rd x3_1 3), .slice Ao85 x317004_2.length co85]] rfl glm ?_; (with_reducible refine (impl_ModuleRight.calls k2 (rd x3_1 0) (rd x3_1 1) (rd x3_1 2) (rd x3_1 3) _ _ x317004_2 false _ ?side1 ?side2 A75.out).mono ?_); (case side1 => repeat (first | exact (Kd.R_reads' HO_317004.out).2.2 | (with_reducible refine Kd.C_alloc ?_ _) | (with_reducible refine Kd.C_drewN ?_ _) | (with_reducible refine Kd.C_drew ?_))); (case side2 => exact (Kd.R_reads' HO_317004.out).2.1); rintro e w86 ⟨rfl, hb⟩; refine ⟨_, rfl, ?_⟩; have n0_ := Aside0.mk (Kd.R_below (prR HO_3.out) hb); have n1_ := Aside0.mk (Kd.R_below (prR HO_317004.out) hb); have n2_ := bkb BK300 hb; have n3_ := bkb BK316 hb; have n4_ := bst hb; clear HO_3; clear HO_317004; clear BK300; clear BK316; clear HB; have HO_3 := n0_; have HO_317004 := n1_; have BK300 := n2_; have BK316 := n3_; have HB := n4_; clear n0_ n1_ n2_ n3_ n4_; (try clear hb); (try clear hb2); (try clear hk); (try clear hi); obtain ⟨hcz87_0, hcz87_1, hcz87_2, hcz87_3, hcz87_4, hcz87_5, hcz87_6, hfz87_0, hfz87_1, hfz87_2, hfz87_3, hfz87_4, hfz87_5, hfz87_6⟩ := bc7 BK300.out))
              refine bodyPost_ret (results_cell_row rfl _ _ gb300 26 #[.int .i64 0, .int .i64 0, .int .i64 0, .int .i64 0, .slice none 0 0, .int .i64 0, .int .i64 1] (0, 0) _ rfl (by (with_reducible repeat (first | apply blk_drewN | apply blk_drew | apply blk_alloc)); refine blk_put (cs := #[.int .i64 0, .int .i64 0, .int .i64 0, .int .i64 0, .slice none 0 0, .int .i64 0, .int .i64 x301006_1]) ?_ 6 _ rfl; (with_reducible repeat (first | apply blk_drewN | apply blk_drew | apply blk_alloc)); refine blk_put (cs := #[.int .i64 0, .int .i64 0, .int .i64 0, .int .i64 0, .slice none 0 0, .int .i64 x301005_1, .int .i64 x301006_1]) ?_ 5 _ rfl; (with_reducible repeat (first | apply blk_drewN | apply blk_drew | apply blk_alloc)); refine blk_put (cs := #[.int .i64 0, .int .i64 0, .int .i64 0, .int .i64 0, .slice none 0 0, .int .i64 x301005_1, .int .i64 x301006_1]) ?_ 4 _ rfl; (with_reducible repeat (first | apply blk_drewN | apply blk_drew | apply blk_alloc)); refine blk_put (cs := #[.int .i64 0, .int .i64 0, .int .i64 0, .int .i64 x301003_1, .slice none 0 0, .int .i64 x301005_1, .int .i64 x301006_1]) ?_ 3 _ rfl; (with_reducible repeat (first | apply blk_drewN | apply blk_drew | apply blk_alloc)); refine blk_put (cs := #[.int .i64 0, .int .i64 0, .int .i64 x301002_1, .int .i64 x301003_1, .slice none 0 0, .int .i64 x301005_1, .int .i64 x301006_1]) ?_ 2 _ rfl; (with_reducible repeat (first | apply blk_drewN | apply blk_drew | apply blk_alloc)); refine blk_put (cs := #[.int .i64 0, .int .i64 x301001_1, .int .i64 x301002_1, .int .i64 x301003_1, .slice none 0 0, .int .i64 x301005_1, .int .i64 x301006_1]) ?_ 1 _ rfl; (with_reducible repeat (first | apply blk_drewN | apply blk_drew | apply blk_alloc)); refine blk_put (cs := #[.int .i64 x301000_1, .int .i64 x301001_1, .int .i64 x301002_1, .int .i64 x301003_1, .slice none 0 0, .int .i64 x301005_1, .int .i64 x301006_1]) ?_ 0 _ rfl; (with_reducible repeat (first | apply blk_drewN | apply blk_drew | apply blk_alloc)); exact BK300.out) Try.underlying26 rfl (by kernel_rfl)) rfl ?_
              exact ⟨_, rfm, by first | exact Kd.R_nil _ _ _ _ _ | exact Kd.N_nil _ _ _ _ _ | exact Kd.V_nil _ _ _ _ _ | exact Kd.Q_nil _ _ _ _ _ | exact Kd.S_nil _ _ _ _ _, hbm⟩
         ·
          rw [if_neg c52] at H
          exact absurd H (by simp)
        ·
         rw [if_neg c51] at H
         exact absurd H (by simp)
       ·
        rw [if_neg c50] at H
        exact absurd H (by simp)
      ·
       rw [if_neg c49] at H
       exact absurd H (by simp)

end Go.Proofs.Ytidlcolgiololaa.S
